/- C: part 6 of an engine (a symbolic evaluator, proved against the model) and of the walk by it. -/
import Derived.Test.YtdfjhgjefkkkbaaGreatC5
set_option linter.unusedVariables false
set_option linter.unusedSimpArgs false
set_option maxRecDepth 100000
set_option maxHeartbeats 0
section
namespace Go.Tk
open IntKind (i64 u8 u32 u64 wrap)
variable {g':Nat->List AV}
noncomputable def QE:Zb:=G0.withP 112 Z3L
theorem X9:QE.Ok:=Zb.withP_ok Zm Z1w
def rtK (ok:Bool):KO:=fun o _=>match o with
 | .ret (.bool b)=>b=ok
 | _=>False
theorem Zmr (s:Zi) (ok:Bool) (hl:s.Len) (hok:ok=true↔Zp s 1):
  evF QE 40 126 [.agg (.int .i64 1::s.r)] ⟨0,[]⟩ (rtK ok):=by
 refine @Eq.mpr _ (let k:=s.nxt;let p:=k=k;let h:=s.point;let u:=h=h;let f:=s.amount;let z:=decide (f=f);let e:=s.reserve;let D:=decide (e=e);let b:=s.t;let a:=b.fund;let j:=b.index;let g:=b.cap;let r:=b.dust;let i:=b.fee;let q:=b.delay;let d:=b.k0;let c:=b.k1;let y:=s.key;let x:=s.hash;let w:=s.tag;let v:=s.secret;let o:=s.id;let n:=s.number;let m:=s.index;let l:=s.expiry;let C:=s.code;let B:=s.route;let A:=d.length;let E:=Zj.mk a j g r i q d (List.set d 0 (wrap u8 (List.getD d 0 0+1)));
 p/\
 u/\
 Z6 z (Z6 D (p/\
 u/\
 Z6 z (p/\
 u/\
 p/\
 a=a/\
 Z7 (j=j) (Z7 (g=g) (Z7 (r=r) (Z7 (i=i) (Z7 (q=q) (d=d/\
 c=c/\
 Z6 D (Z6 z (u/\
 p/\
 y=y/\
 x=x/\
 w=w/\
 v=v/\
 Z7 (o=o) (Z7 (n=n) (Z7 (m=m) (Z7 (l=l) (Z7 (C=C) (B=B/\
 Z7 (a.length=32/\a.length=32) (Z7 (A=32/\A=32) (Z7 (c.length=32/\c.length=32) (Z7 (h.length=32/\h.length=32) (Z7 (k.length=32/\k.length=32) (Z7 (y.length=32/\(32:Nat)=32) (Z7 (x.length=32/\(32:Nat)=32) (Z7 (w.length=32/\(32:Nat)=32) (Z7 (v.length=32/\(32:Nat)=32) (Z5 (!(true&&(a==a&&(j==j&&(g==g&&(r==r&&(i==i&&(q==q&&(d==d&&c==c))))))&&(e==e&&(f==f&&(h==h&&(k==k&&(y==Z0&&(x==Z0&&(w==Z0&&(v==Z0&&(o==0&&(n==0&&(m==0&&(l==0&&(C==0&&ByteArray.toList B==ByteArray.toList ByteArray.empty)))))))))))))))) (false=ok) (Z5 (decide (o>=0)) (Z5 (!decide (o<=2147483647)) (false=ok) (Z5 (decide (n>=0)) (Z5 (!decide (n<=2147483647)) (false=ok) (Z5 (decide (m>=0)) (Z5 (!decide (m<=2147483647)) (false=ok) (Z5 (decide (l>=0)) (Z5 (!decide (l<=2147483647)) (false=ok) (Z5 (decide (f>=0)) (Z5 (!decide (f<=1125899906842624)) (false=ok) (Z7 (u8=u8/\(0:Nat)<32/\0<A) (Z7 (a.length=32/\(32:Nat)=32) (Z5 (a==Z0) (Z5 (j==0) (Z7 (c.length=32/\(32:Nat)=32) (Z5 (c==Z0) (Zj.Ok E/\Z5 (Yi E) (Z5 (decide (e>=0)) (Z5 (decide (e<=wrap i64 (Int.tdiv g 10))) (decide (f<=wrap i64 (wrap i64 (g-i)-e))=ok) (false=ok)) (false=ok)) (false=ok)) (false=ok))) (false=ok)) (false=ok))))) (false=ok))) (false=ok))) (false=ok))) (false=ok))) (false=ok))))))))))))))))))))))))))) (by kernel_rfl) ?_
 conv=>zeta
 try simp only [vcA]
 try simp only [vcB]
 try simp only [vcC]
 obtain ⟨h0,h1,h2,h3,h4,h5,h6,h7,h8,hb⟩:=hl
 have hOk:(W2 s.t).Ok:=⟨h1,by show (List.set _ _ _).length=32;rw [JW];exact h1,hb,Z55 hb 0 (Z94 _)⟩
 have hd:Yi (W2 s.t)=true->(1000<=s.t.cap/\s.t.cap<=1125899906842624)/\(0<=s.t.fee/\s.t.fee<=400):=fun h=>by
  unfold Yi W2 at h
  simp only [J2,decide_eq_true_eq] at h
  obtain ⟨⟨⟨⟨⟨_,g2⟩,_⟩,g4⟩,_⟩,_⟩:=h
  exact ⟨g2,g4⟩
 have htd:Yi (W2 s.t)=true->0<=s.t.cap.tdiv 10/\s.t.cap.tdiv 10<=s.t.cap:=fun h=>by
  have:=hd h
  rw [JI (by omega)]
  omega
 have hw1:Yi (W2 s.t)=true->i64.wrap (s.t.cap.tdiv 10)=s.t.cap.tdiv 10:=fun h=>by
  have:=hd h
  have:=htd h
  exact w64 (by omega)
 have hw2:Yi (W2 s.t)=true->0<=s.reserve->s.reserve<=s.t.cap.tdiv 10->i64.wrap (i64.wrap (s.t.cap-s.t.fee)-s.reserve)=s.t.cap-s.t.fee-s.reserve:=fun h g1 g2=>by
  have:=hd h
  have:=htd h
  rw [w64 (x:=s.t.cap-s.t.fee) (by omega)]
  exact w64 (by omega)
 have hI:Zis (nmd 1) s=true↔((s.t.fund==Z0)=true/\(s.t.index==0)=true/\(s.t.k1==Z0)=true)/\(s.key==Z0&&(s.hash==Z0&&(s.tag==Z0&&(s.secret==Z0&&(s.id==0&&(s.number==0&&(s.index==0&&(s.expiry==0&&(s.code==0&&ByteArray.toList s.route==ByteArray.toList ByteArray.empty)))))))))=true:=by
  show (true&&((s.t.fund==Z0)&&((s.t.index==0)&&(true&&(true&&(true&&(true&&(true&&(s.t.k1==Z0))))))))&&(true&&(true&&(true&&(true&&(s.key==Z0&&(s.hash==Z0&&(s.tag==Z0&&(s.secret==Z0&&(s.id==0&&(s.number==0&&(s.index==0&&(s.expiry==0&&(s.code==0&&ByteArray.toList s.route==ByteArray.toList ByteArray.empty))))))))))))))=true↔_
  simp only [Kk,J2,and_assoc]
 have hT:Zj.mk s.t.fund s.t.index s.t.cap s.t.dust s.t.fee s.t.delay s.t.k0 (List.set s.t.k0 0 (wrap u8 (List.getD s.t.k0 0 0+1)))=W2 s.t:=rfl
 cases ok with
 | true=>
  obtain ⟨⟨w0,w1,w2,w3,w4,w5,w6,w7,w8,w9⟩,hr,hk⟩:=hok.1 rfl
  have hk:Z3M s:=hk
  obtain ⟨k1,k2,k3,k4⟩:=hk
  have e1:=hw1 k1
  have e2:=hw2 k1 k2 k3
  obtain ⟨⟨f0,f1,f7⟩,hR⟩:=hI.1 hr
  simp only [h0,h1,h2,h3,h4,h5,h6,h7,h8,and_self,beq_self_eq_true,decide_true,true_and,forall_const,J5,J8,decide_eq_true_eq,decide_eq_false_iff_not,Je,Jf,reduceCtorEq,false_implies,imp_false,and_true,implies_true,hT,e1,e2]
  repeat' first
   | exact hOk
   | trivial
   | apply J9
   | intro
  all_goals first
   | omega
   | (exfalso;omega)
   | (rename_i hq;exact absurd (f0.symm.trans hq) (by decide))
   | (rename_i hq;exact absurd (f1.symm.trans hq) (by decide))
   | (rename_i hq;exact absurd (f7.symm.trans hq) (by decide))
   | (rename_i hq;exact absurd (k1.symm.trans hq) (by decide))
   | (rename_i hq;exact absurd (hR.symm.trans hq) (by decide))
 | false=>
  have hn:¬Zp s 1:=fun h=>absurd (hok.2 h) (by decide)
  simp only [h0,h1,h2,h3,h4,h5,h6,h7,h8,and_self,beq_self_eq_true,decide_true,true_and,forall_const,J5,J8,decide_eq_true_eq,decide_eq_false_iff_not,Je,Jf,reduceCtorEq,false_implies,imp_false,and_true,implies_true,hT]
  repeat' first
   | exact hOk
   | trivial
   | apply J9
   | intro
  refine Je.1 fun hq4=> ?_
  rename_i hB _ _ _ _ _ _ _ _ _ _ f0 f1 f7 k1 g1 hq3
  have e1:=hw1 k1
  rw [e1] at hq3
  have e2:=hw2 k1 g1 hq3
  rw [e2] at hq4
  exact hn (Zp.mk ⟨by omega,by omega,by omega,by omega,by omega,by omega,by omega,by omega,by omega,by omega⟩ (hI.2 ⟨⟨f0,f1,f7⟩,hB⟩) (show kindOk s 1 from Z3M.mk k1 g1 hq3 hq4))
theorem Zms (s:Zi) (ok:Bool) (hl:s.Len) (hok:ok=true↔Zp s 2):
  evF QE 40 126 [.agg (.int .i64 2::s.r)] ⟨0,[]⟩ (rtK ok):=by
 refine @Eq.mpr _ (let d:=s.nxt;let w:=d=d;let b:=s.point;let A:=b=b;let a:=s.t;let j:=a.fund;let r:=a.index;let q:=a.cap;let p:=a.dust;let z:=a.fee;let y:=a.delay;let o:=a.k0;let n:=a.k1;let x:=s.reserve;let i:=s.amount;let c:=s.key;let m:=s.hash;let l:=s.tag;let k:=s.secret;let h:=s.id;let g:=s.number;let f:=s.index;let e:=s.expiry;let v:=s.code;let u:=s.route;
 w/\
 A/\
 w/\
 j=j/\
 Z7 (r=r) (Z7 (q=q) (Z7 (p=p) (Z7 (z=z) (Z7 (y=y) (o=o/\
 n=n/\
 Z7 (x=x) (Z7 (i=i) (A/\
 w/\
 c=c/\
 m=m/\
 l=l/\
 k=k/\
 Z7 (h=h) (Z7 (g=g) (Z7 (f=f) (Z7 (e=e) (Z7 (v=v) (u=u/\
 Z7 (j.length=32/\(32:Nat)=32) (Z7 (o.length=32/\(32:Nat)=32) (Z7 (n.length=32/\(32:Nat)=32) (Z7 (b.length=32/\b.length=32) (Z7 (d.length=32/\d.length=32) (Z7 (c.length=32/\c.length=32) (Z7 (m.length=32/\(32:Nat)=32) (Z7 (l.length=32/\(32:Nat)=32) (Z7 (k.length=32/\(32:Nat)=32) (Z5 (!(true&&(j==Z0&&(r==0&&(q==0&&(p==0&&(z==0&&(y==0&&(o==Z0&&n==Z0))))))&&(x==0&&(i==0&&(b==b&&(d==d&&(c==c&&(m==Z0&&(l==Z0&&(k==Z0&&(h==0&&(g==0&&(f==0&&(e==0&&(v==0&&ByteArray.toList u==ByteArray.toList ByteArray.empty)))))))))))))))) (false=ok) (Z5 (decide (h>=0)) (Z5 (!decide (h<=2147483647)) (false=ok) (Z5 (decide (g>=0)) (Z5 (!decide (g<=2147483647)) (false=ok) (Z5 (decide (f>=0)) (Z5 (!decide (f<=2147483647)) (false=ok) (Z5 (decide (e>=0)) (Z5 (!decide (e<=2147483647)) (false=ok) (Z5 (decide (i>=0)) (Z5 (!decide (i<=1125899906842624)) (false=ok) (true=ok)) (false=ok))) (false=ok))) (false=ok))) (false=ok))) (false=ok)))))))))))))))))))))))) (by kernel_rfl) ?_
 conv=>zeta
 try simp only [vcA]
 try simp only [vcB]
 try simp only [vcC]
 obtain ⟨h0,h1,h2,h3,h4,h5,h6,h7,h8,hb⟩:=hl
 cases ok with
 | true=>
  obtain ⟨⟨w0,w1,w2,w3,w4,w5,w6,w7,w8,w9⟩,hr,hk⟩:=hok.1 rfl
  have hk':=hk
  simp only [kindOk] at hk
  simp only [h0,h1,h2,h3,h4,h5,h6,h7,h8,and_self,beq_self_eq_true,decide_true,true_and,forall_const,J5,J8,decide_eq_true_eq,decide_eq_false_iff_not,Je,Jf,reduceCtorEq,false_implies,imp_false,and_true,implies_true]
  repeat' first
   | trivial
   | apply J9
   | intro
  all_goals first
   | omega
   | (exfalso;omega)
   | (rename_i hq;exact absurd (hr.symm.trans hq) (by decide))
   | (rename_i hq _;exact absurd (hr.symm.trans hq) (by decide))
   | (rename_i hq _ _;exact absurd (hr.symm.trans hq) (by decide))
 | false=>
  have hn:¬Zp s 2:=fun h=>absurd (hok.2 h) (by decide)
  simp only [h0,h1,h2,h3,h4,h5,h6,h7,h8,and_self,beq_self_eq_true,decide_true,true_and,forall_const,J5,J8,decide_eq_true_eq,decide_eq_false_iff_not,Je,Jf,reduceCtorEq,false_implies,imp_false,and_true,implies_true]
  repeat' first
   | trivial
   | apply J9
   | intro
  all_goals first
   | refine Jf.1 fun hq=> ?_
   | refine Je.1 fun hq=> ?_
   | skip
  all_goals first
   | exact absurd (Zp.mk ⟨by omega,by omega,by omega,by omega,by omega,by omega,by omega,by omega,by omega,by omega⟩ (by assumption) (by simp only [kindOk]<;>omega)) hn
   | exact absurd (Zp.mk ⟨by omega,by omega,by omega,by omega,by omega,by omega,by omega,by omega,by omega,by omega⟩ (by assumption) trivial) hn
theorem Zmt (s:Zi) (ok:Bool) (hl:s.Len) (hok:ok=true↔Zp s 3):
  evF QE 40 126 [.agg (.int .i64 3::s.r)] ⟨0,[]⟩ (rtK ok):=by
 refine @Eq.mpr _ (let d:=s.tag;let w:=d=d;let b:=s.index;let A:=decide (b=b);let a:=s.t;let i:=a.fund;let r:=a.index;let q:=a.cap;let p:=a.dust;let z:=a.fee;let y:=a.delay;let o:=a.k0;let n:=a.k1;let x:=s.reserve;let h:=s.amount;let m:=s.point;let l:=s.nxt;let k:=s.key;let c:=s.hash;let j:=s.secret;let g:=s.id;let f:=s.number;let e:=s.expiry;let v:=s.code;let u:=s.route;
 w/\
 Z6 A (w/\
 i=i/\
 Z7 (r=r) (Z7 (q=q) (Z7 (p=p) (Z7 (z=z) (Z7 (y=y) (o=o/\
 n=n/\
 Z7 (x=x) (Z7 (h=h) (m=m/\
 l=l/\
 k=k/\
 c=c/\
 w/\
 j=j/\
 Z7 (g=g) (Z7 (f=f) (Z6 A (Z7 (e=e) (Z7 (v=v) (u=u/\
 Z7 (i.length=32/\(32:Nat)=32) (Z7 (o.length=32/\(32:Nat)=32) (Z7 (n.length=32/\(32:Nat)=32) (Z7 (m.length=32/\(32:Nat)=32) (Z7 (l.length=32/\(32:Nat)=32) (Z7 (k.length=32/\(32:Nat)=32) (Z7 (c.length=32/\c.length=32) (Z7 (d.length=32/\d.length=32) (Z7 (j.length=32/\(32:Nat)=32) (Z5 (!(true&&(i==Z0&&(r==0&&(q==0&&(p==0&&(z==0&&(y==0&&(o==Z0&&n==Z0))))))&&(x==0&&(h==0&&(m==Z0&&(l==Z0&&(k==Z0&&(c==c&&(d==d&&(j==Z0&&(g==0&&(f==0&&(b==b&&(e==0&&(v==0&&ByteArray.toList u==ByteArray.toList ByteArray.empty)))))))))))))))) (false=ok) (Z5 (decide (g>=0)) (Z5 (!decide (g<=2147483647)) (false=ok) (Z5 (decide (f>=0)) (Z5 (!decide (f<=2147483647)) (false=ok) (Z5 (decide (b>=0)) (Z5 (!decide (b<=2147483647)) (false=ok) (Z5 (decide (e>=0)) (Z5 (!decide (e<=2147483647)) (false=ok) (Z5 (decide (h>=0)) (Z5 (!decide (h<=1125899906842624)) (false=ok) (decide (b<24)=ok)) (false=ok))) (false=ok))) (false=ok))) (false=ok))) (false=ok))))))))))))))))))))))))) (by kernel_rfl) ?_
 conv=>zeta
 try simp only [vcA]
 try simp only [vcB]
 try simp only [vcC]
 obtain ⟨h0,h1,h2,h3,h4,h5,h6,h7,h8,hb⟩:=hl
 cases ok with
 | true=>
  obtain ⟨⟨w0,w1,w2,w3,w4,w5,w6,w7,w8,w9⟩,hr,hk⟩:=hok.1 rfl
  have hk':=hk
  simp only [kindOk] at hk
  simp only [h0,h1,h2,h3,h4,h5,h6,h7,h8,and_self,beq_self_eq_true,decide_true,true_and,forall_const,J5,J8,decide_eq_true_eq,decide_eq_false_iff_not,Je,Jf,reduceCtorEq,false_implies,imp_false,and_true,implies_true]
  repeat' first
   | trivial
   | apply J9
   | intro
  all_goals first
   | omega
   | (exfalso;omega)
   | (rename_i hq;exact absurd (hr.symm.trans hq) (by decide))
   | (rename_i hq _;exact absurd (hr.symm.trans hq) (by decide))
   | (rename_i hq _ _;exact absurd (hr.symm.trans hq) (by decide))
 | false=>
  have hn:¬Zp s 3:=fun h=>absurd (hok.2 h) (by decide)
  simp only [h0,h1,h2,h3,h4,h5,h6,h7,h8,and_self,beq_self_eq_true,decide_true,true_and,forall_const,J5,J8,decide_eq_true_eq,decide_eq_false_iff_not,Je,Jf,reduceCtorEq,false_implies,imp_false,and_true,implies_true]
  repeat' first
   | trivial
   | apply J9
   | intro
  all_goals first
   | refine Jf.1 fun hq=> ?_
   | refine Je.1 fun hq=> ?_
   | skip
  all_goals first
   | exact absurd (Zp.mk ⟨by omega,by omega,by omega,by omega,by omega,by omega,by omega,by omega,by omega,by omega⟩ (by assumption) (by simp only [kindOk]<;>omega)) hn
   | exact absurd (Zp.mk ⟨by omega,by omega,by omega,by omega,by omega,by omega,by omega,by omega,by omega,by omega⟩ (by assumption) trivial) hn
theorem Zmu (s:Zi) (ok:Bool) (hl:s.Len) (hok:ok=true↔Zp s 4):
  evF QE 40 126 [.agg (.int .i64 4::s.r)] ⟨0,[]⟩ (rtK ok):=by
 refine @Eq.mpr _ (let a:=s.t;let j:=a.fund;let v:=a.index;let u:=a.cap;let r:=a.dust;let q:=a.fee;let p:=a.delay;let i:=a.k0;let h:=a.k1;let y:=s.reserve;let g:=s.amount;let o:=s.point;let n:=s.nxt;let m:=s.key;let l:=s.hash;let b:=s.tag;let k:=s.secret;let f:=s.id;let e:=s.number;let d:=s.index;let c:=s.expiry;let x:=s.code;let w:=s.route;
 j=j/\
 Z7 (v=v) (Z7 (u=u) (Z7 (r=r) (Z7 (q=q) (Z7 (p=p) (i=i/\
 h=h/\
 Z7 (y=y) (Z7 (g=g) (o=o/\
 n=n/\
 m=m/\
 l=l/\
 b=b/\
 k=k/\
 Z7 (f=f) (Z7 (e=e) (Z7 (d=d) (Z7 (c=c) (Z7 (x=x) (w=w/\
 Z7 (j.length=32/\(32:Nat)=32) (Z7 (i.length=32/\(32:Nat)=32) (Z7 (h.length=32/\(32:Nat)=32) (Z7 (o.length=32/\(32:Nat)=32) (Z7 (n.length=32/\(32:Nat)=32) (Z7 (m.length=32/\(32:Nat)=32) (Z7 (l.length=32/\(32:Nat)=32) (Z7 (b.length=32/\b.length=32) (Z7 (k.length=32/\(32:Nat)=32) (Z5 (!(true&&(j==Z0&&(v==0&&(u==0&&(r==0&&(q==0&&(p==0&&(i==Z0&&h==Z0))))))&&(y==0&&(g==0&&(o==Z0&&(n==Z0&&(m==Z0&&(l==Z0&&(b==b&&(k==Z0&&(f==0&&(e==0&&(d==0&&(c==0&&(x==0&&ByteArray.toList w==ByteArray.toList ByteArray.empty)))))))))))))))) (false=ok) (Z5 (decide (f>=0)) (Z5 (!decide (f<=2147483647)) (false=ok) (Z5 (decide (e>=0)) (Z5 (!decide (e<=2147483647)) (false=ok) (Z5 (decide (d>=0)) (Z5 (!decide (d<=2147483647)) (false=ok) (Z5 (decide (c>=0)) (Z5 (!decide (c<=2147483647)) (false=ok) (Z5 (decide (g>=0)) (Z5 (!decide (g<=1125899906842624)) (false=ok) (true=ok)) (false=ok))) (false=ok))) (false=ok))) (false=ok))) (false=ok)))))))))))))))))))))))) (by kernel_rfl) ?_
 conv=>zeta
 try simp only [vcA]
 try simp only [vcB]
 try simp only [vcC]
 obtain ⟨h0,h1,h2,h3,h4,h5,h6,h7,h8,hb⟩:=hl
 cases ok with
 | true=>
  obtain ⟨⟨w0,w1,w2,w3,w4,w5,w6,w7,w8,w9⟩,hr,hk⟩:=hok.1 rfl
  have hk':=hk
  simp only [kindOk] at hk
  simp only [h0,h1,h2,h3,h4,h5,h6,h7,h8,and_self,beq_self_eq_true,decide_true,true_and,forall_const,J5,J8,decide_eq_true_eq,decide_eq_false_iff_not,Je,Jf,reduceCtorEq,false_implies,imp_false,and_true,implies_true]
  repeat' first
   | trivial
   | apply J9
   | intro
  all_goals first
   | omega
   | (exfalso;omega)
   | (rename_i hq;exact absurd (hr.symm.trans hq) (by decide))
   | (rename_i hq _;exact absurd (hr.symm.trans hq) (by decide))
   | (rename_i hq _ _;exact absurd (hr.symm.trans hq) (by decide))
 | false=>
  have hn:¬Zp s 4:=fun h=>absurd (hok.2 h) (by decide)
  simp only [h0,h1,h2,h3,h4,h5,h6,h7,h8,and_self,beq_self_eq_true,decide_true,true_and,forall_const,J5,J8,decide_eq_true_eq,decide_eq_false_iff_not,Je,Jf,reduceCtorEq,false_implies,imp_false,and_true,implies_true]
  repeat' first
   | trivial
   | apply J9
   | intro
  all_goals first
   | refine Jf.1 fun hq=> ?_
   | refine Je.1 fun hq=> ?_
   | skip
  all_goals first
   | exact absurd (Zp.mk ⟨by omega,by omega,by omega,by omega,by omega,by omega,by omega,by omega,by omega,by omega⟩ (by assumption) (by simp only [kindOk]<;>omega)) hn
   | exact absurd (Zp.mk ⟨by omega,by omega,by omega,by omega,by omega,by omega,by omega,by omega,by omega,by omega⟩ (by assumption) trivial) hn
theorem Zmv (s:Zi) (ok:Bool) (hl:s.Len) (hok:ok=true↔Zp s 5):
  evF QE 40 126 [.agg (.int .i64 5::s.r)] ⟨0,[]⟩ (rtK ok):=by
 refine @Eq.mpr _ (let a:=s.t;let i:=a.fund;let v:=a.index;let u:=a.cap;let r:=a.dust;let q:=a.fee;let p:=a.delay;let h:=a.k0;let g:=a.k1;let y:=s.reserve;let f:=s.amount;let o:=s.point;let n:=s.nxt;let m:=s.key;let l:=s.hash;let k:=s.tag;let j:=s.secret;let e:=s.id;let d:=s.number;let c:=s.index;let b:=s.expiry;let x:=s.code;let w:=s.route;
 i=i/\
 Z7 (v=v) (Z7 (u=u) (Z7 (r=r) (Z7 (q=q) (Z7 (p=p) (h=h/\
 g=g/\
 Z7 (y=y) (Z7 (f=f) (o=o/\
 n=n/\
 m=m/\
 l=l/\
 k=k/\
 j=j/\
 Z7 (e=e) (Z7 (d=d) (Z7 (c=c) (Z7 (b=b) (Z7 (x=x) (w=w/\
 Z7 (i.length=32/\(32:Nat)=32) (Z7 (h.length=32/\(32:Nat)=32) (Z7 (g.length=32/\(32:Nat)=32) (Z7 (o.length=32/\(32:Nat)=32) (Z7 (n.length=32/\(32:Nat)=32) (Z7 (m.length=32/\(32:Nat)=32) (Z7 (l.length=32/\(32:Nat)=32) (Z7 (k.length=32/\(32:Nat)=32) (Z7 (j.length=32/\(32:Nat)=32) (Z5 (!(true&&(i==Z0&&(v==0&&(u==0&&(r==0&&(q==0&&(p==0&&(h==Z0&&g==Z0))))))&&(y==0&&(f==0&&(o==Z0&&(n==Z0&&(m==Z0&&(l==Z0&&(k==Z0&&(j==Z0&&(e==0&&(d==0&&(c==0&&(b==0&&(x==0&&ByteArray.toList w==ByteArray.toList ByteArray.empty)))))))))))))))) (false=ok) (Z5 (decide (e>=0)) (Z5 (!decide (e<=2147483647)) (false=ok) (Z5 (decide (d>=0)) (Z5 (!decide (d<=2147483647)) (false=ok) (Z5 (decide (c>=0)) (Z5 (!decide (c<=2147483647)) (false=ok) (Z5 (decide (b>=0)) (Z5 (!decide (b<=2147483647)) (false=ok) (Z5 (decide (f>=0)) (Z5 (!decide (f<=1125899906842624)) (false=ok) (true=ok)) (false=ok))) (false=ok))) (false=ok))) (false=ok))) (false=ok)))))))))))))))))))))))) (by kernel_rfl) ?_
 conv=>zeta
 try simp only [vcA]
 try simp only [vcB]
 try simp only [vcC]
 obtain ⟨h0,h1,h2,h3,h4,h5,h6,h7,h8,hb⟩:=hl
 cases ok with
 | true=>
  obtain ⟨⟨w0,w1,w2,w3,w4,w5,w6,w7,w8,w9⟩,hr,hk⟩:=hok.1 rfl
  have hk':=hk
  simp only [kindOk] at hk
  simp only [h0,h1,h2,h3,h4,h5,h6,h7,h8,and_self,beq_self_eq_true,decide_true,true_and,forall_const,J5,J8,decide_eq_true_eq,decide_eq_false_iff_not,Je,Jf,reduceCtorEq,false_implies,imp_false,and_true,implies_true]
  repeat' first
   | trivial
   | apply J9
   | intro
  all_goals first
   | omega
   | (exfalso;omega)
   | (rename_i hq;exact absurd (hr.symm.trans hq) (by decide))
   | (rename_i hq _;exact absurd (hr.symm.trans hq) (by decide))
   | (rename_i hq _ _;exact absurd (hr.symm.trans hq) (by decide))
 | false=>
  have hn:¬Zp s 5:=fun h=>absurd (hok.2 h) (by decide)
  simp only [h0,h1,h2,h3,h4,h5,h6,h7,h8,and_self,beq_self_eq_true,decide_true,true_and,forall_const,J5,J8,decide_eq_true_eq,decide_eq_false_iff_not,Je,Jf,reduceCtorEq,false_implies,imp_false,and_true,implies_true]
  repeat' first
   | trivial
   | apply J9
   | intro
  all_goals first
   | refine Jf.1 fun hq=> ?_
   | refine Je.1 fun hq=> ?_
   | skip
  all_goals first
   | exact absurd (Zp.mk ⟨by omega,by omega,by omega,by omega,by omega,by omega,by omega,by omega,by omega,by omega⟩ (by assumption) (by simp only [kindOk]<;>omega)) hn
   | exact absurd (Zp.mk ⟨by omega,by omega,by omega,by omega,by omega,by omega,by omega,by omega,by omega,by omega⟩ (by assumption) trivial) hn
theorem Zmw (s:Zi) (ok:Bool) (hl:s.Len) (hok:ok=true↔Zp s 6):
  evF QE 40 126 [.agg (.int .i64 6::s.r)] ⟨0,[]⟩ (rtK ok):=by
 refine @Eq.mpr _ (let r:=s.route;let h:=r=r;let c:=s.expiry;let i:=decide (c=c);let d:=s.hash;let u:=d=d;let b:=s.amount;let C:=decide (b=b);let a:=s.t;let q:=a.fund;let B:=a.index;let A:=a.cap;let z:=a.dust;let y:=a.fee;let x:=a.delay;let p:=a.k0;let o:=a.k1;let w:=s.reserve;let n:=s.point;let m:=s.nxt;let l:=s.key;let k:=s.tag;let j:=s.secret;let e:=s.id;let g:=s.number;let f:=s.index;let v:=s.code;let D:=ByteArray.toList r;
 h/\
 Z6 i (u/\
 Z6 C (h/\
 Z6 i (u/\
 h/\
 Z6 i (h/\
 q=q/\
 Z7 (B=B) (Z7 (A=A) (Z7 (z=z) (Z7 (y=y) (Z7 (x=x) (p=p/\
 o=o/\
 Z7 (w=w) (Z6 C (n=n/\
 m=m/\
 l=l/\
 u/\
 k=k/\
 j=j/\
 Z7 (e=e) (Z7 (g=g) (Z7 (f=f) (Z6 i (Z7 (v=v) (h/\
 Z7 (q.length=32/\(32:Nat)=32) (Z7 (p.length=32/\(32:Nat)=32) (Z7 (o.length=32/\(32:Nat)=32) (Z7 (n.length=32/\(32:Nat)=32) (Z7 (m.length=32/\(32:Nat)=32) (Z7 (l.length=32/\(32:Nat)=32) (Z7 (d.length=32/\d.length=32) (Z7 (k.length=32/\(32:Nat)=32) (Z7 (j.length=32/\(32:Nat)=32) (Z5 (!(true&&(q==Z0&&(B==0&&(A==0&&(z==0&&(y==0&&(x==0&&(p==Z0&&o==Z0))))))&&(w==0&&(b==b&&(n==Z0&&(m==Z0&&(l==Z0&&(d==d&&(k==Z0&&(j==Z0&&(e==e&&(g==0&&(f==0&&(c==c&&(v==0&&D==D)))))))))))))))) (false=ok) (Z5 (decide (e>=0)) (Z5 (!decide (e<=2147483647)) (false=ok) (Z5 (decide (g>=0)) (Z5 (!decide (g<=2147483647)) (false=ok) (Z5 (decide (f>=0)) (Z5 (!decide (f<=2147483647)) (false=ok) (Z5 (decide (c>=0)) (Z5 (!decide (c<=2147483647)) (false=ok) (Z5 (decide (b>=0)) (Z5 (!decide (b<=1125899906842624)) (false=ok) (Z5 (decide (b>0)) (Z5 (decide (c>0)) (decide ((↑(ByteArray.size r):Int)<=512)=ok) (false=ok)) (false=ok))) (false=ok))) (false=ok))) (false=ok))) (false=ok))) (false=ok)))))))))))))))))))))))))))) (by kernel_rfl) ?_
 conv=>zeta
 try simp only [vcA]
 try simp only [vcB]
 try simp only [vcC]
 obtain ⟨h0,h1,h2,h3,h4,h5,h6,h7,h8,hb⟩:=hl
 cases ok with
 | true=>
  obtain ⟨⟨w0,w1,w2,w3,w4,w5,w6,w7,w8,w9⟩,hr,hk⟩:=hok.1 rfl
  have hk':=hk
  simp only [kindOk] at hk
  simp only [h0,h1,h2,h3,h4,h5,h6,h7,h8,and_self,beq_self_eq_true,decide_true,true_and,forall_const,J5,J8,decide_eq_true_eq,decide_eq_false_iff_not,Je,Jf,reduceCtorEq,false_implies,imp_false,and_true,implies_true]
  repeat' first
   | trivial
   | apply J9
   | intro
  all_goals first
   | omega
   | (exfalso;omega)
   | (rename_i hq;exact absurd (hr.symm.trans hq) (by decide))
   | (rename_i hq _;exact absurd (hr.symm.trans hq) (by decide))
   | (rename_i hq _ _;exact absurd (hr.symm.trans hq) (by decide))
 | false=>
  have hn:¬Zp s 6:=fun h=>absurd (hok.2 h) (by decide)
  simp only [h0,h1,h2,h3,h4,h5,h6,h7,h8,and_self,beq_self_eq_true,decide_true,true_and,forall_const,J5,J8,decide_eq_true_eq,decide_eq_false_iff_not,Je,Jf,reduceCtorEq,false_implies,imp_false,and_true,implies_true]
  repeat' first
   | trivial
   | apply J9
   | intro
  all_goals first
   | refine Jf.1 fun hq=> ?_
   | refine Je.1 fun hq=> ?_
   | skip
  all_goals first
   | exact absurd (Zp.mk ⟨by omega,by omega,by omega,by omega,by omega,by omega,by omega,by omega,by omega,by omega⟩ (by assumption) (by simp only [kindOk]<;>omega)) hn
   | exact absurd (Zp.mk ⟨by omega,by omega,by omega,by omega,by omega,by omega,by omega,by omega,by omega,by omega⟩ (by assumption) trivial) hn
theorem Zmx (s:Zi) (ok:Bool) (hl:s.Len) (hok:ok=true↔Zp s 7):
  evF QE 40 126 [.agg (.int .i64 7::s.r)] ⟨0,[]⟩ (rtK ok):=by
 refine @Eq.mpr _ (let c:=s.secret;let z:=c=c;let a:=s.t;let h:=a.fund;let v:=a.index;let u:=a.cap;let r:=a.dust;let q:=a.fee;let p:=a.delay;let o:=a.k0;let n:=a.k1;let y:=s.reserve;let g:=s.amount;let m:=s.point;let l:=s.nxt;let k:=s.key;let j:=s.hash;let i:=s.tag;let b:=s.id;let f:=s.number;let e:=s.index;let d:=s.expiry;let x:=s.code;let w:=s.route;
 z/\
 h=h/\
 Z7 (v=v) (Z7 (u=u) (Z7 (r=r) (Z7 (q=q) (Z7 (p=p) (o=o/\
 n=n/\
 Z7 (y=y) (Z7 (g=g) (m=m/\
 l=l/\
 k=k/\
 j=j/\
 i=i/\
 z/\
 Z7 (b=b) (Z7 (f=f) (Z7 (e=e) (Z7 (d=d) (Z7 (x=x) (w=w/\
 Z7 (h.length=32/\(32:Nat)=32) (Z7 (o.length=32/\(32:Nat)=32) (Z7 (n.length=32/\(32:Nat)=32) (Z7 (m.length=32/\(32:Nat)=32) (Z7 (l.length=32/\(32:Nat)=32) (Z7 (k.length=32/\(32:Nat)=32) (Z7 (j.length=32/\(32:Nat)=32) (Z7 (i.length=32/\(32:Nat)=32) (Z7 (c.length=32/\c.length=32) (Z5 (!(true&&(h==Z0&&(v==0&&(u==0&&(r==0&&(q==0&&(p==0&&(o==Z0&&n==Z0))))))&&(y==0&&(g==0&&(m==Z0&&(l==Z0&&(k==Z0&&(j==Z0&&(i==Z0&&(c==c&&(b==b&&(f==0&&(e==0&&(d==0&&(x==0&&ByteArray.toList w==ByteArray.toList ByteArray.empty)))))))))))))))) (false=ok) (Z5 (decide (b>=0)) (Z5 (!decide (b<=2147483647)) (false=ok) (Z5 (decide (f>=0)) (Z5 (!decide (f<=2147483647)) (false=ok) (Z5 (decide (e>=0)) (Z5 (!decide (e<=2147483647)) (false=ok) (Z5 (decide (d>=0)) (Z5 (!decide (d<=2147483647)) (false=ok) (Z5 (decide (g>=0)) (Z5 (!decide (g<=1125899906842624)) (false=ok) (true=ok)) (false=ok))) (false=ok))) (false=ok))) (false=ok))) (false=ok)))))))))))))))))))))))) (by kernel_rfl) ?_
 conv=>zeta
 try simp only [vcA]
 try simp only [vcB]
 try simp only [vcC]
 obtain ⟨h0,h1,h2,h3,h4,h5,h6,h7,h8,hb⟩:=hl
 cases ok with
 | true=>
  obtain ⟨⟨w0,w1,w2,w3,w4,w5,w6,w7,w8,w9⟩,hr,hk⟩:=hok.1 rfl
  have hk':=hk
  simp only [kindOk] at hk
  simp only [h0,h1,h2,h3,h4,h5,h6,h7,h8,and_self,beq_self_eq_true,decide_true,true_and,forall_const,J5,J8,decide_eq_true_eq,decide_eq_false_iff_not,Je,Jf,reduceCtorEq,false_implies,imp_false,and_true,implies_true]
  repeat' first
   | trivial
   | apply J9
   | intro
  all_goals first
   | omega
   | (exfalso;omega)
   | (rename_i hq;exact absurd (hr.symm.trans hq) (by decide))
   | (rename_i hq _;exact absurd (hr.symm.trans hq) (by decide))
   | (rename_i hq _ _;exact absurd (hr.symm.trans hq) (by decide))
 | false=>
  have hn:¬Zp s 7:=fun h=>absurd (hok.2 h) (by decide)
  simp only [h0,h1,h2,h3,h4,h5,h6,h7,h8,and_self,beq_self_eq_true,decide_true,true_and,forall_const,J5,J8,decide_eq_true_eq,decide_eq_false_iff_not,Je,Jf,reduceCtorEq,false_implies,imp_false,and_true,implies_true]
  repeat' first
   | trivial
   | apply J9
   | intro
  all_goals first
   | refine Jf.1 fun hq=> ?_
   | refine Je.1 fun hq=> ?_
   | skip
  all_goals first
   | exact absurd (Zp.mk ⟨by omega,by omega,by omega,by omega,by omega,by omega,by omega,by omega,by omega,by omega⟩ (by assumption) (by simp only [kindOk]<;>omega)) hn
   | exact absurd (Zp.mk ⟨by omega,by omega,by omega,by omega,by omega,by omega,by omega,by omega,by omega,by omega⟩ (by assumption) trivial) hn
theorem Zmy (s:Zi) (ok:Bool) (hl:s.Len) (hok:ok=true↔Zp s 8):
  evF QE 40 126 [.agg (.int .i64 8::s.r)] ⟨0,[]⟩ (rtK ok):=by
 refine @Eq.mpr _ (let c:=s.code;let z:=decide (c=c);let a:=s.t;let h:=a.fund;let w:=a.index;let v:=a.cap;let u:=a.dust;let r:=a.fee;let q:=a.delay;let p:=a.k0;let o:=a.k1;let y:=s.reserve;let g:=s.amount;let n:=s.point;let m:=s.nxt;let l:=s.key;let k:=s.hash;let j:=s.tag;let i:=s.secret;let b:=s.id;let f:=s.number;let e:=s.index;let d:=s.expiry;let x:=s.route;
 Z6 z (h=h/\
 Z7 (w=w) (Z7 (v=v) (Z7 (u=u) (Z7 (r=r) (Z7 (q=q) (p=p/\
 o=o/\
 Z7 (y=y) (Z7 (g=g) (n=n/\
 m=m/\
 l=l/\
 k=k/\
 j=j/\
 i=i/\
 Z7 (b=b) (Z7 (f=f) (Z7 (e=e) (Z7 (d=d) (Z6 z (x=x/\
 Z7 (h.length=32/\(32:Nat)=32) (Z7 (p.length=32/\(32:Nat)=32) (Z7 (o.length=32/\(32:Nat)=32) (Z7 (n.length=32/\(32:Nat)=32) (Z7 (m.length=32/\(32:Nat)=32) (Z7 (l.length=32/\(32:Nat)=32) (Z7 (k.length=32/\(32:Nat)=32) (Z7 (j.length=32/\(32:Nat)=32) (Z7 (i.length=32/\(32:Nat)=32) (Z5 (!(true&&(h==Z0&&(w==0&&(v==0&&(u==0&&(r==0&&(q==0&&(p==Z0&&o==Z0))))))&&(y==0&&(g==0&&(n==Z0&&(m==Z0&&(l==Z0&&(k==Z0&&(j==Z0&&(i==Z0&&(b==b&&(f==0&&(e==0&&(d==0&&(c==c&&ByteArray.toList x==ByteArray.toList ByteArray.empty)))))))))))))))) (false=ok) (Z5 (decide (b>=0)) (Z5 (!decide (b<=2147483647)) (false=ok) (Z5 (decide (f>=0)) (Z5 (!decide (f<=2147483647)) (false=ok) (Z5 (decide (e>=0)) (Z5 (!decide (e<=2147483647)) (false=ok) (Z5 (decide (d>=0)) (Z5 (!decide (d<=2147483647)) (false=ok) (Z5 (decide (g>=0)) (Z5 (!decide (g<=1125899906842624)) (false=ok) (Z5 (decide (c>=1)) (decide (c<=999)=ok) (false=ok))) (false=ok))) (false=ok))) (false=ok))) (false=ok))) (false=ok))))))))))))))))))))))))) (by kernel_rfl) ?_
 conv=>zeta
 try simp only [vcA]
 try simp only [vcB]
 try simp only [vcC]
 obtain ⟨h0,h1,h2,h3,h4,h5,h6,h7,h8,hb⟩:=hl
 cases ok with
 | true=>
  obtain ⟨⟨w0,w1,w2,w3,w4,w5,w6,w7,w8,w9⟩,hr,hk⟩:=hok.1 rfl
  have hk':=hk
  simp only [kindOk] at hk
  simp only [h0,h1,h2,h3,h4,h5,h6,h7,h8,and_self,beq_self_eq_true,decide_true,true_and,forall_const,J5,J8,decide_eq_true_eq,decide_eq_false_iff_not,Je,Jf,reduceCtorEq,false_implies,imp_false,and_true,implies_true]
  repeat' first
   | trivial
   | apply J9
   | intro
  all_goals first
   | omega
   | (exfalso;omega)
   | (rename_i hq;exact absurd (hr.symm.trans hq) (by decide))
   | (rename_i hq _;exact absurd (hr.symm.trans hq) (by decide))
   | (rename_i hq _ _;exact absurd (hr.symm.trans hq) (by decide))
 | false=>
  have hn:¬Zp s 8:=fun h=>absurd (hok.2 h) (by decide)
  simp only [h0,h1,h2,h3,h4,h5,h6,h7,h8,and_self,beq_self_eq_true,decide_true,true_and,forall_const,J5,J8,decide_eq_true_eq,decide_eq_false_iff_not,Je,Jf,reduceCtorEq,false_implies,imp_false,and_true,implies_true]
  repeat' first
   | trivial
   | apply J9
   | intro
  all_goals first
   | refine Jf.1 fun hq=> ?_
   | refine Je.1 fun hq=> ?_
   | skip
  all_goals first
   | exact absurd (Zp.mk ⟨by omega,by omega,by omega,by omega,by omega,by omega,by omega,by omega,by omega,by omega⟩ (by assumption) (by simp only [kindOk]<;>omega)) hn
   | exact absurd (Zp.mk ⟨by omega,by omega,by omega,by omega,by omega,by omega,by omega,by omega,by omega,by omega⟩ (by assumption) trivial) hn
theorem Zmz (s:Zi) (ok:Bool) (hl:s.Len) (hok:ok=true↔Zp s 9):
  evF QE 40 126 [.agg (.int .i64 9::s.r)] ⟨0,[]⟩ (rtK ok):=by
 refine @Eq.mpr _ (let c:=s.tag;let z:=c=c;let a:=s.t;let h:=a.fund;let v:=a.index;let u:=a.cap;let r:=a.dust;let q:=a.fee;let p:=a.delay;let o:=a.k0;let n:=a.k1;let y:=s.reserve;let g:=s.amount;let m:=s.point;let l:=s.nxt;let k:=s.key;let j:=s.hash;let i:=s.secret;let f:=s.id;let b:=s.number;let e:=s.index;let d:=s.expiry;let x:=s.code;let w:=s.route;
 z/\
 h=h/\
 Z7 (v=v) (Z7 (u=u) (Z7 (r=r) (Z7 (q=q) (Z7 (p=p) (o=o/\
 n=n/\
 Z7 (y=y) (Z7 (g=g) (m=m/\
 l=l/\
 k=k/\
 j=j/\
 z/\
 i=i/\
 Z7 (f=f) (Z7 (b=b) (Z7 (e=e) (Z7 (d=d) (Z7 (x=x) (w=w/\
 Z7 (h.length=32/\(32:Nat)=32) (Z7 (o.length=32/\(32:Nat)=32) (Z7 (n.length=32/\(32:Nat)=32) (Z7 (m.length=32/\(32:Nat)=32) (Z7 (l.length=32/\(32:Nat)=32) (Z7 (k.length=32/\(32:Nat)=32) (Z7 (j.length=32/\(32:Nat)=32) (Z7 (c.length=32/\c.length=32) (Z7 (i.length=32/\(32:Nat)=32) (Z5 (!(true&&(h==Z0&&(v==0&&(u==0&&(r==0&&(q==0&&(p==0&&(o==Z0&&n==Z0))))))&&(y==0&&(g==0&&(m==Z0&&(l==Z0&&(k==Z0&&(j==Z0&&(c==c&&(i==Z0&&(f==0&&(b==b&&(e==0&&(d==0&&(x==0&&ByteArray.toList w==ByteArray.toList ByteArray.empty)))))))))))))))) (false=ok) (Z5 (decide (f>=0)) (Z5 (!decide (f<=2147483647)) (false=ok) (Z5 (decide (b>=0)) (Z5 (!decide (b<=2147483647)) (false=ok) (Z5 (decide (e>=0)) (Z5 (!decide (e<=2147483647)) (false=ok) (Z5 (decide (d>=0)) (Z5 (!decide (d<=2147483647)) (false=ok) (Z5 (decide (g>=0)) (Z5 (!decide (g<=1125899906842624)) (false=ok) (true=ok)) (false=ok))) (false=ok))) (false=ok))) (false=ok))) (false=ok)))))))))))))))))))))))) (by kernel_rfl) ?_
 conv=>zeta
 try simp only [vcA]
 try simp only [vcB]
 try simp only [vcC]
 obtain ⟨h0,h1,h2,h3,h4,h5,h6,h7,h8,hb⟩:=hl
 cases ok with
 | true=>
  obtain ⟨⟨w0,w1,w2,w3,w4,w5,w6,w7,w8,w9⟩,hr,hk⟩:=hok.1 rfl
  have hk':=hk
  simp only [kindOk] at hk
  simp only [h0,h1,h2,h3,h4,h5,h6,h7,h8,and_self,beq_self_eq_true,decide_true,true_and,forall_const,J5,J8,decide_eq_true_eq,decide_eq_false_iff_not,Je,Jf,reduceCtorEq,false_implies,imp_false,and_true,implies_true]
  repeat' first
   | trivial
   | apply J9
   | intro
  all_goals first
   | omega
   | (exfalso;omega)
   | (rename_i hq;exact absurd (hr.symm.trans hq) (by decide))
   | (rename_i hq _;exact absurd (hr.symm.trans hq) (by decide))
   | (rename_i hq _ _;exact absurd (hr.symm.trans hq) (by decide))
 | false=>
  have hn:¬Zp s 9:=fun h=>absurd (hok.2 h) (by decide)
  simp only [h0,h1,h2,h3,h4,h5,h6,h7,h8,and_self,beq_self_eq_true,decide_true,true_and,forall_const,J5,J8,decide_eq_true_eq,decide_eq_false_iff_not,Je,Jf,reduceCtorEq,false_implies,imp_false,and_true,implies_true]
  repeat' first
   | trivial
   | apply J9
   | intro
  all_goals first
   | refine Jf.1 fun hq=> ?_
   | refine Je.1 fun hq=> ?_
   | skip
  all_goals first
   | exact absurd (Zp.mk ⟨by omega,by omega,by omega,by omega,by omega,by omega,by omega,by omega,by omega,by omega⟩ (by assumption) (by simp only [kindOk]<;>omega)) hn
   | exact absurd (Zp.mk ⟨by omega,by omega,by omega,by omega,by omega,by omega,by omega,by omega,by omega,by omega⟩ (by assumption) trivial) hn
theorem Zk0 (s:Zi) (ok:Bool) (hl:s.Len) (hok:ok=true↔Zp s 10):
  evF QE 40 126 [.agg (.int .i64 10::s.r)] ⟨0,[]⟩ (rtK ok):=by
 refine @Eq.mpr _ (let d:=s.nxt;let w:=d=d;let b:=s.secret;let A:=b=b;let a:=s.t;let i:=a.fund;let r:=a.index;let q:=a.cap;let p:=a.dust;let z:=a.fee;let y:=a.delay;let o:=a.k0;let n:=a.k1;let x:=s.reserve;let h:=s.amount;let m:=s.point;let l:=s.key;let k:=s.hash;let j:=s.tag;let g:=s.id;let c:=s.number;let f:=s.index;let e:=s.expiry;let v:=s.code;let u:=s.route;
 w/\
 A/\
 w/\
 i=i/\
 Z7 (r=r) (Z7 (q=q) (Z7 (p=p) (Z7 (z=z) (Z7 (y=y) (o=o/\
 n=n/\
 Z7 (x=x) (Z7 (h=h) (m=m/\
 w/\
 l=l/\
 k=k/\
 j=j/\
 A/\
 Z7 (g=g) (Z7 (c=c) (Z7 (f=f) (Z7 (e=e) (Z7 (v=v) (u=u/\
 Z7 (i.length=32/\(32:Nat)=32) (Z7 (o.length=32/\(32:Nat)=32) (Z7 (n.length=32/\(32:Nat)=32) (Z7 (m.length=32/\(32:Nat)=32) (Z7 (d.length=32/\d.length=32) (Z7 (l.length=32/\(32:Nat)=32) (Z7 (k.length=32/\(32:Nat)=32) (Z7 (j.length=32/\(32:Nat)=32) (Z7 (b.length=32/\b.length=32) (Z5 (!(true&&(i==Z0&&(r==0&&(q==0&&(p==0&&(z==0&&(y==0&&(o==Z0&&n==Z0))))))&&(x==0&&(h==0&&(m==Z0&&(d==d&&(l==Z0&&(k==Z0&&(j==Z0&&(b==b&&(g==0&&(c==c&&(f==0&&(e==0&&(v==0&&ByteArray.toList u==ByteArray.toList ByteArray.empty)))))))))))))))) (false=ok) (Z5 (decide (g>=0)) (Z5 (!decide (g<=2147483647)) (false=ok) (Z5 (decide (c>=0)) (Z5 (!decide (c<=2147483647)) (false=ok) (Z5 (decide (f>=0)) (Z5 (!decide (f<=2147483647)) (false=ok) (Z5 (decide (e>=0)) (Z5 (!decide (e<=2147483647)) (false=ok) (Z5 (decide (h>=0)) (Z5 (!decide (h<=1125899906842624)) (false=ok) (true=ok)) (false=ok))) (false=ok))) (false=ok))) (false=ok))) (false=ok)))))))))))))))))))))))) (by kernel_rfl) ?_
 conv=>zeta
 try simp only [vcA]
 try simp only [vcB]
 try simp only [vcC]
 obtain ⟨h0,h1,h2,h3,h4,h5,h6,h7,h8,hb⟩:=hl
 cases ok with
 | true=>
  obtain ⟨⟨w0,w1,w2,w3,w4,w5,w6,w7,w8,w9⟩,hr,hk⟩:=hok.1 rfl
  have hk':=hk
  simp only [kindOk] at hk
  simp only [h0,h1,h2,h3,h4,h5,h6,h7,h8,and_self,beq_self_eq_true,decide_true,true_and,forall_const,J5,J8,decide_eq_true_eq,decide_eq_false_iff_not,Je,Jf,reduceCtorEq,false_implies,imp_false,and_true,implies_true]
  repeat' first
   | trivial
   | apply J9
   | intro
  all_goals first
   | omega
   | (exfalso;omega)
   | (rename_i hq;exact absurd (hr.symm.trans hq) (by decide))
   | (rename_i hq _;exact absurd (hr.symm.trans hq) (by decide))
   | (rename_i hq _ _;exact absurd (hr.symm.trans hq) (by decide))
 | false=>
  have hn:¬Zp s 10:=fun h=>absurd (hok.2 h) (by decide)
  simp only [h0,h1,h2,h3,h4,h5,h6,h7,h8,and_self,beq_self_eq_true,decide_true,true_and,forall_const,J5,J8,decide_eq_true_eq,decide_eq_false_iff_not,Je,Jf,reduceCtorEq,false_implies,imp_false,and_true,implies_true]
  repeat' first
   | trivial
   | apply J9
   | intro
  all_goals first
   | refine Jf.1 fun hq=> ?_
   | refine Je.1 fun hq=> ?_
   | skip
  all_goals first
   | exact absurd (Zp.mk ⟨by omega,by omega,by omega,by omega,by omega,by omega,by omega,by omega,by omega,by omega⟩ (by assumption) (by simp only [kindOk]<;>omega)) hn
   | exact absurd (Zp.mk ⟨by omega,by omega,by omega,by omega,by omega,by omega,by omega,by omega,by omega,by omega⟩ (by assumption) trivial) hn
theorem Zk1 (s:Zi) (ok:Bool) (hl:s.Len) (hok:ok=true↔Zp s 11):
  evF QE 40 126 [.agg (.int .i64 11::s.r)] ⟨0,[]⟩ (rtK ok):=by
 refine @Eq.mpr _ (let c:=s.id;let z:=decide (c=c);let a:=s.t;let g:=a.fund;let v:=a.index;let u:=a.cap;let r:=a.dust;let q:=a.fee;let p:=a.delay;let o:=a.k0;let n:=a.k1;let y:=s.reserve;let f:=s.amount;let m:=s.point;let l:=s.nxt;let k:=s.key;let j:=s.hash;let i:=s.tag;let h:=s.secret;let b:=s.number;let e:=s.index;let d:=s.expiry;let x:=s.code;let w:=s.route;
 Z6 z (g=g/\
 Z7 (v=v) (Z7 (u=u) (Z7 (r=r) (Z7 (q=q) (Z7 (p=p) (o=o/\
 n=n/\
 Z7 (y=y) (Z7 (f=f) (m=m/\
 l=l/\
 k=k/\
 j=j/\
 i=i/\
 h=h/\
 Z6 z (Z7 (b=b) (Z7 (e=e) (Z7 (d=d) (Z7 (x=x) (w=w/\
 Z7 (g.length=32/\(32:Nat)=32) (Z7 (o.length=32/\(32:Nat)=32) (Z7 (n.length=32/\(32:Nat)=32) (Z7 (m.length=32/\(32:Nat)=32) (Z7 (l.length=32/\(32:Nat)=32) (Z7 (k.length=32/\(32:Nat)=32) (Z7 (j.length=32/\(32:Nat)=32) (Z7 (i.length=32/\(32:Nat)=32) (Z7 (h.length=32/\(32:Nat)=32) (Z5 (!(true&&(g==Z0&&(v==0&&(u==0&&(r==0&&(q==0&&(p==0&&(o==Z0&&n==Z0))))))&&(y==0&&(f==0&&(m==Z0&&(l==Z0&&(k==Z0&&(j==Z0&&(i==Z0&&(h==Z0&&(c==c&&(b==b&&(e==0&&(d==0&&(x==0&&ByteArray.toList w==ByteArray.toList ByteArray.empty)))))))))))))))) (false=ok) (Z5 (decide (c>=0)) (Z5 (!decide (c<=2147483647)) (false=ok) (Z5 (decide (b>=0)) (Z5 (!decide (b<=2147483647)) (false=ok) (Z5 (decide (e>=0)) (Z5 (!decide (e<=2147483647)) (false=ok) (Z5 (decide (d>=0)) (Z5 (!decide (d<=2147483647)) (false=ok) (Z5 (decide (f>=0)) (Z5 (!decide (f<=1125899906842624)) (false=ok) (true=ok)) (false=ok))) (false=ok))) (false=ok))) (false=ok))) (false=ok))))))))))))))))))))))))) (by kernel_rfl) ?_
 conv=>zeta
 try simp only [vcA]
 try simp only [vcB]
 try simp only [vcC]
 obtain ⟨h0,h1,h2,h3,h4,h5,h6,h7,h8,hb⟩:=hl
 cases ok with
 | true=>
  obtain ⟨⟨w0,w1,w2,w3,w4,w5,w6,w7,w8,w9⟩,hr,hk⟩:=hok.1 rfl
  have hk':=hk
  simp only [kindOk] at hk
  simp only [h0,h1,h2,h3,h4,h5,h6,h7,h8,and_self,beq_self_eq_true,decide_true,true_and,forall_const,J5,J8,decide_eq_true_eq,decide_eq_false_iff_not,Je,Jf,reduceCtorEq,false_implies,imp_false,and_true,implies_true]
  repeat' first
   | trivial
   | apply J9
   | intro
  all_goals first
   | omega
   | (exfalso;omega)
   | (rename_i hq;exact absurd (hr.symm.trans hq) (by decide))
   | (rename_i hq _;exact absurd (hr.symm.trans hq) (by decide))
   | (rename_i hq _ _;exact absurd (hr.symm.trans hq) (by decide))
 | false=>
  have hn:¬Zp s 11:=fun h=>absurd (hok.2 h) (by decide)
  simp only [h0,h1,h2,h3,h4,h5,h6,h7,h8,and_self,beq_self_eq_true,decide_true,true_and,forall_const,J5,J8,decide_eq_true_eq,decide_eq_false_iff_not,Je,Jf,reduceCtorEq,false_implies,imp_false,and_true,implies_true]
  repeat' first
   | trivial
   | apply J9
   | intro
  all_goals first
   | refine Jf.1 fun hq=> ?_
   | refine Je.1 fun hq=> ?_
   | skip
  all_goals first
   | exact absurd (Zp.mk ⟨by omega,by omega,by omega,by omega,by omega,by omega,by omega,by omega,by omega,by omega⟩ (by assumption) (by simp only [kindOk]<;>omega)) hn
   | exact absurd (Zp.mk ⟨by omega,by omega,by omega,by omega,by omega,by omega,by omega,by omega,by omega,by omega⟩ (by assumption) trivial) hn
theorem Zk2 (s:Zi) (ok:Bool) (hl:s.Len) (hok:ok=true↔Zp s 12):
  evF QE 40 126 [.agg (.int .i64 12::s.r)] ⟨0,[]⟩ (rtK ok):=by
 refine @Eq.mpr _ (let a:=s.t;let i:=a.fund;let v:=a.index;let u:=a.cap;let r:=a.dust;let q:=a.fee;let p:=a.delay;let h:=a.k0;let g:=a.k1;let y:=s.reserve;let f:=s.amount;let o:=s.point;let n:=s.nxt;let m:=s.key;let l:=s.hash;let k:=s.tag;let j:=s.secret;let e:=s.id;let d:=s.number;let c:=s.index;let b:=s.expiry;let x:=s.code;let w:=s.route;
 i=i/\
 Z7 (v=v) (Z7 (u=u) (Z7 (r=r) (Z7 (q=q) (Z7 (p=p) (h=h/\
 g=g/\
 Z7 (y=y) (Z7 (f=f) (o=o/\
 n=n/\
 m=m/\
 l=l/\
 k=k/\
 j=j/\
 Z7 (e=e) (Z7 (d=d) (Z7 (c=c) (Z7 (b=b) (Z7 (x=x) (w=w/\
 Z7 (i.length=32/\(32:Nat)=32) (Z7 (h.length=32/\(32:Nat)=32) (Z7 (g.length=32/\(32:Nat)=32) (Z7 (o.length=32/\(32:Nat)=32) (Z7 (n.length=32/\(32:Nat)=32) (Z7 (m.length=32/\(32:Nat)=32) (Z7 (l.length=32/\(32:Nat)=32) (Z7 (k.length=32/\(32:Nat)=32) (Z7 (j.length=32/\(32:Nat)=32) (Z5 (!(true&&(i==Z0&&(v==0&&(u==0&&(r==0&&(q==0&&(p==0&&(h==Z0&&g==Z0))))))&&(y==0&&(f==0&&(o==Z0&&(n==Z0&&(m==Z0&&(l==Z0&&(k==Z0&&(j==Z0&&(e==0&&(d==0&&(c==0&&(b==0&&(x==0&&ByteArray.toList w==ByteArray.toList ByteArray.empty)))))))))))))))) (false=ok) (Z5 (decide (e>=0)) (Z5 (!decide (e<=2147483647)) (false=ok) (Z5 (decide (d>=0)) (Z5 (!decide (d<=2147483647)) (false=ok) (Z5 (decide (c>=0)) (Z5 (!decide (c<=2147483647)) (false=ok) (Z5 (decide (b>=0)) (Z5 (!decide (b<=2147483647)) (false=ok) (Z5 (decide (f>=0)) (Z5 (!decide (f<=1125899906842624)) (false=ok) (true=ok)) (false=ok))) (false=ok))) (false=ok))) (false=ok))) (false=ok)))))))))))))))))))))))) (by kernel_rfl) ?_
 conv=>zeta
 try simp only [vcA]
 try simp only [vcB]
 try simp only [vcC]
 obtain ⟨h0,h1,h2,h3,h4,h5,h6,h7,h8,hb⟩:=hl
 cases ok with
 | true=>
  obtain ⟨⟨w0,w1,w2,w3,w4,w5,w6,w7,w8,w9⟩,hr,hk⟩:=hok.1 rfl
  have hk':=hk
  simp only [kindOk] at hk
  simp only [h0,h1,h2,h3,h4,h5,h6,h7,h8,and_self,beq_self_eq_true,decide_true,true_and,forall_const,J5,J8,decide_eq_true_eq,decide_eq_false_iff_not,Je,Jf,reduceCtorEq,false_implies,imp_false,and_true,implies_true]
  repeat' first
   | trivial
   | apply J9
   | intro
  all_goals first
   | omega
   | (exfalso;omega)
   | (rename_i hq;exact absurd (hr.symm.trans hq) (by decide))
   | (rename_i hq _;exact absurd (hr.symm.trans hq) (by decide))
   | (rename_i hq _ _;exact absurd (hr.symm.trans hq) (by decide))
 | false=>
  have hn:¬Zp s 12:=fun h=>absurd (hok.2 h) (by decide)
  simp only [h0,h1,h2,h3,h4,h5,h6,h7,h8,and_self,beq_self_eq_true,decide_true,true_and,forall_const,J5,J8,decide_eq_true_eq,decide_eq_false_iff_not,Je,Jf,reduceCtorEq,false_implies,imp_false,and_true,implies_true]
  repeat' first
   | trivial
   | apply J9
   | intro
  all_goals first
   | refine Jf.1 fun hq=> ?_
   | refine Je.1 fun hq=> ?_
   | skip
  all_goals first
   | exact absurd (Zp.mk ⟨by omega,by omega,by omega,by omega,by omega,by omega,by omega,by omega,by omega,by omega⟩ (by assumption) (by simp only [kindOk]<;>omega)) hn
   | exact absurd (Zp.mk ⟨by omega,by omega,by omega,by omega,by omega,by omega,by omega,by omega,by omega,by omega⟩ (by assumption) trivial) hn
theorem Zk3 (s:Zi) (ok:Bool) (hl:s.Len) (hok:ok=true↔Zp s 13):
  evF QE 40 126 [.agg (.int .i64 13::s.r)] ⟨0,[]⟩ (rtK ok):=by
 refine @Eq.mpr _ (let c:=s.tag;let z:=c=c;let a:=s.t;let h:=a.fund;let v:=a.index;let u:=a.cap;let r:=a.dust;let q:=a.fee;let p:=a.delay;let o:=a.k0;let n:=a.k1;let y:=s.reserve;let b:=s.amount;let m:=s.point;let l:=s.nxt;let k:=s.key;let j:=s.hash;let i:=s.secret;let g:=s.id;let f:=s.number;let e:=s.index;let d:=s.expiry;let x:=s.code;let w:=s.route;
 z/\
 h=h/\
 Z7 (v=v) (Z7 (u=u) (Z7 (r=r) (Z7 (q=q) (Z7 (p=p) (o=o/\
 n=n/\
 Z7 (y=y) (Z7 (b=b) (m=m/\
 l=l/\
 k=k/\
 j=j/\
 z/\
 i=i/\
 Z7 (g=g) (Z7 (f=f) (Z7 (e=e) (Z7 (d=d) (Z7 (x=x) (w=w/\
 Z7 (h.length=32/\(32:Nat)=32) (Z7 (o.length=32/\(32:Nat)=32) (Z7 (n.length=32/\(32:Nat)=32) (Z7 (m.length=32/\(32:Nat)=32) (Z7 (l.length=32/\(32:Nat)=32) (Z7 (k.length=32/\(32:Nat)=32) (Z7 (j.length=32/\(32:Nat)=32) (Z7 (c.length=32/\c.length=32) (Z7 (i.length=32/\(32:Nat)=32) (Z5 (!(true&&(h==Z0&&(v==0&&(u==0&&(r==0&&(q==0&&(p==0&&(o==Z0&&n==Z0))))))&&(y==0&&(b==b&&(m==Z0&&(l==Z0&&(k==Z0&&(j==Z0&&(c==c&&(i==Z0&&(g==0&&(f==0&&(e==0&&(d==0&&(x==0&&ByteArray.toList w==ByteArray.toList ByteArray.empty)))))))))))))))) (false=ok) (Z5 (decide (g>=0)) (Z5 (!decide (g<=2147483647)) (false=ok) (Z5 (decide (f>=0)) (Z5 (!decide (f<=2147483647)) (false=ok) (Z5 (decide (e>=0)) (Z5 (!decide (e<=2147483647)) (false=ok) (Z5 (decide (d>=0)) (Z5 (!decide (d<=2147483647)) (false=ok) (Z5 (decide (b>=0)) (Z5 (!decide (b<=1125899906842624)) (false=ok) (true=ok)) (false=ok))) (false=ok))) (false=ok))) (false=ok))) (false=ok)))))))))))))))))))))))) (by kernel_rfl) ?_
 conv=>zeta
 try simp only [vcA]
 try simp only [vcB]
 try simp only [vcC]
 obtain ⟨h0,h1,h2,h3,h4,h5,h6,h7,h8,hb⟩:=hl
 cases ok with
 | true=>
  obtain ⟨⟨w0,w1,w2,w3,w4,w5,w6,w7,w8,w9⟩,hr,hk⟩:=hok.1 rfl
  have hk':=hk
  simp only [kindOk] at hk
  simp only [h0,h1,h2,h3,h4,h5,h6,h7,h8,and_self,beq_self_eq_true,decide_true,true_and,forall_const,J5,J8,decide_eq_true_eq,decide_eq_false_iff_not,Je,Jf,reduceCtorEq,false_implies,imp_false,and_true,implies_true]
  repeat' first
   | trivial
   | apply J9
   | intro
  all_goals first
   | omega
   | (exfalso;omega)
   | (rename_i hq;exact absurd (hr.symm.trans hq) (by decide))
   | (rename_i hq _;exact absurd (hr.symm.trans hq) (by decide))
   | (rename_i hq _ _;exact absurd (hr.symm.trans hq) (by decide))
 | false=>
  have hn:¬Zp s 13:=fun h=>absurd (hok.2 h) (by decide)
  simp only [h0,h1,h2,h3,h4,h5,h6,h7,h8,and_self,beq_self_eq_true,decide_true,true_and,forall_const,J5,J8,decide_eq_true_eq,decide_eq_false_iff_not,Je,Jf,reduceCtorEq,false_implies,imp_false,and_true,implies_true]
  repeat' first
   | trivial
   | apply J9
   | intro
  all_goals first
   | refine Jf.1 fun hq=> ?_
   | refine Je.1 fun hq=> ?_
   | skip
  all_goals first
   | exact absurd (Zp.mk ⟨by omega,by omega,by omega,by omega,by omega,by omega,by omega,by omega,by omega,by omega⟩ (by assumption) (by simp only [kindOk]<;>omega)) hn
   | exact absurd (Zp.mk ⟨by omega,by omega,by omega,by omega,by omega,by omega,by omega,by omega,by omega,by omega⟩ (by assumption) trivial) hn
theorem Zk4 (s:Zi) (ok:Bool) (hl:s.Len) (hok:ok=true↔Zp s 14):
  evF QE 40 126 [.agg (.int .i64 14::s.r)] ⟨0,[]⟩ (rtK ok):=by
 refine @Eq.mpr _ (let a:=s.t;let j:=a.fund;let w:=a.index;let v:=a.cap;let u:=a.dust;let r:=a.fee;let q:=a.delay;let i:=a.k0;let h:=a.k1;let y:=s.reserve;let g:=s.amount;let p:=s.point;let o:=s.nxt;let n:=s.key;let m:=s.hash;let l:=s.tag;let k:=s.secret;let f:=s.id;let e:=s.number;let d:=s.index;let c:=s.expiry;let b:=s.code;let x:=s.route;
 j=j/\
 Z7 (w=w) (Z7 (v=v) (Z7 (u=u) (Z7 (r=r) (Z7 (q=q) (i=i/\
 h=h/\
 Z7 (y=y) (Z7 (g=g) (p=p/\
 o=o/\
 n=n/\
 m=m/\
 l=l/\
 k=k/\
 Z7 (f=f) (Z7 (e=e) (Z7 (d=d) (Z7 (c=c) (Z7 (b=b) (x=x/\
 Z7 (j.length=32/\(32:Nat)=32) (Z7 (i.length=32/\(32:Nat)=32) (Z7 (h.length=32/\(32:Nat)=32) (Z7 (p.length=32/\(32:Nat)=32) (Z7 (o.length=32/\(32:Nat)=32) (Z7 (n.length=32/\(32:Nat)=32) (Z7 (m.length=32/\(32:Nat)=32) (Z7 (l.length=32/\(32:Nat)=32) (Z7 (k.length=32/\(32:Nat)=32) (Z5 (!(true&&(j==Z0&&(w==0&&(v==0&&(u==0&&(r==0&&(q==0&&(i==Z0&&h==Z0))))))&&(y==0&&(g==0&&(p==Z0&&(o==Z0&&(n==Z0&&(m==Z0&&(l==Z0&&(k==Z0&&(f==0&&(e==0&&(d==0&&(c==0&&(b==b&&ByteArray.toList x==ByteArray.toList ByteArray.empty)))))))))))))))) (false=ok) (Z5 (decide (f>=0)) (Z5 (!decide (f<=2147483647)) (false=ok) (Z5 (decide (e>=0)) (Z5 (!decide (e<=2147483647)) (false=ok) (Z5 (decide (d>=0)) (Z5 (!decide (d<=2147483647)) (false=ok) (Z5 (decide (c>=0)) (Z5 (!decide (c<=2147483647)) (false=ok) (Z5 (decide (g>=0)) (Z5 (!decide (g<=1125899906842624)) (false=ok) (Z5 (decide (b>=1)) (decide (b<=999)=ok) (false=ok))) (false=ok))) (false=ok))) (false=ok))) (false=ok))) (false=ok)))))))))))))))))))))))) (by kernel_rfl) ?_
 conv=>zeta
 try simp only [vcA]
 try simp only [vcB]
 try simp only [vcC]
 obtain ⟨h0,h1,h2,h3,h4,h5,h6,h7,h8,hb⟩:=hl
 cases ok with
 | true=>
  obtain ⟨⟨w0,w1,w2,w3,w4,w5,w6,w7,w8,w9⟩,hr,hk⟩:=hok.1 rfl
  have hk':=hk
  simp only [kindOk] at hk
  simp only [h0,h1,h2,h3,h4,h5,h6,h7,h8,and_self,beq_self_eq_true,decide_true,true_and,forall_const,J5,J8,decide_eq_true_eq,decide_eq_false_iff_not,Je,Jf,reduceCtorEq,false_implies,imp_false,and_true,implies_true]
  repeat' first
   | trivial
   | apply J9
   | intro
  all_goals first
   | omega
   | (exfalso;omega)
   | (rename_i hq;exact absurd (hr.symm.trans hq) (by decide))
   | (rename_i hq _;exact absurd (hr.symm.trans hq) (by decide))
   | (rename_i hq _ _;exact absurd (hr.symm.trans hq) (by decide))
 | false=>
  have hn:¬Zp s 14:=fun h=>absurd (hok.2 h) (by decide)
  simp only [h0,h1,h2,h3,h4,h5,h6,h7,h8,and_self,beq_self_eq_true,decide_true,true_and,forall_const,J5,J8,decide_eq_true_eq,decide_eq_false_iff_not,Je,Jf,reduceCtorEq,false_implies,imp_false,and_true,implies_true]
  repeat' first
   | trivial
   | apply J9
   | intro
  all_goals first
   | refine Jf.1 fun hq=> ?_
   | refine Je.1 fun hq=> ?_
   | skip
  all_goals first
   | exact absurd (Zp.mk ⟨by omega,by omega,by omega,by omega,by omega,by omega,by omega,by omega,by omega,by omega⟩ (by assumption) (by simp only [kindOk]<;>omega)) hn
   | exact absurd (Zp.mk ⟨by omega,by omega,by omega,by omega,by omega,by omega,by omega,by omega,by omega,by omega⟩ (by assumption) trivial) hn
theorem ZmA (s:Zi) (k:Int) (hl:s.Len) (hk:k<1\/14<k):
  evF QE 40 126 [.agg (.int .i64 k::s.r)] ⟨0,[]⟩ (rtK false):=by
 refine @Eq.mpr _ (let o:=k==1;let q2:=s.nxt;let a:=q2=q2;let q4:=s.point;let b:=q4=q4;let q6:=s.amount;let e:=decide (q6=q6);let q8:=s.reserve;let j:=decide (q8=q8);let Q:=decide (k=k);let b5:=s.t;let a4:=b5.fund;let P:=a4=a4;let c4:=b5.index;let O:=decide (c4=c4);let b4:=b5.cap;let N:=decide (b4=b4);let c3:=b5.dust;let M:=decide (c3=c3);let c1:=b5.fee;let L:=decide (c1=c1);let c2:=b5.delay;let K:=decide (c2=c2);let a3:=b5.k0;let J:=a3=a3;let b3:=b5.k1;let I:=b3=b3;let b2:=s.key;let H:=b2=b2;let b1:=s.hash;let i:=b1=b1;let b0:=s.tag;let d:=b0=b0;let a9:=s.secret;let h:=a9=a9;let c0:=s.id;let n:=decide (c0=c0);let b9:=s.number;let G:=decide (b9=b9);let a8:=s.index;let m:=decide (a8=a8);let a7:=s.expiry;let g:=decide (a7=a7);let b8:=s.code;let l:=decide (b8=b8);let c7:=s.route;let c:=c7=c7;let f:=a3.length;let f2:=decide (q4.length=32/\q4.length=32);let d5:=decide (q2.length=32/\q2.length=32);let U:=decide (b2.length=32/\(32:Nat)=32);let W:=decide (b1.length=32/\(32:Nat)=32);let a2:=decide (b0.length=32/\(32:Nat)=32);let V:=decide (a9.length=32/\(32:Nat)=32);let F:=k==k;let d4:=q6==q6;let f1:=q4==q4;let d3:=q2==q2;let Z:=b2==Z0;let a6:=b1==Z0;let b7:=b0==Z0;let b6:=a9==Z0;let c6:=c0==0;let c5:=b9==0;let d2:=a8==0;let f0:=a7==0;let e9:=b8==0;let d1:=ByteArray.toList c7;let e8:=d1==ByteArray.toList ByteArray.empty;let e7:=f0&&(e9&&e8);let e6:=d2&&e7;let e5:=c5&&e6;let e4:=b6&&(c6&&e5);let e3:=a6&&(b7&&e4);let e2:=Z&&e3;let E:=decide (c0>=0);let D:= !decide (c0<=2147483647);let C:=decide (b9>=0);let B:= !decide (b9<=2147483647);let A:=decide (a8>=0);let z:= !decide (a8<=2147483647);let y:=decide (a7>=0);let x:= !decide (a7<=2147483647);let w:=decide (q6>=0);let v:= !decide (q6<=1125899906842624);let u:=decide (a4.length=32/\(32:Nat)=32);let e1:=a4==Z0;let e0:=c4==0;let r:=decide (b3.length=32/\(32:Nat)=32);let d9:=b3==Z0;let d8:=Zj.mk a4 c4 b4 c3 c1 c2 a3 (List.set a3 0 (wrap u8 (List.getD a3 0 0+1)));let q:=Z5 u (Z5 e1 (Z5 e0 (Z5 r (Z5 d9 (Zj.Ok d8/\Z5 (Yi d8) (Z5 (decide (q8>=0)) (Z5 (decide (q8<=wrap i64 (Int.tdiv b4 10))) (decide (q6<=wrap i64 (wrap i64 (b4-c1)-q8))=false) (false=false)) (false=false)) (false=false)) (false=false)) False) (false=false)) (false=false)) False;let d0:=k==8;let d7:=Z5 (decide (b8>=1)) (decide (b8<=999)=false) (false=false);let p:=Z5 (k==3) (decide (a8<24)=false) (Z5 (k==6) (Z5 (decide (q6>0)) (Z5 (decide (a7>0)) (decide ((↑(ByteArray.size c7):Int)<=512)=false) (false=false)) (false=false)) (Z5 d0 (Z5 d0 d7 (true=false)) (Z5 (k==14) d7 (true=false))));let T:=decide (f=32/\(32:Nat)=32);let S:=e1&&(e0&&(b4==0&&(c3==0&&(c1==0&&(c2==0&&(a3==Z0&&d9))))));let R:=q8==0;let Y:=q6==0;let X:=decide (q4.length=32/\(32:Nat)=32);let a1:=decide (q2.length=32/\(32:Nat)=32);let g0:=decide (b1.length=32/\b1.length=32);let c9:=decide (b0.length=32/\b0.length=32);let a0:=q4==Z0;let a5:=q2==Z0;let f9:=b1==b1;let d6:=b0==b0;let f8:=a0&&(a5&&(Z&&(a6&&(d6&&e4))));let c8:=c0==c0;let f7:=decide (a9.length=32/\a9.length=32);let f6:=a9==a9;let f5:=c5&&(d2&&(f0&&(b8==b8&&e8)));let f4:=b9==b9&&e6;let f3:=c6&&f4;
 Z5 (decide (k<1)) (false=false)
 (Z5 (decide (k>14)) (false=false)
 (Z5 o
 (a/\
 b/\
 Z5 e
 (Z5 j
 (a/\
 b/\
 Z5 e
 (a/\
 b/\
 a/\
 Z5 Q
 (P/\
 Z5 O
 (Z5 N
 (Z5 M
 (Z5 L
 (Z5 K
 (J/\
 I/\
 Z5 j (Z5 e (b/\a/\H/\i/\d/\h/\Z5 n (Z5 G (Z5 m (Z5 g (Z5 l (c/\Z5 (decide (a4.length=32/\a4.length=32)) (Z5 (decide (f=32/\f=32)) (Z5 (decide (b3.length=32/\b3.length=32)) (Z5 f2 (Z5 d5 (Z5 U (Z5 W (Z5 a2 (Z5 V (Z5 (!(F&&(a4==a4&&(c4==c4&&(b4==b4&&(c3==c3&&(c1==c1&&(c2==c2&&(a3==a3&&b3==b3))))))&&(q8==q8&&(d4&&(f1&&(d3&&e2))))))) (false=false) (Z5 E (Z5 D (false=false) (Z5 C (Z5 B (false=false) (Z5 A (Z5 z (false=false) (Z5 y (Z5 x (false=false) (Z5 w (Z5 v (false=false) (Z5 o (Z5 (decide (u8=u8/\(0:Nat)<32/\0<f)) q False) p)) (false=false))) (false=false))) (false=false))) (false=false))) (false=false))) False) False) False) False) False) False) False) False) False) False) False) False) False) False) False)
 False)
 False)
 False)
 False)
 False)
 False)
 False)
 False)
 False)
 False)
 (Z5 (k==2) (a/\b/\a/\Z5 Q (P/\Z5 O (Z5 N (Z5 M (Z5 L (Z5 K (J/\I/\Z5 j (Z5 e (b/\a/\H/\i/\d/\h/\Z5 n (Z5 G (Z5 m (Z5 g (Z5 l (c/\Z5 u (Z5 T (Z5 r (Z5 f2 (Z5 d5 (Z5 (decide (b2.length=32/\b2.length=32)) (Z5 W (Z5 a2 (Z5 V (Z5 (!(F&&(S&&(R&&(Y&&(f1&&(d3&&(b2==b2&&e3)))))))) (false=false) (Z5 E (Z5 D (false=false) (Z5 C (Z5 B (false=false) (Z5 A (Z5 z (false=false) (Z5 y (Z5 x (false=false) (Z5 w (Z5 v (false=false) (Z5 o (Z5 (decide (u8=u8/\(0:Nat)<32/\0<f)) q False) p)) (false=false))) (false=false))) (false=false))) (false=false))) (false=false))) False) False) False) False) False) False) False) False) False) False) False) False) False) False) False) False) False) False) False) False) False) False)
 (Z5 (k==3) (d/\Z5 m (d/\Z5 Q (P/\Z5 O (Z5 N (Z5 M (Z5 L (Z5 K (J/\I/\Z5 j (Z5 e (b/\a/\H/\i/\d/\h/\Z5 n (Z5 G (Z5 m (Z5 g (Z5 l (c/\Z5 u (Z5 T (Z5 r (Z5 X (Z5 a1 (Z5 U (Z5 g0 (Z5 c9 (Z5 V (Z5 (!(F&&(S&&(R&&(Y&&(a0&&(a5&&(Z&&(f9&&(d6&&(b6&&(c6&&(c5&&(a8==a8&&e7)))))))))))))) (false=false) (Z5 E (Z5 D (false=false) (Z5 C (Z5 B (false=false) (Z5 A (Z5 z (false=false) (Z5 y (Z5 x (false=false) (Z5 w (Z5 v (false=false) (Z5 o (Z5 (decide (u8=u8/\(0:Nat)<32/\0<f)) q False) p)) (false=false))) (false=false))) (false=false))) (false=false))) (false=false))) False) False) False) False) False) False) False) False) False) False) False) False) False) False) False) False) False) False) False) False) False) False) False)
 (Z5 (k==4) (Z5 Q (P/\Z5 O (Z5 N (Z5 M (Z5 L (Z5 K (J/\I/\Z5 j (Z5 e (b/\a/\H/\i/\d/\h/\Z5 n (Z5 G (Z5 m (Z5 g (Z5 l (c/\Z5 u (Z5 T (Z5 r (Z5 X (Z5 a1 (Z5 U (Z5 W (Z5 c9 (Z5 V (Z5 (!(F&&(S&&(R&&(Y&&f8))))) (false=false) (Z5 E (Z5 D (false=false) (Z5 C (Z5 B (false=false) (Z5 A (Z5 z (false=false) (Z5 y (Z5 x (false=false) (Z5 w (Z5 v (false=false) (Z5 o (Z5 (decide (u8=u8/\(0:Nat)<32/\0<f)) q False) p)) (false=false))) (false=false))) (false=false))) (false=false))) (false=false))) False) False) False) False) False) False) False) False) False) False) False) False) False) False) False) False) False) False) False) False) False) False)
 (Z5 (k==6)
 (c/\
 Z5 g
 (i/\
 Z5 e
 (c/\
 Z5 g
 (i/\
 c/\
 Z5 g (c/\Z5 Q (P/\Z5 O (Z5 N (Z5 M (Z5 L (Z5 K (J/\I/\Z5 j (Z5 e (b/\a/\H/\i/\d/\h/\Z5 n (Z5 G (Z5 m (Z5 g (Z5 l (c/\Z5 u (Z5 T (Z5 r (Z5 X (Z5 a1 (Z5 U (Z5 g0 (Z5 a2 (Z5 V (Z5 (!(F&&(S&&(R&&(d4&&(a0&&(a5&&(Z&&(f9&&(b7&&(b6&&(c8&&(c5&&(d2&&(a7==a7&&(e9&&d1==d1)))))))))))))))) (false=false) (Z5 E (Z5 D (false=false) (Z5 C (Z5 B (false=false) (Z5 A (Z5 z (false=false) (Z5 y (Z5 x (false=false) (Z5 w (Z5 v (false=false) (Z5 o (Z5 (decide (u8=u8/\(0:Nat)<32/\0<f)) q False) p)) (false=false))) (false=false))) (false=false))) (false=false))) (false=false))) False) False) False) False) False) False) False) False) False) False) False) False) False) False) False) False) False) False) False) False) False) False) False)
 False)
 False)
 False)
 (Z5 (k==7) (h/\Z5 Q (P/\Z5 O (Z5 N (Z5 M (Z5 L (Z5 K (J/\I/\Z5 j (Z5 e (b/\a/\H/\i/\d/\h/\Z5 n (Z5 G (Z5 m (Z5 g (Z5 l (c/\Z5 u (Z5 T (Z5 r (Z5 X (Z5 a1 (Z5 U (Z5 W (Z5 a2 (Z5 f7 (Z5 (!(F&&(S&&(R&&(Y&&(a0&&(a5&&(Z&&(a6&&(b7&&(f6&&(c8&&e5)))))))))))) (false=false) (Z5 E (Z5 D (false=false) (Z5 C (Z5 B (false=false) (Z5 A (Z5 z (false=false) (Z5 y (Z5 x (false=false) (Z5 w (Z5 v (false=false) (Z5 o (Z5 (decide (u8=u8/\(0:Nat)<32/\0<f)) q False) p)) (false=false))) (false=false))) (false=false))) (false=false))) (false=false))) False) False) False) False) False) False) False) False) False) False) False) False) False) False) False) False) False) False) False) False) False) False)
 (Z5 d0 (Z5 l (Z5 Q (P/\Z5 O (Z5 N (Z5 M (Z5 L (Z5 K (J/\I/\Z5 j (Z5 e (b/\a/\H/\i/\d/\h/\Z5 n (Z5 G (Z5 m (Z5 g (Z5 l (c/\Z5 u (Z5 T (Z5 r (Z5 X (Z5 a1 (Z5 U (Z5 W (Z5 a2 (Z5 V (Z5 (!(F&&(S&&(R&&(Y&&(a0&&(a5&&(Z&&(a6&&(b7&&(b6&&(c8&&f5)))))))))))) (false=false) (Z5 E (Z5 D (false=false) (Z5 C (Z5 B (false=false) (Z5 A (Z5 z (false=false) (Z5 y (Z5 x (false=false) (Z5 w (Z5 v (false=false) (Z5 o (Z5 (decide (u8=u8/\(0:Nat)<32/\0<f)) q False) p)) (false=false))) (false=false))) (false=false))) (false=false))) (false=false))) False) False) False) False) False) False) False) False) False) False) False) False) False) False) False) False) False) False) False) False) False) False) False)
 (Z5 (k==9) (d/\Z5 Q (P/\Z5 O (Z5 N (Z5 M (Z5 L (Z5 K (J/\I/\Z5 j (Z5 e (b/\a/\H/\i/\d/\h/\Z5 n (Z5 G (Z5 m (Z5 g (Z5 l (c/\Z5 u (Z5 T (Z5 r (Z5 X (Z5 a1 (Z5 U (Z5 W (Z5 c9 (Z5 V (Z5 (!(F&&(S&&(R&&(Y&&(a0&&(a5&&(Z&&(a6&&(d6&&(b6&&f3))))))))))) (false=false) (Z5 E (Z5 D (false=false) (Z5 C (Z5 B (false=false) (Z5 A (Z5 z (false=false) (Z5 y (Z5 x (false=false) (Z5 w (Z5 v (false=false) (Z5 o (Z5 (decide (u8=u8/\(0:Nat)<32/\0<f)) q False) p)) (false=false))) (false=false))) (false=false))) (false=false))) (false=false))) False) False) False) False) False) False) False) False) False) False) False) False) False) False) False) False) False) False) False) False) False) False)
 (Z5 (k==10) (a/\h/\a/\Z5 Q (P/\Z5 O (Z5 N (Z5 M (Z5 L (Z5 K (J/\I/\Z5 j (Z5 e (b/\a/\H/\i/\d/\h/\Z5 n (Z5 G (Z5 m (Z5 g (Z5 l (c/\Z5 u (Z5 T (Z5 r (Z5 X (Z5 d5 (Z5 U (Z5 W (Z5 a2 (Z5 f7 (Z5 (!(F&&(S&&(R&&(Y&&(a0&&(d3&&(Z&&(a6&&(b7&&(f6&&f3))))))))))) (false=false) (Z5 E (Z5 D (false=false) (Z5 C (Z5 B (false=false) (Z5 A (Z5 z (false=false) (Z5 y (Z5 x (false=false) (Z5 w (Z5 v (false=false) (Z5 o (Z5 (decide (u8=u8/\(0:Nat)<32/\0<f)) q False) p)) (false=false))) (false=false))) (false=false))) (false=false))) (false=false))) False) False) False) False) False) False) False) False) False) False) False) False) False) False) False) False) False) False) False) False) False) False)
 (Z5 (k==11) (Z5 n (Z5 Q (P/\Z5 O (Z5 N (Z5 M (Z5 L (Z5 K (J/\I/\Z5 j (Z5 e (b/\a/\H/\i/\d/\h/\Z5 n (Z5 G (Z5 m (Z5 g (Z5 l (c/\Z5 u (Z5 T (Z5 r (Z5 X (Z5 a1 (Z5 U (Z5 W (Z5 a2 (Z5 V (Z5 (!(F&&(S&&(R&&(Y&&(a0&&(a5&&(Z&&(a6&&(b7&&(b6&&(c8&&f4)))))))))))) (false=false) (Z5 E (Z5 D (false=false) (Z5 C (Z5 B (false=false) (Z5 A (Z5 z (false=false) (Z5 y (Z5 x (false=false) (Z5 w (Z5 v (false=false) (Z5 o (Z5 (decide (u8=u8/\(0:Nat)<32/\0<f)) q False) p)) (false=false))) (false=false))) (false=false))) (false=false))) (false=false))) False) False) False) False) False) False) False) False) False) False) False) False) False) False) False) False) False) False) False) False) False) False) False)
 (Z5 (k==13) (d/\Z5 Q (P/\Z5 O (Z5 N (Z5 M (Z5 L (Z5 K (J/\I/\Z5 j (Z5 e (b/\a/\H/\i/\d/\h/\Z5 n (Z5 G (Z5 m (Z5 g (Z5 l (c/\Z5 u (Z5 T (Z5 r (Z5 X (Z5 a1 (Z5 U (Z5 W (Z5 c9 (Z5 V (Z5 (!(F&&(S&&(R&&(d4&&f8))))) (false=false) (Z5 E (Z5 D (false=false) (Z5 C (Z5 B (false=false) (Z5 A (Z5 z (false=false) (Z5 y (Z5 x (false=false) (Z5 w (Z5 v (false=false) (Z5 o (Z5 (decide (u8=u8/\(0:Nat)<32/\0<f)) q False) p)) (false=false))) (false=false))) (false=false))) (false=false))) (false=false))) False) False) False) False) False) False) False) False) False) False) False) False) False) False) False) False) False) False) False) False) False) False)
 (Z5 (k==14) (Z5 Q (P/\Z5 O (Z5 N (Z5 M (Z5 L (Z5 K (J/\I/\Z5 j (Z5 e (b/\a/\H/\i/\d/\h/\Z5 n (Z5 G (Z5 m (Z5 g (Z5 l (c/\Z5 u (Z5 T (Z5 r (Z5 X (Z5 a1 (Z5 U (Z5 W (Z5 a2 (Z5 V (Z5 (!(F&&(S&&(R&&(Y&&(a0&&(a5&&(Z&&(a6&&(b7&&(b6&&(c6&&f5)))))))))))) (false=false) (Z5 E (Z5 D (false=false) (Z5 C (Z5 B (false=false) (Z5 A (Z5 z (false=false) (Z5 y (Z5 x (false=false) (Z5 w (Z5 v (false=false) (Z5 o (Z5 (decide (u8=u8/\(0:Nat)<32/\0<f)) q False) p)) (false=false))) (false=false))) (false=false))) (false=false))) (false=false))) False) False) False) False) False) False) False) False) False) False) False) False) False) False) False) False) False) False) False) False) False) False)
 (Z5 Q (P/\Z5 O (Z5 N (Z5 M (Z5 L (Z5 K (J/\I/\Z5 j (Z5 e (b/\a/\H/\i/\d/\h/\Z5 n (Z5 G (Z5 m (Z5 g (Z5 l (c/\Z5 u (Z5 T (Z5 r (Z5 X (Z5 a1 (Z5 U (Z5 W (Z5 a2 (Z5 V (Z5 (!(F&&(S&&(R&&(Y&&(a0&&(a5&&e2))))))) (false=false) (Z5 E (Z5 D (false=false) (Z5 C (Z5 B (false=false) (Z5 A (Z5 z (false=false) (Z5 y (Z5 x (false=false) (Z5 w (Z5 v (false=false) (Z5 o (Z5 (decide (u8=u8/\(0:Nat)<32/\0<f)) q False) p)) (false=false))) (false=false))) (false=false))) (false=false))) (false=false))) False) False) False) False) False) False) False) False) False) False) False) False) False) False) False) False) False) False) False) False) False) False))))))))))))))) (by kernel_rfl) ?_
 conv=>zeta
 rw [ZM]
 refine ⟨fun _=>rfl,fun h1=> ?_⟩
 rw [ZM]
 exact ⟨fun _=>rfl,fun h2=>by omega⟩
theorem ZmB (s:Zi) (ok:Bool) (hl:s.Len) (hok:ok=true↔Zp s 5):
  evF Z0o 40 35 [.agg (.int .i64 5::s.r)] ⟨0,[]⟩ (chK ok):=by
 refine @Eq.mpr _ (let g:=s.id;let b:=s.t;let n:=b.fund;let m:=decide (n.length=32/\(32:Nat)=32);let l:=b.k0;let k:=decide (l.length=32/\(32:Nat)=32);let j:=b.k1;let i:=decide (j.length=32/\(32:Nat)=32);let h:=decide (s.point.length=32/\(32:Nat)=32);let v:=decide (s.nxt.length=32/\(32:Nat)=32);let u:=decide (s.key.length=32/\(32:Nat)=32);let r:=decide (s.hash.length=32/\(32:Nat)=32);let q:=decide (s.tag.length=32/\(32:Nat)=32);let p:=decide (s.secret.length=32/\(32:Nat)=32);let f:=s.amount;let e:=s.number;let d:=s.index;let c:=s.expiry;let o:= !(true&&(n==Z0&&(b.index==0&&(b.cap==0&&(b.dust==0&&(b.fee==0&&(b.delay==0&&(l==Z0&&j==Z0))))))&&(s.reserve==0&&(f==0&&(s.point==Z0&&(s.nxt==Z0&&(s.key==Z0&&(s.hash==Z0&&(s.tag==Z0&&(s.secret==Z0&&(g==0&&(e==0&&(d==0&&(c==0&&(s.code==0&&ByteArray.toList s.route==ByteArray.toList ByteArray.empty)))))))))))))));let a:=Z6 m (Z6 k (Z6 i (Z6 h (Z6 v (Z6 u (Z6 r (Z6 q (Z6 p (Z5 o (ok=false) (ok=false))))))))));
 Z5 (decide (0<=g)) (Z5 (!decide (g<=2147483647)) a (Z5 (decide (0<=e)) (Z5 (!decide (e<=2147483647)) a (Z5 (decide (0<=d)) (Z5 (!decide (d<=2147483647)) a (Z5 (decide (0<=c)) (Z5 (!decide (c<=2147483647)) a (Z6 m (Z6 k (Z6 i (Z6 h (Z6 v (Z6 u (Z6 r (Z6 q (Z6 p (Z5 o (ok=false) (Z5 (decide (f<0)) (ok=false) (Z5 (decide (f>1125899906842624)) (ok=false) (ok=true)))))))))))))) a)) a)) a)) a) (by kernel_rfl) ?_
 conv=>zeta
 try simp only [vcA]
 try simp only [vcB]
 try simp only [vcC]
 obtain ⟨h0,h1,h2,h3,h4,h5,h6,h7,h8,hb⟩:=hl
 simp only [h0,h1,h2,h3,h4,h5,h6,h7,h8,and_self,decide_true,true_and,forall_const,J5,J8,decide_eq_true_eq,decide_eq_false_iff_not,Je,Jf,reduceCtorEq,false_implies,and_true]
 cases ok with
 | true=>
  obtain ⟨⟨w0,w1,w2,w3,w4,w5,w6,w7,w8,w9⟩,hr,hk⟩:=hok.1 rfl
  have hk':=hk
  simp only [kindOk] at hk
  repeat' first
   | trivial
   | apply J9
   | intro
  all_goals first
   | omega
   | (exfalso;omega)
   | (rename_i hq;exact absurd (hr.symm.trans hq) (by decide))
   | (rename_i hq _;exact absurd (hr.symm.trans hq) (by decide))
   | (rename_i hq _ _;exact absurd (hr.symm.trans hq) (by decide))
 | false=>
  have hn:¬Zp s 5:=fun h=>absurd (hok.2 h) (by decide)
  repeat' first
   | trivial
   | apply J9
   | intro
  all_goals first
   | exact absurd (Zp.mk ⟨by omega,by omega,by omega,by omega,by omega,by omega,by omega,by omega,by omega,by omega⟩ (by assumption) (by simp only [kindOk]<;>omega)) hn
   | exact absurd (Zp.mk ⟨by omega,by omega,by omega,by omega,by omega,by omega,by omega,by omega,by omega,by omega⟩ (by assumption) trivial) hn
theorem ZmC (s:Zi) (ok:Bool) (hl:s.Len) (hok:ok=true↔Zp s 6):
  evF Z0o 40 35 [.agg (.int .i64 6::s.r)] ⟨0,[]⟩ (chK ok):=by
 refine @Eq.mpr _ (let b:=s.t;let n:=b.fund;let m:=decide (n.length=32/\(32:Nat)=32);let l:=b.k0;let k:=decide (l.length=32/\(32:Nat)=32);let j:=b.k1;let i:=decide (j.length=32/\(32:Nat)=32);let h:=decide (s.point.length=32/\(32:Nat)=32);let g:=decide (s.nxt.length=32/\(32:Nat)=32);let r:=decide (s.key.length=32/\(32:Nat)=32);let q:=decide (s.tag.length=32/\(32:Nat)=32);let p:=decide (s.secret.length=32/\(32:Nat)=32);let f:=s.number;let e:=s.index;let o:= !(true&&(n==Z0&&(b.index==0&&(b.cap==0&&(b.dust==0&&(b.fee==0&&(b.delay==0&&(l==Z0&&j==Z0))))))&&(s.reserve==0&&(true&&(s.point==Z0&&(s.nxt==Z0&&(s.key==Z0&&(true&&(s.tag==Z0&&(s.secret==Z0&&(true&&(f==0&&(e==0&&(true&&(s.code==0&&true)))))))))))))));let a:=Z6 m (Z6 k (Z6 i (Z6 h (Z6 g (Z6 r (Z6 q (Z6 p (Z5 o (ok=false) (ok=false)))))))));let d:=s.expiry;let c:=s.amount;
 Z5 (decide (0<=s.id)) (Z5 (!decide (s.id<=2147483647)) a (Z5 (decide (0<=f)) (Z5 (!decide (f<=2147483647)) a (Z5 (decide (0<=e)) (Z5 (!decide (e<=2147483647)) a (Z5 (decide (0<=d)) (Z5 (!decide (d<=2147483647)) a (Z6 m (Z6 k (Z6 i (Z6 h (Z6 g (Z6 r (Z6 q (Z6 p (Z5 o (ok=false) (Z5 (decide (c<0)) (ok=false) (Z5 (decide (c>1125899906842624)) (ok=false) (Z5 (decide (c>0)) (Z5 (decide (d>0)) (Z5 (!decide ((↑(ByteArray.size s.route):Int)<=512)) (ok=false) (ok=true)) (ok=false)) (ok=false)))))))))))))) a)) a)) a)) a) (by kernel_rfl) ?_
 conv=>zeta
 try simp only [vcA]
 try simp only [vcB]
 try simp only [vcC]
 obtain ⟨h0,h1,h2,h3,h4,h5,h6,h7,h8,hb⟩:=hl
 simp only [h0,h1,h2,h3,h4,h5,h6,h7,h8,and_self,decide_true,true_and,forall_const,J5,J8,decide_eq_true_eq,decide_eq_false_iff_not,Je,Jf,reduceCtorEq,false_implies,and_true]
 cases ok with
 | true=>
  obtain ⟨⟨w0,w1,w2,w3,w4,w5,w6,w7,w8,w9⟩,hr,hk⟩:=hok.1 rfl
  have hk':=hk
  simp only [kindOk] at hk
  repeat' first
   | trivial
   | apply J9
   | intro
  all_goals first
   | omega
   | (exfalso;omega)
   | (rename_i hq;exact absurd (hr.symm.trans hq) (by decide))
   | (rename_i hq _;exact absurd (hr.symm.trans hq) (by decide))
   | (rename_i hq _ _;exact absurd (hr.symm.trans hq) (by decide))
 | false=>
  have hn:¬Zp s 6:=fun h=>absurd (hok.2 h) (by decide)
  repeat' first
   | trivial
   | apply J9
   | intro
  all_goals first
   | exact absurd (Zp.mk ⟨by omega,by omega,by omega,by omega,by omega,by omega,by omega,by omega,by omega,by omega⟩ (by assumption) (by simp only [kindOk]<;>omega)) hn
   | exact absurd (Zp.mk ⟨by omega,by omega,by omega,by omega,by omega,by omega,by omega,by omega,by omega,by omega⟩ (by assumption) trivial) hn
theorem ZmD (s:Zi) (ok:Bool) (hl:s.Len) (hok:ok=true↔Zp s 7):
  evF Z0o 40 35 [.agg (.int .i64 7::s.r)] ⟨0,[]⟩ (chK ok):=by
 refine @Eq.mpr _ (let b:=s.t;let n:=b.fund;let m:=decide (n.length=32/\(32:Nat)=32);let l:=b.k0;let k:=decide (l.length=32/\(32:Nat)=32);let j:=b.k1;let i:=decide (j.length=32/\(32:Nat)=32);let h:=decide (s.point.length=32/\(32:Nat)=32);let g:=decide (s.nxt.length=32/\(32:Nat)=32);let r:=decide (s.key.length=32/\(32:Nat)=32);let q:=decide (s.hash.length=32/\(32:Nat)=32);let p:=decide (s.tag.length=32/\(32:Nat)=32);let f:=s.amount;let e:=s.number;let d:=s.index;let c:=s.expiry;let o:= !(true&&(n==Z0&&(b.index==0&&(b.cap==0&&(b.dust==0&&(b.fee==0&&(b.delay==0&&(l==Z0&&j==Z0))))))&&(s.reserve==0&&(f==0&&(s.point==Z0&&(s.nxt==Z0&&(s.key==Z0&&(s.hash==Z0&&(s.tag==Z0&&(true&&(true&&(e==0&&(d==0&&(c==0&&(s.code==0&&ByteArray.toList s.route==ByteArray.toList ByteArray.empty)))))))))))))));let a:=Z6 m (Z6 k (Z6 i (Z6 h (Z6 g (Z6 r (Z6 q (Z6 p (Z5 o (ok=false) (ok=false)))))))));
 Z5 (decide (0<=s.id)) (Z5 (!decide (s.id<=2147483647)) a (Z5 (decide (0<=e)) (Z5 (!decide (e<=2147483647)) a (Z5 (decide (0<=d)) (Z5 (!decide (d<=2147483647)) a (Z5 (decide (0<=c)) (Z5 (!decide (c<=2147483647)) a (Z6 m (Z6 k (Z6 i (Z6 h (Z6 g (Z6 r (Z6 q (Z6 p (Z5 o (ok=false) (Z5 (decide (f<0)) (ok=false) (Z5 (decide (f>1125899906842624)) (ok=false) (ok=true))))))))))))) a)) a)) a)) a) (by kernel_rfl) ?_
 conv=>zeta
 try simp only [vcA]
 try simp only [vcB]
 try simp only [vcC]
 obtain ⟨h0,h1,h2,h3,h4,h5,h6,h7,h8,hb⟩:=hl
 simp only [h0,h1,h2,h3,h4,h5,h6,h7,h8,and_self,decide_true,true_and,forall_const,J5,J8,decide_eq_true_eq,decide_eq_false_iff_not,Je,Jf,reduceCtorEq,false_implies,and_true]
 cases ok with
 | true=>
  obtain ⟨⟨w0,w1,w2,w3,w4,w5,w6,w7,w8,w9⟩,hr,hk⟩:=hok.1 rfl
  have hk':=hk
  simp only [kindOk] at hk
  repeat' first
   | trivial
   | apply J9
   | intro
  all_goals first
   | omega
   | (exfalso;omega)
   | (rename_i hq;exact absurd (hr.symm.trans hq) (by decide))
   | (rename_i hq _;exact absurd (hr.symm.trans hq) (by decide))
   | (rename_i hq _ _;exact absurd (hr.symm.trans hq) (by decide))
 | false=>
  have hn:¬Zp s 7:=fun h=>absurd (hok.2 h) (by decide)
  repeat' first
   | trivial
   | apply J9
   | intro
  all_goals first
   | exact absurd (Zp.mk ⟨by omega,by omega,by omega,by omega,by omega,by omega,by omega,by omega,by omega,by omega⟩ (by assumption) (by simp only [kindOk]<;>omega)) hn
   | exact absurd (Zp.mk ⟨by omega,by omega,by omega,by omega,by omega,by omega,by omega,by omega,by omega,by omega⟩ (by assumption) trivial) hn
theorem ZmE (s:Zi) (ok:Bool) (hl:s.Len) (hok:ok=true↔Zp s 8):
  evF Z0o 40 35 [.agg (.int .i64 8::s.r)] ⟨0,[]⟩ (chK ok):=by
 refine @Eq.mpr _ (let b:=s.t;let n:=b.fund;let m:=decide (n.length=32/\(32:Nat)=32);let l:=b.k0;let k:=decide (l.length=32/\(32:Nat)=32);let j:=b.k1;let i:=decide (j.length=32/\(32:Nat)=32);let h:=decide (s.point.length=32/\(32:Nat)=32);let g:=decide (s.nxt.length=32/\(32:Nat)=32);let u:=decide (s.key.length=32/\(32:Nat)=32);let r:=decide (s.hash.length=32/\(32:Nat)=32);let q:=decide (s.tag.length=32/\(32:Nat)=32);let p:=decide (s.secret.length=32/\(32:Nat)=32);let f:=s.amount;let e:=s.number;let d:=s.index;let c:=s.expiry;let o:= !(true&&(n==Z0&&(b.index==0&&(b.cap==0&&(b.dust==0&&(b.fee==0&&(b.delay==0&&(l==Z0&&j==Z0))))))&&(s.reserve==0&&(f==0&&(s.point==Z0&&(s.nxt==Z0&&(s.key==Z0&&(s.hash==Z0&&(s.tag==Z0&&(s.secret==Z0&&(true&&(e==0&&(d==0&&(c==0&&(true&&ByteArray.toList s.route==ByteArray.toList ByteArray.empty)))))))))))))));let a:=Z6 m (Z6 k (Z6 i (Z6 h (Z6 g (Z6 u (Z6 r (Z6 q (Z6 p (Z5 o (ok=false) (ok=false))))))))));
 Z5 (decide (0<=s.id)) (Z5 (!decide (s.id<=2147483647)) a (Z5 (decide (0<=e)) (Z5 (!decide (e<=2147483647)) a (Z5 (decide (0<=d)) (Z5 (!decide (d<=2147483647)) a (Z5 (decide (0<=c)) (Z5 (!decide (c<=2147483647)) a (Z6 m (Z6 k (Z6 i (Z6 h (Z6 g (Z6 u (Z6 r (Z6 q (Z6 p (Z5 o (ok=false) (Z5 (decide (f<0)) (ok=false) (Z5 (decide (f>1125899906842624)) (ok=false) (Z5 (decide (1<=s.code)) (Z5 (!decide (s.code<=999)) (ok=false) (ok=true)) (ok=false))))))))))))))) a)) a)) a)) a) (by kernel_rfl) ?_
 conv=>zeta
 try simp only [vcA]
 try simp only [vcB]
 try simp only [vcC]
 obtain ⟨h0,h1,h2,h3,h4,h5,h6,h7,h8,hb⟩:=hl
 simp only [h0,h1,h2,h3,h4,h5,h6,h7,h8,and_self,decide_true,true_and,forall_const,J5,J8,decide_eq_true_eq,decide_eq_false_iff_not,Je,Jf,reduceCtorEq,false_implies,and_true]
 cases ok with
 | true=>
  obtain ⟨⟨w0,w1,w2,w3,w4,w5,w6,w7,w8,w9⟩,hr,hk⟩:=hok.1 rfl
  have hk':=hk
  simp only [kindOk] at hk
  repeat' first
   | trivial
   | apply J9
   | intro
  all_goals first
   | omega
   | (exfalso;omega)
   | (rename_i hq;exact absurd (hr.symm.trans hq) (by decide))
   | (rename_i hq _;exact absurd (hr.symm.trans hq) (by decide))
   | (rename_i hq _ _;exact absurd (hr.symm.trans hq) (by decide))
 | false=>
  have hn:¬Zp s 8:=fun h=>absurd (hok.2 h) (by decide)
  repeat' first
   | trivial
   | apply J9
   | intro
  all_goals first
   | exact absurd (Zp.mk ⟨by omega,by omega,by omega,by omega,by omega,by omega,by omega,by omega,by omega,by omega⟩ (by assumption) (by simp only [kindOk]<;>omega)) hn
   | exact absurd (Zp.mk ⟨by omega,by omega,by omega,by omega,by omega,by omega,by omega,by omega,by omega,by omega⟩ (by assumption) trivial) hn
theorem ZmF (s:Zi) (ok:Bool) (hl:s.Len) (hok:ok=true↔Zp s 9):
  evF Z0o 40 35 [.agg (.int .i64 9::s.r)] ⟨0,[]⟩ (chK ok):=by
 refine @Eq.mpr _ (let f:=s.id;let a:=s.t;let m:=a.fund;let l:=decide (m.length=32/\(32:Nat)=32);let k:=a.k0;let j:=decide (k.length=32/\(32:Nat)=32);let i:=a.k1;let h:=decide (i.length=32/\(32:Nat)=32);let g:=decide (s.point.length=32/\(32:Nat)=32);let r:=decide (s.nxt.length=32/\(32:Nat)=32);let q:=decide (s.key.length=32/\(32:Nat)=32);let p:=decide (s.hash.length=32/\(32:Nat)=32);let o:=decide (s.secret.length=32/\(32:Nat)=32);let e:=s.amount;let d:=s.index;let c:=s.expiry;let n:= !(true&&(m==Z0&&(a.index==0&&(a.cap==0&&(a.dust==0&&(a.fee==0&&(a.delay==0&&(k==Z0&&i==Z0))))))&&(s.reserve==0&&(e==0&&(s.point==Z0&&(s.nxt==Z0&&(s.key==Z0&&(s.hash==Z0&&(true&&(s.secret==Z0&&(f==0&&(true&&(d==0&&(c==0&&(s.code==0&&ByteArray.toList s.route==ByteArray.toList ByteArray.empty)))))))))))))));let b:=Z6 l (Z6 j (Z6 h (Z6 g (Z6 r (Z6 q (Z6 p (Z6 o (Z5 n (ok=false) (ok=false)))))))));
 Z5 (decide (0<=f)) (Z5 (!decide (f<=2147483647)) b (Z5 (decide (0<=s.number)) (Z5 (!decide (s.number<=2147483647)) b (Z5 (decide (0<=d)) (Z5 (!decide (d<=2147483647)) b (Z5 (decide (0<=c)) (Z5 (!decide (c<=2147483647)) b (Z6 l (Z6 j (Z6 h (Z6 g (Z6 r (Z6 q (Z6 p (Z6 o (Z5 n (ok=false) (Z5 (decide (e<0)) (ok=false) (Z5 (decide (e>1125899906842624)) (ok=false) (ok=true))))))))))))) b)) b)) b)) b) (by kernel_rfl) ?_
 conv=>zeta
 try simp only [vcA]
 try simp only [vcB]
 try simp only [vcC]
 obtain ⟨h0,h1,h2,h3,h4,h5,h6,h7,h8,hb⟩:=hl
 simp only [h0,h1,h2,h3,h4,h5,h6,h7,h8,and_self,decide_true,true_and,forall_const,J5,J8,decide_eq_true_eq,decide_eq_false_iff_not,Je,Jf,reduceCtorEq,false_implies,and_true]
 cases ok with
 | true=>
  obtain ⟨⟨w0,w1,w2,w3,w4,w5,w6,w7,w8,w9⟩,hr,hk⟩:=hok.1 rfl
  have hk':=hk
  simp only [kindOk] at hk
  repeat' first
   | trivial
   | apply J9
   | intro
  all_goals first
   | omega
   | (exfalso;omega)
   | (rename_i hq;exact absurd (hr.symm.trans hq) (by decide))
   | (rename_i hq _;exact absurd (hr.symm.trans hq) (by decide))
   | (rename_i hq _ _;exact absurd (hr.symm.trans hq) (by decide))
 | false=>
  have hn:¬Zp s 9:=fun h=>absurd (hok.2 h) (by decide)
  repeat' first
   | trivial
   | apply J9
   | intro
  all_goals first
   | exact absurd (Zp.mk ⟨by omega,by omega,by omega,by omega,by omega,by omega,by omega,by omega,by omega,by omega⟩ (by assumption) (by simp only [kindOk]<;>omega)) hn
   | exact absurd (Zp.mk ⟨by omega,by omega,by omega,by omega,by omega,by omega,by omega,by omega,by omega,by omega⟩ (by assumption) trivial) hn
theorem Zk5 (s:Zi) (ok:Bool) (hl:s.Len) (hok:ok=true↔Zp s 10):
  evF Z0o 40 35 [.agg (.int .i64 10::s.r)] ⟨0,[]⟩ (chK ok):=by
 refine @Eq.mpr _ (let f:=s.id;let a:=s.t;let m:=a.fund;let l:=decide (m.length=32/\(32:Nat)=32);let k:=a.k0;let j:=decide (k.length=32/\(32:Nat)=32);let i:=a.k1;let h:=decide (i.length=32/\(32:Nat)=32);let g:=decide (s.point.length=32/\(32:Nat)=32);let q:=decide (s.key.length=32/\(32:Nat)=32);let p:=decide (s.hash.length=32/\(32:Nat)=32);let o:=decide (s.tag.length=32/\(32:Nat)=32);let e:=s.amount;let d:=s.index;let c:=s.expiry;let n:= !(true&&(m==Z0&&(a.index==0&&(a.cap==0&&(a.dust==0&&(a.fee==0&&(a.delay==0&&(k==Z0&&i==Z0))))))&&(s.reserve==0&&(e==0&&(s.point==Z0&&(true&&(s.key==Z0&&(s.hash==Z0&&(s.tag==Z0&&(true&&(f==0&&(true&&(d==0&&(c==0&&(s.code==0&&ByteArray.toList s.route==ByteArray.toList ByteArray.empty)))))))))))))));let b:=Z6 l (Z6 j (Z6 h (Z6 g (Z6 q (Z6 p (Z6 o (Z5 n (ok=false) (ok=false))))))));
 Z5 (decide (0<=f)) (Z5 (!decide (f<=2147483647)) b (Z5 (decide (0<=s.number)) (Z5 (!decide (s.number<=2147483647)) b (Z5 (decide (0<=d)) (Z5 (!decide (d<=2147483647)) b (Z5 (decide (0<=c)) (Z5 (!decide (c<=2147483647)) b (Z6 l (Z6 j (Z6 h (Z6 g (Z6 q (Z6 p (Z6 o (Z5 n (ok=false) (Z5 (decide (e<0)) (ok=false) (Z5 (decide (e>1125899906842624)) (ok=false) (ok=true)))))))))))) b)) b)) b)) b) (by kernel_rfl) ?_
 conv=>zeta
 try simp only [vcA]
 try simp only [vcB]
 try simp only [vcC]
 obtain ⟨h0,h1,h2,h3,h4,h5,h6,h7,h8,hb⟩:=hl
 simp only [h0,h1,h2,h3,h4,h5,h6,h7,h8,and_self,decide_true,true_and,forall_const,J5,J8,decide_eq_true_eq,decide_eq_false_iff_not,Je,Jf,reduceCtorEq,false_implies,and_true]
 cases ok with
 | true=>
  obtain ⟨⟨w0,w1,w2,w3,w4,w5,w6,w7,w8,w9⟩,hr,hk⟩:=hok.1 rfl
  have hk':=hk
  simp only [kindOk] at hk
  repeat' first
   | trivial
   | apply J9
   | intro
  all_goals first
   | omega
   | (exfalso;omega)
   | (rename_i hq;exact absurd (hr.symm.trans hq) (by decide))
   | (rename_i hq _;exact absurd (hr.symm.trans hq) (by decide))
   | (rename_i hq _ _;exact absurd (hr.symm.trans hq) (by decide))
 | false=>
  have hn:¬Zp s 10:=fun h=>absurd (hok.2 h) (by decide)
  repeat' first
   | trivial
   | apply J9
   | intro
  all_goals first
   | exact absurd (Zp.mk ⟨by omega,by omega,by omega,by omega,by omega,by omega,by omega,by omega,by omega,by omega⟩ (by assumption) (by simp only [kindOk]<;>omega)) hn
   | exact absurd (Zp.mk ⟨by omega,by omega,by omega,by omega,by omega,by omega,by omega,by omega,by omega,by omega⟩ (by assumption) trivial) hn
theorem Zk6 (s:Zi) (ok:Bool) (hl:s.Len) (hok:ok=true↔Zp s 11):
  evF Z0o 40 35 [.agg (.int .i64 11::s.r)] ⟨0,[]⟩ (chK ok):=by
 refine @Eq.mpr _ (let b:=s.t;let m:=b.fund;let l:=decide (m.length=32/\(32:Nat)=32);let k:=b.k0;let j:=decide (k.length=32/\(32:Nat)=32);let i:=b.k1;let h:=decide (i.length=32/\(32:Nat)=32);let g:=decide (s.point.length=32/\(32:Nat)=32);let f:=decide (s.nxt.length=32/\(32:Nat)=32);let r:=decide (s.key.length=32/\(32:Nat)=32);let q:=decide (s.hash.length=32/\(32:Nat)=32);let p:=decide (s.tag.length=32/\(32:Nat)=32);let o:=decide (s.secret.length=32/\(32:Nat)=32);let e:=s.amount;let d:=s.index;let c:=s.expiry;let n:= !(true&&(m==Z0&&(b.index==0&&(b.cap==0&&(b.dust==0&&(b.fee==0&&(b.delay==0&&(k==Z0&&i==Z0))))))&&(s.reserve==0&&(e==0&&(s.point==Z0&&(s.nxt==Z0&&(s.key==Z0&&(s.hash==Z0&&(s.tag==Z0&&(s.secret==Z0&&(true&&(true&&(d==0&&(c==0&&(s.code==0&&ByteArray.toList s.route==ByteArray.toList ByteArray.empty)))))))))))))));let a:=Z6 l (Z6 j (Z6 h (Z6 g (Z6 f (Z6 r (Z6 q (Z6 p (Z6 o (Z5 n (ok=false) (ok=false))))))))));
 Z5 (decide (0<=s.id)) (Z5 (!decide (s.id<=2147483647)) a (Z5 (decide (0<=s.number)) (Z5 (!decide (s.number<=2147483647)) a (Z5 (decide (0<=d)) (Z5 (!decide (d<=2147483647)) a (Z5 (decide (0<=c)) (Z5 (!decide (c<=2147483647)) a (Z6 l (Z6 j (Z6 h (Z6 g (Z6 f (Z6 r (Z6 q (Z6 p (Z6 o (Z5 n (ok=false) (Z5 (decide (e<0)) (ok=false) (Z5 (decide (e>1125899906842624)) (ok=false) (ok=true)))))))))))))) a)) a)) a)) a) (by kernel_rfl) ?_
 conv=>zeta
 try simp only [vcA]
 try simp only [vcB]
 try simp only [vcC]
 obtain ⟨h0,h1,h2,h3,h4,h5,h6,h7,h8,hb⟩:=hl
 simp only [h0,h1,h2,h3,h4,h5,h6,h7,h8,and_self,decide_true,true_and,forall_const,J5,J8,decide_eq_true_eq,decide_eq_false_iff_not,Je,Jf,reduceCtorEq,false_implies,and_true]
 cases ok with
 | true=>
  obtain ⟨⟨w0,w1,w2,w3,w4,w5,w6,w7,w8,w9⟩,hr,hk⟩:=hok.1 rfl
  have hk':=hk
  simp only [kindOk] at hk
  repeat' first
   | trivial
   | apply J9
   | intro
  all_goals first
   | omega
   | (exfalso;omega)
   | (rename_i hq;exact absurd (hr.symm.trans hq) (by decide))
   | (rename_i hq _;exact absurd (hr.symm.trans hq) (by decide))
   | (rename_i hq _ _;exact absurd (hr.symm.trans hq) (by decide))
 | false=>
  have hn:¬Zp s 11:=fun h=>absurd (hok.2 h) (by decide)
  repeat' first
   | trivial
   | apply J9
   | intro
  all_goals first
   | exact absurd (Zp.mk ⟨by omega,by omega,by omega,by omega,by omega,by omega,by omega,by omega,by omega,by omega⟩ (by assumption) (by simp only [kindOk]<;>omega)) hn
   | exact absurd (Zp.mk ⟨by omega,by omega,by omega,by omega,by omega,by omega,by omega,by omega,by omega,by omega⟩ (by assumption) trivial) hn
theorem Zk7 (s:Zi) (ok:Bool) (hl:s.Len) (hok:ok=true↔Zp s 12):
  evF Z0o 40 35 [.agg (.int .i64 12::s.r)] ⟨0,[]⟩ (chK ok):=by
 refine @Eq.mpr _ (let g:=s.id;let b:=s.t;let n:=b.fund;let m:=decide (n.length=32/\(32:Nat)=32);let l:=b.k0;let k:=decide (l.length=32/\(32:Nat)=32);let j:=b.k1;let i:=decide (j.length=32/\(32:Nat)=32);let h:=decide (s.point.length=32/\(32:Nat)=32);let v:=decide (s.nxt.length=32/\(32:Nat)=32);let u:=decide (s.key.length=32/\(32:Nat)=32);let r:=decide (s.hash.length=32/\(32:Nat)=32);let q:=decide (s.tag.length=32/\(32:Nat)=32);let p:=decide (s.secret.length=32/\(32:Nat)=32);let f:=s.amount;let e:=s.number;let d:=s.index;let c:=s.expiry;let o:= !(true&&(n==Z0&&(b.index==0&&(b.cap==0&&(b.dust==0&&(b.fee==0&&(b.delay==0&&(l==Z0&&j==Z0))))))&&(s.reserve==0&&(f==0&&(s.point==Z0&&(s.nxt==Z0&&(s.key==Z0&&(s.hash==Z0&&(s.tag==Z0&&(s.secret==Z0&&(g==0&&(e==0&&(d==0&&(c==0&&(s.code==0&&ByteArray.toList s.route==ByteArray.toList ByteArray.empty)))))))))))))));let a:=Z6 m (Z6 k (Z6 i (Z6 h (Z6 v (Z6 u (Z6 r (Z6 q (Z6 p (Z5 o (ok=false) (ok=false))))))))));
 Z5 (decide (0<=g)) (Z5 (!decide (g<=2147483647)) a (Z5 (decide (0<=e)) (Z5 (!decide (e<=2147483647)) a (Z5 (decide (0<=d)) (Z5 (!decide (d<=2147483647)) a (Z5 (decide (0<=c)) (Z5 (!decide (c<=2147483647)) a (Z6 m (Z6 k (Z6 i (Z6 h (Z6 v (Z6 u (Z6 r (Z6 q (Z6 p (Z5 o (ok=false) (Z5 (decide (f<0)) (ok=false) (Z5 (decide (f>1125899906842624)) (ok=false) (ok=true)))))))))))))) a)) a)) a)) a) (by kernel_rfl) ?_
 conv=>zeta
 try simp only [vcA]
 try simp only [vcB]
 try simp only [vcC]
 obtain ⟨h0,h1,h2,h3,h4,h5,h6,h7,h8,hb⟩:=hl
 simp only [h0,h1,h2,h3,h4,h5,h6,h7,h8,and_self,decide_true,true_and,forall_const,J5,J8,decide_eq_true_eq,decide_eq_false_iff_not,Je,Jf,reduceCtorEq,false_implies,and_true]
 cases ok with
 | true=>
  obtain ⟨⟨w0,w1,w2,w3,w4,w5,w6,w7,w8,w9⟩,hr,hk⟩:=hok.1 rfl
  have hk':=hk
  simp only [kindOk] at hk
  repeat' first
   | trivial
   | apply J9
   | intro
  all_goals first
   | omega
   | (exfalso;omega)
   | (rename_i hq;exact absurd (hr.symm.trans hq) (by decide))
   | (rename_i hq _;exact absurd (hr.symm.trans hq) (by decide))
   | (rename_i hq _ _;exact absurd (hr.symm.trans hq) (by decide))
 | false=>
  have hn:¬Zp s 12:=fun h=>absurd (hok.2 h) (by decide)
  repeat' first
   | trivial
   | apply J9
   | intro
  all_goals first
   | exact absurd (Zp.mk ⟨by omega,by omega,by omega,by omega,by omega,by omega,by omega,by omega,by omega,by omega⟩ (by assumption) (by simp only [kindOk]<;>omega)) hn
   | exact absurd (Zp.mk ⟨by omega,by omega,by omega,by omega,by omega,by omega,by omega,by omega,by omega,by omega⟩ (by assumption) trivial) hn
theorem ZmG (s:Zi) (ok:Bool) (hl:s.Len) (hok:ok=true↔Zp s 13):
  evF Z0o 40 35 [.agg (.int .i64 13::s.r)] ⟨0,[]⟩ (chK ok):=by
 refine @Eq.mpr _ (let f:=s.id;let a:=s.t;let m:=a.fund;let l:=decide (m.length=32/\(32:Nat)=32);let k:=a.k0;let j:=decide (k.length=32/\(32:Nat)=32);let i:=a.k1;let h:=decide (i.length=32/\(32:Nat)=32);let g:=decide (s.point.length=32/\(32:Nat)=32);let r:=decide (s.nxt.length=32/\(32:Nat)=32);let q:=decide (s.key.length=32/\(32:Nat)=32);let p:=decide (s.hash.length=32/\(32:Nat)=32);let o:=decide (s.secret.length=32/\(32:Nat)=32);let e:=s.number;let d:=s.index;let c:=s.expiry;let n:= !(true&&(m==Z0&&(a.index==0&&(a.cap==0&&(a.dust==0&&(a.fee==0&&(a.delay==0&&(k==Z0&&i==Z0))))))&&(s.reserve==0&&(true&&(s.point==Z0&&(s.nxt==Z0&&(s.key==Z0&&(s.hash==Z0&&(true&&(s.secret==Z0&&(f==0&&(e==0&&(d==0&&(c==0&&(s.code==0&&ByteArray.toList s.route==ByteArray.toList ByteArray.empty)))))))))))))));let b:=Z6 l (Z6 j (Z6 h (Z6 g (Z6 r (Z6 q (Z6 p (Z6 o (Z5 n (ok=false) (ok=false)))))))));
 Z5 (decide (0<=f)) (Z5 (!decide (f<=2147483647)) b (Z5 (decide (0<=e)) (Z5 (!decide (e<=2147483647)) b (Z5 (decide (0<=d)) (Z5 (!decide (d<=2147483647)) b (Z5 (decide (0<=c)) (Z5 (!decide (c<=2147483647)) b (Z6 l (Z6 j (Z6 h (Z6 g (Z6 r (Z6 q (Z6 p (Z6 o (Z5 n (ok=false) (Z5 (decide (s.amount<0)) (ok=false) (Z5 (decide (s.amount>1125899906842624)) (ok=false) (ok=true))))))))))))) b)) b)) b)) b) (by kernel_rfl) ?_
 conv=>zeta
 try simp only [vcA]
 try simp only [vcB]
 try simp only [vcC]
 obtain ⟨h0,h1,h2,h3,h4,h5,h6,h7,h8,hb⟩:=hl
 simp only [h0,h1,h2,h3,h4,h5,h6,h7,h8,and_self,decide_true,true_and,forall_const,J5,J8,decide_eq_true_eq,decide_eq_false_iff_not,Je,Jf,reduceCtorEq,false_implies,and_true]
 cases ok with
 | true=>
  obtain ⟨⟨w0,w1,w2,w3,w4,w5,w6,w7,w8,w9⟩,hr,hk⟩:=hok.1 rfl
  have hk':=hk
  simp only [kindOk] at hk
  repeat' first
   | trivial
   | apply J9
   | intro
  all_goals first
   | omega
   | (exfalso;omega)
   | (rename_i hq;exact absurd (hr.symm.trans hq) (by decide))
   | (rename_i hq _;exact absurd (hr.symm.trans hq) (by decide))
   | (rename_i hq _ _;exact absurd (hr.symm.trans hq) (by decide))
 | false=>
  have hn:¬Zp s 13:=fun h=>absurd (hok.2 h) (by decide)
  repeat' first
   | trivial
   | apply J9
   | intro
  all_goals first
   | exact absurd (Zp.mk ⟨by omega,by omega,by omega,by omega,by omega,by omega,by omega,by omega,by omega,by omega⟩ (by assumption) (by simp only [kindOk]<;>omega)) hn
   | exact absurd (Zp.mk ⟨by omega,by omega,by omega,by omega,by omega,by omega,by omega,by omega,by omega,by omega⟩ (by assumption) trivial) hn
theorem ZmH (s:Zi) (ok:Bool) (hl:s.Len) (hok:ok=true↔Zp s 14):
  evF Z0o 40 35 [.agg (.int .i64 14::s.r)] ⟨0,[]⟩ (chK ok):=by
 refine @Eq.mpr _ (let g:=s.id;let b:=s.t;let n:=b.fund;let m:=decide (n.length=32/\(32:Nat)=32);let l:=b.k0;let k:=decide (l.length=32/\(32:Nat)=32);let j:=b.k1;let i:=decide (j.length=32/\(32:Nat)=32);let h:=decide (s.point.length=32/\(32:Nat)=32);let v:=decide (s.nxt.length=32/\(32:Nat)=32);let u:=decide (s.key.length=32/\(32:Nat)=32);let r:=decide (s.hash.length=32/\(32:Nat)=32);let q:=decide (s.tag.length=32/\(32:Nat)=32);let p:=decide (s.secret.length=32/\(32:Nat)=32);let f:=s.amount;let e:=s.number;let d:=s.index;let c:=s.expiry;let o:= !(true&&(n==Z0&&(b.index==0&&(b.cap==0&&(b.dust==0&&(b.fee==0&&(b.delay==0&&(l==Z0&&j==Z0))))))&&(s.reserve==0&&(f==0&&(s.point==Z0&&(s.nxt==Z0&&(s.key==Z0&&(s.hash==Z0&&(s.tag==Z0&&(s.secret==Z0&&(g==0&&(e==0&&(d==0&&(c==0&&(true&&ByteArray.toList s.route==ByteArray.toList ByteArray.empty)))))))))))))));let a:=Z6 m (Z6 k (Z6 i (Z6 h (Z6 v (Z6 u (Z6 r (Z6 q (Z6 p (Z5 o (ok=false) (ok=false))))))))));
 Z5 (decide (0<=g)) (Z5 (!decide (g<=2147483647)) a (Z5 (decide (0<=e)) (Z5 (!decide (e<=2147483647)) a (Z5 (decide (0<=d)) (Z5 (!decide (d<=2147483647)) a (Z5 (decide (0<=c)) (Z5 (!decide (c<=2147483647)) a (Z6 m (Z6 k (Z6 i (Z6 h (Z6 v (Z6 u (Z6 r (Z6 q (Z6 p (Z5 o (ok=false) (Z5 (decide (f<0)) (ok=false) (Z5 (decide (f>1125899906842624)) (ok=false) (Z5 (decide (1<=s.code)) (Z5 (!decide (s.code<=999)) (ok=false) (ok=true)) (ok=false))))))))))))))) a)) a)) a)) a) (by kernel_rfl) ?_
 conv=>zeta
 try simp only [vcA]
 try simp only [vcB]
 try simp only [vcC]
 obtain ⟨h0,h1,h2,h3,h4,h5,h6,h7,h8,hb⟩:=hl
 simp only [h0,h1,h2,h3,h4,h5,h6,h7,h8,and_self,decide_true,true_and,forall_const,J5,J8,decide_eq_true_eq,decide_eq_false_iff_not,Je,Jf,reduceCtorEq,false_implies,and_true]
 cases ok with
 | true=>
  obtain ⟨⟨w0,w1,w2,w3,w4,w5,w6,w7,w8,w9⟩,hr,hk⟩:=hok.1 rfl
  have hk':=hk
  simp only [kindOk] at hk
  repeat' first
   | trivial
   | apply J9
   | intro
  all_goals first
   | omega
   | (exfalso;omega)
   | (rename_i hq;exact absurd (hr.symm.trans hq) (by decide))
   | (rename_i hq _;exact absurd (hr.symm.trans hq) (by decide))
   | (rename_i hq _ _;exact absurd (hr.symm.trans hq) (by decide))
 | false=>
  have hn:¬Zp s 14:=fun h=>absurd (hok.2 h) (by decide)
  repeat' first
   | trivial
   | apply J9
   | intro
  all_goals first
   | exact absurd (Zp.mk ⟨by omega,by omega,by omega,by omega,by omega,by omega,by omega,by omega,by omega,by omega⟩ (by assumption) (by simp only [kindOk]<;>omega)) hn
   | exact absurd (Zp.mk ⟨by omega,by omega,by omega,by omega,by omega,by omega,by omega,by omega,by omega,by omega⟩ (by assumption) trivial) hn
def noQ:ZO:=fun _ _ _=>False
theorem Z9i {f:FuncId} (args:List AV) (h:Z8) (K:KO) (hl:noQ args h K):Ze PP f args h K:=hl.elim
noncomputable def ZmI:Zb:=((G0.withF 227 noQ).withF 230 noQ).withF 235 noQ
theorem Zow (s:Zi) (k:Int) (hl:s.Len) (hk:k<1\/14<k):
  evF ZmI 40 35 [.agg (.int .i64 k::s.r)] ⟨0,[]⟩ (chK false):=by
 refine @Eq.mpr _ (let f:=s.id;let b:=s.t;let w:=b.fund;let l:=decide (w.length=32/\(32:Nat)=32);let v:=b.k0;let j:=decide (v.length=32/\(32:Nat)=32);let u:=b.k1;let i:=decide (u.length=32/\(32:Nat)=32);let h:=decide (s.point.length=32/\(32:Nat)=32);let r:=decide (s.nxt.length=32/\(32:Nat)=32);let q:=decide (s.key.length=32/\(32:Nat)=32);let p:=decide (s.hash.length=32/\(32:Nat)=32);let o:=decide (s.tag.length=32/\(32:Nat)=32);let n:=decide (s.secret.length=32/\(32:Nat)=32);let g:=s.amount;let e:=s.number;let d:=s.index;let c:=s.expiry;let m:= !(k==k&&(w==Z0&&(b.index==0&&(b.cap==0&&(b.dust==0&&(b.fee==0&&(b.delay==0&&(v==Z0&&u==Z0))))))&&(s.reserve==0&&(g==0&&(s.point==Z0&&(s.nxt==Z0&&(s.key==Z0&&(s.hash==Z0&&(s.tag==Z0&&(s.secret==Z0&&(f==0&&(e==0&&(d==0&&(c==0&&(s.code==0&&ByteArray.toList s.route==ByteArray.toList ByteArray.empty)))))))))))))));let a:=Z6 l (Z6 j (Z6 i (Z6 h (Z6 r (Z6 q (Z6 p (Z6 o (Z6 n (Z5 m (false=false) (false=false))))))))));
 Z7 (k=k) (Z5 (decide (k=1)) False (Z5 (decide (k=2)) False (Z5 (decide (k=3)) False (Z5 (decide (k=4)) False (Z5 (decide (k=5)) (Z5 (decide (0<=f)) (Z5 (!decide (f<=2147483647)) a (Z5 (decide (0<=e)) (Z5 (!decide (e<=2147483647)) a (Z5 (decide (0<=d)) (Z5 (!decide (d<=2147483647)) a (Z5 (decide (0<=c)) (Z5 (!decide (c<=2147483647)) a (Z6 l (Z6 j (Z6 i (Z6 h (Z6 r (Z6 q (Z6 p (Z6 o (Z6 n (Z5 m (false=false) (Z5 (decide (g<0)) (false=false) (Z5 (decide (g>1125899906842624)) (false=false) (false=true)))))))))))))) a)) a)) a)) a) (Z5 (decide (k=6)) False (Z5 (decide (k=7)) False (Z5 (decide (k=8)) False (Z5 (decide (k=9)) False (Z5 (decide (k=10)) False (Z5 (decide (k=11)) False (Z5 (decide (k=12)) (Z5 (decide (0<=f)) (Z5 (!decide (f<=2147483647)) a (Z5 (decide (0<=e)) (Z5 (!decide (e<=2147483647)) a (Z5 (decide (0<=d)) (Z5 (!decide (d<=2147483647)) a (Z5 (decide (0<=c)) (Z5 (!decide (c<=2147483647)) a (Z6 l (Z6 j (Z6 i (Z6 h (Z6 r (Z6 q (Z6 p (Z6 o (Z6 n (Z5 m (false=false) (Z5 (decide (g<0)) (false=false) (Z5 (decide (g>1125899906842624)) (false=false) (false=true)))))))))))))) a)) a)) a)) a) (Z5 (decide (k=13)) False (Z5 (decide (k=14)) False (Z5 (decide (0<=f)) (Z5 (!decide (f<=2147483647)) (false=false) (Z5 (decide (0<=e)) (Z5 (!decide (e<=2147483647)) (false=false) (Z5 (decide (0<=d)) (Z5 (!decide (d<=2147483647)) (false=false) (Z5 (decide (0<=c)) (Z5 (!decide (c<=2147483647)) (false=false) (false=false)) (false=false))) (false=false))) (false=false))) (false=false))))))))))))))))) (by kernel_rfl) ?_
 conv=>zeta
 try simp only [vcA]
 try simp only [vcB]
 try simp only [vcC]
 obtain ⟨h0,h1,h2,h3,h4,h5,h6,h7,h8,hb⟩:=hl
 simp only [h0,h1,h2,h3,h4,h5,h6,h7,h8,and_self,decide_true,true_and,forall_const,J5,J8,decide_eq_true_eq,decide_eq_false_iff_not,Je,Jf,reduceCtorEq,false_implies,and_true]
 repeat' first
  | trivial
  | apply J9
  | intro
 all_goals first
  | omega
  | (exfalso;omega)
def Xi {α:Type} (lt:α->α->Bool) (x:α):List α->List α
 | []=>[x]
 | y::r=>match lt x y with
  | true=>x::y::r
  | false=>y::Xi lt x r
def XW {α:Type} (lt:α->α->Bool):List α->List α->List α
 | acc,[]=>acc
 | acc,x::r=>XW lt (Xi lt x acc) r
def Z3N {α:Type} (lt:α->α->Bool) (l:List α):Prop:=l.Pairwise fun a b=>lt b a=false
structure WO {α:Type} (lt:α->α->Bool):Prop where
 asym:∀x y,lt x y=true->lt y x=false
 neg:∀x y z,lt x y=true->lt z y=false->lt x z=true
theorem Z7v {α:Type} {lt:α->α->Bool} {x z:α}:∀{l:List α},z∈Xi lt x l↔z=x\/z∈l
 | []=>by simp [Xi]
 | y::r=>by
  unfold Xi
  split
  ·simp
  ·simp only [Jc,Z7v (l:=r)]
   constructor<;>(intro h;rcases h with h|h|h<;>simp [h])
theorem Z3O {α:Type} {lt:α->α->Bool} {x:α}:∀{l:List α},(Xi lt x l).length=l.length+1
 | []=>rfl
 | y::r=>by
  unfold Xi
  split
  ·simp
  ·simp [Z3O (l:=r)]
theorem Z56 {α:Type} {lt:α->α->Bool} {x:α}:∀{l:List α},(Xi lt x l).Perm (x::l)
 | []=>.refl _
 | y::r=>by
  unfold Xi
  split
  ·exact .refl _
  ·exact (List.Perm.cons y Z56).trans (List.Perm.swap x y r)
theorem Z7w {α:Type} {lt:α->α->Bool} (wo:WO lt) {x:α}:∀{l:List α},Z3N lt l->Z3N lt (Xi lt x l)
 | [],_=>by simp [Xi,Z3N]
 | y::r,h=>by
  unfold Z3N at h
  rw [Ko] at h
  unfold Xi
  split
  ·rename_i hx
   unfold Z3N
   rw [Ko,Ko]
   refine ⟨fun z hz=> ?_,h.1,h.2⟩
   rcases Jc.1 hz with rfl|hz
   ·exact wo.asym _ _ hx
   ·cases hzx:lt z x with
    | false=>rfl
    | true=>
     have:=h.1 z hz
     -- z < x < y, so z < y
     have h2:=wo.neg z x y hzx (wo.asym _ _ hx)
     rw [h2] at this;cases this
  ·rename_i hx
   unfold Z3N
   rw [Ko]
   refine ⟨fun z hz=> ?_,Z7w wo h.2⟩
   rcases Z7v.1 hz with rfl|hz
   ·exact hx
   ·exact h.1 z hz
theorem Zas {α:Type} {lt:α->α->Bool} (wo:WO lt) {x:α}:∀{l:List α} {j:Nat},Z3N lt l->j<=l.length->(∀y∈l.drop j,lt x y=true)->(∀y,l[j-1]? =some y->0<j->lt x y=false)->
  l.take j++x::l.drop j=Xi lt x l
 | [],j,_,hj,_,_=>by simp at hj;simp [Xi]
 | y::r,0,_,_,h1,_=>by
  have:=h1 y (by simp)
  unfold Xi
  rw [this];simp
 | y::r,j+1,ho,hj,h1,h2=>by
  unfold Z3N at ho
  rw [Ko] at ho
  have hy:lt x y=false:=by
   cases hxy:lt x y with
   | false=>rfl
   | true=>
    cases j with
    | zero=>rw [h2 y (by simp) (by omega)] at hxy;cases hxy
    | succ k=>
     simp at hj
     have hk:k<r.length:=by omega
     have h3:=h2 r[k] (by simp [hk]) (by omega)
     have h4:=ho.1 r[k] (Kg hk)
     rw [wo.neg x y _ hxy h4] at h3;cases h3
  unfold Xi
  rw [hy]
  simp only [List.take_succ_cons,List.drop_succ_cons,List.cons_append,List.cons.injEq,true_and]
  refine Zas wo ho.2 (by simpa using hj) (by simpa using h1) fun z hz hj'=>h2 z ?_ (by omega)
  cases j with
  | zero=>omega
  | succ k=>simpa using hz
theorem Z57 {α:Type} {lt:α->α->Bool} (wo:WO lt):∀{l acc:List α},Z3N lt acc->Z3N lt (XW lt acc l)
 | [],_,h=>h
 | _::_,_,h=>by unfold XW;exact Z57 wo (Z7w wo h)
theorem Uq {α:Type} {lt:α->α->Bool}:∀{l acc:List α},(XW lt acc l).Perm (acc++l)
 | [],acc=>by simp [XW]
 | x::r,acc=>by
  unfold XW
  refine Uq.trans ?_
  refine (List.Perm.append_right r Z56).trans ?_
  rw [List.cons_append]
  exact List.perm_middle.symm
theorem Z58 {α:Type} {lt:α->α->Bool} {l acc:List α}:(XW lt acc l).length=acc.length+l.length:=by
 rw [(Uq (lt:=lt)).length_eq,J6]
theorem Z3P {α:Type} {lt:α->α->Bool} {x:α}:∀{l acc:List α},XW lt acc (l++[x])=Xi lt x (XW lt acc l)
 | [],acc=>rfl
 | y::r,acc=>by
  simp only [List.cons_append,XW]
  exact Z3P
def Xc:LI->Nat
 | []=>0
 | a::r=>(V0 a).toNat*256^r.length+Xc r
theorem Z64:∀(x:LI),Xc x<256^x.length
 | []=>by simp [Xc]
 | a::r=>by
  have h1:=Z64 r
  have h2:=(V0 a).toNat_lt
  simp only [Xc,Jk,Nat.pow_succ]
  have h3:(V0 a).toNat*256^r.length<=255*256^r.length:=JJ _ (by omega)
  omega
theorem Z7x:∀(x y:LI),x.length=y.length->X7 x y=if Xc x<Xc y then -1 else if Xc y<Xc x then 1 else 0
 | [],[],_=>by simp [X7,Lib.compareBytes,Xc]
 | [],b::s,h=>by simp at h
 | a::r,[],h=>by simp at h
 | a::r,b::s,h=>by
  have h':r.length=s.length:=by simpa using h
  have ih:=Z7x r s h'
  have e1:Xc (a::r)=(V0 a).toNat*256^r.length+Xc r:=rfl
  have e2:Xc (b::s)=(V0 b).toNat*256^r.length+Xc s:=by rw [h'];rfl
  have e3:X7 (a::r) (b::s)=if (V0 a).toNat<(V0 b).toNat then -1 else if (V0 b).toNat<(V0 a).toNat then 1 else X7 r s:=by
   unfold X7;simp only [K7,Lib.compareBytes,UInt8.lt_iff_toNat_lt]
  have h1:=Z64 r
  have h2:=Z64 s
  rw [<-h'] at h2
  rw [e3]
  generalize Xc (a::r)=A at*
  generalize Xc (b::s)=B at*
  generalize (V0 a).toNat=u at*
  generalize (V0 b).toNat=v at*
  generalize hM:256^r.length=M at*
  have hs:∀p q:Nat,p<q->p*M+M<=q*M:=fun p q hpq=>by
   have:(p+1)*M<=q*M:=JJ _ hpq
   rw [K1,Nat.one_mul] at this
   exact this
  by_cases c1:u<v
  ·have:=hs u v c1
   rw [if_pos c1,if_pos (by omega)]
  ·rw [if_neg c1]
   by_cases c2:v<u
   ·have:=hs v u c2
    rw [if_pos c2,if_neg (by omega),if_pos (by omega)]
   ·rw [if_neg c2,ih]
    have:u=v:=by omega
    subst this
    simp only [show (A<B)=(Xc r<Xc s) from propext (by omega),show (B<A)=(Xc s<Xc r) from propext (by omega)]
structure Z9 where
 o:ZF
 id:Int
 what:Int
variable {z:Z9} {O:List Z9}
def Z9.c (m:Z9):List AV:=[.int .i64 m.o.kind,.int .i64 m.o.amount,.arr .u8 32 m.o.owner,.arr .u8 32 m.o.other,.arr .u8 32 m.o.point,.arr .u8 32 m.o.hash,.int .i64 m.o.delay,.int .i64 m.o.expiry,.int .i64 m.id,.int .i64 m.what]
structure Z9.Ok (m:Z9):Prop where
 owner:m.o.owner.length=32
 other:m.o.other.length=32
 point:m.o.point.length=32
 hash:m.o.hash.length=32
def Yq:Z9:=⟨⟨0,0,[],[],[],[],0,0⟩,0,0⟩
def Qe (a b:Int):Int:=if a<b then -1 else if b<a then 1 else 0
def Zc0 (a b:Z9):Int:=
 if Qe a.o.amount b.o.amount≠0 then Qe a.o.amount b.o.amount else
 if Qe a.o.kind b.o.kind≠0 then Qe a.o.kind b.o.kind else
 if Qe a.o.expiry b.o.expiry≠0 then Qe a.o.expiry b.o.expiry else
 if X7 a.o.hash b.o.hash≠0 then X7 a.o.hash b.o.hash else Qe a.id b.id
def ltM (a b:Z9):Bool:=decide (a.o.amount<b.o.amount\/(a.o.amount=b.o.amount/\(a.o.kind<b.o.kind\/(a.o.kind=b.o.kind/\(a.o.expiry<b.o.expiry\/(a.o.expiry=b.o.expiry/\(Xc a.o.hash<Xc b.o.hash\/(Xc a.o.hash=Xc b.o.hash/\a.id<b.id))))))))
theorem U6 (a b:Int):(a<b/\Qe a b= -1)\/(b<a/\Qe a b=1)\/(a=b/\Qe a b=0):=by unfold Qe;omega
theorem Z59 {x y:LI} (h:x.length=y.length):(Xc x<Xc y/\X7 x y= -1)\/(Xc y<Xc x/\X7 x y=1)\/(Xc x=Xc y/\X7 x y=0):=by
 rw [Z7x x y h];omega
theorem Zhi {a b:Z9} (ha:a.Ok) (hb:b.Ok):decide (Zc0 a b<0)=ltM a b:=by
 unfold Zc0 ltM
 have h1:=U6 a.o.amount b.o.amount
 have h2:=U6 a.o.kind b.o.kind
 have h3:=U6 a.o.expiry b.o.expiry
 have h4:=Z59 (ha.hash.trans hb.hash.symm)
 have h5:=U6 a.id b.id
 rw [decide_eq_decide]
 generalize Qe a.o.amount b.o.amount=c1 at*
 generalize Qe a.o.kind b.o.kind=c2 at*
 generalize Qe a.o.expiry b.o.expiry=c3 at*
 generalize X7 a.o.hash b.o.hash=c4 at*
 generalize Qe a.id b.id=c5 at*
 generalize Xc a.o.hash=v1 at*
 generalize Xc b.o.hash=v2 at*
 omega
theorem Zeq:WO ltM where
 asym x y h:=by
  unfold ltM at*
  simp only [decide_eq_true_eq,decide_eq_false_iff_not] at*
  generalize Xc x.o.hash=v1 at*
  generalize Xc y.o.hash=v2 at*
  omega
 neg x y z h h2:=by
  unfold ltM at*
  simp only [decide_eq_true_eq,decide_eq_false_iff_not] at*
  generalize Xc x.o.hash=v1 at*
  generalize Xc y.o.hash=v2 at*
  generalize Xc z.o.hash=v3 at*
  omega
def ZR (l:List Z9):List Z9:=XW ltM [] l
def Zl (l:List Z9) (i:Nat):List AV:=(l.getD i Yq).c
def byL:List AV:=[.func (.func 170) [] [],.func (.func 172) [] [],.func (.func 174) [] [],.func (.func 175) [] [],.func (.func 176) [] []]
theorem Zat {a b r c:Int} {P X Y:Prop} (hr:r=if Qe a b≠0 then Qe a b else c) (hP:r=c->P):
  Z5 (a !=a) X (Z5 (b !=b) Y (Z5 (decide (a<b)) (Z5 (decide (-1=r)) True False) (Z5 (decide (a>b)) (Z5 (decide (1=r)) True False) P))):=by
 rw [bne_self_eq_false,bne_self_eq_false]
 show Z5 (decide (a<b)) _ (Z5 (decide (a>b)) _ P)
 rcases U6 a b with ⟨h1,h2⟩|⟨h1,h2⟩|⟨h1,h2⟩
 ·rw [decide_eq_true h1,hr,h2];trivial
 ·rw [decide_eq_false (by omega:¬a<b),decide_eq_true (show a>b from h1),hr,h2];trivial
 ·rw [decide_eq_false (by omega:¬a<b),decide_eq_false (show ¬a>b by omega)]
  exact hP (by rw [hr,h2];rfl)
theorem ZmJ (a b:Z9) (r:Int) (ha:a.Ok) (hb:b.Ok) (hr:r=Zc0 a b):
  evF G0 20 241 [.agg a.c,.agg b.c,.pview [.vrows 1 5 (Ye byL 0 1) 5] 0] ⟨0,[]⟩ (ZH 0 (.ret (.int .i64 r)) 0 []):=by
 refine @Eq.mpr _ (let n:=a.o;let j:=n.amount;let i:=b.o;let h:=i.amount;let q:=h !=h;let g:=n.kind;let f:=i.kind;let p:=f !=f;let e:=n.expiry;let m:=i.expiry;let A:=m !=m;let z:=n.hash;let y:=i.hash;let x:=X7 z y;let l:=a.id;let k:=b.id;let w:=k !=k;let v:=Z5 (decide (0=r)) True False;let d:=Z5 (decide (-1=r)) True False;let c:=Z5 (decide (1=r)) True False;let u:=Z5 (decide (u8=u8/\z.length=32)) (Z5 (decide (u8=u8/\y.length=32)) (Z5 (x !=0) (Z5 (decide (x=r)) True False) (Z5 (l !=l) (Z5 w v d) (Z5 w c (Z5 (decide (l<k)) d (Z5 (decide (l>k)) c v))))) False) False;let t:=Z5 (e !=e) (Z5 A u d) (Z5 A c (Z5 (decide (e<m)) d (Z5 (decide (e>m)) c u)));let s:=Z5 (g !=g) (Z5 p t d) (Z5 p c (Z5 (decide (g<f)) d (Z5 (decide (g>f)) c t)));
 Z5 (j !=j) (Z5 q s d) (Z5 q c (Z5 (decide (j<h)) d (Z5 (decide (j>h)) c s)))) (by kernel_rfl) ?_
 conv=>zeta
 unfold Zc0 at hr
 refine Zat hr fun hr=>Zat hr fun hr=>Zat hr fun hr=> ?_
 rw [decide_eq_true (show u8=u8/\a.o.hash.length=32 from ⟨rfl,ha.hash⟩),decide_eq_true (show u8=u8/\b.o.hash.length=32 from ⟨rfl,hb.hash⟩)]
 show Z5 (X7 a.o.hash b.o.hash !=0) _ _
 by_cases h:X7 a.o.hash b.o.hash=0
 ·rw [h]
  rw [if_neg (by simp [h])] at hr
  refine Zat (c:=0) ?_ fun hr=>by rw [hr];trivial
  rw [hr];split<;>simp_all
 ·rw [if_pos h] at hr
  rw [bne_iff_ne.2 h,hr,decide_eq_true rfl];trivial
def ZmK:ZI:=fun args h K=>Zz none h true 20 args fun a=>match a with
 | [.agg ca,.agg cb,.pview [.vrows 1 5 f 5] 0]=>∃a b,ca=Z9.c a/\cb=Z9.c b/\f=Ye byL 0 1/\(a.Ok/\b.Ok)/\K (.int .i64 (Zc0 a b))
 | _=>False
theorem Zhj (args:List AV) (h:Z8) (K:AV->Prop) (hl:ZmK args h K):Ze PP 241 args h fun o h'=>∃v,o=.ret v/\h'=h/\K v:=by
 refine Zs.psumm (d:=20) (Zk _ _ _ _ _ hl fun a ha=> ?_)
 split at ha
 ·obtain ⟨a,b,rfl,rfl,rfl,⟨h1,h2⟩,hK⟩:=ha
  exact ⟨_,.evM Zm (ZmJ a b _ h1 h2 rfl),fun _=>rfl,hK⟩
 ·exact ha.elim
theorem and_mk {a b:Bool} (h1:a=true) (h2:b=true):(a&&b)=true:=by rw [h1,h2];rfl
theorem Zer {E:Env} {w:World} {sz n:Nat} {g:Nat->List AV} (hg:∀i,i<n->g' i=g i) (he:Emb E ⟨1,[(0,.rows sz n g')]⟩ w):Emb E ⟨1,[(0,.rows sz n g)]⟩ w:=by
 have hget:∀(f:Nat->List AV) x B,(Z8.mk 1 [(0,.rows sz n f)]).get x=some B->x=0/\B=.rows sz n f:=fun f x B hx=>by
  grind [Z8.get,ZW,J0]
 have h0:∀f:Nat->List AV,(Z8.mk 1 [(0,.rows sz n f)]).get 0=some (.rows sz n f):=fun f=>rfl
 refine ⟨he.fresh,fun x B hx=> ?_,fun x B hx=> ?_,fun x y B B' b N N' hx hy h1 h2=> ?_,he.imm,fun a c x B N hi hx hb=> ?_⟩
 ·grind
 ·obtain ⟨rfl,rfl⟩:=hget _ _ _ hx
  have:=he.own 0 _ (h0 g')
  cases this with
  | rows0 _ _ _ hn hb=>exact .rows0 _ _ _ hn hb
  | rows _ _ _ b cells elem fr gv hb hw hf hc hl hv=>exact .rows _ _ _ b cells elem fr gv hb hw hf (fun i hi=>hg i hi▸hc i hi) hl hv
 ·grind
 ·obtain ⟨rfl,rfl⟩:=hget _ _ _ hx
  exact he.sep a c 0 _ N hi (h0 g') hb
theorem Spec.rows {P:Program} {f:FuncId} {args:List AV} {sz n:Nat} {g:Nat->List AV} {o:Out} {nx:Nat} {bs:List (Nat×Blk)} (hg:∀i,i<n->g' i=g i) (h:Spec P f args ⟨1,[(0,.rows sz n g)]⟩ o nx bs):Spec P f args ⟨1,[(0,.rows sz n g')]⟩ o nx bs:=by
 intro E w rs he hl
 have he':=Zer hg he
 refine (h E w rs he' hl).mono ?_
 rintro e w' ⟨E',hev,ho⟩
 have own:∀b,Xn E ⟨1,[(0,.rows sz n g)]⟩ b↔Xn E ⟨1,[(0,.rows sz n g')]⟩ b:=fun b=>by
  grind [Xn,Z8.get,ZW]
 exact ⟨E',⟨hev.le,hev.emb,hev.size,hev.os,hev.tape,hev.output,fun b hb hn=>hev.keep b hb (fun h=>hn ((own b).1 h)),fun b hb=>(hev.own b hb).imp (own b).1 id,hev.imm⟩,ho⟩
noncomputable def E82:Zb:=G0.withP 241 ZmK
theorem Zes:E82.Ok:=Zb.withP_ok Zm Zhj
def Zhk:AV:=.func (.func 241) [] [.pview [.vrows 1 5 (Ye byL 0 1) 5] 0]
def isH (n:Nat) (L:List Z9):Z8:=⟨1,[(0,.rows 134 n (Zl L))]⟩
def isT (n lo:Nat) (A B:Int) (l:ZZ):ZZ:=l++[(2,.int .i64 B),(1,.int .i64 A),(3,Zhk),(0,.nslice ⟨0,0,134,0,0⟩ 134 n lo)]
def Z4a (n lo:Nat) (A B I:Int) (L:List Z9):St:=⟨53,isT n lo A B [(8,.int .i64 I)],isH n L,[]⟩
def Zhl (n lo:Nat) (A B I J:Int) (L:List Z9):St:=⟨53,isT n lo A B [(9,.int .i64 J),(8,.int .i64 I)],isH n L,[]⟩
theorem Xv (L:List Z9) (i:Nat):plainC (Zl L i)=true:=rfl
theorem Yg {k:Nat} {τ:Ren} {n:Nat} {L:List Z9} {f:Nat->List AV} (h:∀i,i<n->f i=Zl L i):Zo k τ n (Zl L) f:=
 Z1q h (fun i _=>Xv L i) (fun i _ v hv=>by
  simp only [Zl,Z9.c,Jc,Ks,or_false] at hv
  rcases hv with rfl|rfl|rfl|rfl|rfl|rfl|rfl|rfl|rfl|rfl<;>first|exact .inl rfl|exact .inr ⟨_,_,_,rfl⟩)
theorem Zau {L:List Z9} (h:∀m∈L,m.Ok) {i:Nat} (hi:i<L.length):(L.getD i Yq).Ok:=by
 simp_all
theorem Zet {f:Nat->List AV} {J J1 i:Nat} {x y:List AV} (hx:x=f J) (hy:y=f J1):QT (QT f J y) J1 x i=if i=J1 then f J else if i=J then f J1 else f i:=by
 rw [Vf,Vf]
 grind [Jl,Zw]
theorem Zox (n lo A B I J:Nat) (L L1:List Z9) (Z1 Z2:Prop) (hn:n<900000000000) (hJ:J<n) (hL:L.length=n) (hok:∀m∈L,m.Ok) (hsw:A<J->∀i,i<n->Zl L1 i=if i=J-1 then Zl L J else if i=J then Zl L (J-1) else Zl L i) (h1:A<J->ltM (L.getD J Yq) (L.getD (J-1) Yq)=true->Z1) (h2:J<=A\/ltM (L.getD J Yq) (L.getD (J-1) Yq)=false->Z2):
  ZG E82 20 293 2 1 (Zhl n lo A B I J L) (rdM 1 2 9 (Zhl n lo A B I ((J-1:Nat):Int) L1) (Z4a n lo A B I L) (Z4a n lo A B I L) (Z4a n lo A B I L) Z1 Z2 False False):=by
 refine @Eq.mpr _ (let q:=decide (0<=(↑J:Int)/\(↑J:Int)<(↑n:Int));let g:=0+Int.toNat (↑J:Int);let h:=wrap i64 ((↑J:Int)-1);let l:=decide (0<=h/\h<(↑n:Int));let f:=0+Int.toNat h;let k:=List.getD L g Yq;let d:=k.o;let r:=[AV.int i64 d.kind,AV.int i64 d.amount,AV.arr u8 32 d.owner,AV.arr u8 32 d.other,AV.arr u8 32 d.point,AV.arr u8 32 d.hash,AV.int i64 d.delay,AV.int i64 d.expiry,AV.int i64 k.id,AV.int i64 k.what];let j:=List.getD L f Yq;let e:=j.o;let z:=[AV.int i64 e.kind,AV.int i64 e.amount,AV.arr u8 32 e.owner,AV.arr u8 32 e.other,AV.arr u8 32 e.point,AV.arr u8 32 e.hash,AV.int i64 e.delay,AV.int i64 e.expiry,AV.int i64 j.id,AV.int i64 j.what];let p:=Ye byL 0 1;let y:=decide ((↑I:Int)=(↑I:Int));let x:=decide ((↑B:Int)=(↑B:Int));let w:=decide ((↑A:Int)=(↑A:Int));let v:=[AV.vrows 1 5 p 5];let u:=v=v;let i:=decide (n=n);let t:=decide (lo<=lo);let m:=Zl L;let s:=Z5 y (Z5 x (Z5 w (u/\Z5 i (Z5 t (Z5 i (Zo 1 [] n m m/\Z2) False) False) False) False) False) False;
 Z5 (decide ((↑J:Int)>(↑A:Int))) (Z5 q (Z5 (decide (g<n)) (Z5 l (Z5 (decide (f<n)) (∃(a:Z9),∃(b:Z9),r=Z9.c a/\z=Z9.c b/\p=p/\(Z9.Ok a/\Z9.Ok b)/\Z5 (decide (Zc0 a b<0)) (Z5 l (Z5 (decide (f<n)) (Z5 q (Z5 (decide (g<n)) (Z5 q (Z5 (decide (g<n)) (Z5 l (Z5 (decide (f<n)) (Z5 (decide (h=(↑(J-1):Int))) (Z5 y (Z5 x (Z5 w (u/\Z5 i (Z5 t (Z5 i (Zo 1 [] n (Zl L1) (QT (QT m g z) f r)/\Z1) False) False) False) False) False) False) False) False) False) False) False) False) False) False) False) s) False) False) False) False) s) (by kernel_rfl) ?_
 conv=>zeta
 try simp only [ZD]
 try simp only [ZU]
 try simp only [ZM]
 try simp only [ZY]
 try simp only [Y0]
 try simp only [ZN]
 try simp only [Jx,true_and,J4]
 refine ⟨fun hc=> ?_,fun hc=>⟨Yg fun _ _=>rfl,h2 (.inl (by omega))⟩⟩
 have key:i64.wrap ((J:Int)-1)=((J-1:Nat):Int):=by rw [w64 (by omega)];omega
 rw [key]
 simp only [JA]
 have o1:(L.getD J Yq).Ok:=Zau hok (by omega)
 have o2:(L.getD (J-1) Yq).Ok:=Zau hok (by omega)
 have hlt:=Zhi o1 o2
 refine ⟨by omega,by omega,by omega,by omega,L.getD J Yq,L.getD (J-1) Yq,rfl,rfl,⟨o1,o2⟩,fun hm=> ?_,fun hm=>⟨Yg fun _ _=>rfl,h2 (.inr (by grind))⟩⟩
 refine ⟨by omega,by omega,by omega,by omega,by omega,by omega,by omega,by omega,trivial,Yg fun i hi=> ?_,h1 (by omega) (by simp_all)⟩
 rw [hsw (by omega) i hi]
 exact Zet rfl rfl
def isL (a p:List Z9) (x:Z9) (r:List Z9) (m:Nat):List Z9:=a++(p.take (p.length-m)++x::(p.drop (p.length-m)++r))
theorem Zhm {a p r:List Z9} {x:Z9} {m:Nat}:(isL a p x r m).length=a.length+p.length+1+r.length:=by
 grind [isL]
theorem Zav {a p r:List Z9} {x:Z9} {m:Nat}:z∈isL a p x r m↔z∈a\/z∈p\/z=x\/z∈r:=by
 grind [isL,List.take_append_drop]
theorem Zeu {a p r:List Z9} {x:Z9} {m:Nat} (hm:m<=p.length):(isL a p x r m).getD (a.length+p.length-m) Yq=x:=by
 grind [isL]
theorem Zev {a p r:List Z9} {x:Z9} {m:Nat} (hm:m<p.length):(isL a p x r m).getD (a.length+p.length-m-1) Yq=p.getD (p.length-m-1) Yq:=by
 unfold isL
 grind
theorem Zew {a p r:List Z9} {x:Z9} {m:Nat} (hm:m<p.length) (i:Nat):Zl (isL a p x r (m+1)) i=if i=a.length+p.length-m-1 then Zl (isL a p x r m) (a.length+p.length-m) else if i=a.length+p.length-m then Zl (isL a p x r m) (a.length+p.length-m-1) else Zl (isL a p x r m) i:=by
 unfold Zl
 rw [Zeu (by omega),Zev hm]
 have hx:=Zeu (a:=a) (p:=p) (r:=r) (x:=x) (m:=m+1) (by omega)
 by_cases h1:i=a.length+p.length-m-1
 ·rw [if_pos h1,h1,show a.length+p.length-m-1=a.length+p.length-(m+1) by omega,hx]
 ·rw [if_neg h1]
  have e:p.length-m=(p.length-(m+1))+1:=by omega
  have hd:p.drop (p.length-(m+1))=p.getD (p.length-m-1) Yq::p.drop (p.length-m):=by
   rw [JC (by omega),show p.length-(m+1)+1=p.length-m by omega]
   grind
  have ht:p.take (p.length-m)=p.take (p.length-(m+1))++[p.getD (p.length-m-1) Yq]:=by
   grind
  have l1:(p.take (p.length-(m+1))).length=p.length-(m+1):=by rw [Ji];omega
  generalize p.getD (p.length-m-1) Yq=y at*
  have hm1:isL a p x r (m+1)=(a++p.take (p.length-(m+1)))++(x::y::(p.drop (p.length-m)++r)):=by
   unfold isL;rw [hd];simp
  have hm0:isL a p x r m=(a++p.take (p.length-(m+1)))++(y::x::(p.drop (p.length-m)++r)):=by
   unfold isL;rw [ht];simp
  rw [hm1,hm0]
  have l2:(a++p.take (p.length-(m+1))).length=a.length+p.length-m-1:=by rw [J6,l1];omega
  generalize a++p.take (p.length-(m+1))=U at*
  by_cases h2:i=a.length+p.length-m
  ·rw [if_pos h2,J3,Jh (by omega),show i-U.length=1 by omega]
   rfl
  ·rw [if_neg h2]
   rcases Jm i U.length with h3|h3
   ·rw [J3,J3,Jd h3,Jd h3]
   ·rw [J3,J3,Jh h3,Jh h3]
    obtain ⟨q,hq⟩:∃q,i-U.length=q+2:=⟨i-U.length-2,by omega⟩
    rw [hq];rfl
def isGo (p:List Z9) (x:Z9) (m:Nat):Prop:=m<p.length/\ltM x (p.getD (p.length-m-1) Yq)=true
def ZmL (p:List Z9) (x:Z9) (m:Nat):Prop:=m=p.length\/(m<p.length/\ltM x (p.getD (p.length-m-1) Yq)=false)
theorem Zhn {a p r:List Z9} {x:Z9} {m:Nat} (ho:Z3N ltM p) (hm:m<=p.length) (hgo:∀j,j<m->isGo p x j) (hex:ZmL p x m):isL a p x r m=a++(Xi ltM x p++r):=by
 have h:=Zas Zeq (x:=x) (l:=p) (j:=p.length-m) ho (by omega) (fun y hy=> ?_) (fun y hy hj=> ?_)
 ·unfold isL
  rw [<-h];simp
 ·obtain ⟨q,hq⟩:=JS.1 hy
  rw [JD] at hq
  obtain ⟨hlt,he⟩:=JB.1 hq
  have:=(hgo (p.length-1-(p.length-m+q)) (by omega)).2
  rw [J3,show p.length-(p.length-1-(p.length-m+q))-1=p.length-m+q by omega,hq] at this
  exact this
 ·rcases hex with hex|⟨_,hex⟩
  all_goals simp_all
structure IsQ where
 a:List Z9
 p:List Z9
 x:Z9
 r:List Z9
def IsQ.n (q:IsQ):Nat:=q.a.length+q.p.length+1+q.r.length
def IsQ.I (q:IsQ):Nat:=q.a.length+q.p.length
def IsQ.L (q:IsQ) (m:Nat):List Z9:=isL q.a q.p q.x q.r m
structure IsQ.Ok (q:IsQ) (n:Nat) (A:Nat):Prop where
 hn:q.n=n
 hA:q.a.length=A
 le:n<900000000000
 ok:∀m∈q.L 0,m.Ok
def IsQ.go (q:IsQ):Nat->Prop:=isGo q.p q.x
def IsQ.ex (q:IsQ):Nat->Prop:=ZmL q.p q.x
def IsQ.len (q:IsQ):Nat:=q.p.length
noncomputable def Zk8 (n lo A B:Nat):Zb:=E82.withL 293 2 (ZjA fun q:IsQ=>goM 1 (Zhl n lo A B q.I q.I (q.L 0)) (q.Ok n A) (YD 2 q.len 9 q.go q.ex (fun _=>False) (fun _=>False) (fun m=>Z4a n lo A B q.I (q.L m)) (fun m=>Z4a n lo A B q.I (q.L m)) (fun m=>Z4a n lo A B q.I (q.L m))))
theorem Zho (n lo A B:Nat):(Zk8 n lo A B).Ok:=
 Zb.withL_ex Zes fun q=>Zb.withGoM (N:=20) (S:=fun m=>Zhl n lo A B q.I ((q.I-m:Nat):Int) (q.L m)) Zes (by kernel_rfl) fun hC=>⟨by simp,fun m hm hgo=>by
  obtain ⟨h1,h2,h3,h4⟩:=hC
  have l1:(q.L m).length=n:=by rw [<-h1];exact Zhm
  have hI:q.I=q.a.length+q.p.length:=rfl
  have hm':m<=q.p.length:=hm
  have hnn:q.n=q.a.length+q.p.length+1+q.r.length:=rfl
  have hx:(q.L m).getD (q.I-m) Yq=q.x:=Zeu hm'
  have hok:∀z∈q.L m,z.Ok:=fun z hz=>h4 z (Zav.2 (Zav.1 hz))
  have:=Zox n lo A B q.I (q.I-m) (q.L m) (q.L (m+1)) (q.go m/\m<q.len) (q.ex m) h3 (by omega) l1 hok (fun hlt i hi=> ?_) (fun hlt hc=> ?_) (fun hc=> ?_)
  ·exact this
  ·have hmp:m<q.p.length:=by omega
   exact Zew hmp i
  ·have hmp:m<q.p.length:=by omega
   rw [hx,show (q.L m).getD (q.I-m-1) Yq=_ from Zev hmp] at hc
   exact ⟨⟨hmp,hc⟩,hmp⟩
  ·rcases Jm m q.p.length with hmp|hmp
   ·rcases hc with hc|hc
    ·omega
    ·rw [hx,show (q.L m).getD (q.I-m-1) Yq=_ from Zev hmp] at hc
     exact .inr ⟨hmp,hc⟩
   ·exact .inl (show m=q.p.length by omega)⟩
theorem Zoy (n lo A B I:Nat) (L L1:List Z9) (q:IsQ) (Z1 Z2:Prop) (hn:n<900000000000) (hI:I<900000000001) (hq:I<B->q.I=I/\q.L 0=L/\q.Ok n A) (hnext:I<B->∀m,m<=q.len->(∀j,j<m->q.go j)->q.ex m->L1=q.L m/\Z1) (h2:¬I<B->Z2):
  ZG (Zk8 n lo A B) 20 293 0 1 (Z4a n lo A B I L) (rdM 1 0 9 (Z4a n lo A B ((I+1:Nat):Int) L1) ⟨53,[],isH n L,[]⟩ ⟨53,[],isH n L,[]⟩ ⟨53,[],isH n L,[]⟩ Z1 Z2 False False):=by
 refine @Eq.mpr _ (let l:=decide ((↑B:Int)=(↑B:Int));let g:=decide ((↑A:Int)=(↑A:Int));let f:=[AV.vrows 1 5 (Ye byL 0 1) 5];let e:=f=f;let a:=decide (n=n);let d:=decide (lo<=lo);let b:=Zl L;
 Z5 (decide ((↑I:Int)<(↑B:Int)))
 (∃(i:IsQ),
 let k:=(↑(IsQ.I i):Int);let h:=decide ((↑I:Int)=k);
 Z5 h
 (Z5 h
 (Z5 l
 (Z5 g
 (e/\
 Z5 a
 (Z5 d
 (Z5 a
 (Zo 1 [] n (Zl (IsQ.L i 0)) b/\
 IsQ.Ok i n A/\
 ∀(i_1:Nat),
 let c:=Zl (IsQ.L i i_1);
 i_1<=IsQ.len i->(∀(j:Nat),j<i_1->IsQ.go i j)->(IsQ.ex i i_1->Z5 (decide (wrap i64 (k+1)=(↑(I+1):Int))) (Z5 l (Z5 g (e/\Z5 a (Z5 d (Z5 a (Zo 1 [] n (Zl L1) c/\Z1) False) False) False) False) False) False)/\(False->Z5 a (Zo 1 [] n b c/\False) False)/\(False->Z5 a (Zo 1 [] n b c/\False) False))
 False)
 False)
 False)
 False)
 False)
 False)
 False)
 (Z5 a (Zo 1 [] n b b/\Z2) False)) (by kernel_rfl) ?_
 conv=>zeta
 try simp only [ZD]
 try simp only [ZU]
 try simp only [ZM]
 try simp only [ZY]
 try simp only [Y0]
 try simp only [ZN]
 try simp only [true_and,J4]
 refine ⟨fun hc=> ?_,fun hc=>⟨Yg fun _ _=>rfl,h2 (by omega)⟩⟩
 obtain ⟨e1,e2,e3⟩:=hq (by omega)
 refine ⟨q,by omega,by omega,Yg (fun _ _=>by rw [e2]),e3,fun m hm hgo=>⟨fun hex=> ?_,fun h=>h.elim,fun h=>h.elim⟩⟩
 grind [w64,Yg]
structure IsP where
 a:List Z9
 M:List Z9
 c:List Z9
def IsP.L (q:IsP) (t:Nat):List Z9:=q.a++(XW ltM [] (q.M.take (t+1))++(q.M.drop (t+1)++q.c))
def IsP.N (q:IsP):Nat:=q.M.length-1
def IsP.all (q:IsP):List Z9:=q.a++(q.M++q.c)
def IsP.done (q:IsP):List Z9:=q.a++(ZR q.M++q.c)
structure IsP.Ok (q:IsP) (n A B:Nat):Prop where
 hn:q.a.length+q.M.length+q.c.length=n
 hA:q.a.length=A
 hB:q.a.length+q.M.length=B
 le:n<900000000000
 ok:∀m∈q.all,m.Ok
theorem IsP.L0 (q:IsP):q.L 0=q.all:=by
 unfold IsP.L IsP.all
 cases h:q.M with
 | nil=>rfl
 | cons x r=>rfl
theorem IsP.LN (q:IsP):q.L q.N=q.done:=by
 unfold IsP.L IsP.done IsP.N
 rw [Jv (by omega),List.drop_of_length_le (by omega)];rfl
theorem Zc1 {l acc:List Z9}:z∈XW ltM acc l↔z∈acc\/z∈l:=by
 rw [(Uq (lt:=ltM)).mem_iff,K2]
noncomputable def ZmM (q:IsP) (n lo A B:Nat):Zb:=(Zk8 n lo A B).withL 293 0 (goM 1 (Z4a n lo A B ((A+1:Nat):Int) (q.L 0)) (q.Ok n A B) (YD 0 q.N 9 (fun t=>t<q.N) (fun t=>t=q.N) (fun _=>False) (fun _=>False) (fun t=>⟨53,[],isH n (q.L t),[]⟩) (fun t=>⟨53,[],isH n (q.L t),[]⟩) (fun t=>⟨53,[],isH n (q.L t),[]⟩)))
theorem Zhp (q:IsP) (n lo A B:Nat):(ZmM q n lo A B).Ok:=
 Zb.withGoM (N:=20) (S:=fun t=>Z4a n lo A B ((A+1+t:Nat):Int) (q.L t)) (Zho n lo A B) (by kernel_rfl) fun hC=>⟨rfl,fun t ht hgo=>by
  obtain ⟨h1,h2,h3,h4,h5⟩:=hC
  have hN:q.N=q.M.length-1:=rfl
  have:=Zoy n lo A B (A+1+t) (q.L t) (q.L (t+1)) ⟨q.a,XW ltM [] (q.M.take (t+1)),q.M.getD (t+1) Yq,q.M.drop (t+2)++q.c⟩ (t<q.N/\t<q.N) (t=q.N) h4 (by omega) (fun hlt=> ?_) (fun hlt m hm hg he=> ?_) (fun hc=>by omega)
  ·exact this
  ·have hl:(XW ltM [] (q.M.take (t+1))).length=t+1:=by rw [Z58,Ji];simp;omega
   have e0:q.L t=isL q.a (XW ltM [] (q.M.take (t+1))) (q.M.getD (t+1) Yq) (q.M.drop (t+2)++q.c) 0:=by
    unfold isL IsP.L
    rw [Nat.sub_zero,Jq,List.drop_length,JC (show t+1<q.M.length by omega),J3,Ja (show t+1<q.M.length by omega)]
    rfl
   refine ⟨?_,e0.symm, ?_,h2,h4,fun z hz=> ?_⟩
   ·show q.a.length+(XW ltM [] (q.M.take (t+1))).length=_
    omega
   ·show q.a.length+(XW ltM [] (q.M.take (t+1))).length+1+(q.M.drop (t+2)++q.c).length=n
    rw [hl,J6,Jg];omega
   ·have hz:z∈isL q.a (XW ltM [] (q.M.take (t+1))) (q.M.getD (t+1) Yq) (q.M.drop (t+2)++q.c) 0:=hz
    grind [IsP.L,IsP.all,Zc1]
  ·refine ⟨?_,by omega⟩
   have:=Zhn (a:=q.a) (r:=q.M.drop (t+2)++q.c) (x:=q.M.getD (t+1) Yq) (m:=m) (Z57 Zeq (l:=q.M.take (t+1)) (acc:=[]) .nil) hm hg he
   show _=isL q.a _ _ _ m
   rw [this]
   unfold IsP.L
   have e2:q.M.take (t+1+1)=q.M.take (t+1)++[q.M.getD (t+1) Yq]:=by
    rw [List.take_succ_eq_append_getElem (by omega),J3,Ja (show t+1<q.M.length by omega)]
    rfl
   rw [e2,Z3P]⟩
theorem ZmN (q:IsP) (n lo A B:Nat) (L0 L1:List Z9) (hq:q.Ok n A B) (hL:L0=q.all) (hL1:L1=q.done):
  evF (ZmM q n lo A B) 20 293 [.nslice ⟨0,0,134,0,0⟩ 134 n lo,.int .i64 A,.int .i64 B,Zhk] (isH n L0) (ZH 1 (.ret (.tuple [])) 1 [(0,.rows 134 n (Zl L1))]):=by
 refine @Eq.mpr _ (let d:=[AV.vrows 1 5 (Ye byL 0 1) 5];let b:=decide (n=n);let a:=IsP.N q;
 Z5 (decide (wrap i64 ((↑A:Int)+1)=(↑(A+1):Int)))
 (Z5 (decide ((↑B:Int)=(↑B:Int)))
 (Z5 (decide ((↑A:Int)=(↑A:Int)))
 (d=d/\
 Z5 b
 (Z5 (decide (lo<=lo))
 (Z5 b
 (Zo 1 [] n (Zl (IsP.L q 0)) (Zl L0)/\
 IsP.Ok q n A B/\
 ∀(i:Nat),
 let c:=Z5 b (Zo 1 [] n (Zl L1) (Zl (IsP.L q i))/\True) False;
 i<=a->(∀(j:Nat),j<i->(fun (t:Nat)=>t<a) j)->(i=a->c)/\(False->c)/\(False->False))
 False)
 False)
 False)
 False)
 False)
 False) (by kernel_rfl) ?_
 conv=>zeta
 try simp only [ZD]
 try simp only [ZU]
 try simp only [ZM]
 try simp only [ZY]
 try simp only [Y0]
 try simp only [ZN]
 try simp only [true_and,and_true,J4]
 refine ⟨by rw [w64 (by have:=hq.hn;have:=hq.hA;have:=hq.le;omega)];omega,Yg (fun _ _=>by rw [hL,q.L0]),hq,fun i hi hg=>⟨fun he=> ?_,fun h=>h.elim,fun h=>h.elim⟩⟩
 subst he
 exact Yg fun _ _=>by rw [hL1,q.LN]
def isF:ZO:=fun args h K=>match args with
 | .nslice p esz len lo::r=>frA [p.blk] h 20 (.nslice p esz len lo::r) fun Bs a=>match Bs,a with
  | [.rows 134 m f],[.nslice ⟨0,0,134,0,0⟩ 134 n lo,.int .i64 A,.int .i64 B,.func (.func 241) [] [.pview [.vrows 1 5 g 5] 0]]=>∃(q:IsP) (a b:Nat),(m=n/\A=(a:Int)/\B=(b:Int))/\q.Ok n a b/\g=Ye byL 0 1/\f=Zl q.all/\K (.ret (.tuple [])) ⟨h.next,(p.blk,.rows 134 n (Zl q.done))::Ya h.bs p.blk⟩
  | _,_=>False
 | _=>False
theorem Zk9 (args:List AV) (h:Z8) (K:KO) (hl:isF args h K):Ze PP 293 args h K:=by
 unfold isF at hl
 split at hl
 ·rename_i p esz len lo r
  refine Spec.fsumm (σ:=[p.blk]) (d:=20) hl fun Bs a₀ hlen h0=> ?_
  split at h0
  ·obtain ⟨q,a,b,⟨rfl,rfl,rfl⟩,hq,rfl,rfl,hK⟩:=h0
   exact ⟨_,_,_,_,_,.evM (Zhp _ _ _ _ _) (ZmN q _ _ a b _ _ hq rfl rfl),J4 1,.ret _ _ rfl,.cons 0 _ _ _ _ _ rfl (.rows _ _ _ fun i _=>Xv _ i) .nil,hK⟩
  simp_all
 simp_all
def noF:ZO:=fun _ _ _=>False
theorem Zka {f:FuncId} (args:List AV) (h:Z8) (K:KO) (hl:noF args h K):Ze PP f args h K:=hl.elim
noncomputable def Z9j:Zb:=(G0.withF 293 isF).withF 294 noF
theorem Zaw:Z9j.Ok:=Zb.withF_ok (Zb.withF_ok Zm Zk9) Zka
def ssT (n lo:Nat) (l:ZZ):ZZ:=l++[(2,Zhk),(1,.int .i64 n),(0,.nslice ⟨0,0,134,0,0⟩ 134 n lo)]
def Zex (n lo:Nat) (L:List Z9):St:=⟨63,ssT n lo [(8,.int .i64 20),(7,.int .i64 0),(6,.int .i64 20)],isH n L,[]⟩
def Z65 (n lo:Nat) (L:List Z9):St:=⟨63,ssT n lo [(7,.int .i64 0),(6,.int .i64 20)],isH n L,[]⟩
def Zey (n lo:Nat) (L:List Z9):St:=⟨63,ssT n lo [(6,.int .i64 20)],isH n L,[]⟩
def Z66 (n lo:Nat) (L:List Z9):St:=⟨63,[],isH n L,[]⟩
theorem Zoz (n lo:Nat) (L:List Z9) (Z:Prop) (hn:n<20) (hZ:Z):
  ZG Z9j 20 276 0 1 (Zex n lo L) (rdM 1 0 9 (Zex n lo L) (Z65 n lo L) (Z65 n lo L) (Z65 n lo L) False Z False False):=by
 refine @Eq.mpr _ (let d:=Ye byL 0 1;let c:=Zl L;let f:=[AV.vrows 1 5 d 5];let e:=decide (n=n);
 Z5 (decide (20<=(↑n:Int))) ((∀(i:Nat),i<n->true=true)/\∃(q:IsP),∃(a:Nat),∃(b:Nat),(n=n/\0=(↑a:Int)/\20=(↑b:Int))/\IsP.Ok q n a b/\d=d/\c=Zl (IsP.all q)/\False) (f=f/\Z5 (decide ((↑n:Int)=(↑n:Int))) (Z5 e (Z5 (decide (lo<=lo)) (Z5 e (Zo 1 [] n c c/\Z) False) False) False) False)) (by kernel_rfl) ?_
 conv=>zeta
 try simp only [ZD]
 try simp only [ZU]
 try simp only [ZM]
 try simp only [ZY]
 try simp only [Y0]
 try simp only [ZN]
 try simp only [and_true]
 grind [Yg]
theorem ZoA (n lo:Nat) (L:List Z9) (Z:Prop) (hn:n<20) (hZ:Z):
  ZG Z9j 20 276 2 1 (Zey n lo L) (rdM 1 2 9 (Zey n lo L) (Z66 n lo L) (Z66 n lo L) (Z66 n lo L) False Z False False):=by
 refine @Eq.mpr _ (Z5 (decide (20<(↑n:Int))) (Z5 (decide (40<=(↑n:Int))) False (Z5 (decide (20<(↑n:Int))) False False)) (Z5 (decide (n=n)) (Zo 1 [] n (Zl L) (Zl L)/\Z) False)) (by kernel_rfl) ?_
 try simp only [ZD]
 try simp only [ZU]
 try simp only [ZM]
 try simp only [ZY]
 try simp only [Y0]
 try simp only [ZN]
 try simp only [and_true]
 grind [Yg]
noncomputable def ZmO (n lo:Nat) (L L1:List Z9):Zb:=(Z9j.withL 276 0 (goM 1 (Zex n lo L) (n<20) (YD 0 0 9 (fun _=>False) (fun _=>True) (fun _=>False) (fun _=>False) (fun _=>Z65 n lo L) (fun _=>Z65 n lo L) (fun _=>Z65 n lo L)))).withL 276 2 (goM 1 (Zey n lo L1) (n<20) (YD 2 0 9 (fun _=>False) (fun _=>True) (fun _=>False) (fun _=>False) (fun _=>Z66 n lo L1) (fun _=>Z66 n lo L1) (fun _=>Z66 n lo L1)))
theorem Zhq (n lo:Nat) (L L1:List Z9):(ZmO n lo L L1).Ok:=by
 have h0:(Z9j.withL 276 0 _).Ok:=Zb.withGoM (N:=20) (S:=fun _=>Zex n lo L) (S0:=Zex n lo L) (C:=n<20) (n:=0) (l:=9) (go:=fun _=>False) (ex:=fun _=>True) (re:=fun _=>False) (jm:=fun _=>False) (En:=fun _=>Z65 n lo L) (Rn:=fun _=>Z65 n lo L) (Jn:=fun _=>Z65 n lo L) Zaw (by kernel_rfl) fun hC=>⟨rfl,fun t _ _=>(by
  have:=Zoz n lo L True hC trivial
  simpa only [false_and] using this)⟩
 have h2:(Z9j.withL 276 2 _).Ok:=Zb.withGoM (N:=20) (S:=fun _=>Zey n lo L1) (S0:=Zey n lo L1) (C:=n<20) (n:=0) (l:=9) (go:=fun _=>False) (ex:=fun _=>True) (re:=fun _=>False) (jm:=fun _=>False) (En:=fun _=>Z66 n lo L1) (Rn:=fun _=>Z66 n lo L1) (Jn:=fun _=>Z66 n lo L1) Zaw (by kernel_rfl) fun hC=>⟨rfl,fun t _ _=>(by
  have:=ZoA n lo L1 True hC trivial
  simpa only [false_and] using this)⟩
 exact Zb.withL_join (H:=Z9j) h0 rfl h2
theorem ZoB (n lo:Nat) (L L1:List Z9) (hn:n<20) (hl:L.length=n) (hok:∀m∈L,m.Ok) (hL:L1=ZR L):
  evF (ZmO n lo L L1) 20 240 [.nslice ⟨0,0,134,0,0⟩ 134 n lo,Zhk] (isH n L) (ZH 1 (.ret (.tuple [])) 1 [(0,.rows 134 n (Zl L1))]):=by
 refine @Eq.mpr _ (let f:=Ye byL 0 1;let m:=[AV.vrows 1 5 f 5];let l:=m=m;let k:=decide ((↑n:Int)=(↑n:Int));let c:=decide (n=n);let h:=decide (lo<=lo);let e:=Zl L;let d:=Zl L1;let g:=Z5 c (Zo 1 [] n d d/\True) False;
 l/\Z5 k (Z5 c (Z5 h (Z5 c (Zo 1 [] n e e/\n<20/\∀(i:Nat),i<=0->(∀(j:Nat),j<i->(fun (x:Nat)=>False) j)->(True->(∀(i:Nat),i<n->true=true)/\∃(q:IsP),∃(a:Nat),∃(b:Nat),(n=n/\0=(↑a:Int)/\(↑n:Int)=(↑b:Int))/\IsP.Ok q n a b/\f=f/\e=Zl (IsP.all q)/\l/\Z5 k (Z5 c (Z5 h (Z5 c (Zo 1 [] n d (Zl (IsP.done q))/\n<20/\∀(i:Nat),i<=0->(∀(j:Nat),j<i->(fun (x:Nat)=>False) j)->(True->g)/\(False->g)/\(False->False)) False) False) False) False)/\(False->Z5 c (Zo 1 [] n d e/\True) False)/\(False->False)) False) False) False) False) (by kernel_rfl) ?_
 conv=>zeta
 try simp only [ZD]
 try simp only [ZU]
 try simp only [ZM]
 try simp only [ZY]
 try simp only [Y0]
 try simp only [ZN]
 try simp only [true_and,and_true,J4]
 refine ⟨Yg fun _ _=>rfl,hn,fun i _ _=>⟨fun _=>⟨fun _ _=>trivial,⟨[],L,[]⟩,0,n,⟨rfl,rfl⟩,⟨by simp [hl],rfl,by simp [hl],by omega,fun m hm=>hok m (by simpa [IsP.all] using hm)⟩,by simp [IsP.all],Yg fun _ _=>by simp [IsP.done,hL],hn,fun j _ _=>⟨fun _=>Yg fun _ _=>rfl,fun h=>h.elim,fun h=>h.elim⟩⟩,fun h=>h.elim,fun h=>h.elim⟩⟩
def stF:ZO:=fun args h K=>match args with
 | .nslice p esz len lo::r=>frA [p.blk] h 20 (.nslice p esz len lo::r) fun Bs a=>match Bs,a with
  | [.rows 134 m f],[.nslice ⟨0,0,134,0,0⟩ 134 n lo,.func (.func 241) [] [.pview [.vrows 1 5 g 5] 0]]=>∃(L:List Z9),(m=n/\n<20/\L.length=n)/\(∀m∈L,m.Ok)/\g=Ye byL 0 1/\f=Zl L/\K (.ret (.tuple [])) ⟨h.next,(p.blk,.rows 134 n (Zl (ZR L)))::Ya h.bs p.blk⟩
  | _,_=>False
 | _=>False
theorem Zkb (args:List AV) (h:Z8) (K:KO) (hl:stF args h K):Ze PP 240 args h K:=by
 unfold stF at hl
 split at hl
 ·rename_i p esz len lo r
  refine Spec.fsumm (σ:=[p.blk]) (d:=20) hl fun Bs a₀ hlen h0=> ?_
  split at h0
  ·obtain ⟨L,⟨rfl,hn,hll⟩,hok,rfl,rfl,hK⟩:=h0
   exact ⟨_,_,_,_,_,.evM (Zhq _ _ _ _) (ZoB _ _ L _ hn hll hok rfl),J4 1,.ret _ _ rfl,.cons 0 _ _ _ _ _ rfl (.rows _ _ _ fun i _=>Xv _ i) .nil,hK⟩
  simp_all
 simp_all
noncomputable def ZmP:Zb:=G0.withF 240 stF
theorem Zhr:ZmP.Ok:=Zb.withF_ok Zm Zkb
theorem ZmQ (n lo:Nat) (L L1:List Z9) (hn:n<20) (hl:L.length=n) (hok:∀m∈L,m.Ok) (hL:L1=ZR L):
  evF ZmP 20 88 [.nslice ⟨0,0,134,0,0⟩ 134 n lo] (isH n L) (ZH 1 (.ret (.nslice ⟨0,0,134,0,0⟩ 134 n lo)) 1 [(0,.rows 134 n (Zl L1))]):=by
 refine @Eq.mpr _ (let a:=decide (n=n);
 (∀(i:Nat),i<n->true=true)/\∃(L_1:List Z9),(n=n/\n<(20:Nat)/\L_1.length=n)/\(∀(m:Z9),List.Mem m L_1->Z9.Ok m)/\Ye [AV.func (Fn.func (170:Nat)) [] [],AV.func (Fn.func (172:Nat)) [] [],AV.func (Fn.func (174:Nat)) [] [],AV.func (Fn.func (175:Nat)) [] [],AV.func (Fn.func (176:Nat)) [] []] (0:Nat) (1:Nat)=Ye byL (0:Nat) (1:Nat)/\Zl L=Zl L_1/\Z5 a (Z5 (decide (lo<=lo)) (Z5 a (Zo (1:Nat) [] n (Zl L1) (Zl (ZR L_1))/\True) False) False) False) (by kernel_rfl) ?_
 conv=>zeta
 try simp only [ZD]
 try simp only [ZU]
 try simp only [ZM]
 try simp only [ZY]
 try simp only [Y0]
 try simp only [ZN]
 try simp only [true_and,and_true,J4]
 exact ⟨fun _ _=>trivial,L,⟨hn,hl⟩,hok,rfl,rfl,Yg fun _ _=>by rw [hL]⟩
theorem ZoC (X:Nat) (hn:X=X):
  evF G0 20 88 [.nilslice] ⟨0,[]⟩ (ZH 0 (.ret .nilslice) 0 []):=by
 refine @Eq.mpr _ (True) (by kernel_rfl) ?_
 trivial
def orF:ZO:=fun args h K=>match args with
 | [.nilslice]=>K (.ret .nilslice) h
 | [.nslice p esz len lo]=>frA [p.blk] h 20 [.nslice p esz len lo] fun Bs a=>match Bs,a with
  | [.rows 134 m f],[.nslice ⟨0,0,134,0,0⟩ 134 n lo]=>∃(L:List Z9),(m=n/\n<20/\L.length=n)/\(∀m∈L,m.Ok)/\(∀i,i<n->f i=Zl L i)/\K (.ret (.nslice ⟨p.blk,0,134,0,0⟩ 134 n lo)) ⟨h.next,(p.blk,.rows 134 n (Zl (ZR L)))::Ya h.bs p.blk⟩
  | _,_=>False
 | _=>False
theorem Zkc (args:List AV) (h:Z8) (K:KO) (hl:orF args h K):Ze PP 88 args h K:=by
 unfold orF at hl
 split at hl
 ·exact (Zs.evM Zm (ZoC 0 rfl)).calls (fun E w rs he hr=>by
   cases hr with
   | cons v r vs rs h1 h2=>cases h2;exact .cons _ _ _ _ (h1.plain rfl) .nil) rfl trivial hl
 ·rename_i p esz len lo
  refine Spec.fsumm (σ:=[p.blk]) (d:=20) hl fun Bs a₀ hlen h0=> ?_
  split at h0
  ·obtain ⟨L,⟨rfl,hn,hll⟩,hok,hf,hK⟩:=h0
   exact ⟨_,_,_,_,_,.rows hf (.evM Zhr (ZmQ _ _ L _ hn hll hok rfl)),J4 1,.ret _ _ rfl,.cons 0 _ _ _ _ _ rfl (.rows _ _ _ fun i _=>Xv _ i) .nil,hK⟩
  simp_all
 simp_all
structure Z9.Okb (m:Z9):Prop where
 ok:m.Ok
 hb:Bytes m.o.hash
theorem ZoD (a b:Z9) (r:Bool) (ha:a.Okb) (hb:b.Okb) (hr:r=ltM a b):
  evF (G0.withP 204 Zep) 20 205 [.agg a.c,.agg b.c] ⟨0,[]⟩ (XY (fun v=>v=.bool r)):=by
 refine @Eq.mpr _ (let e:=a.o;let m:=e.amount;let d:=b.o;let l:=d.amount;let c:=AV.bool r;let k:=e.kind;let j:=d.kind;let i:=e.expiry;let h:=d.expiry;let g:=e.hash;let f:=d.hash;let n:=X7 g f;
 Z5 (m !=l) (AV.bool (decide (m<l))=c) (Z5 (k !=j) (AV.bool (decide (k<j))=c) (Z5 (i !=h) (AV.bool (decide (i<h))=c) ((g.length=32/\f.length=32)/\Bytes g/\Bytes f/\Z5 (n !=0) (AV.bool (decide (n<0))=c) (AV.bool (decide (a.id<b.id))=c))))) (by kernel_rfl) ?_
 conv=>zeta
 try simp only [vcA]
 try simp only [vcB]
 try simp only [vcC]
 have h4:=Z59 (ha.ok.hash.trans hb.ok.hash.symm)
 have k1:=ha.ok.hash
 have k2:=hb.ok.hash
 have k3:=ha.hb
 have k4:=hb.hb
 subst hr
 unfold ltM
 generalize X7 a.o.hash b.o.hash=c4 at*
 generalize Xc a.o.hash=v1 at*
 generalize Xc b.o.hash=v2 at*
 refine ⟨fun h1=> ?_,fun h1=>⟨fun h2=> ?_,fun h2=>⟨fun h3=> ?_,fun h3=>⟨⟨k1,k2⟩,k3,k4,fun h5=> ?_,fun h5=> ?_⟩⟩⟩⟩
 all_goals
  simp only [bne_iff_ne,ne_eq,bne_eq_false_iff_eq] at*
  congr 1
  rw [decide_eq_decide]
  omega
def Zez:ZI:=fun args _ K=>match args with
 | [.agg ca,.agg cb]=>∃a b,ca=Z9.c a/\cb=Z9.c b/\(a.Okb/\b.Okb)/\K (.bool (ltM a b))
 | _=>False
theorem ZeA (args:List AV) (h:Z8) (K:AV->Prop) (hl:Zez args h K):Ze PP 205 args h fun o h'=>∃v,o=.ret v/\h'=h/\K v:=by
 unfold Zez at hl
 split at hl
 ·obtain ⟨a,b,rfl,rfl,⟨h1,h2⟩,hK⟩:=hl
  exact Xk (Zb.withP_ok Zm Zar) rfl (ZoD a b _ h1 h2 rfl) (fun u hu=>hu▸hK)
 ·exact hl.elim
def WA (m:Z9) (s:List Z9×Bool) (x:Z9):List Z9×Bool:=match !s.2&&ltM m x with
 | true=>(s.1++[m]++[x],true)
 | false=>(s.1++[x],s.2)
def puN (m:Z9) (L:List Z9) (i:Nat):List Z9×Bool:=(L.take i).foldl (WA m) ([],false)
def Zax (m:Z9) (s:List Z9×Bool):List Z9:=match s.2 with
 | true=>s.1
 | false=>s.1++[m]
theorem Z7y (m:Z9) (L:List Z9) {i:Nat} (hi:i<L.length):puN m L (i+1)=WA m (puN m L i) (L.getD i Yq):=by
 unfold puN
 rw [List.take_succ_eq_append_getElem hi,List.foldl_append,J3,Ja hi]
 rfl
theorem Z7z (m:Z9):∀(L O:List Z9),L.foldl (WA m) (O,true)=(O++L,true)
 | [],O=>by simp
 | x::r,O=>by
  rw [List.foldl_cons]
  show List.foldl (WA m) (O++[x],true) r=_
  rw [Z7z m r];simp
theorem Zay (m:Z9):∀(L O:List Z9),Zax m (L.foldl (WA m) (O,false))=O++Xi ltM m L
 | [],O=>rfl
 | x::r,O=>by
  rw [List.foldl_cons]
  unfold Xi
  cases h:ltM m x with
  | true=>
   have:WA m (O,false) x=(O++[m]++[x],true):=by unfold WA;rw [h];rfl
   rw [this,Z7z]
   simp [Zax]
  | false=>
   have:WA m (O,false) x=(O++[x],false):=by unfold WA;rw [h];rfl
   rw [this,Zay m r]
   simp
theorem Zhs (m:Z9) (L:List Z9):Zax m (puN m L L.length)=Xi ltM m L:=by
 unfold puN
 rw [Jq,Zay];rfl
theorem ZkQ {P:List Z9} {c i:Nat} (hc:O.length=c):Y1 c (Zl O) (Zl P) i=Zl (O++P) i:=by
 unfold Zl
 rcases Jm i c with h|h
 ·rw [Z2d h,J3,J3,Jd (by omega)]
 ·rw [Vr h,J3,J3,Jh (by omega),hc]
theorem Z67 (m:Z9) (L:List Z9):∀i,i<=L.length->(puN m L i).1.length<=i+1/\((puN m L i).2=false->(puN m L i).1.length=i)
 | 0,_=>by simp [puN]
 | i+1,h=>by
  obtain ⟨h1,h2⟩:=Z67 m L i (by omega)
  rw [Z7y m L (by omega)]
  unfold WA
  cases hd:(puN m L i).2 with
  | true=>simp;omega
  | false=>
   have:=h2 hd
   cases ltM m (L.getD i Yq)<;>simp<;>omega
def puS (n:Nat) (L:List Z9) (m:Z9) (i c:Nat) (D:Bool) (O:List Z9):St:=⟨42,[(7,.int .i64 i),(0,.vrows 134 n (Zl L) n),(6,.bool D),(3,.ptr (some ⟨0,0,0,0,0⟩)),(5,.nslice ⟨1,0,134,0,0⟩ 134 c c)],⟨2,[(0,.flat m.c),(1,.rows 134 c (Zl O))]⟩,[]⟩
def puE (m:Z9) (c:Nat) (D:Bool) (O:List Z9):St:=⟨42,[(6,.bool D),(3,.ptr (some ⟨0,0,0,0,0⟩)),(5,.nslice ⟨1,0,134,0,0⟩ 134 c c)],⟨2,[(0,.flat m.c),(1,.rows 134 c (Zl O))]⟩,[]⟩
noncomputable def E84:Zb:=G0.withP 205 Zez
theorem Zkd:E84.Ok:=Zb.withP_ok Zm ZeA
theorem We {f:Nat->List AV} {x:Z9} {c i:Nat} (hc:O.length=c) (hf:∀i,i<c->f i=Zl O i) (hi:i<c+1):Y1 c f (Ye (Z9.c x) 0 134) i=Zl (O++[x]) i:=by
 rcases Jm i c with h|h
 ·rw [Z2d h,hf i h]
  unfold Zl
  rw [J3,J3,Jd (by omega)]
 ·have e:i=c:=by omega
  subst e
  rw [Vr (J4 _),Nat.sub_self]
  unfold Zl
  rw [J3,Jh (by omega),hc,Nat.sub_self]
  rfl
theorem ZoE (n i c c1:Nat) (L O O1:List Z9) (m:Z9) (D D1:Bool) (Z1 Z2:Prop) (hn:n<1000) (hL:L.length=n) (hi:i<=n) (hO:O.length=c) (hci:c<=i+1) (hm:m.Okb) (hok:∀x∈L,x.Okb) (h1:i<n->WA m (O,D) (L.getD i Yq)=(O1,D1)) (hc1:c1=O1.length) (hZ1:i<n->Z1) (hZ2:i=n->Z2):
  ZG E84 20 122 0 0 (puS n L m i c D O) (rdM 0 0 9 (puS n L m (i+1) c1 D1 O1) (puE m c D O) (puE m c D O) (puE m c D O) Z1 Z2 False False):=by
 refine @Eq.mpr _ (let M:=decide (0<=(↑i:Int)/\(↑i:Int)<(↑n:Int));let d:=m.o;let z:=d.kind;let s:=d.amount;let r:=d.owner;let q:=d.other;let p:=d.point;let l:=d.hash;let k:=d.delay;let K:=d.expiry;let J:=m.id;let I:=m.what;let W:=[AV.int i64 z,AV.int i64 s,AV.arr u8 32 r,AV.arr u8 32 q,AV.arr u8 32 p,AV.arr u8 32 l,AV.int i64 k,AV.int i64 K,AV.int i64 J,AV.int i64 I];let H:=List.getD L (Int.toNat (↑i:Int)) Yq;let e:=H.o;let V:=[AV.int i64 e.kind,AV.int i64 e.amount,AV.arr u8 32 e.owner,AV.arr u8 32 e.other,AV.arr u8 32 e.point,AV.arr u8 32 e.hash,AV.int i64 e.delay,AV.int i64 e.expiry,AV.int i64 H.id,AV.int i64 H.what];let j:=decide (c=c);let f:=c+1;let U:=decide (f*176<=140737488355328);let G:=f+1;let T:=decide (wrap i64 ((↑i:Int)+1)=(↑(i+1):Int));let h:=decide (n=n);let S:=Zl L=Zl L;let R:=decide (G=c1);let F:=decide (z=z);let E:=decide (s=s);let C:=r=r;let B:=q=q;let A:=p=p;let y:=l=l;let x:=decide (k=k);let w:=decide (K=K);let v:=decide (J=J);let u:=decide (I=I);let t:=[(0,0)];let g:=Zl O;let Q:=Ye V 0 134;let P:=decide (f=c1);let N:=Z6 M (Z6 j (Z6 U (Z6 T (Z6 h (S/\Z6 h (Z7 (D=D1) (Z6 P (Z7 (c1<=f) (Z6 F (Z6 E (C/\B/\A/\y/\Z6 x (Z6 w (Z6 v (Z6 u (Z6 P (Zo 0 ((1,3)::t) c1 (Zl O1) (Y1 c g Q)/\Z1))))))))))))))));
 Z5 (decide ((↑i:Int)<(↑n:Int))) (Z5 (!D) (Z6 M (∃(a:Z9),∃(b:Z9),W=Z9.c a/\V=Z9.c b/\(Z9.Okb a/\Z9.Okb b)/\Z5 (ltM a b) (Z6 j (Z6 U (Z6 M (Z7 (f=f) (Z7 (G*176<=140737488355328) (Z6 T (Z6 h (S/\Z6 h (Z7 (true=D1) (Z6 R (Z7 (c1<=G) (Z6 F (Z6 E (C/\B/\A/\y/\Z6 x (Z6 w (Z6 v (Z6 u (Z6 R (Zo 0 ((1,5)::t) c1 (Zl O1) (Y1 f (Y1 c g (Ye W 0 134)) Q)/\Z1))))))))))))))))))) N)) N) (Z7 (D=D) (Z6 j (Z7 (c<=c) (Z6 F (Z6 E (C/\B/\A/\y/\Z6 x (Z6 w (Z6 v (Z6 u (Z6 j (Zo 0 ((1,1)::t) c g g/\Z2)))))))))))) (by kernel_rfl) ?_
 conv=>zeta
 try simp only [vcA]
 try simp only [vcB]
 try simp only [vcC]
 refine ⟨fun hc=> ?_,fun hc=>⟨Yg fun _ _=>rfl,hZ2 (by omega)⟩⟩
 have hlt:i<n:=by omega
 have h1:=h1 hlt
 have hwr:i64.wrap ((i:Int)+1)=((i+1:Nat):Int):=by rw [w64 (by omega)];omega
 have hx:(L.getD i Yq).Okb:=hok _ (by rw [J3,Ja (show i<L.length by omega)];exact Kg _)
 generalize L.getD i Yq=x at*
 unfold WA at h1
 refine ⟨fun hD=> ?_,fun hD=> ?_⟩
 ·have hD:D=false:=by simpa using hD
  refine ⟨by omega,m,x,rfl,rfl,⟨hm,hx⟩,fun hlt=> ?_,fun hlt=> ?_⟩
  ·rw [hD,hlt] at h1
   simp only [Bool.not_false,Kl,Prod.mk.injEq] at h1
   obtain ⟨h1,h2⟩:=h1
   subst h1 h2
   have hl:c1=c+1+1:=by rw [hc1];simp [hO]
   subst hl
   refine ⟨by omega,by omega,by omega,hwr,rfl,rfl,J4 _,rfl,Yg fun j hj=> ?_,hZ1 (by omega)⟩
   exact We (by simp [hO]) (fun k hk=>We hO (fun _ _=>rfl) hk) hj
  ·rw [hD,hlt] at h1
   simp only [Bool.not_false,K9,Prod.mk.injEq] at h1
   obtain ⟨h1,h2⟩:=h1
   subst h1 h2
   have hl:c1=c+1:=by rw [hc1];simp [hO]
   subst hl
   exact ⟨by omega,by omega,hwr,hD,rfl,J4 _,rfl,Yg fun j hj=>We hO (fun _ _=>rfl) hj,hZ1 (by omega)⟩
 ·have hD:D=true:=by simpa using hD
  rw [hD] at h1
  simp only [Kt,Kr,Prod.mk.injEq] at h1
  obtain ⟨h1,h2⟩:=h1
  subst h1 h2
  have hl:c1=c+1:=by rw [hc1];simp [hO]
  subst hl
  exact ⟨by omega,by omega,hwr,hD,rfl,J4 _,rfl,Yg fun j hj=>We hO (fun _ _=>rfl) hj,hZ1 (by omega)⟩
structure Z9k (n:Nat) (L:List Z9) (m:Z9):Prop where
 hn:n<1000
 hl:L.length=n
 hm:m.Okb
 ok:∀x∈L,x.Okb
noncomputable def ZmR (n:Nat) (L:List Z9) (m:Z9):Zb:=E84.withL 122 0 (goM 0 (puS n L m 0 0 false []) (Z9k n L m) (YD 0 n 9 (fun i=>i<n) (fun i=>i=n) (fun _=>False) (fun _=>False) (fun i=>puE m (puN m L i).1.length (puN m L i).2 (puN m L i).1) (fun i=>puE m (puN m L i).1.length (puN m L i).2 (puN m L i).1) (fun i=>puE m (puN m L i).1.length (puN m L i).2 (puN m L i).1)))
theorem Zht (n:Nat) (L:List Z9) (m:Z9):(ZmR n L m).Ok:=
 Zb.withGoM (N:=20) (S:=fun i=>puS n L m i (puN m L i).1.length (puN m L i).2 (puN m L i).1) Zkd (by kernel_rfl) fun hC=>⟨rfl,fun i hi _=>by
  obtain ⟨h1,h2,h3,h4⟩:=hC
  exact ZoE n i _ _ L _ _ m _ _ (i<n/\i<n) (i=n) h1 h2 hi rfl (Z67 m L i (by omega)).1 h3 h4 (fun hlt=>by rw [Z7y m L (by omega)]) rfl (fun h=>⟨h,h⟩) (fun h=>h)⟩
theorem ZoF (n:Nat) (L L1:List Z9) (m:Z9) (h:Z9k n L m) (hL1:L1=Xi ltM m L):
  evF (ZmR n L m) 20 122 [.vrows 134 n (Zl L) n,.agg m.c] ⟨0,[]⟩ (ZH 0 (.ret (.nslice ⟨0,0,134,0,0⟩ 134 (n+1) (n+1))) 1 [(0,.rows 134 (n+1) (Zl L1))]):=by
 refine @Eq.mpr _ (let x:=decide (n=n);let a:=m.o;let l:=a.kind;let k:=a.amount;let h:=a.owner;let g:=a.other;let f:=a.point;let e:=a.hash;let d:=a.delay;let s:=a.expiry;let r:=m.id;let q:=m.what;let c:=n+1;
 Z6 x (Zl L=Zl L/\
 Z6 x (Z7 (l=l) (Z7 (k=k) (h=h/\
 g=g/\
 f=f/\
 e=e/\
 Z7 (d=d) (Z7 (s=s) (Z7 (r=r) (Z7 (q=q) (Z9k n L m/\
 ∀(i:Nat),
 let w:=(puN m L i).fst;let b:=w.length;let p:=b+1;let v:=decide (p=c);let u:=Zl w;let t:=decide (b=c);
 i<=n->(∀(j:Nat),j<i->(fun (i:Nat)=>i<n) j)->(i=n->Z5 (!(puN m L i).snd) (Z7 (b=b) (Z7 (p*176<=140737488355328) (Z6 v (Z7 (c<=p) (Z6 v (Zo 0 [(0,3)] c (Zl L1) (Y1 b u (Ye [AV.int i64 l,AV.int i64 k,AV.arr u8 32 h,AV.arr u8 32 g,AV.arr u8 32 f,AV.arr u8 32 e,AV.int i64 d,AV.int i64 s,AV.int i64 r,AV.int i64 q] 0 134))/\True)))))) (Z6 t (Z7 (c<=b) (Z6 t (Zo 0 [(0,1)] c (Zl L1) u/\True)))))/\(False->False)/\(False->False)))))))))) (by kernel_rfl) ?_
 conv=>zeta
 try simp only [vcA]
 try simp only [vcB]
 try simp only [vcC]
 refine ⟨h,fun i hi _=>⟨fun he=> ?_,fun h=>h.elim,fun h=>h.elim⟩⟩
 subst he
 have hfin:=Zhs m L
 obtain ⟨g1,g2⟩:=Z67 m L i (by rw [h.hl];exact J4 _)
 rw [h.hl] at hfin
 have hn:=h.hn
 have hl1:L1.length=i+1:=by rw [hL1,Z3O,h.hl]
 unfold Zax at hfin
 refine ⟨fun hD=> ?_,fun hD=> ?_⟩
 ·have hD:(puN m L i).2=false:=by simpa using hD
  rw [hD] at hfin
  simp only at hfin
  have hl:=g2 hD
  exact ⟨by omega,by omega,by omega,by omega,Yg fun j hj=>by rw [hL1,<-hfin];exact We rfl (fun _ _=>rfl) (by omega)⟩
 ·have hD:(puN m L i).2=true:=by simpa using hD
  rw [hD] at hfin
  simp only at hfin
  rw [hfin]
  rw [hL1] at hl1
  exact ⟨by omega,by omega,by omega,Yg fun j hj=>by rw [hL1]⟩
theorem ZoG (m:Z9) (L1:List Z9) (hL:L1=[m]):
  evF G0 20 122 [.nilslice,.agg m.c] ⟨0,[]⟩ (ZH 0 (.ret (.nslice ⟨0,0,134,0,0⟩ 134 1 1)) 1 [(0,.rows 134 1 (Zl L1))]):=by
 refine @Eq.mpr _ (let a:=m.o;
 Zo 0 [(0,2)] 1 (Zl L1) (Y1 0 (fun (x:Nat)=>[]) (Ye [AV.int i64 a.kind,AV.int i64 a.amount,AV.arr u8 32 a.owner,AV.arr u8 32 a.other,AV.arr u8 32 a.point,AV.arr u8 32 a.hash,AV.int i64 a.delay,AV.int i64 a.expiry,AV.int i64 m.id,AV.int i64 m.what] 0 134))/\True) (by kernel_rfl) ?_
 conv=>zeta
 try simp only [vcA]
 try simp only [vcB]
 try simp only [vcC]
 refine Yg fun i hi=> ?_
 subst hL
 have e:i=0:=by omega
 subst e
 rfl
def puF:ZO:=fun args h K=>Zz none h true 20 args fun a=>match a with
 | [.nilslice,.agg cm]=>∃m,cm=Z9.c m/\K (.ret (.nslice ⟨h.next,0,134,0,0⟩ 134 1 1)) ⟨h.next+1,(h.next,.rows 134 1 (Zl (Xi ltM m [])))::h.bs⟩
 | [.vrows 134 n f n',.agg cm]=>∃L m,n'=n/\f=Zl L/\cm=Z9.c m/\Z9k n L m/\K (.ret (.nslice ⟨h.next,0,134,0,0⟩ 134 (n+1) (n+1))) ⟨h.next+1,(h.next,.rows 134 (n+1) (Zl (Xi ltM m L)))::h.bs⟩
 | _=>False
theorem Zke (args:List AV) (h:Z8) (K:KO) (hl:puF args h K):Ze PP 122 args h K:=by
 refine Zs.fsumm (d:=20) (Zk _ _ _ _ _ hl fun a ha=> ?_)
 split at ha
 ·obtain ⟨m,rfl,hK⟩:=ha
  exact ⟨_,_,_,_,.evM Zm (ZoG m _ rfl),rfl,⟨JH,.rows _ _ _ (fun i _=>Xv _ i),trivial⟩,hK⟩
 ·obtain ⟨L,m,rfl,rfl,rfl,hp,hK⟩:=ha
  exact ⟨_,_,_,_,.evM (Zht _ L m) (ZoF _ L _ m hp rfl),rfl,⟨JH,.rows _ _ _ (fun i _=>Xv _ i),trivial⟩,hK⟩
 ·exact ha.elim
def Z0p (t:Zj):InS:=⟨t.fund,t.index,1,Z0,Z0,Z0⟩
def Y2 (L:List Z9):Nat->ZF:=fun i=>(L.getD i Yq).o
def txZ:List AV:=[.int .i64 0,.nilslice,.nilslice]
def mxH (t:Zj) (num:Int) (L:List Z9) (i:Nat):Z8:=⟨4,[(0,.flat txZ),(1,.flat (InS.c (Z0p t))),(2,.flat [.int .i64 num,.nslice ⟨1,0,0,0,0⟩ 130 1 1,.nslice ⟨3,0,132,0,0⟩ 132 i i]),(3,.rows 132 i (Zf (Y2 L)))]⟩
def mxS (t:Zj) (num:Int) (L:List Z9) (n i:Nat):St:=⟨40,[(27,.int .i64 i),(26,.int .i64 n),(25,.vrows 134 n (Zl L) n),(8,.ptr (some ⟨2,0,0,0,0⟩)),(6,.ptr (some ⟨0,0,0,0,0⟩))],mxH t num L i,[]⟩
def mxE (t:Zj) (num:Int) (L:List Z9) (i:Nat):St:=⟨40,[(8,.ptr (some ⟨2,0,0,0,0⟩)),(6,.ptr (some ⟨0,0,0,0,0⟩))],mxH t num L i,[]⟩
def Zhu (t:Zj) (num:Int) (L:List Z9) (n i:Nat):St:=⟨39,[(9,.int .i64 i),(2,.vrows 134 n (Zl L) n),(8,.ptr (some ⟨2,0,0,0,0⟩)),(6,.ptr (some ⟨0,0,0,0,0⟩))],mxH t num L i,[]⟩
def Zc2 (t:Zj) (num:Int) (L:List Z9) (i:Nat):St:=⟨39,[(8,.ptr (some ⟨2,0,0,0,0⟩)),(6,.ptr (some ⟨0,0,0,0,0⟩))],mxH t num L i,[]⟩
theorem Z3Q {L:List Z9} {i j:Nat} (hj:j<i+1):Y1 i (Zf (Y2 L)) (Ye (ZF.c (L.getD i Yq).o) 0 132) j=(Y2 L j).c:=by
 rcases Jm j i with h|h
 ·rw [Z2d h];rfl
 ·have e:j=i:=by omega
  subst e
  rw [Vr (J4 _),Nat.sub_self]
  rfl
theorem ZoH (t:Zj) (num:Int) (L:List Z9) (n i:Nat) (Z1 Z2:Prop) (hn:n<1000) (hi:i<=n) (h1:i<n->Z1) (h2:i=n->Z2):
  ZG G0 20 87 0 0 (mxS t num L n i) (rdM 0 0 9 (mxS t num L n (i+1)) (mxE t num L i) (mxE t num L i) (mxE t num L i) Z1 Z2 False False):=by
 refine @Eq.mpr _ (let e:=decide (i=i);let b:=i+1;let l:=decide (n=n);let c:=Z0p t;let k:=c.name;let j:=k=k;let h:=c.index;let g:=decide (h=h);let f:=c.tag;let w:=f=f;let v:=c.also;let u:=v=v;let s:=c.secret;let r:=s=s;let q:=decide (num=num);let p:=decide (b=b);let m:=[(1,1),(0,0),(2,2)];let d:=Zf (Y2 L);let a:=(List.getD L (Int.toNat (↑i:Int)) Yq).o;
 Z5 (decide ((↑i:Int)<(↑n:Int))) (Z7 (0<=(↑i:Int)/\(↑i:Int)<(↑n:Int)) (Z6 e (Z7 (b*160<=140737488355328) (Z7 (wrap i64 ((↑i:Int)+1)=(↑b:Int)) (Z7 ((↑n:Int)=(↑n:Int)) (Z6 l (Zl L=Zl L/\Z6 l (j/\Z6 g (w/\u/\r/\Z6 q (Z6 p (Z7 (b<=b) (Z6 p (Zo 0 ((3,6)::m) b d (Y1 i d (Ye [AV.int i64 a.kind,AV.int i64 a.amount,AV.arr u8 32 a.owner,AV.arr u8 32 a.other,AV.arr u8 32 a.point,AV.arr u8 32 a.hash,AV.int i64 a.delay,AV.int i64 a.expiry] 0 132))/\Z1))))))))))))) (j/\Z6 g (w/\u/\r/\Z6 q (Z6 e (Z7 (i<=i) (Z6 e (Zo 0 ((3,3)::m) i d d/\Z2))))))) (by kernel_rfl) ?_
 conv=>zeta
 try simp only [vcA]
 try simp only [vcB]
 try simp only [vcC]
 refine ⟨fun hc=> ?_,fun hc=>⟨ZP fun _ _=>rfl,h2 (by omega)⟩⟩
 exact ⟨by omega,by omega,by rw [w64 (by omega)];omega,ZP fun j hj=>Z3Q hj,h1 (by omega)⟩
theorem ZmS (t:Zj) (num:Int) (L:List Z9) (n i:Nat) (Z1 Z2:Prop) (hn:n<1000) (hi:i<=n) (h1:i<n->Z1) (h2:i=n->Z2):
  ZG G0 20 123 0 0 (Zhu t num L n i) (rdM 0 0 9 (Zhu t num L n (i+1)) (Zc2 t num L i) (Zc2 t num L i) (Zc2 t num L i) Z1 Z2 False False):=by
 refine @Eq.mpr _ (let d:=decide (i=i);let b:=i+1;let l:=decide (n=n);let c:=Z0p t;let k:=c.name;let j:=k=k;let h:=c.index;let g:=decide (h=h);let f:=c.tag;let w:=f=f;let v:=c.also;let u:=v=v;let s:=c.secret;let r:=s=s;let q:=decide (num=num);let p:=decide (b=b);let m:=[(1,1),(0,0),(2,2)];let e:=Zf (Y2 L);let a:=(List.getD L (Int.toNat (↑i:Int)) Yq).o;
 Z5 (decide ((↑i:Int)<(↑n:Int))) (Z7 (0<=(↑i:Int)/\(↑i:Int)<(↑n:Int)) (Z6 d (Z6 d (Z6 d (Z7 (b*160<=140737488355328) (Z7 (wrap i64 ((↑i:Int)+1)=(↑b:Int)) (Z6 l (Zl L=Zl L/\Z6 l (j/\Z6 g (w/\u/\r/\Z6 q (Z6 p (Z7 (b<=b) (Z6 p (Zo 0 ((3,5)::m) b e (Y1 i e (Ye [AV.int i64 a.kind,AV.int i64 a.amount,AV.arr u8 32 a.owner,AV.arr u8 32 a.other,AV.arr u8 32 a.point,AV.arr u8 32 a.hash,AV.int i64 a.delay,AV.int i64 a.expiry] 0 132))/\Z1)))))))))))))) (j/\Z6 g (w/\u/\r/\Z6 q (Z6 d (Z7 (i<=i) (Z6 d (Zo 0 ((3,3)::m) i e e/\Z2))))))) (by kernel_rfl) ?_
 conv=>zeta
 try simp only [vcA]
 try simp only [vcB]
 try simp only [vcC]
 refine ⟨fun hc=> ?_,fun hc=>⟨ZP fun _ _=>rfl,h2 (by omega)⟩⟩
 exact ⟨by omega,by omega,by rw [w64 (by omega)];omega,ZP fun j hj=>Z3Q hj,h1 (by omega)⟩
noncomputable def E85 (t:Zj) (num:Int) (L:List Z9) (n:Nat):Zb:=G0.withL 87 0 (goM 0 (mxS t num L n 0) (n<1000) (YD 0 n 9 (fun i=>i<n) (fun i=>i=n) (fun _=>False) (fun _=>False) (fun i=>mxE t num L i) (fun i=>mxE t num L i) (fun i=>mxE t num L i)))
theorem Zkf (t:Zj) (num:Int) (L:List Z9) (n:Nat):(E85 t num L n).Ok:=
 Zb.withGoM (N:=20) (S:=fun i=>mxS t num L n i) Zm (by kernel_rfl) fun hC=>⟨rfl,fun i hi _=>ZoH t num L n i _ _ hC hi (fun h=>⟨h,h⟩) (fun h=>h)⟩
noncomputable def ZmT (t:Zj) (num:Int) (L:List Z9) (n:Nat):Zb:=G0.withL 123 0 (goM 0 (Zhu t num L n 0) (n<1000) (YD 0 n 9 (fun i=>i<n) (fun i=>i=n) (fun _=>False) (fun _=>False) (fun i=>Zc2 t num L i) (fun i=>Zc2 t num L i) (fun i=>Zc2 t num L i)))
theorem Zhv (t:Zj) (num:Int) (L:List Z9) (n:Nat):(ZmT t num L n).Ok:=
 Zb.withGoM (N:=20) (S:=fun i=>Zhu t num L n i) Zm (by kernel_rfl) fun hC=>⟨rfl,fun i hi _=>ZmS t num L n i _ _ hC hi (fun h=>⟨h,h⟩) (fun h=>h)⟩
theorem ZoI (t:Zj) (num:Int) (L:List Z9) (n:Nat) (hn:n<1000) (h0:n≠0):
  evF (E85 t num L n) 20 87 [.agg t.c,.int .i64 num,.vrows 134 n (Zl L) n] ⟨0,[]⟩ (ZH 0 (.ret (.tuple [.agg [.int .i64 num,.nslice ⟨0,0,0,0,0⟩ 130 1 1,.nslice ⟨1,0,132,0,0⟩ 132 n n],.int .i64 0])) 2 [(0,.flat (InS.c (Z0p t))),(1,.rows 132 n (Zf (Y2 L)))]):=by
 refine @Eq.mpr _ (let l:=decide (n=n);let a:=Z0p t;let f:=a.name;let e:=a.index;let d:=a.tag;let c:=a.also;let b:=a.secret;let h:=decide (num=num);let g:=Zf (Y2 L);
 Z5 ((↑n:Int)==0) (Z5 (decide (0=num)) False False) (Z7 ((↑n:Int)=(↑n:Int)) (Z6 l (Zl L=Zl L/\
 Z6 l (t.fund=f/\
 Z7 (t.index=e) (Z0=d/\
 Z0=c/\
 Z0=b/\
 Z6 h (n<1000/\
 ∀(i:Nat),
 let k:=decide (i=n);
 i<=n->(∀(j:Nat),j<i->(fun (i:Nat)=>i<n) j)->(i=n->Z6 h (Z6 k (Z7 (n<=i) (f=f/\Z7 (e=e) (d=d/\c=c/\b=b/\Z6 k (Zo 0 [(1,3),(0,1)] n g g/\True))))))/\(False->False)/\(False->False)))))))) (by kernel_rfl) ?_
 conv=>zeta
 try simp only [vcA]
 try simp only [vcB]
 try simp only [vcC]
 refine ⟨fun h=> ?_,fun _=>⟨rfl,rfl,rfl,rfl,rfl,hn,fun i hi _=>⟨fun he=> ?_,fun h=>h.elim,fun h=>h.elim⟩⟩⟩
 ·have:(n:Int)=0:=by simpa using h
  omega
 ·subst he
  exact ⟨rfl,J4 _,rfl,ZP fun _ _=>rfl⟩
theorem ZoJ (t:Zj) (num:Int) :
  evF G0 20 87 [.agg t.c,.int .i64 num,.nilslice] ⟨0,[]⟩ (ZH 0 (.ret (.tuple [.agg txZ,.int .i64 180])) 0 []):=by
 refine @Eq.mpr _ (True) (by kernel_rfl) ?_
 trivial
theorem ZmU (t:Zj) (num:Int) (L:List Z9) (n:Nat) (hn:n<1000) (h0:n≠0):
  evF (ZmT t num L n) 20 123 [.agg t.c,.int .i64 num,.vrows 134 n (Zl L) n] ⟨0,[]⟩ (ZH 0 (.ret (.tuple [.agg [.int .i64 num,.nslice ⟨0,0,0,0,0⟩ 130 1 1,.nslice ⟨1,0,132,0,0⟩ 132 n n],.int .i64 0])) 2 [(0,.flat (InS.c (Z0p t))),(1,.rows 132 n (Zf (Y2 L)))]):=by
 refine @Eq.mpr _ (let l:=decide (n=n);let a:=Z0p t;let f:=a.name;let e:=a.index;let d:=a.tag;let c:=a.also;let b:=a.secret;let h:=decide (num=num);let g:=Zf (Y2 L);
 Z5 ((↑n:Int)==0) (Z5 (decide (0=num)) False False) (Z6 l (Zl L=Zl L/\
 Z6 l (t.fund=f/\
 Z7 (t.index=e) (Z0=d/\
 Z0=c/\
 Z0=b/\
 Z6 h (n<1000/\
 ∀(i:Nat),
 let k:=decide (i=n);
 i<=n->(∀(j:Nat),j<i->(fun (i:Nat)=>i<n) j)->(i=n->Z6 h (Z6 k (Z7 (n<=i) (f=f/\Z7 (e=e) (d=d/\c=c/\b=b/\Z6 k (Zo 0 [(1,3),(0,1)] n g g/\True))))))/\(False->False)/\(False->False))))))) (by kernel_rfl) ?_
 conv=>zeta
 try simp only [vcA]
 try simp only [vcB]
 try simp only [vcC]
 refine ⟨fun h=> ?_,fun _=>⟨rfl,rfl,rfl,rfl,rfl,hn,fun i hi _=>⟨fun he=> ?_,fun h=>h.elim,fun h=>h.elim⟩⟩⟩
 ·have:(n:Int)=0:=by simpa using h
  omega
 ·subst he
  exact ⟨rfl,J4 _,rfl,ZP fun _ _=>rfl⟩
theorem ZmV (t:Zj) (num:Int) :
  evF G0 20 123 [.agg t.c,.int .i64 num,.nilslice] ⟨0,[]⟩ (ZH 0 (.ret (.tuple [.agg txZ,.int .i64 180])) 0 []):=by
 refine @Eq.mpr _ (True) (by kernel_rfl) ?_
 trivial
def mxF:ZO:=fun args h K=>Zz none h true 20 args fun a=>match a with
 | [.agg [.arr .u8 32 fu,.int .i64 ix,.int .i64 ca,.int .i64 du,.int .i64 fe,.int .i64 de,.arr .u8 32 k0,.arr .u8 32 k1],.int .i64 num,.nilslice]=>K (.ret (.tuple [.agg txZ,.int .i64 180])) h
 | [.agg [.arr .u8 32 fu,.int .i64 ix,.int .i64 ca,.int .i64 du,.int .i64 fe,.int .i64 de,.arr .u8 32 k0,.arr .u8 32 k1],.int .i64 num,.vrows 134 n f n']=>∃L,n'=n/\f=Zl L/\(n<1000/\n≠0)/\K (.ret (.tuple [.agg [.int .i64 num,.nslice ⟨h.next,0,0,0,0⟩ 130 1 1,.nslice ⟨h.next+1,0,132,0,0⟩ 132 n n],.int .i64 0])) ⟨h.next+2,(h.next,.flat (InS.c ⟨fu,ix,1,Z0,Z0,Z0⟩))::(h.next+1,.rows 132 n (Zf (Y2 L)))::h.bs⟩
 | _=>False
theorem ZmW (args:List AV) (h:Z8) (K:KO) (hl:mxF args h K):Ze PP 87 args h K:=by
 refine Zs.fsumm (d:=20) (Zk _ _ _ _ _ hl fun a ha=> ?_)
 split at ha
 ·exact ⟨_,_,_,_,.evM Zm (ZoJ ⟨_,_,_,_,_,_,_,_⟩ _),rfl,trivial,ha⟩
 ·obtain ⟨L,rfl,rfl,⟨h1,h2⟩,hK⟩:=ha
  exact ⟨_,_,_,_,.evM (Zkf _ _ _ _) (ZoI ⟨_,_,_,_,_,_,_,_⟩ _ L _ h1 h2),rfl,⟨by decide,.flat _ rfl,by decide,.rows _ _ _ (fun i _=>(Y2 L i).plainC),trivial⟩,hK⟩
 ·exact ha.elim
theorem Zkg (args:List AV) (h:Z8) (K:KO) (hl:mxF args h K):Ze PP 123 args h K:=by
 refine Zs.fsumm (d:=20) (Zk _ _ _ _ _ hl fun a ha=> ?_)
 split at ha
 ·exact ⟨_,_,_,_,.evM Zm (ZmV ⟨_,_,_,_,_,_,_,_⟩ _),rfl,trivial,ha⟩
 ·obtain ⟨L,rfl,rfl,⟨h1,h2⟩,hK⟩:=ha
  exact ⟨_,_,_,_,.evM (Zhv _ _ _ _) (ZmU ⟨_,_,_,_,_,_,_,_⟩ _ L _ h1 h2),rfl,⟨by decide,.flat _ rfl,by decide,.rows _ _ _ (fun i _=>(Y2 L i).plainC),trivial⟩,hK⟩
 ·exact ha.elim
noncomputable def E86 (A:LI->Int×Int):Zb:=((((G0.withP 44 Z7u).withP 74 (Za7 A)).withP 86 inQ).withF 88 orF).withF 87 mxF
theorem Z9l:(E86 ZA).Ok:=Zb.withF_ok (Zb.withF_ok (Zb.withP_ok (Zb.withP_ok (Zb.withP_ok Zm Z3K) Z3q) Zeo) Zkc) ZmW
def clL (t:Zj) (a b fee:Int):List Z9:=
 (if t.dust<=a-fee then [⟨⟨1,a-fee,t.k0,Z0,Z0,Z0,0,0⟩,0,0⟩] else [])++(if t.dust<=b then [⟨⟨1,b,t.k1,Z0,Z0,Z0,0,0⟩,1,0⟩] else [])
def clB (A:LI->Int×Int) (t:Zj) (a b fee:Int):Bool:=Yi t&&decide ((A [a,b]).2=0)&&decide ((A [a,b]).1=t.cap)&&decide (0<=fee/\fee<=a)
theorem Z0q {f:Nat->List AV} {L:List Z9} {n:Nat} (h:∀i,i<n->f i=Zl L i):∀i,i<n->plainC (f i)=true:=fun i hi=>by rw [h i hi];exact Xv L i
theorem X3 {l:List Z9}:(ZR l).length=l.length:=by unfold ZR;rw [Z58];simp
theorem Z68 (x:Z9) (i:Nat) (hi:i<1):Y1 0 (fun _=>[]) (Ye (Z9.c x) 0 134) i=Zl [x] i:=We (O:=[]) rfl (fun k hk=>absurd hk (K6 k)) hi
theorem ZeB (x y:Z9) (i:Nat) (hi:i<2):Y1 1 (Y1 0 (fun _=>[]) (Ye (Z9.c x) 0 134)) (Ye (Z9.c y) 0 134) i=Zl [x,y] i:=We (O:=[x]) rfl (fun k hk=>Z68 x k hk) hi
theorem Zkh {c:Bool}:(((if c=true then (0:Int) else 2) !=0)=true↔c=false)/\(((if c=true then (0:Int) else 2) !=0)=false↔c=true):=by cases c<;>simp
theorem Z0Z {A:LI->Int×Int} {t:Zj} {a b fee:Int}:clB A t a b fee=true↔Yi t=true/\(A [a,b]).2=0/\(A [a,b]).1=t.cap/\(0<=fee/\fee<=a):=by
 simp_all [clB,and_assoc]
theorem ZoK (A:LI->Int×Int) (t:Zj) (a b fee:Int) (ht:t.Ok) (hc:clB A t a b fee=false):
  evF (E86 A) 20 42 [.agg t.c,.agg [.arr .i64 2 [a,b]],.int .i64 fee] ⟨0,[]⟩ (ZH 0 (.ret (.tuple [.agg txZ,.int .i64 2])) 0 []):=by
 refine @Eq.mpr _ (let B:=t.fund;let y:=t.index;let h:=t.cap;let e:=t.dust;let w:=t.fee;let v:=t.delay;let g:=t.k0;let f:=t.k1;let C:=Zj.mk B y h e w v g f;let G:=A [a,b];let F:=wrap i64 (a-fee);let E:=decide (b>=e);let z:=AV.int i64 (1:Int);let d:=AV.arr u8 (32:Nat) Z0;let c:=AV.int i64 (0:Int);let D:=[c];let u:=Ye (z::AV.int i64 F::AV.arr u8 (32:Nat) g::d::d::d::c::c::c::D) (0:Nat) (134:Nat);let s:=Ye (z::AV.int i64 b::AV.arr u8 (32:Nat) f::d::d::d::c::c::z::D) (0:Nat) (134:Nat);let r:=B=B;let q:=decide (y=y);let p:=decide (h=h);let o:=decide (e=e);let n:=decide (w=w);let l:=decide (v=v);let k:=g=g;let j:=f=f;
 Zj.Ok C/\
 Z5 ((if Yi C=true then (0:Int) else (2:Int)) !=(0:Int)) True
 (Z5 (G.snd !=(0:Int)) True
 (Z5 (G.fst !=h) True
 (Z5 (!decide ((0:Int)<=fee/\fee<=a)) True
 (Z5 (decide (F>=e))
 (Z5 E ((∀(i:Nat),i<(2:Nat)->plainC (Y1 (1:Nat) (Y1 (0:Nat) (fun (x:Nat)=>[]) u) s i)=true)/\∃(L:List Z9),((2:Nat)=(2:Nat)/\(2:Nat)<(20:Nat)/\L.length=(2:Nat))/\(∀(m:Z9),List.Mem m L->Z9.Ok m)/\(∀(i:Nat),i<(2:Nat)->Y1 (1:Nat) (Y1 (0:Nat) (fun (x:Nat)=>[]) u) s i=Zl L i)/\r/\Z5 q (Z5 p (Z5 o (Z5 n (Z5 l (k/\j/\(∀(i:Nat),i<(2:Nat)->true=true)/\∃(L_1:List Z9),(2:Nat)=(2:Nat)/\Yu (0:Nat) (Zl (ZR L))=Zl L_1/\((2:Nat)<(1000:Nat)/\(2:Nat)≠(0:Nat))/\False) False) False) False) False) False)
 ((∀(i:Nat),i<(1:Nat)->plainC (Y1 (0:Nat) (fun (x:Nat)=>[]) u i)=true)/\∃(L:List Z9),((1:Nat)=(1:Nat)/\(1:Nat)<(20:Nat)/\L.length=(1:Nat))/\(∀(m:Z9),List.Mem m L->Z9.Ok m)/\(∀(i:Nat),i<(1:Nat)->Y1 (0:Nat) (fun (x:Nat)=>[]) u i=Zl L i)/\r/\Z5 q (Z5 p (Z5 o (Z5 n (Z5 l (k/\j/\(∀(i:Nat),i<(1:Nat)->true=true)/\∃(L_1:List Z9),(1:Nat)=(1:Nat)/\Yu (0:Nat) (Zl (ZR L))=Zl L_1/\((1:Nat)<(1000:Nat)/\(1:Nat)≠(0:Nat))/\False) False) False) False) False) False))
 (Z5 E ((∀(i:Nat),i<(1:Nat)->plainC (Y1 (0:Nat) (fun (x:Nat)=>[]) s i)=true)/\∃(L:List Z9),((1:Nat)=(1:Nat)/\(1:Nat)<(20:Nat)/\L.length=(1:Nat))/\(∀(m:Z9),List.Mem m L->Z9.Ok m)/\(∀(i:Nat),i<(1:Nat)->Y1 (0:Nat) (fun (x:Nat)=>[]) s i=Zl L i)/\r/\Z5 q (Z5 p (Z5 o (Z5 n (Z5 l (k/\j/\(∀(i:Nat),i<(1:Nat)->true=true)/\∃(L_1:List Z9),(1:Nat)=(1:Nat)/\Yu (0:Nat) (Zl (ZR L))=Zl L_1/\((1:Nat)<(1000:Nat)/\(1:Nat)≠(0:Nat))/\False) False) False) False) False) False) (r/\Z5 q (Z5 p (Z5 o (Z5 n (Z5 l (k/\j/\False) False) False) False) False) False))))))) (by kernel_rfl) ?_
 conv=>zeta
 try simp only [ZD]
 try simp only [ZU]
 try simp only [ZM]
 try simp only [ZY]
 try simp only [Y0]
 try simp only [ZN]
 try simp only [and_true]
 have e0:(Zj.mk t.fund t.index t.cap t.dust t.fee t.delay t.k0 t.k1)=t:=rfl
 rw [e0]
 grind [clB]
theorem ZoL (A:LI->Int×Int) (t:Zj) (a b fee:Int) (ht:t.Ok) (ha:a<9223372036854775808) (hc:clB A t a b fee=true) (hL:clL t a b fee=[]):
  evF (E86 A) 20 42 [.agg t.c,.agg [.arr .i64 2 [a,b]],.int .i64 fee] ⟨0,[]⟩ (ZH 0 (.ret (.tuple [.agg txZ,.int .i64 180])) 0 []):=by
 refine @Eq.mpr _ (let B:=t.fund;let y:=t.index;let h:=t.cap;let e:=t.dust;let w:=t.fee;let v:=t.delay;let g:=t.k0;let f:=t.k1;let C:=Zj.mk B y h e w v g f;let G:=A [a,b];let F:=wrap i64 (a-fee);let E:=decide (b>=e);let z:=AV.int i64 (1:Int);let d:=AV.arr u8 (32:Nat) Z0;let c:=AV.int i64 (0:Int);let D:=[c];let u:=Ye (z::AV.int i64 F::AV.arr u8 (32:Nat) g::d::d::d::c::c::c::D) (0:Nat) (134:Nat);let s:=Ye (z::AV.int i64 b::AV.arr u8 (32:Nat) f::d::d::d::c::c::z::D) (0:Nat) (134:Nat);let r:=B=B;let q:=decide (y=y);let p:=decide (h=h);let o:=decide (e=e);let n:=decide (w=w);let l:=decide (v=v);let k:=g=g;let j:=f=f;
 Zj.Ok C/\
 Z5 ((if Yi C=true then (0:Int) else (2:Int)) !=(0:Int)) False
 (Z5 (G.snd !=(0:Int)) False
 (Z5 (G.fst !=h) False
 (Z5 (!decide ((0:Int)<=fee/\fee<=a)) False
 (Z5 (decide (F>=e))
 (Z5 E ((∀(i:Nat),i<(2:Nat)->plainC (Y1 (1:Nat) (Y1 (0:Nat) (fun (x:Nat)=>[]) u) s i)=true)/\∃(L:List Z9),((2:Nat)=(2:Nat)/\(2:Nat)<(20:Nat)/\L.length=(2:Nat))/\(∀(m:Z9),List.Mem m L->Z9.Ok m)/\(∀(i:Nat),i<(2:Nat)->Y1 (1:Nat) (Y1 (0:Nat) (fun (x:Nat)=>[]) u) s i=Zl L i)/\r/\Z5 q (Z5 p (Z5 o (Z5 n (Z5 l (k/\j/\(∀(i:Nat),i<(2:Nat)->true=true)/\∃(L_1:List Z9),(2:Nat)=(2:Nat)/\Yu (0:Nat) (Zl (ZR L))=Zl L_1/\((2:Nat)<(1000:Nat)/\(2:Nat)≠(0:Nat))/\False) False) False) False) False) False)
 ((∀(i:Nat),i<(1:Nat)->plainC (Y1 (0:Nat) (fun (x:Nat)=>[]) u i)=true)/\∃(L:List Z9),((1:Nat)=(1:Nat)/\(1:Nat)<(20:Nat)/\L.length=(1:Nat))/\(∀(m:Z9),List.Mem m L->Z9.Ok m)/\(∀(i:Nat),i<(1:Nat)->Y1 (0:Nat) (fun (x:Nat)=>[]) u i=Zl L i)/\r/\Z5 q (Z5 p (Z5 o (Z5 n (Z5 l (k/\j/\(∀(i:Nat),i<(1:Nat)->true=true)/\∃(L_1:List Z9),(1:Nat)=(1:Nat)/\Yu (0:Nat) (Zl (ZR L))=Zl L_1/\((1:Nat)<(1000:Nat)/\(1:Nat)≠(0:Nat))/\False) False) False) False) False) False))
 (Z5 E ((∀(i:Nat),i<(1:Nat)->plainC (Y1 (0:Nat) (fun (x:Nat)=>[]) s i)=true)/\∃(L:List Z9),((1:Nat)=(1:Nat)/\(1:Nat)<(20:Nat)/\L.length=(1:Nat))/\(∀(m:Z9),List.Mem m L->Z9.Ok m)/\(∀(i:Nat),i<(1:Nat)->Y1 (0:Nat) (fun (x:Nat)=>[]) s i=Zl L i)/\r/\Z5 q (Z5 p (Z5 o (Z5 n (Z5 l (k/\j/\(∀(i:Nat),i<(1:Nat)->true=true)/\∃(L_1:List Z9),(1:Nat)=(1:Nat)/\Yu (0:Nat) (Zl (ZR L))=Zl L_1/\((1:Nat)<(1000:Nat)/\(1:Nat)≠(0:Nat))/\False) False) False) False) False) False) (r/\Z5 q (Z5 p (Z5 o (Z5 n (Z5 l (k/\j/\True) False) False) False) False) False))))))) (by kernel_rfl) ?_
 conv=>zeta
 try simp only [ZD]
 try simp only [ZU]
 try simp only [ZM]
 try simp only [ZY]
 try simp only [Y0]
 try simp only [ZN]
 try simp only [and_true]
 obtain ⟨c1,c2,c3,c4⟩:=Z0Z.1 hc
 have hw:i64.wrap (a-fee)=a-fee:=w64 (by omega)
 simp_all [clL]
theorem ZoM (A:LI->Int×Int) (t:Zj) (a b fee:Int) (n:Nat) (L1:List Z9) (ht:t.Ok) (ha:a<9223372036854775808) (hc:clB A t a b fee=true) (hn:n≠0) (hL:L1=ZR (clL t a b fee)) (hl:n=L1.length):
  evF (E86 A) 20 42 [.agg t.c,.agg [.arr .i64 2 [a,b]],.int .i64 fee] ⟨0,[]⟩ (ZH 0 (.ret (.tuple [.agg [.int .i64 2147483647,.nslice ⟨0,0,0,0,0⟩ 130 1 1,.nslice ⟨1,0,132,0,0⟩ 132 n n],.int .i64 0])) 2 [(0,.flat (InS.c (Z0p t))),(1,.rows 132 n (Zf (Y2 L1)))]):=by
 refine @Eq.mpr _ (let C:=t.fund;let w:=t.index;let l:=t.cap;let e:=t.dust;let E:=t.fee;let D:=t.delay;let j:=t.k0;let h:=t.k1;let N:=Zj.mk C w l e E D j h;let S:=A [a,b];let R:=wrap i64 (a-fee);let Q:=decide (b>=e);let M:=AV.int i64 (1:Int);let d:=AV.arr u8 (32:Nat) Z0;let c:=AV.int i64 (0:Int);let P:=[c];let B:=Ye (M::AV.int i64 R::AV.arr u8 (32:Nat) j::d::d::d::c::c::c::P) (0:Nat) (134:Nat);let z:=Ye (M::AV.int i64 b::AV.arr u8 (32:Nat) h::d::d::d::c::c::M::P) (0:Nat) (134:Nat);let y:=C=C;let v:=decide (w=w);let u:=decide (l=l);let s:=decide (e=e);let r:=decide (E=E);let q:=decide (D=D);let p:=j=j;let o:=h=h;let O:=decide ((2:Nat)=n);let g:=InS.mk C w (1:Int) Z0 Z0 Z0;let f:=Z0p t;let K:=g.name=f.name;let J:=decide (g.index=f.index);let I:=g.tag=f.tag;let H:=g.also=f.also;let G:=g.secret=f.secret;let F:=Zf (Y2 L1);let k:=decide ((1:Nat)=n);
 Zj.Ok N/\
 Z5 ((if Yi N=true then (0:Int) else (2:Int)) !=(0:Int)) False
 (Z5 (S.snd !=(0:Int)) False
 (Z5 (S.fst !=l) False
 (Z5 (!decide ((0:Int)<=fee/\fee<=a)) False
 (Z5 (decide (R>=e))
 (Z5 Q ((∀(i:Nat),i<(2:Nat)->plainC (Y1 (1:Nat) (Y1 (0:Nat) (fun (x:Nat)=>[]) B) z i)=true)/\∃(L:List Z9),((2:Nat)=(2:Nat)/\(2:Nat)<(20:Nat)/\L.length=(2:Nat))/\(∀(m:Z9),List.Mem m L->Z9.Ok m)/\(∀(i:Nat),i<(2:Nat)->Y1 (1:Nat) (Y1 (0:Nat) (fun (x:Nat)=>[]) B) z i=Zl L i)/\y/\Z5 v (Z5 u (Z5 s (Z5 r (Z5 q (p/\o/\(∀(i:Nat),i<(2:Nat)->true=true)/\∃(L_1:List Z9),(2:Nat)=(2:Nat)/\Yu (0:Nat) (Zl (ZR L))=Zl L_1/\((2:Nat)<(1000:Nat)/\(2:Nat)≠(0:Nat))/\Z5 O (Z5 (decide (n<=(2:Nat))) (K/\Z5 J (I/\H/\G/\Z5 O (Zo (0:Nat) [((1:Nat),(8:Nat)),((0:Nat),(7:Nat))] n F (Zf (Y2 L_1))/\True) False) False) False) False) False) False) False) False) False)
 ((∀(i:Nat),i<(1:Nat)->plainC (Y1 (0:Nat) (fun (x:Nat)=>[]) B i)=true)/\∃(L:List Z9),((1:Nat)=(1:Nat)/\(1:Nat)<(20:Nat)/\L.length=(1:Nat))/\(∀(m:Z9),List.Mem m L->Z9.Ok m)/\(∀(i:Nat),i<(1:Nat)->Y1 (0:Nat) (fun (x:Nat)=>[]) B i=Zl L i)/\y/\Z5 v (Z5 u (Z5 s (Z5 r (Z5 q (p/\o/\(∀(i:Nat),i<(1:Nat)->true=true)/\∃(L_1:List Z9),(1:Nat)=(1:Nat)/\Yu (0:Nat) (Zl (ZR L))=Zl L_1/\((1:Nat)<(1000:Nat)/\(1:Nat)≠(0:Nat))/\Z5 k (Z5 (decide (n<=(1:Nat))) (K/\Z5 J (I/\H/\G/\Z5 k (Zo (0:Nat) [((1:Nat),(6:Nat)),((0:Nat),(5:Nat))] n F (Zf (Y2 L_1))/\True) False) False) False) False) False) False) False) False) False))
 (Z5 Q ((∀(i:Nat),i<(1:Nat)->plainC (Y1 (0:Nat) (fun (x:Nat)=>[]) z i)=true)/\∃(L:List Z9),((1:Nat)=(1:Nat)/\(1:Nat)<(20:Nat)/\L.length=(1:Nat))/\(∀(m:Z9),List.Mem m L->Z9.Ok m)/\(∀(i:Nat),i<(1:Nat)->Y1 (0:Nat) (fun (x:Nat)=>[]) z i=Zl L i)/\y/\Z5 v (Z5 u (Z5 s (Z5 r (Z5 q (p/\o/\(∀(i:Nat),i<(1:Nat)->true=true)/\∃(L_1:List Z9),(1:Nat)=(1:Nat)/\Yu (0:Nat) (Zl (ZR L))=Zl L_1/\((1:Nat)<(1000:Nat)/\(1:Nat)≠(0:Nat))/\Z5 k (Z5 (decide (n<=(1:Nat))) (K/\Z5 J (I/\H/\G/\Z5 k (Zo (0:Nat) [((1:Nat),(6:Nat)),((0:Nat),(5:Nat))] n F (Zf (Y2 L_1))/\True) False) False) False) False) False) False) False) False) False) (y/\Z5 v (Z5 u (Z5 s (Z5 r (Z5 q (p/\o/\False) False) False) False) False) False))))))) (by kernel_rfl) ?_
 conv=>zeta
 try simp only [ZD]
 try simp only [ZU]
 try simp only [ZM]
 try simp only [ZY]
 try simp only [Y0]
 try simp only [ZN]
 try simp only [true_and,and_true]
 obtain ⟨c1,c2,c3,c4⟩:=Z0Z.1 hc
 have hw:i64.wrap (a-fee)=a-fee:=w64 (by omega)
 refine ⟨ht,Zkh.2.2 c1,by simp [c2],by simp [c3],by simp [c4], ?_⟩
 ·rw [hw]
  have z32:Z0.length=32:=rfl
  refine ⟨fun h1=>⟨fun h2=> ?_,fun h2=> ?_⟩,fun h1=>⟨fun h2=> ?_,fun h2=> ?_⟩⟩
  ·have e:clL t a b fee=[⟨⟨1,a-fee,t.k0,Z0,Z0,Z0,0,0⟩,0,0⟩,⟨⟨1,b,t.k1,Z0,Z0,Z0,0,0⟩,1,0⟩]:=by unfold clL;rw [if_pos h1,if_pos h2];rfl
   have hn2:2=n:=by rw [hl,hL,e,X3];rfl
   have H:=ZeB ⟨⟨1,a-fee,t.k0,Z0,Z0,Z0,0,0⟩,0,0⟩ ⟨⟨1,b,t.k1,Z0,Z0,Z0,0,0⟩,1,0⟩
   refine ⟨Z0q H,_,⟨by decide,rfl⟩,fun m hm=> ?_,H,fun _ _=>trivial,_,rfl,⟨by decide,by decide⟩,hn2,by omega,rfl,rfl,rfl,rfl,rfl,hn2,ZP fun _ _=>by rw [hL,e];rfl⟩
   rcases Jc.1 hm with rfl|hm
   ·exact ⟨ht.k0,z32,z32,z32⟩
   ·rcases Jc.1 hm with rfl|hm
    ·exact ⟨ht.k1,z32,z32,z32⟩
    ·cases hm
  ·have e:clL t a b fee=[⟨⟨1,a-fee,t.k0,Z0,Z0,Z0,0,0⟩,0,0⟩]:=by unfold clL;rw [if_pos h1,if_neg h2];rfl
   have hn2:1=n:=by rw [hl,hL,e,X3];rfl
   have H:=Z68 ⟨⟨1,a-fee,t.k0,Z0,Z0,Z0,0,0⟩,0,0⟩
   refine ⟨Z0q H,_,⟨by decide,rfl⟩,fun m hm=> ?_,H,fun _ _=>trivial,_,rfl,⟨by decide,by decide⟩,hn2,by omega,rfl,rfl,rfl,rfl,rfl,hn2,ZP fun _ _=>by rw [hL,e];rfl⟩
   rcases Jc.1 hm with rfl|hm
   ·exact ⟨ht.k0,z32,z32,z32⟩
   ·cases hm
  ·have e:clL t a b fee=[⟨⟨1,b,t.k1,Z0,Z0,Z0,0,0⟩,1,0⟩]:=by unfold clL;rw [if_neg h1,if_pos h2];rfl
   have hn2:1=n:=by rw [hl,hL,e,X3];rfl
   have H:=Z68 ⟨⟨1,b,t.k1,Z0,Z0,Z0,0,0⟩,1,0⟩
   refine ⟨Z0q H,_,⟨by decide,rfl⟩,fun m hm=> ?_,H,fun _ _=>trivial,_,rfl,⟨by decide,by decide⟩,hn2,by omega,rfl,rfl,rfl,rfl,rfl,hn2,ZP fun _ _=>by rw [hL,e];rfl⟩
   rcases Jc.1 hm with rfl|hm
   ·exact ⟨ht.k1,z32,z32,z32⟩
   ·cases hm
  ·have e:clL t a b fee=[]:=by unfold clL;rw [if_neg h1,if_neg h2];rfl
   rw [e] at hL
   rw [hl,hL] at hn
   exact hn rfl
def clF (A:LI->Int×Int):ZO:=fun args h K=>Zz none h true 20 args fun a=>match a with
 | [.agg [.arr .u8 32 fu,.int .i64 ix,.int .i64 ca,.int .i64 du,.int .i64 fe,.int .i64 de,.arr .u8 32 k0,.arr .u8 32 k1],.agg [.arr .i64 2 ab],.int .i64 fee]=>
  (Zj.Ok ⟨fu,ix,ca,du,fe,de,k0,k1⟩)/\∃a b,ab=[a,b]/\a<9223372036854775808/\(clB A ⟨fu,ix,ca,du,fe,de,k0,k1⟩ a b fee=false->K (.ret (.tuple [.agg txZ,.int .i64 2])) h)/\
  (clB A ⟨fu,ix,ca,du,fe,de,k0,k1⟩ a b fee=true->((clL ⟨fu,ix,ca,du,fe,de,k0,k1⟩ a b fee).length=0->K (.ret (.tuple [.agg txZ,.int .i64 180])) h)/\
   ∀n L,L=ZR (clL ⟨fu,ix,ca,du,fe,de,k0,k1⟩ a b fee)->n=L.length->n≠0->K (.ret (.tuple [.agg [.int .i64 2147483647,.nslice ⟨h.next,0,0,0,0⟩ 130 1 1,.nslice ⟨h.next+1,0,132,0,0⟩ 132 n n],.int .i64 0])) ⟨h.next+2,(h.next,.flat (InS.c ⟨fu,ix,1,Z0,Z0,Z0⟩))::(h.next+1,.rows 132 n (Zf (Y2 L)))::h.bs⟩)
 | _=>False
theorem Z9m (args:List AV) (h:Z8) (K:KO) (hl:clF ZA args h K):Ze PP 42 args h K:=by
 refine Zs.fsumm (d:=20) (Zk _ _ _ _ _ hl fun a ha=> ?_)
 split at ha
 ·rename_i fu ix ca du fe de k0 k1 ab fee
  obtain ⟨ht,a,b,rfl,ha,h1,h2⟩:=ha
  cases hc:clB ZA ⟨fu,ix,ca,du,fe,de,k0,k1⟩ a b fee with
  | false=>exact ⟨_,_,_,_,.evM Z9l (ZoK _ ⟨_,_,_,_,_,_,_,_⟩ a b fee ht hc),rfl,trivial,h1 hc⟩
  | true=>
   obtain ⟨h2,h3⟩:=h2 hc
   rcases JE (clL ⟨fu,ix,ca,du,fe,de,k0,k1⟩ a b fee).length with h0|h0
   ·exact ⟨_,_,_,_,.evM Z9l (ZoL _ ⟨_,_,_,_,_,_,_,_⟩ a b fee ht ha hc (Ki.1 h0)),rfl,trivial,h2 h0⟩
   ·have hn:(ZR (clL ⟨fu,ix,ca,du,fe,de,k0,k1⟩ a b fee)).length≠0:=by rw [X3];omega
    exact ⟨_,_,_,_,.evM Z9l (ZoM _ ⟨_,_,_,_,_,_,_,_⟩ a b fee _ _ ht ha hc hn rfl rfl),rfl,⟨by decide,.flat _ rfl,by decide,.rows _ _ _ (fun i _=>(Y2 _ i).plainC),trivial⟩,h3 _ _ rfl rfl hn⟩
 simp_all
noncomputable def Zhw:Zb:=((G0.withP 112 Z3L).withF 122 puF).withF 123 mxF
theorem Z69:Zhw.Ok:=Zb.withF_ok (Zb.withF_ok (Zb.withP_ok Zm Z1w) Zke) Zkg
theorem YE:Bytes Z0:=⟨fun i=>by
 have h:Z0=List.replicate 32 0:=rfl
 rw [h,J3,List.getElem?_replicate]
 split<;>simp⟩
theorem ZeC {m a b:Int}:allIn m [a,b]=true↔(0<=a/\a<=m)/\(0<=b/\b<=m):=by
 simp_all [allIn,YI,List.range_succ,Uw]
theorem Wf {t:Zj} {a b fee:Int}:clB ZA t a b fee=true↔Yi t=true/\((0<=a/\a<=1125899906842624)/\(0<=b/\b<=1125899906842624))/\a+b=t.cap/\(0<=fee/\fee<=a):=by
 rw [Z0Z]
 unfold ZA
 by_cases h:allIn 1125899906842624 [a,b]=true
 ·rw [if_pos h]
  have h':=ZeC.1 h
  by_cases h2:[a,b].sum<=1125899906842624
  ·rw [if_pos h2];simp;omega
  ·rw [if_neg h2]
   constructor
   ·omega
   ·rintro ⟨h3,_,h4,_⟩
    unfold Yi at h3
    grind
 ·rw [if_neg h]
  constructor
  ·omega
  ·rintro ⟨_,h3,_⟩;exact absurd (ZeC.2 h3) h
theorem ZmX (t:Zj) (a b fee:Int) (ht:t.Ok) (hc:clB ZA t a b fee=false):
  evF Zhw 20 61 [.agg t.c,.agg [.arr .i64 2 [a,b]],.int .i64 fee] ⟨0,[]⟩ (ZH 0 (.ret (.tuple [.agg txZ,.int .i64 2])) 0 []):=by
 refine @Eq.mpr _ (let h:=t.dust;let l:=Zj.mk t.fund t.index t.cap h t.fee t.delay t.k0 t.k1;let k:=wrap i64 (a-fee);let f:=AV.int i64 1;let d:=AV.arr u8 32 Z0;let e:=AV.int i64 0;let g:=[e];let j:=decide (b>=h);
 Zj.Ok l/\
 Z5 (!Yi l) True
 (Z5 (decide (a>=0))
 (Z5 (!decide (a<=1125899906842624)) True
 (Z5 (decide (b>=0))
 (Z5 (!decide (b<=1125899906842624)) True
 (Z5 (wrap i64 (a+b) !=t.cap) True
 (Z5 (decide (fee<0)) True
 (Z5 (decide (fee>a)) True
 (Z5 (decide (k>=h))
 (∃(m:Z9),
 let n:=Yu 0 (Zl (Xi ltM m []));
 f::AV.int i64 k::AV.arr u8 32 t.k0::d::d::d::e::e::e::g=Z9.c m/\Z5 j ((∀(i:Nat),i<1->true=true)/\∃(L:List Z9),∃(m:Z9),(1:Nat)=1/\n=Zl L/\f::AV.int i64 b::AV.arr u8 32 t.k1::d::d::d::e::e::f::g=Z9.c m/\Z9k 1 L m/\(∀(i:Nat),i<2->true=true)/\∃(L_1:List Z9),(2:Nat)=2/\Yu 0 (Zl (Xi ltM m L))=Zl L_1/\((2:Nat)<1000/\(2:Nat)≠0)/\False) ((∀(i:Nat),i<1->true=true)/\∃(L:List Z9),(1:Nat)=1/\n=Zl L/\((1:Nat)<1000/\(1:Nat)≠0)/\False))
 (Z5 j (∃(m:Z9),f::AV.int i64 b::AV.arr u8 32 t.k1::d::d::d::e::e::f::g=Z9.c m/\(∀(i:Nat),i<1->true=true)/\∃(L:List Z9),(1:Nat)=1/\Yu 0 (Zl (Xi ltM m []))=Zl L/\((1:Nat)<1000/\(1:Nat)≠0)/\False) False))))))
 True))
 True)) (by kernel_rfl) ?_
 conv=>zeta
 try simp only [ZD]
 try simp only [ZU]
 try simp only [ZM]
 try simp only [ZY]
 try simp only [Y0]
 try simp only [ZN]
 try simp only [and_true]
 have e0:(Zj.mk t.fund t.index t.cap t.dust t.fee t.delay t.k0 t.k1)=t:=rfl
 rw [e0]
 have hx:¬(Yi t=true/\((0<=a/\a<=1125899906842624)/\(0<=b/\b<=1125899906842624))/\a+b=t.cap/\(0<=fee/\fee<=a)):=fun h=>by rw [Wf.2 h] at hc;cases hc
 ·grind [w64]
 all_goals simp_all
theorem ZmY (t:Zj) (a b fee:Int) (ht:t.Ok) (hc:clB ZA t a b fee=true) (hL:clL t a b fee=[]):
  evF Zhw 20 61 [.agg t.c,.agg [.arr .i64 2 [a,b]],.int .i64 fee] ⟨0,[]⟩ (ZH 0 (.ret (.tuple [.agg txZ,.int .i64 180])) 0 []):=by
 refine @Eq.mpr _ (let h:=t.dust;let l:=Zj.mk t.fund t.index t.cap h t.fee t.delay t.k0 t.k1;let k:=wrap i64 (a-fee);let f:=AV.int i64 1;let d:=AV.arr u8 32 Z0;let e:=AV.int i64 0;let g:=[e];let j:=decide (b>=h);
 Zj.Ok l/\
 Z5 (!Yi l) False
 (Z5 (decide (a>=0))
 (Z5 (!decide (a<=1125899906842624)) False
 (Z5 (decide (b>=0))
 (Z5 (!decide (b<=1125899906842624)) False
 (Z5 (wrap i64 (a+b) !=t.cap) False
 (Z5 (decide (fee<0)) False
 (Z5 (decide (fee>a)) False
 (Z5 (decide (k>=h))
 (∃(m:Z9),
 let n:=Yu 0 (Zl (Xi ltM m []));
 f::AV.int i64 k::AV.arr u8 32 t.k0::d::d::d::e::e::e::g=Z9.c m/\Z5 j ((∀(i:Nat),i<1->true=true)/\∃(L:List Z9),∃(m:Z9),(1:Nat)=1/\n=Zl L/\f::AV.int i64 b::AV.arr u8 32 t.k1::d::d::d::e::e::f::g=Z9.c m/\Z9k 1 L m/\(∀(i:Nat),i<2->true=true)/\∃(L_1:List Z9),(2:Nat)=2/\Yu 0 (Zl (Xi ltM m L))=Zl L_1/\((2:Nat)<1000/\(2:Nat)≠0)/\False) ((∀(i:Nat),i<1->true=true)/\∃(L:List Z9),(1:Nat)=1/\n=Zl L/\((1:Nat)<1000/\(1:Nat)≠0)/\False))
 (Z5 j (∃(m:Z9),f::AV.int i64 b::AV.arr u8 32 t.k1::d::d::d::e::e::f::g=Z9.c m/\(∀(i:Nat),i<1->true=true)/\∃(L:List Z9),(1:Nat)=1/\Yu 0 (Zl (Xi ltM m []))=Zl L/\((1:Nat)<1000/\(1:Nat)≠0)/\False) True))))))
 False))
 False)) (by kernel_rfl) ?_
 conv=>zeta
 try simp only [ZD]
 try simp only [ZU]
 try simp only [ZM]
 try simp only [ZY]
 try simp only [Y0]
 try simp only [ZN]
 try simp only [and_true]
 obtain ⟨c1,⟨c2,c3⟩,c4,c5⟩:=Wf.1 hc
 have w1:i64.wrap (a-fee)=a-fee:=w64 (by omega)
 have w2:i64.wrap (a+b)=a+b:=w64 (by omega)
 simp_all [clL]
theorem ZmZ (t:Zj) (a b fee:Int) (n:Nat) (L1:List Z9) (ht:t.Ok) (hc:clB ZA t a b fee=true) (hn:n≠0) (hL:L1=ZR (clL t a b fee)) (hl:n=L1.length):
  evF Zhw 20 61 [.agg t.c,.agg [.arr .i64 2 [a,b]],.int .i64 fee] ⟨0,[]⟩ (ZH 0 (.ret (.tuple [.agg [.int .i64 2147483647,.nslice ⟨0,0,0,0,0⟩ 130 1 1,.nslice ⟨1,0,132,0,0⟩ 132 n n],.int .i64 0])) 2 [(0,.flat (InS.c (Z0p t))),(1,.rows 132 n (Zf (Y2 L1)))]):=by
 refine @Eq.mpr _ (let u:=t.dust;let z:=Zj.mk t.fund t.index t.cap u t.fee t.delay t.k0 t.k1;let y:=wrap i64 (a-fee);let f:=AV.int i64 1;let d:=AV.arr u8 32 Z0;let e:=AV.int i64 0;let k:=[e];let w:=decide (b>=u);let v:=decide (2=n);let h:=InS.mk t.fund t.index 1 Z0 Z0 Z0;let g:=Z0p t;let s:=h.name=g.name;let r:=decide (h.index=g.index);let q:=h.tag=g.tag;let p:=h.also=g.also;let o:=h.secret=g.secret;let l:=Zf (Y2 L1);let j:=decide (1=n);
 Zj.Ok z/\
 Z5 (!Yi z) False
 (Z5 (decide (a>=0))
 (Z5 (!decide (a<=1125899906842624)) False
 (Z5 (decide (b>=0))
 (Z5 (!decide (b<=1125899906842624)) False
 (Z5 (wrap i64 (a+b) !=t.cap) False
 (Z5 (decide (fee<0)) False
 (Z5 (decide (fee>a)) False
 (Z5 (decide (y>=u))
 (∃(m:Z9),
 let x:=Yu 0 (Zl (Xi ltM m []));
 f::AV.int i64 y::AV.arr u8 32 t.k0::d::d::d::e::e::e::k=Z9.c m/\Z5 w ((∀(i:Nat),i<1->true=true)/\∃(L:List Z9),∃(m:Z9),(1:Nat)=1/\x=Zl L/\f::AV.int i64 b::AV.arr u8 32 t.k1::d::d::d::e::e::f::k=Z9.c m/\Z9k 1 L m/\(∀(i:Nat),i<2->true=true)/\∃(L_1:List Z9),(2:Nat)=2/\Yu 0 (Zl (Xi ltM m L))=Zl L_1/\((2:Nat)<1000/\(2:Nat)≠0)/\Z5 v (Z5 (decide (n<=2)) (s/\Z5 r (q/\p/\o/\Z5 v (Zo 0 [(1,6),(0,5)] n l (Zf (Y2 L_1))/\True) False) False) False) False) ((∀(i:Nat),i<1->true=true)/\∃(L:List Z9),(1:Nat)=1/\x=Zl L/\((1:Nat)<1000/\(1:Nat)≠0)/\Z5 j (Z5 (decide (n<=1)) (s/\Z5 r (q/\p/\o/\Z5 j (Zo 0 [(1,5),(0,4)] n l (Zf (Y2 L))/\True) False) False) False) False))
 (Z5 w (∃(m:Z9),f::AV.int i64 b::AV.arr u8 32 t.k1::d::d::d::e::e::f::k=Z9.c m/\(∀(i:Nat),i<1->true=true)/\∃(L:List Z9),(1:Nat)=1/\Yu 0 (Zl (Xi ltM m []))=Zl L/\((1:Nat)<1000/\(1:Nat)≠0)/\Z5 j (Z5 (decide (n<=1)) (s/\Z5 r (q/\p/\o/\Z5 j (Zo 0 [(1,5),(0,4)] n l (Zf (Y2 L))/\True) False) False) False) False) False))))))
 False))
 False)) (by kernel_rfl) ?_
 conv=>zeta
 try simp only [ZD]
 try simp only [ZU]
 try simp only [ZM]
 try simp only [ZY]
 try simp only [Y0]
 try simp only [ZN]
 try simp only [true_and,and_true]
 obtain ⟨c1,⟨c2,c3⟩,c4,c5⟩:=Wf.1 hc
 have w1:i64.wrap (a-fee)=a-fee:=w64 (by omega)
 have w2:i64.wrap (a+b)=a+b:=w64 (by omega)
 refine ⟨ht,by rw [c1];rfl,by omega,by simp;omega,by omega,by simp;omega,by rw [w2];simp [c4],by omega,by omega, ?_⟩
 rw [w1]
 have z32:Z0.length=32:=rfl
 have oA:(⟨⟨1,a-fee,t.k0,Z0,Z0,Z0,0,0⟩,0,0⟩:Z9).Okb:=⟨⟨ht.k0,z32,z32,z32⟩,YE⟩
 have oB:(⟨⟨1,b,t.k1,Z0,Z0,Z0,0,0⟩,1,0⟩:Z9).Okb:=⟨⟨ht.k1,z32,z32,z32⟩,YE⟩
 refine ⟨fun h1=>⟨⟨⟨1,a-fee,t.k0,Z0,Z0,Z0,0,0⟩,0,0⟩,rfl,fun h2=> ?_,fun h2=> ?_⟩,fun h1=> ?_⟩
 ·have e:L1=Xi ltM ⟨⟨1,b,t.k1,Z0,Z0,Z0,0,0⟩,1,0⟩ (Xi ltM ⟨⟨1,a-fee,t.k0,Z0,Z0,Z0,0,0⟩,0,0⟩ []):=by rw [hL];unfold clL;rw [if_pos h1,if_pos h2];rfl
  have hn2:2=n:=by rw [hl,e,Z3O];rfl
  exact ⟨fun _ _=>trivial,_,⟨⟨1,b,t.k1,Z0,Z0,Z0,0,0⟩,1,0⟩,rfl,rfl,⟨by decide,rfl,oB,fun x hx=>by rcases Jc.1 hx with rfl|hx;all_goals grind⟩,fun _ _=>trivial,_,rfl,⟨by decide,by decide⟩,hn2,by omega,rfl,rfl,rfl,rfl,rfl,hn2,ZP fun _ _=>by rw [e];rfl⟩
 ·have e:L1=Xi ltM ⟨⟨1,a-fee,t.k0,Z0,Z0,Z0,0,0⟩,0,0⟩ []:=by rw [hL];unfold clL;rw [if_pos h1,if_neg h2];rfl
  have hn2:1=n:=by rw [hl,e];rfl
  exact ⟨fun _ _=>trivial,_,rfl,⟨by decide,by decide⟩,hn2,by omega,rfl,rfl,rfl,rfl,rfl,hn2,ZP fun _ _=>by rw [e];rfl⟩
 ·by_cases h2:b>=t.dust
  rotate_left
  ·have e:L1=[]:=by rw [hL];unfold clL;rw [if_neg h1,if_neg h2];rfl
   simp_all
  have e:L1=Xi ltM ⟨⟨1,b,t.k1,Z0,Z0,Z0,0,0⟩,1,0⟩ []:=by rw [hL];unfold clL;rw [if_neg h1,if_pos h2];rfl
  have hn2:1=n:=by rw [hl,e];rfl
  exact ⟨h2,⟨⟨1,b,t.k1,Z0,Z0,Z0,0,0⟩,1,0⟩,rfl,fun _ _=>trivial,_,rfl,⟨by decide,by decide⟩,hn2,by omega,rfl,rfl,rfl,rfl,rfl,hn2,ZP fun _ _=>by rw [e];rfl⟩
theorem Z6a (args:List AV) (h:Z8) (K:KO) (hl:clF ZA args h K):Ze PP 61 args h K:=by
 refine Zs.fsumm (d:=20) (Zk _ _ _ _ _ hl fun a ha=> ?_)
 split at ha
 ·rename_i fu ix ca du fe de k0 k1 ab fee
  obtain ⟨ht,a,b,rfl,ha,h1,h2⟩:=ha
  cases hc:clB ZA ⟨fu,ix,ca,du,fe,de,k0,k1⟩ a b fee with
  | false=>exact ⟨_,_,_,_,.evM Z69 (ZmX ⟨_,_,_,_,_,_,_,_⟩ a b fee ht hc),rfl,trivial,h1 hc⟩
  | true=>
   obtain ⟨h2,h3⟩:=h2 hc
   rcases JE (clL ⟨fu,ix,ca,du,fe,de,k0,k1⟩ a b fee).length with h0|h0
   ·exact ⟨_,_,_,_,.evM Z69 (ZmY ⟨_,_,_,_,_,_,_,_⟩ a b fee ht hc (Ki.1 h0)),rfl,trivial,h2 h0⟩
   ·have hn:(ZR (clL ⟨fu,ix,ca,du,fe,de,k0,k1⟩ a b fee)).length≠0:=by rw [X3];omega
    exact ⟨_,_,_,_,.evM Z69 (ZmZ ⟨_,_,_,_,_,_,_,_⟩ a b fee _ _ ht hc hn rfl rfl),rfl,⟨by decide,.flat _ rfl,by decide,.rows _ _ _ (fun i _=>(Y2 _ i).plainC),trivial⟩,h3 _ _ rfl rfl hn⟩
 simp_all
@[irreducible] def loH (a b:LI):LI:=if X7 a b>0 then b else a
@[irreducible] def hiH (a b:LI):LI:=if X7 a b>0 then a else b
theorem Zn0 (a b lo hi:LI) (ha:a.length=32) (hb:b.length=32) (hl:lo=loH a b) (hh:hi=hiH a b):
  evF G0 20 45 [.agg [.arr .u8 32 a],.agg [.arr .u8 32 b]] ⟨0,[]⟩ (XY (fun v=>v=.tuple [.agg [.arr .u8 32 lo],.agg [.arr .u8 32 hi]])):=by
 refine @Eq.mpr _ (let e:=AV.agg [AV.arr u8 32 b];let d:=AV.agg [AV.arr u8 32 a];let c:=AV.tuple [AV.agg [AV.arr u8 32 lo],AV.agg [AV.arr u8 32 hi]];
 Z7 (u8=u8/\a.length=32) (Z7 (u8=u8/\b.length=32) (Z5 (decide (X7 a b>0)) (a=a/\AV.tuple [e,d]=c) (b=b/\AV.tuple [d,e]=c)))) (by kernel_rfl) ?_
 conv=>zeta
 try simp only [vcA]
 try simp only [vcB]
 try simp only [vcC]
 subst hl hh
 unfold loH hiH
 refine ⟨ha,hb,fun h=> ?_,fun h=> ?_⟩
 ·rw [if_pos h,if_pos h]
 ·rw [if_neg h,if_neg h]
def Zki:ZI:=fun args _ K=>match args with
 | [.agg [.arr .u8 32 a],.agg [.arr .u8 32 b]]=>(a.length=32/\b.length=32)/\K (.tuple [.agg [.arr .u8 32 (loH a b)],.agg [.arr .u8 32 (hiH a b)]])
 | _=>False
theorem Zhx (args:List AV) (h:Z8) (K:AV->Prop) (hl:Zki args h K):Ze PP 45 args h fun o h'=>∃v,o=.ret v/\h'=h/\K v:=by
 unfold Zki at hl
 split at hl
 ·obtain ⟨⟨h1,h2⟩,hK⟩:=hl
  exact Xk Zm rfl (Zn0 _ _ _ _ h1 h2 rfl rfl) (fun u hu=>hu▸hK)
 ·exact hl.elim
theorem Z6b {a b:LI} (ha:a.length=32) (hb:b.length=32):(loH a b).length=32:=by unfold loH;split<;>assumption
theorem Z6c {a b:LI} (ha:a.length=32) (hb:b.length=32):(hiH a b).length=32:=by unfold hiH;split<;>assumption
theorem Zn1 (m:Nat) (g:Nat->InS) (hm:m<1000):
  evF G0 20 91 [.vrows 130 (m+1) (Zg g) (m+1)] ⟨0,[]⟩ (ZH 0 (.ret (.nslice ⟨0,0,130,0,0⟩ 130 (m+1) (m+1))) 1 [(0,.rows 130 (m+1) (Zg g))]):=by
 refine @Eq.mpr _ (let a:=m+1;let b:=0+a;let c:=decide (b=a);
 Z7 (b*144<=140737488355328) (Z6 c (Z7 (a<=b) (Z6 c (Zo 0 [(0,0)] a (Zg g) (Y1 0 (fun (x:Nat)=>[]) (Zg g))/\True))))) (by kernel_rfl) ?_
 conv=>zeta
 try simp only [vcA]
 try simp only [vcB]
 try simp only [vcC]
 exact ⟨by omega,Ym fun i _=>by rw [Vr (JF _)];rfl⟩
theorem Zn2 (g:Nat->InS) :
  evF G0 20 91 [.nilslice] ⟨0,[]⟩ (ZH 0 (.ret (.nslice ⟨0,0,130,0,0⟩ 130 0 0)) 1 [(0,.rows 130 0 (Zg g))]):=by
 refine @Eq.mpr _ (True) (by kernel_rfl) ?_
 trivial
theorem Zn3 (g:Nat->InS) :
  evF G0 20 91 [.fslice] ⟨0,[]⟩ (ZH 0 (.ret (.nslice ⟨0,0,130,0,0⟩ 130 0 0)) 1 [(0,.rows 130 0 (Zg g))]):=by
 refine @Eq.mpr _ (Zo 0 [(0,0)] 0 (Zg g) (Y1 0 (fun (x:Nat)=>[]) fun (x:Nat)=>[])/\True) (by kernel_rfl) ?_
 try simp only [vcA]
 try simp only [vcB]
 try simp only [vcC]
 exact Ym fun i hi=>absurd hi (K6 i)
theorem ZeD (n:Nat) (g:Nat->InS) (hn:n<1000):Zs PP 91 [.vrows 130 n (Zg g) n] (.nslice ⟨0,0,130,0,0⟩ 130 n n) 1 [(0,.rows 130 n (Zg g))]:=by
 match n,hn with
 | 0,_=>exact Zs.vrows0 (.evM Zm (Zn2 g)) (.evM Zm (Zn3 g))
 | m+1,h=>exact .evM Zm (Zn1 m g (by omega))
def Zkj:ZO:=fun args h K=>Zz none h true 20 args fun a=>match a with
 | [v]=>∃N g,Z49 v N g/\N<1000/\K (.ret (.nslice ⟨h.next,0,130,0,0⟩ 130 N N)) ⟨h.next+1,(h.next,.rows 130 N (Zg g))::h.bs⟩
 | _=>False
theorem Zhy (args:List AV) (h:Z8) (K:KO) (hl:Zkj args h K):Ze PP 91 args h K:=by
 refine Zs.fsumm (d:=20) (Zk _ _ _ _ _ hl fun a ha=> ?_)
 split at ha
 ·obtain ⟨N,g,h1,h2,hK⟩:=ha
  exact ⟨_,_,_,_,(ZeD N g h2).conv fun E r hr=>hr.head (fun _ hc=>h1.rel hc) (fun _ hc=>hc),rfl,⟨by decide,.rows _ _ _ (fun i _=>(g i).plainC),trivial⟩,hK⟩
 ·exact ha.elim
theorem Zn4 (m:Nat) (g:Nat->ZF) (hm:m<1000):
  evF G0 20 92 [.vrows 132 (m+1) (Zf g) (m+1)] ⟨0,[]⟩ (ZH 0 (.ret (.nslice ⟨0,0,132,0,0⟩ 132 (m+1) (m+1))) 1 [(0,.rows 132 (m+1) (Zf g))]):=by
 refine @Eq.mpr _ (let a:=m+1;let b:=0+a;let c:=decide (b=a);
 Z7 (b*160<=140737488355328) (Z6 c (Z7 (a<=b) (Z6 c (Zo 0 [(0,0)] a (Zf g) (Y1 0 (fun (x:Nat)=>[]) (Zf g))/\True))))) (by kernel_rfl) ?_
 conv=>zeta
 try simp only [vcA]
 try simp only [vcB]
 try simp only [vcC]
 exact ⟨by omega,ZP fun i _=>by rw [Vr (JF _)];rfl⟩
theorem Zn5 (g:Nat->ZF) :
  evF G0 20 92 [.nilslice] ⟨0,[]⟩ (ZH 0 (.ret (.nslice ⟨0,0,132,0,0⟩ 132 0 0)) 1 [(0,.rows 132 0 (Zf g))]):=by
 refine @Eq.mpr _ (True) (by kernel_rfl) ?_
 trivial
theorem Zn6 (g:Nat->ZF) :
  evF G0 20 92 [.fslice] ⟨0,[]⟩ (ZH 0 (.ret (.nslice ⟨0,0,132,0,0⟩ 132 0 0)) 1 [(0,.rows 132 0 (Zf g))]):=by
 refine @Eq.mpr _ (Zo 0 [(0,0)] 0 (Zf g) (Y1 0 (fun (x:Nat)=>[]) fun (x:Nat)=>[])/\True) (by kernel_rfl) ?_
 try simp only [vcA]
 try simp only [vcB]
 try simp only [vcC]
 exact ZP fun i hi=>absurd hi (K6 i)
theorem ZeE (n:Nat) (g:Nat->ZF) (hn:n<1000):Zs PP 92 [.vrows 132 n (Zf g) n] (.nslice ⟨0,0,132,0,0⟩ 132 n n) 1 [(0,.rows 132 n (Zf g))]:=by
 match n,hn with
 | 0,_=>exact Zs.vrows0 (.evM Zm (Zn5 g)) (.evM Zm (Zn6 g))
 | m+1,h=>exact .evM Zm (Zn4 m g (by omega))
def Zkk:ZO:=fun args h K=>Zz none h true 20 args fun a=>match a with
 | [v]=>∃N g,Z1O v N g/\N<1000/\K (.ret (.nslice ⟨h.next,0,132,0,0⟩ 132 N N)) ⟨h.next+1,(h.next,.rows 132 N (Zf g))::h.bs⟩
 | _=>False
theorem Zhz (args:List AV) (h:Z8) (K:KO) (hl:Zkk args h K):Ze PP 92 args h K:=by
 refine Zs.fsumm (d:=20) (Zk _ _ _ _ _ hl fun a ha=> ?_)
 split at ha
 ·obtain ⟨N,g,h1,h2,hK⟩:=ha
  exact ⟨_,_,_,_,(ZeE N g h2).conv fun E r hr=>hr.head (fun _ hc=>h1.rel hc) (fun _ hc=>hc),rfl,⟨by decide,.rows _ _ _ (fun i _=>(g i).plainC),trivial⟩,hK⟩
 ·exact ha.elim
end Go.Tk
end
