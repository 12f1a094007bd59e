/- V: part 4 of an engine (a symbolic evaluator, proved against the model) and of the walk by it. -/
import Derived.Test.YtjahlbmhknicjaaGreatV3
import Derived.OpenShut
import Derived.WideShapes
import Derived.ChangeSlices
import Derived.WalkKit
import Derived.ProofKit
import Derived.Below
import Derived.Handed
import Derived.Carry
import Derived.Shelf.SlSortCmp.WholeK
set_option linter.unusedVariables false
set_option linter.unusedSimpArgs false
set_option maxRecDepth 100000
set_option maxHeartbeats 0
section
namespace Go.Tk
open IntKind (i64 u8 u32 u64 wrap)
def b8 (n k:Int):Int:=u8.wrap (Zt .i64 n k)
@[irreducible] def ZX (n:Int):List Int:=
 if n<253 then [u8.wrap n] else if n<65536 then [253,b8 n 8,b8 n 0] else if n<4294967296 then [254,b8 n 24,b8 n 16,b8 n 8,b8 n 0]
 else [255,b8 n 56,b8 n 48,b8 n 40,b8 n 32,b8 n 24,b8 n 16,b8 n 8,b8 n 0]
theorem ZU (n:Int):1≤(ZX n).length∧(ZX n).length≤9:=by
 unfold ZX
 split
 ·simp
 ·split
  ·simp
  ·split<;>simp
theorem Zbm {n:Int} (h:n<253):ZX n=[u8.wrap n]:=by unfold ZX;rw [if_pos h]
theorem Zbn {n:Int} (h:¬n<253) (h2:n<65536):ZX n=[253,b8 n 8,b8 n 0]:=by unfold ZX;rw [if_neg h,if_pos h2]
theorem Zbo {n:Int} (h:¬n<253) (h2:¬n<65536) (h3:n<4294967296):ZX n=[254,b8 n 24,b8 n 16,b8 n 8,b8 n 0]:=by unfold ZX;rw [if_neg h,if_neg h2,if_pos h3]
theorem Zbp {n:Int} (h:¬n<253) (h2:¬n<65536) (h3:¬n<4294967296):ZX n=[255,b8 n 56,b8 n 48,b8 n 40,b8 n 32,b8 n 24,b8 n 16,b8 n 8,b8 n 0]:=by unfold ZX;rw [if_neg h,if_neg h2,if_neg h3]
theorem ZhY (xs ys:List Int) (N L s lo:Nat) (n:Int) (hN:xs.length=N) (hB:N<90000000000000) (hy:ys=ZX n) (hL:L=(xs++ys).length):
  evF G0 20 127 [.nslice ⟨0,0,s,0,0⟩ 1 N lo,.int .i64 n] ⟨1,[(0,.ints .u8 xs)]⟩ (Y7 1 (.ret (.nslice ⟨1,0,0,0,0⟩ 1 L L)) 2 [(1,.ints .u8 (xs++ys))]):=by
 refine @Eq.mpr _ (let q1:=decide (u8=u8∧List.length xs=N);
 let q2:=xs++[wrap u8 n];
 let q3:=List.length q2;
 let q4:=xs++ys;
 let q5:=xs++[(253:Int)];
 let q6:=List.length q5;
 let q7:=[wrap u8 (Zt i64 n 8)];
 let q8:=q5++q7;
 let q9:=List.length q8;
 let q10:=[wrap u8 (Zt i64 n 0)];
 let q11:=q8++q10;
 let q12:=List.length q11;
 let q13:=xs++[(254:Int)];
 let q14:=List.length q13;
 let q15:=[wrap u8 (Zt i64 n 24)];
 let q16:=q13++q15;
 let q17:=List.length q16;
 let q18:=[wrap u8 (Zt i64 n 16)];
 let q19:=q16++q18;
 let q20:=List.length q19;
 let q21:=q19++q7;
 let q22:=List.length q21;
 let q23:=q21++q10;
 let q24:=List.length q23;
 let q25:=xs++[(255:Int)];
 let q26:=List.length q25;
 let q27:=q25++[wrap u8 (Zt i64 n 56)];
 let q28:=List.length q27;
 let q29:=q27++[wrap u8 (Zt i64 n 48)];
 let q30:=List.length q29;
 let q31:=q29++[wrap u8 (Zt i64 n 40)];
 let q32:=List.length q31;
 let q33:=q31++[wrap u8 (Zt i64 n 32)];
 let q34:=List.length q33;
 let q35:=q33++q15;
 let q36:=List.length q35;
 let q37:=q35++q18;
 let q38:=List.length q37;
 let q39:=q37++q7;
 let q40:=List.length q39;
 let q41:=q39++q10;
 let q42:=List.length q41;
 Z0 (decide (n<253)) (Z0 q1 (Z0 (decide (q3*1≤140737488355328)) (Z0 (decide (q3=L)) (Z0 (decide (L≤q3)) (q2=q4∧True) False) False) False) False)
 (Z0 (decide (n<65536)) (Z0 q1 (Z0 (decide (q6*1≤140737488355328)) (Z0 (decide (u8=u8∧q6=q6)) (Z0 (decide (q9*1≤140737488355328)) (Z0 (decide (u8=u8∧q9=q9)) (Z0 (decide (q12*1≤140737488355328)) (Z0 (decide (q12=L)) (Z0 (decide (L≤q12)) (q11=q4∧True) False) False) False) False) False) False) False) False)
 (Z0 (decide (n<4294967296)) (Z0 q1 (Z0 (decide (q14*1≤140737488355328)) (Z0 (decide (u8=u8∧q14=q14)) (Z0 (decide (q17*1≤140737488355328)) (Z0 (decide (u8=u8∧q17=q17)) (Z0 (decide (q20*1≤140737488355328)) (Z0 (decide (u8=u8∧q20=q20)) (Z0 (decide (q22*1≤140737488355328)) (Z0 (decide (u8=u8∧q22=q22)) (Z0 (decide (q24*1≤140737488355328)) (Z0 (decide (q24=L)) (Z0 (decide (L≤q24)) (q23=q4∧True) False) False) False) False) False) False) False) False) False) False) False) False)
 (Z0 q1
 (Z0 (decide (q26*1≤140737488355328))
 (Z0 (decide (u8=u8∧q26=q26)) (Z0 (decide (q28*1≤140737488355328)) (Z0 (decide (u8=u8∧q28=q28)) (Z0 (decide (q30*1≤140737488355328)) (Z0 (decide (u8=u8∧q30=q30)) (Z0 (decide (q32*1≤140737488355328)) (Z0 (decide (u8=u8∧q32=q32)) (Z0 (decide (q34*1≤140737488355328)) (Z0 (decide (u8=u8∧q34=q34)) (Z0 (decide (q36*1≤140737488355328)) (Z0 (decide (u8=u8∧q36=q36)) (Z0 (decide (q38*1≤140737488355328)) (Z0 (decide (u8=u8∧q38=q38)) (Z0 (decide (q40*1≤140737488355328)) (Z0 (decide (u8=u8∧q40=q40)) (Z0 (decide (q42*1≤140737488355328)) (Z0 (decide (q42=L)) (Z0 (decide (L≤q42)) (q41=q4∧True) False) False) False) False) False) False) False) False) False) False) False) False) False) False) False) False) False) False) False)
 False)))) (by kernel_rfl) ?_
 conv=>zeta
 try simp only [Zg]
 try simp only [Zh]
 try simp only [Ze]
 try simp only [Int.toNat_natCast,Nat.zero_add,true_and,and_true,Nat.le_refl]
 subst hy hL hN
 refine ⟨fun h1=> ?_,fun h1=>⟨fun h2=> ?_,fun h2=>⟨fun h3=> ?_,fun h3=> ?_⟩⟩⟩
 ·rw [Zbm h1]
  simp only [List.length_append,List.length_cons,List.length_nil]
  and_intros<;>first|trivial|omega
 ·rw [Zbn h1 h2]
  simp only [List.length_append,List.length_cons,List.length_nil]
  and_intros<;>first|trivial|omega|simp [b8]
 ·rw [Zbo h1 h2 h3]
  simp only [List.length_append,List.length_cons,List.length_nil]
  and_intros<;>first|trivial|omega|simp [b8]
 ·rw [Zbp h1 h2 h3]
  simp only [List.length_append,List.length_cons,List.length_nil]
  and_intros<;>first|trivial|omega|simp [b8]
theorem ZhZ (ys:List Int) (L:Nat) (n:Int) (hy:ys=ZX n) (hL:L=ys.length):
  evF G0 20 127 [.nilslice,.int .i64 n] ⟨0,[]⟩ (Y7 0 (.ret (.nslice ⟨0,0,0,0,0⟩ 1 L L)) 1 [(0,.ints .u8 ys)]):=by
 refine @Eq.mpr _ (let q1:=[wrap u8 (Zt i64 n 8),wrap u8 (Zt i64 n 0)];
 let q2:=wrap u8 (Zt i64 n 24)::wrap u8 (Zt i64 n 16)::q1;
 Z0 (decide (n<253)) (Z0 (decide (1=L)) (Z0 (decide (L≤1)) ([wrap u8 n]=ys∧True) False) False) (Z0 (decide (n<65536)) (Z0 (decide (3=L)) (Z0 (decide (L≤3)) ((253:Int)::q1=ys∧True) False) False) (Z0 (decide (n<4294967296)) (Z0 (decide (5=L)) (Z0 (decide (L≤5)) ((254:Int)::q2=ys∧True) False) False) (Z0 (decide (9=L)) (Z0 (decide (L≤9)) ((255:Int)::wrap u8 (Zt i64 n 56)::wrap u8 (Zt i64 n 48)::wrap u8 (Zt i64 n 40)::wrap u8 (Zt i64 n 32)::q2=ys∧True) False) False)))) (by kernel_rfl) ?_
 conv=>zeta
 try simp only [Zg]
 try simp only [Zh]
 try simp only [Ze]
 try simp only [Int.toNat_natCast,Nat.zero_add,true_and,and_true,Nat.le_refl]
 subst hy hL
 refine ⟨fun h1=> ?_,fun h1=>⟨fun h2=> ?_,fun h2=>⟨fun h3=> ?_,fun h3=> ?_⟩⟩⟩
 ·rw [Zbm h1];simp
 ·rw [Zbn h1 h2];simp [b8]
 ·rw [Zbo h1 h2 h3];simp [b8]
 ·rw [Zbp h1 h2 h3];simp [b8]
def ZgK (W:Int→List Int):Ye:=fun args h K=>match args with
 | [.nslice ⟨b,0,_,0,0⟩ 1 _ _,.int .i64 _]=>frA [b] h 20 args fun Bs a=>match Bs,a with
  | [.ints .u8 xs],[.nslice ⟨0,0,_,0,0⟩ 1 len _,.int .i64 n]=>Zu (xs.length=len∧len<90000000000000) (K (.ret (.nslice ⟨h.next,0,0,0,0⟩ 1 (xs++W n).length (xs++W n).length)) ⟨h.next+1,(h.next,.ints .u8 (xs++W n))::Yw h.bs b⟩)
  | _,_=>False
 | [.nilslice,.int .i64 n]=>K (.ret (.nslice ⟨h.next,0,0,0,0⟩ 1 (W n).length (W n).length)) ⟨h.next+1,(h.next,.ints .u8 (W n))::h.bs⟩
 | _=>False
theorem ZdR (args:List AV) (h:Z9) (K:KO) (hl:ZgK ZX args h K):Zm PP 127 args h K:=by
 unfold ZgK at hl
 split at hl
 ·refine Spec.fsumm hl fun Bs a hlen hK0=> ?_
  split at hK0
  ·obtain ⟨⟨h1,h2⟩,hK⟩:=Zc hK0
   exact ⟨_,_,_,_,_,.evM Zr (ZhY _ _ _ _ _ _ _ h1 h2 rfl rfl),by simp,.ret _ _ rfl,.cons _ _ _ _ _ _ rfl (.ints _ _) .nil,hK⟩
  ·exact hK0.elim
 ·exact (Zw.evM Zr (ZhZ _ _ _ rfl rfl)).calls (fun E w rs he hr=>by
   cases hr with
   | cons v r vs rs h1 h2=>cases h2 with
    | cons v r vs rs h2 h3=>cases h3;exact .cons _ _ _ _ (h1.plain rfl) (.cons _ _ _ _ (h2.plain rfl) .nil)) rfl ⟨Nat.one_pos,.ints _ _,trivial⟩ hl
 ·exact hl.elim
theorem Zbq (x:Int) (xs:List Int) (N:Nat) (hN:(x::xs).length=N) (hB:N<90000000000000):
  evF G0 20 113 [.vints .u8 (x::xs) N] ⟨0,[]⟩ (Y7 0 (.ret (.nslice ⟨0,0,0,0,0⟩ 1 N N)) 1 [(0,.ints .u8 (x::xs))]):=by
 refine @Eq.mpr _ (let q1:=[]++List.take N (x::xs);
 let q2:=List.length q1;
 Z0 (decide (q2*1≤140737488355328)) (Z0 (decide (q2=N)) (Z0 (decide (N≤q2)) (q1=x::xs∧True) False) False) False) (by kernel_rfl) ?_
 conv=>zeta
 try simp only [Zg]
 try simp only [Zi]
 try simp only [Zh]
 try simp only [Zj]
 try simp only [Zk]
 try simp only [Ze]
 try simp only [Int.toNat_natCast,Nat.zero_add,true_and,and_true,Nat.le_refl]
 subst hN
 simp only [List.nil_append,List.take_length]
 and_intros<;>first|trivial|omega
theorem Zbr (u:Unit) :
  evF G0 20 113 [.nilslice] ⟨0,[]⟩ (Y7 0 (.ret (.nslice ⟨0,0,0,0,0⟩ 1 0 0)) 1 [(0,.ints .u8 [])]):=by
 refine @Eq.mpr _ (([]:List Int)=[]∧True) (by kernel_rfl) ?_
 trivial
theorem Zbs (u:Unit) :
  evF G0 20 113 [.fslice] ⟨0,[]⟩ (Y7 0 (.ret (.nslice ⟨0,0,0,0,0⟩ 1 0 0)) 1 [(0,.ints .u8 [])]):=by
 refine @Eq.mpr _ (([]:List Int)=[]∧True) (by kernel_rfl) ?_
 trivial
theorem Z5S (xs:List Int) (N:Nat) (hN:xs.length=N) (hB:N<90000000000000):Zw PP 113 [.vints .u8 xs N] (.nslice ⟨0,0,0,0,0⟩ 1 N N) 1 [(0,.ints .u8 xs)]:=by
 cases xs with
 | nil=>subst hN;exact Zw.vints0 (.evM Zr (Zbr ())) (.evM Zr (Zbs ()))
 | cons x r=>exact .evM Zr (Zbq x r N hN hB)
def Z8t:Ye:=fun args h K=>ZO none h true 20 args fun a=>match a with
 | [.vints .u8 xs n]=>Zu (xs.length=n∧n<90000000000000) (K (.ret (.nslice ⟨h.next,0,0,0,0⟩ 1 n n)) ⟨h.next+1,(h.next,.ints .u8 xs)::h.bs⟩)
 | _=>False
theorem Z7r (args:List AV) (h:Z9) (K:KO) (hl:Z8t args h K):Zm PP 113 args h K:=by
 refine Zw.fsumm (d:=20) (Zq _ _ _ _ _ hl fun a ha=> ?_)
 split at ha
 ·obtain ⟨⟨h1,h2⟩,hK⟩:=Zc ha
  exact ⟨_,_,_,_,Z5S _ _ h1 h2,rfl,⟨Nat.one_pos,.ints _ _,trivial⟩,hK⟩
 ·exact ha.elim
end Go.Tk
end
section
namespace Go.Tk
open IntKind (i64 u8 u32 u64 wrap)
theorem Spec.conv {P:Program} {f:FuncId} {args args₀:List AV} {h0:Z9} {o:Out} {nx:Nat} {bs:List (Nat×Blk)} (h:Spec P f args₀ h0 o nx bs) (hc:∀E r,ZC E args r→ZC E args₀ r):Spec P f args h0 o nx bs:=
 fun E w rs he hr=>h E w rs he (hc E rs hr)
noncomputable def Zbt (W:Int→List Int):Zf:=G0.withF 127 (ZgK W)
theorem Z1i:(Zbt ZX).Ok:=Zf.withF_ok Zr ZdR
theorem ZdS (xs hh ys:List Int) (N L lo:Nat) (hN:xs.length=N) (hB:N<90000000000000) (hq:hh.length=32) (hy:ys=xs++hh) (hL:L=ys.length):
  evF G0 20 64 [.ptr (some ⟨0,0,0,0,0⟩),.vrows 32 1 (fun _=>[.arr .u8 32 hh]) 1] ⟨2,[(0,.flat [.nslice ⟨1,0,0,0,0⟩ 1 N lo,.bool true]),(1,.ints .u8 xs)]⟩ (Y7 2 (.ret (.int .i64 0)) 3 [(0,.flat [.nslice ⟨2,0,0,0,0⟩ 1 L L,.bool true]),(2,.ints .u8 ys)]):=by
 refine @Eq.mpr _ (let q1:=xs++hh;
 let q2:=List.length q1;
 Z0 (decide (u8=u8∧List.length hh=32)) (Z0 (decide (u8=u8∧List.length xs=N)) (Z0 (decide (q2*1≤140737488355328)) (Z0 (decide (q2=L)) (Z0 (decide (L≤q2)) (q1=ys∧True) False) False) False) False) False) (by kernel_rfl) ?_
 conv=>zeta
 try simp only [Zg]
 try simp only [Zi]
 try simp only [Zh]
 try simp only [Zj]
 try simp only [Zk]
 try simp only [Ze]
 try simp only [Int.toNat_natCast,Nat.zero_add,true_and,and_true,Nat.le_refl]
 subst hN hy hL
 refine ⟨hq,rfl, ?_⟩
 simp only [List.length_append]
 and_intros<;>first|trivial|omega
end Go.Tk
end
section
namespace Go.Tk
open IntKind (i64 u8 u32 u64 wrap)
end Go.Tk
end
section
namespace Go.Tk
open IntKind (i64 u8 u32 u64 wrap)
end Go.Tk
end
section
namespace Go.Tk
open IntKind (i64 u8 u32 u64 wrap)
end Go.Tk
end
section
namespace Go.Tk
open IntKind (i64 u8 u32 u64 wrap)
end Go.Tk
end
section
namespace Go.Tk
open IntKind (i64 u8 u32 u64 wrap)
end Go.Tk
end
section
namespace Go.Tk
open IntKind (i64 u8 u32 u64 wrap)
mutual
/-- Without names; views may be. -/
def AV.vplain:AV→Bool
 | .top|.bool _|.int _ _|.str _|.ptr none|.eslice|.fslice|.nilslice|.map none|.nilFunc|.nilIface|.arr _ _ _=>true
 | .vints _ _ _|.vrows _ _ _ _|.pview _ _=>true
 | .agg cs=>Wj cs
 | .tuple cs=>Wj cs
 | .iface _ v=>v.vplain
 | _=>false
def Wj:List AV→Bool
 | []=>true
 | v::r=>v.vplain&&Wj r
end
mutual
theorem Zl.vplain {E E':Env} (hi:∀a c,E.imm a c→E'.imm a c):∀(v:AV) (r:Value),v.vplain=true→Zl E v r→Zl E' v r
 | .top,r,_,_=>.top r
 | .bool b,r,_,h=>h.plain rfl
 | .int k n,r,_,h=>h.plain rfl
 | .str s,r,_,h=>h.plain rfl
 | .ptr none,r,_,h=>h.plain rfl
 | .eslice,r,_,h=>h.plain rfl
 | .fslice,r,_,h=>h.plain rfl
 | .nilslice,r,_,h=>h.plain rfl
 | .map none,r,_,h=>h.plain rfl
 | .nilFunc,r,_,h=>h.plain rfl
 | .nilIface,r,_,h=>h.plain rfl
 | .arr k n xs,r,_,h=>h.plain rfl
 | .ptr (some p),r,hp,_=>by simp [AV.vplain] at hp
 | .nslice p a b c,r,hp,_=>by simp [AV.vplain] at hp
 | .map (some x),r,hp,_=>by simp [AV.vplain] at hp
 | .func a b c,r,hp,_=>by simp [AV.vplain] at hp
 | .yield x,r,hp,_=>by simp [AV.vplain] at hp
 | .pview cs inn,r,_,h=>by
  cases h with
  | pview cs inn a vs hc hq=>exact .pview cs inn a vs (Zs.mono (⟨fun _ _ h=>by simp [Env.views] at h,hi⟩:E.views.le E'.views) hc) (fun j c h=>hi _ _ (hq j c h))
 | .vints k xs len,r,_,h=>by
  cases h with
  | vintsNil k xs len h1 h2=>exact .vintsNil k xs len h1 h2
  | vints k xs len a cap h1 h2 hq=>exact .vints k xs len a cap h1 h2 (fun i h=>hi _ _ (hq i h))
 | .vrows esz n f len,r,_,h=>by
  cases h with
  | vrowsNil esz n f len h1 h2=>exact .vrowsNil esz n f len h1 h2
  | vrows esz n f len a cap g h1 h2 hc hl hq=>exact .vrows esz n f len a cap g h1 h2 (fun i h=>Zs.mono (⟨fun _ _ h=>by simp [Env.views] at h,hi⟩:E.views.le E'.views) (hc i h)) hl (fun i j c h h'=>hi _ _ (hq i j c h h'))
 | .iface t v,r,hp,h=>by
  cases h with
  | iface t v x hx=>exact .iface t v x (Zl.vplain hi v x (by simpa [AV.vplain] using hp) hx)
 | .agg cs,r,hp,h=>by
  cases h with
  | agg cs vs hc=>exact .agg cs vs (Zs.vplain hi cs vs (by simpa [AV.vplain] using hp) hc)
 | .tuple cs,r,hp,h=>by
  cases h with
  | tuple _ rs hc=>exact .tuple _ rs (ZC.vplain hi cs rs (by simpa [AV.vplain] using hp) hc)
theorem Zs.vplain {E E':Env} (hi:∀a c,E.imm a c→E'.imm a c):∀(l:List AV) (r:List Value),Wj l=true→Zs E l r→Zs E' l r
 | [],r,_,h=>by cases h;exact .nil
 | v::l,r,hp,h=>by
  simp only [Wj,Bool.and_eq_true] at hp
  cases h with
  | one v c vs cs h0 h1 hv t=>exact .one v c _ cs h0 h1 (Zl.vplain hi v c hp.1 hv) (Zs.vplain hi l cs hp.2 t)
  | arr k n xs vs cs t=>exact .arr k n xs _ cs (Zs.vplain hi l cs hp.2 t)
theorem ZC.vplain {E E':Env} (hi:∀a c,E.imm a c→E'.imm a c):∀(l:List AV) (r:List Value),Wj l=true→ZC E l r→ZC E' l r
 | [],r,_,h=>by cases h;exact .nil
 | v::l,r,hp,h=>by
  simp only [Wj,Bool.and_eq_true] at hp
  cases h with
  | cons v c vs cs hv t=>exact .cons v c _ cs (Zl.vplain hi v c hp.1 hv) (ZC.vplain hi l cs hp.2 t)
end
def Y8 (R:AV→Prop):KO:=fun o _=>match o with
 | .ret u=>(match u.vplain with|true=>R u|false=>False)
 | .panic _=>False
theorem Z7s {P:Program} {f:FuncId} {args:List AV} {h:Z9} {R:AV→Prop} {K:AV→Prop} (hp:Wj args=true) (hc:Zm P f args ⟨0,[]⟩ (Y8 R)) (hK:∀u,R u→K u):
  Zm P f args h fun o h'=>∃v,o=.ret v∧h'=h∧K v:=by
 intro E w rs he hr
 have hemb:Emb E.views ⟨0,[]⟩ w:=
  ⟨fun x _=>rfl,fun x B h=>by simp [Z9.get,ZH] at h,fun x B h=>by simp [Z9.get,ZH] at h,fun x y B B' b N N' h=>by simp [Z9.get,ZH] at h,he.imm,fun a c x B N _ h=>by simp [Z9.get,ZH] at h⟩
 refine (hc E.views w rs hemb (ZC.vplain (E:=E) (E':=E.views) (fun _ _ h=>h) _ _ hp hr)).mono ?_
 rintro e w' ⟨E₁,o,h',hK0,hev,hor⟩
 cases hor with
 | panic u r hr=>exact hK0.elim
 | ret u r hr=>
  unfold Y8 at hK0
  simp only at hK0
  split at hK0
  ·rename_i hu
   have hkeep:∀b,b<w.heap.size→w'.heap[b]? =w.heap[b]?:=fun b hb=>hev.keep b hb (fun ⟨x,B,N,hx,_⟩=>by simp [Z9.get,ZH] at hx)
   have hemb':Emb E h w':=by
    refine ⟨he.fresh,he.lt,fun x B hx=>(he.own x B hx).congr fun b N hb=>hkeep b ((he.own x B hx).lt hb),he.disj,fun a c hi=> ?_,he.sep⟩
    have hcc:=he.imm a c hi
    have hlt:a.block<w.heap.size:=by
     rcases Nat.lt_or_ge a.block w.heap.size with hl|hg
     ·exact hl
     ·simp [World.cell?,Array.getElem?_eq_none hg] at hcc
    simpa [World.cell?,hkeep _ hlt] using hcc
   exact ⟨E,.ret u,h,⟨u,rfl,rfl,hK u hK0⟩,⟨.refl E,hemb',hev.size,hev.os,hev.tape,hev.output,fun b hb _=>hkeep b hb,fun b ho=>.inl ho,fun _ _ h=>h⟩,.ret _ _ (Zl.vplain (E:=E₁) (E':=E) (fun a c hi=>hev.imm a c hi) _ _ hu hr)⟩
  ·exact hK0.elim
theorem Yc {G:Zf} (hG:G.Ok) {n:Nat} {f:FuncId} {args:List AV} {h:Z9} {R:AV→Prop} {K:AV→Prop} (hp:Wj args=true) (hc:evF G n f args ⟨0,[]⟩ (Y8 R)) (hK:∀u,R u→K u):
  Zm G.P f args h fun o h'=>∃v,o=.ret v∧h'=h∧K v:=Z7s hp (Z09 hG hc) hK
end Go.Tk
end
section
namespace Go.Tk
open IntKind (i64 u8 u32 u64 wrap)
end Go.Tk
end
section
namespace Go.Tk
open IntKind (i64 u8 u32 u64 wrap)
inductive Ty where
 | bool
 | int (k:IntKind)
 | str
 | arr (k:IntKind) (n:Nat)
 | ints (k:IntKind)
 | rows (esz:Nat) (ts:List Ty)
def Zbu (P:Program) (r:TypeId→Option (List Ty)) (sz:Nat):Nat→List Field→Option (List Ty)
 | o,[]=>if o=sz then some [] else none
 | o,f::fs=>if f.offset=o then (r f.type).bind fun a=>(Zbu P r sz (o+P.cellsOf f.type) fs).bind fun b=>some (a++b) else none
def Z13 (P:Program):Nat→TypeId→Option (List Ty)
 | 0,_=>none
 | m+1,t=>match P.underlying t with
  | some .bool=>some [.bool]
  | some (.int k)=>some [.int k]
  | some .string=>some [.str]
  | some (.array n e)=>match P.underlying e with
   | some (.int k)=>if P.cellsOf t=n∧P.cellsOf e=1 then some [.arr k n] else none
   | _=>(Z13 P m e).bind fun ts=>if P.cellsOf t=n*P.cellsOf e then some (List.replicate n ts).flatten else none
  | some (.slice e)=>match P.underlying e with
   | some (.int k)=>if P.cellsOf e=1 then some [.ints k] else none
   | _=>(Z13 P m e).bind fun ts=>some [.rows (P.cellsOf e) ts]
  | some (.struct fs)=>Zbu P (Z13 P m) (P.cellsOf t) 0 fs.toList
  | _=>none
mutual
inductive Z0L:Ty→AV→Prop
 | bool (b:Bool):Z0L .bool (.bool b)
 | int (k:IntKind) (n:Int) (h:(Lit.int k n).wf=true):Z0L (.int k) (.int k n)
 | str (s:ByteArray) (h:s.size≤maxLen):Z0L .str (.str s)
 | arr (k:IntKind) (n:Nat) (xs:List Int) (h:xs.length=n) (hw:∀i,i<n→(Lit.int k (xs.getD i 0)).wf=true):Z0L (.arr k n) (.arr k n xs)
 | ints (k:IntKind) (xs:List Int) (n:Nat) (h:xs.length=n) (hm:n≤maxLen) (hw:∀i,i<n→(Lit.int k (xs.getD i 0)).wf=true):Z0L (.ints k) (.vints k xs n)
 | rows (esz:Nat) (ts:List Ty) (n:Nat) (f:Nat→List AV) (hm:n≤maxLen) (h:∀i,i<n→Fits ts (f i)):Z0L (.rows esz ts) (.vrows esz n f n)
inductive Fits:List Ty→List AV→Prop
 | nil:Fits [] []
 | cons (t:Ty) (a:AV) (ts:List Ty) (vz:List AV) (h:Z0L t a) (r:Fits ts vz):Fits (t::ts) (a::vz)
end
theorem Fits.append:∀{ts wz:List Ty} {vz bs:List AV},Fits ts vz→Fits wz bs→Fits (ts++wz) (vz++bs)
 | _,_,_,_,.nil,h=>h
 | _,_,_,_,.cons t a ts vz h r,k=>.cons t a _ _ h (Fits.append r k)
def tE (w:World):Env:=⟨fun _=>none,fun a c=>w.cell? a=some c⟩
section
variable {H:Type} {enc:TypeId×Value→H} {P:Program} {w:World} {sp:Nat→Bool} {held:Bool}
theorem UY {k:IntKind} {n:Nat} {cs:List Value} (hl:cs.length=n) (h:∀i,i<n→∃z,cs[i]? =some (.int k z)∧(Lit.int k z).wf=true):
  ∃xs:List Int,xs.length=n∧(∀i,i<n→(Lit.int k (xs.getD i 0)).wf=true)∧∀i,i<n→cs[i]? =some (.int k (xs.getD i 0)):=by
 refine ⟨cs.map fun v=>match v with|.int _ z=>z|_=>0,by simp [hl],fun i hi=> ?_,fun i hi=> ?_⟩
 ·obtain ⟨z,h1,h2⟩:=h i hi
  rw [List.getD_eq_getElem?_getD,List.getElem?_map,h1]
  exact h2
 ·obtain ⟨z,h1,h2⟩:=h i hi
  rw [List.getD_eq_getElem?_getD,List.getElem?_map,h1]
  rfl
theorem ZdT {α β:Type} {n:Nat} {p:Nat→α→β→Prop} [Inhabited α] [Inhabited β] (h:∀i,i<n→∃a b,p i a b):∃(f:Nat→α) (g:Nat→β),∀i,i<n→p i (f i) (g i):=
 ⟨fun i=>if hi:i<n then Classical.choose (h i hi) else default,fun i=>if hi:i<n then Classical.choose (Classical.choose_spec (h i hi)) else default,fun i hi=>by
  simp only [hi,dite_true]
  exact Classical.choose_spec (Classical.choose_spec (h i hi))⟩
theorem Z1j:∀(m:Nat) (t:TypeId) (ts:List Ty),Z13 P m t=some ts→∀(fuel:Nat) (cs:List Value) (x:DataW H×List MemPlace),DataW.trod enc P w 0 sp held fuel t cs=some x→∃vz,Fits ts vz∧Zs (tE w) vz cs
 | 0,_,_,ht=>by simp [Z13] at ht
 | m+1,t,ts,ht=>by
  intro fuel cs x hx
  unfold Z13 at ht
  split at ht
  ·rename_i hu
   cases ht
   obtain ⟨b,rfl,_⟩:=DataW.trod_bool hu hx
   exact ⟨[.bool b],.cons _ _ _ _ (.bool b) .nil,.one _ _ _ _ rfl rfl (.bool b) .nil⟩
  ·rename_i k hu
   cases ht
   obtain ⟨n,rfl,_,hw⟩:=DataW.trod_int hu hx
   exact ⟨[.int k n],.cons _ _ _ _ (.int k n hw) .nil,.one _ _ _ _ rfl rfl (.int k n) .nil⟩
  ·rename_i hu
   cases ht
   obtain ⟨s,rfl,_,hw⟩:=DataW.trod_string hu hx
   exact ⟨[.str s],.cons _ _ _ _ (.str s hw) .nil,.one _ _ _ _ rfl rfl (.str s) .nil⟩
  ·rename_i n e hu
   split at ht
   ·rename_i k he
    split at ht
    ·rename_i hc
     obtain ⟨hc,h1⟩:=hc
     cases ht
     obtain ⟨xs,q,rfl,rfl,hl,hn,hi⟩:=DataW.trod_array hu hx
     rw [hc] at hl
     obtain ⟨zs,z1,z2,z3⟩:=UY (k:=k) hl fun i hlt=>by
      have:=hi i hlt
      rw [List.getElem?_eq_getElem (by omega),h1] at this
      obtain ⟨z,e1,_,e2⟩:=DataW.trod_int he this
      refine ⟨z, ?_,e2⟩
      rw [Nat.mul_one] at e1
      have:=congrArg (fun l=>l[0]?) e1
      simpa using this
     refine ⟨[.arr k n zs],.cons _ _ _ _ (.arr k n zs z1 z2) .nil, ?_⟩
     have:cs=intCells k n zs++[]:=by
      rw [List.append_nil]
      refine List.ext_getElem? fun i=> ?_
      by_cases hlt:i<n
      ·rw [z3 i hlt]
       simp [intCells,hlt]
      ·rw [List.getElem?_eq_none (by omega),List.getElem?_eq_none (by rw [Z8];omega)]
     rw [this]
     exact .arr _ _ _ _ _ .nil
    ·cases ht
   ·obtain ⟨es,e1,e2⟩:=Option.bind_eq_some_iff.1 ht
    split at e2
    ·rename_i hc
     cases e2
     obtain ⟨xs,q,rfl,rfl,hl,hn,hi⟩:=DataW.trod_array hu hx
     rw [hc] at hl
     have key:∀j,j≤n→∃vz,Fits (List.replicate j es).flatten vz∧Zs (tE w) vz (cs.take (j*P.cellsOf e)):=by
      intro j
      induction j with
      | zero=>intro _;exact ⟨[],.nil,by simp;exact .nil⟩
      | succ j ih=>
       intro hj
       obtain ⟨vz,f1,f2⟩:=ih (by omega)
       have:=hi j (by omega)
       rw [List.getElem?_eq_getElem (by omega)] at this
       obtain ⟨bs,p1,p2⟩:=Z1j m _ _ e1 _ _ _ this
       refine ⟨vz++bs, ?_, ?_⟩
       ·rw [List.replicate_succ',List.flatten_append,List.flatten_singleton]
        exact f1.append p1
       ·rw [Nat.succ_mul,List.take_add]
        exact f2.append p2
     obtain ⟨vz,f1,f2⟩:=key n (Nat.le_refl _)
     rw [List.take_of_length_le (by omega)] at f2
     exact ⟨vz,f1,f2⟩
    ·cases e2
  ·rename_i e hu
   split at ht
   ·rename_i k he
    split at ht
    ·rename_i hc
     cases ht
     rcases DataW.trod_slice hu hx with ⟨rfl,_⟩|⟨a,len,cap,elems,rest,n,rfl,rfl,_,_,hl,hm,hlen,hi,_,_⟩
     ·exact ⟨[.vints k [] 0],.cons _ _ _ _ (.ints k [] 0 rfl (Nat.zero_le _) fun i hi=>absurd hi (Nat.not_lt_zero i)) .nil,.one _ _ _ _ rfl rfl (.vintsNil _ _ _ rfl rfl) .nil⟩
     ·obtain ⟨zs,z1,z2,z3⟩:=UY (k:=k) (n:=len) (cs:=(List.range len).map fun i=>(w.cell? (a.add i)).getD undef) (by simp) fun i hlt=>by
       have:=hi i hlt
       rw [List.getElem?_eq_getElem (by omega),hc,Nat.mul_one] at this
       obtain ⟨cs',h1,h2⟩:=Option.bind_eq_some_iff.1 this
       obtain ⟨z,rfl,_,e2⟩:=DataW.trod_int he h2
       refine ⟨z, ?_,e2⟩
       simp [hlt,Go.ChangeShapes.cell_of_cells?_one h1]
      refine ⟨[.vints k zs len],.cons _ _ _ _ (.ints k zs len z1 (by omega) z2) .nil,.one _ _ _ _ rfl rfl (.vints k zs len a cap (by omega) (by omega) fun i hlt=> ?_) .nil⟩
      rw [z1] at hlt
      have:=hi i hlt
      rw [List.getElem?_eq_getElem (by omega),hc,Nat.mul_one] at this
      obtain ⟨cs',h1,h2⟩:=Option.bind_eq_some_iff.1 this
      obtain ⟨z,rfl,_,e2⟩:=DataW.trod_int he h2
      have h3:=z3 i hlt
      have h4:=Go.ChangeShapes.cell_of_cells?_one h1
      simp [hlt,h4] at h3
      show w.cell? (a.add i)=_
      rw [h4,h3,List.getD_eq_getElem?_getD]
    ·cases ht
   ·obtain ⟨es,h1,h2⟩:=Option.bind_eq_some_iff.1 ht
    cases h2
    rcases DataW.trod_slice hu hx with ⟨rfl,_⟩|⟨a,len,cap,elems,rest,n,rfl,rfl,_,_,hl,hm,hlen,hi,_,_⟩
    ·exact ⟨[.vrows (P.cellsOf e) 0 (fun _=>[]) 0],.cons _ _ _ _ (.rows _ _ 0 _ (Nat.zero_le _) fun i hi=>absurd hi (Nat.not_lt_zero i)) .nil,.one _ _ _ _ rfl rfl (.vrowsNil _ _ _ _ rfl rfl) .nil⟩
    ·obtain ⟨f,g,hfg⟩:=ZdT (n:=len) (p:=fun i (vz:List AV) (vs:List Value)=>Fits es vz∧Zs (tE w) vz vs∧w.cells? 0 (a.add (i*P.cellsOf e)) (P.cellsOf e)=some vs) fun i hlt=>by
      have:=hi i hlt
      rw [List.getElem?_eq_getElem (by omega)] at this
      obtain ⟨cs',k1,k2⟩:=Option.bind_eq_some_iff.1 this
      obtain ⟨vz,f1,f2⟩:=Z1j m _ _ h1 _ _ _ k2
      exact ⟨vz,cs',f1,f2,k1⟩
     refine ⟨[.vrows (P.cellsOf e) len f len],.cons _ _ _ _ (.rows _ _ len f (by omega) fun i hlt=>(hfg i hlt).1) .nil,.one _ _ _ _ rfl rfl (.vrows _ _ _ _ a cap g (Nat.le_refl _) hl (fun i hlt=>(hfg i hlt).2.1) (fun i hlt=>(World.cells?_some (hfg i hlt).2.2).2.1) fun i j c hlt hj=> ?_) .nil⟩
     obtain ⟨_,hl',hc'⟩:=World.cells?_some (hfg i hlt).2.2
     have hj':j<P.cellsOf e:=by
      rcases Nat.lt_or_ge j (P.cellsOf e) with h|h
      ·exact h
      ·rw [List.getElem?_eq_none (by omega)] at hj;cases hj
     have:=hc' j hj'
     rw [hj] at this
     show w.cell? (a.add (i*P.cellsOf e+j))=some c
     rw [←this]
     rw [Addr.add_add]
  ·rename_i fs hu
   obtain ⟨xs,n,rfl,rfl,hl,hn,hf⟩:=DataW.trod_struct hu hx
   have key:∀(l:List Field) (o:Nat) (ts:List Ty) (i0:Nat),Zbu P (Z13 P m) (P.cellsOf t) o l=some ts→(∀i f,l[i]? =some f→fs[i0+i]? =some f)→∃vz,Fits ts vz∧Zs (tE w) vz (cs.drop o):=by
    intro l
    induction l with
    | nil=>
     intro o ts i0 h _
     unfold Zbu at h
     split at h
     ·rename_i ho
      cases h
      exact ⟨[],.nil,by rw [List.drop_eq_nil_of_le (by omega)];exact .nil⟩
     ·cases h
    | cons f l ih=>
     intro o ts i0 h hl'
     unfold Zbu at h
     split at h
     ·rename_i ho
      obtain ⟨a,h1,h2⟩:=Option.bind_eq_some_iff.1 h
      obtain ⟨b,h3,h4⟩:=Option.bind_eq_some_iff.1 h2
      cases h4
      have h0:fs[i0]? =some f:=hl' 0 f rfl
      have hlt:i0<fs.size:=by
       rcases Nat.lt_or_ge i0 fs.size with h|h
       ·exact h
       ·rw [Array.getElem?_eq_none (by omega)] at h0;cases h0
      have k:=hf i0 f h0
      rw [List.getElem?_eq_getElem (by omega),ho] at k
      obtain ⟨vz,p1,p2⟩:=Z1j m _ _ h1 _ _ _ k
      obtain ⟨bs,q1,q2⟩:=ih (o+P.cellsOf f.type) b (i0+1) h3 fun i g hg=>by
       have:=hl' (i+1) g hg
       rw [←this];congr 1;omega
      refine ⟨vz++bs,p1.append q1, ?_⟩
      have e:cs.drop o=(cs.drop o).take (P.cellsOf f.type)++cs.drop (o+P.cellsOf f.type):=by
       rw [←List.drop_drop,List.take_append_drop]
      rw [e]
      exact p2.append q2
     ·cases h
   obtain ⟨vz,h1,h2⟩:=key fs.toList 0 ts 0 ht fun i f h=>by simpa using h
   exact ⟨vz,h1,by simpa using h2⟩
  ·cases ht
def isAgg (P:Program) (t:TypeId):Bool:=match P.underlying t with
 | some (.struct _)|some (.array _ _)=>true
 | _=>false
inductive Z3P:Bool→List Ty→AV→Prop
 | agg (ts:List Ty) (vz:List AV) (h:Fits ts vz):Z3P true ts (.agg vz)
 | one (t:Ty) (a:AV) (h:Z0L t a):Z3P false [t] a
theorem Zbv {m:Nat} {t:TypeId} {ts:List Ty} (ht:Z13 P m t=some ts) (hg:isAgg P t=false) {v:Value} {r:Reach} {b:Nat} (hv:Value.okWide P w r b t v):
  v.cells.toList=[v]∧∃τ,ts=[τ]∧∀k n,τ≠.arr k n:=by
 cases m with
 | zero=>simp [Z13] at ht
 | succ m=>
  unfold Z13 at ht
  unfold isAgg at hg
  split at ht
  ·rename_i hu;cases ht;obtain ⟨b,rfl⟩:=Go.WideShapes.okWide_bool hu hv;exact ⟨rfl,_,rfl,fun _ _ h=>by cases h⟩
  ·rename_i hu;cases ht;obtain ⟨b,rfl⟩:=Go.WideShapes.okWide_int hu hv;exact ⟨rfl,_,rfl,fun _ _ h=>by cases h⟩
  ·rename_i hu;cases ht;obtain ⟨b,rfl⟩:=Go.WideShapes.okWide_string hu hv;exact ⟨rfl,_,rfl,fun _ _ h=>by cases h⟩
  ·rename_i hu;simp [hu] at hg
  ·rename_i hu
   obtain ⟨a,l,c,rfl⟩:=Go.WideShapes.okWide_slice hu hv
   split at ht
   ·split at ht
    ·cases ht;exact ⟨rfl,_,rfl,fun _ _ h=>by cases h⟩
    ·cases ht
   ·obtain ⟨es,h1,h2⟩:=Option.bind_eq_some_iff.1 ht
    cases h2;exact ⟨rfl,_,rfl,fun _ _ h=>by cases h⟩
  ·rename_i hu;simp [hu] at hg
  ·cases ht
theorem Zbw {m:Nat} {t:TypeId} {ts:List Ty} {g:Bool} (ht:Z13 P m t=some ts) (hg:isAgg P t=g) {v:Value} {r:Reach} {b:Nat} (hv:Value.okWide P w r b t v) {d:DataW H} {ps:List MemPlace} (h:DataW.Trod enc P w 0 sp held t v d ps):
  ∃a,Z3P g ts a∧Zl (tE w) a v:=by
 obtain ⟨fuel,hf⟩:=h
 obtain ⟨vz,f1,f2⟩:=Z1j m _ _ ht _ _ _ hf
 cases g with
 | true=>
  have:∃cs,v=.agg cs:=by
   unfold isAgg at hg
   unfold Value.okWide at hv
   split at hg
   ·rename_i hu;simp only [hu] at hv;obtain ⟨cs,rfl,_⟩:=hv;exact ⟨cs,rfl⟩
   ·rename_i hu;simp only [hu] at hv;obtain ⟨cs,rfl,_⟩:=hv;exact ⟨cs,rfl⟩
   ·cases hg
  obtain ⟨cs,rfl⟩:=this
  refine ⟨.agg vz,.agg _ _ f1, ?_⟩
  have:cs=(Value.cells (.agg cs)).toList.toArray:=by simp [Value.cells]
  rw [this]
  exact .agg _ _ f2
 | false=>
  obtain ⟨h1,τ,rfl,h2⟩:=Zbv ht hg hv
  rw [h1] at f2
  cases f1 with
  | cons _ a _ vz f r=>
   cases r
   generalize hL:[v]=L at f2
   cases f2 with
   | one _ _ _ _ h0 h1 h t=>cases hL;exact ⟨_,.one _ _ f,h⟩
   | arr k n xs _ cs t=>cases f;exact absurd rfl (h2 _ _)
end
end Go.Tk
end
section
namespace Go.Tk
open IntKind (i64 u8 u32 u64 wrap)
open Go.ChangeShapes Go.WideShapes Go.RowKit
theorem ZgL (w:World):Emb (tE w) ⟨0,[]⟩ w where
 fresh:=fun _ _=>rfl
 lt:=fun x B h=>by simp [Z9.get,ZH] at h
 own:=fun x B h=>by simp [Z9.get,ZH] at h
 disj:=fun x y B B' b N N' h=>absurd h (by simp [Z9.get,ZH])
 imm:=fun _ _ h=>h
 sep:=fun a c x B N _ h=>absurd h (by simp [Z9.get,ZH])
theorem Zm.topT {P:Program} {f:FuncId} {args:List AV} (h:Zm P f args ⟨0,[]⟩ fun o h'=>∃v,o=.ret v∧h'=⟨0,[]⟩∧v=.bool true) {w:World} {rs:List Value} (hl:ZC (tE w) args rs):
  Calls P f rs.toArray w fun e w'=>e=.returned (.bool true)∧Go.RowKit.Below w.heap.size w w':=by
 refine (h (tE w) w rs (ZgL w) hl).mono ?_
 rintro e w' ⟨E',o,h',⟨v,rfl,rfl,hv⟩,hev,hor⟩
 obtain rfl:=hv
 cases hor with
 | ret v r hr=>
  cases hr
  refine ⟨rfl,hev.os,hev.tape,hev.output.1,hev.size,fun k hk=>hev.keep k hk ?_⟩
  rintro ⟨x,B,N,hx,_⟩
  exact absurd hx (by simp [Z9.get,ZH])
def Z7t (P:Program) (m:Nat):List TypeId→Option (List (Bool×List Ty))
 | []=>some []
 | t::r=>(Z13 P m t).bind fun a=>(Z7t P m r).bind fun b=>some ((isAgg P t,a)::b)
inductive Z3Q:List (Bool×List Ty)→List AV→Prop
 | nil:Z3Q [] []
 | cons (g:Bool) (ts:List Ty) (a:AV) (r:List (Bool×List Ty)) (vz:List AV) (h:Z3P g ts a) (k:Z3Q r vz):Z3Q ((g,ts)::r) (a::vz)
section
variable {H:Type} {enc:TypeId×Value→H} {P:Program} {w:World}
theorem Z3R {m:Nat} {r:Reach} {b:Nat}:∀{ts:List TypeId} {τs:List (Bool×List Ty)} {vs:List Value} {ds:List (DataW H)} {ps:List MemPlace},Z7t P m ts=some τs→(∀(j:Nat) t v,ts[j]? =some t→vs[j]? =some v→Value.okWide P w r b t v)→
  DataW.TrodAll enc P w 0 (fun _=>true) true ts vs ds ps→∃vz,Z3Q τs vz∧ZC (tE w) vz vs
 | [],τs,vs,ds,ps,ha,_,h=>by
  cases ha
  obtain ⟨rfl,_,_⟩:=trodAll_nil h
  exact ⟨[],.nil,.nil⟩
 | t::ts,τs,vs,ds,ps,ha,hv,h=>by
  obtain ⟨a,h1,h2⟩:=Option.bind_eq_some_iff.1 ha
  obtain ⟨c,h3,h4⟩:=Option.bind_eq_some_iff.1 h2
  cases h4
  obtain ⟨v,vs',d,ds',p,q,rfl,rfl,rfl,k1,k2⟩:=trodAll_cons h
  obtain ⟨x,f1,f2⟩:=Zbw h1 rfl (hv 0 t v rfl rfl) k1
  obtain ⟨vz,g1,g2⟩:=Z3R h3 (fun j t' v' e1 e2=>hv (j+1) t' v' e1 e2) k2
  exact ⟨x::vz,.cons _ _ _ _ _ f1 g1,.cons _ _ _ _ f2 g2⟩
theorem Z0M {sp:Nat→Bool} {held:Bool}:∀{ts:List TypeId} {vs:List Value} {ds:List (DataW H)} {ps:List MemPlace},DataW.TrodAll enc P w 0 sp held ts vs ds ps→ds.length=ts.length
 | [],_,_,_,h=>by obtain ⟨_,rfl,_⟩:=trodAll_nil h;rfl
 | t::ts,_,_,_,h=>by
  obtain ⟨v,vs',d,ds',p,q,rfl,rfl,rfl,k1,k2⟩:=trodAll_cons h
  simp [Z0M k2]
theorem Z3S {W':World} (laid:laidOutB P=true) (hb:Below w.heap.size w W'):∀{ts:List TypeId} {vs:List Value} {ds:List (DataW H)} {ps:List MemPlace},ts.all (fun t=>P.readableRec t&&decide (t<P.types.size))=true→
  DataW.TrodAll enc P w 0 (fun _=>true) true ts vs ds ps→DataW.TrodAll enc P W' 0 (fun b=>decide (b<w.heap.size)) true ts vs ds ps
 | [],_,_,_,_,h=>by obtain ⟨rfl,rfl,rfl⟩:=trodAll_nil h;exact trodAll_mk0
 | t::ts,_,_,_,hr,h=>by
  obtain ⟨v,vs',d,ds',p,q,rfl,rfl,rfl,k1,k2⟩:=trodAll_cons h
  simp only [List.all_cons,Bool.and_eq_true,decide_eq_true_eq] at hr
  have lt:∀x∈p,x.block<w.heap.size:=by obtain ⟨m,hm⟩:=k1;exact DataW.trod_lt m _ _ _ hm
  exact trodAll_cons_mk (Below.trod laid hr.1.1 hr.1.2 k1 hb lt) (Z3S laid hb hr.2 k2)
end
theorem lifted_gen {H:Type} {enc:TypeId×Value→H} {C:Checked} {os:Os} {f:FuncId} {fn:Func} {s:ChangeSpec} {conds:List PathCond} {tb:TypeId} {m:Nat} {τs:List (Bool×List Ty)}
  (own:ownKnob C.prog.godebug=none) (laid:laidOutB C.prog=true) (started:os.Started) (noInit:C.prog.inits.idxOf? f=none) (hfn:C.prog.funcs[f]? =some fn)
  (witness:∃(w:World) (tape:Tape) (i:Input),w.os=os∧(w.forCall tape i).Shaped C.prog∧i.vars=[]∧Input.okWide C.prog (w.forCall tape i) .any w.heap.size f i∧
   s.pre6 enc C.prog fn conds false (w.forCall tape i).memory i.args∧({}:Assume).holds C.prog (lone (Frame.enter C.prog f i.args .normal) [] (w.forCall tape i)))
  (hvars:s.vars=[]) (hr:fn.resultTypes= #[tb]) (hb:C.prog.underlying tb=some .bool) (hread:fn.params.toList.all (fun t=>C.prog.readableRec t&&decide (t<C.prog.types.size))=true) (hτ:Z7t C.prog m fn.params.toList=some τs)
  (hs:∀ds:List (DataW H),ds.length=fn.params.toList.length→s.fn H ds={ results:=[.lit (.bool true)],args:=ds})
  (walk:∀vz,Z3Q τs vz→Zm C.prog f vz ⟨0,[]⟩ fun o h'=>∃v,o=.ret v∧h'=⟨0,[]⟩∧v=.bool true):
  ReturnsInHanded {} C os f .any (s.pre6 enc C.prog fn conds false) (s.post enc C.prog fn false true false false):=by
 refine returnsInHanded_of_change own started noInit hfn witness ?_
 intro W base args ds gs before hval hW _ _
 have hW':=hW
 obtain ⟨p,q,hA,hV,rfl,hfz,hnd⟩:=hW
 have hV0:=hV
 rw [hvars] at hV
 obtain ⟨rfl,rfl⟩:=trodVars_none hV
 obtain ⟨vz,f1,f2⟩:=Z3R hτ (fun j t v e1 e2=>hval j t v (by simpa using e1) (by simpa using e2)) hA
 have e0:args=args.toList.toArray:=by simp
 have key:=(walk vz f1).topT f2
 rw [←e0] at key
 refine key.mono fun e W' ⟨he,bel⟩=> ?_
 subst he
 have hfn':=hs ds (Z0M hA)
 refine ⟨_,rfl,ds,[],_,[],p,[],hW', ?_, ?_, ?_,bel.frame _,fun h=>by cases h⟩
 ·rw [List.append_nil,hfn',hr]
  exact trodAll_mk1 (shut_bool hb _)
 ·rw [List.append_nil,hfn']
  exact Z3S laid bel hread hA
 ·rw [List.append_nil,hfn',hvars]
  rfl
end Go.Tk
end
section
namespace Go.Tk
open IntKind (i64 u8 u32 u64 wrap)
end Go.Tk
end
section
namespace Go.Tk
open IntKind (i64 u8 u32 u64 wrap)
theorem w8m (x:Int) (h:0≤x):u8.wrap (Int.tmod x 256)=u8.wrap x:=by
 rw [tm h]
 unfold wrap
 simp [IntKind.bits,IntKind.signed]
theorem ZdU {n k:Int} (h:0≤n):0≤Zt .i64 n k:=by
 unfold Zt
 rw [Int.fdiv_eq_ediv_of_nonneg _ (by exact Int.le_of_lt (Int.pow_pos (by decide)))]
 exact Int.ediv_nonneg h (by exact Int.le_of_lt (Int.pow_pos (by decide)))
theorem b8m {n k:Int} (h:0≤n):u8.wrap (Int.tmod (Zt .i64 n k) 256)=b8 n k:=w8m _ (ZdU h)
theorem ZgM (n:Int) (ys:List Int) (L:Nat) (hn:0≤n) (hy:ys=ZX n) (hL:L=ys.length):
  evF G0 20 123 [.int .i64 n] ⟨0,[]⟩ (Y7 0 (.ret (.nslice ⟨0,0,0,0,0⟩ 1 L L)) 1 [(0,.ints .u8 ys)]):=by
 refine @Eq.mpr _ (let q1:=[wrap u8 (Int.tmod (Zt i64 n 8) 256),wrap u8 (Int.tmod (Zt i64 n 0) 256)];
 let q2:=wrap u8 (Int.tmod (Zt i64 n 24) 256)::wrap u8 (Int.tmod (Zt i64 n 16) 256)::q1;
 Z0 (decide (n<253)) (Z0 (decide (1=L)) (Z0 (decide (L≤1)) ([wrap u8 n]=ys∧True) False) False) (Z0 (decide (n<65536)) (Z0 (decide (3=L)) (Z0 (decide (L≤3)) ((253:Int)::q1=ys∧True) False) False) (Z0 (decide (n<4294967296)) (Z0 (decide (5=L)) (Z0 (decide (L≤5)) ((254:Int)::q2=ys∧True) False) False) (Z0 (decide (9=L)) (Z0 (decide (L≤9)) ((255:Int)::wrap u8 (Int.tmod (Zt i64 n 56) 256)::wrap u8 (Int.tmod (Zt i64 n 48) 256)::wrap u8 (Int.tmod (Zt i64 n 40) 256)::wrap u8 (Int.tmod (Zt i64 n 32) 256)::q2=ys∧True) False) False)))) (by kernel_rfl) ?_
 conv=>zeta
 try simp only [Zg]
 try simp only [Zi]
 try simp only [Zh]
 try simp only [Zj]
 try simp only [Zk]
 try simp only [Ze]
 try simp only [Int.toNat_natCast,Nat.zero_add,true_and,and_true,Nat.le_refl]
 subst hy hL
 refine ⟨fun h1=> ?_,fun h1=>⟨fun h2=> ?_,fun h2=>⟨fun h3=> ?_,fun h3=> ?_⟩⟩⟩
 ·rw [Zbm h1];simp
 ·rw [Zbn h1 h2];simp [b8m hn]
 ·rw [Zbo h1 h2 h3];simp [b8m hn]
 ·rw [Zbp h1 h2 h3];simp [b8m hn]
def Zbx (W:Int→List Int):Ye:=fun args h K=>match args with
 | [.int .i64 n]=>Zu (0≤n) (K (.ret (.nslice ⟨h.next,0,0,0,0⟩ 1 (W n).length (W n).length)) ⟨h.next+1,(h.next,.ints .u8 (W n))::h.bs⟩)
 | _=>False
theorem Zby (args:List AV) (h:Z9) (K:KO) (hl:Zbx ZX args h K):Zm PP 123 args h K:=by
 unfold Zbx at hl
 split at hl
 ·obtain ⟨hn,hK⟩:=Zc hl
  exact (Zw.evM Zr (ZgM _ _ _ hn rfl rfl)).calls (fun E w rs he hr=>by
   cases hr with
   | cons v r vs rs h1 h2=>cases h2;exact .cons _ _ _ _ (h1.plain rfl) .nil) rfl ⟨Nat.one_pos,.ints _ _,trivial⟩ hK
 ·exact hl.elim
structure Bytes (xs:List Int):Prop where
 h:∀i:Nat,0≤xs.getD i 0∧xs.getD i 0≤255
def inZ:InS:=⟨Zd,0,0,Zd,Zd,Zd⟩
def ZjU:Z0i:=⟨0,0,Zd,Zd,Zd,Zd,0,0⟩
end Go.Tk
end
section
namespace Go.Tk
open IntKind (i64 u8 u32 u64 wrap)
end Go.Tk
end
section
namespace Go.Tk
open IntKind (i64 u8 u32 u64 wrap)
structure TxB (t:TxS):Prop where
 h:∀i,i<t.M→Bytes (t.outs i).owner∧Bytes (t.outs i).other
end Go.Tk
end
section
namespace Go.Tk
open IntKind (i64 u8 u32 u64 wrap)
end Go.Tk
end
section
namespace Go.Tk
open IntKind (i64 u8 u32 u64 wrap)
end Go.Tk
end
section
namespace Go.Tk
open IntKind (i64 u8 u32 u64 wrap)
theorem Zbz {n:Nat} {xs:List Int} (h:xs.length=n) (hw:∀i,i<n→(Lit.int .u8 (xs.getD i 0)).wf=true):Bytes xs:=⟨fun i=>by
 by_cases hi:i<n
 ·have:=hw i hi
  simp [Lit.wf] at this
  have m1:u8.min=0:=rfl
  have m2:u8.max=255:=rfl
  simp
  omega
 ·rw [List.getD_eq_getElem?_getD,List.getElem?_eq_none (by omega)];simp⟩
structure InS.By (x:InS):Prop where
 name:Bytes x.name
 tag:Bytes x.tag
 also:Bytes x.also
 secret:Bytes x.secret
structure Z0i.By (x:Z0i):Prop where
 owner:Bytes x.owner
 other:Bytes x.other
 point:Bytes x.point
 hash:Bytes x.hash
structure ZfK (t:TxS):Prop where
 ins:∀i,i<t.N→(t.ins i).By
 outs:∀i,i<t.M→(t.outs i).By
theorem ZfK.b {t:TxS} (h:ZfK t):TxB t:=⟨fun i hi=>⟨(h.outs i hi).owner,(h.outs i hi).other⟩⟩
theorem pick {α:Type} [Inhabited α] {n:Nat} {p:Nat→α→Prop} (h:∀i,i<n→∃a,p i a):∃f:Nat→α,∀i,i<n→p i (f i):=
 ⟨fun i=>if hi:i<n then Classical.choose (h i hi) else default,fun i hi=>by
  simp only [hi,dite_true]
  exact Classical.choose_spec (h i hi)⟩
instance:Inhabited InS:=⟨inZ⟩
instance:Inhabited Z0i:=⟨ZjU⟩
theorem Zm.conv {P:Program} {f:FuncId} {us bs:List AV} {h:Z9} {K:KO} (hc:Zm P f bs h K) (hr:∀E rs,ZC E us rs→ZC E bs rs):Zm P f us h K:=
 fun E w rs he hl=>hc E w rs he (hr E rs hl)
theorem Bytes.nil:Bytes []:=⟨fun i=>by simp⟩
theorem Bytes.cons {x:Int} {xs:List Int} (hx:0≤x∧x≤255) (h:Bytes xs):Bytes (x::xs):=⟨fun i=>by
 cases i with
 | zero=>simpa using hx
 | succ i=>have:=h.h i;simpa using this⟩
theorem ZjV (x:Int):0≤u8.wrap x∧u8.wrap x≤255:=by
 unfold wrap
 simp [IntKind.bits,IntKind.signed]
 omega
end Go.Tk
end
section
namespace Go.Tk
open IntKind (i64 u8 u32 u64 wrap)
end Go.Tk
end
section
namespace Go.Tk
open IntKind (i64 u8 u32 u64 wrap)
def WQ (a b c:Int):Nat→Int
 | 0=>0
 | i+1=>if 2≤u32.wrap (u32.wrap (Int.tmod (Zt .u32 a i) 2+Int.tmod (Zt .u32 b i) 2)+Int.tmod (Zt .u32 c i) 2) then u32.wrap (WQ a b c i+ZJ .u32 1 i) else WQ a b c i
def Vl (a b c:Int):Nat→Int
 | 0=>0
 | i+1=>u32.wrap (Vl a b c i+ZJ .u32 (if Int.tmod (Zt .u32 a i) 2=1 then Int.tmod (Zt .u32 b i) 2 else Int.tmod (Zt .u32 c i) 2) i)
def moS (a b c:Int) (o:Int) (i:Nat):St:=⟨33,[(8,.int .u64 i),(0,.int .u32 a),(1,.int .u32 b),(2,.int .u32 c),(7,.int .u32 o)],⟨0,[]⟩,[]⟩
def moR (o:Int):St:=⟨33,[(7,.int .u32 o)],⟨0,[]⟩,[]⟩
theorem ZfL {x:Int} (h:0≤x∧x<18446744073709551616):u64.wrap x=x:=by
 unfold wrap
 simp [IntKind.bits,IntKind.signed]
 omega
theorem ZgN (a b c o o':Int) (i:Nat) (Z1 Z2:Prop) (hi:i≤32) (ho:o'=if 2≤u32.wrap (u32.wrap (Int.tmod (Zt .u32 a i) 2+Int.tmod (Zt .u32 b i) 2)+Int.tmod (Zt .u32 c i) 2) then u32.wrap (o+ZJ .u32 1 i) else o) (h1:i<32→Z1) (h2:i=32→Z2):
  ZI G0 20 193 0 0 (moS a b c o i) (rdM 0 0 9 (moS a b c o' (i+1)) (moR o) (moR o) (moR o) Z1 Z2 False False):=by
 refine @Eq.mpr _ (let q1:=decide (wrap u64 ((↑i:Int)+1)=(↑(i+1):Int));
 let q2:=decide (a=a);
 let q3:=decide (b=b);
 let q4:=decide (c=c);
 Z0 (decide ((↑i:Int)<32)) (Z0 (decide (wrap u32 (wrap u32 (Int.tmod (Zt u32 a (↑i:Int)) 2+Int.tmod (Zt u32 b (↑i:Int)) 2)+Int.tmod (Zt u32 c (↑i:Int)) 2)≥2)) (Z0 q1 (Z0 q2 (Z0 q3 (Z0 q4 (Z0 (decide (wrap u32 (o+ZJ u32 1 (↑i:Int))=o')) Z1 False) False) False) False) False) (Z0 q1 (Z0 q2 (Z0 q3 (Z0 q4 (Z0 (decide (o=o')) Z1 False) False) False) False) False)) (Z0 (decide (o=o)) Z2 False)) (by kernel_rfl) ?_
 conv=>zeta
 try simp only [Zg]
 try simp only [Zi]
 try simp only [Zh]
 try simp only [Zj]
 try simp only [Zk]
 try simp only [Ze]
 try simp only [Int.toNat_natCast,Nat.zero_add,true_and,and_true,Nat.le_refl]
 have hw:u64.wrap ((i:Int)+1)=((i+1:Nat):Int):=ZfL (by omega)
 refine ⟨fun hlt=>⟨fun hc=> ?_,fun hc=> ?_⟩,fun hge=>h2 (by omega)⟩
 ·rw [if_pos hc] at ho
  exact ⟨hw,ho.symm,h1 (by omega)⟩
 ·rw [if_neg hc] at ho
  exact ⟨hw,ho.symm,h1 (by omega)⟩
theorem ZgO (a b c o o':Int) (i:Nat) (Z1 Z2:Prop) (hi:i≤32) (ho:o'=u32.wrap (o+ZJ .u32 (if Int.tmod (Zt .u32 a i) 2=1 then Int.tmod (Zt .u32 b i) 2 else Int.tmod (Zt .u32 c i) 2) i)) (h1:i<32→Z1) (h2:i=32→Z2):
  ZI G0 20 192 0 0 (moS a b c o i) (rdM 0 0 9 (moS a b c o' (i+1)) (moR o) (moR o) (moR o) Z1 Z2 False False):=by
 refine @Eq.mpr _ (let q1:=decide (wrap u64 ((↑i:Int)+1)=(↑(i+1):Int));
 let q2:=decide (a=a);
 let q3:=decide (b=b);
 let q4:=decide (c=c);
 Z0 (decide ((↑i:Int)<32)) (Z0 (Int.tmod (Zt u32 a (↑i:Int)) 2==1) (Z0 q1 (Z0 q2 (Z0 q3 (Z0 q4 (Z0 (decide (wrap u32 (o+ZJ u32 (Int.tmod (Zt u32 b (↑i:Int)) 2) (↑i:Int))=o')) Z1 False) False) False) False) False) (Z0 q1 (Z0 q2 (Z0 q3 (Z0 q4 (Z0 (decide (wrap u32 (o+ZJ u32 (Int.tmod (Zt u32 c (↑i:Int)) 2) (↑i:Int))=o')) Z1 False) False) False) False) False)) (Z0 (decide (o=o)) Z2 False)) (by kernel_rfl) ?_
 conv=>zeta
 try simp only [Zg]
 try simp only [Zi]
 try simp only [Zh]
 try simp only [Zj]
 try simp only [Zk]
 try simp only [Ze]
 try simp only [Int.toNat_natCast,Nat.zero_add,true_and,and_true,Nat.le_refl]
 have hw:u64.wrap ((i:Int)+1)=((i+1:Nat):Int):=ZfL (by omega)
 refine ⟨fun hlt=>⟨fun hc=> ?_,fun hc=> ?_⟩,fun hge=>h2 (by omega)⟩
 ·rw [if_pos (by simpa using hc)] at ho
  exact ⟨hw,ho.symm,h1 (by omega)⟩
 ·rw [if_neg (by simpa using hc)] at ho
  exact ⟨hw,ho.symm,h1 (by omega)⟩
@[irreducible] def Xu (a b c:Int):Int:=WQ a b c 32
@[irreducible] def Xl (a b c:Int):Int:=Vl a b c 32
noncomputable def ZgP (a b c:Int):Zf:=G0.withL 193 0 (goM 0 (moS a b c 0 0) True (Ys 0 32 9 (fun i=>i<32) (fun i=>i=32) (fun _=>False) (fun _=>False) (fun i=>moR (WQ a b c i)) (fun i=>moR (WQ a b c i)) (fun i=>moR (WQ a b c i))))
theorem ZdV (a b c:Int):(ZgP a b c).Ok:=by
 unfold ZgP
 refine Zf.withGoM (N:=20) (S:=fun i=>moS a b c (WQ a b c i) i) Zr (by kernel_rfl) fun hC=>⟨rfl,fun i hi hgo=> ?_⟩
 exact ZgN a b c (WQ a b c i) (WQ a b c (i+1)) i _ _ hi rfl (fun h=>⟨h,h⟩) (fun h=>h)
noncomputable def ZgQ (a b c:Int):Zf:=G0.withL 192 0 (goM 0 (moS a b c 0 0) True (Ys 0 32 9 (fun i=>i<32) (fun i=>i=32) (fun _=>False) (fun _=>False) (fun i=>moR (Vl a b c i)) (fun i=>moR (Vl a b c i)) (fun i=>moR (Vl a b c i))))
theorem ZdW (a b c:Int):(ZgQ a b c).Ok:=by
 unfold ZgQ
 refine Zf.withGoM (N:=20) (S:=fun i=>moS a b c (Vl a b c i) i) Zr (by kernel_rfl) fun hC=>⟨rfl,fun i hi hgo=> ?_⟩
 exact ZgO a b c (Vl a b c i) (Vl a b c (i+1)) i _ _ hi rfl (fun h=>⟨h,h⟩) (fun h=>h)
theorem ZgR (a b c:Int) (o:Int) (ho:o=WQ a b c 32):
  evF (ZgP a b c) 20 193 [.int .u32 a,.int .u32 b,.int .u32 c] ⟨0,[]⟩ (W9 0 [] (.int .u32 o) 0 []):=by
 refine @Eq.mpr _ (Z0 (decide (a=a)) (Z0 (decide (b=b)) (Z0 (decide (c=c)) (True∧∀(i:Nat),i≤32→(∀(j:Nat),j<i→(fun (i:Nat)=>i<32) j)→(i=32→Z0 (decide (WQ a b c i=o)) True False)∧(False→False)∧(False→False)) False) False) False) (by kernel_rfl) ?_
 try simp only [Zg]
 try simp only [Zi]
 try simp only [Zh]
 try simp only [Zj]
 try simp only [Zk]
 try simp only [Ze]
 try simp only [Int.toNat_natCast,Nat.zero_add,true_and,and_true,Nat.le_refl]
 subst ho
 exact fun i hi _=>⟨fun he=>by subst he;rfl,fun h=>h,fun h=>h⟩
theorem ZgS (a b c:Int) (o:Int) (ho:o=Vl a b c 32):
  evF (ZgQ a b c) 20 192 [.int .u32 a,.int .u32 b,.int .u32 c] ⟨0,[]⟩ (W9 0 [] (.int .u32 o) 0 []):=by
 refine @Eq.mpr _ (Z0 (decide (a=a)) (Z0 (decide (b=b)) (Z0 (decide (c=c)) (True∧∀(i:Nat),i≤32→(∀(j:Nat),j<i→(fun (i:Nat)=>i<32) j)→(i=32→Z0 (decide (Vl a b c i=o)) True False)∧(False→False)∧(False→False)) False) False) False) (by kernel_rfl) ?_
 try simp only [Zg]
 try simp only [Zi]
 try simp only [Zh]
 try simp only [Zj]
 try simp only [Zk]
 try simp only [Ze]
 try simp only [Int.toNat_natCast,Nat.zero_add,true_and,and_true,Nat.le_refl]
 subst ho
 exact fun i hi _=>⟨fun he=>by subst he;rfl,fun h=>h,fun h=>h⟩
def Z1k (F:Int→Int→Int→Int):ZN:=fun args _ K=>match args with
 | [.int .u32 a,.int .u32 b,.int .u32 c]=>K (.int .u32 (F a b c))
 | _=>False
theorem Z2x {f:FuncId} {F:Int→Int→Int→Int} (hp:∀a b c,Zw PP f [.int .u32 a,.int .u32 b,.int .u32 c] (.int .u32 (F a b c)) 0 []) (args:List AV) (h:Z9) (K:AV→Prop) (hl:Z1k F args h K):Zm PP f args h fun o h'=>∃v,o=.ret v∧h'=h∧K v:=by
 unfold Z1k at hl
 split at hl
 ·rename_i a b c
  refine QG (d:=20) (K0:=fun l=>l=[.int .u32 a,.int .u32 b,.int .u32 c]) ?_ fun l e=>⟨_,by rw [e];exact hp a b c,fun _=>rfl,hl⟩
  rfl
 ·exact hl.elim
end Go.Tk
end
section
namespace Go.Tk
open IntKind (i64 u8 u32 u64 wrap)
def sg3 (a b c:Int) (w:Int):Int:=YQ .u32 (YQ .u32 (Z7g w (32-a)) (Z7g w (32-b))) (Z7g w (32-c))
def rg3 (a b n:Int) (w:Int):Int:=YQ .u32 (YQ .u32 (Z7g w (32-a)) (Z7g w (32-b))) (Zt .u32 w n)
def Z7u (bl:List Int) (t:Nat):Int:=u32.wrap (u32.wrap (u32.wrap (ZJ .u32 (u32.wrap (bl.getD (4*t) 0)) 24+ZJ .u32 (u32.wrap (bl.getD (4*t+1) 0)) 16)+ZJ .u32 (u32.wrap (bl.getD (4*t+2) 0)) 8)+u32.wrap (bl.getD (4*t+3) 0))
def ZbA (m:List Int) (t:Nat):Int:=u32.wrap (u32.wrap (u32.wrap (rg3 17 19 10 (m.getD (t-2) 0)+m.getD (t-7) 0)+rg3 7 18 3 (m.getD (t-15) 0))+m.getD (t-16) 0)
def W4 (bl:List Int):Nat→List Int
 | 0=>List.replicate 64 0
 | t+1=>(W4 bl t).set t (if t<16 then Z7u bl t else ZbA (W4 bl t) t)
theorem Z2y (bl:List Int):∀t,(W4 bl t).length=64
 | 0=>rfl
 | t+1=>by simp [W4,Z2y bl t]
def prS (st bl m:List Int) (i:Nat):St:=⟨146,[(6,.int .i64 i),(3,pt 1),(5,pt 3),(2,pt 0),(4,pt 2)],⟨4,[(3,.flat [.arr .u32 64 m]),(2,.flat [.arr .u32 8 [0,0,0,0,0,0,0,0]]),(1,.flat [.arr .u8 64 bl]),(0,.flat [.arr .u32 8 st])]⟩,[]⟩
theorem ZjW (st bl m m':List Int) (i:Nat) (Z1 Z2:Prop) (hi:i≤64) (hm:m.length=64) (hm':m'=m.set i (if i<16 then Z7u bl i else ZbA m i)) (h1:i<64→Z1) (h2:i=64→Z2):
  ZI G0 20 152 0 0 (prS st bl m i) (rdM 0 0 9 (prS st bl m' (i+1)) (prS st bl m i) (prS st bl m i) (prS st bl m i) Z1 Z2 False False):=by
 refine @Eq.mpr _ (let q1:=wrap i64 (4*(↑i:Int));
 let q2:=0+Int.toNat q1;
 let q3:=wrap i64 (q1+1);
 let q4:=0+Int.toNat q3;
 let q5:=wrap i64 (q1+2);
 let q6:=0+Int.toNat q5;
 let q7:=wrap i64 (q1+3);
 let q8:=0+Int.toNat q7;
 let q9:=decide (0≤(↑i:Int)∧(↑i:Int)<64);
 let q10:=0+Int.toNat (↑i:Int);
 let q11:=decide (u32=u32∧q10<64∧q10<List.length m);
 let q12:=decide (wrap i64 ((↑i:Int)+1)=(↑(i+1):Int));
 let q13:=[(0:Int),0,0,0,0,0,0,0];
 let q14:=q13=q13;
 let q15:=q14∧bl=bl∧st=st∧Z1;
 let q16:=wrap i64 ((↑i:Int)-2);
 let q17:=0+Int.toNat q16;
 let q18:=wrap i64 ((↑i:Int)-7);
 let q19:=0+Int.toNat q18;
 let q20:=decide (q19<64);
 let q21:=wrap i64 ((↑i:Int)-15);
 let q22:=0+Int.toNat q21;
 let q23:=decide (q22<64);
 let q24:=wrap i64 ((↑i:Int)-16);
 let q25:=0+Int.toNat q24;
 let q26:=decide (q25<64);
 let q27:=List.getD m q25 0;
 let q28:=decide (q27=q27);
 let q29:=List.getD m q22 0;
 let q30:=List.getD m q19 0;
 let q31:=decide (q30=q30);
 let q32:=List.getD m q17 0;
 Z0 (decide ((↑i:Int)<64))
 (Z0 (decide ((↑i:Int)<16)) (Z0 (decide (0≤q1∧q1<64)) (Z0 (decide (q2<64)) (Z0 (decide (0≤q3∧q3<64)) (Z0 (decide (q4<64)) (Z0 (decide (0≤q5∧q5<64)) (Z0 (decide (q6<64)) (Z0 (decide (0≤q7∧q7<64)) (Z0 (decide (q8<64)) (Z0 q9 (Z0 q11 (Z0 q12 (List.set m q10 (wrap u32 (wrap u32 (wrap u32 (ZJ u32 (wrap u32 (List.getD bl q2 0)) 24+ZJ u32 (wrap u32 (List.getD bl q4 0)) 16)+ZJ u32 (wrap u32 (List.getD bl q6 0)) 8)+wrap u32 (List.getD bl q8 0)))=m'∧q15) False) False) False) False) False) False) False) False) False) False) False)
 (Z0 (decide (0≤q16∧q16<64))
 (Z0 (decide (q17<64)) (Z0 (decide (0≤q18∧q18<64)) (Z0 q20 (Z0 (decide (0≤q21∧q21<64)) (Z0 q23 (Z0 (decide (0≤q24∧q24<64)) (Z0 q26 (Z0 q26 (Z0 q28 (Z0 q23 (Z0 (decide (q29=q29)) (Z0 q20 (Z0 q31 (Z0 q26 (Z0 q28 (Z0 q20 (Z0 q31 (Z0 q9 (Z0 q11 (Z0 q12 (List.set m q10 (wrap u32 (wrap u32 (wrap u32 (YQ u32 (YQ u32 (bOr u32 (ZJ u32 q32 15) (Zt u32 q32 17)) (bOr u32 (ZJ u32 q32 13) (Zt u32 q32 19))) (Zt u32 q32 10)+q30)+YQ u32 (YQ u32 (bOr u32 (ZJ u32 q29 25) (Zt u32 q29 7)) (bOr u32 (ZJ u32 q29 14) (Zt u32 q29 18))) (Zt u32 q29 3))+q27))=m'∧q15) False) False) False) False) False) False) False) False) False) False) False) False) False) False) False) False) False) False) False) False) False))
 (Z0 (decide ((↑i:Int)=(↑i:Int))) (m=m∧q14∧bl=bl∧st=st∧Z2) False)) (by kernel_rfl) ?_
 conv=>zeta
 try simp only [Zg]
 try simp only [Zi]
 try simp only [Zh]
 try simp only [Zj]
 try simp only [Zk]
 try simp only [Ze]
 try simp only [Int.toNat_natCast,Nat.zero_add,true_and,and_true,Nat.le_refl]
 have hw:i64.wrap ((i:Int)+1)=((i+1:Nat):Int):=w64 (by omega)
 refine ⟨fun hlt=>⟨fun h16=> ?_,fun h16=> ?_⟩,fun hge=>h2 (by omega)⟩
 ·have e0:i64.wrap (4*(i:Int))=((4*i:Nat):Int):=by rw [w64 (by omega)];omega
  have e1:i64.wrap (((4*i:Nat):Int)+1)=((4*i+1:Nat):Int):=by rw [w64 (by omega)];omega
  have e2:i64.wrap (((4*i:Nat):Int)+2)=((4*i+2:Nat):Int):=by rw [w64 (by omega)];omega
  have e3:i64.wrap (((4*i:Nat):Int)+3)=((4*i+3:Nat):Int):=by rw [w64 (by omega)];omega
  rw [if_pos (by omega)] at hm'
  simp only [e0,e1,e2,e3,hw,Int.toNat_natCast]
  repeat' (first|(refine And.intro ?_ ?_)|intro _)
  all_goals first|omega|exact hm'.symm|exact h1 (by omega)|trivial
 ·have e0:i64.wrap ((i:Int)-2)=((i-2:Nat):Int):=by rw [w64 (by omega)];omega
  have e1:i64.wrap ((i:Int)-7)=((i-7:Nat):Int):=by rw [w64 (by omega)];omega
  have e2:i64.wrap ((i:Int)-15)=((i-15:Nat):Int):=by rw [w64 (by omega)];omega
  have e3:i64.wrap ((i:Int)-16)=((i-16:Nat):Int):=by rw [w64 (by omega)];omega
  rw [if_neg (by omega)] at hm'
  simp only [e0,e1,e2,e3,hw,Int.toNat_natCast]
  repeat' (first|(refine And.intro ?_ ?_)|intro _)
  all_goals first|omega|exact hm'.symm|exact h1 (by omega)|trivial
noncomputable def ZgT (st bl:List Int):Zf:=G0.withL 152 0 (goM 0 (prS st bl (List.replicate 64 0) 0) True (Ys 0 64 9 (fun i=>i<64) (fun i=>i=64) (fun _=>False) (fun _=>False) (fun i=>prS st bl (W4 bl i) i) (fun i=>prS st bl (W4 bl i) i) (fun i=>prS st bl (W4 bl i) i)))
theorem ZdX (st bl:List Int):(ZgT st bl).Ok:=by
 unfold ZgT
 refine Zf.withGoM (N:=20) (S:=fun i=>prS st bl (W4 bl i) i) Zr (by kernel_rfl) fun hC=>⟨rfl,fun i hi hgo=> ?_⟩
 exact ZjW st bl (W4 bl i) (W4 bl (i+1)) i _ _ hi (Z2y bl i) rfl (fun h=>⟨h,h⟩) (fun h=>h)
noncomputable def E54 (M P:Int→Int→Int→Int):Zf:=(G0.withP 193 (Z1k M)).withP 192 (Z1k P)
theorem ZgU:(E54 Xu Xl).Ok:=Zf.withP_ok (Zf.withP_ok Zr (Z2x fun a b c=>by unfold Xu;exact .ev (ZdV a b c) (ZgR a b c _ rfl))) (Z2x fun a b c=>by unfold Xl;exact .ev (ZdW a b c) (ZgS a b c _ rfl))
def Z0N (M P:Int→Int→Int→Int) (k m:Int) (x:List Int):List Int:=
 let one:=u32.wrap (u32.wrap (u32.wrap (u32.wrap (x.getD 7 0+sg3 6 11 25 (x.getD 4 0))+P (x.getD 4 0) (x.getD 5 0) (x.getD 6 0))+k)+m)
 [u32.wrap (one+u32.wrap (sg3 2 13 22 (x.getD 0 0)+M (x.getD 0 0) (x.getD 1 0) (x.getD 2 0))),x.getD 0 0,x.getD 1 0,x.getD 2 0,u32.wrap (x.getD 3 0+one),x.getD 4 0,x.getD 5 0,x.getD 6 0]
def U7 (M P:Int→Int→Int→Int) (m st:List Int):Nat→List Int
 | 0=>st
 | t+1=>Z0N M P (WZ.getD t 0) (m.getD t 0) (U7 M P m st t)
theorem Z9L (M P:Int→Int→Int→Int) (m st:List Int) (t:Nat):U7 M P m st (t+1)=Z0N M P (WZ.getD t 0) (m.getD t 0) (U7 M P m st t):=rfl
theorem Z9M (M P:Int→Int→Int→Int) (m st:List Int):U7 M P m st 0=st:=rfl
theorem QL {M P:Int→Int→Int→Int} {m st:List Int} (h:st.length=8):∀t,(U7 M P m st t).length=8
 | 0=>h
 | _+1=>rfl
def prT (st k m x:List Int) (i:Nat):St:=⟨146,[(9,.int .i64 i),(8,pt 6),(7,pt 5),(5,pt 3),(2,pt 0),(4,pt 2)],⟨7,[(6,.flat [.arr .u32 8 x]),(5,.flat [.arr .u32 64 k]),(3,.flat [.arr .u32 64 m]),(2,.flat [.arr .u32 8 [0,0,0,0,0,0,0,0]]),(0,.flat [.arr .u32 8 st])]⟩,[]⟩
def prU (st x:List Int):St:=⟨146,[(8,pt 6),(2,pt 0),(4,pt 2)],⟨7,[(6,.flat [.arr .u32 8 x]),(2,.flat [.arr .u32 8 [0,0,0,0,0,0,0,0]]),(0,.flat [.arr .u32 8 st])]⟩,[]⟩
theorem ZjX (M P:Int→Int→Int→Int) (st k m x':List Int) (x0 x1 x2 x3 x4 x5 x6 x7:Int) (i:Nat) (Z1 Z2:Prop) (hi:i≤64) (hx:x'=Z0N M P (k.getD i 0) (m.getD i 0) [x0,x1,x2,x3,x4,x5,x6,x7]) (h1:i<64→Z1) (h2:i=64→Z2):
  ZI (E54 M P) 20 152 2 0 (prT st k m [x0,x1,x2,x3,x4,x5,x6,x7] i) (rdM 0 2 9 (prT st k m x' (i+1)) (prU st [x0,x1,x2,x3,x4,x5,x6,x7]) (prU st [x0,x1,x2,x3,x4,x5,x6,x7]) (prU st [x0,x1,x2,x3,x4,x5,x6,x7]) Z1 Z2 False False):=by
 refine @Eq.mpr _ (let q1:=decide (0≤(↑i:Int)∧(↑i:Int)<64);
 let q2:=0+Int.toNat (↑i:Int);
 let q3:=decide (q2<64);
 let q4:=decide (q2<64);
 let q5:=List.getD m q2 0;
 let q6:=List.getD k q2 0;
 let q7:=wrap u32 (wrap u32 (wrap u32 (wrap u32 (x7+YQ u32 (YQ u32 (bOr u32 (ZJ u32 x4 26) (Zt u32 x4 6)) (bOr u32 (ZJ u32 x4 21) (Zt u32 x4 11))) (bOr u32 (ZJ u32 x4 7) (Zt u32 x4 25)))+P x4 x5 x6)+q6)+q5);
 let q8:=[(0:Int),0,0,0,0,0,0,0];
 let q9:=q8=q8;
 let q10:=[x0,x1,x2,x3,x4,x5,x6,x7];
 Z0 (decide ((↑i:Int)<64)) (Z0 q1 (Z0 q3 (Z0 q1 (Z0 q4 (Z0 q4 (Z0 (decide (q5=q5)) (Z0 q3 (Z0 (decide (q6=q6)) (Z0 (decide (x6=x6)) (Z0 (decide (x5=x5)) (Z0 (decide (x4=x4)) (Z0 (decide (x7=x7)) (Z0 (decide (x2=x2)) (Z0 (decide (x1=x1)) (Z0 (decide (x0=x0)) (Z0 (decide (wrap i64 ((↑i:Int)+1)=(↑(i+1):Int))) ([wrap u32 (q7+wrap u32 (YQ u32 (YQ u32 (bOr u32 (ZJ u32 x0 30) (Zt u32 x0 2)) (bOr u32 (ZJ u32 x0 19) (Zt u32 x0 13))) (bOr u32 (ZJ u32 x0 10) (Zt u32 x0 22))+M x0 x1 x2)),x0,x1,x2,wrap u32 (x3+q7),x4,x5,x6]=x'∧k=k∧m=m∧q9∧st=st∧Z1) False) False) False) False) False) False) False) False) False) False) False) False) False) False) False) False) (q10=q10∧q9∧st=st∧Z2)) (by kernel_rfl) ?_
 conv=>zeta
 try simp only [Zg]
 try simp only [Zi]
 try simp only [Zh]
 try simp only [Zj]
 try simp only [Zk]
 try simp only [Ze]
 try simp only [Int.toNat_natCast,Nat.zero_add,true_and,and_true,Nat.le_refl]
 have hw:i64.wrap ((i:Int)+1)=((i+1:Nat):Int):=w64 (by omega)
 refine ⟨fun hlt=> ?_,fun hge=>h2 (by omega)⟩
 rw [hw]
 repeat' (first|(refine And.intro ?_ ?_)|intro _)
 all_goals first|omega|exact hx.symm|exact h1 (by omega)|trivial
def prV (st x:List Int) (i:Nat):St:=⟨146,[(12,.int .i64 i),(8,pt 6),(2,pt 0),(4,pt 2)],⟨7,[(6,.flat [.arr .u32 8 x]),(2,.flat [.arr .u32 8 [0,0,0,0,0,0,0,0]]),(0,.flat [.arr .u32 8 st])]⟩,[]⟩
def V0 (st x:List Int):Nat→List Int
 | 0=>x
 | i+1=>(V0 st x i).set i (u32.wrap ((V0 st x i).getD i 0+st.getD i 0))
theorem Z2z {st x:List Int} (h:x.length=8):∀i,(V0 st x i).length=8
 | 0=>h
 | i+1=>by simp [V0,Z2z h i]
theorem ZjY (st x x':List Int) (i:Nat) (Z1 Z2:Prop) (hi:i≤8) (hl:x.length=8) (hs:st.length=8) (hx:x'=x.set i (u32.wrap (x.getD i 0+st.getD i 0))) (h1:i<8→Z1) (h2:i=8→Z2):
  ZI G0 20 152 4 0 (prV st x i) (rdM 0 4 9 (prV st x' (i+1)) (prU st x) (prU st x) (prU st x) Z1 Z2 False False):=by
 refine @Eq.mpr _ (let q1:=decide (0≤(↑i:Int)∧(↑i:Int)<8);
 let q2:=0+Int.toNat (↑i:Int);
 let q3:=[(0:Int),0,0,0,0,0,0,0];
 let q4:=q3=q3;
 Z0 (decide ((↑i:Int)<8)) (Z0 q1 (Z0 (decide (q2<8)) (Z0 q1 (Z0 (decide (q2<8)) (Z0 q1 (Z0 (decide (u32=u32∧q2<8∧q2<List.length x)) (Z0 (decide (wrap i64 ((↑i:Int)+1)=(↑(i+1):Int))) (List.set x q2 (wrap u32 (List.getD x q2 0+List.getD st q2 0))=x'∧q4∧st=st∧Z1) False) False) False) False) False) False) False) (x=x∧q4∧st=st∧Z2)) (by kernel_rfl) ?_
 conv=>zeta
 try simp only [Zg]
 try simp only [Zi]
 try simp only [Zh]
 try simp only [Zj]
 try simp only [Zk]
 try simp only [Ze]
 try simp only [Int.toNat_natCast,Nat.zero_add,true_and,and_true,Nat.le_refl]
 have hw:i64.wrap ((i:Int)+1)=((i+1:Nat):Int):=w64 (by omega)
 refine ⟨fun hlt=> ?_,fun hge=>h2 (by omega)⟩
 rw [hw]
 repeat' (first|(refine And.intro ?_ ?_)|intro _)
 all_goals first|omega|exact hx.symm|exact h1 (by omega)|trivial
def ZgV (M P:Int→Int→Int→Int) (st m:List Int):Nat→St→KE→Prop:=goM 0 (prT st WZ m st 0) (st.length=8) (Ys 2 64 9 (fun i=>i<64) (fun i=>i=64) (fun _=>False) (fun _=>False) (fun i=>prU st (U7 M P m st i)) (fun i=>prU st (U7 M P m st i)) (fun i=>prU st (U7 M P m st i)))
theorem ZdY (st m:List Int):((E54 Xu Xl).withL 152 2 (ZgV Xu Xl st m)).Ok:=by
 unfold ZgV
 refine Zf.withGoM (N:=20) (S:=fun i=>prT st WZ m (U7 Xu Xl m st i) i) ZgU (by kernel_rfl) fun hC=>⟨rfl,fun i hi hgo=> ?_⟩
 obtain ⟨x0,x1,x2,x3,x4,x5,x6,x7,e⟩:=eight _ (QL (M:=Xu) (P:=Xl) (m:=m) hC i)
 show ZI _ 20 152 2 0 (prT st WZ m (U7 Xu Xl m st i) i) (rdM 0 2 9 (prT st WZ m (Z0N Xu Xl (WZ.getD i 0) (m.getD i 0) (U7 Xu Xl m st i)) (i+1)) _ _ _ _ _ _ _)
 rw [e]
 exact ZjX Xu Xl st WZ m _ x0 x1 x2 x3 x4 x5 x6 x7 i _ _ hi rfl (fun h=>⟨h,h⟩) (fun h=>h)
def ZgW (st x:List Int):Nat→St→KE→Prop:=goM 0 (prV st x 0) (st.length=8∧x.length=8) (Ys 4 8 9 (fun i=>i<8) (fun i=>i=8) (fun _=>False) (fun _=>False) (fun i=>prU st (V0 st x i)) (fun i=>prU st (V0 st x i)) (fun i=>prU st (V0 st x i)))
theorem ZdZ (st x:List Int):(G0.withL 152 4 (ZgW st x)).Ok:=by
 unfold ZgW
 refine Zf.withGoM (N:=20) (S:=fun i=>prV st (V0 st x i) i) Zr (by kernel_rfl) fun hC=>⟨rfl,fun i hi hgo=> ?_⟩
 exact ZjY st (V0 st x i) (V0 st x (i+1)) i _ _ hi (Z2z hC.2 i) hC.1 rfl (fun h=>⟨h,h⟩) (fun h=>h)
noncomputable def ZgX (M P:Int→Int→Int→Int) (st bl m x:List Int):Zf:=((ZgT st bl).withL 152 2 (ZgV M P st m)).withL 152 4 (ZgW st x)
theorem Ze0 (st bl m x:List Int):(ZgX Xu Xl st bl m x).Ok:=by
 unfold ZgX
 exact Zf.withL_join (H:=G0) (Zf.withL_join (H:=E54 Xu Xl) (ZdX st bl) rfl (ZdY st m)) rfl (ZdZ st x)
@[irreducible] def XK (st bl:List Int):List Int:=V0 st (U7 Xu Xl (W4 bl 64) st 64) 8
attribute [irreducible] W4 U7 V0
theorem ZjZ (M P:Int→Int→Int→Int) (st bl m x r:List Int) (hst:st.length=8) (hm:m=W4 bl 64) (hx:x=U7 M P m st 64) (hr:r=V0 st x 8):
  evF (ZgX M P st bl m x) 20 152 [.agg [.arr .u32 8 st],.agg [.arr .u8 64 bl]] ⟨0,[]⟩ (W9 0 [] (.agg [.arr .u32 8 r]) 0 []):=by
 refine @Eq.mpr _ ((0:Int)::(0:Int)::(0:Int)::(0:Int)::(0:Int)::(0:Int)::(0:Int)::(0:Int)::(0:Int)::(0:Int)::(0:Int)::(0:Int)::(0:Int)::(0:Int)::(0:Int)::(0:Int)::(0:Int)::(0:Int)::(0:Int)::(0:Int)::(0:Int)::(0:Int)::(0:Int)::(0:Int)::(0:Int)::(0:Int)::(0:Int)::(0:Int)::(0:Int)::(0:Int)::(0:Int)::(0:Int)::Zd=(0:Int)::(0:Int)::(0:Int)::(0:Int)::(0:Int)::(0:Int)::(0:Int)::(0:Int)::(0:Int)::(0:Int)::(0:Int)::(0:Int)::(0:Int)::(0:Int)::(0:Int)::(0:Int)::(0:Int)::(0:Int)::(0:Int)::(0:Int)::(0:Int)::(0:Int)::(0:Int)::(0:Int)::(0:Int)::(0:Int)::(0:Int)::(0:Int)::(0:Int)::(0:Int)::(0:Int)::(0:Int)::Zd∧
 [(0:Int),(0:Int),(0:Int),(0:Int),(0:Int),(0:Int),(0:Int),(0:Int)]=[(0:Int),(0:Int),(0:Int),(0:Int),(0:Int),(0:Int),(0:Int),(0:Int)]∧
 bl=bl∧
 st=st∧
 True∧
 ∀(i:Nat),
 i≤(64:Nat)→
 (∀(j:Nat),j<i→(fun (i:Nat)=>i<(64:Nat)) j)→
 (i=(64:Nat)→
 st=st∧
 [(1116352408:Int),(1899447441:Int),(3049323471:Int),(3921009573:Int),(961987163:Int),(1508970993:Int),(2453635748:Int),(2870763221:Int),(3624381080:Int),(310598401:Int),(607225278:Int),(1426881987:Int),(1925078388:Int),(2162078206:Int),(2614888103:Int),(3248222580:Int),(3835390401:Int),(4022224774:Int),(264347078:Int),(604807628:Int),(770255983:Int),(1249150122:Int),(1555081692:Int),(1996064986:Int),(2554220882:Int),(2821834349:Int),(2952996808:Int),(3210313671:Int),(3336571891:Int),(3584528711:Int),(113926993:Int),(338241895:Int),(666307205:Int),(773529912:Int),(1294757372:Int),(1396182291:Int),(1695183700:Int),(1986661051:Int),(2177026350:Int),(2456956037:Int),(2730485921:Int),(2820302411:Int),(3259730800:Int),(3345764771:Int),(3516065817:Int),(3600352804:Int),(4094571909:Int),(275423344:Int),(430227734:Int),(506948616:Int),
 (659060556:Int),(883997877:Int),(958139571:Int),(1322822218:Int),(1537002063:Int),(1747873779:Int),(1955562222:Int),(2024104815:Int),(2227730452:Int),(2361852424:Int),(2428436474:Int),(2756734187:Int),(3204031479:Int),(3329325298:Int)]=
 WZ∧
 W4 bl i=m∧
 [(0:Int),(0:Int),(0:Int),(0:Int),(0:Int),(0:Int),(0:Int),(0:Int)]=[(0:Int),(0:Int),(0:Int),(0:Int),(0:Int),(0:Int),(0:Int),(0:Int)]∧st=st∧List.length st=(8:Nat)∧∀(i:Nat),i≤(64:Nat)→(∀(j:Nat),j<i→(fun (i:Nat)=>i<(64:Nat)) j)→(i=(64:Nat)→U7 M P m st i=x∧[(0:Int),(0:Int),(0:Int),(0:Int),(0:Int),(0:Int),(0:Int),(0:Int)]=[(0:Int),(0:Int),(0:Int),(0:Int),(0:Int),(0:Int),(0:Int),(0:Int)]∧st=st∧(List.length st=(8:Nat)∧List.length x=(8:Nat))∧∀(i:Nat),i≤(8:Nat)→(∀(j:Nat),j<i→(fun (i:Nat)=>i<(8:Nat)) j)→(i=(8:Nat)→V0 st x i=r∧True)∧(False→[(0:Int),(0:Int),(0:Int),(0:Int),(0:Int),(0:Int),(0:Int),(0:Int)]=r∧True)∧(False→False))∧(False→[(0:Int),(0:Int),(0:Int),(0:Int),(0:Int),(0:Int),(0:Int),(0:Int)]=r∧True)∧(False→False))∧
 (False→[(0:Int),(0:Int),(0:Int),(0:Int),(0:Int),(0:Int),(0:Int),(0:Int)]=r∧True)∧(False→False)) (by kernel_rfl) ?_
 try simp only [Zg]
 try simp only [Zi]
 try simp only [Zh]
 try simp only [Zj]
 try simp only [Zk]
 try simp only [Ze]
 try simp only [Int.toNat_natCast,Nat.zero_add,true_and,and_true,Nat.le_refl]
 subst hm
 have hl:x.length=8:=by rw [hx];exact QL hst _
 exact fun i _ _=>⟨fun he=>⟨by kernel_rfl,by rw [he],hst,fun j _ _=>⟨fun hj=>⟨by rw [hj,hx],⟨hst,hl⟩,fun q _ _=>⟨fun hq=>by rw [hq,hr],fun h=>h.elim,fun h=>h⟩⟩,fun h=>h.elim,fun h=>h⟩⟩,fun h=>h.elim,fun h=>h⟩
theorem Z5T (st bl:List Int) (h:st.length=8):Zw PP 152 [.agg [.arr .u32 8 st],.agg [.arr .u8 64 bl]] (.agg [.arr .u32 8 (XK st bl)]) 0 []:=by
 unfold XK
 exact .ev (Ze0 st bl _ _) (ZjZ Xu Xl st bl _ _ _ h rfl rfl rfl)
theorem Z4R {st bl:List Int} (h:st.length=8):(XK st bl).length=8:=by unfold XK;exact Z2z (QL h _) _
end Go.Tk
end
section
namespace Go.Tk
open IntKind (i64 u8 u32 u64 wrap)
def Ze1 (n i:Int):Int:=u8.wrap (Int.tmod (Zt .u64 (u64.wrap (u64.wrap n*8)) (u64.wrap (i64.wrap (56-i64.wrap (8*i))))) 256)
def XQ (n:Int):Nat→List Int
 | 0=>[]
 | i+1=>XQ n i++[Ze1 n i]
theorem Z2A (n:Int):∀i,(XQ n i).length=i
 | 0=>rfl
 | i+1=>by rw [XQ,List.length_append,Z2A n i];rfl
def paS (bs ys:List Int) (n L i:Nat):St:=⟨39,[(5,.int .i64 i),(4,.nslice ⟨3,0,0,0,0⟩ 1 L L),(0,.vints .u8 bs n)],⟨4,[(3,.ints .u8 ys)]⟩,[]⟩
theorem Zi0 (bs ys zs:List Int) (n L L' i:Nat) (Z1 Z2:Prop) (hi:i≤8) (hL:ys.length=L) (hb:L<10000000000000) (hz:zs=ys++[Ze1 n i]) (hL':L'=zs.length) (h1:i<8→Z1) (h2:i=8→Z2):
  ZI G0 20 151 0 0 (paS bs ys n L i) (rdM 0 0 9 (paS bs zs n L' (i+1)) (paS bs ys n L i) (paS bs ys n L i) (paS bs ys n L i) Z1 Z2 False False):=by
 refine @Eq.mpr _ (let q1:=wrap u64 (wrap i64 (56-wrap i64 (8*(↑i:Int))));
 let q2:=ys++[wrap u8 (Int.tmod (Zt u64 (wrap u64 (wrap u64 (↑n:Int)*8)) q1) 256)];
 let q3:=List.length q2;
 let q4:=decide (n=n);
 Z0 (decide ((↑i:Int)<8)) (Z0 (decide (0≤q1)) (Z0 (decide (u8=u8∧List.length ys=L)) (Z0 (decide (q3*1≤140737488355328)) (Z0 (decide (wrap i64 ((↑i:Int)+1)=(↑(i+1):Int))) (Z0 (decide (q3=L')) (Z0 (decide (L'≤q3)) (bs=bs∧Z0 q4 (q2=zs∧Z1) False) False) False) False) False) False) False) (Z0 (decide ((↑i:Int)=(↑i:Int))) (Z0 (decide (L=L)) (Z0 (decide (L≤L)) (bs=bs∧Z0 q4 (ys=ys∧Z2) False) False) False) False)) (by kernel_rfl) ?_
 conv=>zeta
 try simp only [Zg]
 try simp only [Zi]
 try simp only [Zh]
 try simp only [Zj]
 try simp only [Zk]
 try simp only [Ze]
 try simp only [Int.toNat_natCast,Nat.zero_add,true_and,and_true,Nat.le_refl]
 have hw:i64.wrap ((i:Int)+1)=((i+1:Nat):Int):=w64 (by omega)
 refine ⟨fun hlt=> ?_,fun hge=>h2 (by omega)⟩
 have hz':zs.length=L+1:=by rw [hz,List.length_append,hL];rfl
 have h0:0≤u64.wrap (i64.wrap (56-i64.wrap (8*(i:Int)))):=by
  unfold wrap
  simp [IntKind.bits,IntKind.signed]
  omega
 simp only [List.length_append,List.length_cons,List.length_nil]
 rw [hw]
 repeat' (first|(refine And.intro ?_ ?_)|intro _)
 all_goals first|exact h0|omega|exact hz.symm|exact h1 (by omega)|trivial
noncomputable def ZgY (bs y:List Int) (n:Nat):Zf:=G0.withL 151 0 (goM 0 (paS bs (y++XQ n 0) n (y++XQ n 0).length 0) (y.length≤1000000000000) (Ys 0 8 9 (fun i=>i<8) (fun i=>i=8) (fun _=>False) (fun _=>False) (fun i=>paS bs (y++XQ n i) n (y++XQ n i).length i) (fun i=>paS bs (y++XQ n i) n (y++XQ n i).length i) (fun i=>paS bs (y++XQ n i) n (y++XQ n i).length i)))
theorem Ze2 (bs y:List Int) (n:Nat):(ZgY bs y n).Ok:=by
 unfold ZgY
 refine Zf.withGoM (N:=20) (S:=fun i=>paS bs (y++XQ n i) n (y++XQ n i).length i) Zr (by kernel_rfl) fun hC=>⟨rfl,fun i hi hgo=> ?_⟩
 have hl:(y++XQ n i).length=y.length+i:=by rw [List.length_append,Z2A]
 exact Zi0 bs (y++XQ n i) (y++XQ n (i+1)) n _ _ i _ _ hi rfl (by omega) (by rw [XQ,List.append_assoc]) rfl (fun h=>⟨h,h⟩) (fun h=>h)
def Z14 (n:Nat):List Int:=List.replicate (Int.tmod (i64.wrap (128-Int.tmod (i64.wrap ((n:Int)+9)) 64)) 64).toNat 0
@[irreducible] def U9 (bs:List Int):List Int:=(bs++[128]++Z14 bs.length)++XQ bs.length 8
theorem Ze3 (n:Nat) (h:n≤100000000000):Int.tmod (i64.wrap (128-Int.tmod (i64.wrap ((n:Int)+9)) 64)) 64=(128-((n:Int)+9)%64)%64:=by
 have e1:i64.wrap ((n:Int)+9)=(n:Int)+9:=w64 (by omega)
 have e2:Int.tmod ((n:Int)+9) 64=((n:Int)+9)%64:=tm (by omega)
 have e3:i64.wrap (128-((n:Int)+9)%64)=128-((n:Int)+9)%64:=w64 (by omega)
 rw [e1,e2,e3,tm (by omega)]
theorem ZbB (n:Nat) (h:n≤100000000000):(Z14 n).length≤64:=by
 unfold Z14
 rw [Ze3 n h,List.length_replicate]
 omega
theorem Zi1 (bs y r:List Int) (n L:Nat) (hn:bs.length=n) (hb:n≤100000000000) (hy:y=bs++[128]++Z14 n) (hr:r=y++XQ n 8) (hL:L=r.length):
  evF (ZgY bs y n) 20 151 [.vints .u8 bs n] ⟨0,[]⟩ (Y7 0 (.ret (.nslice ⟨0,0,0,0,0⟩ 1 L L)) 1 [(0,.ints .u8 r)]):=by
 refine @Eq.mpr _ (let q1:=[]++List.take n bs;
 let q2:=List.length q1;
 let q3:=q1++[(128:Int)];
 let q4:=List.length q3;
 let q5:=Int.tmod (wrap i64 (128-Int.tmod (wrap i64 (↑n+9)) 64)) 64;
 let q6:=Int.toNat q5;
 let q7:=q3++List.replicate q6 0;
 let q8:=List.length q7;
 let q9:=y++XQ (↑n) 0;
 let q10:=List.length q9;
 Z0 (decide (q2*1≤140737488355328))
 (Z0 (decide (u8=u8∧q2=q2))
 (Z0 (decide (q4*1≤140737488355328))
 (Z0 (decide (u8=u8∧q4=q4))
 (Z0 (decide ((0:Int)=0∧0≤q5∧(q4+q6)*1≤140737488355328))
 (Z0 (decide (q8=q10))
 (Z0 (decide (q10≤q8))
 (bs=bs∧
 Z0 (decide (n=n))
 (q7=q9∧
 List.length y≤1000000000000∧
 ∀(i:Nat),
 let q21:=y++XQ (↑n) i;
 let q22:=List.length q21;
 i≤8→(∀(j:Nat),j<i→(fun (i:Nat)=>i<8) j)→(i=8→Z0 (decide (q22=L)) (Z0 (decide (L≤q22)) (q21=r∧True) False) False)∧(False→False)∧(False→False))
 False)
 False)
 False)
 False)
 False)
 False)
 False)
 False) (by kernel_rfl) ?_
 conv=>zeta
 try simp only [Zg]
 try simp only [Zi]
 try simp only [Zh]
 try simp only [Zj]
 try simp only [Zk]
 try simp only [Ze]
 try simp only [Int.toNat_natCast,Nat.zero_add,true_and,and_true,Nat.le_refl]
 have ht:List.take n bs=bs:=by rw [←hn];exact List.take_length
 have hz:=ZbB n hb
 have hx:=Ze3 n hb
 have e0:[]++List.take n bs++[128]++List.replicate (Int.tmod (i64.wrap (128-Int.tmod (i64.wrap ((n:Int)+9)) 64)) 64).toNat 0=y++XQ n 0:=by rw [ht,hy];simp [Z14,XQ]
 have hyl:y.length=n+1+(Z14 n).length:=by rw [hy,List.length_append,List.length_append,hn];rfl
 subst hL hr
 simp only [e0,ht,List.length_append,List.length_cons,List.length_nil,hn,List.nil_append]
 refine ⟨by omega,by omega,⟨by omega,by omega⟩, ?_, ?_, ?_,by omega,fun i hi _=>⟨fun he=>by subst he;exact ⟨rfl,Nat.le_refl _,rfl⟩,fun h=>h,fun h=>h⟩⟩
 ·rw [hyl];unfold Z14 XQ;rfl
 ·rw [hyl];unfold Z14 XQ;exact Nat.le_refl _
 ·rw [hy];simp [Z14,XQ]
theorem Z9N (bs:List Int) (h:bs.length≤100000000000):Zw PP 151 [.vints .u8 bs bs.length] (.nslice ⟨0,0,0,0,0⟩ 1 (U9 bs).length (U9 bs).length) 1 [(0,.ints .u8 (U9 bs))]:=.evM (Ze2 bs _ _) (Zi1 bs _ _ _ _ rfl h rfl (by unfold U9;rfl) rfl)
def ZfM (P:List Int→List Int) (B:Nat):Ye:=fun args h K=>ZO none h true 20 args fun a=>Qh a fun xs=>Zu (xs.length≤B) (K (.ret (.nslice ⟨h.next,0,0,0,0⟩ 1 (P xs).length (P xs).length)) ⟨h.next+1,(h.next,.ints .u8 (P xs))::h.bs⟩)
theorem ZbC (B:Nat) (hB:B≤100000000000) (args:List AV) (h:Z9) (K:KO) (hl:ZfM U9 B args h K):Zm PP 151 args h K:=by
 refine Zw.fsumm (d:=20) (Zq _ _ _ _ _ hl fun a ha=> ?_)
 obtain ⟨xs,rfl,hK⟩:=Vj ha
 obtain ⟨hx,hK⟩:=Zc hK
 exact ⟨_,_,_,_,Z9N xs (Nat.le_trans hx hB),rfl,⟨Nat.one_pos,.ints _ _,trivial⟩,hK⟩
def toE (x d:Int):Int:=u8.wrap (Int.tmod (u32.wrap (Int.tdiv x d)) 256)
def toN (x:List Int):Nat→List Int
 | 0=>Zd
 | i+1=>((((toN x i).set (4*i) (u8.wrap (u32.wrap (Int.tdiv (x.getD i 0) 16777216)))).set (4*i+1) (toE (x.getD i 0) 65536)).set (4*i+2) (toE (x.getD i 0) 256)).set (4*i+3) (u8.wrap (Int.tmod (x.getD i 0) 256))
theorem Z4S (x:List Int):∀i,(toN x i).length=32
 | 0=>rfl
 | i+1=>by simp [toN,Z4S x i]
def toS (x h:List Int) (i:Nat):St:=⟨47,[(4,.int .i64 i),(1,pt 0),(3,pt 2),(2,pt 1)],⟨3,[(2,.flat [.arr .u8 32 h]),(1,.flat [.arr .u8 32 Zd]),(0,.flat [.arr .u32 8 x])]⟩,[]⟩
theorem Zk0 (x h h':List Int) (i:Nat) (Z1 Z2:Prop) (hi:i≤8) (hl:h.length=32) (hh:h'=(((h.set (4*i) (u8.wrap (u32.wrap (Int.tdiv (x.getD i 0) 16777216)))).set (4*i+1) (toE (x.getD i 0) 65536)).set (4*i+2) (toE (x.getD i 0) 256)).set (4*i+3) (u8.wrap (Int.tmod (x.getD i 0) 256))) (h1:i<8→Z1) (h2:i=8→Z2):
  ZI G0 20 153 0 0 (toS x h i) (rdM 0 0 9 (toS x h' (i+1)) (toS x h i) (toS x h i) (toS x h i) Z1 Z2 False False):=by
 refine @Eq.mpr _ (let q1:=decide (0≤(↑i:Int)∧(↑i:Int)<8);
 let q2:=0+Int.toNat (↑i:Int);
 let q3:=decide (q2<8);
 let q4:=wrap i64 (4*(↑i:Int));
 let q5:=0+Int.toNat q4;
 let q6:=wrap i64 (q4+1);
 let q7:=0+Int.toNat q6;
 let q8:=List.getD x q2 0;
 let q9:=List.set h q5 (wrap u8 (wrap u32 (Int.tdiv q8 16777216)));
 let q10:=wrap i64 (q4+2);
 let q11:=0+Int.toNat q10;
 let q12:=List.set q9 q7 (wrap u8 (Int.tmod (wrap u32 (Int.tdiv q8 65536)) 256));
 let q13:=wrap i64 (q4+3);
 let q14:=0+Int.toNat q13;
 let q15:=List.set q12 q11 (wrap u8 (Int.tmod (wrap u32 (Int.tdiv q8 256)) 256));
 Z0 (decide ((↑i:Int)<8)) (Z0 q1 (Z0 q3 (Z0 (decide (0≤q4∧q4<32)) (Z0 (decide (u8=u8∧q5<32∧q5<List.length h)) (Z0 q1 (Z0 q3 (Z0 (decide (0≤q6∧q6<32)) (Z0 (decide (u8=u8∧q7<32∧q7<List.length q9)) (Z0 q1 (Z0 q3 (Z0 (decide (0≤q10∧q10<32)) (Z0 (decide (u8=u8∧q11<32∧q11<List.length q12)) (Z0 q1 (Z0 q3 (Z0 (decide (0≤q13∧q13<32)) (Z0 (decide (u8=u8∧q14<32∧q14<List.length q15)) (Z0 (decide (wrap i64 ((↑i:Int)+1)=(↑(i+1):Int))) (List.set q15 q14 (wrap u8 (Int.tmod q8 256))=h'∧Zd=Zd∧x=x∧Z1) False) False) False) False) False) False) False) False) False) False) False) False) False) False) False) False) False) (Z0 (decide ((↑i:Int)=(↑i:Int))) (h=h∧Zd=Zd∧x=x∧Z2) False)) (by kernel_rfl) ?_
 conv=>zeta
 try simp only [Zg]
 try simp only [Zi]
 try simp only [Zh]
 try simp only [Zj]
 try simp only [Zk]
 try simp only [Ze]
 try simp only [Int.toNat_natCast,Nat.zero_add,true_and,and_true,Nat.le_refl]
 have hw:i64.wrap ((i:Int)+1)=((i+1:Nat):Int):=w64 (by omega)
 refine ⟨fun hlt=> ?_,fun hge=>h2 (by omega)⟩
 have e0:i64.wrap (4*(i:Int))=((4*i:Nat):Int):=by rw [w64 (by omega)];omega
 have e1:i64.wrap (((4*i:Nat):Int)+1)=((4*i+1:Nat):Int):=by rw [w64 (by omega)];omega
 have e2:i64.wrap (((4*i:Nat):Int)+2)=((4*i+2:Nat):Int):=by rw [w64 (by omega)];omega
 have e3:i64.wrap (((4*i:Nat):Int)+3)=((4*i+3:Nat):Int):=by rw [w64 (by omega)];omega
 simp only [e0,e1,e2,e3,hw,Int.toNat_natCast,List.length_set]
 repeat' (first|(refine And.intro ?_ ?_)|intro _)
 all_goals first|omega|exact hh.symm|exact h1 (by omega)|trivial
noncomputable def ZgZ (x:List Int):Zf:=G0.withL 153 0 (goM 0 (toS x Zd 0) True (Ys 0 8 9 (fun i=>i<8) (fun i=>i=8) (fun _=>False) (fun _=>False) (fun i=>toS x (toN x i) i) (fun i=>toS x (toN x i) i) (fun i=>toS x (toN x i) i)))
theorem Ze4 (x:List Int):(ZgZ x).Ok:=by
 unfold ZgZ
 refine Zf.withGoM (N:=20) (S:=fun i=>toS x (toN x i) i) Zr (by kernel_rfl) fun hC=>⟨rfl,fun i hi hgo=> ?_⟩
 exact Zk0 x (toN x i) (toN x (i+1)) i _ _ hi (Z4S x i) rfl (fun h=>⟨h,h⟩) (fun h=>h)
@[irreducible] def VI (x:List Int):List Int:=toN x 8
attribute [irreducible] toN
theorem Zk1 (x r:List Int) (hr:r=toN x 8):
  evF (ZgZ x) 20 153 [.agg [.arr .u32 8 x]] ⟨0,[]⟩ (W9 0 [] (.agg [.arr .u8 32 r]) 0 []):=by
 refine @Eq.mpr _ (Zd=Zd∧Zd=Zd∧x=x∧True∧∀(i:Nat),i≤8→(∀(j:Nat),j<i→(fun (i:Nat)=>i<8) j)→(i=8→toN x i=r∧True)∧(False→Zd=r∧True)∧(False→False)) (by kernel_rfl) ?_
 try simp only [Zg]
 try simp only [Zi]
 try simp only [Zh]
 try simp only [Zj]
 try simp only [Zk]
 try simp only [Ze]
 try simp only [Int.toNat_natCast,Nat.zero_add,true_and,and_true,Nat.le_refl]
 subst hr
 exact fun i hi _=>⟨fun he=>by subst he;rfl,fun h=>h.elim,fun h=>h⟩
def ZbD (T:List Int→List Int):ZN:=fun args _ K=>match args with
 | [.agg [.arr .u32 8 x]]=>K (.agg [.arr .u8 32 (T x)])
 | _=>False
theorem ZbE (args:List AV) (h:Z9) (K:AV→Prop) (hl:ZbD VI args h K):Zm PP 153 args h fun o h'=>∃v,o=.ret v∧h'=h∧K v:=by
 unfold ZbD at hl
 split at hl
 ·rename_i x
  refine QG (d:=20) (K0:=fun l=>l=[.agg [.arr .u32 8 x]]) ?_ fun l e=>⟨_,by rw [e];exact (by unfold VI;exact .ev (Ze4 x) (Zk1 x _ rfl)),fun _=>rfl,hl⟩
  rfl
 ·exact hl.elim
end Go.Tk
end
section
namespace Go.Tk
open IntKind (i64 u8 u32 u64 wrap)
def Z4T (P:List Int→List Int→List Int):ZN:=fun args _ K=>match args with
 | [.agg [.arr .u32 8 st],.agg [.arr .u8 64 bl]]=>Zu (st.length=8) (K (.agg [.arr .u32 8 (P st bl)]))
 | _=>False
structure Uy (P:List Int→List Int→List Int):Prop where
 pure:∀st bl,st.length=8→Zw PP 152 [.agg [.arr .u32 8 st],.agg [.arr .u8 64 bl]] (.agg [.arr .u32 8 (P st bl)]) 0 []
 len:∀st bl,st.length=8→(P st bl).length=8
theorem Z7v {P:List Int→List Int→List Int} (hP:Uy P) (args:List AV) (h:Z9) (K:AV→Prop) (hl:Z4T P args h K):Zm PP 152 args h fun o h'=>∃v,o=.ret v∧h'=h∧K v:=by
 unfold Z4T at hl
 split at hl
 ·rename_i st bl
  obtain ⟨hs,hK⟩:=Zc hl
  refine QG (d:=20) (K0:=fun l=>l=[.agg [.arr .u32 8 st],.agg [.arr .u8 64 bl]]) ?_ fun l e=>⟨_,by rw [e];exact hP.pure st bl hs,fun _=>rfl,hK⟩
  rfl
 ·exact hl.elim
noncomputable def E56 (P:List Int→List Int→List Int) (Q:List Int→List Int) (T:List Int→List Int) (B:Nat):Zf:=((G0.withP 152 (Z4T P)).withF 151 (ZfM Q B)).withP 153 (ZbD T)
theorem Zh0 {P:List Int→List Int→List Int} (hP:Uy P) {B:Nat} (hB:B≤100000000000):(E56 P U9 VI B).Ok:=Zf.withP_ok (Zf.withF_ok (Zf.withP_ok Zr (Z7v hP)) (ZbC B hB)) ZbE
def Ze5 (ys st:List Int) (o n:Nat):St:=⟨21,[(4,.nslice ⟨3,0,0,0,o⟩ 1 n n),(3,pt 2),(2,pt 0)],⟨4,[(3,.ints .u8 ys),(2,.flat [.arr .u32 8 st]),(0,.flat [.arr .u8 32 Zd])]⟩,[]⟩
def Z9O (st:List Int):St:=⟨21,[(3,pt 2),(2,pt 0)],⟨4,[(2,.flat [.arr .u32 8 st]),(0,.flat [.arr .u8 32 Zd])]⟩,[]⟩
theorem Zi2 (P:List Int→List Int→List Int) (Q:List Int→List Int) (T:List Int→List Int) (B:Nat) (ys st st':List Int) (o o' n n' k i:Nat) (Z1 Z2:Prop) (hi:i≤k) (hk:ys.length=64*k) (ho:o=64*i) (ho':o'=64*(i+1)) (hn:n=64*k-64*i) (hn':n'=64*k-64*(i+1)) (hs:st.length=8) (hst:st'=P st ((ys.drop o).take 64)) (h1:i<k→Z1) (h2:i=k→Z2):
  ZI (E56 P Q T B) 20 102 0 0 (Ze5 ys st o n) (rdM 0 0 9 (Ze5 ys st' o' n') (Z9O st) (Z9O st) (Z9O st) Z1 Z2 False False):=by
 refine @Eq.mpr _ (let q1:=decide (n≤n);
 let q2:=decide ((0:Int)≤64∧64≤(↑n:Int));
 let q3:=Qu n (some 64);
 Z0 (decide ((↑n:Int)>0)) (Z0 q1 (Z0 q2 (Z0 (decide (o+0+64≤List.length ys)) (Z0 (decide (List.length st=8)) (Z0 q1 (Z0 q2 (Z0 (decide (o+64=o')) (Z0 (decide (q3=n')) (Z0 (decide (n'≤q3)) (ys=ys∧P st (List.take 64 (List.drop (o+0) ys))=st'∧Zd=Zd∧Z1) False) False) False) False) False) False) False) False) False) (st=st∧Zd=Zd∧Z2)) (by kernel_rfl) ?_
 conv=>zeta
 try simp only [Zg]
 try simp only [Zi]
 try simp only [Zh]
 try simp only [Zj]
 try simp only [Zk]
 try simp only [Ze]
 try simp only [Int.toNat_natCast,Nat.zero_add,true_and,and_true,Nat.le_refl]
 refine ⟨fun hlt=> ?_,fun hge=>h2 (by omega)⟩
 have e1:n-64=n':=by omega
 have e2:o+64=o':=by omega
 simp only [Qu,e1,e2,Nat.add_zero]
 repeat' (first|(refine And.intro ?_ ?_)|intro _)
 all_goals first|omega|exact hst.symm|exact h1 (by omega)|trivial
def UI (P:List Int→List Int→List Int) (ys:List Int):Nat→List Int
 | 0=>X7.st
 | i+1=>P (UI P ys i) ((ys.drop (64*i)).take 64)
theorem Z5U {P:List Int→List Int→List Int} (hP:Uy P) (ys:List Int):∀i,(UI P ys i).length=8
 | 0=>rfl
 | i+1=>hP.len _ _ (Z5U hP ys i)
theorem Z3T (P:List Int→List Int→List Int) (ys:List Int):UI P ys 0=X7.st:=rfl
theorem Z3U (P:List Int→List Int→List Int) (ys:List Int) (i:Nat):UI P ys (i+1)=P (UI P ys i) ((ys.drop (64*i)).take 64):=rfl
attribute [irreducible] UI
noncomputable def Zh1 (P:List Int→List Int→List Int) (Q:List Int→List Int) (T:List Int→List Int) (B:Nat) (ys:List Int) (L k:Nat):Zf:=(E56 P Q T B).withL 102 0 (goM 0 (Ze5 ys [1779033703,3144134277,1013904242,2773480762,1359893119,2600822924,528734635,1541459225] 0 L) (ys.length=64*k∧L=64*k) (Ys 0 k 9 (fun i=>i<k) (fun i=>i=k) (fun _=>False) (fun _=>False) (fun i=>Z9O (UI P ys i)) (fun i=>Z9O (UI P ys i)) (fun i=>Z9O (UI P ys i))))
theorem Ze6 {P:List Int→List Int→List Int} (hP:Uy P) {B:Nat} (hB:B≤100000000000) (ys:List Int) (L k:Nat):(Zh1 P U9 VI B ys L k).Ok:=by
 unfold Zh1
 refine Zf.withGoM (N:=20) (S:=fun i=>Ze5 ys (UI P ys i) (64*i) (64*k-64*i)) (Zh0 hP hB) (by kernel_rfl) fun hC=>⟨?_,fun i hi hgo=> ?_⟩
 ·rw [hC.2,Z3T];rfl
 ·exact Zi2 P U9 VI B ys (UI P ys i) (UI P ys (i+1)) _ _ _ _ k i _ _ hi hC.1 rfl rfl rfl rfl (Z5U hP ys i) (Z3U _ _ _) (fun h=>⟨h,h⟩) (fun h=>h)
theorem Zi3 (P:List Int→List Int→List Int) (Q:List Int→List Int) (T:List Int→List Int) (B:Nat) (bs ys r:List Int) (n L k:Nat) (hn:n=bs.length) (hB:n≤B) (hy:ys=Q bs) (hL:L=ys.length) (hk:ys.length=64*k) (hr:r=T (UI P ys k)):
  evF (Zh1 P Q T B ys L k) 20 102 [.vints .u8 bs n] ⟨0,[]⟩ (W9 0 [] (.agg [.arr .u8 32 r]) 0 []):=by
 refine @Eq.mpr _ (let q1:=[(1779033703:Int),3144134277,1013904242,2773480762,1359893119,2600822924,528734635,1541459225];
 Z0 (decide (n=List.length bs)) (Z0 (decide (List.length bs≤B)) (Z0 (decide (List.length (Q bs)=L)) (Z0 (decide (L≤List.length (Q bs))) (Q bs=ys∧q1=q1∧Zd=Zd∧(List.length ys=64*k∧L=64*k)∧∀(i:Nat),i≤k→(∀(j:Nat),j<i→(fun (i:Nat)=>i<k) j)→(i=k→T (UI P ys i)=r∧True)∧(False→Zd=r∧True)∧(False→False)) False) False) False) False) (by kernel_rfl) ?_
 conv=>zeta
 try simp only [Zg]
 try simp only [Zi]
 try simp only [Zh]
 try simp only [Zj]
 try simp only [Zk]
 try simp only [Ze]
 try simp only [Int.toNat_natCast,Nat.zero_add,true_and,and_true,Nat.le_refl]
 subst hy hr
 refine ⟨hn,by omega, ?_⟩
 exact ⟨hL.symm,by omega,rfl,⟨hk,by omega⟩,fun i hi _=>⟨fun he=>by rw [he],fun h=>h.elim,fun h=>h⟩⟩
theorem ZbF (bs:List Int) (h:bs.length≤100000000000):(U9 bs).length=64*((U9 bs).length/64):=by
 have:(U9 bs).length=bs.length+1+((128-((bs.length:Int)+9)%64)%64).toNat+8:=by
  unfold U9 Z14
  rw [Ze3 _ h]
  simp only [List.length_append,List.length_cons,List.length_nil,Z2A,List.length_replicate]
 omega
@[irreducible] def ZbG (P:List Int→List Int→List Int) (bs:List Int):List Int:=VI (UI P (U9 bs) ((U9 bs).length/64))
theorem Z9P {P:List Int→List Int→List Int} (hP:Uy P) (bs:List Int) (h:bs.length≤100000000000):Zw PP 102 [.vints .u8 bs bs.length] (.agg [.arr .u8 32 (ZbG P bs)]) 0 []:=by
 unfold ZbG
 exact .ev (Ze6 hP (Nat.le_refl _) _ _ _) (Zi3 P U9 VI 100000000000 bs _ _ _ _ _ rfl h rfl rfl (ZbF bs h) rfl)
def ZbH (H:List Int→List Int) (B:Nat):ZN:=fun args h K=>ZO none h true 20 args fun a=>Qh a fun xs=>Zu (xs.length≤B) (K (.agg [.arr .u8 32 (H xs)]))
theorem Z5V {f:FuncId} {H:List Int→List Int} {B:Nat} (hp:∀xs:List Int,xs.length≤B→Zw PP f [.vints .u8 xs xs.length] (.agg [.arr .u8 32 (H xs)]) 0 []) (args:List AV) (h:Z9) (K:AV→Prop) (hl:ZbH H B args h K):Zm PP f args h fun o h'=>∃v,o=.ret v∧h'=h∧K v:=by
 refine Zw.psumm (d:=20) (Zq _ _ _ _ _ hl fun a ha=> ?_)
 obtain ⟨xs,rfl,hK⟩:=Vj ha
 obtain ⟨hx,hK⟩:=Zc hK
 exact ⟨_,hp xs hx,fun _=>rfl,hK⟩
end Go.Tk
end
section
namespace Go.Tk
open IntKind (i64 u8 u32 u64 wrap)
end Go.Tk
end
section
namespace Go.Tk
open IntKind (i64 u8 u32 u64 wrap)
def U32 (x:Int):Prop:=0≤x∧x<4294967296
theorem Z5W (x:Int):u32.wrap x=x%4294967296:=by
 unfold wrap
 simp [IntKind.bits,IntKind.signed]
theorem Z0k (x:Int):U32 (u32.wrap x):=by rw [Z5W];unfold U32;omega
theorem XL {x:Int} (h:U32 x):u32.wrap x=x:=by rw [Z5W];unfold U32 at h;omega
theorem wr8 (x:Int):u8.wrap x=x%256:=by
 unfold wrap
 simp [IntKind.bits,IntKind.signed]
theorem Zi4 (x y:Int):U32 (bOr .u32 x y):=Z0k _
theorem WC (x y:Nat) (hx:x<4294967296) (hy:y<4294967296):YQ .u32 x y=((x^^^y:Nat):Int):=by
 unfold YQ
 rw [XL]
 ·show (((BitVec.ofInt 32 (x:Int)^^^BitVec.ofInt 32 (y:Int)).toNat:Nat):Int)=_
  rw [BitVec.toNat_xor,BitVec.ofInt_natCast,BitVec.ofInt_natCast,BitVec.toNat_ofNat,BitVec.toNat_ofNat,Nat.mod_eq_of_lt hx,Nat.mod_eq_of_lt hy]
 ·unfold U32
  have:=(BitVec.ofInt u32.bits x^^^BitVec.ofInt u32.bits y).isLt
  simp only [IntKind.bits] at this
  simp only [IntKind.bits]
  omega
theorem Z4U (x y:Nat) (hx:x<4294967296) (hy:y<4294967296):bOr .u32 x y=((x|||y:Nat):Int):=by
 unfold bOr
 rw [XL]
 ·show (((BitVec.ofInt 32 (x:Int)|||BitVec.ofInt 32 (y:Int)).toNat:Nat):Int)=_
  rw [BitVec.toNat_or,BitVec.ofInt_natCast,BitVec.ofInt_natCast,BitVec.toNat_ofNat,BitVec.toNat_ofNat,Nat.mod_eq_of_lt hx,Nat.mod_eq_of_lt hy]
 ·unfold U32
  have:=(BitVec.ofInt u32.bits x|||BitVec.ofInt u32.bits y).isLt
  simp only [IntKind.bits] at this
  simp only [IntKind.bits]
  omega
theorem Z2B (x y:Nat) (hx:x<4294967296) (hy:y<4294967296):Z0Y .u32 x y=((x&&&y:Nat):Int):=by
 unfold Z0Y
 rw [XL]
 ·show (((BitVec.ofInt 32 (x:Int)&&&BitVec.ofInt 32 (y:Int)).toNat:Nat):Int)=_
  rw [BitVec.toNat_and,BitVec.ofInt_natCast,BitVec.ofInt_natCast,BitVec.toNat_ofNat,BitVec.toNat_ofNat,Nat.mod_eq_of_lt hx,Nat.mod_eq_of_lt hy]
 ·unfold U32
  have:=(BitVec.ofInt u32.bits x&&&BitVec.ofInt u32.bits y).isLt
  simp only [IntKind.bits] at this
  simp only [IntKind.bits]
  omega
theorem U32.nat {x:Int} (h:U32 x):∃n:Nat,x=n∧n<4294967296:=⟨x.toNat,by unfold U32 at h;omega,by unfold U32 at h;omega⟩
theorem U32.of {n:Nat} (h:n<4294967296):U32 (n:Int):=by unfold U32;omega
theorem Z9Q {x y:Int}:YQ .u32 x y=YQ .u32 y x:=by unfold YQ;rw [BitVec.xor_comm]
theorem Z7w {x y z:Int} (hx:U32 x) (hy:U32 y) (hz:U32 z):YQ .u32 (YQ .u32 x y) z=YQ .u32 x (YQ .u32 y z):=by
 obtain ⟨x,rfl,gx⟩:=hx.nat
 obtain ⟨y,rfl,gy⟩:=hy.nat
 obtain ⟨z,rfl,gz⟩:=hz.nat
 rw [WC x y gx gy,WC y z gy gz,WC _ z (Nat.xor_lt_two_pow (n:=32) gx gy) gz,WC x _ gx (Nat.xor_lt_two_pow (n:=32) gy gz),Nat.xor_assoc]
theorem Z9R {x:Int} (hx:U32 x):YQ .u32 0 x=x:=by
 obtain ⟨x,rfl,gx⟩:=hx.nat
 have:=WC 0 x (by omega) gx
 simpa using this
theorem Z4V (x n:Nat) (hn:n≤32):Zt .u32 x n=((x/2^n:Nat):Int):=by
 unfold Zt
 have:min (n:Int).toNat u32.bits=n:=by simp [IntKind.bits];omega
 rw [this,Int.fdiv_eq_ediv_of_nonneg _ (Int.le_of_lt (Int.pow_pos (by decide)))]
 simp
theorem Zi5 {x:Int} (hx:U32 x) (n:Nat) (hn:n≤32):U32 (Zt .u32 x n):=by
 obtain ⟨x,rfl,gx⟩:=hx.nat
 rw [Z4V x n hn]
 exact U32.of (Nat.lt_of_le_of_lt (Nat.div_le_self x (2^n)) gx)
theorem Z7x (w n:Int):U32 (Z7g w n):=Zi4 _ _
theorem Z8u {w:Int} (hw:U32 w) (a b c:Int):sg3 a b c w=Wh 32 [a,b,c] w:=by
 obtain ⟨x,rfl,gx⟩:=hw.nat
 have h0:Zt .u32 (x:Int) 32=0:=by
  rw [show (32:Int)=((32:Nat):Int) from rfl,Z4V x 32 (by omega),Nat.div_eq_of_lt gx]
  rfl
 unfold sg3 Wh
 simp only [List.foldl_cons,List.foldl_nil,h0,Z9R (Z7x _ _)]
theorem Z8v {w:Int} (hw:U32 w) (a b:Int) (n:Nat) (hn:n≤32):rg3 a b n w=Wh n [a,b] w:=by
 have hs:=Zi5 hw n hn
 unfold rg3 Wh
 simp only [List.foldl_cons,List.foldl_nil]
 rw [Z9Q,Z7w hs (Z7x _ _) (Z7x _ _)]
theorem Wp (x i:Nat) (hi:i≤32):Int.tmod (Zt .u32 x i) 2=(((x.testBit i).toNat:Nat):Int):=by
 rw [Z4V x i hi]
 rw [Int.tmod_eq_emod_of_nonneg (Int.natCast_nonneg _),Nat.toNat_testBit]
 rfl
theorem Z4W (b:Bool) (i:Nat) (hi:i<32):ZJ .u32 ((b.toNat:Nat):Int) i=((2^i*b.toNat:Nat):Int):=by
 unfold ZJ
 have:min (i:Int).toNat u32.bits=i:=by simp [IntKind.bits];omega
 rw [this]
 have h2:(2:Nat)^i<2^32:=Nat.pow_lt_pow_right (by decide) hi
 have h3:((2:Nat)^i*b.toNat)<4294967296:=by cases b<;>simp_all
 rw [show ((b.toNat:Nat):Int)*2^i=((2^i*b.toNat:Nat):Int) by push_cast;rw [Int.mul_comm]]
 exact XL (U32.of h3)
theorem Z8w (x i:Nat):x%2^(i+1)=x%2^i+2^i*(x.testBit i).toNat:=by
 rw [Nat.toNat_testBit,Nat.mod_pow_succ]
theorem Z8x (x i:Nat) (hx:x<4294967296) (hi:i<32):u32.wrap (((x%2^i:Nat):Int)+((2^i*(x.testBit i).toNat:Nat):Int))=((x%2^(i+1):Nat):Int):=by
 rw [Z8w]
 rw [XL]
 ·push_cast;rfl
 ·rw [show ((x%2^i:Nat):Int)+((2^i*(x.testBit i).toNat:Nat):Int)=((x%2^i+2^i*(x.testBit i).toNat:Nat):Int) by push_cast;rfl,←Z8w]
  exact U32.of (Nat.lt_of_le_of_lt (Nat.mod_le _ _) hx)
theorem Z3V (a b c:Nat) (ha:a<4294967296) (hb:b<4294967296) (hc:c<4294967296):∀i,i≤32→WQ a b c i=(((a&&&(b|||c)|||b&&&c)%2^i:Nat):Int)
 | 0,_=>by simp [WQ,Nat.mod_one]
 | i+1,hi=>by
  have hm:(a&&&(b|||c)|||b&&&c)<4294967296:=Nat.or_lt_two_pow (n:=32) (Nat.lt_of_le_of_lt Nat.and_le_left ha) (Nat.lt_of_le_of_lt Nat.and_le_left hb)
  rw [WQ,Z3V a b c ha hb hc i (by omega),Wp a i (by omega),Wp b i (by omega),Wp c i (by omega),←Z8x _ i hm (by omega)]
  have ht:(a&&&(b|||c)|||b&&&c).testBit i=(a.testBit i&&(b.testBit i||c.testBit i)||b.testBit i&&c.testBit i):=by simp
  rw [ht]
  have h1:=Z4W true i (by omega)
  have hx:u32.wrap (((a&&&(b|||c)|||b&&&c)%2^i:Nat):Int)=(((a&&&(b|||c)|||b&&&c)%2^i:Nat):Int):=XL (U32.of (Nat.lt_of_le_of_lt (Nat.mod_le _ _) hm))
  rw [Z5W,Z5W]
  cases a.testBit i<;>cases b.testBit i<;>cases c.testBit i<;>simp at h1 hx⊢ <;>first|rw [h1]|rw [hx]
theorem Ze7 {a b c:Int} (ha:U32 a) (hb:U32 b) (hc:U32 c):Xu a b c=bOr .u32 (Z0Y .u32 a (bOr .u32 b c)) (Z0Y .u32 b c):=by
 obtain ⟨a,rfl,ga⟩:=ha.nat
 obtain ⟨b,rfl,gb⟩:=hb.nat
 obtain ⟨c,rfl,gc⟩:=hc.nat
 have h1:=Nat.or_lt_two_pow (n:=32) gb gc
 have h2:a&&&(b|||c)<4294967296:=Nat.lt_of_le_of_lt Nat.and_le_left ga
 have h3:b&&&c<4294967296:=Nat.lt_of_le_of_lt Nat.and_le_left gb
 rw [Z4U b c gb gc,Z2B a _ ga h1,Z2B b c gb gc,Z4U _ _ h2 h3]
 unfold Xu
 rw [Z3V a b c ga gb gc 32 (by omega),Nat.mod_eq_of_lt]
 exact Nat.or_lt_two_pow (n:=32) h2 h3
theorem Z3W (a b c:Nat) (ha:a<4294967296) (hb:b<4294967296) (hc:c<4294967296):∀i,i≤32→Vl a b c i=(((c^^^(a&&&(b^^^c)))%2^i:Nat):Int)
 | 0,_=>by simp [Vl,Nat.mod_one]
 | i+1,hi=>by
  have hm:(c^^^(a&&&(b^^^c)))<4294967296:=Nat.xor_lt_two_pow (n:=32) hc (Nat.lt_of_le_of_lt Nat.and_le_left ha)
  rw [Vl,Z3W a b c ha hb hc i (by omega),Wp a i (by omega),Wp b i (by omega),Wp c i (by omega),←Z8x _ i hm (by omega)]
  have ht:(c^^^(a&&&(b^^^c))).testBit i=(c.testBit i^^(a.testBit i&&(b.testBit i^^c.testBit i))):=by simp
  rw [ht]
  have h1:=Z4W true i (by omega)
  have h0:=Z4W false i (by omega)
  cases a.testBit i<;>cases b.testBit i<;>cases c.testBit i<;>simp at h1 h0⊢ <;>first|rw [h1]|rw [h0,Int.add_zero]
theorem Ze8 {a b c:Int} (ha:U32 a) (hb:U32 b) (hc:U32 c):Xl a b c=YQ .u32 c (Z0Y .u32 a (YQ .u32 b c)):=by
 obtain ⟨a,rfl,ga⟩:=ha.nat
 obtain ⟨b,rfl,gb⟩:=hb.nat
 obtain ⟨c,rfl,gc⟩:=hc.nat
 have h1:=Nat.xor_lt_two_pow (n:=32) gb gc
 have h2:a&&&(b^^^c)<4294967296:=Nat.lt_of_le_of_lt Nat.and_le_left ga
 rw [WC b c gb gc,Z2B a _ ga h1,WC _ _ gc h2]
 unfold Xl
 rw [Z3W a b c ga gb gc 32 (by omega),Nat.mod_eq_of_lt]
 exact Nat.xor_lt_two_pow (n:=32) gc h2
theorem Z3X (bl:List Int) (t:Nat):W4 bl (t+1)=(W4 bl t).set t (if t<16 then Z7u bl t else ZbA (W4 bl t) t):=by rw [W4]
theorem Z3Y (bl:List Int) (s t:Nat) (hs:s<t):∀u,(W4 bl (t+u)).getD s 0=(W4 bl t).getD s 0
 | 0=>rfl
 | u+1=>by
  rw [←Nat.add_assoc,Z3X,←Z3Y bl s t hs u]
  simp only [List.getD_eq_getElem?_getD]
  rw [List.getElem?_set_ne (by omega)]
@[irreducible] def Z15 (bl:List Int) (t:Nat):Int:=(W4 bl 64).getD t 0
theorem QM (bl:List Int) {s t:Nat} (hs:s<t) (ht:t≤64):(W4 bl t).getD s 0=Z15 bl s:=by
 unfold Z15
 have:=Z3Y bl s t hs (64-t)
 rw [show t+(64-t)=64 by omega] at this
 exact this.symm
theorem Z8y (bl:List Int) {t:Nat} (ht:t<64):Z15 bl t=if t<16 then Z7u bl t else ZbA (W4 bl t) t:=by
 rw [←QM bl (Nat.lt_succ_self t) (by omega),Z3X]
 simp only [List.getD_eq_getElem?_getD]
 rw [List.getElem?_set_self (by rw [Z2y];omega)]
 rfl
theorem Z8z (bl:List Int) {t:Nat} (ht:t<16):Z15 bl t=Z7u bl t:=by rw [Z8y bl (by omega),if_pos ht]
theorem Z8A (bl:List Int) {t:Nat} (h16:16≤t) (ht:t<64):Z15 bl t=u32.wrap (u32.wrap (u32.wrap (rg3 17 19 10 (Z15 bl (t-2))+Z15 bl (t-7))+rg3 7 18 3 (Z15 bl (t-15)))+Z15 bl (t-16)):=by
 rw [Z8y bl (by omega),if_neg (by omega)]
 unfold ZbA
 rw [QM bl (by omega) (by omega),QM bl (by omega) (by omega),QM bl (by omega) (by omega),QM bl (by omega) (by omega)]
theorem ZbI (bl:List Int) {t:Nat} (ht:t<64):U32 (Z15 bl t):=by
 by_cases h:t<16
 ·rw [Z8z bl h];exact Z0k _
 ·rw [Z8A bl (by omega) ht];exact Z0k _
theorem QN (t:Nat):mAt (t:Int)=t%16:=by
 unfold mAt
 rw [tm (by omega)]
 omega
theorem WR (i t:Nat) (hi:i<8) (ht:t≤64):atI (i:Int) (t:Int)=(i+64-t)%8:=by
 unfold atI
 rw [w64 (x:=(i:Int)+64) (by omega),w64 (by omega),tm (by omega)]
 omega
theorem Z2C (l:List Int) (i j:Nat) (x:Int) (hi:i<l.length):(l.set i x).getD j 0=if i=j then x else l.getD j 0:=by
 simp only [List.getD_eq_getElem?_getD]
 by_cases h:i=j
 ·subst h
  rw [List.getElem?_set_self hi,if_pos rfl];rfl
 ·rw [List.getElem?_set_ne h,if_neg h]
def Ring (bl r:List Int) (t:Nat):Prop:=r.length=16∧∀s,s<max 16 t→max 16 t≤s+16→r.getD (s%16) 0=Z15 bl s
theorem Ring.step {bl r:List Int} {t:Nat} (h:Ring bl r t) (ht:t<64):Ring bl (Qf t r) (t+1):=by
 obtain ⟨hl,hr⟩:=h
 refine ⟨by rw [Z5P,hl],fun s h1 h2=> ?_⟩
 unfold Qf
 by_cases h16:t<16
 ·rw [if_neg (by omega)]
  exact hr s (by omega) (by omega)
 ·rw [if_pos (by omega)]
  have w1:i64.wrap ((t:Int)+1)=((t+1:Nat):Int):=by rw [w64 (by omega)];omega
  have w9:i64.wrap ((t:Int)+9)=((t+9:Nat):Int):=by rw [w64 (by omega)];omega
  have w14:i64.wrap ((t:Int)+14)=((t+14:Nat):Int):=by rw [w64 (by omega)];omega
  have r0:=hr (t-16) (by omega) (by omega)
  have r1:=hr (t-15) (by omega) (by omega)
  have r9:=hr (t-7) (by omega) (by omega)
  have r14:=hr (t-2) (by omega) (by omega)
  rw [show (t-16)%16=t%16 by omega] at r0
  rw [show (t-15)%16=(t+1)%16 by omega] at r1
  rw [show (t-7)%16=(t+9)%16 by omega] at r9
  rw [show (t-2)%16=(t+14)%16 by omega] at r14
  rw [w1,w9,w14,QN,QN,QN,QN,r0,r1,r9,r14,Z2C _ _ _ _ (by rw [hl];omega)]
  by_cases hs:s=t
  ·subst hs
   rw [if_pos rfl,Z8A bl (by omega) ht]
   have e1:=Z8v (ZbI bl (t:=s-2) (by omega)) 17 19 10 (by omega)
   have e2:=Z8v (ZbI bl (t:=s-15) (by omega)) 7 18 3 (by omega)
   rw [show ((10:Nat):Int)=10 from rfl] at e1
   rw [show ((3:Nat):Int)=3 from rfl] at e2
   rw [e1,e2]
   simp only [Z5W]
   omega
  ·rw [if_neg (by omega)]
   exact hr s (by omega) (by omega)
def U8 (x:Int):Prop:=0≤x∧x<256
theorem Z1l (x n:Nat) (hn:n≤32) (h:x*2^n<4294967296):ZJ .u32 x n=((x*2^n:Nat):Int):=by
 unfold ZJ
 have:min (n:Int).toNat u32.bits=n:=by simp [IntKind.bits];omega
 rw [this,show (x:Int)*2^n=((x*2^n:Nat):Int) by push_cast;rfl]
 exact XL (U32.of h)
theorem Z1m (x y:Nat) (hx:x<16777216) (hy:y<256):bOr .u32 (ZJ .u32 x 8) y=((x*256+y:Nat):Int):=by
 have:=Z1l x 8 (by omega) (by omega)
 rw [show ((8:Nat):Int)=8 from rfl] at this
 rw [this,Z4U _ _ (by omega) (by omega),←Nat.shiftLeft_eq,←Nat.shiftLeft_add_eq_or_of_lt (by omega),Nat.shiftLeft_eq]
theorem Ua {P:Int→Prop} {l:List Int} (h:∀x∈l,P x) (h0:P 0) (i:Nat):P (l.getD i 0):=by
 rw [List.getD_eq_getElem?_getD]
 cases hg:l[i]? with
 | none=>exact h0
 | some x=>exact h x (List.mem_of_getElem? hg)
theorem U8.nat {x:Int} (h:U8 x):∃n:Nat,x=n∧n<256:=⟨x.toNat,by unfold U8 at h;omega,by unfold U8 at h;omega⟩
theorem Ze9 (bl:List Int) (hb:∀x∈bl,U8 x) (t:Nat):XR bl (4*t)=Z7u bl t:=by
 unfold XR Z7u
 obtain ⟨a,ea,ha⟩:=(Ua (P:=U8) hb (by unfold U8;omega) (4*t)).nat
 obtain ⟨b,eb,hb'⟩:=(Ua (P:=U8) hb (by unfold U8;omega) (4*t+1)).nat
 obtain ⟨c,ec,hc⟩:=(Ua (P:=U8) hb (by unfold U8;omega) (4*t+2)).nat
 obtain ⟨d,ed,hd⟩:=(Ua (P:=U8) hb (by unfold U8;omega) (4*t+3)).nat
 rw [ea,eb,ec,ed]
 rw [XL (x:=(a:Int)) (U32.of (by omega)),XL (x:=(b:Int)) (U32.of (by omega)),XL (x:=(c:Int)) (U32.of (by omega)),XL (x:=(d:Int)) (U32.of (by omega))]
 have z:=Z1m 0 a (by omega) ha
 have s0:ZJ .u32 0 8=0:=by decide
 rw [show ZJ .u32 ((0:Nat):Int) 8=0 from s0] at z
 rw [z,Z1m _ b (by omega) hb',Z1m _ c (by omega) hc,Z1m _ d (by omega) hd]
 have g1:=Z1l a 24 (by omega) (by omega)
 have g2:=Z1l b 16 (by omega) (by omega)
 have g3:=Z1l c 8 (by omega) (by omega)
 rw [show ((24:Nat):Int)=24 from rfl] at g1
 rw [show ((16:Nat):Int)=16 from rfl] at g2
 rw [show ((8:Nat):Int)=8 from rfl] at g3
 rw [g1,g2,g3]
 simp only [Z5W]
 omega
theorem Ring.first (bl:List Int) (hb:∀x∈bl,U8 x):Ring bl (WA bl) 0:=by
 refine ⟨rfl,fun s h1 _=> ?_⟩
 have h16:s<16:=by omega
 rw [Z8z bl h16,←Ze9 bl hb,Nat.mod_eq_of_lt h16]
 have:s=0∨s=1∨s=2∨s=3∨s=4∨s=5∨s=6∨s=7∨s=8∨s=9∨s=10∨s=11∨s=12∨s=13∨s=14∨s=15:=by omega
 rcases this with rfl|rfl|rfl|rfl|rfl|rfl|rfl|rfl|rfl|rfl|rfl|rfl|rfl|rfl|rfl|rfl<;>rfl
def Z2D (x y:List Int) (t:Nat):Prop:=x.length=8∧∀i,i<8→x.getD ((i+64-t)%8) 0=y.getD i 0
theorem Z2D.step {x y m:List Int} {w:Int} {t:Nat} (h:Z2D x y t) (hU:∀i,i<8→U32 (y.getD i 0)) (ht:t<64) (hm:m.getD (t%16) 0=w):
  Z2D (Z3h t m x) (Z0N Xu Xl (WZ.getD t 0) w y) (t+1):=by
 obtain ⟨hl,hr⟩:=h
 have a0:=WR 0 t (by omega) (by omega)
 have a1:=WR 1 t (by omega) (by omega)
 have a2:=WR 2 t (by omega) (by omega)
 have a3:=WR 3 t (by omega) (by omega)
 have a4:=WR 4 t (by omega) (by omega)
 have a5:=WR 5 t (by omega) (by omega)
 have a6:=WR 6 t (by omega) (by omega)
 have a7:=WR 7 t (by omega) (by omega)
 have h0:=hr 0 (by omega)
 have h1:=hr 1 (by omega)
 have h2:=hr 2 (by omega)
 have h3:=hr 3 (by omega)
 have h4:=hr 4 (by omega)
 have h5:=hr 5 (by omega)
 have h6:=hr 6 (by omega)
 have h7:=hr 7 (by omega)
 rw [←a0] at h0
 rw [←a1] at h1
 rw [←a2] at h2
 rw [←a3] at h3
 rw [←a4] at h4
 rw [←a5] at h5
 rw [←a6] at h6
 rw [←a7] at h7
 refine ⟨by rw [Z5Q,hl], ?_⟩
 have hadd:Z0h t m x=u32.wrap (u32.wrap (u32.wrap (u32.wrap (y.getD 7 0+sg3 6 11 25 (y.getD 4 0))+Xl (y.getD 4 0) (y.getD 5 0) (y.getD 6 0))+WZ.getD t 0)+w):=by
  unfold Z0h
  rw [QN,hm]
  rw [show atI 7 (t:Int)=atI ((7:Nat):Int) t from rfl,show atI 4 (t:Int)=atI ((4:Nat):Int) t from rfl,show atI 5 (t:Int)=atI ((5:Nat):Int) t from rfl,show atI 6 (t:Int)=atI ((6:Nat):Int) t from rfl]
  rw [h4,h5,h6,h7,Z8u (hU 4 (by omega)),Ze8 (hU 4 (by omega)) (hU 5 (by omega)) (hU 6 (by omega))]
  rw [Nat.zero_add,Int.toNat_natCast]
 unfold Z3h
 rw [hadd]
 rw [show atI 7 (t:Int)=atI ((7:Nat):Int) t from rfl,show atI 3 (t:Int)=atI ((3:Nat):Int) t from rfl,show atI 0 (t:Int)=atI ((0:Nat):Int) t from rfl,show atI 1 (t:Int)=atI ((1:Nat):Int) t from rfl,show atI 2 (t:Int)=atI ((2:Nat):Int) t from rfl]
 rw [h0,h1,h2,h3,←Ze7 (hU 0 (by omega)) (hU 1 (by omega)) (hU 2 (by omega)),←Z8u (hU 0 (by omega)),a3,a7]
 intro i hi
 rw [Z2C _ _ _ _ (by rw [List.length_set,hl];omega),Z2C _ _ _ _ (by rw [hl];omega)]
 unfold Z0N
 have:i=0∨i=1∨i=2∨i=3∨i=4∨i=5∨i=6∨i=7:=by omega
 rcases this with rfl|rfl|rfl|rfl|rfl|rfl|rfl|rfl
 ·rw [if_pos (by omega)]
  simp only [Z5W,List.getD_cons_zero]
  omega
 ·rw [if_neg (by omega),if_neg (by omega),show (1+64-(t+1))%8=(0+64-t)%8 by omega,hr 0 (by omega)];rfl
 ·rw [if_neg (by omega),if_neg (by omega),show (2+64-(t+1))%8=(1+64-t)%8 by omega,hr 1 (by omega)];rfl
 ·rw [if_neg (by omega),if_neg (by omega),show (3+64-(t+1))%8=(2+64-t)%8 by omega,hr 2 (by omega)];rfl
 ·rw [if_neg (by omega),if_pos (by omega)];rfl
 ·rw [if_neg (by omega),if_neg (by omega),show (5+64-(t+1))%8=(4+64-t)%8 by omega,hr 4 (by omega)];rfl
 ·rw [if_neg (by omega),if_neg (by omega),show (6+64-(t+1))%8=(5+64-t)%8 by omega,hr 5 (by omega)];rfl
 ·rw [if_neg (by omega),if_neg (by omega),show (7+64-(t+1))%8=(6+64-t)%8 by omega,hr 6 (by omega)];rfl
theorem Zea {k w:Int} {y:List Int} (hU:∀i,i<8→U32 (y.getD i 0)):∀i,i<8→U32 ((Z0N Xu Xl k w y).getD i 0):=by
 intro i hi
 unfold Z0N
 have:i=0∨i=1∨i=2∨i=3∨i=4∨i=5∨i=6∨i=7:=by omega
 rcases this with rfl|rfl|rfl|rfl|rfl|rfl|rfl|rfl
 ·exact Z0k _
 ·exact hU 0 (by omega)
 ·exact hU 1 (by omega)
 ·exact hU 2 (by omega)
 ·exact Z0k _
 ·exact hU 4 (by omega)
 ·exact hU 5 (by omega)
 ·exact hU 6 (by omega)
def W8 (st:List Int):Prop:=st.length=8∧∀x∈st,U32 x
theorem W8.get {st:List Int} (h:W8 st) (i:Nat):U32 (st.getD i 0):=Ua h.2 (by unfold U32;omega) i
theorem Z5X (bl st:List Int) (hb:∀x∈bl,U8 x) (hs:W8 st):∀t,t≤64→Ring bl (Wi (WA bl) st t).1 t∧Z2D (Wi (WA bl) st t).2 (U7 Xu Xl (W4 bl 64) st t) t∧∀i,i<8→U32 ((U7 Xu Xl (W4 bl 64) st t).getD i 0)
 | 0,_=>by
  rw [Z3H,Z9M]
  refine ⟨Ring.first bl hb,⟨hs.1,fun i hi=> ?_⟩,fun i _=>hs.get i⟩
  rw [show (i+64-0)%8=i by omega]
 | t+1,h=>by
  obtain ⟨h1,h2,h3⟩:=Z5X bl st hb hs t (by omega)
  rw [Z3I,Z9L]
  have hR:=h1.step (by omega)
  refine ⟨hR,h2.step h3 (by omega) ?_,Zea h3⟩
  rw [hR.2 t (by omega) (by omega)]
  unfold Z15
  rfl
theorem Z9S (st x:List Int) (i:Nat):V0 st x (i+1)=(V0 st x i).set i (u32.wrap ((V0 st x i).getD i 0+st.getD i 0)):=by rw [V0]
theorem Z9T (st x:List Int):V0 st x 0=x:=by rw [V0]
theorem Zeb (st x:List Int) (hs:st.length=8) (hx:x.length=8):V0 st x 8=Z9E st x:=by
 obtain ⟨a0,a1,a2,a3,a4,a5,a6,a7,rfl⟩:=eight st hs
 obtain ⟨b0,b1,b2,b3,b4,b5,b6,b7,rfl⟩:=eight x hx
 simp only [Z9S,Z9T]
 simp [Z9E,List.set,Int.add_comm]
theorem Z7y {x y:List Int} (h:Z2D x y 64) (hy:y.length=8):y=x:=by
 obtain ⟨h4,h5⟩:=h
 obtain ⟨a0,a1,a2,a3,a4,a5,a6,a7,rfl⟩:=eight _ hy
 obtain ⟨b0,b1,b2,b3,b4,b5,b6,b7,rfl⟩:=eight _ h4
 have g0:=h5 0 (by omega)
 have g1:=h5 1 (by omega)
 have g2:=h5 2 (by omega)
 have g3:=h5 3 (by omega)
 have g4:=h5 4 (by omega)
 have g5:=h5 5 (by omega)
 have g6:=h5 6 (by omega)
 have g7:=h5 7 (by omega)
 simp at g0 g1 g2 g3 g4 g5 g6 g7
 simp [g0,g1,g2,g3,g4,g5,g6,g7]
theorem Z5Y (st bl:List Int) (hb:∀x∈bl,U8 x) (hs:W8 st):XK st bl=W3 st bl:=by
 obtain ⟨_,h2,h3⟩:=Z5X bl st hb hs 64 (by omega)
 have hl:=QL (M:=Xu) (P:=Xl) (m:=W4 bl 64) hs.1 64
 unfold XK W3
 rw [Zeb _ _ hs.1 hl]
 congr 1
 exact Z7y h2 hl
theorem Z5Z (st bl:List Int) (hs:st.length=8):W8 (W3 st bl):=by
 refine ⟨Z3J st bl hs,fun x hx=> ?_⟩
 unfold W3 Z9E at hx
 obtain ⟨i,hi,rfl⟩:=List.getElem_of_mem hx
 simp only [List.getElem_zipWith]
 exact Z0k _
def UJ (P:List Int→List Int→List Int):Nat→List Int→List Int→List Int
 | 0,st,_=>st
 | n+1,st,ms=>UJ P n (P st (ms.take 64)) (ms.drop 64)
theorem Z0l (P:List Int→List Int→List Int):∀(n:Nat) (st ms:List Int),UJ P (n+1) st ms=P (UJ P n st ms) ((ms.drop (64*n)).take 64)
 | 0,_,_=>rfl
 | n+1,st,ms=>by
  rw [UJ,Z0l P n,List.drop_drop]
  rw [show 64+64*n=64*(n+1) by omega]
  rfl
theorem Z2E (P:List Int→List Int→List Int):∀(n:Nat) (st ms more:List Int),64*n≤ms.length→UJ P n st (ms++more)=UJ P n st ms
 | 0,_,_,_,_=>rfl
 | n+1,st,ms,more,h=>by
  rw [UJ,UJ,List.take_append_of_le_length (by omega),List.drop_append_of_le_length (by omega),Z2E P n _ _ _ (by rw [List.length_drop];omega)]
theorem Z2F:∀(n:Nat) (st ms:List Int),W8 st→(∀x∈ms,U8 x)→UJ XK n st ms=UJ W3 n st ms
 | 0,_,_,_,_=>rfl
 | n+1,st,ms,hs,hm=>by
  rw [UJ,UJ,Z5Y st _ (fun x hx=>hm x (List.mem_of_mem_take hx)) hs]
  exact Z2F n _ _ (Z5Z st _ hs.1) fun x hx=>hm x (List.mem_of_mem_drop hx)
structure Rep (r:ZA) (ms:List Int):Prop where
 came:r.came=ms.length
 st:r.st=UJ W3 (ms.length/64) X7.st ms
 len:r.part.length=64
 part:r.part.take (ms.length%64)=ms.drop (64*(ms.length/64))
theorem Rep.ok {r:ZA} {ms:List Int} (h:Rep r ms) (h8:r.st.length=8):r.Ok:=⟨h8,h.len,by rw [h.came];omega⟩
theorem Rep.one {r:ZA} {ms:List Int} (h:Rep r ms) (bs:List Int):Rep (r.one bs) (ms++wTk r.came bs):=by
 have ha:wAt r.came=ms.length%64:=by
  unfold wAt
  rw [h.came,tm (by omega)]
  omega
 have hk:(wTk r.came bs).length≤64-ms.length%64:=by
  unfold wTk
  rw [ha,List.length_take]
  omega
 have hdl:(ms.drop (64*(ms.length/64))).length=ms.length%64:=by rw [List.length_drop];omega
 have hp:Vf r.part r.came bs=ms.drop (64*(ms.length/64))++wTk r.came bs++r.part.drop (ms.length%64+(wTk r.came bs).length):=by
  unfold Vf spl
  rw [ha,h.part]
 have hl:(Vf r.part r.came bs).length=64:=by
  rw [hp,List.length_append,List.length_append,hdl,List.length_drop,h.len]
  omega
 have hst:(r.one bs).st=if ms.length%64+(wTk r.came bs).length=64 then W3 r.st (Vf r.part r.came bs) else r.st:=by
  show wSt _ _ _ _=_
  unfold wSt
  rw [ha]
 have hca:(r.one bs).came=r.came+(wTk r.came bs).length:=rfl
 have hpa:(r.one bs).part=Vf r.part r.came bs:=rfl
 generalize wTk r.came bs=tk at*
 generalize Vf r.part r.came bs=pa at*
 have hal:(ms++tk).length=ms.length+tk.length:=List.length_append
 refine ⟨by rw [hca,h.came,hal];omega, ?_,by rw [hpa];exact hl, ?_⟩
 ·rw [hst,h.st]
  by_cases h64:ms.length%64+tk.length=64
  ·rw [if_pos h64,hal,show (ms.length+tk.length)/64=ms.length/64+1 by omega,Z0l,Z2E _ _ _ _ _ (by omega)]
   congr 1
   rw [List.drop_append_of_le_length (by omega),hp,show r.part.drop (ms.length%64+tk.length)=[] from List.drop_eq_nil_of_le (by rw [h.len];omega),List.append_nil,List.take_of_length_le (by rw [List.length_append,hdl];omega)]
  ·rw [if_neg h64,hal,show (ms.length+tk.length)/64=ms.length/64 by omega,Z2E _ _ _ _ _ (by omega)]
 ·rw [hpa,hal]
  by_cases h64:ms.length%64+tk.length=64
  ·rw [show (ms.length+tk.length)%64=0 by omega,List.take_zero,List.drop_eq_nil_of_le (by rw [hal];omega)]
  ·rw [show (ms.length+tk.length)/64=ms.length/64 by omega,show (ms.length+tk.length)%64=ms.length%64+tk.length by omega,hp,List.drop_append_of_le_length (by omega)]
   rw [List.take_append_of_le_length (by rw [List.length_append,hdl];omega)]
   exact List.take_of_length_le (by rw [List.length_append,hdl];omega)
theorem Rep.many:∀(n:Nat) (r:ZA) (ms bs:List Int),r.Ok→Rep r ms→bs.length≤n→Rep (ZA.many n r bs).1 (ms++bs)
 | 0,r,ms,bs,_,h,hn=>by
  have:bs=[]:=List.eq_nil_of_length_eq_zero (by omega)
  subst this
  rw [List.append_nil]
  exact h
 | n+1,r,ms,bs,hr,h,hn=>by
  unfold ZA.many
  split
  ·rw [List.append_nil];exact h
  ·rename_i b bs
   have hp:=Uv hr (bs:=b::bs) (by simp)
   have hb:(b::bs)=wTk r.came (b::bs)++(b::bs).drop (wTk r.came (b::bs)).length:=by
    unfold wTk
    rw [List.length_take]
    by_cases h:64-wAt r.came≤(b::bs).length
    ·rw [Nat.min_eq_left h,List.take_append_drop]
    ·rw [Nat.min_eq_right (by omega),List.take_of_length_le (by omega),List.drop_length,List.append_nil]
   have:=Rep.many n _ _ ((b::bs).drop (wTk r.came (b::bs)).length) (hr.one _) (h.one (b::bs)) (by rw [List.length_drop];simp only [List.length_cons] at hn⊢;omega)
   rw [List.append_assoc,←hb] at this
   exact this
theorem Rep.write {r:ZA} {ms:List Int} (hr:r.Ok) (h:Rep r ms) (bs:List Int):Rep (r.write bs) (ms++bs):=by
 unfold ZA.write
 exact Rep.many _ _ _ _ hr h (Nat.le_refl _)
theorem Rep.init:Rep X7 []:=⟨rfl,rfl,rfl,rfl⟩
def Z0m (bs:List Int):List Int:=bs++UH bs.length++len8 bs.length
def Z7z (P:List Int→List Int→List Int) (bs:List Int):List Int:=Z5R (UJ P ((Z0m bs).length/64) X7.st (Z0m bs))
theorem Rep.fin {r:ZA} {ms:List Int} (hr:r.Ok) (h:Rep r ms):r.fin=Z7z W3 ms:=by
 have h1:=h.write hr (UH r.came)
 have h2:=h1.write (Vg _ _ hr) (len8 r.came)
 unfold ZA.fin Z7z
 rw [h2.st,h.came]
 rfl
theorem ZbJ (bs:List Int):Zo bs=Z7z W3 bs:=by
 unfold Zo
 have:=Rep.init.write Vi bs
 exact this.fin (Vg _ _ Vi)
theorem Z60:W8 X7.st:=by
 refine ⟨rfl,fun x hx=> ?_⟩
 simp only [X7,List.mem_cons,List.not_mem_nil,or_false] at hx
 unfold U32
 rcases hx with rfl|rfl|rfl|rfl|rfl|rfl|rfl|rfl<;>omega
theorem Zec (n:Int):∀x∈UH n,U8 x:=by
 intro x hx
 unfold UH at hx
 rcases List.mem_append.mp hx with h|h
 ·rw [List.mem_singleton] at h
  subst h
  unfold U8;omega
 ·rw [List.eq_of_mem_replicate h]
  unfold U8;omega
theorem Zh2 (x:Int):U8 (u8.wrap x):=by rw [wr8];unfold U8;omega
theorem Zed (n:Int):∀x∈len8 n,U8 x:=by
 intro x hx
 unfold len8 UX at hx
 simp only [List.mem_cons,List.not_mem_nil,or_false] at hx
 rcases hx with h|h|h|h|h|h|h|h<;>rw [h]<;>exact Zh2 _
theorem Z9U {bs:List Int} (h:∀x∈bs,U8 x):∀x∈Z0m bs,U8 x:=by
 intro x hx
 unfold Z0m at hx
 rcases List.mem_append.mp hx with h1|h1
 ·rcases List.mem_append.mp h1 with h2|h2
  ·exact h x h2
  ·exact Zec _ x h2
 ·exact Zed _ x h1
end Go.Tk
end
section
namespace Go.Tk
open IntKind (i64 u8 u32 u64 wrap)
theorem Zee:Uy XK:=⟨fun st bl h=>Z5T st bl h,fun _ _ h=>Z4R h⟩
theorem ZbK (x:List Int) (i:Nat):toN x (i+1)=((((toN x i).set (4*i) (u8.wrap (u32.wrap (Int.tdiv (x.getD i 0) 16777216)))).set (4*i+1) (toE (x.getD i 0) 65536)).set (4*i+2) (toE (x.getD i 0) 256)).set (4*i+3) (u8.wrap (Int.tmod (x.getD i 0) 256)):=by rw [toN]
theorem ZbL (x:List Int):toN x 0=Zd:=by rw [toN]
def four (x:Int):List Int:=[u8.wrap (u32.wrap (Int.tdiv x 16777216)),toE x 65536,toE x 256,u8.wrap (Int.tmod x 256)]
theorem Z9V (x:List Int):(VI x).length=32:=by unfold VI;exact Z4S x 8
theorem Z7A (x:List Int) (h:x.length=8):VI x=four (x.getD 0 0)++four (x.getD 1 0)++four (x.getD 2 0)++four (x.getD 3 0)++four (x.getD 4 0)++four (x.getD 5 0)++four (x.getD 6 0)++four (x.getD 7 0):=by
 unfold VI
 simp only [ZbK,ZbL]
 generalize x.getD 0 0=x0
 generalize x.getD 1 0=x1
 generalize x.getD 2 0=x2
 generalize x.getD 3 0=x3
 generalize x.getD 4 0=x4
 generalize x.getD 5 0=x5
 generalize x.getD 6 0=x6
 generalize x.getD 7 0=x7
 kernel_rfl
theorem Zef (x:Int):u64.wrap x=x%18446744073709551616:=by
 unfold wrap
 simp [IntKind.bits,IntKind.signed]
theorem Z61 (x n:Nat) (hn:n≤64):Zt .u64 x n=((x/2^n:Nat):Int):=by
 unfold Zt
 have:min (n:Int).toNat u64.bits=n:=by simp [IntKind.bits];omega
 rw [this,Int.fdiv_eq_ediv_of_nonneg _ (Int.le_of_lt (Int.pow_pos (by decide)))]
 simp
theorem Xy {x:Int} (h:U32 x):four x=WP (u64.wrap x):=by
 obtain ⟨x,rfl,gx⟩:=h.nat
 have e:u64.wrap (x:Int)=x:=by rw [Zef];omega
 have s24:=Z61 x 24 (by omega)
 have s16:=Z61 x 16 (by omega)
 have s8:=Z61 x 8 (by omega)
 have s0:=Z61 x 0 (by omega)
 rw [show ((24:Nat):Int)=24 from rfl] at s24
 rw [show ((16:Nat):Int)=16 from rfl] at s16
 rw [show ((8:Nat):Int)=8 from rfl] at s8
 rw [show ((0:Nat):Int)=0 from rfl] at s0
 have d1:Int.tdiv (x:Int) 16777216=(x:Int)/16777216:=Int.tdiv_eq_ediv_of_nonneg (by omega)
 have d2:Int.tdiv (x:Int) 65536=(x:Int)/65536:=Int.tdiv_eq_ediv_of_nonneg (by omega)
 have d3:Int.tdiv (x:Int) 256=(x:Int)/256:=Int.tdiv_eq_ediv_of_nonneg (by omega)
 unfold four WP toE
 rw [e,s24,s16,s8,s0,d1,d2,d3]
 simp only [wr8,Z5W]
 rw [tm (a:=(x:Int)/65536%4294967296) (by omega),tm (a:=(x:Int)/256%4294967296) (by omega),tm (a:=(x:Int)) (by omega)]
 simp only [List.cons.injEq,and_true]
 omega
theorem Z7B {x:List Int} (h:W8 x):VI x=Z5R x:=by
 rw [Z7A x h.1]
 unfold Z5R
 rw [Xy (h.get 0),Xy (h.get 1),Xy (h.get 2),Xy (h.get 3),Xy (h.get 4),Xy (h.get 5),Xy (h.get 6),Xy (h.get 7)]
theorem Xz (n:Nat) (i:Nat) (hi:i<8):Ze1 n i=u8.wrap (Zt .u64 (u64.wrap (u64.wrap n*8)) ((56-8*i:Nat):Int)):=by
 unfold Ze1
 have e1:i64.wrap (8*(i:Int))=8*(i:Int):=w64 (by omega)
 have e2:i64.wrap (56-8*(i:Int))=((56-8*i:Nat):Int):=by rw [w64 (by omega)];omega
 have e3:u64.wrap ((56-8*i:Nat):Int)=((56-8*i:Nat):Int):=by rw [Zef];omega
 rw [e1,e2,e3]
 obtain ⟨m,hm⟩:∃m:Nat,u64.wrap (u64.wrap n*8)=m:=⟨(u64.wrap (u64.wrap n*8)).toNat,by rw [Zef,Zef];omega⟩
 rw [hm,Z61 m _ (by omega)]
 generalize m/2^(56-8*i)=q
 rw [tm (by omega),wr8,wr8]
 omega
theorem Z9W (n:Nat):XQ n 8=len8 n:=by
 simp only [XQ,List.nil_append,List.cons_append]
 unfold len8 UX
 rw [Xz n 0 (by omega),Xz n 1 (by omega),Xz n 2 (by omega),Xz n 3 (by omega),Xz n 4 (by omega),Xz n 5 (by omega),Xz n 6 (by omega),Xz n 7 (by omega)]
 rfl
theorem Z9X (n:Nat) (h:n≤100000000000):[128]++Z14 n=UH n:=by
 unfold Z14 UH
 have e1:Int.tmod (n:Int) 64=(n:Int)%64:=tm (by omega)
 have e2:i64.wrap (119-(n:Int)%64)=119-(n:Int)%64:=w64 (by omega)
 rw [Ze3 n h,e1,e2,tm (by omega)]
 congr 2
 omega
theorem ZbM (bs:List Int) (h:bs.length≤100000000000):U9 bs=Z0m bs:=by
 unfold U9 Z0m
 rw [Z9W,List.append_assoc bs,Z9X _ h]
theorem Z3Z (P:List Int→List Int→List Int) (ys:List Int):∀i,UI P ys i=UJ P i X7.st ys
 | 0=>Z3T P ys
 | i+1=>by rw [Z3U,Z0l,Z3Z P ys i]
theorem Z8B:∀(n:Nat) (st ms:List Int),W8 st→W8 (UJ W3 n st ms)
 | 0,_,_,h=>h
 | n+1,st,_,h=>Z8B n _ _ (Z5Z st _ h.1)
@[irreducible] def Wk (bs:List Int):List Int:=ZbG XK bs
theorem Z62 (bs:List Int):(Wk bs).length=32:=by unfold Wk ZbG;exact Z9V _
theorem Z8C {bs:List Int} (h:∀x∈bs,U8 x) (hl:bs.length≤100000000000):Wk bs=Zo bs:=by
 unfold Wk ZbG
 rw [Z3Z,ZbM bs hl,Z2F _ _ _ Z60 (Z9U h),Z7B (Z8B _ _ _ Z60),ZbJ]
 rfl
theorem Z40 (xs:List Int) (h:xs.length≤100000000000):Zw PP 102 [.vints .u8 xs xs.length] (.agg [.arr .u8 32 (Wk xs)]) 0 []:=by
 unfold Wk
 exact Z9P Zee xs h
end Go.Tk
end
section
namespace Go.Tk
open IntKind (i64 u8 u32 u64 wrap)
end Go.Tk
end
section
namespace Go.Tk
open IntKind (i64 u8 u32 u64 wrap)
end Go.Tk
end
section
namespace Go.Tk
open IntKind (i64 u8 u32 u64 wrap)
theorem Bytes.u8 {xs:List Int} (h:Bytes xs):∀x∈xs,U8 x:=by
 intro x hx
 obtain ⟨i,hi,rfl⟩:=List.getElem_of_mem hx
 have:=h.h i
 rw [List.getD_eq_getElem?_getD,List.getElem?_eq_getElem hi] at this
 simp at this
 unfold U8
 omega
end Go.Tk
end
section
namespace Go.Tk
open IntKind (i64 u8 u32 u64 wrap)
structure Yz where
 fund:List Int
 index:Int
 cap:Int
 dust:Int
 fee:Int
 delay:Int
 k0:List Int
 k1:List Int
def Yz.c (t:Yz):List AV:=[.arr .u8 32 t.fund,.int .i64 t.index,.int .i64 t.cap,.int .i64 t.dust,.int .i64 t.fee,.int .i64 t.delay,.arr .u8 32 t.k0,.arr .u8 32 t.k1]
structure Yz.Ok (t:Yz):Prop where
 k0:t.k0.length=32
 k1:t.k1.length=32
 b0:Bytes t.k0
 b1:Bytes t.k1
def XM (t:Yz):Bool:=decide (0≤t.index∧t.index≤23)&&decide (1000≤t.cap∧t.cap≤1125899906842624)&&decide (1≤t.dust∧t.dust≤500)&&decide (0≤t.fee∧t.fee≤400)&&decide (1≤t.delay∧t.delay≤1000)&&(t.k0 !=t.k1)
theorem Ub (b:Bool) (x y:Prop):Z0 b x y=((b=true→x)∧(b=false→y)):=by cases b<;>simp [Z0]
theorem Zi6 (n a b:Int) (r:Bool) (hr:r=decide (a≤n∧n≤b)):
  evF G0 20 74 [.int .i64 n,.int .i64 a,.int .i64 b] ⟨0,[]⟩ (Y8 (fun v=>v=.bool r)):=by
 refine @Eq.mpr _ (Z0 (decide (a≤n)) (AV.bool (decide (n≤b))=AV.bool r) (AV.bool false=AV.bool r)) (by kernel_rfl) ?_
 simp only [Ub]
 subst hr
 by_cases h1:a≤n<;>by_cases h2:n≤b<;>simp [h1,h2]
def inQ:ZN:=fun args _ K=>match args with
 | [.int .i64 n,.int .i64 a,.int .i64 b]=>K (.bool (decide (a≤n∧n≤b)))
 | _=>False
theorem Zh3 (args:List AV) (h:Z9) (K:AV→Prop) (hl:inQ args h K):Zm PP 74 args h fun o h'=>∃v,o=.ret v∧h'=h∧K v:=by
 unfold inQ at hl
 split at hl
 ·exact Yc Zr rfl (Zi6 _ _ _ _ rfl) (fun u hu=>hu▸hl)
 ·exact hl.elim
noncomputable def E71:Zf:=G0.withP 74 inQ
theorem Zh4:E71.Ok:=Zf.withP_ok Zr Zh3
theorem Zi7 (t:Yz) (e:Int) (ht:t.Ok) (he:e=if XM t=true then 0 else 2):
  evF E71 20 72 [.agg t.c] ⟨0,[]⟩ (Y8 (fun v=>v=.int .i64 e)):=by
 refine @Eq.mpr _ (let q1:=AV.int i64 2=AV.int i64 e;
 Z0 (decide (List.length t.k0=32∧List.length t.k1=32)) (Z0 (false==decide (0≤t.index∧t.index≤23)) q1 (Z0 (false==decide (1000≤t.cap∧t.cap≤1125899906842624)) q1 (Z0 (false==decide (1≤t.dust∧t.dust≤500)) q1 (Z0 (false==decide (0≤t.fee∧t.fee≤400)) q1 (Z0 (false==decide (1≤t.delay∧t.delay≤1000)) q1 (Z0 (false== !t.k0==t.k1) q1 (AV.int i64 0=AV.int i64 e))))))) False) (by kernel_rfl) ?_
 conv=>zeta
 try simp only [Zg]
 try simp only [Zi]
 try simp only [Zh]
 try simp only [Zj]
 try simp only [Zk]
 try simp only [Ze]
 try simp only [Int.toNat_natCast,Nat.zero_add,true_and,and_true,Nat.le_refl]
 unfold XM at he
 refine ⟨⟨ht.k0,ht.k1⟩, ?_⟩
 generalize decide (0≤t.index∧t.index≤23)=c1 at*
 generalize decide (1000≤t.cap∧t.cap≤1125899906842624)=c2 at*
 generalize decide (1≤t.dust∧t.dust≤500)=c3 at*
 generalize decide (0≤t.fee∧t.fee≤400)=c4 at*
 generalize decide (1≤t.delay∧t.delay≤1000)=c5 at*
 have h6:(t.k0 !=t.k1)= !(t.k0==t.k1):=rfl
 rw [h6] at he
 generalize (t.k0==t.k1)=c6 at*
 cases c1<;>cases c2<;>cases c3<;>cases c4<;>cases c5<;>cases c6<;>simp_all
theorem Zi8 (t:Yz) (b:Bool) (ht:t.Ok) (hb:b=XM t):
  evF G0 20 93 [.agg t.c] ⟨0,[]⟩ (Y8 (fun v=>v=.bool b)):=by
 refine @Eq.mpr _ (let q1:=t.cap;
 let q2:=AV.bool false=AV.bool b;
 Z0 (decide (t.index≥0)) (Z0 (decide (t.index<24)) (Z0 (decide (q1≥1000)) (Z0 (decide (q1≥0)) (Z0 (decide (q1≤1125899906842624)) (Z0 (decide (t.dust≥1)) (Z0 (decide (t.dust≤500)) (Z0 (decide (t.fee≥0)) (Z0 (decide (t.fee≤400)) (Z0 (decide (t.delay≥1)) (Z0 (decide (t.delay≤1000)) (Z0 (decide (List.length t.k0=32∧List.length t.k1=32)) ((AV.bool !t.k0==t.k1)=AV.bool b) False) q2) q2) q2) q2) q2) q2) q2) q2) q2) q2) q2) (by kernel_rfl) ?_
 conv=>zeta
 try simp only [Zg]
 try simp only [Zi]
 try simp only [Zh]
 try simp only [Zj]
 try simp only [Zk]
 try simp only [Ze]
 try simp only [Int.toNat_natCast,Nat.zero_add,true_and,and_true,Nat.le_refl]
 subst hb
 unfold XM
 repeat' (first|(refine And.intro ?_ ?_)|intro _|fail)
 all_goals first
  | exact ht.k0
  | exact ht.k1
  | (congr 1;symm;rw [Bool.eq_false_iff];simp only [ne_eq,Bool.and_eq_true,decide_eq_true_eq];intro h;omega)
  | (congr 1;have h1:(0≤t.index∧t.index≤23):=(by omega);have h2:(1000≤t.cap∧t.cap≤1125899906842624):=(by omega);have h3:(1≤t.dust∧t.dust≤500):=(by omega);have h4:(0≤t.fee∧t.fee≤400):=(by omega);have h5:(1≤t.delay∧t.delay≤1000):=(by omega);rw [decide_eq_true h1,decide_eq_true h2,decide_eq_true h3,decide_eq_true h4,decide_eq_true h5];rfl)
def ZbN:ZN:=fun args _ K=>match args with
 | [.agg [.arr .u8 32 fu,.int .i64 ix,.int .i64 ca,.int .i64 du,.int .i64 fe,.int .i64 de,.arr .u8 32 k0,.arr .u8 32 k1]]=>(Yz.Ok ⟨fu,ix,ca,du,fe,de,k0,k1⟩)∧K (.int .i64 (if XM ⟨fu,ix,ca,du,fe,de,k0,k1⟩=true then 0 else 2))
 | _=>False
theorem ZbO (args:List AV) (h:Z9) (K:AV→Prop) (hl:ZbN args h K):Zm PP 72 args h fun o h'=>∃v,o=.ret v∧h'=h∧K v:=by
 unfold ZbN at hl
 split at hl
 ·obtain ⟨ht,hK⟩:=hl
  exact Yc Zh4 rfl (Zi7 ⟨_,_,_,_,_,_,_,_⟩ _ ht rfl) (fun u hu=>hu▸hK)
 ·exact hl.elim
def Z7C:ZN:=fun args _ K=>match args with
 | [.agg [.arr .u8 32 fu,.int .i64 ix,.int .i64 ca,.int .i64 du,.int .i64 fe,.int .i64 de,.arr .u8 32 k0,.arr .u8 32 k1]]=>(Yz.Ok ⟨fu,ix,ca,du,fe,de,k0,k1⟩)∧K (.bool (XM ⟨fu,ix,ca,du,fe,de,k0,k1⟩))
 | _=>False
theorem Z9Y (args:List AV) (h:Z9) (K:AV→Prop) (hl:Z7C args h K):Zm PP 93 args h fun o h'=>∃v,o=.ret v∧h'=h∧K v:=by
 unfold Z7C at hl
 split at hl
 ·obtain ⟨ht,hK⟩:=hl
  exact Yc Zr rfl (Zi8 ⟨_,_,_,_,_,_,_,_⟩ _ ht rfl) (fun u hu=>hu▸hK)
 ·exact hl.elim
end Go.Tk
end
section
namespace Go.Tk
open IntKind (i64 u8 u32 u64 wrap)
structure Z5 where
 own:Bool
 id:Int
 amount:Int
 hash:List Int
 expiry:Int
 stage:Int
 fin:Int
 secret:List Int
def Z5.c (h:Z5):List AV:=[.bool h.own,.int .i64 h.id,.int .i64 h.amount,.arr .u8 32 h.hash,.int .i64 h.expiry,.int .i64 h.stage,.int .i64 h.fin,.arr .u8 32 h.secret]
structure Z5.Ok (h:Z5):Prop where
 hash:h.hash.length=32
 hb:Bytes h.hash
 secret:h.secret.length=32
 sb:Bytes h.secret
def Z7:Z5:=⟨false,0,0,Zd,0,0,0,Zd⟩
def Z4 (L:List Z5) (i:Nat):List AV:=(L.getD i Z7).c
structure Z6 where
 t:Yz
 side:Int
 res:Int
 a0:Int
 a1:Int
 i0:Int
 i1:Int
 L:List Z5
def Z6.c (X:Z6) (l:AV):List AV:=X.t.c++[.int .i64 X.side,.int .i64 X.res,.arr .i64 2 [X.a0,X.a1],.arr .i64 2 [X.i0,X.i1],l]
def ZP (side:Int) (own:Bool):Int:=match own with|true=>side|false=>1-side
def Z6.nx (X:Z6) (own:Bool):Int:=match own with|true=>X.i0|false=>X.i1
def Z6.am (X:Z6) (s:Int):Int:=if s=0 then X.a0 else X.a1
def ZQ (side s:Int) (L:List Z5):List Z5:=L.filter fun h=>decide (ZP side h.own=s)
def XB (L:List Z5):List Int:=L.map (·.amount)
def Y1 (X:Z6) (s:Int):Int:=X.am s-(XB (ZQ X.side s X.L)).sum-X.res-(if s=0 then X.t.fee else 0)
def Yo (h:Z5):Bool:=decide (0≤h.id∧h.id≤2147483647)&&decide (1≤h.amount∧h.amount≤1125899906842624)&&decide (1≤h.expiry∧h.expiry≤2147483647)
def Z0n (H:List Int→List Int) (h:Z5):Bool:=if h.fin=0 then decide (h.stage<6)&&(h.secret==Zd) else if h.fin=1 then decide (6≤h.stage)&&(H h.secret==h.hash) else if h.fin=2 then decide (6≤h.stage)&&(h.secret==Zd) else false
def XN (H:List Int→List Int) (X:Z6) (h:Z5):Bool:=Yo h&&decide (h.id<X.nx h.own)&&decide (1≤h.stage∧h.stage≤9)&&Z0n H h
def Xo (a b:Z5):Prop:=(a.own=true∧b.own=false)∨(a.own=b.own∧a.id<b.id∧min b.stage 5≤min a.stage 5)
instance (a b:Z5):Decidable (Xo a b):=by unfold Xo;infer_instance
def XO (H:List Int→List Int) (X:Z6) (i:Nat):Bool:=XN H X (X.L.getD i Z7)&&(Nat.beq i 0||decide (Xo (X.L.getD (i-1) Z7) (X.L.getD i Z7)))
def Z63 (X:Z6):Bool:=XM X.t&&decide (0≤X.side∧X.side≤1)&&decide (0≤X.res∧X.res≤X.t.cap/10)&&decide (0≤X.a0∧X.a0≤X.t.cap)&&decide (X.a1=X.t.cap-X.a0)&&decide (0≤X.i0∧X.i0≤2147483648)&&decide (0≤X.i1∧X.i1≤2147483648)&&decide ((ZQ X.side 0 X.L).length≤8)&&decide ((ZQ X.side 1 X.L).length≤8)
def Yp (H:List Int→List Int) (X:Z6):Bool:=Z63 X&&(List.range X.L.length).all (XO H X)&&decide (0≤Y1 X 0)&&(decide ((ZQ X.side 1 X.L).length=0)||decide (0≤Y1 X 1))
theorem Z7D {a b c:Z5} (h1:Xo a b) (h2:Xo b c):Xo a c:=by
 unfold Xo at*
 rcases h1 with ⟨p1,p2⟩|⟨p1,p2,p3⟩<;>rcases h2 with ⟨q1,q2⟩|⟨q1,q2,q3⟩
 ·rw [p2] at q1;cases q1
 ·exact .inl ⟨p1,by rw [←q1,p2]⟩
 ·exact .inl ⟨by rw [p1,q1],q2⟩
 ·exact .inr ⟨p1.trans q1,by omega,by omega⟩
theorem VJ {α:Type} {R:α→α→Prop} (ht:∀{a b c},R a b→R b c→R a c) (d:α):∀(L:List α),(∀i,i+1<L.length→R (L.getD i d) (L.getD (i+1) d))→L.Pairwise R
 | [],_=>.nil
 | [a],_=>by simp
 | a::b::r,h=>by
  have ih:=VJ (R:=R) ht d (b::r) fun i hi=>by
   have:=h (i+1) (by simpa using hi)
   rw [List.getD_cons_succ,List.getD_cons_succ] at this
   exact this
  refine List.pairwise_cons.2 ⟨fun z hz=> ?_,ih⟩
  have hab:R a b:=by simpa using h 0 (by simp)
  rcases List.mem_cons.1 hz with rfl|hz
  ·exact hab
  ·exact ht hab ((List.pairwise_cons.1 ih).1 z hz)
structure Z6.Inv (H:List Int→List Int) (X:Z6):Prop where
 tok:X.t.Ok
 tb:XM X.t=true
 side:X.side=0∨X.side=1
 res:0≤X.res∧X.res≤X.t.cap/10
 a0:0≤X.a0∧X.a0≤X.t.cap
 a1:X.a1=X.t.cap-X.a0
 i0:0≤X.i0∧X.i0≤2147483648
 i1:0≤X.i1∧X.i1≤2147483648
 n0:(ZQ X.side 0 X.L).length≤8
 n1:(ZQ X.side 1 X.L).length≤8
 und:∀h∈X.L,XN H X h=true
 fol:X.L.Pairwise Xo
 ov0:0≤Y1 X 0
 ov1:ZQ X.side 1 X.L=[]∨0≤Y1 X 1
 ok:∀h∈X.L,h.Ok
theorem Z0o {X:Z6}:Z63 X=true↔XM X.t=true∧(0≤X.side∧X.side≤1)∧(0≤X.res∧X.res≤X.t.cap/10)∧(0≤X.a0∧X.a0≤X.t.cap)∧X.a1=X.t.cap-X.a0∧(0≤X.i0∧X.i0≤2147483648)∧(0≤X.i1∧X.i1≤2147483648)∧(ZQ X.side 0 X.L).length≤8∧(ZQ X.side 1 X.L).length≤8:=by
 unfold Z63
 simp only [Bool.and_eq_true,decide_eq_true_eq,and_assoc]
theorem Ql {H:List Int→List Int} {X:Z6}:Yp H X=true↔Z63 X=true∧(∀i,i<X.L.length→XO H X i=true)∧0≤Y1 X 0∧((ZQ X.side 1 X.L).length=0∨0≤Y1 X 1):=by
 unfold Yp
 simp only [Bool.and_eq_true,Bool.or_eq_true,decide_eq_true_eq,and_assoc,List.all_eq_true,List.mem_range]
theorem Zz {L:List Z5} {i:Nat} (h:i<L.length):L.getD i Z7∈L:=by
 rw [List.getD_eq_getElem?_getD,List.getElem?_eq_getElem h];exact List.getElem_mem h
theorem Z8D {H:List Int→List Int} {X:Z6} (ht:X.t.Ok) (hok:∀h∈X.L,h.Ok):Yp H X=true↔X.Inv H:=by
 rw [Ql,Z0o]
 constructor
 ·rintro ⟨⟨h1,h2,h3,h4,h5,h6,h7,h8,h9⟩,hl,h10,h11⟩
  refine ⟨ht,h1,by omega,h3,h4,h5,h6,h7,h8,h9,fun h hh=> ?_, ?_,h10, ?_,hok⟩
  ·obtain ⟨i,hi,rfl⟩:=List.getElem_of_mem hh
   have:=hl i hi
   unfold XO at this
   simp only [Bool.and_eq_true] at this
   rw [List.getD_eq_getElem?_getD,List.getElem?_eq_getElem hi] at this
   exact this.1
  ·refine VJ (R:=Xo) Z7D Z7 X.L fun i hi=> ?_
   have:=hl (i+1) hi
   unfold XO at this
   simp only [Bool.and_eq_true,Bool.or_eq_true,decide_eq_true_eq,Nat.add_sub_cancel] at this
   rcases this.2 with h|h
   ·have:=Nat.eq_of_beq_eq_true h;omega
   ·exact h
  ·rcases h11 with h|h
   ·exact .inl (List.eq_nil_of_length_eq_zero h)
   ·exact .inr h
 ·intro h
  refine ⟨⟨h.tb,by have:=h.side;omega,h.res,h.a0,h.a1,h.i0,h.i1,h.n0,h.n1⟩,fun i hi=> ?_,h.ov0, ?_⟩
  ·unfold XO
   simp only [Bool.and_eq_true,Bool.or_eq_true,decide_eq_true_eq]
   refine ⟨h.und _ (Zz hi), ?_⟩
   cases i with
   | zero=>exact .inl rfl
   | succ i=>
    right
    rw [Nat.add_sub_cancel,List.getD_eq_getElem?_getD,List.getD_eq_getElem?_getD,List.getElem?_eq_getElem hi,List.getElem?_eq_getElem (by omega)]
    exact (List.pairwise_iff_getElem.1 h.fol) i (i+1) (by omega) hi (by omega)
  ·rcases h.ov1 with h|h
   ·exact .inl (by rw [h];rfl)
   ·exact .inr h
def Xm (own:Bool) (s:Int):Int:=if s<1∨9<s∨s=5 then 0 else match own with
 | true=>if s<5 then s else (s-4)%4+1
 | false=>if s<5 then (s+1)%4+1 else s-5
def ZT (own:Bool) (s m:Int):Int:=if Xm own s=m then s+1 else s
def X5 (own:Bool) (s:Int) (ours:Bool):Bool:=if own=ours then decide (4≤s∧s≤6) else decide (2≤s∧s≤8)
def Yu (own:Bool) (s:Int):Int:=if s<1∨10<s∨(own=false∧s=1) then 0 else if own=true∧s=6 then 5 else s
def Xe (h:Z5):List Z5→List Z5
 | []=>[h]
 | x::r=>if h.own=true∧x.own=false then h::x::r else x::Xe h r
def YZ (X:Z6) (own:Bool) (id am:Int) (hash:List Int) (ex:Int):Z5:=⟨own,id,am,hash,ex,1,0,Zd⟩
def Xp (X:Z6) (own:Bool) (id am:Int) (hash:List Int) (ex:Int):Int:=
 if Yo (YZ X own id am hash ex)=false then 2 else if id≠X.nx own then 200 else if 8≤(ZQ X.side (ZP X.side own) X.L).length then 201 else if Y1 X (ZP X.side own)<am then 202 else 0
def Xq (X:Z6) (own:Bool) (d:Int):Z6:=match own with
 | true=>{ X with i0:=X.i0+d}
 | false=>{ X with i1:=X.i1+d}
def addX (X:Z6) (own:Bool) (id am:Int) (hash:List Int) (ex:Int):Z6:=if Xp X own id am hash ex=0 then { Xq X own 1 with L:=Xe (YZ X own id am hash ex) X.L} else X
def ZB (own:Bool) (id:Int):List Z5→Nat
 | []=>0
 | x::r=>if x.own=own∧x.id=id then 0 else ZB own id r+1
def YY (H:List Int→List Int) (X:Z6) (own:Bool) (id k:Int) (sec:List Int):Int:=
 if X.L.length≤ZB own id X.L then 5 else if (X.L.getD (ZB own id X.L) Z7).stage≠5 then 190 else if k=1∧H sec≠(X.L.getD (ZB own id X.L) Z7).hash then 203 else 0
def VK (h:Z5) (k:Int) (sec:List Int):Z5:={ h with stage:=6,fin:=k,secret:=sec}
def endX (H:List Int→List Int) (X:Z6) (own:Bool) (id k:Int) (sec:List Int):Z6:=if YY H X own id k sec=0 then { X with L:=X.L.set (ZB own id X.L) (VK (X.L.getD (ZB own id X.L) Z7) k sec)} else X
def stH (m:Int) (h:Z5):Z5:={ h with stage:=ZT h.own h.stage m}
def Yh (m:Int) (L:List Z5):List Z5:=(L.map (stH m)).filter fun h=>decide (h.stage≠10)
def ZR (m:Int) (L:List Z5):List Z5:=(L.map (stH m)).filter fun h=>decide (h.stage=10)
def Yi (m:Int) (L:List Z5):List Z5:=(L.filter fun h=>decide (h.stage=4∧Xm h.own 4=m)).map (stH m)
def XP (side:Int) (p:Int×Int) (h:Z5):Int×Int:=if h.fin=1 then (if ZP side h.own=0 then (p.1-h.amount,p.2+h.amount) else (p.1+h.amount,p.2-h.amount)) else p
def QO (m side:Int) (p:Int×Int) (L:List Z5):Int×Int:=(ZR m L).foldl (XP side) p
def stpX (X:Z6) (m:Int):Z6:=if 1≤m∧m≤4 then { X with L:=Yh m X.L,a0:=(QO m X.side (X.a0,X.a1) X.L).1,a1:=(QO m X.side (X.a0,X.a1) X.L).2} else X
def brH (h:Z5):Z5:=if Yu h.own h.stage=5 then { h with stage:=5,fin:=0,secret:=Zd} else { h with stage:=Yu h.own h.stage}
def Yg (L:List Z5):List Z5:=(L.filter fun h=>decide (Yu h.own h.stage≠0)).map brH
def ZD (L:List Z5):List Z5:=L.filter fun h=>decide (Yu h.own h.stage=0)
def brkX (X:Z6):Z6:={ X with L:=Yg X.L,i1:=X.i1-(ZD X.L).length}
def Wa (L:List Z5):Bool:=L.any fun h=>decide (Xm h.own h.stage=1)
end Go.Tk
end
section
namespace Go.Tk
open IntKind (i64 u8 u32 u64 wrap)
theorem Zi9 (n a b:Int) (r:Bool) (hr:r=decide (a≤n∧n≤b)):
  evF G0 20 68 [.int .i64 n,.int .i64 a,.int .i64 b] ⟨0,[]⟩ (Y8 (fun v=>v=.bool r)):=by
 refine @Eq.mpr _ (Z0 (decide (a≤n)) (AV.bool (decide (n≤b))=AV.bool r) (AV.bool false=AV.bool r)) (by kernel_rfl) ?_
 simp only [Ub]
 subst hr
 by_cases h1:a≤n<;>by_cases h2:n≤b<;>simp [h1,h2]
theorem Zia (n a b:Int) (r:Bool) (hr:r=decide (a≤n∧n≤b)):
  evF G0 20 78 [.int .i64 n,.int .i64 a,.int .i64 b] ⟨0,[]⟩ (Y8 (fun v=>v=.bool r)):=by
 refine @Eq.mpr _ (Z0 (decide (a≤n)) (AV.bool (decide (n≤b))=AV.bool r) (AV.bool false=AV.bool r)) (by kernel_rfl) ?_
 simp only [Ub]
 subst hr
 by_cases h1:a≤n<;>by_cases h2:n≤b<;>simp [h1,h2]
theorem Zib (n a b:Int) (r:Bool) (hr:r=decide (a≤n∧n≤b)):
  evF G0 20 149 [.int .i64 n,.int .i64 a,.int .i64 b] ⟨0,[]⟩ (Y8 (fun v=>v=.bool r)):=by
 refine @Eq.mpr _ (Z0 (decide (a≤n)) (AV.bool (decide (n≤b))=AV.bool r) (AV.bool false=AV.bool r)) (by kernel_rfl) ?_
 simp only [Ub]
 subst hr
 by_cases h1:a≤n<;>by_cases h2:n≤b<;>simp [h1,h2]
theorem Zic (n a b:Int) (r:Bool) (hr:r=decide (a≤n∧n≤b)):
  evF G0 20 86 [.int .i64 n,.int .i64 a,.int .i64 b] ⟨0,[]⟩ (Y8 (fun v=>v=.bool r)):=by
 refine @Eq.mpr _ (Z0 (decide (a≤n)) (AV.bool (decide (n≤b))=AV.bool r) (AV.bool false=AV.bool r)) (by kernel_rfl) ?_
 simp only [Ub]
 subst hr
 by_cases h1:a≤n<;>by_cases h2:n≤b<;>simp [h1,h2]
theorem Z1n (args:List AV) (h:Z9) (K:AV→Prop) (hl:inQ args h K):Zm PP 68 args h fun o h'=>∃v,o=.ret v∧h'=h∧K v:=by
 unfold inQ at hl
 split at hl
 ·exact Yc Zr rfl (Zi9 _ _ _ _ rfl) (fun u hu=>hu▸hl)
 ·exact hl.elim
theorem QP (args:List AV) (h:Z9) (K:AV→Prop) (hl:inQ args h K):Zm PP 78 args h fun o h'=>∃v,o=.ret v∧h'=h∧K v:=by
 unfold inQ at hl
 split at hl
 ·exact Yc Zr rfl (Zia _ _ _ _ rfl) (fun u hu=>hu▸hl)
 ·exact hl.elim
theorem QQ (args:List AV) (h:Z9) (K:AV→Prop) (hl:inQ args h K):Zm PP 149 args h fun o h'=>∃v,o=.ret v∧h'=h∧K v:=by
 unfold inQ at hl
 split at hl
 ·exact Yc Zr rfl (Zib _ _ _ _ rfl) (fun u hu=>hu▸hl)
 ·exact hl.elim
theorem QR (args:List AV) (h:Z9) (K:AV→Prop) (hl:inQ args h K):Zm PP 86 args h fun o h'=>∃v,o=.ret v∧h'=h∧K v:=by
 unfold inQ at hl
 split at hl
 ·exact Yc Zr rfl (Zic _ _ _ _ rfl) (fun u hu=>hu▸hl)
 ·exact hl.elim
noncomputable def Z4X (G:Zf):Zf:=(((G.withP 68 inQ).withP 78 inQ).withP 149 inQ).withP 86 inQ
noncomputable def Zh5:Zf:=Z4X G0
theorem Z8E:Zh5.Ok:=Zf.withP_ok (Zf.withP_ok (Zf.withP_ok (Zf.withP_ok Zr Z1n) QP) QQ) QR
theorem Zk2 (p:Z5) (b:Bool) (hb:b=Yo p):
  evF Zh5 20 81 [.agg p.c] ⟨0,[]⟩ (Y8 (fun v=>v=.bool b)):=by
 refine @Eq.mpr _ (let q1:=AV.bool false=AV.bool b;
 Z0 (decide (0≤p.id∧p.id≤2147483647)) (Z0 (decide (1≤p.amount∧p.amount≤1125899906842624)) (AV.bool (decide (1≤p.expiry∧p.expiry≤2147483647))=AV.bool b) q1) q1) (by kernel_rfl) ?_
 conv=>zeta
 subst hb
 unfold Yo
 generalize decide (0≤p.id∧p.id≤2147483647)=c1
 generalize decide (1≤p.amount∧p.amount≤1125899906842624)=c2
 generalize decide (1≤p.expiry∧p.expiry≤2147483647)=c3
 cases c1<;>cases c2<;>cases c3<;>rfl
def Z4Y:ZN:=fun args _ K=>match args with
 | [.agg [.bool ow,.int .i64 id,.int .i64 am,.arr .u8 32 ha,.int .i64 ex,.int .i64 st,.int .i64 en,.arr .u8 32 se]]=>K (.bool (Yo ⟨ow,id,am,ha,ex,st,en,se⟩))
 | _=>False
theorem Z41 (args:List AV) (h:Z9) (K:AV→Prop) (hl:Z4Y args h K):Zm PP 81 args h fun o h'=>∃v,o=.ret v∧h'=h∧K v:=by
 unfold Z4Y at hl
 split at hl
 ·exact Yc Z8E rfl (Zk2 ⟨_,_,_,_,_,_,_,_⟩ _ rfl) (fun u hu=>hu▸hl)
 ·exact hl.elim
end Go.Tk
end
section
namespace Go.Tk
open IntKind (i64 u8 u32 u64 wrap)
theorem Xf (L:List Z5) (i:Nat):Yn (Z4 L i)=true:=rfl
theorem Zn {k:Nat} {τ:Ren} {n:Nat} {L:List Z5} {f:Nat→List AV} (h:∀i,i<n→f i=Z4 L i):Za k τ n (Z4 L) f:=
 Z3O h (fun i _=>Xf L i) (fun i _ v hv=>by
  simp only [Z4,Z5.c,List.mem_cons,List.not_mem_nil,or_false] at hv
  rcases hv with rfl|rfl|rfl|rfl|rfl|rfl|rfl|rfl<;>first|exact .inl rfl|exact .inr ⟨_,_,_,rfl⟩)
theorem Yt {f:Nat→List AV} {O:List Z5} {x:Z5} {c i:Nat} (hc:O.length=c) (hf:∀i,i<c→f i=Z4 O i) (hi:i<c+1):ZW c f (YC (Z5.c x) 0 70) i=Z4 (O++[x]) i:=by
 rcases Nat.lt_or_ge i c with h|h
 ·rw [Z4P h,hf i h]
  unfold Z4
  rw [List.getD_eq_getElem?_getD,List.getD_eq_getElem?_getD,List.getElem?_append_left (by omega)]
 ·have e:i=c:=by omega
  subst e
  rw [QK (Nat.le_refl _),Nat.sub_self]
  unfold Z4
  rw [List.getD_eq_getElem?_getD,List.getElem?_append_right (by omega),hc,Nat.sub_self]
  rfl
theorem Zw.evV {G:Zf} (hG:G.Ok) {n:Nat} {f:FuncId} {args:List AV} {v:AV} (h:evF G n f args ⟨0,[]⟩ (Y8 fun u=>u=v)):Zw G.P f args v 0 []:=by
 intro E w rs he hr
 refine (Z09 hG h E w rs he hr).mono ?_
 rintro e w' ⟨E₁,o,h',hK0,hev,hor⟩
 cases hor with
 | panic u r hr=>exact hK0.elim
 | ret u r hr=>
  unfold Y8 at hK0
  simp only at hK0
  split at hK0
  ·rename_i hu
   subst hK0
   refine ⟨E,r,rfl,⟨.refl E,⟨he.fresh,fun x B hx=>by simp [Z9.get,ZH] at hx,fun x B hx=>by simp [Z9.get,ZH] at hx,fun x y B B' b N N' hx=>by simp [Z9.get,ZH] at hx,fun a c hi=>hev.emb.imm a c (hev.le.imm a c hi),fun a c x B N _ hx=>by simp [Z9.get,ZH] at hx⟩,hev.size,hev.os,hev.tape,hev.output,hev.keep,fun b hb=> ?_,fun _ _ h=>h⟩,Zl.vplain (E:=E₁) (E':=E) (fun a c hi=>hev.imm a c hi) _ _ hu hr⟩
   obtain ⟨x,B,N,hx,_⟩:=hb
   simp [Z9.get,ZH] at hx
  ·exact hK0.elim
def YU (b:Bool) (x:Z5):List Z5:=match b with
 | true=>[x]
 | false=>[]
theorem Z0p {p:Z5→Bool} {L:List Z5} {i:Nat} (hi:i<L.length):(L.take (i+1)).filter p=(L.take i).filter p++YU (p (L.getD i Z7)) (L.getD i Z7):=by
 rw [List.take_succ_eq_append_getElem hi,List.filter_append,List.getD_eq_getElem?_getD,List.getElem?_eq_getElem hi]
 congr 1
theorem ZbP (x y:Prop):Z0 true x y=x:=rfl
theorem ZbQ (x y:Prop):Z0 false x y=y:=rfl
theorem Vm (c x y:Bool) (v:AV):Z0 c (AV.bool x=v) (AV.bool y=v)=(AV.bool (cond c x y)=v):=by cases c<;>rfl
theorem ZbR (c:Bool) (k:IntKind) (x y:Int) (v:AV):Z0 c (AV.int k x=v) (AV.int k y=v)=(AV.int k (cond c x y)=v):=by cases c<;>rfl
inductive LV (cs:List AV) (X:Z6):Prop where
 | a (h:cs=X.c (.vrows 70 X.L.length (Z4 X.L) X.L.length))
 | b (h1:X.L=[]) (h:cs=X.c .nilslice)
def YN (X:Z6):Prop:=0≤X.side∧X.side≤1
structure Z0q (X:Z6):Prop where
 n:X.L.length<1000
 am:∀h∈X.L,0≤h.amount∧h.amount≤1125899906842624
 a0: -1152921504606846976≤X.a0∧X.a0≤1152921504606846976
 a1: -1152921504606846976≤X.a1∧X.a1≤1152921504606846976
 res:0≤X.res∧X.res≤1152921504606846976
 fee:0≤X.t.fee∧X.t.fee≤1152921504606846976
def ZbS (H:List Int→List Int):ZN:=fun args h K=>ZO none h true 20 args fun a=>match a with
 | [.pview cs 0,.agg [.bool ow,.int .i64 id,.int .i64 am,.arr .u8 32 ha,.int .i64 ex,.int .i64 st,.int .i64 en,.arr .u8 32 se]]=>∃X,LV cs X∧Z5.Ok ⟨ow,id,am,ha,ex,st,en,se⟩∧K (.bool (XN H X ⟨ow,id,am,ha,ex,st,en,se⟩))
 | _=>False
def Zh6:ZN:=fun args _ K=>match args with
 | [.agg [.bool ow,.int .i64 id,.int .i64 am,.arr .u8 32 ha,.int .i64 ex,.int .i64 st,.int .i64 en,.arr .u8 32 se],.agg [.bool ow',.int .i64 id',.int .i64 am',.arr .u8 32 ha',.int .i64 ex',.int .i64 st',.int .i64 en',.arr .u8 32 se']]=>K (.bool (decide (Xo ⟨ow,id,am,ha,ex,st,en,se⟩ ⟨ow',id',am',ha',ex',st',en',se'⟩)))
 | _=>False
def Zh7:ZN:=fun args _ K=>match args with
 | [.agg [.bool ow,.int .i64 _,.int .i64 _,.arr .u8 32 _,.int .i64 _,.int .i64 _,.int .i64 _,.arr .u8 32 _],.pview [.pview cs 0] 0,.pview [.int .i64 s] 0]=>∃X,LV cs X∧YN X∧K (.bool (decide (ZP X.side ow=s)))
 | _=>False
def ZbT:Ye:=fun args h K=>ZO none h true 20 args fun a=>match a with
 | [.vrows 70 n f n',.func (.func 136) [] [.pview [.pview cs 0] 0,.pview [.int .i64 s] 0]]=>∃X,n'=n∧n=X.L.length∧f=Z4 X.L∧LV cs X∧YN X∧n<1000∧K (.ret (.nslice ⟨h.next,0,70,0,0⟩ 70 (ZQ X.side s X.L).length (ZQ X.side s X.L).length)) ⟨h.next+1,(h.next,.rows 70 (ZQ X.side s X.L).length (Z4 (ZQ X.side s X.L)))::h.bs⟩
 | [.nilslice,.func (.func 136) [] [.pview [.pview cs 0] 0,.pview [.int .i64 s] 0]]=>∃X,LV cs X∧YN X∧X.L=[]∧K (.ret (.nslice ⟨h.next,0,70,0,0⟩ 70 (ZQ X.side s X.L).length (ZQ X.side s X.L).length)) ⟨h.next+1,(h.next,.rows 70 (ZQ X.side s X.L).length (Z4 (ZQ X.side s X.L)))::h.bs⟩
 | _=>False
def Z2G:Ye:=fun args h K=>ZO none h true 20 args fun a=>match a with
 | [.pview cs 0,.int .i64 s]=>∃X,LV cs X∧YN X∧X.L.length<1000∧K (.ret (.nslice ⟨h.next,0,0,0,0⟩ 1 (ZQ X.side s X.L).length (ZQ X.side s X.L).length)) ⟨h.next+1,(h.next,.ints .i64 (XB (ZQ X.side s X.L)))::h.bs⟩
 | _=>False
def smS:ZN:=fun args h K=>ZO none h true 20 args fun a=>match a with
 | [.vints .i64 xs n]=>n=xs.length∧n<1000∧(∀x∈xs,0≤x∧x≤1125899906842624)∧K (.int .i64 xs.sum)
 | _=>False
def Zeg:ZN:=fun args h K=>ZO none h true 20 args fun a=>match a with
 | [.pview cs 0,.int .i64 s]=>∃X,LV cs X∧YN X∧(s=0∨s=1)∧Z0q X∧K (.int .i64 (Y1 X s))
 | _=>False
def Zid (H:List Int→List Int):ZN:=fun args h K=>ZO none h true 20 args fun a=>match a with
 | [.pview cs 0]=>∃X,LV cs X∧X.t.Ok∧(∀h∈X.L,h.Ok)∧X.L.length<1000∧K (.bool (Yp H X))
 | _=>False
def ZfN:ZN:=fun args h K=>ZO none h true 20 args fun a=>match a with
 | [.int .i64 s,.pview [.pview cs 0] 0]=>∃X,LV cs X∧YN X∧X.L.length<1000∧K (.bool (decide ((ZQ X.side s X.L).length≤8)))
 | _=>False
theorem Zs.last {E:Env} {v v':AV} (hv:∀k m xs,v≠.arr k m xs) (hc:v'.isCell=true) (h:∀c,Zl E v c→Zl E v' c):∀{l:List AV} {vs:List Value},Zs E (l++[v]) vs→Zs E (l++[v']) vs
 | [],vs,hl=>by
  obtain ⟨c,w,rfl,h0,h2,h3,ht⟩:=hl.cons_cell hv
  exact .one _ _ _ _ hc h2 (h _ h3) ht
 | a::r,vs,hl=>by
  by_cases ha:∃k m xs,a=.arr k m xs
  ·obtain ⟨k,m,xs,rfl⟩:=ha
   obtain ⟨w,rfl,ht⟩:=Zs.cons_arr (r:=r++[v]) hl
   exact .arr _ _ _ _ _ (Zs.last hv hc h ht)
  ·obtain ⟨c,w,rfl,h0,h2,h3,ht⟩:=Zs.cons_cell (r:=r++[v]) hl (fun k m xs e=>ha ⟨k,m,xs,e⟩)
   exact .one _ _ _ _ h0 h2 h3 (Zs.last hv hc h ht)
theorem Z6.c_eq (X:Z6) (l:AV):X.c l=(X.t.c++[.int .i64 X.side,.int .i64 X.res,.arr .i64 2 [X.a0,X.a1],.arr .i64 2 [X.i0,X.i1]])++[l]:=by unfold Z6.c;simp
theorem Z8F {cs:List AV} {X:Z6} (h:LV cs X) {E:Env} {vs:List Value} (hc:Zs E cs vs):Zs E (X.c (.vrows 70 X.L.length (Z4 X.L) X.L.length)) vs:=by
 rcases h with rfl|⟨h1,rfl⟩
 ·exact hc
 ·rw [Z6.c_eq] at*
  refine Zs.last (by intros;simp) rfl (fun c hc=> ?_) hc
  cases hc
  rw [h1]
  exact .vrowsNil _ _ _ _ rfl rfl
def XW (X:Z6):AV:=.pview (X.c (.vrows 70 X.L.length (Z4 X.L) X.L.length)) 0
theorem Xr {cs:List AV} {X:Z6} (h:LV cs X) {E:Env} {r:Value} (hc:Zl E (.pview cs 0) r):Zl E (XW X) r:=by
 cases hc with
 | pview cs inn a vs hc hi=>exact .pview _ 0 a vs (Z8F h hc) hi
theorem Z4Z {cs:List AV} {X:Z6} (h:LV cs X) {E:Env} {r:Value} (hc:Zl E (.pview [.pview cs 0] 0) r):Zl E (.pview [XW X] 0) r:=by
 cases hc with
 | pview cs inn a vs hc hi=>
  obtain ⟨c,w1,rfl,h0,h2,h3,hc⟩:=hc.cons_cell (by intros;simp)
  cases hc
  exact .pview _ 0 a _ (.one _ _ _ _ rfl h2 (Xr h h3) .nil) hi
end Go.Tk
end
section
namespace Go.Tk
open IntKind (i64 u8 u32 u64 wrap)
noncomputable def Zie (H1:List Int→List Int) (H2:List Int→List Int→List Int) (B:Nat):Zf:=(Z4X (G8 H1 H2 B)).withP 81 Z4Y
theorem Zeh:(Zie Zo Z3i 1000).Ok:=Zf.withP_ok (Zf.withP_ok (Zf.withP_ok (Zf.withP_ok (Zf.withP_ok (ZfJ 1000 (by decide)) Z1n) QP) QQ) QR) Z41
theorem ZbU (x k:Int) (A B:Bool):(if x=k then A else B)=cond (x==k) A B:=by
 by_cases h:x=k
 ·simp [h]
 ·rw [if_neg h,show (x==k)=false from by simpa using h];rfl
theorem Zh8 (x k:Int):decide (x≥k)= !decide (x<k):=by by_cases h:x<k<;>simp [h]<;>omega
theorem Zk3 (X:Z6) (p:Z5) (b:Bool) (H1:List Int→List Int) (H2:List Int→List Int→List Int) (B:Nat) (hok:p.Ok) (hB:32≤B) (hl:(H1 p.secret).length=32) (hb:b=XN H1 X p):
  evF (Zie H1 H2 B) 20 91 [XW X,.agg p.c] ⟨0,[]⟩ (Y8 (fun v=>v=.bool b)):=by
 refine @Eq.mpr _ (let q1:=p.secret;
 let q2:=List.length q1;
 let q3:=p.fin;
 let q4:=p.stage;
 let q5:=p.own;
 let q6:=p.id;
 let q7:=p.hash;
 let q8:=Yo (Z5.mk q5 q6 p.amount q7 p.expiry q4 q3 q1);
 let q9:=decide (q6=q6);
 let q10:=decide (q6<X.i0);
 let q11:=decide (1≤q4∧q4≤9);
 let q12:=AV.bool b;
 let q13:=AV.bool false=q12;
 let q14:=Z0 q11 (AV.bool (q1==Zd)=q12) q13;
 let q15:=decide (q6<X.i1);
 let q16:=Z0 q8 (Z0 q5 (Z0 q9 (Z0 q10 q14 q13) False) (Z0 q9 (Z0 q15 q14 q13) False)) q13;
 let q17:=Z0 q11 q13 q13;
 let q18:=Z0 q8 (Z0 q5 (Z0 q9 (Z0 q10 q17 q13) False) (Z0 q9 (Z0 q15 q17 q13) False)) q13;
 let q19:=decide (q4≥6);
 let q20:=H1 q1;
 let q21:=Z0 q11 (AV.bool (q20==q7)=q12) q13;
 Z0 (decide (q2=32∧(32:Nat)=32)) (Z0 (q3==0) (Z0 (decide (q4<6)) q16 q18) (Z0 (q3==1) (Z0 q19 (q7=q7∧Z0 (decide (q2=32)) (Z0 (decide (32=q2)) (Z0 (decide (q2≤B)) (Z0 (decide (List.length q20=32∧List.length q7=32)) (Z0 q8 (Z0 q5 (Z0 q9 (Z0 q10 q21 q13) False) (Z0 q9 (Z0 q15 q21 q13) False)) q13) False) False) False) False) q18) (Z0 (q3==2) (Z0 q19 q16 q18) q18))) False) (by kernel_rfl) ?_
 conv=>zeta
 have e0:Z5.mk p.own p.id p.amount p.hash p.expiry p.stage p.fin p.secret=p:=rfl
 rw [e0]
 subst hb
 simp only [hok.secret,hok.hash,hl,decide_true,and_self,ZbP,true_and,decide_eq_true hB,Vm]
 congr 1
 unfold XN Z0n Z6.nx
 simp only [ZbU,show (6≤p.stage)=(p.stage≥6) from rfl,Zh8]
 have es:(H1 p.secret==p.hash)=(H1 p.secret==p.hash):=rfl
 generalize (H1 p.secret==p.hash)=ch
 generalize (p.secret==Zd)=cz
 generalize Yo p=c1
 generalize decide (p.stage<6)=c6
 generalize decide (1≤p.stage∧p.stage≤9)=d2
 generalize (p.fin==0)=f0
 generalize (p.fin==1)=f1
 generalize (p.fin==2)=f2
 cases p.own
 ·simp only
  generalize decide (p.id<X.i0)=d0
  generalize decide (p.id<X.i1)=d1
  cases f0<;>cases f1<;>cases f2<;>cases c6<;>cases d1<;>cases d2<;>simp
 ·simp only
  generalize decide (p.id<X.i0)=d0
  generalize decide (p.id<X.i1)=d1
  cases f0<;>cases f1<;>cases f2<;>cases c6<;>cases d0<;>cases d2<;>simp
theorem Z9Z (args:List AV) (h:Z9) (K:AV→Prop) (hl:ZbS Zo args h K):Zm PP 91 args h fun o h'=>∃v,o=.ret v∧h'=h∧K v:=by
 refine Zw.psumm (d:=20) (Zq _ _ _ _ _ hl fun a ha=> ?_)
 split at ha
 ·obtain ⟨X,hX,ho,hK⟩:=ha
  exact ⟨_,(Zw.evV Zeh (Zk3 X ⟨_,_,_,_,_,_,_,_⟩ _ _ _ _ ho (by decide) (Vh _) rfl)).conv (fun E r hr=>hr.head (fun _ hc=>Xr hX hc) fun _ hc=>hc),fun _=>rfl,hK⟩
 ·exact ha.elim
end Go.Tk
end
section
namespace Go.Tk
open IntKind (i64 u8 u32 u64 wrap)
theorem Zk4 (s:Int):(if 5<s then 5 else s)=min s 5:=by split<;>omega
theorem Zk5 (p q:Z5) (b:Bool) (hb:b=decide (Xo p q)):
  evF Zh5 20 92 [.agg p.c,.agg q.c] ⟨0,[]⟩ (Y8 (fun v=>v=.bool b)):=by
 refine @Eq.mpr _ (let q1:=q.own;
 let q2:=p.id;
 let q3:=q2 !=q2;
 let q4:=q.id;
 let q5:=q4 !=q4;
 let q6:=AV.bool b;
 let q7:=AV.bool false=q6;
 let q8:=Z0 (!p.own==q1) (AV.bool true=q6) (AV.bool (decide ((if 5<p.stage then 5 else p.stage)≥if 5<q.stage then 5 else q.stage))=q6);
 let q9:=decide (q2<q4);
 let q10:=decide (q2>q4);
 let q11:=Z0 q10 q7 q7;
 let q12:=Z0 q3 (Z0 q5 q7 q8) (Z0 q5 q7 (Z0 q9 q8 q11));
 Z0 p.own (Z0 q1 q12 (Z0 q3 (Z0 q5 q8 q8) (Z0 q5 q8 (Z0 q9 q8 (Z0 q10 q8 q8))))) (Z0 q1 (Z0 q3 (Z0 q5 q7 q7) (Z0 q5 q7 (Z0 q9 q7 q11))) q12)) (by kernel_rfl) ?_
 conv=>zeta
 subst hb
 simp only [bne_self_eq_false,ZbQ,Vm,Zk4]
 congr 1
 refine Bool.eq_iff_iff.2 (Iff.trans (b:=Xo p q) ?_ decide_eq_true_iff.symm)
 unfold Xo
 cases p.own<;>cases q.own<;>by_cases h1:p.id<q.id<;>by_cases h2:q.id<p.id<;>simp [h1,h2]
theorem Zif (X:Z6) (p:Z5) (s:Int) (b:Bool) (hX:YN X) (hb:b=decide (ZP X.side p.own=s)):
  evF G0 20 136 [.agg p.c,.pview [XW X] 0,.pview [.int .i64 s] 0] ⟨0,[]⟩ (Y8 (fun v=>v=.bool b)):=by
 refine @Eq.mpr _ (let q1:=decide (s=s);
 Z0 p.own (Z0 q1 (AV.bool (X.side==s)=AV.bool b) False) (Z0 q1 (AV.bool (wrap i64 (1-X.side)==s)=AV.bool b) False)) (by kernel_rfl) ?_
 conv=>zeta
 obtain ⟨h1,h2⟩:=hX
 rw [decide_eq_true (rfl:s=s),w64 (by omega)]
 subst hb
 unfold ZP
 simp only [ZbP,Vm]
 cases p.own<;>rfl
theorem Zei (args:List AV) (h:Z9) (K:AV→Prop) (hl:Zh6 args h K):Zm PP 92 args h fun o h'=>∃v,o=.ret v∧h'=h∧K v:=by
 unfold Zh6 at hl
 split at hl
 ·exact Yc Z8E rfl (Zk5 ⟨_,_,_,_,_,_,_,_⟩ ⟨_,_,_,_,_,_,_,_⟩ _ rfl) (fun u hu=>hu▸hl)
 ·exact hl.elim
end Go.Tk
end
section
namespace Go.Tk
open IntKind (i64 u8 u32 u64 wrap)
theorem Zej (args:List AV) (h:Z9) (K:AV→Prop) (hl:Zh7 args h K):Zm PP 136 args h fun o h'=>∃v,o=.ret v∧h'=h∧K v:=by
 unfold Zh7 at hl
 split at hl
 ·rename_i ow id am ha ex st en se cs s
  obtain ⟨X,hX,hs,hK⟩:=hl
  have:=Yc (h:=h) Zr rfl (Zif X ⟨ow,id,am,ha,ex,st,en,se⟩ s _ hs rfl) (fun u hu=>hu▸hK)
  exact this.conv fun E r hr=>hr.head (fun _ hc=>hc) fun _ hr=>hr.head (fun _ hc=>Z4Z hX hc) fun _ hc=>hc
 ·exact hl.elim
noncomputable def Zh9:Zf:=G0.withP 136 Zh7
theorem Zek:Zh9.Ok:=Zf.withP_ok Zr Zej
def svC (X:Z6) (s:Int):AV:=.func (.func 136) [] [.pview [XW X] 0,.pview [.int .i64 s] 0]
def svS (X:Z6) (s:Int) (n i c:Nat) (O:List Z5):St:=⟨22,[(9,.int .i64 i),(8,.int .i64 n),(7,.vrows 70 n (Z4 X.L) n),(1,svC X s),(4,.nslice ⟨0,0,70,0,0⟩ 70 c c)],⟨1,[(0,.rows 70 c (Z4 O))]⟩,[]⟩
def svE (c:Nat) (O:List Z5):St:=⟨22,[(4,.nslice ⟨0,0,70,0,0⟩ 70 c c)],⟨1,[(0,.rows 70 c (Z4 O))]⟩,[]⟩
theorem Zk6 (X:Z6) (s:Int) (n i c c1:Nat) (O O1:List Z5) (Z1 Z2:Prop) (hn:n<1000) (hL:X.L.length=n) (hi:i≤n) (hO:O.length=c) (hci:c≤i) (hX:YN X) (h1:i<n→O1=O++YU (decide (ZP X.side (X.L.getD i Z7).own=s)) (X.L.getD i Z7)) (hc1:c1=O1.length) (hZ1:i<n→Z1) (hZ2:i=n→Z2):
  ZI Zh9 20 135 0 0 (svS X s n i c O) (rdM 0 0 9 (svS X s n (i+1) c1 O1) (svE c O) (svE c O) (svE c O) Z1 Z2 False False):=by
 refine @Eq.mpr _ (let q1:=X.L;
 let q2:=List.length q1;
 let q3:=Z4 q1;
 let q4:=Z6.c X (AV.vrows 70 q2 q3 q2);
 let q5:=List.getD q1 (Int.toNat (↑i:Int)) Z7;
 let q6:=q5.own;
 let q7:=decide (c=c);
 let q8:=c+1;
 let q9:=decide (wrap i64 ((↑i:Int)+1)=(↑(i+1):Int));
 let q10:=decide ((↑n:Int)=(↑n:Int));
 let q11:=decide (n=n);
 let q12:=q3=q3;
 let q13:=[AV.pview q4 0];
 let q14:=q13=q13;
 let q15:=[AV.int i64 s];
 let q16:=q15=q15;
 let q17:=decide (q8=c1);
 let q18:=Z4 O;
 let q19:=decide (c=c1);
 let q20:=[(0,0)];
 Z0 (decide ((↑i:Int)<(↑n:Int)))
 (Z0 (decide (0≤(↑i:Int)∧(↑i:Int)<(↑n:Int)))
 (∃(X:Z6),
 let q41:=X.side;
 LV q4 X∧(0≤q41∧q41≤1)∧Z0 (decide (ZP q41 q6=s)) (Z0 q7 (Z0 (decide (q8*112≤140737488355328)) (Z0 q9 (Z0 q10 (Z0 q11 (q12∧Z0 q11 (q14∧q16∧Z0 q17 (Z0 (decide (c1≤q8)) (Z0 q17 (Za 0 [(0,3)] c1 (Z4 O1) (ZW c q18 (YC [AV.bool q6,AV.int i64 q5.id,AV.int i64 q5.amount,AV.arr u8 32 q5.hash,AV.int i64 q5.expiry,AV.int i64 q5.stage,AV.int i64 q5.fin,AV.arr u8 32 q5.secret] 0 70))∧Z1) False) False) False) False) False) False) False) False) False) (Z0 q9 (Z0 q10 (Z0 q11 (q12∧Z0 q11 (q14∧q16∧Z0 q19 (Z0 (decide (c1≤c)) (Z0 q19 (Za 0 q20 c1 (Z4 O1) q18∧Z1) False) False) False) False) False) False) False))
 False)
 (Z0 q7 (Z0 (decide (c≤c)) (Z0 q7 (Za 0 q20 c q18 q18∧Z2) False) False) False)) (by kernel_rfl) ?_
 conv=>zeta
 try simp only [Zg]
 try simp only [Zi]
 try simp only [Zh]
 try simp only [Zj]
 try simp only [Zk]
 try simp only [Ze]
 try simp only [Int.toNat_natCast,Nat.zero_add,true_and,and_true,Nat.le_refl]
 refine ⟨fun hc=> ?_,fun hc=>⟨Zn fun _ _=>rfl,hZ2 (by omega)⟩⟩
 have hlt:i<n:=by omega
 have h1:=h1 hlt
 have hwr:i64.wrap ((i:Int)+1)=((i+1:Nat):Int):=by rw [w64 (by omega)];omega
 refine ⟨by omega,X,.a rfl,hX,fun hd=> ?_,fun hd=> ?_⟩
 ·rw [decide_eq_true hd] at h1
  have hl:c1=c+1:=by rw [hc1,h1];simp [YU,hO]
  subst hl
  subst h1
  have hR:Za 0 [(0,3)] (c+1) (Z4 (O++YU true (X.L.getD i Z7))) (ZW c (Z4 O) (YC (X.L.getD i Z7).c 0 70)):=Zn fun j hj=>Yt hO (fun _ _=>rfl) hj
  repeat' apply And.intro
  all_goals first|omega|exact hwr|exact hR|exact hZ1 hlt|rfl
 ·rw [decide_eq_false hd] at h1
  have hl:c1=c:=by rw [hc1,h1];simp [YU,hO]
  subst hl
  simp only [YU,List.append_nil] at h1
  subst h1
  repeat' apply And.intro
  all_goals first|omega|exact hwr|exact Zn fun _ _=>rfl|exact hZ1 hlt|rfl
def Uc (X:Z6) (s:Int) (i:Nat):List Z5:=ZQ X.side s (X.L.take i)
theorem Za0 (X:Z6) (s:Int) {i:Nat} (hi:i<X.L.length):Uc X s (i+1)=Uc X s i++YU (decide (ZP X.side (X.L.getD i Z7).own=s)) (X.L.getD i Z7):=Z0p hi
theorem Zel (X:Z6) (s:Int) (i:Nat):(Uc X s i).length≤i:=by
 refine Nat.le_trans (List.length_filter_le _ _) ?_
 rw [List.length_take];omega
theorem ZbV (X:Z6) (s:Int):Uc X s X.L.length=ZQ X.side s X.L:=by unfold Uc;rw [List.take_length]
noncomputable def ZfO (X:Z6) (s:Int) (n:Nat):Zf:=Zh9.withL 135 0 (goM 0 (svS X s n 0 0 []) (X.L.length=n∧n<1000∧YN X) (Ys 0 n 9 (fun i=>i<n) (fun i=>i=n) (fun _=>False) (fun _=>False) (fun i=>svE (Uc X s i).length (Uc X s i)) (fun i=>svE (Uc X s i).length (Uc X s i)) (fun i=>svE (Uc X s i).length (Uc X s i))))
theorem Z64 (X:Z6) (s:Int) (n:Nat):(ZfO X s n).Ok:=
 Zf.withGoM (N:=20) (S:=fun i=>svS X s n i (Uc X s i).length (Uc X s i)) Zek (by kernel_rfl) fun hC=>⟨by simp [Uc,ZQ],fun i hi _=>by
  obtain ⟨h1,h2,h3⟩:=hC
  exact Zk6 X s n i _ _ _ _ (i<n∧i<n) (i=n) h2 h1 hi rfl (Zel X s i) h3 (fun h=>Za0 X s (by omega)) rfl (fun h=>⟨h,h⟩) (fun h=>h)⟩
theorem Zig (X:Z6) (s:Int) (n c:Nat) (O:List Z5) (hL:X.L.length=n) (hn:n<1000) (hX:YN X) (hO:O=ZQ X.side s X.L) (hc:c=O.length):
  evF (ZfO X s n) 20 135 [.vrows 70 n (Z4 X.L) n,svC X s] ⟨0,[]⟩ (Y7 0 (.ret (.nslice ⟨0,0,70,0,0⟩ 70 c c)) 1 [(0,.rows 70 c (Z4 O))]):=by
 refine @Eq.mpr _ (let q1:=decide (n=n);
 let q2:=Z4 X.L;
 let q3:=List.length X.L;
 let q4:=[AV.pview (Z6.c X (AV.vrows 70 q3 q2 q3)) 0];
 let q5:=[AV.int i64 s];
 Z0 (decide ((↑n:Int)=(↑n:Int)))
 (Z0 q1
 (q2=q2∧
 Z0 q1
 (q4=q4∧
 q5=q5∧
 (q3=n∧n<1000∧0≤X.side∧X.side≤1)∧
 ∀(i:Nat),
 let q11:=List.length (Uc X s i);
 let q12:=decide (q11=c);
 let q13:=Z0 q12 (Z0 (decide (c≤q11)) (Z0 q12 (Za 0 [(0,0)] c (Z4 O) (Z4 (Uc X s i))∧True) False) False) False;
 i≤n→(∀(j:Nat),j<i→(fun (i:Nat)=>i<n) j)→(i=n→q13)∧(False→q13)∧(False→False))
 False)
 False)
 False) (by kernel_rfl) ?_
 conv=>zeta
 try simp only [Zg]
 try simp only [Zi]
 try simp only [Zh]
 try simp only [Zj]
 try simp only [Zk]
 try simp only [Ze]
 try simp only [Int.toNat_natCast,Nat.zero_add,true_and,and_true,Nat.le_refl]
 have ha:Uc X s n=O:=by rw [←hL,ZbV,hO]
 repeat' apply And.intro
 all_goals first|rfl|exact hL|exact hn|exact hX.1|exact hX.2|skip
 intro i hi _
 refine ⟨fun he=> ?_,fun h=>h.elim,fun h=>h.elim⟩
 subst he
 rw [ha]
 subst hc
 repeat' apply And.intro
 all_goals first|omega|rfl|exact Zn fun _ _=>rfl
theorem Za1 (args:List AV) (h:Z9) (K:KO) (hl:ZbT args h K):Zm PP 135 args h K:=by
 refine Zw.fsumm (d:=20) (Zq _ _ _ _ _ hl fun a ha=> ?_)
 split at ha
 ·obtain ⟨X,rfl,h1,rfl,hX,hs,h2,hK⟩:=ha
  refine ⟨_,_,_,_,(Zw.evM (Z64 X _ _) (Zig X _ _ _ _ h1.symm h2 hs rfl rfl)).conv fun E r hr=>hr.head (fun _ hc=>hc) fun _ hr=>hr.head (fun _ hc=> ?_) fun _ hc=>hc,rfl,⟨Nat.one_pos,.rows _ _ _ (fun i _=>Xf _ i),trivial⟩,hK⟩
  cases hc with
  | func fn fi ca fs cs h3 h4=>exact .func _ _ _ _ _ h3 (h4.head (fun _ hc=>Z4Z hX hc) fun _ hc=>hc)
 ·obtain ⟨X,hX,hs,h1,hK⟩:=ha
  refine ⟨_,_,_,_,(Zw.evM (Z64 X _ 0) (Zig X _ 0 _ _ (by rw [h1];rfl) (by omega) hs rfl rfl)).conv fun E r hr=>hr.head (fun _ hc=> ?_) fun _ hr=>hr.head (fun _ hc=> ?_) fun _ hc=>hc,rfl,⟨Nat.one_pos,.rows _ _ _ (fun i _=>Xf _ i),trivial⟩,hK⟩
  ·cases hc;exact .vrowsNil _ _ _ _ rfl rfl
  ·cases hc with
   | func fn fi ca fs cs h3 h4=>exact .func _ _ _ _ _ h3 (h4.head (fun _ hc=>Z4Z hX hc) fun _ hc=>hc)
 ·exact ha.elim
noncomputable def ZbW:Zf:=G0.withF 135 ZbT
theorem ZbX:ZbW.Ok:=Zf.withF_ok Zr Za1
def Zem (n i:Nat) (O:List Z5):St:=⟨26,[(14,.int .i64 i),(13,.int .i64 n),(12,.nslice ⟨0,0,70,0,0⟩ 70 n n),(4,.nslice ⟨1,0,0,0,0⟩ 1 i i)],⟨2,[(0,.rows 70 n (Z4 O)),(1,.ints .i64 (XB (O.take i)))]⟩,[]⟩
def Za2 (i:Nat) (O:List Z5):St:=⟨26,[(4,.nslice ⟨0,0,0,0,0⟩ 1 i i)],⟨1,[(0,.ints .i64 (XB (O.take i)))]⟩,[]⟩
theorem Zk7 (n i:Nat) (O:List Z5) (Z1 Z2:Prop) (hn:n<1000) (hL:O.length=n) (hi:i≤n) (hZ1:i<n→Z1) (hZ2:i=n→Z2):
  ZI ZbW 20 83 0 0 (Zem n i O) (rdM 0 0 9 (Zem n (i+1) O) (Za2 i O) (Za2 i O) (Za2 i O) Z1 Z2 False False):=by
 refine @Eq.mpr _ (let q1:=0+Int.toNat (↑i:Int);
 let q2:=XB (List.take i O);
 let q3:=q2++[(List.getD O q1 Z7).amount];
 let q4:=List.length q3;
 let q5:=i+1;
 let q6:=decide (n=n);
 Z0 (decide ((↑i:Int)<(↑n:Int))) (Z0 (decide (0≤(↑i:Int)∧(↑i:Int)<(↑n:Int))) (Z0 (decide (q1<n)) (Z0 (decide (i64=i64∧List.length q2=i)) (Z0 (decide (q4*8≤140737488355328)) (Z0 (decide (wrap i64 ((↑i:Int)+1)=(↑q5:Int))) (Z0 (decide ((↑n:Int)=(↑n:Int))) (Z0 q6 (Z0 (decide (n≤n)) (Z0 (decide (q4=q5)) (Z0 (decide (q5≤q4)) (Z0 q6 (Za 0 [(1,4),(0,0)] n (Z4 O) (Z4 O)∧q3=XB (List.take q5 O)∧Z1) False) False) False) False) False) False) False) False) False) False) False) (Z0 (decide (i=i)) (Z0 (decide (i≤i)) (q2=q2∧Z2) False) False)) (by kernel_rfl) ?_
 conv=>zeta
 try simp only [Zg]
 try simp only [Zi]
 try simp only [Zh]
 try simp only [Zj]
 try simp only [Zk]
 try simp only [Ze]
 try simp only [Int.toNat_natCast,Nat.zero_add,true_and,and_true,Nat.le_refl]
 have hl:(XB (O.take i)).length=i:=by unfold XB;rw [List.length_map,List.length_take];omega
 refine ⟨fun hc=> ?_,fun hc=>hZ2 (by omega)⟩
 have hlt:i<n:=by omega
 have hwr:i64.wrap ((i:Int)+1)=((i+1:Nat):Int):=by rw [w64 (by omega)];omega
 have ht:XB (O.take (i+1))=XB (O.take i)++[(O.getD i Z7).amount]:=by
  unfold XB
  rw [List.take_succ_eq_append_getElem (by omega),List.map_append,List.getD_eq_getElem?_getD,List.getElem?_eq_getElem (by omega)]
  rfl
 have hl2:(XB (O.take i)++[(O.getD i Z7).amount]).length=i+1:=by simp [hl]
 repeat' apply And.intro
 all_goals first|omega|exact hwr|exact Zn fun _ _=>rfl|exact ht.symm|exact hZ1 hlt|rfl
noncomputable def ZfP (O:List Z5) (n:Nat):Zf:=ZbW.withL 83 0 (goM 0 (Zem n 0 O) (O.length=n∧n<1000) (Ys 0 n 9 (fun i=>i<n) (fun i=>i=n) (fun _=>False) (fun _=>False) (fun i=>Za2 i O) (fun i=>Za2 i O) (fun i=>Za2 i O)))
theorem ZbY (O:List Z5) (n:Nat):(ZfP O n).Ok:=
 Zf.withGoM (N:=20) (S:=fun i=>Zem n i O) ZbX (by kernel_rfl) fun hC=>⟨rfl,fun i hi _=>Zk7 n i O (i<n∧i<n) (i=n) hC.2 hC.1 hi (fun h=>⟨h,h⟩) (fun h=>h)⟩
theorem Z50 (side s:Int) (L:List Z5):(ZQ side s L).length≤L.length:=List.length_filter_le _ _
theorem Zk8 (X:Z6) (s:Int) (c:Nat) (O:List Z5) (xs:List Int) (hn:X.L.length<1000) (hX:YN X) (hO:O=ZQ X.side s X.L) (hc:c=O.length) (hx:xs=XB O):
  evF (ZfP O c) 20 83 [XW X,.int .i64 s] ⟨0,[]⟩ (Y7 0 (.ret (.nslice ⟨0,0,0,0,0⟩ 1 c c)) 1 [(0,.ints .i64 xs)]):=by
 refine @Eq.mpr _ (let q1:=List.length X.L;
 let q2:=Z4 X.L;
 ∃(X_1:Z6),
 let q5:=X_1.L;
 let q6:=X_1.side;
 let q7:=ZQ q6 s q5;
 let q8:=List.length q7;
 let q9:=decide (q8=c);
 q1=q1∧
 q1=List.length q5∧
 q2=Z4 q5∧
 LV (Z6.c X (AV.vrows 70 q1 q2 q1)) X_1∧
 (0≤q6∧q6≤1)∧
 q1<1000∧
 Z0 (decide ((↑q8:Int)=(↑c:Int)))
 (Z0 q9
 (Z0 (decide (c≤q8))
 (Z0 q9
 (Za 0 [(0,2)] c (Z4 O) (Z4 q7)∧
 XB (List.take 0 O)=[]∧
 (List.length O=c∧c<1000)∧
 ∀(i:Nat),
 let q15:=Z0 (decide (i=c)) (Z0 (decide (c≤i)) (XB (List.take i O)=xs∧True) False) False;
 i≤c→(∀(j:Nat),j<i→(fun (i:Nat)=>i<c) j)→(i=c→q15)∧(False→q15)∧(False→False))
 False)
 False)
 False)
 False) (by kernel_rfl) ?_
 conv=>zeta
 try simp only [Zg]
 try simp only [Zi]
 try simp only [Zh]
 try simp only [Zj]
 try simp only [Zk]
 try simp only [Ze]
 try simp only [Int.toNat_natCast,Nat.zero_add,true_and,and_true,Nat.le_refl]
 subst hx
 have hle:=Z50 X.side s X.L
 refine ⟨X, ?_⟩
 rw [←hO]
 repeat' apply And.intro
 all_goals first|rfl|exact .a rfl|exact hX.1|exact hX.2|exact hn|exact hc.symm|(rw [hc];done)|(rw [hc,hO];omega)|exact Zn fun _ _=>rfl|skip
 intro i hi _
 refine ⟨fun he=> ?_,fun h=>h.elim,fun h=>h.elim⟩
 rw [he,hc,List.take_length]
 exact ⟨rfl,Nat.le_refl _,rfl⟩
theorem Uz (args:List AV) (h:Z9) (K:KO) (hl:Z2G args h K):Zm PP 83 args h K:=by
 refine Zw.fsumm (d:=20) (Zq _ _ _ _ _ hl fun a ha=> ?_)
 split at ha
 ·obtain ⟨X,hX,hs,h1,hK⟩:=ha
  exact ⟨_,_,_,_,(Zw.evM (ZbY _ _) (Zk8 X _ _ _ _ h1 hs rfl rfl rfl)).conv fun E r hr=>hr.head (fun _ hc=>Xr hX hc) fun _ hc=>hc,rfl,⟨Nat.one_pos,.ints _ _,trivial⟩,hK⟩
 ·exact ha.elim
def Z8G (xs:List Int) (n i:Nat) (a:Int):St:=⟨16,[(7,.int .i64 i),(6,.int .i64 n),(5,.vints .i64 xs n),(2,.int .i64 a)],⟨0,[]⟩,[]⟩
def Z42 (a:Int):St:=⟨16,[(2,.int .i64 a)],⟨0,[]⟩,[]⟩
theorem Zk9 (xs:List Int) (n i:Nat) (a a1:Int) (Z1 Z2:Prop) (hn:n<1000) (hL:xs.length=n) (hi:i≤n) (h1:i<n→a1=i64.wrap (a+xs.getD i 0)) (hZ1:i<n→Z1) (hZ2:i=n→Z2):
  ZI G0 20 133 0 0 (Z8G xs n i a) (rdM 0 0 9 (Z8G xs n (i+1) a1) (Z42 a) (Z42 a) (Z42 a) Z1 Z2 False False):=by
 refine @Eq.mpr _ (Z0 (decide ((↑i:Int)<(↑n:Int))) (Z0 (decide (0≤(↑i:Int)∧(↑i:Int)<(↑n:Int))) (Z0 (decide (wrap i64 ((↑i:Int)+1)=(↑(i+1):Int))) (Z0 (decide ((↑n:Int)=(↑n:Int))) (xs=xs∧Z0 (decide (n=n)) (Z0 (decide (wrap i64 (a+List.getD xs (Int.toNat (↑i:Int)) 0)=a1)) Z1 False) False) False) False) False) (Z0 (decide (a=a)) Z2 False)) (by kernel_rfl) ?_
 try simp only [Zg]
 try simp only [Zi]
 try simp only [Zh]
 try simp only [Zj]
 try simp only [Zk]
 try simp only [Ze]
 try simp only [Int.toNat_natCast,Nat.zero_add,true_and,and_true,Nat.le_refl]
 refine ⟨fun hc=> ?_,fun hc=>hZ2 (by omega)⟩
 have hlt:i<n:=by omega
 have hwr:i64.wrap ((i:Int)+1)=((i+1:Nat):Int):=by rw [w64 (by omega)];omega
 have h1:=h1 hlt
 repeat' apply And.intro
 all_goals first|omega|exact hwr|exact h1.symm|exact hZ1 hlt|rfl
def Z2H (xs:List Int):Nat→Int
 | 0=>0
 | i+1=>i64.wrap (Z2H xs i+xs.getD i 0)
theorem Z0r {xs:List Int} (h:∀x∈xs,0≤x∧x≤1125899906842624):0≤xs.sum∧xs.sum≤1125899906842624*xs.length:=by
 induction xs with
 | nil=>simp
 | cons a r ih=>
  have h1:=h a (by simp)
  have h2:=ih fun x hx=>h x (by simp [hx])
  simp only [List.sum_cons,List.length_cons]
  omega
theorem Z8H {xs:List Int} (hn:xs.length<1000) (h:∀x∈xs,0≤x∧x≤1125899906842624):∀i,i≤xs.length→Z2H xs i=(xs.take i).sum
 | 0,_=>by simp [Z2H]
 | i+1,hi=>by
  have ih:=Z8H hn h i (by omega)
  have hb:=Z0r (xs:=xs.take (i+1)) fun x hx=>h x (List.mem_of_mem_take hx)
  have e:(xs.take (i+1)).sum=(xs.take i).sum+xs.getD i 0:=by
   rw [List.take_succ_eq_append_getElem (by omega),List.sum_append,List.getD_eq_getElem?_getD,List.getElem?_eq_getElem (by omega)]
   simp
  have hl:(xs.take (i+1)).length≤1000:=by rw [List.length_take];omega
  unfold Z2H
  rw [ih,←e,w64 (by omega)]
noncomputable def ZfQ (xs:List Int) (n:Nat):Zf:=G0.withL 133 0 (goM 0 (Z8G xs n 0 0) (xs.length=n∧n<1000) (Ys 0 n 9 (fun i=>i<n) (fun i=>i=n) (fun _=>False) (fun _=>False) (fun i=>Z42 (Z2H xs i)) (fun i=>Z42 (Z2H xs i)) (fun i=>Z42 (Z2H xs i))))
theorem ZbZ (xs:List Int) (n:Nat):(ZfQ xs n).Ok:=
 Zf.withGoM (N:=20) (S:=fun i=>Z8G xs n i (Z2H xs i)) Zr (by kernel_rfl) fun hC=>⟨rfl,fun i hi _=>Zk9 xs n i _ _ (i<n∧i<n) (i=n) hC.2 hC.1 hi (fun _=>rfl) (fun h=>⟨h,h⟩) (fun h=>h)⟩
theorem Zka (xs:List Int) (n:Nat) (r:Int) (hL:xs.length=n) (hn:n<1000) (hr:r=Z2H xs n):
  evF (ZfQ xs n) 20 133 [.vints .i64 xs n] ⟨0,[]⟩ (Y8 (fun v=>v=.int .i64 r)):=by
 refine @Eq.mpr _ (Z0 (decide ((↑n:Int)=(↑n:Int)))
 (xs=xs∧
 Z0 (decide (n=n))
 ((List.length xs=n∧n<1000)∧
 ∀(i:Nat),
 let q1:=AV.int i64 (Z2H xs i)=AV.int i64 r;
 i≤n→(∀(j:Nat),j<i→(fun (i:Nat)=>i<n) j)→(i=n→q1)∧(False→q1)∧(False→False))
 False)
 False) (by kernel_rfl) ?_
 conv=>zeta
 try simp only [Zg]
 try simp only [Zi]
 try simp only [Zh]
 try simp only [Zj]
 try simp only [Zk]
 try simp only [Ze]
 try simp only [Int.toNat_natCast,Nat.zero_add,true_and,and_true,Nat.le_refl]
 refine ⟨⟨hL,hn⟩,fun i hi _=>⟨fun he=> ?_,fun h=>h.elim,fun h=>h.elim⟩⟩
 rw [he,hr]
theorem Zha (args:List AV) (h:Z9) (K:AV→Prop) (hl:smS args h K):Zm PP 133 args h fun o h'=>∃v,o=.ret v∧h'=h∧K v:=by
 refine Zw.psumm (d:=20) (Zq _ _ _ _ _ hl fun a ha=> ?_)
 split at ha
 ·rename_i xs n
  obtain ⟨h1,h2,h3,hK⟩:=ha
  have e:Z2H xs n=xs.sum:=by rw [h1,Z8H (by omega) h3 _ (Nat.le_refl _),List.take_length]
  exact ⟨_,Zw.evV (ZbZ _ _) (Zka xs n _ h1.symm h2 rfl),fun _=>rfl,by rw [e];exact hK⟩
 ·exact ha.elim
noncomputable def ZfR:Zf:=(G0.withF 83 Z2G).withP 133 smS
theorem Zc0:ZfR.Ok:=Zf.withP_ok (Zf.withF_ok Zr Uz) Zha
theorem Zkb (X:Z6) (s:Int) (r:Int) (hs:s=0∨s=1) (hX:YN X) (hA:Z0q X) (hr:r=Y1 X s):
  evF ZfR 20 79 [XW X,.int .i64 s] ⟨0,[]⟩ (Y8 (fun v=>v=.int .i64 r)):=by
 refine @Eq.mpr _ (let q1:=decide (0≤s∧s<2);
 let q2:=0+Int.toNat s;
 let q3:=decide (q2<2);
 let q4:=decide (q2<2);
 let q5:=List.length X.L;
 let q6:=List.getD [X.t.fee,(0:Int)] q2 0;
 let q7:=X.res;
 let q8:=List.getD [X.a0,X.a1] q2 0;
 Z0 q1
 (Z0 q3
 (Z0 q1
 (Z0 q4
 (∃(X_1:Z6),
 let q17:=X_1.side;
 let q18:=ZQ q17 s X_1.L;
 let q19:=List.length q18;
 let q20:=XB q18;
 let q21:=List.take q19 (Xc 0 q20);
 LV (Z6.c X (AV.vrows 70 q5 (Z4 X.L) q5)) X_1∧(0≤q17∧q17≤1)∧List.length X_1.L<1000∧Z0 q4 (Z0 (decide (q6=q6)) (Z0 (decide (q7=q7)) (Z0 q3 (Z0 (decide (q8=q8)) (Z0 (decide (0+q19≤List.length q20)) (q19=List.length q21∧q19<1000∧(∀(x:Int),List.Mem x q21→0≤x∧x≤1125899906842624)∧AV.int i64 (wrap i64 (wrap i64 (wrap i64 (q8-List.sum q21)-q7)-q6))=AV.int i64 r) False) False) False) False) False) False)
 False)
 False)
 False)
 False) (by kernel_rfl) ?_
 conv=>zeta
 obtain ⟨h1,h2,h3,h4,h5,h6⟩:=hA
 have hle:=Z50 X.side s X.L
 have hb:∀x∈XB (ZQ X.side s X.L),0≤x∧x≤1125899906842624:=fun x hx=>by
  obtain ⟨z,hz,rfl⟩:=List.mem_map.1 hx
  exact h2 z ((List.mem_filter.1 hz).1)
 have hl:(XB (ZQ X.side s X.L)).length=(ZQ X.side s X.L).length:=List.length_map _
 have hsum:=Z0r hb
 have e:List.take (ZQ X.side s X.L).length (Xc 0 (XB (ZQ X.side s X.L)))=XB (ZQ X.side s X.L):=by rw [YP,List.drop_zero,←hl,List.take_length]
 try simp only [Zg]
 try simp only [Zi]
 try simp only [Zh]
 try simp only [Zj]
 try simp only [Zk]
 try simp only [Ze]
 try simp only [Int.toNat_natCast,Nat.zero_add,true_and,and_true,Nat.le_refl]
 repeat' first|apply And.intro|refine Exists.intro X ?_
 all_goals try rw [e]
 all_goals first|omega|rfl|exact .a rfl|exact hX.1|exact hX.2|exact hb|skip
 rw [hr]
 unfold Y1 Z6.am
 generalize (XB (ZQ X.side s X.L)).sum=q at*
 congr 1
 rcases hs with rfl|rfl
 ·simp only [Int.toNat_zero,List.getD_cons_zero,if_true]
  have e2:i64.wrap (X.a0-q)=X.a0-q:=w64 (by omega)
  have e3:i64.wrap (X.a0-q-X.res)=X.a0-q-X.res:=w64 (by omega)
  rw [e2,e3,w64 (by omega)]
 ·have e1:(1:Int).toNat=1:=rfl
  simp only [e1,List.getD_cons_succ,List.getD_cons_zero,show ¬(1:Int)=0 by decide,if_false]
  have e2:i64.wrap (X.a1-q)=X.a1-q:=w64 (by omega)
  have e3:i64.wrap (X.a1-q-X.res)=X.a1-q-X.res:=w64 (by omega)
  rw [e2,e3,w64 (by omega)]
theorem Z51 (args:List AV) (h:Z9) (K:AV→Prop) (hl:Zeg args h K):Zm PP 79 args h fun o h'=>∃v,o=.ret v∧h'=h∧K v:=by
 refine Zw.psumm (d:=20) (Zq _ _ _ _ _ hl fun a ha=> ?_)
 split at ha
 ·obtain ⟨X,hX,hs,h1,h2,hK⟩:=ha
  exact ⟨_,(Zw.evV Zc0 (Zkb X _ _ h1 hs h2 rfl)).conv fun E r hr=>hr.head (fun _ hc=>Xr hX hc) fun _ hc=>hc,fun _=>rfl,hK⟩
 ·exact ha.elim
end Go.Tk
end
section
namespace Go.Tk
open IntKind (i64 u8 u32 u64 wrap)
noncomputable def ZfS:Zf:=G0.withF 83 Z2G
theorem Zc1:ZfS.Ok:=Zf.withF_ok Zr Uz
theorem Zih (X:Z6) (s:Int) (b:Bool) (hX:YN X) (hn:X.L.length<1000) (hb:b=decide ((ZQ X.side s X.L).length≤8)):
  evF ZfS 20 90 [.int .i64 s,.pview [XW X] 0] ⟨0,[]⟩ (Y8 (fun v=>v=.bool b)):=by
 refine @Eq.mpr _ (let q1:=List.length X.L;
 ∃(X_1:Z6),
 let q3:=X_1.side;
 LV (Z6.c X (AV.vrows 70 q1 (Z4 X.L) q1)) X_1∧(0≤q3∧q3≤1)∧List.length X_1.L<1000∧AV.bool (decide ((↑(List.length (ZQ q3 s X_1.L)):Int)≤8))=AV.bool b) (by kernel_rfl) ?_
 conv=>zeta
 subst hb
 refine ⟨X,.a rfl,hX,hn, ?_⟩
 congr 1
 rw [Bool.eq_iff_iff,decide_eq_true_iff,decide_eq_true_iff]
 omega
theorem Zc2 (args:List AV) (h:Z9) (K:AV→Prop) (hl:ZfN args h K):Zm PP 90 args h fun o h'=>∃v,o=.ret v∧h'=h∧K v:=by
 refine Zw.psumm (d:=20) (Zq _ _ _ _ _ hl fun a ha=> ?_)
 split at ha
 ·obtain ⟨X,hX,hs,hn,hK⟩:=ha
  exact ⟨_,(Zw.evV Zc1 (Zih X _ _ hs hn rfl)).conv fun E r hr=>hr.head (fun _ hc=>hc) fun _ hr=>hr.head (fun _ hc=>Z4Z hX hc) fun _ hc=>hc,fun _=>rfl,hK⟩
 ·exact ha.elim
noncomputable def Zen (H1:List Int→List Int):Zf:=(G0.withP 91 (ZbS H1)).withP 92 Zh6
theorem Zeo:(Zen Zo).Ok:=Zf.withP_ok (Zf.withP_ok Zr Z9Z) Zei
noncomputable def Zc3 (H1:List Int→List Int) (X:Z6) (n:Nat):Zf:=((((Z4X (Zen H1)).withP 72 ZbN).withP 90 ZfN).withP 79 Zeg).withF 83 Z2G
theorem Zc4 {H1:List Int→List Int} (h0:(Zen H1).Ok) (X:Z6) (n:Nat):(Zc3 H1 X n).Ok:=Zf.withF_ok (Zf.withP_ok (Zf.withP_ok (Zf.withP_ok (Zf.withP_ok (Zf.withP_ok (Zf.withP_ok (Zf.withP_ok h0 Z1n) QP) QQ) QR) ZbO) Zc2) Z51) Uz
def rgS (X:Z6) (n i:Nat):St:=⟨140,[(99,.int .i64 i),(98,.int .i64 n),(97,.vrows 70 n (Z4 X.L) n),(1,.ptr (some ⟨0,0,0,0,0⟩))],⟨1,[(0,.flat [XW X])]⟩,[]⟩
def rgE (X:Z6):St:=⟨140,[(1,.ptr (some ⟨0,0,0,0,0⟩))],⟨1,[(0,.flat [XW X])]⟩,[]⟩
def rgF:St:=⟨140,[(2,.bool false)],⟨0,[]⟩,[]⟩
theorem Zkc (X:Z6) (n i:Nat) (H1:List Int→List Int) (Z1 Z2 Z3:Prop) (hn:n<1000) (hL:X.L.length=n) (hi:i≤n) (hok:∀h∈X.L,h.Ok) (h1:i<n→XO H1 X i=true→Z1) (h2:i=n→Z2) (h3:i<n→XO H1 X i=false→Z3):
  ZI (Zc3 H1 X n) 20 32 0 0 (rgS X n i) (rdM 0 0 9 (rgS X n (i+1)) (rgE X) rgF rgF Z1 Z2 Z3 False):=by
 refine @Eq.mpr _ (let q1:=X.L;
 let q2:=List.length q1;
 let q3:=Z4 q1;
 let q4:=Z6.c X (AV.vrows 70 q2 q3 q2);
 let q5:=List.getD q1 (Int.toNat (↑i:Int)) Z7;
 let q6:=Z5.mk q5.own q5.id q5.amount q5.hash q5.expiry q5.stage q5.fin q5.secret;
 let q7:=wrap i64 ((↑i:Int)-1);
 let q8:=List.getD q1 (Int.toNat q7) Z7;
 let q9:=decide (n=n);
 let q10:=q4=q4;
 let q11:=Z0 (decide (wrap i64 ((↑i:Int)+1)=(↑(i+1):Int))) (Z0 (decide ((↑n:Int)=(↑n:Int))) (Z0 q9 (q3=q3∧Z0 q9 (q10∧Z1) False) False) False) False;
 Z0 (decide ((↑i:Int)<(↑n:Int))) (Z0 (decide (0≤(↑i:Int)∧(↑i:Int)<(↑n:Int))) (∃(X:Z6),LV q4 X∧Z5.Ok q6∧Z0 (!XN H1 X q6) Z3 (Z0 (decide ((↑i:Int)>0)) (Z0 (decide (0≤q7∧q7<(↑q2:Int))) (Z0 (!decide (Xo (Z5.mk q8.own q8.id q8.amount q8.hash q8.expiry q8.stage q8.fin q8.secret) q6)) Z3 q11) False) q11)) False) (q10∧Z2)) (by kernel_rfl) ?_
 conv=>zeta
 try simp only [Zg]
 try simp only [Zi]
 try simp only [Zh]
 try simp only [Zj]
 try simp only [Zk]
 try simp only [Ze]
 try simp only [Int.toNat_natCast,Nat.zero_add,true_and,and_true,Nat.le_refl]
 have e0:∀p:Z5,Z5.mk p.own p.id p.amount p.hash p.expiry p.stage p.fin p.secret=p:=fun _=>rfl
 simp only [e0]
 refine ⟨fun hc=> ?_,fun hc=>h2 (by omega)⟩
 have hlt:i<n:=by omega
 have hwr:i64.wrap ((i:Int)+1)=((i+1:Nat):Int):=by rw [w64 (by omega)];omega
 have hw1:0<i→i64.wrap ((i:Int)-1)=((i-1:Nat):Int):=fun h=>by rw [w64 (by omega)];omega
 have hx:(X.L.getD i Z7).Ok:=hok _ (Zz (by omega))
 refine ⟨by omega,X,.a rfl,hx,fun hu=>h3 hlt ?_,fun hu=> ?_⟩
 ·have hu:XN H1 X (X.L.getD i Z7)=false:=by simpa using hu
  unfold XO
  rw [hu];rfl
 have hu:XN H1 X (X.L.getD i Z7)=true:=by simpa using hu
 refine ⟨fun hp=> ?_,fun hp=> ?_⟩
 ·have hp:0<i:=by omega
  rw [hw1 hp,Int.toNat_natCast]
  refine ⟨by omega,fun hf=>h3 hlt ?_,fun hf=> ?_⟩
  ·have hf:decide (Xo (X.L.getD (i-1) Z7) (X.L.getD i Z7))=false:=by simpa using hf
   unfold XO
   rw [hu,hf,Zx (by omega:i≠0)];rfl
  ·have hf:decide (Xo (X.L.getD (i-1) Z7) (X.L.getD i Z7))=true:=by simpa using hf
   have hb:XO H1 X i=true:=by
    unfold XO
    rw [hu,hf];simp
   repeat' apply And.intro
   all_goals first|omega|exact hwr|exact h1 hlt hb|rfl
 ·have hb:XO H1 X i=true:=by
   unfold XO
   rw [hu,show i=0 by omega];rfl
  repeat' apply And.intro
  all_goals first|omega|exact hwr|exact h1 hlt hb|rfl
noncomputable def ZfT (H1:List Int→List Int) (X:Z6) (n:Nat):Zf:=(Zc3 H1 X n).withL 32 0 (goM 0 (rgS X n 0) (n<1000∧X.L.length=n∧∀h∈X.L,h.Ok) (Ys 0 n 9 (fun i=>XO H1 X i=true∧i<n) (fun i=>i=n) (fun i=>i<n∧XO H1 X i=false) (fun _=>False) (fun _=>rgE X) (fun _=>rgF) (fun _=>rgF)))
theorem Zc5 {H1:List Int→List Int} (h0:(Zen H1).Ok) (X:Z6) (n:Nat):(ZfT H1 X n).Ok:=by
 exact Zf.withGoM (N:=20) (S:=fun i=>rgS X n i) (Zc4 h0 X n) (by kernel_rfl) fun hC=>⟨rfl,fun i hi _=>Zkc X n i _ _ _ _ hC.1 hC.2.1 hi hC.2.2 (fun h h'=>⟨⟨h',h⟩,h⟩) (fun h=>h) (fun h h'=>⟨h,h'⟩)⟩
end Go.Tk
end
section
namespace Go.Tk
open IntKind (i64 u8 u32 u64 wrap)
theorem ZZ {t:Yz} (h:XM t=true):(0≤t.index∧t.index≤23)∧(1000≤t.cap∧t.cap≤1125899906842624)∧(1≤t.dust∧t.dust≤500)∧(0≤t.fee∧t.fee≤400)∧(1≤t.delay∧t.delay≤1000):=by
 unfold XM at h
 simp only [Bool.and_eq_true,decide_eq_true_eq] at h
 omega
theorem Z8I {H:List Int→List Int} {X:Z6} (hn:X.L.length<1000) (h1:XM X.t=true) (h3:0≤X.res∧X.res≤X.t.cap/10) (h4:0≤X.a0∧X.a0≤X.t.cap) (h5:X.a1=X.t.cap-X.a0) (hl:∀h∈X.L,XN H X h=true):Z0q X:=by
 have hb:=ZZ h1
 refine ⟨hn,fun h hh=> ?_,by omega,by omega,by omega,by omega⟩
 have:=hl h hh
 unfold XN Yo at this
 simp only [Bool.and_eq_true,decide_eq_true_eq] at this
 omega
theorem Zkd (X:Z6) (n:Nat) (H1:List Int→List Int) (b:Bool) (hL:X.L.length=n) (hn:n<1000) (ht:X.t.Ok) (hok:∀h∈X.L,h.Ok) (hb:b=Yp H1 X):
  evF (ZfT H1 X n) 20 32 [XW X] ⟨0,[]⟩ (Y8 (fun v=>v=.bool b)):=by
 refine @Eq.mpr _ (let q1:=X.t;
 let q2:=q1.cap;
 let q3:=Yz.mk q1.fund q1.index q2 q1.dust q1.fee q1.delay q1.k0 q1.k1;
 let q4:=AV.bool b;
 let q5:=AV.bool false=q4;
 let q6:=X.a0;
 let q7:=X.L;
 let q8:=List.length q7;
 let q9:=Z4 q7;
 let q10:=Z6.c X (AV.vrows (70:Nat) q8 q9 q8);
 let q11:=decide (q8=n);
 Yz.Ok q3∧
 Z0 ((if XM q3=true then (0:Int) else (2:Int)) !=(0:Int)) q5
 (Z0 (!decide ((0:Int)≤X.side∧X.side≤(1:Int))) q5
 (Z0 (!decide ((0:Int)≤X.res∧X.res≤wrap i64 (Int.tdiv q2 (10:Int)))) q5
 (Z0 (!decide ((0:Int)≤q6∧q6≤q2)) q5
 (Z0 (X.a1 !=wrap i64 (q2-q6)) q5
 (Z0 (!decide ((0:Int)≤X.i0∧X.i0≤(2147483648:Int))) q5
 (Z0 (!decide ((0:Int)≤X.i1∧X.i1≤(2147483648:Int))) q5
 (∃(X_1:Z6),
 let q23:=X_1.side;
 LV q10 X_1∧
 ((0:Int)≤q23∧q23≤(1:Int))∧
 List.length X_1.L<(1000:Nat)∧
 Z0 (!decide (List.length (ZQ q23 (0:Int) X_1.L)≤(8:Nat))) q5
 (∃(X_2:Z6),
 let q25:=X_2.side;
 LV q10 X_2∧
 ((0:Int)≤q25∧q25≤(1:Int))∧
 List.length X_2.L<(1000:Nat)∧
 Z0 (!decide (List.length (ZQ q25 (1:Int) X_2.L)≤(8:Nat))) q5
 (Z0 (decide ((↑q8:Int)=(↑n:Int)))
 (Z0 q11
 (q9=q9∧
 Z0 q11
 (q10=q10∧
 (n<(1000:Nat)∧q8=n∧∀(h:Z5),List.Mem h q7→Z5.Ok h)∧
 ∀(i:Nat),
 i≤n→
 (∀(j:Nat),j<i→(fun (i:Nat)=>XO H1 X i=true∧i<n) j)→
 (i=n→
 ∃(X:Z6),
 LV q10 X∧
 ((0:Int)≤X.side∧X.side≤(1:Int))∧
 ((0:Int)=(0:Int)∨(0:Int)=(1:Int))∧
 Z0q X∧
 Z0 (decide (Y1 X (0:Int)≥(0:Int)))
 (∃(X:Z6),
 let q27:=X.side;
 LV q10 X∧((0:Int)≤q27∧q27≤(1:Int))∧List.length X.L<(1000:Nat)∧Z0 ((↑(List.length (ZQ q27 (1:Int) X.L)):Int)==(0:Int)) (AV.bool true=q4) (∃(X:Z6),LV q10 X∧((0:Int)≤X.side∧X.side≤(1:Int))∧((1:Int)=(0:Int)∨(1:Int)=(1:Int))∧Z0q X∧AV.bool (decide (Y1 X (1:Int)≥(0:Int)))=q4))
 q5)∧
 (i<n∧XO H1 X i=false→q5)∧(False→False))
 False)
 False)
 False)))))))))) (by kernel_rfl) ?_
 conv=>zeta
 have e0:Yz.mk X.t.fund X.t.index X.t.cap X.t.dust X.t.fee X.t.delay X.t.k0 X.t.k1=X.t:=rfl
 have no:¬(Yp H1 X=true)→AV.bool false=AV.bool b:=fun h=>by rw [hb,Bool.eq_false_iff.2 h]
 have hr:=Ql (H:=H1) (X:=X)
 have hh:=Z0o (X:=X)
 have key:Yp H1 X=true→_:=fun h=>(hh.1 (hr.1 h).1)
 have hlen:X.L.length<1000:=by omega
 rw [e0]
 simp only [Ze]
 refine ⟨ht,fun k=>no fun h=> ?_,fun k1=> ?_⟩
 ·rw [(key h).1] at k;simp at k
 have k1:XM X.t=true:=by
  cases hq:XM X.t with
  | true=>rfl
  | false=>rw [hq] at k1;simp at k1
 have tb:=ZZ k1
 have td:i64.wrap (Int.tdiv X.t.cap 10)=X.t.cap/10:=by rw [Int.tdiv_eq_ediv_of_nonneg (by omega),w64 (by omega)]
 rw [td]
 refine ⟨fun k=>no fun h=> ?_,fun k2=> ?_⟩
 ·have:=(key h).2.1;simp at k;omega
 have k2:0≤X.side∧X.side≤1:=by simpa using k2
 refine ⟨fun k=>no fun h=> ?_,fun k3=> ?_⟩
 ·have:=(key h).2.2.1;simp at k;omega
 have k3:0≤X.res∧X.res≤X.t.cap/10:=by simpa using k3
 refine ⟨fun k=>no fun h=> ?_,fun k4=> ?_⟩
 ·have:=(key h).2.2.2.1;simp at k;omega
 have k4:0≤X.a0∧X.a0≤X.t.cap:=by simpa using k4
 have tw:i64.wrap (X.t.cap-X.a0)=X.t.cap-X.a0:=w64 (by omega)
 rw [tw]
 refine ⟨fun k=>no fun h=> ?_,fun k5=> ?_⟩
 ·have:=(key h).2.2.2.2.1;simp at k;omega
 have k5:X.a1=X.t.cap-X.a0:=by simpa using k5
 refine ⟨fun k=>no fun h=> ?_,fun k6=> ?_⟩
 ·have:=(key h).2.2.2.2.2.1;simp at k;omega
 have k6:0≤X.i0∧X.i0≤2147483648:=by simpa using k6
 refine ⟨fun k=>no fun h=> ?_,fun k7=> ?_⟩
 ·have:=(key h).2.2.2.2.2.2.1;simp at k;omega
 have k7:0≤X.i1∧X.i1≤2147483648:=by simpa using k7
 refine ⟨X,.a rfl,k2,hlen,fun k=>no fun h=> ?_,fun k8=> ?_⟩
 ·have:=(key h).2.2.2.2.2.2.2.1;simp at k;omega
 have k8:(ZQ X.side 0 X.L).length≤8:=by simpa using k8
 refine ⟨X,.a rfl,k2,hlen,fun k=>no fun h=> ?_,fun k9=> ?_⟩
 ·have:=(key h).2.2.2.2.2.2.2.2;simp at k;omega
 have k9:(ZQ X.side 1 X.L).length≤8:=by simpa using k9
 have hhd:Z63 X=true:=hh.2 ⟨k1,k2,k3,k4,k5,k6,k7,k8,k9⟩
 simp only [hL,decide_true]
 refine ⟨fun _=>⟨fun _=>⟨trivial,fun _=>⟨trivial,⟨hn,trivial,hok⟩,fun i hi hg=>⟨fun he=> ?_,fun hx=>no fun h=> ?_,fun h=>h.elim⟩⟩,fun h=>by cases h⟩,fun h=>by cases h⟩,fun h=>by cases h⟩
 ·subst he
  have hall:∀j,j<X.L.length→XO H1 X j=true:=fun j hj=>(hg j (by omega)).1
  have hA:Z0q X:=Z8I (H:=H1) hlen k1 k3 k4 k5 fun h hh=>by
   obtain ⟨j,hj,rfl⟩:=List.getElem_of_mem hh
   have:=hall j hj
   unfold XO at this
   simp only [Bool.and_eq_true] at this
   rw [List.getD_eq_getElem?_getD,List.getElem?_eq_getElem hj] at this
   exact this.1
  refine ⟨X,.a (by rw [hL]),k2,.inl trivial,hA,fun k10=>⟨X,.a (by rw [hL]),k2,hlen,fun k11=> ?_,fun k11=>⟨X,.a (by rw [hL]),k2,.inr trivial,hA, ?_⟩⟩,fun k=>no fun h=> ?_⟩
  ·have k10:0≤Y1 X 0:=by simpa using k10
   have:Yp H1 X=true:=hr.2 ⟨hhd,hall,k10,.inl (by simpa using k11)⟩
   rw [hb,this]
  ·have k10:0≤Y1 X 0:=by simpa using k10
   rw [hb]
   congr 1
   rw [Bool.eq_iff_iff,decide_eq_true_iff]
   constructor
   ·intro h;exact hr.2 ⟨hhd,hall,k10,.inr h⟩
   ·intro h
    rcases (hr.1 h).2.2.2 with h|h
    ·rw [h] at k11;simp at k11
    ·exact h
  ·have:=(hr.1 h).2.2.1
   simp at k;omega
 ·have:=(hr.1 h).2.1 i (by omega)
  rw [hx.2] at this;cases this
theorem Zep (args:List AV) (h:Z9) (K:AV→Prop) (hl:Zid Zo args h K):Zm PP 32 args h fun o h'=>∃v,o=.ret v∧h'=h∧K v:=by
 refine Zw.psumm (d:=20) (Zq _ _ _ _ _ hl fun a ha=> ?_)
 split at ha
 ·obtain ⟨X,hX,ht,hok,hn,hK⟩:=ha
  exact ⟨_,(Zw.evV (Zc5 Zeo X _) (Zkd X _ Zo _ rfl hn ht hok rfl)).conv fun E r hr=>hr.head (fun _ hc=>Xr hX hc) fun _ hc=>hc,fun _=>rfl,hK⟩
 ·exact ha.elim
end Go.Tk
end
section
namespace Go.Tk
open IntKind (i64 u8 u32 u64 wrap)
noncomputable def Zhb (H1:List Int→List Int):Zf:=G0.withP 32 (Zid H1)
theorem Z8J:(Zhb Zo).Ok:=Zf.withP_ok Zr Zep
def X8 (t:Yz) (side res a b:Int):Z6:=⟨t,side,res,a,b,0,0,[]⟩
theorem Zke (t:Yz) (side res a b:Int) (X:Z6) (H1:List Int→List Int) (ht:t.Ok) (hX:X=X8 t side res a b) (hb:Yp H1 X=true):
  evF (Zhb H1) 20 8 [.agg t.c,.int .i64 side,.int .i64 res,.agg [.arr .i64 2 [a,b]]] ⟨0,[]⟩ (Y7 0 (.ret (.tuple [.ptr (some ⟨0,0,0,0,0⟩),.int .i64 0])) 2 [(0,.flat (X.c (.nslice ⟨1,0,70,0,0⟩ 70 0 0))),(1,.rows 70 0 (Z4 []))]):=by
 refine @Eq.mpr _ (let q1:=[a,b];
 let q2:=[(0:Int),0];
 let q3:=X.t;
 ∃(X_1:Z6),LV [AV.arr u8 32 t.fund,AV.int i64 t.index,AV.int i64 t.cap,AV.int i64 t.dust,AV.int i64 t.fee,AV.int i64 t.delay,AV.arr u8 32 t.k0,AV.arr u8 32 t.k1,AV.int i64 side,AV.int i64 res,AV.arr i64 2 q1,AV.arr i64 2 q2,AV.nilslice] X_1∧Yz.Ok X_1.t∧(∀(h:Z5),List.Mem h X_1.L→Z5.Ok h)∧List.length X_1.L<1000∧Z0 (!Yp H1 X_1) False (t.fund=q3.fund∧Z0 (decide (t.index=q3.index)) (Z0 (decide (t.cap=q3.cap)) (Z0 (decide (t.dust=q3.dust)) (Z0 (decide (t.fee=q3.fee)) (Z0 (decide (t.delay=q3.delay)) (t.k0=q3.k0∧t.k1=q3.k1∧Z0 (decide (side=X.side)) (Z0 (decide (res=X.res)) (q1=[X.a0,X.a1]∧q2=[X.i0,X.i1]∧True) False) False) False) False) False) False) False)) (by kernel_rfl) ?_
 conv=>zeta
 refine ⟨X,.b (by rw [hX];rfl) (by rw [hX];rfl),by rw [hX];exact ht,(by rw [hX];intro h hh;cases hh),(by rw [hX];exact Nat.succ_pos _), ?_⟩
 rw [hb]
 subst hX
 simp [Z0,X8]
theorem Zkf (t:Yz) (side res a b:Int) (X:Z6) (H1:List Int→List Int) (ht:t.Ok) (hX:X=X8 t side res a b) (hb:Yp H1 X=false):
  evF (Zhb H1) 20 8 [.agg t.c,.int .i64 side,.int .i64 res,.agg [.arr .i64 2 [a,b]]] ⟨0,[]⟩ (Y7 0 (.ret (.tuple [.ptr none,.int .i64 2])) 0 []):=by
 refine @Eq.mpr _ (∃(X:Z6),LV [AV.arr u8 32 t.fund,AV.int i64 t.index,AV.int i64 t.cap,AV.int i64 t.dust,AV.int i64 t.fee,AV.int i64 t.delay,AV.arr u8 32 t.k0,AV.arr u8 32 t.k1,AV.int i64 side,AV.int i64 res,AV.arr i64 2 [a,b],AV.arr i64 2 [(0:Int),0],AV.nilslice] X∧Yz.Ok X.t∧(∀(h:Z5),List.Mem h X.L→Z5.Ok h)∧List.length X.L<1000∧Z0 (!Yp H1 X) True False) (by kernel_rfl) ?_
 refine ⟨X,.b (by rw [hX];rfl) (by rw [hX];rfl),by rw [hX];exact ht,(by rw [hX];intro h hh;cases hh),(by rw [hX];exact Nat.succ_pos _), ?_⟩
 rw [hb];trivial
def ZfU (H:List Int→List Int):Ye:=fun args h K=>frA [] h 20 args fun Bs a=>match Bs,a with
 | [],[.agg [.arr .u8 32 fu,.int .i64 ix,.int .i64 ca,.int .i64 du,.int .i64 fe,.int .i64 de,.arr .u8 32 k0,.arr .u8 32 k1],.int .i64 sd,.int .i64 rs,.agg [.arr .i64 2 [a,b]]]=>
  Yz.Ok ⟨fu,ix,ca,du,fe,de,k0,k1⟩∧Z0 (Yp H (X8 ⟨fu,ix,ca,du,fe,de,k0,k1⟩ sd rs a b)) (K (.ret (.tuple [.ptr (some ⟨h.next,0,0,0,0⟩),.int .i64 0])) ⟨h.next+2,(h.next,.flat ((X8 ⟨fu,ix,ca,du,fe,de,k0,k1⟩ sd rs a b).c (.nslice ⟨h.next+1,0,70,0,0⟩ 70 0 0)))::(h.next+1,.rows 70 0 (Z4 []))::h.bs⟩)
   (K (.ret (.tuple [.ptr none,.int .i64 2])) ⟨h.next,h.bs⟩)
 | _,_=>False
theorem Zc6 (args:List AV) (h:Z9) (K:KO) (hl:ZfU Zo args h K):Zm PP 8 args h K:=by
 refine Spec.fsumm hl fun Bs a hlen hK0=> ?_
 split at hK0
 ·obtain ⟨ht,hK⟩:=hK0
  rw [Ze] at hK
  rename_i fu ix ca du fe de k0 k1 sd rs a b
  cases hb:Yp Zo (X8 ⟨fu,ix,ca,du,fe,de,k0,k1⟩ sd rs a b) with
  | true=>exact ⟨_,_,_,_,_,.evM Z8J (Zke _ _ _ _ _ _ _ ht rfl hb),Nat.zero_le _,.ret _ _ rfl,.cons _ _ _ _ _ _ rfl (.flat _ _ rfl) (.cons _ _ _ _ _ _ rfl (.rows _ _ _ (fun _ _=>rfl)) .nil),hK.1 hb⟩
  | false=>exact ⟨_,_,_,_,_,.evM Z8J (Zkf _ _ _ _ _ _ _ ht rfl hb),Nat.zero_le _,.ret _ _ rfl,.nil,hK.2 hb⟩
 ·exact hK0.elim
end Go.Tk
end
section
namespace Go.Tk
open IntKind (i64 u8 u32 u64 wrap)
theorem and_mk {a b:Bool} (h1:a=true) (h2:b=true):(a&&b)=true:=by rw [h1,h2];rfl
theorem Zc7 {E:Env} {w:World} {sz n:Nat} {g g':Nat→List AV} (hg:∀i,i<n→g' i=g i) (he:Emb E ⟨1,[(0,.rows sz n g')]⟩ w):Emb E ⟨1,[(0,.rows sz n g)]⟩ w:=by
 have hget:∀(f:Nat→List AV) x B,(Z9.mk 1 [(0,.rows sz n f)]).get x=some B→x=0∧B=.rows sz n f:=fun f x B hx=>by
  simp only [Z9.get,ZH] at hx
  split at hx
  ·rename_i hb
   cases hx
   exact ⟨(Nat.eq_of_beq_eq_true hb).symm,rfl⟩
  ·cases hx
 have h0:∀f:Nat→List AV,(Z9.mk 1 [(0,.rows sz n f)]).get 0=some (.rows sz n f):=fun f=>rfl
 refine ⟨he.fresh,fun x B hx=> ?_,fun x B hx=> ?_,fun x y B B' b N N' hx hy h1 h2=> ?_,he.imm,fun a c x B N hi hx hb=> ?_⟩
 ·obtain ⟨rfl,rfl⟩:=hget _ _ _ hx;exact he.lt 0 _ (h0 _)
 ·obtain ⟨rfl,rfl⟩:=hget _ _ _ hx
  have:=he.own 0 _ (h0 g')
  cases this with
  | rows0 _ _ _ hn hb=>exact .rows0 _ _ _ hn hb
  | rows _ _ _ b cells elem fr gv hb hw hf hc hl hv=>exact .rows _ _ _ b cells elem fr gv hb hw hf (fun i hi=>hg i hi▸hc i hi) hl hv
 ·obtain ⟨rfl,rfl⟩:=hget _ _ _ hx
  obtain ⟨rfl,rfl⟩:=hget _ _ _ hy
  rfl
 ·obtain ⟨rfl,rfl⟩:=hget _ _ _ hx
  exact he.sep a c 0 _ N hi (h0 g') hb
theorem Spec.rows {P:Program} {f:FuncId} {args:List AV} {sz n:Nat} {g g':Nat→List AV} {o:Out} {nx:Nat} {bs:List (Nat×Blk)} (hg:∀i,i<n→g' i=g i) (h:Spec P f args ⟨1,[(0,.rows sz n g)]⟩ o nx bs):Spec P f args ⟨1,[(0,.rows sz n g')]⟩ o nx bs:=by
 intro E w rs he hl
 have he':=Zc7 hg he
 refine (h E w rs he' hl).mono ?_
 rintro e w' ⟨E',hev,ho⟩
 have own:∀b,Ws E ⟨1,[(0,.rows sz n g)]⟩ b↔Ws E ⟨1,[(0,.rows sz n g')]⟩ b:=fun b=>by
  unfold Ws
  constructor
  ·rintro ⟨x,B,N,hx,hb⟩
   simp only [Z9.get,ZH] at hx
   split at hx
   ·rename_i hq;have:=Nat.eq_of_beq_eq_true hq;subst this;exact ⟨0,_,N,rfl,hb⟩
   ·cases hx
  ·rintro ⟨x,B,N,hx,hb⟩
   simp only [Z9.get,ZH] at hx
   split at hx
   ·rename_i hq;have:=Nat.eq_of_beq_eq_true hq;subst this;exact ⟨0,_,N,rfl,hb⟩
   ·cases hx
 exact ⟨E',⟨hev.le,hev.emb,hev.size,hev.os,hev.tape,hev.output,fun b hb hn=>hev.keep b hb (fun h=>hn ((own b).1 h)),fun b hb=>(hev.own b hb).imp (own b).1 id,hev.imm⟩,ho⟩
end Go.Tk
end
section
namespace Go.Tk
open IntKind (i64 u8 u32 u64 wrap)
open Go.Proofs Go.Shelf Go.Lib Go.Sort
theorem Z65 {W w':World} (h1:W.heap.size≤w'.heap.size) (h2:w'.os=W.os) (h3:w'.tape=W.tape) (h4:w'.output=W.output∧W.drawn≤w'.drawn) (h5:∀b,b<W.heap.size→w'.heap[b]? =W.heap[b]?):∃q os',w'=grow (W.drewN q) os':=by
 refine ⟨w'.drawn-W.drawn,w'.heap.extract W.heap.size w'.heap.size, ?_⟩
 obtain ⟨heap,tape,drawn,os,output⟩:=w'
 obtain ⟨heap0,tape0,drawn0,os0,output0⟩:=W
 simp only at h1 h2 h3 h4 h5
 unfold grow World.drewN
 simp only [World.mk.injEq]
 refine ⟨?_,h3,by omega,h2,h4.1⟩
 apply Array.ext_getElem?
 intro i
 rcases Nat.lt_or_ge i heap0.size with h|h
 ·rw [Array.getElem?_append_left h];exact h5 i h
 ·rw [Array.getElem?_append_right h,Array.getElem?_extract]
  rcases Nat.lt_or_ge i heap.size with h'|h'
  ·rw [if_pos (by omega)];congr 1;omega
  ·rw [if_neg (by omega),Array.getElem?_eq_none (by omega)]
section
variable {P:Program} {ρ:Go.Shelf.Ren} {α:Type} [Inhabited α]
theorem Z7E {g k:Nat} {c:α→List AV} {enc:α→List Value} (hc2:∀E x,Zs E (c x) (enc x)) {cf:α→α→Int} (hcmp:∀x y,Zw P g [.agg (c x),.agg (c y)] (.int .i64 (cf x y)) 0 []) (blk off size:Nat) (w:World):
  CmpLays P g #[] enc k cf blk off size w:=by
 intro m os dk hs x y
 have E0:Emb ⟨fun _=>none,fun _ _=>False⟩ ⟨0,[]⟩ (sortWorldK enc k w blk off m dk os):=
  ⟨fun _ _=>rfl,fun x B h=>by simp [Z9.get,ZH] at h,fun x B h=>by simp [Z9.get,ZH] at h,fun x y B B' b N N' h=>by simp [Z9.get,ZH] at h,fun _ _ h=>h.elim,fun _ _ _ _ _ h=>h.elim⟩
 refine (hcmp x y _ _ [.agg (enc x).toArray,.agg (enc y).toArray] E0 (.cons _ _ _ _ (.agg _ _ (hc2 _ _)) (.cons _ _ _ _ (.agg _ _ (hc2 _ _)) .nil))).mono ?_
 rintro e w' ⟨E',r,rfl,hev,hr⟩
 cases hr
 refine ⟨rfl,Z65 hev.size hev.os hev.tape hev.output fun b hb=>hev.keep b hb ?_⟩
 rintro ⟨x,B,N,hx,_⟩
 simp [Z9.get,ZH] at hx
theorem Za3 (L:SlLaysF0.n6 P ρ) {k:Nat} (aE:∀w,(Go.isAgg (ρ.t 24)).run P w=.ok true w) (zE:∀w,(Go.sizeOf (ρ.t 24)).run P w=.ok k w) {c:α→List AV} {enc:α→List Value} (hk:∀x,(enc x).length=k) (hk0:0<k) (h1:∀x,∀v∈enc x,v.oneCell'=true)
  (hc1:∀E x vs,Zs E (c x) vs→vs=enc x) (hc2:∀E x,Zs E (c x) (enc x)) {cf:α→α→Int} (hO:SWO (ltOf cf)) {g:Nat} (eg:∀args w,(callFunc g args).run P w=.ok (.enter g args) w)
  (hcmp:∀x y,Zw P g [.agg (c x),.agg (c y)] (.int .i64 (cf x y)) 0 []) {l L':List α} {n lo:Nat} (hn:l.length=n) (h0:0<n) (hsz:n<4611686018427387904) {f f':Nat→List AV} (hf0:∀i,i<n→f i=c (l.getD i default)) (hf1:∀i,i<n→f' i=c (L'.getD i default))
  (hL:∀l':List α,l'.Perm l→l'.Pairwise (fun a b=>ltOf cf b a=false)→l'=L'):
  Spec P (ρ.f 6) [.nslice ⟨0,0,k,0,0⟩ k n lo,.func (.func g) [] []] ⟨1,[(0,.rows k n f)]⟩ (.ret (.tuple [])) 1 [(0,.rows k n f')]:=by
 intro E w rs he hr
 cases hr with
 | cons v r vs rs hr1 hr2=>
 cases hr2 with
 | cons v2 r2 vs2 rs2 hr2 hr3=>
 cases hr3
 cases hr2 with
 | func fn fi ca fs cs h3 h4=>
 cases h3
 cases h4
 cases hr1 with
 | nslice0 p esz len lo a q1 q2=>omega
 | nslice p esz len lo b N cap hb q1 q2 q3=>
 have hB:=he.own 0 _ rfl
 cases hB with
 | rows0 sz n f q0 hno=>omega
 | rows sz n f b' cells elem fr gg hb' hw hfr hc hl hv=>
 rw [hb'] at hb
 cases hb
 have htot:(ZE.mk 0 0 k 0 0).tot=0:=by simp [ZE.tot]
 rw [htot] at q3⊢
 have hgg:∀i,i<n→gg i=enc (l.getD i default):=fun i hi=>by
  have:=hc i hi
  rw [hf0 i hi] at this
  exact hc1 _ _ _ this
 have hcs:n*k≤cells.size:=by
  rcases Nat.lt_or_ge cells.size (n*k) with h|h
  ·exfalso
   have e:n=(n-1)+1:=by omega
   have hlast:(gg (n-1))[k-1]? =some ((gg (n-1))[k-1]'(by rw [hl _ (by omega)];omega)):=List.getElem?_eq_getElem _
   have:=hv (n-1) (k-1) _ (by omega) hlast
   have e2:(n-1)*k+(k-1)<cells.size:=by
    rcases Nat.lt_or_ge ((n-1)*k+(k-1)) cells.size with h'|h'
    ·exact h'
    ·rw [Array.getElem?_eq_none h'] at this;cases this
   have e3:n*k=(n-1)*k+k:=by rw [e,Nat.add_mul];simp
   omega
  ·exact h
 have hdiv:∀j,j<n*k→j/k<n:=fun j hj=>(Nat.div_lt_iff_lt_mul hk0).2 hj
 have hH:HoldsK enc k w b 0 l.toArray:=by
  intro j hj
  rw [size_flatK] at hj
  have hj:j<n*k:=by simpa [hn] using hj
  have hi:=hdiv j hj
  have hm:j%k<k:=Nat.mod_lt _ hk0
  rw [get_flatK _ _ _ _ (by simpa [hn] using hj)]
  have e:l.toArray[j/k]! =l.getD (j/k) default:=by simp [List.getD_eq_getElem?_getD]
  have hx:(gg (j/k))[j%k]? =some ((enc (l.getD (j/k) default))[j%k]!):=by
   rw [hgg _ hi]
   rw [List.getElem?_eq_getElem (by rw [hk];exact hm)]
   simp [getElem!_pos,hk,hm]
  have hcell:=hv (j/k) (j%k) _ hi hx
  have ej:j/k*k+j%k=j:=by rw [Nat.mul_comm];exact Nat.div_add_mod j k
  rw [ej] at hcell
  refine ⟨?_, ?_⟩
  ·rw [Nat.zero_add,cell_of_heap hw,hcell,e];rfl
  ·unfold World.frozen?
   simp only [Nat.zero_add,hw]
   have:=hfr j (by omega)
   rw [Bool.eq_false_iff]
   simp only [ne_eq,Bool.and_eq_true,decide_eq_true_eq]
   exact this
 have hblk:b<w.heap.size:=(he.own 0 _ rfl).lt hb'
 have hcon:=AnyQ.slices_SortFunc L k aE zE enc hk h1 cf hO g #[] b 0 cap l.toArray w eg (Z7E hc2 hcmp b 0 _ w) hH hblk (by simpa [hn] using hsz)
 have en:l.toArray.size=n:=by simpa using hn
 rw [en] at hcon
 refine hcon.mono ?_
 rintro e w' ⟨rfl,d',m,os,hp,hs,rfl⟩
 obtain ⟨p1,_,p3⟩:=hp
 rw [en] at p1
 have pe:(d'.extract 0 n)=d':=by rw [←p1];simp
 have pe2:(l.toArray.extract 0 n)=l.toArray:=by rw [←en];simp
 rw [pe,pe2] at p3
 have hLd:d'.toList=L':=by
  refine hL _ p3 ?_
  rw [List.pairwise_iff_getElem]
  intro i j hi hj hij
  have:=hs i j (Nat.zero_le _) hij (by simpa [p1] using hj)
  have e1:d'[i]! =d'.toList[i]:=by simp only [Array.length_toList] at hi;simp [getElem!_pos,hi]
  have e2:d'[j]! =d'.toList[j]:=by simp only [Array.length_toList] at hj;simp [getElem!_pos,hj]
  rw [e1,e2] at this
  exact this
 have hheap:(sortWorldK enc k w b 0 m d' os).heap=w.heap.modify b (onCells (putCells id 0 (flatK enc k d')))++os:=rfl
 have hold:∀i,i<w.heap.size→i≠b→(sortWorldK enc k w b 0 m d' os).heap[i]? =w.heap[i]?:=fun i hi hib=>by
  rw [hheap,Array.getElem?_append_left (by simpa using hi),Array.getElem?_modify,if_neg (fun h=>hib h.symm)]
 have hnew:(sortWorldK enc k w b 0 m d' os).heap[b]? =some (.cells (putCells id 0 (flatK enc k d') cells) elem fr):=by
  rw [hheap,Array.getElem?_append_left (by simpa using hblk),Array.getElem?_modify,if_pos rfl,hw];rfl
 have hpsz:(putCells id 0 (flatK enc k d') cells).size=cells.size:=by simp [putCells]
 have hle:w.heap.size≤(sortWorldK enc k w b 0 m d' os).heap.size:=by rw [hheap];simp
 have hown:∀{H:Z9} {i:Nat},H=⟨1,[(0,Blk.rows k n f)]⟩∨H=⟨1,[(0,Blk.rows k n f')]⟩→(Ws E H i↔i=b):=by
  intro H i hq0
  constructor
  ·rintro ⟨x,B,N,hx,hbx⟩
   have hx0:x=0:=by
    rcases hq0 with rfl|rfl
    ·simp only [Z9.get,ZH] at hx
     split at hx
     ·rename_i hq;exact (Nat.eq_of_beq_eq_true hq).symm
     ·cases hx
    ·simp only [Z9.get,ZH] at hx
     split at hx
     ·rename_i hq;exact (Nat.eq_of_beq_eq_true hq).symm
     ·cases hx
   subst hx0
   rw [hb'] at hbx
   cases hbx;rfl
  ·rintro rfl
   rcases hq0 with rfl|rfl<;>exact ⟨0,_,_,rfl,hb'⟩
 have hbn:∀a cc,E.imm a cc→a.block≠b:=fun a cc hi hq=>he.sep a cc 0 _ _ hi rfl (by rw [hb',hq])
 refine ⟨E,⟨.refl E,⟨he.fresh,fun x B hx=> ?_,fun x B hx=> ?_,fun x y B B' bb N N' hx hy _ _=> ?_,fun a cc hi=> ?_,fun a cc x B N hi hx hbx=> ?_⟩,hle,rfl,rfl,⟨rfl,Nat.le_add_right _ _⟩,fun i hi hno=>hold i hi (fun h=>hno ((hown (.inl rfl)).2 h)),fun i ho=>.inl ((hown (.inl rfl)).2 ((hown (.inr rfl)).1 ho)),fun _ _ h=>h⟩,.ret _ _ (.tuple [] [] .nil)⟩
 ·simp only [Z9.get,ZH] at hx
  split at hx
  ·rename_i hq;have:=Nat.eq_of_beq_eq_true hq;show x<1;omega
  ·cases hx
 ·simp only [Z9.get,ZH] at hx
  split at hx
  ·rename_i hq
   have:=Nat.eq_of_beq_eq_true hq
   subst this
   cases hx
   refine .rows k n f' b _ elem fr (fun i=>enc (L'.getD i default)) (by rw [hpsz];exact hb') hnew (fun o ho=>hfr o (by rw [hpsz] at ho;exact ho)) (fun i hi=>by rw [hf1 i hi];exact hc2 _ _) (fun i hi=>hk _) (fun i j cc hi hj=> ?_)
   have hjk:j<k:=by
    have:=(List.getElem?_eq_some_iff.1 hj).1
    rw [hk] at this;exact this
   have ht:i*k+j<n*k:=by
    have:(i+1)*k≤n*k:=Nat.mul_le_mul_right _ hi
    rw [Nat.add_mul,Nat.one_mul] at this
    omega
   unfold putCells
   rw [Array.getElem?_mapIdx,Array.getElem?_eq_getElem (by omega)]
   simp only [Option.map_some]
   rw [if_pos ⟨Nat.zero_le _,by rw [size_flatK,p1];omega⟩,Nat.sub_zero,get_flatK _ _ _ _ (by rw [p1];exact ht)]
   have e1:(i*k+j)/k=i:=by rw [Nat.mul_comm,Nat.mul_add_div hk0,Nat.div_eq_of_lt hjk];rfl
   have e2:(i*k+j)%k=j:=by rw [Nat.mul_comm,Nat.mul_add_mod,Nat.mod_eq_of_lt hjk]
   rw [e1,e2]
   have e3:d'[i]! =L'.getD i default:=by
    have hid:i<d'.size:=by omega
    rw [←hLd,List.getD_eq_getElem?_getD];simp [getElem!_pos,hid]
   rw [e3]
   obtain ⟨hjl,hj2⟩:=List.getElem?_eq_some_iff.1 hj
   rw [←hj2,getElem!_pos (enc (L'.getD i default)) j hjl];rfl
  ·cases hx
 ·simp only [Z9.get,ZH] at hx hy
  split at hx
  ·rename_i hq
   split at hy
   ·rename_i hq'
    rw [←Nat.eq_of_beq_eq_true hq,←Nat.eq_of_beq_eq_true hq']
   ·cases hy
  ·cases hx
 ·have h0:=he.imm a cc hi
  have hlt:a.block<w.heap.size:=by
   rcases Nat.lt_or_ge a.block w.heap.size with hl|hg
   ·exact hl
   ·simp [World.cell?,Array.getElem?_eq_none hg] at h0
  simpa [World.cell?,hold _ hlt (hbn a cc hi)] using h0
 ·have:=(hown (H:=⟨1,[(0,.rows k n f')]⟩) (.inr rfl)).1 ⟨x,B,N,hx,hbx⟩
  exact hbn a cc hi this
end
end Go.Tk
end
section
namespace Go.Tk
open IntKind (i64 u8 u32 u64 wrap)
def Za4:Go.Shelf.Ren:=⟨fun|6=>84|15=>138|14=>137|28=>180|29=>181|20=>172|21=>173|22=>174|23=>175|24=>176|25=>177|26=>178|27=>179|46=>199|47=>200|48=>201|49=>202|50=>203|57=>209|n=>n,fun|22=>74|24=>97|25=>151|3=>3|39=>209|0=>0|53=>222|55=>256|4=>4|46=>248|45=>247|50=>252|5=>5|9=>9|66=>275|70=>279|76=>289|77=>290|n=>n,fun|n=>n⟩
theorem Zii:Go.Proofs.SlLaysF0.n6 PP Za4:={
 mixed:=by kernel_rfl,
 f6:=⟨Go.Proofs.Tryz.f84.name,by decide,Go.Proofs.Tryz.func84.trans (congrArg some (by kernel_rfl))⟩,
 f14:=⟨Go.Proofs.Tryz.f137.name,by decide,Go.Proofs.Tryz.func137.trans (congrArg some (by kernel_rfl))⟩,
 f15:=Go.Proofs.Tryz.func138.trans (congrArg some (by kernel_rfl)),
 f20:=⟨Go.Proofs.Tryz.f172.name,by decide,Go.Proofs.Tryz.func172.trans (congrArg some (by kernel_rfl))⟩,
 f21:=⟨Go.Proofs.Tryz.f173.name,by decide,Go.Proofs.Tryz.func173.trans (congrArg some (by kernel_rfl))⟩,
 f22:=⟨Go.Proofs.Tryz.f174.name,by decide,Go.Proofs.Tryz.func174.trans (congrArg some (by kernel_rfl))⟩,
 f23:=⟨Go.Proofs.Tryz.f175.name,by decide,Go.Proofs.Tryz.func175.trans (congrArg some (by kernel_rfl))⟩,
 f24:=⟨Go.Proofs.Tryz.f176.name,by decide,Go.Proofs.Tryz.func176.trans (congrArg some (by kernel_rfl))⟩,
 f25:=⟨Go.Proofs.Tryz.f177.name,by decide,Go.Proofs.Tryz.func177.trans (congrArg some (by kernel_rfl))⟩,
 f26:=⟨Go.Proofs.Tryz.f178.name,by decide,Go.Proofs.Tryz.func178.trans (congrArg some (by kernel_rfl))⟩,
 f27:=⟨Go.Proofs.Tryz.f179.name,by decide,Go.Proofs.Tryz.func179.trans (congrArg some (by kernel_rfl))⟩,
 f28:=Go.Proofs.Tryz.func180.trans (congrArg some (by kernel_rfl)),
 f29:=Go.Proofs.Tryz.func181.trans (congrArg some (by kernel_rfl)),
 f46:=⟨Go.Proofs.Tryz.f199.name,by decide,Go.Proofs.Tryz.func199.trans (congrArg some (by kernel_rfl))⟩,
 f47:=Go.Proofs.Tryz.func200.trans (congrArg some (by kernel_rfl)),
 f48:=Go.Proofs.Tryz.func201.trans (congrArg some (by kernel_rfl)),
 f49:=⟨Go.Proofs.Tryz.f202.name,by decide,Go.Proofs.Tryz.func202.trans (congrArg some (by kernel_rfl))⟩,
 f50:=⟨Go.Proofs.Tryz.f203.name,by decide,Go.Proofs.Tryz.func203.trans (congrArg some (by kernel_rfl))⟩,
 f57:=⟨Go.Proofs.Tryz.f209.name,by decide,Go.Proofs.Tryz.func209.trans (congrArg some (by kernel_rfl))⟩,
 t0:=Go.Proofs.Tryz.underlying0,
 a0:=Go.Proofs.Tryz.isAgg0,
 z0:=Go.Proofs.Tryz.sizeOf0,
 v0:=Go.Proofs.Tryz.zeroValue0,
 t3:=Go.Proofs.Tryz.underlying3,
 a3:=Go.Proofs.Tryz.isAgg3,
 z3:=Go.Proofs.Tryz.sizeOf3,
 v3:=Go.Proofs.Tryz.zeroValue3,
 t4:=Go.Proofs.Tryz.underlying4,
 a4:=Go.Proofs.Tryz.isAgg4,
 z4:=Go.Proofs.Tryz.sizeOf4,
 v4:=Go.Proofs.Tryz.zeroValue4,
 t5:=Go.Proofs.Tryz.underlying5,
 a5:=Go.Proofs.Tryz.isAgg5,
 z5:=Go.Proofs.Tryz.sizeOf5,
 v5:=Go.Proofs.Tryz.zeroValue5,
 t9:=Go.Proofs.Tryz.underlying9,
 a9:=Go.Proofs.Tryz.isAgg9,
 z9:=Go.Proofs.Tryz.sizeOf9,
 v9:=Go.Proofs.Tryz.zeroValue9,
 t22:=Go.Proofs.Tryz.underlying74,
 a22:=Go.Proofs.Tryz.isAgg74,
 z22:=Go.Proofs.Tryz.sizeOf74,
 v22:=Go.Proofs.Tryz.zeroValue74,
 t25:=Go.Proofs.Tryz.underlying151,
 a25:=Go.Proofs.Tryz.isAgg151,
 z25:=Go.Proofs.Tryz.sizeOf151,
 v25:=Go.Proofs.Tryz.zeroValue151,
 t39:=Go.Proofs.Tryz.underlying209,
 a39:=Go.Proofs.Tryz.isAgg209,
 z39:=Go.Proofs.Tryz.sizeOf209,
 v39:=Go.Proofs.Tryz.zeroValue209,
 t45:=Go.Proofs.Tryz.underlying247,
 a45:=Go.Proofs.Tryz.isAgg247,
 z45:=Go.Proofs.Tryz.sizeOf247,
 v45:=Go.Proofs.Tryz.zeroValue247,
 t46:=Go.Proofs.Tryz.underlying248,
 a46:=Go.Proofs.Tryz.isAgg248,
 z46:=Go.Proofs.Tryz.sizeOf248,
 v46:=Go.Proofs.Tryz.zeroValue248,
 t50:=Go.Proofs.Tryz.underlying252,
 a50:=Go.Proofs.Tryz.isAgg252,
 z50:=Go.Proofs.Tryz.sizeOf252,
 v50:=Go.Proofs.Tryz.zeroValue252,
 t53:=Go.Proofs.Tryz.underlying222,
 a53:=Go.Proofs.Tryz.isAgg222,
 z53:=Go.Proofs.Tryz.sizeOf222,
 v53:=Go.Proofs.Tryz.zeroValue222,
 t55:=Go.Proofs.Tryz.underlying256,
 a55:=Go.Proofs.Tryz.isAgg256,
 z55:=Go.Proofs.Tryz.sizeOf256,
 v55:=Go.Proofs.Tryz.zeroValue256,
 t66:=Go.Proofs.Tryz.underlying275,
 a66:=Go.Proofs.Tryz.isAgg275,
 z66:=Go.Proofs.Tryz.sizeOf275,
 v66:=Go.Proofs.Tryz.zeroValue275,
 t70:=Go.Proofs.Tryz.underlying279,
 a70:=Go.Proofs.Tryz.isAgg279,
 z70:=Go.Proofs.Tryz.sizeOf279,
 v70:=Go.Proofs.Tryz.zeroValue279,
 t76:=Go.Proofs.Tryz.underlying289,
 a76:=Go.Proofs.Tryz.isAgg289,
 z76:=Go.Proofs.Tryz.sizeOf289,
 v76:=Go.Proofs.Tryz.zeroValue289,
 t77:=Go.Proofs.Tryz.underlying290,
 a77:=Go.Proofs.Tryz.isAgg290,
 z77:=Go.Proofs.Tryz.sizeOf290,
 v77:=Go.Proofs.Tryz.zeroValue290}
end Go.Tk
end
section
namespace Go.Tk
open IntKind (i64 u8 u32 u64 wrap)
def Z7F {α:Type} (lt:α→α→Bool) (l:List α):Prop:=l.Pairwise fun a b=>lt b a=false
theorem Z0O {α:Type} {lt:α→α→Bool}:∀{l m:List α},l.Perm m→Z7F lt l→Z7F lt m→(∀a∈l,∀b∈l,lt a b=false→lt b a=false→a=b)→l=m
 | [],m,hp,_,_,_=>by simpa using hp.symm
 | x::r,[],hp,_,_,_=>by simp at hp
 | x::r,y::q,hp,hl,hm,hu=>by
  unfold Z7F at hl hm
  rw [List.pairwise_cons] at hl hm
  have hyx:y=x:=by
   by_cases e:y=x
   ·exact e
   ·have hx:x∈q:=by
     have:=hp.subset (List.mem_cons_self ..)
     rcases List.mem_cons.1 this with h|h
     ·exact absurd h.symm e
     ·exact h
    have hy:y∈r:=by
     have:=hp.symm.subset (List.mem_cons_self ..)
     rcases List.mem_cons.1 this with h|h
     ·exact absurd h e
     ·exact h
    exact hu y (List.mem_cons_of_mem _ hy) x (List.mem_cons_self ..) (hl.1 y hy) (hm.1 x hx)
  subst hyx
  rw [List.perm_cons] at hp
  rw [Z0O hp hl.2 hm.2 fun a ha b hb=>hu a (List.mem_cons_of_mem _ ha) b (List.mem_cons_of_mem _ hb)]
end Go.Tk
end
section
namespace Go.Tk
open IntKind (i64 u8 u32 u64 wrap)
def Wl (h:Z5):Int:=match h.own with
 | true=>0
 | false=>1
def Z66 (a b:Int):Int:=if a<b then -1 else if b<a then 1 else 0
def cfH (a b:Z5):Int:=if Z66 (Wl a) (Wl b)≠0 then Z66 (Wl a) (Wl b) else Z66 a.id b.id
theorem Za5 (b:Bool) (x:Prop):Z0 b x x=x:=by cases b<;>rfl
theorem Zkg (p q:Z5) (r:Int) (hr:r=cfH p q):
  evF G0 20 85 [.agg p.c,.agg q.c] ⟨0,[]⟩ (Y8 (fun v=>v=.int .i64 r)):=by
 refine @Eq.mpr _ (let q1:=p.id;
 let q2:=q1 !=q1;
 let q3:=q.id;
 let q4:=q3 !=q3;
 let q5:=AV.int i64 r;
 let q6:=AV.int i64 0=q5;
 let q7:=AV.int i64 (-1)=q5;
 let q8:=AV.int i64 1=q5;
 let q9:=decide (q1<q3);
 let q10:=decide (q1>q3);
 let q11:=Z0 q2 (Z0 q4 q6 q7) (Z0 q4 q8 (Z0 q9 q7 (Z0 q10 q8 q6)));
 Z0 p.own (Z0 q.own q11 (Z0 q2 (Z0 q4 q7 q7) (Z0 q4 q7 (Z0 q9 q7 (Z0 q10 q7 q7))))) (Z0 q.own (Z0 q2 (Z0 q4 q8 q8) (Z0 q4 q8 (Z0 q9 q8 (Z0 q10 q8 q8)))) q11)) (by kernel_rfl) ?_
 conv=>zeta
 subst hr
 simp only [bne_self_eq_false,ZbQ,Za5]
 unfold cfH Wl Z66
 simp only [ZbR]
 congr 1
 cases p.own<;>cases q.own<;>by_cases h1:p.id<q.id<;>by_cases h2:q.id<p.id<;>simp [h1,h2]
def ltH (a b:Z5):Bool:=Go.Proofs.ltOf cfH a b
theorem Z1o (a b:Z5):ltH a b=true↔Wl a<Wl b∨(Wl a=Wl b∧a.id<b.id):=by
 unfold ltH Go.Proofs.ltOf cfH Z66
 rw [decide_eq_true_iff]
 split<;>split<;>(try split)<;>(try split)<;>omega
theorem Z0s (a b:Z5):ltH a b=false↔¬(Wl a<Wl b∨(Wl a=Wl b∧a.id<b.id)):=by
 rw [←Z1o,Bool.not_eq_true]
theorem Zeq:Go.Sort.SWO (Go.Proofs.ltOf cfH) where
 irrefl x:=by rw [show Go.Proofs.ltOf cfH x x=ltH x x from rfl,Z0s];omega
 trans x y z h1 h2:=by
  rw [show Go.Proofs.ltOf cfH x z=ltH x z from rfl,Z1o]
  have a:=(Z1o x y).1 h1
  have b:=(Z1o y z).1 h2
  omega
 ntrans x y z h1 h2:=by
  rw [show Go.Proofs.ltOf cfH x z=ltH x z from rfl,Z0s]
  have a:=(Z0s x y).1 h1
  have b:=(Z0s y z).1 h2
  omega
def Zer (h:Z5):List Value:=.bool h.own::.int .i64 h.id::.int .i64 h.amount::(intCells .u8 32 h.hash++(.int .i64 h.expiry::.int .i64 h.stage::.int .i64 h.fin::(intCells .u8 32 h.secret++[])))
theorem Z2I (E:Env) (h:Z5):Zs E h.c (Zer h):=
 .one _ _ _ _ rfl rfl (.bool _) (.one _ _ _ _ rfl rfl (.int _ _) (.one _ _ _ _ rfl rfl (.int _ _) (.arr _ _ _ _ _ (.one _ _ _ _ rfl rfl (.int _ _) (.one _ _ _ _ rfl rfl (.int _ _) (.one _ _ _ _ rfl rfl (.int _ _) (.arr _ _ _ _ _ .nil)))))))
theorem Zes (E:Env) (h:Z5) (vs:List Value) (hc:Zs E h.c vs):vs=Zer h:=by
 unfold Z5.c at hc
 obtain ⟨c1,w0,rfl,_,_,h1,k0⟩:=hc.cons_cell (by intros;simp)
 obtain ⟨c2,w1,rfl,_,_,h2,k1⟩:=k0.cons_cell (by intros;simp)
 obtain ⟨c3,w2,rfl,_,_,h3,k2⟩:=k1.cons_cell (by intros;simp)
 obtain ⟨w3,rfl,k3⟩:=k2.cons_arr
 obtain ⟨c4,w4,rfl,_,_,h4,k4⟩:=k3.cons_cell (by intros;simp)
 obtain ⟨c5,w5,rfl,_,_,h5,k5⟩:=k4.cons_cell (by intros;simp)
 obtain ⟨c6,w6,rfl,_,_,h6,k6⟩:=k5.cons_cell (by intros;simp)
 obtain ⟨w7,rfl,k7⟩:=k6.cons_arr
 cases k7
 cases h1;cases h2;cases h3;cases h4;cases h5;cases h6
 rfl
instance:Inhabited Z5:=⟨Z7⟩
theorem Zij:∃(E:Env),True:=⟨⟨fun _=>none,fun _ _=>False⟩,trivial⟩
theorem Zc8 (h:Z5):(Zer h).length=70:=by
 obtain ⟨E,_⟩:=Zij
 have:=(Z2I E h).length
 simpa [Z5.c,csz] using this
theorem Zc9 (h:Z5):∀v∈Zer h,v.oneCell'=true:=by
 obtain ⟨E,_⟩:=Zij
 exact (Z2I E h).all_one
structure Xw (L L':List Z5) (n:Nat):Prop where
 hn:L.length=n
 pos:0<n
 lt:n<1000
 perm:L'.Perm L
 ord:Z7F ltH L'
 uniq:∀a∈L',∀b∈L',ltH a b=false→ltH b a=false→a=b
theorem Zca {L L':List Z5} {n lo:Nat} {f:Nat→List AV} (hf:∀i,i<n→f i=Z4 L i) (h:Xw L L' n):Spec PP 84 [.nslice ⟨0,0,70,0,0⟩ 70 n lo,.func (.func 85) [] []] ⟨1,[(0,.rows 70 n f)]⟩ (.ret (.tuple [])) 1 [(0,.rows 70 n (Z4 L'))]:=
 Za3 (L:=Zii) (k:=70) Go.Proofs.Tryz.isAgg97 Go.Proofs.Tryz.sizeOf97 (c:=Z5.c) Zc8 (by decide) Zc9 Zes Z2I Zeq (g:=85)
  (fun _ _=>Go.Proofs.enters_of Go.Proofs.Tryz.func85 (by kernel_rfl) rfl _ _) (fun x y=>Zw.evV Zr (Zkg x y _ rfl)) h.hn h.pos (by have:=h.lt;omega) hf (fun _ _=>rfl)
  (fun l' hp ho=>(Z0O (lt:=ltH) (h.perm.trans hp.symm) h.ord ho h.uniq).symm)
def Z7G:Ye:=fun args h K=>match args with
 | [.nslice ⟨b,0,70,0,0⟩ 70 _ _,_]=>frA [b] h 20 args fun Bs a=>match Bs,a with
  | [.rows 70 n f],[.nslice ⟨0,0,70,0,0⟩ 70 n' _,.func (.func 85) [] []]=>∃L L',n'=n∧(∀i,i<n→f i=Z4 L i)∧Xw L L' n∧K (.ret (.tuple [])) ⟨h.next,(b,.rows 70 n (Z4 L'))::Yw h.bs b⟩
  | _,_=>False
 | _=>False
theorem Za6 (args:List AV) (h:Z9) (K:KO) (hl:Z7G args h K):Zm PP 84 args h K:=by
 unfold Z7G at hl
 split at hl
 ·refine Spec.fsumm hl fun Bs a hlen hK0=> ?_
  split at hK0
  ·obtain ⟨L,L',rfl,hf,hs,hK⟩:=hK0
   exact ⟨_,_,_,_,_,Zca hf hs,Nat.le_refl _,.ret _ _ rfl,.cons _ _ _ _ _ _ rfl (.rows _ _ _ (fun i _=>Xf _ i)) .nil,hK⟩
  ·exact hK0.elim
 ·exact hl.elim
end Go.Tk
end
section
namespace Go.Tk
open IntKind (i64 u8 u32 u64 wrap)
theorem Zik (N:Nat) (L:List Z5) (hN:N+1<1000000):
  evF G0 20 45 [.vrows 70 (N+1) (Z4 L) (N+1)] ⟨0,[]⟩ (Y7 0 (.ret (.nslice ⟨0,0,70,0,0⟩ 70 (N+1) (N+1))) 1 [(0,.rows 70 (N+1) (Z4 L))]):=by
 refine @Eq.mpr _ (let q1:=N+1;
 let q2:=0+q1;
 let q3:=decide (q2=q1);
 Z0 (decide (q2*112≤140737488355328)) (Z0 q3 (Z0 (decide (q1≤q2)) (Z0 q3 (Za 0 [(0,0)] q1 (Z4 L) (ZW 0 (fun (x:Nat)=>[]) (Z4 L))∧True) False) False) False) False) (by kernel_rfl) ?_
 conv=>zeta
 try simp only [Zg]
 try simp only [Zi]
 try simp only [Zh]
 try simp only [Zj]
 try simp only [Zk]
 try simp only [Ze]
 try simp only [Int.toNat_natCast,Nat.zero_add,true_and,and_true,Nat.le_refl]
 repeat' apply And.intro
 all_goals first|omega|exact Zn fun i hi=>by rw [QK (Nat.zero_le _)];rfl
theorem Zil (L:List Z5) :
  evF G0 20 45 [.nilslice] ⟨0,[]⟩ (Y7 0 (.ret (.nslice ⟨0,0,70,0,0⟩ 70 0 0)) 1 [(0,.rows 70 0 (Z4 L))]):=by
 refine @Eq.mpr _ (True) (by kernel_rfl) ?_
 trivial
theorem Zim (L:List Z5) :
  evF G0 20 45 [.fslice] ⟨0,[]⟩ (Y7 0 (.ret (.nslice ⟨0,0,70,0,0⟩ 70 0 0)) 1 [(0,.rows 70 0 (Z4 L))]):=by
 refine @Eq.mpr _ (Za 0 [(0,0)] 0 (Z4 L) (ZW 0 (fun (x:Nat)=>[]) fun (x:Nat)=>[])∧True) (by kernel_rfl) ?_
 try simp only [Zg]
 try simp only [Zi]
 try simp only [Zh]
 try simp only [Zj]
 try simp only [Zk]
 try simp only [Ze]
 try simp only [Int.toNat_natCast,Nat.zero_add,true_and,and_true,Nat.le_refl]
 first|exact Zn fun i hi=>by omega|exact ⟨Zn fun i hi=>by omega,trivial⟩
theorem Zcb (N:Nat) (L:List Z5) (hN:N<1000000):Zw PP 45 [.vrows 70 N (Z4 L) N] (.nslice ⟨0,0,70,0,0⟩ 70 N N) 1 [(0,.rows 70 N (Z4 L))]:=by
 cases N with
 | zero=>exact Zw.vrows0 (.evM Zr (Zil L)) (.evM Zr (Zim L))
 | succ n=>exact .evM Zr (Zik n L hN)
def Za7:Ye:=fun args h K=>ZO none h true 20 args fun a=>match a with
 | [.vrows 70 n f m]=>∃L,m=n∧f=Z4 L∧n<1000000∧K (.ret (.nslice ⟨h.next,0,70,0,0⟩ 70 n n)) ⟨h.next+1,(h.next,.rows 70 n (Z4 L))::h.bs⟩
 | _=>False
theorem QS (args:List AV) (h:Z9) (K:KO) (hl:Za7 args h K):Zm PP 45 args h K:=by
 refine Zw.fsumm (d:=20) (Zq _ _ _ _ _ hl fun a ha=> ?_)
 split at ha
 ·obtain ⟨L,rfl,rfl,hN,hK⟩:=ha
  exact ⟨_,_,_,_,Zcb _ L hN,rfl,⟨Nat.one_pos,.rows _ _ _ (fun i _=>Xf _ i),trivial⟩,hK⟩
 ·exact ha.elim
end Go.Tk
end
