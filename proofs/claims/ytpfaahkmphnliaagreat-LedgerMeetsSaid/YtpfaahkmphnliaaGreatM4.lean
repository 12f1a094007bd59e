/- M: part 4 of an engine (a symbolic evaluator, proved against the model) and of the walk by it. -/
import Derived.Test.YtpfaahkmphnliaaGreatM3
import Derived.OpenShut
import Derived.WideShapes
import Derived.ChangeSlices
import Derived.WalkKit
import Derived.ProofKit
import Derived.Below
import Derived.Handed
import Derived.Carry
import Derived.Shelf.SlSortCmp.WholeK
set_option linter.unusedVariables false
set_option linter.unusedSimpArgs false
set_option maxRecDepth 100000
set_option maxHeartbeats 0
section
namespace Go.Tk
open IntKind (i64 u8 u32 u64 wrap)
def YR (id n l:Nat) (go ex re jm:Nat→Prop) (En Rn Jn:Nat→St):KE→Prop:=fun X=>
 ∀i,i≤n→(∀j,j<i→go j)→(ex i→X (.exit id) (En i))∧(re i→X .ret (Rn i))∧(jm i→X (.goto l) (Jn i))
theorem Zi {p x:Prop} [Decidable p]:Z0 (decide p) x False=(p∧x):=by
 by_cases h:p
 ·rw [decide_eq_true h];simp [Z0,h]
 ·rw [decide_eq_false h];simp [Z0,h]
theorem Zj {p x:Prop} [Decidable p]:Z0 (decide p) False x=(¬p∧x):=by
 by_cases h:p
 ·rw [decide_eq_true h];simp [Z0,h]
 ·rw [decide_eq_false h];simp [Z0,h]
theorem Zk {p x y:Prop} [Decidable p]:Z0 (decide p) x y=((p→x)∧(¬p→y)):=by
 by_cases h:p
 ·rw [decide_eq_true h];simp [Z0,h]
 ·rw [decide_eq_false h];simp [Z0,h]
theorem Zl {b:Bool} {x:Prop}:Z0 b x False=(b=true∧x):=by cases b<;>simp [Z0]
theorem Zm {b:Bool} {x:Prop}:Z0 b False x=(b=false∧x):=by cases b<;>simp [Z0]
theorem Zh {b:Bool} {x y:Prop}:Z0 b x y=((b=true→x)∧(b=false→y)):=by cases b<;>simp [Z0]
theorem Z9j {k:Nat} {τ:Ren} {v:AV} (hp:v.plain=true) (hc:v.isCell=true) {Z:Prop} (hZ:Z):eqV k τ v v Z:=by
 cases v with
 | ptr p=>cases p<;>simp_all [AV.plain,eqV]
 | map r=>cases r<;>simp_all [AV.plain,eqV]
 | _=>simp_all [AV.plain,eqV,Ul,AV.isCell]
theorem Z3E {k:Nat} {τ:Ren}:∀{l:List AV},plainC l=true→∀{Z:Prop},Z→(∀v∈l,v.isCell=true∨∃k n xs,v=.arr k n xs)→eqC k τ l l Z
 | [],_,Z,hZ,_=>by simp [eqC,hZ]
 | v::r,hp,Z,hZ,hc=>by
  simp only [plainC,Bool.and_eq_true] at hp
  have hr:=Z3E (k:=k) (τ:=τ) hp.2 hZ (fun u hu=>hc u (List.mem_cons_of_mem _ hu))
  rcases hc v (by simp) with hv|⟨kk,n,xs,rfl⟩
  ·have hna:∀a b c,v≠.arr a b c:=fun a b c e=>by subst e;simp [AV.isCell] at hv
   cases v with
   | arr a b c=>exact absurd rfl (hna a b c)
   | agg cs=>simp [AV.isCell] at hv
   | tuple cs=>simp [AV.isCell] at hv
   | _=>simp only [eqC,hv,Bool.and_self];exact Z9j hp.1 hv hr
  ·unfold eqC
   simp [hr,Nat.beq_refl]
theorem UB {k:Nat} {τ:Ren} {n:Nat} {f f':Nat→List AV} (h:∀i,i<n→f' i=f i) (hp:∀i,i<n→plainC (f i)=true) (hc:∀i,i<n→∀v∈f i,v.isCell=true∨∃k n xs,v=.arr k n xs):Zd k τ n f f':=
 ⟨fun i hi=>by rw [h i hi];exact Z3E (hp i hi) trivial (hc i hi)⟩
theorem Zfd {a b:Nat} (h:a<b):Nat.blt a b=true:=by rw [Nat.blt_eq];exact h
theorem Zfe {a b:Nat} (h:Nat.blt a b=true):a<b:=by rw [Nat.blt_eq] at h;exact h
theorem QT {n i:Nat} {f g:Nat→List AV} (h:i<n):Yc n f g i=f i:=by unfold Yc;rw [Zfd h]
theorem UC {n i:Nat} {f g:Nat→List AV} (h:n≤i):Yc n f g i=g (i-n):=by
 unfold Yc
 have:Nat.blt i n=false:=by
  cases hq:Nat.blt i n with
  | false=>rfl
  | true=>have:=Zfe hq;omega
 rw [this]
theorem ZI.vrows0 {P:Program} {f:FuncId} {esz:Nat} {g:Nat→List AV} {v:AV} {nx:Nat} {bs:List (Nat×Blk)} (h1:ZI P f [.nilslice] v nx bs) (h2:ZI P f [.fslice] v nx bs):ZI P f [.vrows esz 0 g 0] v nx bs:=by
 intro E w rs he hr
 cases hr with
 | cons v r vs rs hv ht=>cases ht with
  | nil=>cases hv with
   | vrowsNil esz n f len _ _=>exact h1 E w _ he (.cons _ _ _ _ .nilslice .nil)
   | vrows esz n f len a cap g _ _ _ _ _=>exact h2 E w _ he (.cons _ _ _ _ (.fslice a cap) .nil)
end Go.Tk
namespace Go.Tk
open IntKind (i64 u8 u32 u64 wrap)
mutual
theorem Qp {mv:Option Nat} {h:Z6}:∀(d:Nat) (t:Bool) (v:AV) (K K':AV→Prop),U4 mv h t d v K→(∀a,K a→K' a)→U4 mv h t d v K'
 | 0,t,v,K,K',hl,hK=>by unfold U4 at hl;exact hl.elim
 | d+1,t,v,K,K',hl,hK=>by
  unfold U4 at hl⊢
  split at hl
  all_goals try exact hK _ hl
  all_goals try exact hl.elim
  ·split at hl
   ·split at hl
    ·exact hl.elim
    ·exact hK _ hl
   ·split at hl
    ·split at hl
     ·exact XO _ _ _ _ _ hl fun _ h=>hK _ h
     ·exact hl.elim
    ·split at hl
     ·obtain ⟨h1,h2⟩:=Zb hl
      refine Ul h1 ?_
      split at h2
      ·exact XO _ _ _ _ _ h2 fun _ h=>hK _ h
      ·exact h2.elim
     ·exact hl.elim
    ·exact hl.elim
  ·split at hl
   ·split at hl
    ·exact hl.elim
    ·exact hK _ hl
   ·split at hl
    ·split at hl
     ·obtain ⟨h1,h2⟩:=Zb hl
      exact Ul h1 (hK _ h2)
     ·exact hl.elim
    ·split at hl
     ·obtain ⟨h1,h2,h3⟩:=Zb hl
      exact Ul h1 ⟨h2,hK _ h3⟩
     ·exact hl.elim
    ·split at hl
     ·split at hl
      ·split at hl
       ·split at hl
        ·obtain ⟨h1,h2⟩:=Zb hl
         exact Ul h1 (hK _ h2)
        ·obtain ⟨h1,h2⟩:=Zb hl
         exact Ul h1 (hK _ h2)
        ·exact hl.elim
       ·exact hl.elim
      ·split at hl
       ·refine XO _ _ _ _ _ hl fun _ h=> ?_
        split at h
        ·exact hK _ h
        ·exact h.elim
       ·exact hl.elim
     ·exact hl.elim
    ·exact hl.elim
  ·exact Zu _ _ _ _ _ hl fun _ h=>Zu _ _ _ _ _ h fun _ h=>hK _ h
  ·exact Qp _ _ _ _ _ hl fun _ h=>hK _ h
  ·exact XO _ _ _ _ _ hl fun _ h=>hK _ h
  ·exact Zu _ _ _ _ _ hl fun _ h=>hK _ h
theorem XO {mv:Option Nat} {h:Z6}:∀(d:Nat) (t:Bool) (l:List AV) (K K':List AV→Prop),Vc mv h t d l K→(∀a,K a→K' a)→Vc mv h t d l K'
 | 0,t,l,K,K',hl,hK=>by unfold Vc at hl;exact hl.elim
 | d+1,t,l,K,K',hl,hK=>by
  unfold Vc at hl⊢
  split at hl
  ·exact hK _ hl
  ·exact XO _ _ _ _ _ hl fun _ h=>hK _ h
  ·refine Qp _ _ _ _ _ hl fun _ h=> ?_
   split at h
   ·exact XO _ _ _ _ _ h fun _ h=>hK _ h
   ·exact h.elim
theorem Zu {mv:Option Nat} {h:Z6}:∀(d:Nat) (t:Bool) (l:List AV) (K K':List AV→Prop),ZV mv h t d l K→(∀a,K a→K' a)→ZV mv h t d l K'
 | 0,t,l,K,K',hl,hK=>by unfold ZV at hl;exact hl.elim
 | d+1,t,l,K,K',hl,hK=>by
  unfold ZV at hl⊢
  split at hl
  ·exact hK _ hl
  ·exact Qp _ _ _ _ _ hl fun _ h=>Zu _ _ _ _ _ h fun _ h=>hK _ h
end
end Go.Tk
end
section
namespace Go.Tk
open IntKind (i64 u8 u32 u64 wrap)
def Zff (g:Nat→InS):Nat→List AV:=fun q=>(g q).c
def Yj (g:Nat→Vi):Nat→List AV:=fun q=>(g q).c
theorem Vi.plainC (x:Vi):plainC x.c=true:=rfl
theorem InS.cells (x:InS):∀v∈x.c,v.isCell=true∨∃k n xs,v=.arr k n xs:=by simp [InS.c,AV.isCell]
theorem Vi.cells (x:Vi):∀v∈x.c,v.isCell=true∨∃k n xs,v=.arr k n xs:=by simp [Vi.c,AV.isCell]
theorem XP {k:Nat} {τ:Ren} {n:Nat} {g:Nat→Vi} {f:Nat→List AV} (h:∀i,i<n→f i=(g i).c):Zd k τ n (Yj g) f:=UB h (fun i _=>(g i).plainC) (fun i _=>(g i).cells)
end Go.Tk
end
section
namespace Go.Tk
open IntKind (i64 u8 u32 u64 wrap)
end Go.Tk
end
section
namespace Go.Tk
open IntKind (i64 u8 u32 u64 wrap)
end Go.Tk
end
section
namespace Go.Tk
open IntKind (i64 u8 u32 u64 wrap)
def Z2A (m x:Int):Bool:=decide (x<0∨x>m)
def VA (m:Int) (xs:List Int):Nat→Bool:=fun j=>Z2A m (xs.getD j 0)
@[irreducible] def allIn (m:Int) (xs:List Int):Bool:= !((List.range xs.length).any (VA m xs))
end Go.Tk
end
section
namespace Go.Tk
open IntKind (i64 u8 u32 u64 wrap)
@[irreducible] def Z18 (xs:List Int):Int×Int:=if allIn 1125899906842624 xs=true then (if xs.sum≤1125899906842624 then (xs.sum,0) else (0,150)) else (0,2)
end Go.Tk
end
section
namespace Go.Tk
open IntKind (i64 u8 u32 u64 wrap)
theorem Zc.rows0 {E:Env} {esz:Nat} {f:Nat→List AV} {r:Value} {a:Option Addr} {c:Nat} (h:r=.slice a 0 c) (hc:a=none→c=0):Zc E (.vrows esz 0 f 0) r:=by
 subst h
 cases a with
 | none=>rw [hc rfl];exact .vrowsNil _ _ _ _ rfl rfl
 | some a=>exact .vrows _ _ _ _ a c (fun _=>[]) (Nat.le_refl _) (Nat.zero_le _) (fun i h=>by omega) (fun i h=>by omega) (fun i j c h=>by omega)
theorem Zc.rowsC {E:Env} {esz n:Nat} {f f':Nat→List AV} {r:Value} (h:Zc E (.vrows esz n f n) r) (hf:∀i,i<n→f i=f' i):Zc E (.vrows esz n f' n) r:=by
 cases h with
 | vrowsNil esz n f len h1 h2=>exact .vrowsNil _ _ _ _ h1 h2
 | vrows esz n f len a cap g h1 h2 hc hl hi=>exact .vrows _ _ _ _ a cap g h1 h2 (fun i h=>by rw [←hf i h];exact hc i h) hl hi
structure TxS where
 num:Int
 N:Nat
 ins:Nat→InS
 M:Nat
 outs:Nat→Vi
def TxS.c (t:TxS):List AV:=[.int .i64 t.num,.vrows 130 t.N (Zff t.ins) t.N,.vrows 132 t.M (Yj t.outs) t.M]
structure TxS.Ok (t:TxS):Prop where
 n:t.N<900000000000
 m:t.M<900000000000
 ins:∀i,i<t.N→(t.ins i).Ok
 outs:∀i,i<t.M→(t.outs i).Ok
theorem ZI.conv {P:Program} {f:FuncId} {args args₀:List AV} {v:AV} {nx:Nat} {bs:List (Nat×Blk)} (h:ZI P f args₀ v nx bs) (hc:∀E r,ZE E args r→ZE E args₀ r):ZI P f args v nx bs:=
 fun E w rs he hr=>h E w rs he (hc E rs hr)
theorem ZE.head {E:Env} {v v':AV} {r l:List AV} {rs:List Value} (h:ZE E (v::l) rs) (hv:∀c,Zc E v c→Zc E v' c) (ht:∀cs,ZE E l cs→ZE E r cs):ZE E (v'::r) rs:=by
 cases h with
 | cons v c vs cs h t=>exact .cons _ _ _ _ (hv c h) (ht cs t)
end Go.Tk
end
section
namespace Go.Tk
open IntKind (i64 u8 u32 u64 wrap)
def ZaU (k:Nat) (τ:Ren) (y x:Nat):Ren:=match Nat.blt y k with
 | true=>τ
 | false=>match Z71 τ y with
  | some _=>τ
  | none=>(y,x)::τ
mutual
def Zfg (k:Nat) (τ:Ren):AV→AV→Ren
 | .ptr (some q),v=>match v with|.ptr (some p)=>ZaU k τ q.blk p.blk|_=>τ
 | .nslice q _ _ _,v=>match v with|.nslice p _ _ _=>ZaU k τ q.blk p.blk|_=>τ
 | .map (some y),v=>match v with|.map (some x)=>ZaU k τ y x|_=>τ
 | .yield y,v=>match v with|.yield x=>ZaU k τ y x|_=>τ
 | .func _ fs cs,v=>match v with|.func _ fs' cs'=>Z4G k (Z4G k τ fs fs') cs cs'|_=>τ
 | .iface _ u,v=>match v with|.iface _ u'=>Zfg k τ u u'|_=>τ
 | .agg cs,v=>match v with|.agg cs'=>Z4G k τ cs cs'|_=>τ
 | .tuple cs,v=>match v with|.tuple cs'=>Z4G k τ cs cs'|_=>τ
 | _,_=>τ
def Z4G (k:Nat) (τ:Ren):List AV→List AV→Ren
 | [],_=>τ
 | v::r,l=>match l with|v'::r'=>Z4G k (Zfg k τ v v') r r'|[]=>τ
end
def ZhA (k:Nat) (τ:Ren):Blk→Blk→Ren
 | .flat cs,B=>match B with|.flat cs'=>Z4G k τ cs cs'|_=>τ
 | .map es,B=>match B with|.map es'=>Z4G k (Z4G k τ (es.map (·.1)) (es'.map (·.1))) (es.map (·.2)) (es'.map (·.2))|_=>τ
 | _,_=>τ
def Zgm (k:Nat) (t:Ya):Ya→Ren→Ren
 | [],τ=>τ
 | (x,v)::r,τ=>Zgm k t r (match ZP t x with|some u=>Zfg k τ v u|none=>τ)
def Zfh (k:Nat):List VW→List VW→Ren→Ren
 | .call _ a::r,l,τ=>match l with|.call _ b::r'=>Zfh k r r' (Z4G k τ a b)|_=>τ
 | .mark y::r,l,τ=>match l with|.mark x::r'=>Zfh k r r' (ZaU k τ y x)|_=>τ
 | [],_,τ=>τ
def ZcT (k:Nat) (bs:List (Nat×Blk)):List (Nat×Blk)→Ren→Ren
 | [],τ=>τ
 | (y,B)::r,τ=>ZcT k bs r (match rn k τ y with
  | some x=>match ZF bs x with|some C=>ZhA k τ B C|none=>τ
  | none=>τ)
def ZhB (k:Nat) (s₂ s:St):Ren:=ZcT k s.h.bs s₂.h.bs (ZcT k s.h.bs s₂.h.bs (ZcT k s.h.bs s₂.h.bs (Zfh k s₂.d s.d (Zgm k s.t s₂.t []))))
def Z0T (k:Nat) (s₂ s:St) (Z:Prop):Prop:=U2 k (ZhB k s₂ s) s₂ s Z
theorem U9 {k:Nat} {s₂ s:St} {Z:Prop} (hl:Z0T k s₂ s Z):Z∧Z2r k s s₂:=XC hl
def YS (k:Nat) (o:Out) (nx:Nat) (bs:List (Nat×Blk)):KO:=fun o' h=>match o with
 | .ret v=>match o' with
  | .ret u=>Z0T k ⟨1,[(0,v)],⟨nx,bs⟩,[]⟩ ⟨1,[(0,u)],h,[]⟩ True
  | .panic _=>False
 | .panic v=>match o' with
  | .panic u=>Z0T k ⟨1,[(0,v)],⟨nx,bs⟩,[]⟩ ⟨1,[(0,u)],h,[]⟩ True
  | .ret _=>False
theorem Spec.evM {G:Zf} (hG:G.Ok) {n:Nat} {f:FuncId} {args:List AV} {h0:Z6} {o:Out} {nx:Nat} {bs:List (Nat×Blk)} (h:evF G n f args h0 (YS h0.next o nx bs)):Spec G.P f args h0 o nx bs:=by
 intro E w rs he hl
 refine (Z0l hG h E w rs he hl).mono ?_
 rintro e w' ⟨E',o',h',hK,hev,hor⟩
 unfold YS at hK
 cases o with
 | ret v=>
  cases hor with
  | ret u r hr=>
   obtain ⟨E₂,h1,h2⟩:=Z89 rfl hK he hev hr
   exact ⟨E₂,h1,.ret _ _ h2⟩
  | panic u r hr=>exact hK.elim
 | panic v=>
  cases hor with
  | panic u r hr=>
   obtain ⟨E₂,h1,h2⟩:=Z89 rfl hK he hev hr
   exact ⟨E₂,h1,.panic _ _ h2⟩
  | ret u r hr=>exact hK.elim
theorem Spec.pure {P:Program} {f:FuncId} {args:List AV} {v:AV} {nx:Nat} {bs:List (Nat×Blk)} (h:Spec P f args ⟨0,[]⟩ (.ret v) nx bs):ZI P f args v nx bs:=by
 intro E w rs he hl
 refine (h E w rs he hl).mono ?_
 rintro e w' ⟨E',hev,hor⟩
 cases hor with
 | ret v r hr=>exact ⟨E',r,rfl,hev,hr⟩
theorem ZI.evM {G:Zf} (hG:G.Ok) {n:Nat} {f:FuncId} {args:List AV} {v:AV} {nx:Nat} {bs:List (Nat×Blk)} (h:evF G n f args ⟨0,[]⟩ (YS 0 (.ret v) nx bs)):ZI G.P f args v nx bs:=(Spec.evM hG h).pure
def goM (k:Nat) (S0:St) (C:Prop) (ends:KE→Prop):Nat→St→KE→Prop:=fun k' s X=>match Nat.beq k' k with
 | true=>Z0T k S0 s (C∧ends X)
 | false=>False
def rdM (k id l:Nat) (S1 En Rn Jn:St) (go ex re jm:Prop):KE:=fun e s=>match e with
 | .normal=>Z0T k S1 s go
 | .exit x=>(match Nat.beq x id with|true=>Z0T k En s ex|false=>False)
 | .ret=>Z0T k Rn s re
 | .goto x=>(match Nat.beq x l with|true=>Z0T k Jn s jm|false=>False)
 | .panic _=>False
theorem Zf.withGoM {G:Zf} (hG:G.Ok) {f:FuncId} {id k N n l:Nat} {S En Rn Jn:Nat→St} {S0:St} {C:Prop} {go ex re jm:Nat→Prop} (h1:QN G.P f id=true) (hC:C→S 0=S0∧
   ∀i,i≤n→(∀j,j<i→go j)→ZY G N f id k (S i) (rdM k id l (S (i+1)) (En i) (Rn i) (Jn i) (go i∧i<n) (ex i) (re i) (jm i))):
  (G.withL f id (goM k S0 C (YR id n l go ex re jm En Rn Jn))).Ok:=by
 refine Zf.withL_ok hG h1 ?_
 intro k' s X hl
 unfold goM at hl
 split at hl
 ·rename_i hk
  have:=Nat.eq_of_beq_eq_true hk
  subst this
  obtain ⟨⟨hc,hX⟩,hw⟩:=U9 hl
  obtain ⟨e0,hr⟩:=hC hc
  refine ⟨{ t:Nat//t≤n∧∀j,j<t→go j},fun t=>n-t.1,fun t=>S t.1,⟨0,Nat.zero_le _,fun j hj=>by omega⟩,N,by show Z2r k' s (S 0);rw [e0];exact hw, ?_⟩
  rintro ⟨t,ht,hgo⟩
  refine ⟨_,hr t ht hgo, ?_⟩
  intro e s' hY
  unfold rdM at hY
  split at hY
  ·obtain ⟨⟨hg,hlt⟩,hw'⟩:=U9 hY
   refine ⟨⟨t+1,hlt,fun j hj=> ?_⟩,by show n-(t+1)<n-t;omega,hw'⟩
   by_cases hjt:j=t
   ·rw [hjt];exact hg
   ·exact hgo j (by omega)
  ·split at hY
   ·rename_i hi
    have:=Nat.eq_of_beq_eq_true hi
    subst this
    obtain ⟨hex,hw'⟩:=U9 hY
    exact ⟨_,hw',(hX t ht hgo).1 hex⟩
   ·exact hY.elim
  ·obtain ⟨hre,hw'⟩:=U9 hY
   exact ⟨_,hw',(hX t ht hgo).2.1 hre⟩
  ·split at hY
   ·rename_i hi
    have:=Nat.eq_of_beq_eq_true hi
    subst this
    obtain ⟨hjm,hw'⟩:=U9 hY
    exact ⟨_,hw',(hX t ht hgo).2.2 hjm⟩
   ·exact hY.elim
  ·exact hY.elim
 ·exact hl.elim
end Go.Tk
namespace Go.Tk
open IntKind (i64 u8 u32 u64 wrap)
theorem Zf.withL_join {G H:Zf} (hG:G.Ok) (hP:G.P=H.P) {f:FuncId} {id:Nat} {S:Nat→St→KE→Prop} (h:(H.withL f id S).Ok):(G.withL f id S).Ok where
 draw:=hG.draw
 psumm:=hG.psumm
 fsumm:=hG.fsumm
 lsumm:=fun f' id' S' fn c body hS hf hb hm k s X hs=>by
  have hS0:=hS
  simp only [Zf.withL] at hS
  split at hS
  ·have:=h.lsumm f' id' S' fn c body
   simp only [Zf.withL] at this
   rename_i hq
   rw [hq] at this
   have:=this hS (hP▸hf) hb hm k s X hs
   rw [←hP] at this
   exact this
  ·exact hG.lsumm f' id' S' fn c body hS hf hb hm k s X hs
end Go.Tk
end
section
namespace Go.Tk
open IntKind (i64 u8 u32 u64 wrap)
end Go.Tk
end
section
namespace Go.Tk
open IntKind (i64 u8 u32 u64 wrap)
end Go.Tk
end
section
namespace Go.Tk
open IntKind (i64 u8 u32 u64 wrap)
end Go.Tk
end
section
namespace Go.Tk
open IntKind (i64 u8 u32 u64 wrap)
end Go.Tk
end
section
namespace Go.Tk
open IntKind (i64 u8 u32 u64 wrap)
end Go.Tk
end
section
namespace Go.Tk
open IntKind (i64 u8 u32 u64 wrap)
end Go.Tk
end
section
namespace Go.Tk
open IntKind (i64 u8 u32 u64 wrap)
end Go.Tk
end
section
namespace Go.Tk
open IntKind (i64 u8 u32 u64 wrap)
mutual
/-- Without names; views may be. -/
def AV.vplain:AV→Bool
 | .top|.bool _|.int _ _|.str _|.ptr none|.eslice|.fslice|.nilslice|.map none|.nilFunc|.nilIface|.arr _ _ _=>true
 | .vints _ _ _|.vrows _ _ _ _|.pview _ _=>true
 | .agg cs=>Wj cs
 | .tuple cs=>Wj cs
 | .iface _ v=>v.vplain
 | _=>false
def Wj:List AV→Bool
 | []=>true
 | v::r=>v.vplain&&Wj r
end
mutual
theorem Zc.vplain {E E':Env} (hi:∀a c,E.imm a c→E'.imm a c):∀(v:AV) (r:Value),v.vplain=true→Zc E v r→Zc E' v r
 | .top,r,_,_=>.top r
 | .bool b,r,_,h=>h.plain rfl
 | .int k n,r,_,h=>h.plain rfl
 | .str s,r,_,h=>h.plain rfl
 | .ptr none,r,_,h=>h.plain rfl
 | .eslice,r,_,h=>h.plain rfl
 | .fslice,r,_,h=>h.plain rfl
 | .nilslice,r,_,h=>h.plain rfl
 | .map none,r,_,h=>h.plain rfl
 | .nilFunc,r,_,h=>h.plain rfl
 | .nilIface,r,_,h=>h.plain rfl
 | .arr k n xs,r,_,h=>h.plain rfl
 | .ptr (some p),r,hp,_=>by simp [AV.vplain] at hp
 | .nslice p a b c,r,hp,_=>by simp [AV.vplain] at hp
 | .map (some x),r,hp,_=>by simp [AV.vplain] at hp
 | .func a b c,r,hp,_=>by simp [AV.vplain] at hp
 | .yield x,r,hp,_=>by simp [AV.vplain] at hp
 | .pview cs inn,r,_,h=>by
  cases h with
  | pview cs inn a vs hc hq=>exact .pview cs inn a vs (Zq.mono (⟨fun _ _ h=>by simp [Env.views] at h,hi⟩:E.views.le E'.views) hc) (fun j c h=>hi _ _ (hq j c h))
 | .vints k xs len,r,_,h=>by
  cases h with
  | vintsNil k xs len h1 h2=>exact .vintsNil k xs len h1 h2
  | vints k xs len a cap h1 h2 hq=>exact .vints k xs len a cap h1 h2 (fun i h=>hi _ _ (hq i h))
 | .vrows esz n f len,r,_,h=>by
  cases h with
  | vrowsNil esz n f len h1 h2=>exact .vrowsNil esz n f len h1 h2
  | vrows esz n f len a cap g h1 h2 hc hl hq=>exact .vrows esz n f len a cap g h1 h2 (fun i h=>Zq.mono (⟨fun _ _ h=>by simp [Env.views] at h,hi⟩:E.views.le E'.views) (hc i h)) hl (fun i j c h h'=>hi _ _ (hq i j c h h'))
 | .iface t v,r,hp,h=>by
  cases h with
  | iface t v x hx=>exact .iface t v x (Zc.vplain hi v x (by simpa [AV.vplain] using hp) hx)
 | .agg cs,r,hp,h=>by
  cases h with
  | agg cs vs hc=>exact .agg cs vs (Zq.vplain hi cs vs (by simpa [AV.vplain] using hp) hc)
 | .tuple cs,r,hp,h=>by
  cases h with
  | tuple _ rs hc=>exact .tuple _ rs (ZE.vplain hi cs rs (by simpa [AV.vplain] using hp) hc)
theorem Zq.vplain {E E':Env} (hi:∀a c,E.imm a c→E'.imm a c):∀(l:List AV) (r:List Value),Wj l=true→Zq E l r→Zq E' l r
 | [],r,_,h=>by cases h;exact .nil
 | v::l,r,hp,h=>by
  simp only [Wj,Bool.and_eq_true] at hp
  cases h with
  | one v c vs cs h0 h1 hv t=>exact .one v c _ cs h0 h1 (Zc.vplain hi v c hp.1 hv) (Zq.vplain hi l cs hp.2 t)
  | arr k n xs vs cs t=>exact .arr k n xs _ cs (Zq.vplain hi l cs hp.2 t)
theorem ZE.vplain {E E':Env} (hi:∀a c,E.imm a c→E'.imm a c):∀(l:List AV) (r:List Value),Wj l=true→ZE E l r→ZE E' l r
 | [],r,_,h=>by cases h;exact .nil
 | v::l,r,hp,h=>by
  simp only [Wj,Bool.and_eq_true] at hp
  cases h with
  | cons v c vs cs hv t=>exact .cons v c _ cs (Zc.vplain hi v c hp.1 hv) (ZE.vplain hi l cs hp.2 t)
end
def YM (R:AV→Prop):KO:=fun o _=>match o with
 | .ret u=>(match u.vplain with|true=>R u|false=>False)
 | .panic _=>False
theorem Z7h {P:Program} {f:FuncId} {args:List AV} {h:Z6} {R:AV→Prop} {K:AV→Prop} (hp:Wj args=true) (hc:Zn P f args ⟨0,[]⟩ (YM R)) (hK:∀u,R u→K u):
  Zn P f args h fun o h'=>∃v,o=.ret v∧h'=h∧K v:=by
 intro E w rs he hr
 have hemb:Emb E.views ⟨0,[]⟩ w:=
  ⟨fun x _=>rfl,fun x B h=>by simp [Z6.get,ZF] at h,fun x B h=>by simp [Z6.get,ZF] at h,fun x y B B' b N N' h=>by simp [Z6.get,ZF] at h,he.imm,fun a c x B N _ h=>by simp [Z6.get,ZF] at h⟩
 refine (hc E.views w rs hemb (ZE.vplain (E:=E) (E':=E.views) (fun _ _ h=>h) _ _ hp hr)).mono ?_
 rintro e w' ⟨E₁,o,h',hK0,hev,hor⟩
 cases hor with
 | panic u r hr=>exact hK0.elim
 | ret u r hr=>
  unfold YM at hK0
  simp only at hK0
  split at hK0
  ·rename_i hu
   have hkeep:∀b,b<w.heap.size→w'.heap[b]? =w.heap[b]?:=fun b hb=>hev.keep b hb (fun ⟨x,B,N,hx,_⟩=>by simp [Z6.get,ZF] at hx)
   have hemb':Emb E h w':=by
    refine ⟨he.fresh,he.lt,fun x B hx=>(he.own x B hx).congr fun b N hb=>hkeep b ((he.own x B hx).lt hb),he.disj,fun a c hi=> ?_,he.sep⟩
    have hcc:=he.imm a c hi
    have hlt:a.block<w.heap.size:=by
     rcases Nat.lt_or_ge a.block w.heap.size with hl|hg
     ·exact hl
     ·simp [World.cell?,Array.getElem?_eq_none hg] at hcc
    simpa [World.cell?,hkeep _ hlt] using hcc
   exact ⟨E,.ret u,h,⟨u,rfl,rfl,hK u hK0⟩,⟨.refl E,hemb',hev.size,hev.os,hev.tape,hev.output,fun b hb _=>hkeep b hb,fun b ho=>.inl ho,fun _ _ h=>h⟩,.ret _ _ (Zc.vplain (E:=E₁) (E':=E) (fun a c hi=>hev.imm a c hi) _ _ hu hr)⟩
  ·exact hK0.elim
theorem Yq {G:Zf} (hG:G.Ok) {n:Nat} {f:FuncId} {args:List AV} {h:Z6} {R:AV→Prop} {K:AV→Prop} (hp:Wj args=true) (hc:evF G n f args ⟨0,[]⟩ (YM R)) (hK:∀u,R u→K u):
  Zn G.P f args h fun o h'=>∃v,o=.ret v∧h'=h∧K v:=Z7h hp (Z0l hG hc) hK
end Go.Tk
end
section
namespace Go.Tk
open IntKind (i64 u8 u32 u64 wrap)
end Go.Tk
end
section
namespace Go.Tk
open IntKind (i64 u8 u32 u64 wrap)
inductive Ty where
 | bool
 | int (k:IntKind)
 | str
 | arr (k:IntKind) (n:Nat)
 | ints (k:IntKind)
 | rows (esz:Nat) (ts:List Ty)
def ZaV (P:Program) (r:TypeId→Option (List Ty)) (sz:Nat):Nat→List Field→Option (List Ty)
 | o,[]=>if o=sz then some [] else none
 | o,f::fs=>if f.offset=o then (r f.type).bind fun a=>(ZaV P r sz (o+P.cellsOf f.type) fs).bind fun b=>some (a++b) else none
def Z19 (P:Program):Nat→TypeId→Option (List Ty)
 | 0,_=>none
 | m+1,t=>match P.underlying t with
  | some .bool=>some [.bool]
  | some (.int k)=>some [.int k]
  | some .string=>some [.str]
  | some (.array n e)=>match P.underlying e with
   | some (.int k)=>if P.cellsOf t=n∧P.cellsOf e=1 then some [.arr k n] else none
   | _=>(Z19 P m e).bind fun ts=>if P.cellsOf t=n*P.cellsOf e then some (List.replicate n ts).flatten else none
  | some (.slice e)=>match P.underlying e with
   | some (.int k)=>if P.cellsOf e=1 then some [.ints k] else none
   | _=>(Z19 P m e).bind fun ts=>some [.rows (P.cellsOf e) ts]
  | some (.struct fs)=>ZaV P (Z19 P m) (P.cellsOf t) 0 fs.toList
  | _=>none
mutual
inductive Z0U:Ty→AV→Prop
 | bool (b:Bool):Z0U .bool (.bool b)
 | int (k:IntKind) (n:Int) (h:(Lit.int k n).wf=true):Z0U (.int k) (.int k n)
 | str (s:ByteArray) (h:s.size≤maxLen):Z0U .str (.str s)
 | arr (k:IntKind) (n:Nat) (xs:List Int) (h:xs.length=n) (hw:∀i,i<n→(Lit.int k (xs.getD i 0)).wf=true):Z0U (.arr k n) (.arr k n xs)
 | ints (k:IntKind) (xs:List Int) (n:Nat) (h:xs.length=n) (hm:n≤maxLen) (hw:∀i,i<n→(Lit.int k (xs.getD i 0)).wf=true):Z0U (.ints k) (.vints k xs n)
 | rows (esz:Nat) (ts:List Ty) (n:Nat) (f:Nat→List AV) (hm:n≤maxLen) (h:∀i,i<n→Fits ts (f i)):Z0U (.rows esz ts) (.vrows esz n f n)
inductive Fits:List Ty→List AV→Prop
 | nil:Fits [] []
 | cons (t:Ty) (a:AV) (ts:List Ty) (vz:List AV) (h:Z0U t a) (r:Fits ts vz):Fits (t::ts) (a::vz)
end
theorem Fits.append:∀{ts wz:List Ty} {vz bs:List AV},Fits ts vz→Fits wz bs→Fits (ts++wz) (vz++bs)
 | _,_,_,_,.nil,h=>h
 | _,_,_,_,.cons t a ts vz h r,k=>.cons t a _ _ h (Fits.append r k)
def tE (w:World):Env:=⟨fun _=>none,fun a c=>w.cell? a=some c⟩
section
variable {H:Type} {enc:TypeId×Value→H} {P:Program} {w:World} {sp:Nat→Bool} {held:Bool}
theorem UZ {k:IntKind} {n:Nat} {cs:List Value} (hl:cs.length=n) (h:∀i,i<n→∃z,cs[i]? =some (.int k z)∧(Lit.int k z).wf=true):
  ∃xs:List Int,xs.length=n∧(∀i,i<n→(Lit.int k (xs.getD i 0)).wf=true)∧∀i,i<n→cs[i]? =some (.int k (xs.getD i 0)):=by
 refine ⟨cs.map fun v=>match v with|.int _ z=>z|_=>0,by simp [hl],fun i hi=> ?_,fun i hi=> ?_⟩
 ·obtain ⟨z,h1,h2⟩:=h i hi
  rw [List.getD_eq_getElem?_getD,List.getElem?_map,h1]
  exact h2
 ·obtain ⟨z,h1,h2⟩:=h i hi
  rw [List.getD_eq_getElem?_getD,List.getElem?_map,h1]
  rfl
theorem ZcU {α β:Type} {n:Nat} {p:Nat→α→β→Prop} [Inhabited α] [Inhabited β] (h:∀i,i<n→∃a b,p i a b):∃(f:Nat→α) (g:Nat→β),∀i,i<n→p i (f i) (g i):=
 ⟨fun i=>if hi:i<n then Classical.choose (h i hi) else default,fun i=>if hi:i<n then Classical.choose (Classical.choose_spec (h i hi)) else default,fun i hi=>by
  simp only [hi,dite_true]
  exact Classical.choose_spec (Classical.choose_spec (h i hi))⟩
theorem Z1m:∀(m:Nat) (t:TypeId) (ts:List Ty),Z19 P m t=some ts→∀(fuel:Nat) (cs:List Value) (x:DataW H×List MemPlace),DataW.trod enc P w 0 sp held fuel t cs=some x→∃vz,Fits ts vz∧Zq (tE w) vz cs
 | 0,_,_,ht=>by simp [Z19] at ht
 | m+1,t,ts,ht=>by
  intro fuel cs x hx
  unfold Z19 at ht
  split at ht
  ·rename_i hu
   cases ht
   obtain ⟨b,rfl,_⟩:=DataW.trod_bool hu hx
   exact ⟨[.bool b],.cons _ _ _ _ (.bool b) .nil,.one _ _ _ _ rfl rfl (.bool b) .nil⟩
  ·rename_i k hu
   cases ht
   obtain ⟨n,rfl,_,hw⟩:=DataW.trod_int hu hx
   exact ⟨[.int k n],.cons _ _ _ _ (.int k n hw) .nil,.one _ _ _ _ rfl rfl (.int k n) .nil⟩
  ·rename_i hu
   cases ht
   obtain ⟨s,rfl,_,hw⟩:=DataW.trod_string hu hx
   exact ⟨[.str s],.cons _ _ _ _ (.str s hw) .nil,.one _ _ _ _ rfl rfl (.str s) .nil⟩
  ·rename_i n e hu
   split at ht
   ·rename_i k he
    split at ht
    ·rename_i hc
     obtain ⟨hc,h1⟩:=hc
     cases ht
     obtain ⟨xs,q,rfl,rfl,hl,hn,hi⟩:=DataW.trod_array hu hx
     rw [hc] at hl
     obtain ⟨zs,z1,z2,z3⟩:=UZ (k:=k) hl fun i hlt=>by
      have:=hi i hlt
      rw [List.getElem?_eq_getElem (by omega),h1] at this
      obtain ⟨z,e1,_,e2⟩:=DataW.trod_int he this
      refine ⟨z, ?_,e2⟩
      rw [Nat.mul_one] at e1
      have:=congrArg (fun l=>l[0]?) e1
      simpa using this
     refine ⟨[.arr k n zs],.cons _ _ _ _ (.arr k n zs z1 z2) .nil, ?_⟩
     have:cs=intCells k n zs++[]:=by
      rw [List.append_nil]
      refine List.ext_getElem? fun i=> ?_
      by_cases hlt:i<n
      ·rw [z3 i hlt]
       simp [intCells,hlt]
      ·rw [List.getElem?_eq_none (by omega),List.getElem?_eq_none (by rw [Z4];omega)]
     rw [this]
     exact .arr _ _ _ _ _ .nil
    ·cases ht
   ·obtain ⟨es,e1,e2⟩:=Option.bind_eq_some_iff.1 ht
    split at e2
    ·rename_i hc
     cases e2
     obtain ⟨xs,q,rfl,rfl,hl,hn,hi⟩:=DataW.trod_array hu hx
     rw [hc] at hl
     have key:∀j,j≤n→∃vz,Fits (List.replicate j es).flatten vz∧Zq (tE w) vz (cs.take (j*P.cellsOf e)):=by
      intro j
      induction j with
      | zero=>intro _;exact ⟨[],.nil,by simp;exact .nil⟩
      | succ j ih=>
       intro hj
       obtain ⟨vz,f1,f2⟩:=ih (by omega)
       have:=hi j (by omega)
       rw [List.getElem?_eq_getElem (by omega)] at this
       obtain ⟨bs,p1,p2⟩:=Z1m m _ _ e1 _ _ _ this
       refine ⟨vz++bs, ?_, ?_⟩
       ·rw [List.replicate_succ',List.flatten_append,List.flatten_singleton]
        exact f1.append p1
       ·rw [Nat.succ_mul,List.take_add]
        exact f2.append p2
     obtain ⟨vz,f1,f2⟩:=key n (Nat.le_refl _)
     rw [List.take_of_length_le (by omega)] at f2
     exact ⟨vz,f1,f2⟩
    ·cases e2
  ·rename_i e hu
   split at ht
   ·rename_i k he
    split at ht
    ·rename_i hc
     cases ht
     rcases DataW.trod_slice hu hx with ⟨rfl,_⟩|⟨a,len,cap,elems,rest,n,rfl,rfl,_,_,hl,hm,hlen,hi,_,_⟩
     ·exact ⟨[.vints k [] 0],.cons _ _ _ _ (.ints k [] 0 rfl (Nat.zero_le _) fun i hi=>absurd hi (Nat.not_lt_zero i)) .nil,.one _ _ _ _ rfl rfl (.vintsNil _ _ _ rfl rfl) .nil⟩
     ·obtain ⟨zs,z1,z2,z3⟩:=UZ (k:=k) (n:=len) (cs:=(List.range len).map fun i=>(w.cell? (a.add i)).getD undef) (by simp) fun i hlt=>by
       have:=hi i hlt
       rw [List.getElem?_eq_getElem (by omega),hc,Nat.mul_one] at this
       obtain ⟨cs',h1,h2⟩:=Option.bind_eq_some_iff.1 this
       obtain ⟨z,rfl,_,e2⟩:=DataW.trod_int he h2
       refine ⟨z, ?_,e2⟩
       simp [hlt,Go.ChangeShapes.cell_of_cells?_one h1]
      refine ⟨[.vints k zs len],.cons _ _ _ _ (.ints k zs len z1 (by omega) z2) .nil,.one _ _ _ _ rfl rfl (.vints k zs len a cap (by omega) (by omega) fun i hlt=> ?_) .nil⟩
      rw [z1] at hlt
      have:=hi i hlt
      rw [List.getElem?_eq_getElem (by omega),hc,Nat.mul_one] at this
      obtain ⟨cs',h1,h2⟩:=Option.bind_eq_some_iff.1 this
      obtain ⟨z,rfl,_,e2⟩:=DataW.trod_int he h2
      have h3:=z3 i hlt
      have h4:=Go.ChangeShapes.cell_of_cells?_one h1
      simp [hlt,h4] at h3
      show w.cell? (a.add i)=_
      rw [h4,h3,List.getD_eq_getElem?_getD]
    ·cases ht
   ·obtain ⟨es,h1,h2⟩:=Option.bind_eq_some_iff.1 ht
    cases h2
    rcases DataW.trod_slice hu hx with ⟨rfl,_⟩|⟨a,len,cap,elems,rest,n,rfl,rfl,_,_,hl,hm,hlen,hi,_,_⟩
    ·exact ⟨[.vrows (P.cellsOf e) 0 (fun _=>[]) 0],.cons _ _ _ _ (.rows _ _ 0 _ (Nat.zero_le _) fun i hi=>absurd hi (Nat.not_lt_zero i)) .nil,.one _ _ _ _ rfl rfl (.vrowsNil _ _ _ _ rfl rfl) .nil⟩
    ·obtain ⟨f,g,hfg⟩:=ZcU (n:=len) (p:=fun i (vz:List AV) (vs:List Value)=>Fits es vz∧Zq (tE w) vz vs∧w.cells? 0 (a.add (i*P.cellsOf e)) (P.cellsOf e)=some vs) fun i hlt=>by
      have:=hi i hlt
      rw [List.getElem?_eq_getElem (by omega)] at this
      obtain ⟨cs',k1,k2⟩:=Option.bind_eq_some_iff.1 this
      obtain ⟨vz,f1,f2⟩:=Z1m m _ _ h1 _ _ _ k2
      exact ⟨vz,cs',f1,f2,k1⟩
     refine ⟨[.vrows (P.cellsOf e) len f len],.cons _ _ _ _ (.rows _ _ len f (by omega) fun i hlt=>(hfg i hlt).1) .nil,.one _ _ _ _ rfl rfl (.vrows _ _ _ _ a cap g (Nat.le_refl _) hl (fun i hlt=>(hfg i hlt).2.1) (fun i hlt=>(World.cells?_some (hfg i hlt).2.2).2.1) fun i j c hlt hj=> ?_) .nil⟩
     obtain ⟨_,hl',hc'⟩:=World.cells?_some (hfg i hlt).2.2
     have hj':j<P.cellsOf e:=by
      rcases Nat.lt_or_ge j (P.cellsOf e) with h|h
      ·exact h
      ·rw [List.getElem?_eq_none (by omega)] at hj;cases hj
     have:=hc' j hj'
     rw [hj] at this
     show w.cell? (a.add (i*P.cellsOf e+j))=some c
     rw [←this]
     rw [Addr.add_add]
  ·rename_i fs hu
   obtain ⟨xs,n,rfl,rfl,hl,hn,hf⟩:=DataW.trod_struct hu hx
   have key:∀(l:List Field) (o:Nat) (ts:List Ty) (i0:Nat),ZaV P (Z19 P m) (P.cellsOf t) o l=some ts→(∀i f,l[i]? =some f→fs[i0+i]? =some f)→∃vz,Fits ts vz∧Zq (tE w) vz (cs.drop o):=by
    intro l
    induction l with
    | nil=>
     intro o ts i0 h _
     unfold ZaV at h
     split at h
     ·rename_i ho
      cases h
      exact ⟨[],.nil,by rw [List.drop_eq_nil_of_le (by omega)];exact .nil⟩
     ·cases h
    | cons f l ih=>
     intro o ts i0 h hl'
     unfold ZaV at h
     split at h
     ·rename_i ho
      obtain ⟨a,h1,h2⟩:=Option.bind_eq_some_iff.1 h
      obtain ⟨b,h3,h4⟩:=Option.bind_eq_some_iff.1 h2
      cases h4
      have h0:fs[i0]? =some f:=hl' 0 f rfl
      have hlt:i0<fs.size:=by
       rcases Nat.lt_or_ge i0 fs.size with h|h
       ·exact h
       ·rw [Array.getElem?_eq_none (by omega)] at h0;cases h0
      have k:=hf i0 f h0
      rw [List.getElem?_eq_getElem (by omega),ho] at k
      obtain ⟨vz,p1,p2⟩:=Z1m m _ _ h1 _ _ _ k
      obtain ⟨bs,q1,q2⟩:=ih (o+P.cellsOf f.type) b (i0+1) h3 fun i g hg=>by
       have:=hl' (i+1) g hg
       rw [←this];congr 1;omega
      refine ⟨vz++bs,p1.append q1, ?_⟩
      have e:cs.drop o=(cs.drop o).take (P.cellsOf f.type)++cs.drop (o+P.cellsOf f.type):=by
       rw [←List.drop_drop,List.take_append_drop]
      rw [e]
      exact p2.append q2
     ·cases h
   obtain ⟨vz,h1,h2⟩:=key fs.toList 0 ts 0 ht fun i f h=>by simpa using h
   exact ⟨vz,h1,by simpa using h2⟩
  ·cases ht
def isAgg (P:Program) (t:TypeId):Bool:=match P.underlying t with
 | some (.struct _)|some (.array _ _)=>true
 | _=>false
inductive Z5G:Bool→List Ty→AV→Prop
 | agg (ts:List Ty) (vz:List AV) (h:Fits ts vz):Z5G true ts (.agg vz)
 | one (t:Ty) (a:AV) (h:Z0U t a):Z5G false [t] a
theorem ZaW {m:Nat} {t:TypeId} {ts:List Ty} (ht:Z19 P m t=some ts) (hg:isAgg P t=false) {v:Value} {r:Reach} {b:Nat} (hv:Value.okWide P w r b t v):
  v.cells.toList=[v]∧∃τ,ts=[τ]∧∀k n,τ≠.arr k n:=by
 cases m with
 | zero=>simp [Z19] at ht
 | succ m=>
  unfold Z19 at ht
  unfold isAgg at hg
  split at ht
  ·rename_i hu;cases ht;obtain ⟨b,rfl⟩:=Go.WideShapes.okWide_bool hu hv;exact ⟨rfl,_,rfl,fun _ _ h=>by cases h⟩
  ·rename_i hu;cases ht;obtain ⟨b,rfl⟩:=Go.WideShapes.okWide_int hu hv;exact ⟨rfl,_,rfl,fun _ _ h=>by cases h⟩
  ·rename_i hu;cases ht;obtain ⟨b,rfl⟩:=Go.WideShapes.okWide_string hu hv;exact ⟨rfl,_,rfl,fun _ _ h=>by cases h⟩
  ·rename_i hu;simp [hu] at hg
  ·rename_i hu
   obtain ⟨a,l,c,rfl⟩:=Go.WideShapes.okWide_slice hu hv
   split at ht
   ·split at ht
    ·cases ht;exact ⟨rfl,_,rfl,fun _ _ h=>by cases h⟩
    ·cases ht
   ·obtain ⟨es,h1,h2⟩:=Option.bind_eq_some_iff.1 ht
    cases h2;exact ⟨rfl,_,rfl,fun _ _ h=>by cases h⟩
  ·rename_i hu;simp [hu] at hg
  ·cases ht
theorem ZaX {m:Nat} {t:TypeId} {ts:List Ty} {g:Bool} (ht:Z19 P m t=some ts) (hg:isAgg P t=g) {v:Value} {r:Reach} {b:Nat} (hv:Value.okWide P w r b t v) {d:DataW H} {ps:List MemPlace} (h:DataW.Trod enc P w 0 sp held t v d ps):
  ∃a,Z5G g ts a∧Zc (tE w) a v:=by
 obtain ⟨fuel,hf⟩:=h
 obtain ⟨vz,f1,f2⟩:=Z1m m _ _ ht _ _ _ hf
 cases g with
 | true=>
  have:∃cs,v=.agg cs:=by
   unfold isAgg at hg
   unfold Value.okWide at hv
   split at hg
   ·rename_i hu;simp only [hu] at hv;obtain ⟨cs,rfl,_⟩:=hv;exact ⟨cs,rfl⟩
   ·rename_i hu;simp only [hu] at hv;obtain ⟨cs,rfl,_⟩:=hv;exact ⟨cs,rfl⟩
   ·cases hg
  obtain ⟨cs,rfl⟩:=this
  refine ⟨.agg vz,.agg _ _ f1, ?_⟩
  have:cs=(Value.cells (.agg cs)).toList.toArray:=by simp [Value.cells]
  rw [this]
  exact .agg _ _ f2
 | false=>
  obtain ⟨h1,τ,rfl,h2⟩:=ZaW ht hg hv
  rw [h1] at f2
  cases f1 with
  | cons _ a _ vz f r=>
   cases r
   generalize hL:[v]=L at f2
   cases f2 with
   | one _ _ _ _ h0 h1 h t=>cases hL;exact ⟨_,.one _ _ f,h⟩
   | arr k n xs _ cs t=>cases f;exact absurd rfl (h2 _ _)
end
end Go.Tk
end
section
namespace Go.Tk
open IntKind (i64 u8 u32 u64 wrap)
open Go.ChangeShapes Go.WideShapes Go.RowKit
theorem Zfi (w:World):Emb (tE w) ⟨0,[]⟩ w where
 fresh:=fun _ _=>rfl
 lt:=fun x B h=>by simp [Z6.get,ZF] at h
 own:=fun x B h=>by simp [Z6.get,ZF] at h
 disj:=fun x y B B' b N N' h=>absurd h (by simp [Z6.get,ZF])
 imm:=fun _ _ h=>h
 sep:=fun a c x B N _ h=>absurd h (by simp [Z6.get,ZF])
theorem Zn.topT {P:Program} {f:FuncId} {args:List AV} (h:Zn P f args ⟨0,[]⟩ fun o h'=>∃v,o=.ret v∧h'=⟨0,[]⟩∧v=.bool true) {w:World} {rs:List Value} (hl:ZE (tE w) args rs):
  Calls P f rs.toArray w fun e w'=>e=.returned (.bool true)∧Go.RowKit.Below w.heap.size w w':=by
 refine (h (tE w) w rs (Zfi w) hl).mono ?_
 rintro e w' ⟨E',o,h',⟨v,rfl,rfl,hv⟩,hev,hor⟩
 obtain rfl:=hv
 cases hor with
 | ret v r hr=>
  cases hr
  refine ⟨rfl,hev.os,hev.tape,hev.output.1,hev.size,fun k hk=>hev.keep k hk ?_⟩
  rintro ⟨x,B,N,hx,_⟩
  exact absurd hx (by simp [Z6.get,ZF])
def Z7i (P:Program) (m:Nat):List TypeId→Option (List (Bool×List Ty))
 | []=>some []
 | t::r=>(Z19 P m t).bind fun a=>(Z7i P m r).bind fun b=>some ((isAgg P t,a)::b)
inductive Z3F:List (Bool×List Ty)→List AV→Prop
 | nil:Z3F [] []
 | cons (g:Bool) (ts:List Ty) (a:AV) (r:List (Bool×List Ty)) (vz:List AV) (h:Z5G g ts a) (k:Z3F r vz):Z3F ((g,ts)::r) (a::vz)
section
variable {H:Type} {enc:TypeId×Value→H} {P:Program} {w:World}
theorem Z3G {m:Nat} {r:Reach} {b:Nat}:∀{ts:List TypeId} {τs:List (Bool×List Ty)} {vs:List Value} {ds:List (DataW H)} {ps:List MemPlace},Z7i P m ts=some τs→(∀(j:Nat) t v,ts[j]? =some t→vs[j]? =some v→Value.okWide P w r b t v)→
  DataW.TrodAll enc P w 0 (fun _=>true) true ts vs ds ps→∃vz,Z3F τs vz∧ZE (tE w) vz vs
 | [],τs,vs,ds,ps,ha,_,h=>by
  cases ha
  obtain ⟨rfl,_,_⟩:=trodAll_nil h
  exact ⟨[],.nil,.nil⟩
 | t::ts,τs,vs,ds,ps,ha,hv,h=>by
  obtain ⟨a,h1,h2⟩:=Option.bind_eq_some_iff.1 ha
  obtain ⟨c,h3,h4⟩:=Option.bind_eq_some_iff.1 h2
  cases h4
  obtain ⟨v,vs',d,ds',p,q,rfl,rfl,rfl,k1,k2⟩:=trodAll_cons h
  obtain ⟨x,f1,f2⟩:=ZaX h1 rfl (hv 0 t v rfl rfl) k1
  obtain ⟨vz,g1,g2⟩:=Z3G h3 (fun j t' v' e1 e2=>hv (j+1) t' v' e1 e2) k2
  exact ⟨x::vz,.cons _ _ _ _ _ f1 g1,.cons _ _ _ _ f2 g2⟩
theorem Z0V {sp:Nat→Bool} {held:Bool}:∀{ts:List TypeId} {vs:List Value} {ds:List (DataW H)} {ps:List MemPlace},DataW.TrodAll enc P w 0 sp held ts vs ds ps→ds.length=ts.length
 | [],_,_,_,h=>by obtain ⟨_,rfl,_⟩:=trodAll_nil h;rfl
 | t::ts,_,_,_,h=>by
  obtain ⟨v,vs',d,ds',p,q,rfl,rfl,rfl,k1,k2⟩:=trodAll_cons h
  simp [Z0V k2]
theorem Z3H {W':World} (laid:laidOutB P=true) (hb:Below w.heap.size w W'):∀{ts:List TypeId} {vs:List Value} {ds:List (DataW H)} {ps:List MemPlace},ts.all (fun t=>P.readableRec t&&decide (t<P.types.size))=true→
  DataW.TrodAll enc P w 0 (fun _=>true) true ts vs ds ps→DataW.TrodAll enc P W' 0 (fun b=>decide (b<w.heap.size)) true ts vs ds ps
 | [],_,_,_,_,h=>by obtain ⟨rfl,rfl,rfl⟩:=trodAll_nil h;exact trodAll_mk0
 | t::ts,_,_,_,hr,h=>by
  obtain ⟨v,vs',d,ds',p,q,rfl,rfl,rfl,k1,k2⟩:=trodAll_cons h
  simp only [List.all_cons,Bool.and_eq_true,decide_eq_true_eq] at hr
  have lt:∀x∈p,x.block<w.heap.size:=by obtain ⟨m,hm⟩:=k1;exact DataW.trod_lt m _ _ _ hm
  exact trodAll_cons_mk (Below.trod laid hr.1.1 hr.1.2 k1 hb lt) (Z3H laid hb hr.2 k2)
end
theorem lifted_gen {H:Type} {enc:TypeId×Value→H} {C:Checked} {os:Os} {f:FuncId} {fn:Func} {s:ChangeSpec} {conds:List PathCond} {tb:TypeId} {m:Nat} {τs:List (Bool×List Ty)}
  (own:ownKnob C.prog.godebug=none) (laid:laidOutB C.prog=true) (started:os.Started) (noInit:C.prog.inits.idxOf? f=none) (hfn:C.prog.funcs[f]? =some fn)
  (witness:∃(w:World) (tape:Tape) (i:Input),w.os=os∧(w.forCall tape i).Shaped C.prog∧i.vars=[]∧Input.okWide C.prog (w.forCall tape i) .any w.heap.size f i∧
   s.pre6 enc C.prog fn conds false (w.forCall tape i).memory i.args∧({}:Assume).holds C.prog (lone (Frame.enter C.prog f i.args .normal) [] (w.forCall tape i)))
  (hvars:s.vars=[]) (hr:fn.resultTypes= #[tb]) (hb:C.prog.underlying tb=some .bool) (hread:fn.params.toList.all (fun t=>C.prog.readableRec t&&decide (t<C.prog.types.size))=true) (hτ:Z7i C.prog m fn.params.toList=some τs)
  (hs:∀ds:List (DataW H),ds.length=fn.params.toList.length→s.fn H ds={ results:=[.lit (.bool true)],args:=ds})
  (walk:∀vz,Z3F τs vz→Zn C.prog f vz ⟨0,[]⟩ fun o h'=>∃v,o=.ret v∧h'=⟨0,[]⟩∧v=.bool true):
  ReturnsInHanded {} C os f .any (s.pre6 enc C.prog fn conds false) (s.post enc C.prog fn false true false false):=by
 refine returnsInHanded_of_change own started noInit hfn witness ?_
 intro W base args ds gs before hval hW _ _
 have hW':=hW
 obtain ⟨p,q,hA,hV,rfl,hfz,hnd⟩:=hW
 have hV0:=hV
 rw [hvars] at hV
 obtain ⟨rfl,rfl⟩:=trodVars_none hV
 obtain ⟨vz,f1,f2⟩:=Z3G hτ (fun j t v e1 e2=>hval j t v (by simpa using e1) (by simpa using e2)) hA
 have e0:args=args.toList.toArray:=by simp
 have key:=(walk vz f1).topT f2
 rw [←e0] at key
 refine key.mono fun e W' ⟨he,bel⟩=> ?_
 subst he
 have hfn':=hs ds (Z0V hA)
 refine ⟨_,rfl,ds,[],_,[],p,[],hW', ?_, ?_, ?_,bel.frame _,fun h=>by cases h⟩
 ·rw [List.append_nil,hfn',hr]
  exact trodAll_mk1 (shut_bool hb _)
 ·rw [List.append_nil,hfn']
  exact Z3H laid bel hread hA
 ·rw [List.append_nil,hfn',hvars]
  rfl
end Go.Tk
end
section
namespace Go.Tk
open IntKind (i64 u8 u32 u64 wrap)
end Go.Tk
end
section
namespace Go.Tk
open IntKind (i64 u8 u32 u64 wrap)
structure Bytes (xs:List Int):Prop where
 h:∀i:Nat,0≤xs.getD i 0∧xs.getD i 0≤255
theorem Bytes.drop {xs:List Int} (h:Bytes xs) (n:Nat):Bytes (xs.drop n):=⟨fun i=>by
 have:=h.h (n+i)
 rw [List.getD_eq_getElem?_getD] at this
 rw [List.getD_eq_getElem?_getD,List.getElem?_drop]
 exact this⟩
def inZ:InS:=⟨Z9,0,0,Z9,Z9,Z9⟩
def ZhC:Vi:=⟨0,0,Z9,Z9,Z9,Z9,0,0⟩
end Go.Tk
end
section
namespace Go.Tk
open IntKind (i64 u8 u32 u64 wrap)
theorem Z8a {a b:Int} (ha:0≤a∧a<256) (hb:0≤b∧b<256):(Xz a=Xz b↔a=b)∧(Xz a<Xz b↔a<b):=by
 unfold Xz
 rw [←UInt8.toNat_inj,UInt8.lt_iff_toNat_lt]
 simp only [UInt8.toNat_ofNat']
 omega
theorem Bytes.getD {xs:List Int} (h:Bytes xs) (i:Nat):0≤xs.getD i 0∧xs.getD i 0<256:=by
 have:=h.h i
 omega
end Go.Tk
end
section
namespace Go.Tk
open IntKind (i64 u8 u32 u64 wrap)
def Zfj {ι:Type} (S:ι→Nat→St→KE→Prop):Nat→St→KE→Prop:=fun k s X=>∃i,S i k s X
theorem Zf.withL_ex {ι:Type} {G:Zf} (hG:G.Ok) {f:FuncId} {id:Nat} {S:ι→Nat→St→KE→Prop} (h1:∀i,(G.withL f id (S i)).Ok):(G.withL f id (Zfj S)).Ok where
 draw:=hG.draw
 psumm:=hG.psumm
 fsumm:=hG.fsumm
 lsumm:=fun f' id' S' fn c body hS hf hb hm k s X hs=>by
  have hS0:=hS
  simp only [Zf.withL] at hS
  split at hS
  ·rename_i hq
   cases hS
   obtain ⟨i,hs⟩:=hs
   have a1:=(h1 i).lsumm f' id' (S i) fn c body
   simp only [Zf.withL,hq] at a1
   exact a1 trivial hf hb hm k s X hs
  ·exact hG.lsumm f' id' S' fn c body hS hf hb hm k s X hs
structure TxB (t:TxS):Prop where
 h:∀i,i<t.M→Bytes (t.outs i).owner∧Bytes (t.outs i).other
end Go.Tk
end
section
namespace Go.Tk
open IntKind (i64 u8 u32 u64 wrap)
end Go.Tk
end
section
namespace Go.Tk
open IntKind (i64 u8 u32 u64 wrap)
end Go.Tk
end
section
namespace Go.Tk
open IntKind (i64 u8 u32 u64 wrap)
theorem ZaY {n:Nat} {xs:List Int} (h:xs.length=n) (hw:∀i,i<n→(Lit.int .u8 (xs.getD i 0)).wf=true):Bytes xs:=⟨fun i=>by
 by_cases hi:i<n
 ·have:=hw i hi
  simp [Lit.wf] at this
  have m1:u8.min=0:=rfl
  have m2:u8.max=255:=rfl
  simp
  omega
 ·rw [List.getD_eq_getElem?_getD,List.getElem?_eq_none (by omega)];simp⟩
structure InS.By (x:InS):Prop where
 name:Bytes x.name
 tag:Bytes x.tag
 also:Bytes x.also
 secret:Bytes x.secret
structure Vi.By (x:Vi):Prop where
 owner:Bytes x.owner
 other:Bytes x.other
 point:Bytes x.point
 hash:Bytes x.hash
structure Zez (t:TxS):Prop where
 ins:∀i,i<t.N→(t.ins i).By
 outs:∀i,i<t.M→(t.outs i).By
theorem Zez.b {t:TxS} (h:Zez t):TxB t:=⟨fun i hi=>⟨(h.outs i hi).owner,(h.outs i hi).other⟩⟩
theorem pick {α:Type} [Inhabited α] {n:Nat} {p:Nat→α→Prop} (h:∀i,i<n→∃a,p i a):∃f:Nat→α,∀i,i<n→p i (f i):=
 ⟨fun i=>if hi:i<n then Classical.choose (h i hi) else default,fun i hi=>by
  simp only [hi,dite_true]
  exact Classical.choose_spec (h i hi)⟩
instance:Inhabited InS:=⟨inZ⟩
instance:Inhabited Vi:=⟨ZhC⟩
theorem Zn.conv {P:Program} {f:FuncId} {us bs:List AV} {h:Z6} {K:KO} (hc:Zn P f bs h K) (hr:∀E rs,ZE E us rs→ZE E bs rs):Zn P f us h K:=
 fun E w rs he hl=>hc E w rs he (hr E rs hl)
theorem Bytes.nil:Bytes []:=⟨fun i=>by simp⟩
theorem Bytes.cons {x:Int} {xs:List Int} (hx:0≤x∧x≤255) (h:Bytes xs):Bytes (x::xs):=⟨fun i=>by
 cases i with
 | zero=>simpa using hx
 | succ i=>have:=h.h i;simpa using this⟩
theorem ZhD (x:Int):0≤u8.wrap x∧u8.wrap x≤255:=by
 unfold wrap
 simp [IntKind.bits,IntKind.signed]
 omega
end Go.Tk
end
section
namespace Go.Tk
open IntKind (i64 u8 u32 u64 wrap)
end Go.Tk
end
section
namespace Go.Tk
open IntKind (i64 u8 u32 u64 wrap)
def WR (a b c:Int):Nat→Int
 | 0=>0
 | i+1=>if 2≤u32.wrap (u32.wrap (Int.tmod (Zy .u32 a i) 2+Int.tmod (Zy .u32 b i) 2)+Int.tmod (Zy .u32 c i) 2) then u32.wrap (WR a b c i+ZG .u32 1 i) else WR a b c i
def Vk (a b c:Int):Nat→Int
 | 0=>0
 | i+1=>u32.wrap (Vk a b c i+ZG .u32 (if Int.tmod (Zy .u32 a i) 2=1 then Int.tmod (Zy .u32 b i) 2 else Int.tmod (Zy .u32 c i) 2) i)
def moS (a b c:Int) (o:Int) (i:Nat):St:=⟨33,[(8,.int .u64 i),(0,.int .u32 a),(1,.int .u32 b),(2,.int .u32 c),(7,.int .u32 o)],⟨0,[]⟩,[]⟩
def moR (o:Int):St:=⟨33,[(7,.int .u32 o)],⟨0,[]⟩,[]⟩
theorem ZeA {x:Int} (h:0≤x∧x<18446744073709551616):u64.wrap x=x:=by
 unfold wrap
 simp [IntKind.bits,IntKind.signed]
 omega
theorem Zfk (a b c o o':Int) (i:Nat) (Z1 Z2:Prop) (hi:i≤32) (ho:o'=if 2≤u32.wrap (u32.wrap (Int.tmod (Zy .u32 a i) 2+Int.tmod (Zy .u32 b i) 2)+Int.tmod (Zy .u32 c i) 2) then u32.wrap (o+ZG .u32 1 i) else o) (h1:i<32→Z1) (h2:i=32→Z2):
  ZY G0 20 170 0 0 (moS a b c o i) (rdM 0 0 9 (moS a b c o' (i+1)) (moR o) (moR o) (moR o) Z1 Z2 False False):=by
 refine @Eq.mpr _ (let q1:=decide (wrap u64 ((↑i:Int)+1)=(↑(i+1):Int));
 let q2:=decide (a=a);
 let q3:=decide (b=b);
 let q4:=decide (c=c);
 Z0 (decide ((↑i:Int)<32)) (Z0 (decide (wrap u32 (wrap u32 (Int.tmod (Zy u32 a (↑i:Int)) 2+Int.tmod (Zy u32 b (↑i:Int)) 2)+Int.tmod (Zy u32 c (↑i:Int)) 2)≥2)) (Z0 q1 (Z0 q2 (Z0 q3 (Z0 q4 (Z0 (decide (wrap u32 (o+ZG u32 1 (↑i:Int))=o')) Z1 False) False) False) False) False) (Z0 q1 (Z0 q2 (Z0 q3 (Z0 q4 (Z0 (decide (o=o')) Z1 False) False) False) False) False)) (Z0 (decide (o=o)) Z2 False)) (by kernel_rfl) ?_
 conv=>zeta
 try simp only [Zi]
 try simp only [Zj]
 try simp only [Zk]
 try simp only [Zl]
 try simp only [Zm]
 try simp only [Zh]
 try simp only [Int.toNat_natCast,Nat.zero_add,true_and,and_true,Nat.le_refl]
 have hw:u64.wrap ((i:Int)+1)=((i+1:Nat):Int):=ZeA (by omega)
 refine ⟨fun hlt=>⟨fun hc=> ?_,fun hc=> ?_⟩,fun hge=>h2 (by omega)⟩
 ·rw [if_pos hc] at ho
  exact ⟨hw,ho.symm,h1 (by omega)⟩
 ·rw [if_neg hc] at ho
  exact ⟨hw,ho.symm,h1 (by omega)⟩
theorem Zfl (a b c o o':Int) (i:Nat) (Z1 Z2:Prop) (hi:i≤32) (ho:o'=u32.wrap (o+ZG .u32 (if Int.tmod (Zy .u32 a i) 2=1 then Int.tmod (Zy .u32 b i) 2 else Int.tmod (Zy .u32 c i) 2) i)) (h1:i<32→Z1) (h2:i=32→Z2):
  ZY G0 20 169 0 0 (moS a b c o i) (rdM 0 0 9 (moS a b c o' (i+1)) (moR o) (moR o) (moR o) Z1 Z2 False False):=by
 refine @Eq.mpr _ (let q1:=decide (wrap u64 ((↑i:Int)+1)=(↑(i+1):Int));
 let q2:=decide (a=a);
 let q3:=decide (b=b);
 let q4:=decide (c=c);
 Z0 (decide ((↑i:Int)<32)) (Z0 (Int.tmod (Zy u32 a (↑i:Int)) 2==1) (Z0 q1 (Z0 q2 (Z0 q3 (Z0 q4 (Z0 (decide (wrap u32 (o+ZG u32 (Int.tmod (Zy u32 b (↑i:Int)) 2) (↑i:Int))=o')) Z1 False) False) False) False) False) (Z0 q1 (Z0 q2 (Z0 q3 (Z0 q4 (Z0 (decide (wrap u32 (o+ZG u32 (Int.tmod (Zy u32 c (↑i:Int)) 2) (↑i:Int))=o')) Z1 False) False) False) False) False)) (Z0 (decide (o=o)) Z2 False)) (by kernel_rfl) ?_
 conv=>zeta
 try simp only [Zi]
 try simp only [Zj]
 try simp only [Zk]
 try simp only [Zl]
 try simp only [Zm]
 try simp only [Zh]
 try simp only [Int.toNat_natCast,Nat.zero_add,true_and,and_true,Nat.le_refl]
 have hw:u64.wrap ((i:Int)+1)=((i+1:Nat):Int):=ZeA (by omega)
 refine ⟨fun hlt=>⟨fun hc=> ?_,fun hc=> ?_⟩,fun hge=>h2 (by omega)⟩
 ·rw [if_pos (by simpa using hc)] at ho
  exact ⟨hw,ho.symm,h1 (by omega)⟩
 ·rw [if_neg (by simpa using hc)] at ho
  exact ⟨hw,ho.symm,h1 (by omega)⟩
@[irreducible] def Xl (a b c:Int):Int:=WR a b c 32
@[irreducible] def Xd (a b c:Int):Int:=Vk a b c 32
noncomputable def Zfm (a b c:Int):Zf:=G0.withL 170 0 (goM 0 (moS a b c 0 0) True (YR 0 32 9 (fun i=>i<32) (fun i=>i=32) (fun _=>False) (fun _=>False) (fun i=>moR (WR a b c i)) (fun i=>moR (WR a b c i)) (fun i=>moR (WR a b c i))))
theorem ZcV (a b c:Int):(Zfm a b c).Ok:=by
 unfold Zfm
 refine Zf.withGoM (N:=20) (S:=fun i=>moS a b c (WR a b c i) i) ZB (by kernel_rfl) fun hC=>⟨rfl,fun i hi hgo=> ?_⟩
 exact Zfk a b c (WR a b c i) (WR a b c (i+1)) i _ _ hi rfl (fun h=>⟨h,h⟩) (fun h=>h)
noncomputable def Zfn (a b c:Int):Zf:=G0.withL 169 0 (goM 0 (moS a b c 0 0) True (YR 0 32 9 (fun i=>i<32) (fun i=>i=32) (fun _=>False) (fun _=>False) (fun i=>moR (Vk a b c i)) (fun i=>moR (Vk a b c i)) (fun i=>moR (Vk a b c i))))
theorem ZcW (a b c:Int):(Zfn a b c).Ok:=by
 unfold Zfn
 refine Zf.withGoM (N:=20) (S:=fun i=>moS a b c (Vk a b c i) i) ZB (by kernel_rfl) fun hC=>⟨rfl,fun i hi hgo=> ?_⟩
 exact Zfl a b c (Vk a b c i) (Vk a b c (i+1)) i _ _ hi rfl (fun h=>⟨h,h⟩) (fun h=>h)
theorem Zfo (a b c:Int) (o:Int) (ho:o=WR a b c 32):
  evF (Zfm a b c) 20 170 [.int .u32 a,.int .u32 b,.int .u32 c] ⟨0,[]⟩ (W7 0 [] (.int .u32 o) 0 []):=by
 refine @Eq.mpr _ (Z0 (decide (a=a)) (Z0 (decide (b=b)) (Z0 (decide (c=c)) (True∧∀(i:Nat),i≤32→(∀(j:Nat),j<i→(fun (i:Nat)=>i<32) j)→(i=32→Z0 (decide (WR a b c i=o)) True False)∧(False→False)∧(False→False)) False) False) False) (by kernel_rfl) ?_
 try simp only [Zi]
 try simp only [Zj]
 try simp only [Zk]
 try simp only [Zl]
 try simp only [Zm]
 try simp only [Zh]
 try simp only [Int.toNat_natCast,Nat.zero_add,true_and,and_true,Nat.le_refl]
 subst ho
 exact fun i hi _=>⟨fun he=>by subst he;rfl,fun h=>h,fun h=>h⟩
theorem Zfp (a b c:Int) (o:Int) (ho:o=Vk a b c 32):
  evF (Zfn a b c) 20 169 [.int .u32 a,.int .u32 b,.int .u32 c] ⟨0,[]⟩ (W7 0 [] (.int .u32 o) 0 []):=by
 refine @Eq.mpr _ (Z0 (decide (a=a)) (Z0 (decide (b=b)) (Z0 (decide (c=c)) (True∧∀(i:Nat),i≤32→(∀(j:Nat),j<i→(fun (i:Nat)=>i<32) j)→(i=32→Z0 (decide (Vk a b c i=o)) True False)∧(False→False)∧(False→False)) False) False) False) (by kernel_rfl) ?_
 try simp only [Zi]
 try simp only [Zj]
 try simp only [Zk]
 try simp only [Zl]
 try simp only [Zm]
 try simp only [Zh]
 try simp only [Int.toNat_natCast,Nat.zero_add,true_and,and_true,Nat.le_refl]
 subst ho
 exact fun i hi _=>⟨fun he=>by subst he;rfl,fun h=>h,fun h=>h⟩
def Z1n (F:Int→Int→Int→Int):ZU:=fun args _ K=>match args with
 | [.int .u32 a,.int .u32 b,.int .u32 c]=>K (.int .u32 (F a b c))
 | _=>False
theorem Z2B {f:FuncId} {F:Int→Int→Int→Int} (hp:∀a b c,ZI PP f [.int .u32 a,.int .u32 b,.int .u32 c] (.int .u32 (F a b c)) 0 []) (args:List AV) (h:Z6) (K:AV→Prop) (hl:Z1n F args h K):Zn PP f args h fun o h'=>∃v,o=.ret v∧h'=h∧K v:=by
 unfold Z1n at hl
 split at hl
 ·rename_i a b c
  refine QP (d:=20) (K0:=fun l=>l=[.int .u32 a,.int .u32 b,.int .u32 c]) ?_ fun l e=>⟨_,by rw [e];exact hp a b c,fun _=>rfl,hl⟩
  rfl
 ·exact hl.elim
end Go.Tk
end
section
namespace Go.Tk
open IntKind (i64 u8 u32 u64 wrap)
def sg3 (a b c:Int) (w:Int):Int:=YI .u32 (YI .u32 (Z76 w (32-a)) (Z76 w (32-b))) (Z76 w (32-c))
def rg3 (a b n:Int) (w:Int):Int:=YI .u32 (YI .u32 (Z76 w (32-a)) (Z76 w (32-b))) (Zy .u32 w n)
def Z7j (bl:List Int) (t:Nat):Int:=u32.wrap (u32.wrap (u32.wrap (ZG .u32 (u32.wrap (bl.getD (4*t) 0)) 24+ZG .u32 (u32.wrap (bl.getD (4*t+1) 0)) 16)+ZG .u32 (u32.wrap (bl.getD (4*t+2) 0)) 8)+u32.wrap (bl.getD (4*t+3) 0))
def ZaZ (m:List Int) (t:Nat):Int:=u32.wrap (u32.wrap (u32.wrap (rg3 17 19 10 (m.getD (t-2) 0)+m.getD (t-7) 0)+rg3 7 18 3 (m.getD (t-15) 0))+m.getD (t-16) 0)
def W0 (bl:List Int):Nat→List Int
 | 0=>List.replicate 64 0
 | t+1=>(W0 bl t).set t (if t<16 then Z7j bl t else ZaZ (W0 bl t) t)
theorem Z2C (bl:List Int):∀t,(W0 bl t).length=64
 | 0=>rfl
 | t+1=>by simp [W0,Z2C bl t]
def prS (st bl m:List Int) (i:Nat):St:=⟨146,[(6,.int .i64 i),(3,pt 1),(5,pt 3),(2,pt 0),(4,pt 2)],⟨4,[(3,.flat [.arr .u32 64 m]),(2,.flat [.arr .u32 8 [0,0,0,0,0,0,0,0]]),(1,.flat [.arr .u8 64 bl]),(0,.flat [.arr .u32 8 st])]⟩,[]⟩
theorem ZhE (st bl m m':List Int) (i:Nat) (Z1 Z2:Prop) (hi:i≤64) (hm:m.length=64) (hm':m'=m.set i (if i<16 then Z7j bl i else ZaZ m i)) (h1:i<64→Z1) (h2:i=64→Z2):
  ZY G0 20 131 0 0 (prS st bl m i) (rdM 0 0 9 (prS st bl m' (i+1)) (prS st bl m i) (prS st bl m i) (prS st bl m i) Z1 Z2 False False):=by
 refine @Eq.mpr _ (let q1:=wrap i64 (4*(↑i:Int));
 let q2:=0+Int.toNat q1;
 let q3:=wrap i64 (q1+1);
 let q4:=0+Int.toNat q3;
 let q5:=wrap i64 (q1+2);
 let q6:=0+Int.toNat q5;
 let q7:=wrap i64 (q1+3);
 let q8:=0+Int.toNat q7;
 let q9:=decide (0≤(↑i:Int)∧(↑i:Int)<64);
 let q10:=0+Int.toNat (↑i:Int);
 let q11:=decide (u32=u32∧q10<64∧q10<List.length m);
 let q12:=decide (wrap i64 ((↑i:Int)+1)=(↑(i+1):Int));
 let q13:=[(0:Int),0,0,0,0,0,0,0];
 let q14:=q13=q13;
 let q15:=q14∧bl=bl∧st=st∧Z1;
 let q16:=wrap i64 ((↑i:Int)-2);
 let q17:=0+Int.toNat q16;
 let q18:=wrap i64 ((↑i:Int)-7);
 let q19:=0+Int.toNat q18;
 let q20:=decide (q19<64);
 let q21:=wrap i64 ((↑i:Int)-15);
 let q22:=0+Int.toNat q21;
 let q23:=decide (q22<64);
 let q24:=wrap i64 ((↑i:Int)-16);
 let q25:=0+Int.toNat q24;
 let q26:=decide (q25<64);
 let q27:=List.getD m q25 0;
 let q28:=decide (q27=q27);
 let q29:=List.getD m q22 0;
 let q30:=List.getD m q19 0;
 let q31:=decide (q30=q30);
 let q32:=List.getD m q17 0;
 Z0 (decide ((↑i:Int)<64))
 (Z0 (decide ((↑i:Int)<16)) (Z0 (decide (0≤q1∧q1<64)) (Z0 (decide (q2<64)) (Z0 (decide (0≤q3∧q3<64)) (Z0 (decide (q4<64)) (Z0 (decide (0≤q5∧q5<64)) (Z0 (decide (q6<64)) (Z0 (decide (0≤q7∧q7<64)) (Z0 (decide (q8<64)) (Z0 q9 (Z0 q11 (Z0 q12 (List.set m q10 (wrap u32 (wrap u32 (wrap u32 (ZG u32 (wrap u32 (List.getD bl q2 0)) 24+ZG u32 (wrap u32 (List.getD bl q4 0)) 16)+ZG u32 (wrap u32 (List.getD bl q6 0)) 8)+wrap u32 (List.getD bl q8 0)))=m'∧q15) False) False) False) False) False) False) False) False) False) False) False)
 (Z0 (decide (0≤q16∧q16<64))
 (Z0 (decide (q17<64)) (Z0 (decide (0≤q18∧q18<64)) (Z0 q20 (Z0 (decide (0≤q21∧q21<64)) (Z0 q23 (Z0 (decide (0≤q24∧q24<64)) (Z0 q26 (Z0 q26 (Z0 q28 (Z0 q23 (Z0 (decide (q29=q29)) (Z0 q20 (Z0 q31 (Z0 q26 (Z0 q28 (Z0 q20 (Z0 q31 (Z0 q9 (Z0 q11 (Z0 q12 (List.set m q10 (wrap u32 (wrap u32 (wrap u32 (YI u32 (YI u32 (bOr u32 (ZG u32 q32 15) (Zy u32 q32 17)) (bOr u32 (ZG u32 q32 13) (Zy u32 q32 19))) (Zy u32 q32 10)+q30)+YI u32 (YI u32 (bOr u32 (ZG u32 q29 25) (Zy u32 q29 7)) (bOr u32 (ZG u32 q29 14) (Zy u32 q29 18))) (Zy u32 q29 3))+q27))=m'∧q15) False) False) False) False) False) False) False) False) False) False) False) False) False) False) False) False) False) False) False) False) False))
 (Z0 (decide ((↑i:Int)=(↑i:Int))) (m=m∧q14∧bl=bl∧st=st∧Z2) False)) (by kernel_rfl) ?_
 conv=>zeta
 try simp only [Zi]
 try simp only [Zj]
 try simp only [Zk]
 try simp only [Zl]
 try simp only [Zm]
 try simp only [Zh]
 try simp only [Int.toNat_natCast,Nat.zero_add,true_and,and_true,Nat.le_refl]
 have hw:i64.wrap ((i:Int)+1)=((i+1:Nat):Int):=w64 (by omega)
 refine ⟨fun hlt=>⟨fun h16=> ?_,fun h16=> ?_⟩,fun hge=>h2 (by omega)⟩
 ·have e0:i64.wrap (4*(i:Int))=((4*i:Nat):Int):=by rw [w64 (by omega)];omega
  have e1:i64.wrap (((4*i:Nat):Int)+1)=((4*i+1:Nat):Int):=by rw [w64 (by omega)];omega
  have e2:i64.wrap (((4*i:Nat):Int)+2)=((4*i+2:Nat):Int):=by rw [w64 (by omega)];omega
  have e3:i64.wrap (((4*i:Nat):Int)+3)=((4*i+3:Nat):Int):=by rw [w64 (by omega)];omega
  rw [if_pos (by omega)] at hm'
  simp only [e0,e1,e2,e3,hw,Int.toNat_natCast]
  repeat' (first|(refine And.intro ?_ ?_)|intro _)
  all_goals first|omega|exact hm'.symm|exact h1 (by omega)|trivial
 ·have e0:i64.wrap ((i:Int)-2)=((i-2:Nat):Int):=by rw [w64 (by omega)];omega
  have e1:i64.wrap ((i:Int)-7)=((i-7:Nat):Int):=by rw [w64 (by omega)];omega
  have e2:i64.wrap ((i:Int)-15)=((i-15:Nat):Int):=by rw [w64 (by omega)];omega
  have e3:i64.wrap ((i:Int)-16)=((i-16:Nat):Int):=by rw [w64 (by omega)];omega
  rw [if_neg (by omega)] at hm'
  simp only [e0,e1,e2,e3,hw,Int.toNat_natCast]
  repeat' (first|(refine And.intro ?_ ?_)|intro _)
  all_goals first|omega|exact hm'.symm|exact h1 (by omega)|trivial
noncomputable def Zfq (st bl:List Int):Zf:=G0.withL 131 0 (goM 0 (prS st bl (List.replicate 64 0) 0) True (YR 0 64 9 (fun i=>i<64) (fun i=>i=64) (fun _=>False) (fun _=>False) (fun i=>prS st bl (W0 bl i) i) (fun i=>prS st bl (W0 bl i) i) (fun i=>prS st bl (W0 bl i) i)))
theorem ZcX (st bl:List Int):(Zfq st bl).Ok:=by
 unfold Zfq
 refine Zf.withGoM (N:=20) (S:=fun i=>prS st bl (W0 bl i) i) ZB (by kernel_rfl) fun hC=>⟨rfl,fun i hi hgo=> ?_⟩
 exact ZhE st bl (W0 bl i) (W0 bl (i+1)) i _ _ hi (Z2C bl i) rfl (fun h=>⟨h,h⟩) (fun h=>h)
noncomputable def E54 (M P:Int→Int→Int→Int):Zf:=(G0.withP 170 (Z1n M)).withP 169 (Z1n P)
theorem Zfr:(E54 Xl Xd).Ok:=Zf.withP_ok (Zf.withP_ok ZB (Z2B fun a b c=>by unfold Xl;exact .ev (ZcV a b c) (Zfo a b c _ rfl))) (Z2B fun a b c=>by unfold Xd;exact .ev (ZcW a b c) (Zfp a b c _ rfl))
def Z0W (M P:Int→Int→Int→Int) (k m:Int) (x:List Int):List Int:=
 let one:=u32.wrap (u32.wrap (u32.wrap (u32.wrap (x.getD 7 0+sg3 6 11 25 (x.getD 4 0))+P (x.getD 4 0) (x.getD 5 0) (x.getD 6 0))+k)+m)
 [u32.wrap (one+u32.wrap (sg3 2 13 22 (x.getD 0 0)+M (x.getD 0 0) (x.getD 1 0) (x.getD 2 0))),x.getD 0 0,x.getD 1 0,x.getD 2 0,u32.wrap (x.getD 3 0+one),x.getD 4 0,x.getD 5 0,x.getD 6 0]
def Ua (M P:Int→Int→Int→Int) (m st:List Int):Nat→List Int
 | 0=>st
 | t+1=>Z0W M P (WY.getD t 0) (m.getD t 0) (Ua M P m st t)
theorem Z9k (M P:Int→Int→Int→Int) (m st:List Int) (t:Nat):Ua M P m st (t+1)=Z0W M P (WY.getD t 0) (m.getD t 0) (Ua M P m st t):=rfl
theorem Z9l (M P:Int→Int→Int→Int) (m st:List Int):Ua M P m st 0=st:=rfl
theorem QU {M P:Int→Int→Int→Int} {m st:List Int} (h:st.length=8):∀t,(Ua M P m st t).length=8
 | 0=>h
 | _+1=>rfl
def prT (st k m x:List Int) (i:Nat):St:=⟨146,[(9,.int .i64 i),(8,pt 6),(7,pt 5),(5,pt 3),(2,pt 0),(4,pt 2)],⟨7,[(6,.flat [.arr .u32 8 x]),(5,.flat [.arr .u32 64 k]),(3,.flat [.arr .u32 64 m]),(2,.flat [.arr .u32 8 [0,0,0,0,0,0,0,0]]),(0,.flat [.arr .u32 8 st])]⟩,[]⟩
def prU (st x:List Int):St:=⟨146,[(8,pt 6),(2,pt 0),(4,pt 2)],⟨7,[(6,.flat [.arr .u32 8 x]),(2,.flat [.arr .u32 8 [0,0,0,0,0,0,0,0]]),(0,.flat [.arr .u32 8 st])]⟩,[]⟩
theorem ZhF (M P:Int→Int→Int→Int) (st k m x':List Int) (x0 x1 x2 x3 x4 x5 x6 x7:Int) (i:Nat) (Z1 Z2:Prop) (hi:i≤64) (hx:x'=Z0W M P (k.getD i 0) (m.getD i 0) [x0,x1,x2,x3,x4,x5,x6,x7]) (h1:i<64→Z1) (h2:i=64→Z2):
  ZY (E54 M P) 20 131 2 0 (prT st k m [x0,x1,x2,x3,x4,x5,x6,x7] i) (rdM 0 2 9 (prT st k m x' (i+1)) (prU st [x0,x1,x2,x3,x4,x5,x6,x7]) (prU st [x0,x1,x2,x3,x4,x5,x6,x7]) (prU st [x0,x1,x2,x3,x4,x5,x6,x7]) Z1 Z2 False False):=by
 refine @Eq.mpr _ (let q1:=decide (0≤(↑i:Int)∧(↑i:Int)<64);
 let q2:=0+Int.toNat (↑i:Int);
 let q3:=decide (q2<64);
 let q4:=decide (q2<64);
 let q5:=List.getD m q2 0;
 let q6:=List.getD k q2 0;
 let q7:=wrap u32 (wrap u32 (wrap u32 (wrap u32 (x7+YI u32 (YI u32 (bOr u32 (ZG u32 x4 26) (Zy u32 x4 6)) (bOr u32 (ZG u32 x4 21) (Zy u32 x4 11))) (bOr u32 (ZG u32 x4 7) (Zy u32 x4 25)))+P x4 x5 x6)+q6)+q5);
 let q8:=[(0:Int),0,0,0,0,0,0,0];
 let q9:=q8=q8;
 let q10:=[x0,x1,x2,x3,x4,x5,x6,x7];
 Z0 (decide ((↑i:Int)<64)) (Z0 q1 (Z0 q3 (Z0 q1 (Z0 q4 (Z0 q4 (Z0 (decide (q5=q5)) (Z0 q3 (Z0 (decide (q6=q6)) (Z0 (decide (x6=x6)) (Z0 (decide (x5=x5)) (Z0 (decide (x4=x4)) (Z0 (decide (x7=x7)) (Z0 (decide (x2=x2)) (Z0 (decide (x1=x1)) (Z0 (decide (x0=x0)) (Z0 (decide (wrap i64 ((↑i:Int)+1)=(↑(i+1):Int))) ([wrap u32 (q7+wrap u32 (YI u32 (YI u32 (bOr u32 (ZG u32 x0 30) (Zy u32 x0 2)) (bOr u32 (ZG u32 x0 19) (Zy u32 x0 13))) (bOr u32 (ZG u32 x0 10) (Zy u32 x0 22))+M x0 x1 x2)),x0,x1,x2,wrap u32 (x3+q7),x4,x5,x6]=x'∧k=k∧m=m∧q9∧st=st∧Z1) False) False) False) False) False) False) False) False) False) False) False) False) False) False) False) False) (q10=q10∧q9∧st=st∧Z2)) (by kernel_rfl) ?_
 conv=>zeta
 try simp only [Zi]
 try simp only [Zj]
 try simp only [Zk]
 try simp only [Zl]
 try simp only [Zm]
 try simp only [Zh]
 try simp only [Int.toNat_natCast,Nat.zero_add,true_and,and_true,Nat.le_refl]
 have hw:i64.wrap ((i:Int)+1)=((i+1:Nat):Int):=w64 (by omega)
 refine ⟨fun hlt=> ?_,fun hge=>h2 (by omega)⟩
 rw [hw]
 repeat' (first|(refine And.intro ?_ ?_)|intro _)
 all_goals first|omega|exact hx.symm|exact h1 (by omega)|trivial
def prV (st x:List Int) (i:Nat):St:=⟨146,[(12,.int .i64 i),(8,pt 6),(2,pt 0),(4,pt 2)],⟨7,[(6,.flat [.arr .u32 8 x]),(2,.flat [.arr .u32 8 [0,0,0,0,0,0,0,0]]),(0,.flat [.arr .u32 8 st])]⟩,[]⟩
def WZ (st x:List Int):Nat→List Int
 | 0=>x
 | i+1=>(WZ st x i).set i (u32.wrap ((WZ st x i).getD i 0+st.getD i 0))
theorem Z2D {st x:List Int} (h:x.length=8):∀i,(WZ st x i).length=8
 | 0=>h
 | i+1=>by simp [WZ,Z2D h i]
theorem ZhG (st x x':List Int) (i:Nat) (Z1 Z2:Prop) (hi:i≤8) (hl:x.length=8) (hs:st.length=8) (hx:x'=x.set i (u32.wrap (x.getD i 0+st.getD i 0))) (h1:i<8→Z1) (h2:i=8→Z2):
  ZY G0 20 131 4 0 (prV st x i) (rdM 0 4 9 (prV st x' (i+1)) (prU st x) (prU st x) (prU st x) Z1 Z2 False False):=by
 refine @Eq.mpr _ (let q1:=decide (0≤(↑i:Int)∧(↑i:Int)<8);
 let q2:=0+Int.toNat (↑i:Int);
 let q3:=[(0:Int),0,0,0,0,0,0,0];
 let q4:=q3=q3;
 Z0 (decide ((↑i:Int)<8)) (Z0 q1 (Z0 (decide (q2<8)) (Z0 q1 (Z0 (decide (q2<8)) (Z0 q1 (Z0 (decide (u32=u32∧q2<8∧q2<List.length x)) (Z0 (decide (wrap i64 ((↑i:Int)+1)=(↑(i+1):Int))) (List.set x q2 (wrap u32 (List.getD x q2 0+List.getD st q2 0))=x'∧q4∧st=st∧Z1) False) False) False) False) False) False) False) (x=x∧q4∧st=st∧Z2)) (by kernel_rfl) ?_
 conv=>zeta
 try simp only [Zi]
 try simp only [Zj]
 try simp only [Zk]
 try simp only [Zl]
 try simp only [Zm]
 try simp only [Zh]
 try simp only [Int.toNat_natCast,Nat.zero_add,true_and,and_true,Nat.le_refl]
 have hw:i64.wrap ((i:Int)+1)=((i+1:Nat):Int):=w64 (by omega)
 refine ⟨fun hlt=> ?_,fun hge=>h2 (by omega)⟩
 rw [hw]
 repeat' (first|(refine And.intro ?_ ?_)|intro _)
 all_goals first|omega|exact hx.symm|exact h1 (by omega)|trivial
def Zfs (M P:Int→Int→Int→Int) (st m:List Int):Nat→St→KE→Prop:=goM 0 (prT st WY m st 0) (st.length=8) (YR 2 64 9 (fun i=>i<64) (fun i=>i=64) (fun _=>False) (fun _=>False) (fun i=>prU st (Ua M P m st i)) (fun i=>prU st (Ua M P m st i)) (fun i=>prU st (Ua M P m st i)))
theorem ZcY (st m:List Int):((E54 Xl Xd).withL 131 2 (Zfs Xl Xd st m)).Ok:=by
 unfold Zfs
 refine Zf.withGoM (N:=20) (S:=fun i=>prT st WY m (Ua Xl Xd m st i) i) Zfr (by kernel_rfl) fun hC=>⟨rfl,fun i hi hgo=> ?_⟩
 obtain ⟨x0,x1,x2,x3,x4,x5,x6,x7,e⟩:=eight _ (QU (M:=Xl) (P:=Xd) (m:=m) hC i)
 show ZY _ 20 131 2 0 (prT st WY m (Ua Xl Xd m st i) i) (rdM 0 2 9 (prT st WY m (Z0W Xl Xd (WY.getD i 0) (m.getD i 0) (Ua Xl Xd m st i)) (i+1)) _ _ _ _ _ _ _)
 rw [e]
 exact ZhF Xl Xd st WY m _ x0 x1 x2 x3 x4 x5 x6 x7 i _ _ hi rfl (fun h=>⟨h,h⟩) (fun h=>h)
def Zft (st x:List Int):Nat→St→KE→Prop:=goM 0 (prV st x 0) (st.length=8∧x.length=8) (YR 4 8 9 (fun i=>i<8) (fun i=>i=8) (fun _=>False) (fun _=>False) (fun i=>prU st (WZ st x i)) (fun i=>prU st (WZ st x i)) (fun i=>prU st (WZ st x i)))
theorem ZcZ (st x:List Int):(G0.withL 131 4 (Zft st x)).Ok:=by
 unfold Zft
 refine Zf.withGoM (N:=20) (S:=fun i=>prV st (WZ st x i) i) ZB (by kernel_rfl) fun hC=>⟨rfl,fun i hi hgo=> ?_⟩
 exact ZhG st (WZ st x i) (WZ st x (i+1)) i _ _ hi (Z2D hC.2 i) hC.1 rfl (fun h=>⟨h,h⟩) (fun h=>h)
noncomputable def Zfu (M P:Int→Int→Int→Int) (st bl m x:List Int):Zf:=((Zfq st bl).withL 131 2 (Zfs M P st m)).withL 131 4 (Zft st x)
theorem Zd0 (st bl m x:List Int):(Zfu Xl Xd st bl m x).Ok:=by
 unfold Zfu
 exact Zf.withL_join (H:=G0) (Zf.withL_join (H:=E54 Xl Xd) (ZcX st bl) rfl (ZcY st m)) rfl (ZcZ st x)
@[irreducible] def XG (st bl:List Int):List Int:=WZ st (Ua Xl Xd (W0 bl 64) st 64) 8
attribute [irreducible] W0 Ua WZ
theorem ZhH (M P:Int→Int→Int→Int) (st bl m x r:List Int) (hst:st.length=8) (hm:m=W0 bl 64) (hx:x=Ua M P m st 64) (hr:r=WZ st x 8):
  evF (Zfu M P st bl m x) 20 131 [.agg [.arr .u32 8 st],.agg [.arr .u8 64 bl]] ⟨0,[]⟩ (W7 0 [] (.agg [.arr .u32 8 r]) 0 []):=by
 refine @Eq.mpr _ ((0:Int)::(0:Int)::(0:Int)::(0:Int)::(0:Int)::(0:Int)::(0:Int)::(0:Int)::(0:Int)::(0:Int)::(0:Int)::(0:Int)::(0:Int)::(0:Int)::(0:Int)::(0:Int)::(0:Int)::(0:Int)::(0:Int)::(0:Int)::(0:Int)::(0:Int)::(0:Int)::(0:Int)::(0:Int)::(0:Int)::(0:Int)::(0:Int)::(0:Int)::(0:Int)::(0:Int)::(0:Int)::Z9=(0:Int)::(0:Int)::(0:Int)::(0:Int)::(0:Int)::(0:Int)::(0:Int)::(0:Int)::(0:Int)::(0:Int)::(0:Int)::(0:Int)::(0:Int)::(0:Int)::(0:Int)::(0:Int)::(0:Int)::(0:Int)::(0:Int)::(0:Int)::(0:Int)::(0:Int)::(0:Int)::(0:Int)::(0:Int)::(0:Int)::(0:Int)::(0:Int)::(0:Int)::(0:Int)::(0:Int)::(0:Int)::Z9∧
 [(0:Int),(0:Int),(0:Int),(0:Int),(0:Int),(0:Int),(0:Int),(0:Int)]=[(0:Int),(0:Int),(0:Int),(0:Int),(0:Int),(0:Int),(0:Int),(0:Int)]∧
 bl=bl∧
 st=st∧
 True∧
 ∀(i:Nat),
 i≤(64:Nat)→
 (∀(j:Nat),j<i→(fun (i:Nat)=>i<(64:Nat)) j)→
 (i=(64:Nat)→
 st=st∧
 [(1116352408:Int),(1899447441:Int),(3049323471:Int),(3921009573:Int),(961987163:Int),(1508970993:Int),(2453635748:Int),(2870763221:Int),(3624381080:Int),(310598401:Int),(607225278:Int),(1426881987:Int),(1925078388:Int),(2162078206:Int),(2614888103:Int),(3248222580:Int),(3835390401:Int),(4022224774:Int),(264347078:Int),(604807628:Int),(770255983:Int),(1249150122:Int),(1555081692:Int),(1996064986:Int),(2554220882:Int),(2821834349:Int),(2952996808:Int),(3210313671:Int),(3336571891:Int),(3584528711:Int),(113926993:Int),(338241895:Int),(666307205:Int),(773529912:Int),(1294757372:Int),(1396182291:Int),(1695183700:Int),(1986661051:Int),(2177026350:Int),(2456956037:Int),(2730485921:Int),(2820302411:Int),(3259730800:Int),(3345764771:Int),(3516065817:Int),(3600352804:Int),(4094571909:Int),(275423344:Int),(430227734:Int),(506948616:Int),
 (659060556:Int),(883997877:Int),(958139571:Int),(1322822218:Int),(1537002063:Int),(1747873779:Int),(1955562222:Int),(2024104815:Int),(2227730452:Int),(2361852424:Int),(2428436474:Int),(2756734187:Int),(3204031479:Int),(3329325298:Int)]=
 WY∧
 W0 bl i=m∧
 [(0:Int),(0:Int),(0:Int),(0:Int),(0:Int),(0:Int),(0:Int),(0:Int)]=[(0:Int),(0:Int),(0:Int),(0:Int),(0:Int),(0:Int),(0:Int),(0:Int)]∧st=st∧List.length st=(8:Nat)∧∀(i:Nat),i≤(64:Nat)→(∀(j:Nat),j<i→(fun (i:Nat)=>i<(64:Nat)) j)→(i=(64:Nat)→Ua M P m st i=x∧[(0:Int),(0:Int),(0:Int),(0:Int),(0:Int),(0:Int),(0:Int),(0:Int)]=[(0:Int),(0:Int),(0:Int),(0:Int),(0:Int),(0:Int),(0:Int),(0:Int)]∧st=st∧(List.length st=(8:Nat)∧List.length x=(8:Nat))∧∀(i:Nat),i≤(8:Nat)→(∀(j:Nat),j<i→(fun (i:Nat)=>i<(8:Nat)) j)→(i=(8:Nat)→WZ st x i=r∧True)∧(False→[(0:Int),(0:Int),(0:Int),(0:Int),(0:Int),(0:Int),(0:Int),(0:Int)]=r∧True)∧(False→False))∧(False→[(0:Int),(0:Int),(0:Int),(0:Int),(0:Int),(0:Int),(0:Int),(0:Int)]=r∧True)∧(False→False))∧
 (False→[(0:Int),(0:Int),(0:Int),(0:Int),(0:Int),(0:Int),(0:Int),(0:Int)]=r∧True)∧(False→False)) (by kernel_rfl) ?_
 try simp only [Zi]
 try simp only [Zj]
 try simp only [Zk]
 try simp only [Zl]
 try simp only [Zm]
 try simp only [Zh]
 try simp only [Int.toNat_natCast,Nat.zero_add,true_and,and_true,Nat.le_refl]
 subst hm
 have hl:x.length=8:=by rw [hx];exact QU hst _
 exact fun i _ _=>⟨fun he=>⟨by kernel_rfl,by rw [he],hst,fun j _ _=>⟨fun hj=>⟨by rw [hj,hx],⟨hst,hl⟩,fun q _ _=>⟨fun hq=>by rw [hq,hr],fun h=>h.elim,fun h=>h⟩⟩,fun h=>h.elim,fun h=>h⟩⟩,fun h=>h.elim,fun h=>h⟩
theorem Z5H (st bl:List Int) (h:st.length=8):ZI PP 131 [.agg [.arr .u32 8 st],.agg [.arr .u8 64 bl]] (.agg [.arr .u32 8 (XG st bl)]) 0 []:=by
 unfold XG
 exact .ev (Zd0 st bl _ _) (ZhH Xl Xd st bl _ _ _ h rfl rfl rfl)
theorem Z4H {st bl:List Int} (h:st.length=8):(XG st bl).length=8:=by unfold XG;exact Z2D (QU h _) _
end Go.Tk
end
section
namespace Go.Tk
open IntKind (i64 u8 u32 u64 wrap)
def Zd1 (n i:Int):Int:=u8.wrap (Int.tmod (Zy .u64 (u64.wrap (u64.wrap n*8)) (u64.wrap (i64.wrap (56-i64.wrap (8*i))))) 256)
def XJ (n:Int):Nat→List Int
 | 0=>[]
 | i+1=>XJ n i++[Zd1 n i]
theorem Z2E (n:Int):∀i,(XJ n i).length=i
 | 0=>rfl
 | i+1=>by rw [XJ,List.length_append,Z2E n i];rfl
def paS (bs ys:List Int) (n L i:Nat):St:=⟨39,[(5,.int .i64 i),(4,.nslice ⟨3,0,0,0,0⟩ 1 L L),(0,.vints .u8 bs n)],⟨4,[(3,.ints .u8 ys)]⟩,[]⟩
theorem Zgn (bs ys zs:List Int) (n L L' i:Nat) (Z1 Z2:Prop) (hi:i≤8) (hL:ys.length=L) (hb:L<10000000000000) (hz:zs=ys++[Zd1 n i]) (hL':L'=zs.length) (h1:i<8→Z1) (h2:i=8→Z2):
  ZY G0 20 130 0 0 (paS bs ys n L i) (rdM 0 0 9 (paS bs zs n L' (i+1)) (paS bs ys n L i) (paS bs ys n L i) (paS bs ys n L i) Z1 Z2 False False):=by
 refine @Eq.mpr _ (let q1:=wrap u64 (wrap i64 (56-wrap i64 (8*(↑i:Int))));
 let q2:=ys++[wrap u8 (Int.tmod (Zy u64 (wrap u64 (wrap u64 (↑n:Int)*8)) q1) 256)];
 let q3:=List.length q2;
 let q4:=decide (n=n);
 Z0 (decide ((↑i:Int)<8)) (Z0 (decide (0≤q1)) (Z0 (decide (u8=u8∧List.length ys=L)) (Z0 (decide (q3*1≤140737488355328)) (Z0 (decide (wrap i64 ((↑i:Int)+1)=(↑(i+1):Int))) (Z0 (decide (q3=L')) (Z0 (decide (L'≤q3)) (bs=bs∧Z0 q4 (q2=zs∧Z1) False) False) False) False) False) False) False) (Z0 (decide ((↑i:Int)=(↑i:Int))) (Z0 (decide (L=L)) (Z0 (decide (L≤L)) (bs=bs∧Z0 q4 (ys=ys∧Z2) False) False) False) False)) (by kernel_rfl) ?_
 conv=>zeta
 try simp only [Zi]
 try simp only [Zj]
 try simp only [Zk]
 try simp only [Zl]
 try simp only [Zm]
 try simp only [Zh]
 try simp only [Int.toNat_natCast,Nat.zero_add,true_and,and_true,Nat.le_refl]
 have hw:i64.wrap ((i:Int)+1)=((i+1:Nat):Int):=w64 (by omega)
 refine ⟨fun hlt=> ?_,fun hge=>h2 (by omega)⟩
 have hz':zs.length=L+1:=by rw [hz,List.length_append,hL];rfl
 have h0:0≤u64.wrap (i64.wrap (56-i64.wrap (8*(i:Int)))):=by
  unfold wrap
  simp [IntKind.bits,IntKind.signed]
  omega
 simp only [List.length_append,List.length_cons,List.length_nil]
 rw [hw]
 repeat' (first|(refine And.intro ?_ ?_)|intro _)
 all_goals first|exact h0|omega|exact hz.symm|exact h1 (by omega)|trivial
noncomputable def Zfv (bs y:List Int) (n:Nat):Zf:=G0.withL 130 0 (goM 0 (paS bs (y++XJ n 0) n (y++XJ n 0).length 0) (y.length≤1000000000000) (YR 0 8 9 (fun i=>i<8) (fun i=>i=8) (fun _=>False) (fun _=>False) (fun i=>paS bs (y++XJ n i) n (y++XJ n i).length i) (fun i=>paS bs (y++XJ n i) n (y++XJ n i).length i) (fun i=>paS bs (y++XJ n i) n (y++XJ n i).length i)))
theorem Zd2 (bs y:List Int) (n:Nat):(Zfv bs y n).Ok:=by
 unfold Zfv
 refine Zf.withGoM (N:=20) (S:=fun i=>paS bs (y++XJ n i) n (y++XJ n i).length i) ZB (by kernel_rfl) fun hC=>⟨rfl,fun i hi hgo=> ?_⟩
 have hl:(y++XJ n i).length=y.length+i:=by rw [List.length_append,Z2E]
 exact Zgn bs (y++XJ n i) (y++XJ n (i+1)) n _ _ i _ _ hi rfl (by omega) (by rw [XJ,List.append_assoc]) rfl (fun h=>⟨h,h⟩) (fun h=>h)
def Z1a (n:Nat):List Int:=List.replicate (Int.tmod (i64.wrap (128-Int.tmod (i64.wrap ((n:Int)+9)) 64)) 64).toNat 0
@[irreducible] def Ub (bs:List Int):List Int:=(bs++[128]++Z1a bs.length)++XJ bs.length 8
theorem Zd3 (n:Nat) (h:n≤100000000000):Int.tmod (i64.wrap (128-Int.tmod (i64.wrap ((n:Int)+9)) 64)) 64=(128-((n:Int)+9)%64)%64:=by
 have e1:i64.wrap ((n:Int)+9)=(n:Int)+9:=w64 (by omega)
 have e2:Int.tmod ((n:Int)+9) 64=((n:Int)+9)%64:=tm (by omega)
 have e3:i64.wrap (128-((n:Int)+9)%64)=128-((n:Int)+9)%64:=w64 (by omega)
 rw [e1,e2,e3,tm (by omega)]
theorem Zb0 (n:Nat) (h:n≤100000000000):(Z1a n).length≤64:=by
 unfold Z1a
 rw [Zd3 n h,List.length_replicate]
 omega
theorem Zgo (bs y r:List Int) (n L:Nat) (hn:bs.length=n) (hb:n≤100000000000) (hy:y=bs++[128]++Z1a n) (hr:r=y++XJ n 8) (hL:L=r.length):
  evF (Zfv bs y n) 20 130 [.vints .u8 bs n] ⟨0,[]⟩ (YS 0 (.ret (.nslice ⟨0,0,0,0,0⟩ 1 L L)) 1 [(0,.ints .u8 r)]):=by
 refine @Eq.mpr _ (let q1:=[]++List.take n bs;
 let q2:=List.length q1;
 let q3:=q1++[(128:Int)];
 let q4:=List.length q3;
 let q5:=Int.tmod (wrap i64 (128-Int.tmod (wrap i64 (↑n+9)) 64)) 64;
 let q6:=Int.toNat q5;
 let q7:=q3++List.replicate q6 0;
 let q8:=List.length q7;
 let q9:=y++XJ (↑n) 0;
 let q10:=List.length q9;
 Z0 (decide (q2*1≤140737488355328))
 (Z0 (decide (u8=u8∧q2=q2))
 (Z0 (decide (q4*1≤140737488355328))
 (Z0 (decide (u8=u8∧q4=q4))
 (Z0 (decide ((0:Int)=0∧0≤q5∧(q4+q6)*1≤140737488355328))
 (Z0 (decide (q8=q10))
 (Z0 (decide (q10≤q8))
 (bs=bs∧
 Z0 (decide (n=n))
 (q7=q9∧
 List.length y≤1000000000000∧
 ∀(i:Nat),
 let q21:=y++XJ (↑n) i;
 let q22:=List.length q21;
 i≤8→(∀(j:Nat),j<i→(fun (i:Nat)=>i<8) j)→(i=8→Z0 (decide (q22=L)) (Z0 (decide (L≤q22)) (q21=r∧True) False) False)∧(False→False)∧(False→False))
 False)
 False)
 False)
 False)
 False)
 False)
 False)
 False) (by kernel_rfl) ?_
 conv=>zeta
 try simp only [Zi]
 try simp only [Zj]
 try simp only [Zk]
 try simp only [Zl]
 try simp only [Zm]
 try simp only [Zh]
 try simp only [Int.toNat_natCast,Nat.zero_add,true_and,and_true,Nat.le_refl]
 have ht:List.take n bs=bs:=by rw [←hn];exact List.take_length
 have hz:=Zb0 n hb
 have hx:=Zd3 n hb
 have e0:[]++List.take n bs++[128]++List.replicate (Int.tmod (i64.wrap (128-Int.tmod (i64.wrap ((n:Int)+9)) 64)) 64).toNat 0=y++XJ n 0:=by rw [ht,hy];simp [Z1a,XJ]
 have hyl:y.length=n+1+(Z1a n).length:=by rw [hy,List.length_append,List.length_append,hn];rfl
 subst hL hr
 simp only [e0,ht,List.length_append,List.length_cons,List.length_nil,hn,List.nil_append]
 refine ⟨by omega,by omega,⟨by omega,by omega⟩, ?_, ?_, ?_,by omega,fun i hi _=>⟨fun he=>by subst he;exact ⟨rfl,Nat.le_refl _,rfl⟩,fun h=>h,fun h=>h⟩⟩
 ·rw [hyl];unfold Z1a XJ;rfl
 ·rw [hyl];unfold Z1a XJ;exact Nat.le_refl _
 ·rw [hy];simp [Z1a,XJ]
theorem Z9m (bs:List Int) (h:bs.length≤100000000000):ZI PP 130 [.vints .u8 bs bs.length] (.nslice ⟨0,0,0,0,0⟩ 1 (Ub bs).length (Ub bs).length) 1 [(0,.ints .u8 (Ub bs))]:=.evM (Zd2 bs _ _) (Zgo bs _ _ _ _ rfl h rfl (by unfold Ub;rfl) rfl)
def ZeB (P:List Int→List Int) (B:Nat):YQ:=fun args h K=>ZV none h true 20 args fun a=>Qm a fun xs=>Zx (xs.length≤B) (K (.ret (.nslice ⟨h.next,0,0,0,0⟩ 1 (P xs).length (P xs).length)) ⟨h.next+1,(h.next,.ints .u8 (P xs))::h.bs⟩)
theorem Zb1 (B:Nat) (hB:B≤100000000000) (args:List AV) (h:Z6) (K:KO) (hl:ZeB Ub B args h K):Zn PP 130 args h K:=by
 refine ZI.fsumm (d:=20) (Zu _ _ _ _ _ hl fun a ha=> ?_)
 obtain ⟨xs,rfl,hK⟩:=Vh ha
 obtain ⟨hx,hK⟩:=Zb hK
 exact ⟨_,_,_,_,Z9m xs (Nat.le_trans hx hB),rfl,⟨Nat.one_pos,.ints _ _,trivial⟩,hK⟩
def toE (x d:Int):Int:=u8.wrap (Int.tmod (u32.wrap (Int.tdiv x d)) 256)
def toN (x:List Int):Nat→List Int
 | 0=>Z9
 | i+1=>((((toN x i).set (4*i) (u8.wrap (u32.wrap (Int.tdiv (x.getD i 0) 16777216)))).set (4*i+1) (toE (x.getD i 0) 65536)).set (4*i+2) (toE (x.getD i 0) 256)).set (4*i+3) (u8.wrap (Int.tmod (x.getD i 0) 256))
theorem Z8b (x:List Int):∀i,(toN x i).length=32
 | 0=>rfl
 | i+1=>by simp [toN,Z8b x i]
def toS (x h:List Int) (i:Nat):St:=⟨47,[(4,.int .i64 i),(1,pt 0),(3,pt 2),(2,pt 1)],⟨3,[(2,.flat [.arr .u8 32 h]),(1,.flat [.arr .u8 32 Z9]),(0,.flat [.arr .u32 8 x])]⟩,[]⟩
theorem ZhI (x h h':List Int) (i:Nat) (Z1 Z2:Prop) (hi:i≤8) (hl:h.length=32) (hh:h'=(((h.set (4*i) (u8.wrap (u32.wrap (Int.tdiv (x.getD i 0) 16777216)))).set (4*i+1) (toE (x.getD i 0) 65536)).set (4*i+2) (toE (x.getD i 0) 256)).set (4*i+3) (u8.wrap (Int.tmod (x.getD i 0) 256))) (h1:i<8→Z1) (h2:i=8→Z2):
  ZY G0 20 132 0 0 (toS x h i) (rdM 0 0 9 (toS x h' (i+1)) (toS x h i) (toS x h i) (toS x h i) Z1 Z2 False False):=by
 refine @Eq.mpr _ (let q1:=decide (0≤(↑i:Int)∧(↑i:Int)<8);
 let q2:=0+Int.toNat (↑i:Int);
 let q3:=decide (q2<8);
 let q4:=wrap i64 (4*(↑i:Int));
 let q5:=0+Int.toNat q4;
 let q6:=wrap i64 (q4+1);
 let q7:=0+Int.toNat q6;
 let q8:=List.getD x q2 0;
 let q9:=List.set h q5 (wrap u8 (wrap u32 (Int.tdiv q8 16777216)));
 let q10:=wrap i64 (q4+2);
 let q11:=0+Int.toNat q10;
 let q12:=List.set q9 q7 (wrap u8 (Int.tmod (wrap u32 (Int.tdiv q8 65536)) 256));
 let q13:=wrap i64 (q4+3);
 let q14:=0+Int.toNat q13;
 let q15:=List.set q12 q11 (wrap u8 (Int.tmod (wrap u32 (Int.tdiv q8 256)) 256));
 Z0 (decide ((↑i:Int)<8)) (Z0 q1 (Z0 q3 (Z0 (decide (0≤q4∧q4<32)) (Z0 (decide (u8=u8∧q5<32∧q5<List.length h)) (Z0 q1 (Z0 q3 (Z0 (decide (0≤q6∧q6<32)) (Z0 (decide (u8=u8∧q7<32∧q7<List.length q9)) (Z0 q1 (Z0 q3 (Z0 (decide (0≤q10∧q10<32)) (Z0 (decide (u8=u8∧q11<32∧q11<List.length q12)) (Z0 q1 (Z0 q3 (Z0 (decide (0≤q13∧q13<32)) (Z0 (decide (u8=u8∧q14<32∧q14<List.length q15)) (Z0 (decide (wrap i64 ((↑i:Int)+1)=(↑(i+1):Int))) (List.set q15 q14 (wrap u8 (Int.tmod q8 256))=h'∧Z9=Z9∧x=x∧Z1) False) False) False) False) False) False) False) False) False) False) False) False) False) False) False) False) False) (Z0 (decide ((↑i:Int)=(↑i:Int))) (h=h∧Z9=Z9∧x=x∧Z2) False)) (by kernel_rfl) ?_
 conv=>zeta
 try simp only [Zi]
 try simp only [Zj]
 try simp only [Zk]
 try simp only [Zl]
 try simp only [Zm]
 try simp only [Zh]
 try simp only [Int.toNat_natCast,Nat.zero_add,true_and,and_true,Nat.le_refl]
 have hw:i64.wrap ((i:Int)+1)=((i+1:Nat):Int):=w64 (by omega)
 refine ⟨fun hlt=> ?_,fun hge=>h2 (by omega)⟩
 have e0:i64.wrap (4*(i:Int))=((4*i:Nat):Int):=by rw [w64 (by omega)];omega
 have e1:i64.wrap (((4*i:Nat):Int)+1)=((4*i+1:Nat):Int):=by rw [w64 (by omega)];omega
 have e2:i64.wrap (((4*i:Nat):Int)+2)=((4*i+2:Nat):Int):=by rw [w64 (by omega)];omega
 have e3:i64.wrap (((4*i:Nat):Int)+3)=((4*i+3:Nat):Int):=by rw [w64 (by omega)];omega
 simp only [e0,e1,e2,e3,hw,Int.toNat_natCast,List.length_set]
 repeat' (first|(refine And.intro ?_ ?_)|intro _)
 all_goals first|omega|exact hh.symm|exact h1 (by omega)|trivial
noncomputable def Zfw (x:List Int):Zf:=G0.withL 132 0 (goM 0 (toS x Z9 0) True (YR 0 8 9 (fun i=>i<8) (fun i=>i=8) (fun _=>False) (fun _=>False) (fun i=>toS x (toN x i) i) (fun i=>toS x (toN x i) i) (fun i=>toS x (toN x i) i)))
theorem Zd4 (x:List Int):(Zfw x).Ok:=by
 unfold Zfw
 refine Zf.withGoM (N:=20) (S:=fun i=>toS x (toN x i) i) ZB (by kernel_rfl) fun hC=>⟨rfl,fun i hi hgo=> ?_⟩
 exact ZhI x (toN x i) (toN x (i+1)) i _ _ hi (Z8b x i) rfl (fun h=>⟨h,h⟩) (fun h=>h)
@[irreducible] def Q0 (x:List Int):List Int:=toN x 8
attribute [irreducible] toN
theorem ZhJ (x r:List Int) (hr:r=toN x 8):
  evF (Zfw x) 20 132 [.agg [.arr .u32 8 x]] ⟨0,[]⟩ (W7 0 [] (.agg [.arr .u8 32 r]) 0 []):=by
 refine @Eq.mpr _ (Z9=Z9∧Z9=Z9∧x=x∧True∧∀(i:Nat),i≤8→(∀(j:Nat),j<i→(fun (i:Nat)=>i<8) j)→(i=8→toN x i=r∧True)∧(False→Z9=r∧True)∧(False→False)) (by kernel_rfl) ?_
 try simp only [Zi]
 try simp only [Zj]
 try simp only [Zk]
 try simp only [Zl]
 try simp only [Zm]
 try simp only [Zh]
 try simp only [Int.toNat_natCast,Nat.zero_add,true_and,and_true,Nat.le_refl]
 subst hr
 exact fun i hi _=>⟨fun he=>by subst he;rfl,fun h=>h.elim,fun h=>h⟩
def Zb2 (T:List Int→List Int):ZU:=fun args _ K=>match args with
 | [.agg [.arr .u32 8 x]]=>K (.agg [.arr .u8 32 (T x)])
 | _=>False
theorem Zb3 (args:List AV) (h:Z6) (K:AV→Prop) (hl:Zb2 Q0 args h K):Zn PP 132 args h fun o h'=>∃v,o=.ret v∧h'=h∧K v:=by
 unfold Zb2 at hl
 split at hl
 ·rename_i x
  refine QP (d:=20) (K0:=fun l=>l=[.agg [.arr .u32 8 x]]) ?_ fun l e=>⟨_,by rw [e];exact (by unfold Q0;exact .ev (Zd4 x) (ZhJ x _ rfl)),fun _=>rfl,hl⟩
  rfl
 ·exact hl.elim
end Go.Tk
end
section
namespace Go.Tk
open IntKind (i64 u8 u32 u64 wrap)
def Z4I (P:List Int→List Int→List Int):ZU:=fun args _ K=>match args with
 | [.agg [.arr .u32 8 st],.agg [.arr .u8 64 bl]]=>Zx (st.length=8) (K (.agg [.arr .u32 8 (P st bl)]))
 | _=>False
structure UD (P:List Int→List Int→List Int):Prop where
 pure:∀st bl,st.length=8→ZI PP 131 [.agg [.arr .u32 8 st],.agg [.arr .u8 64 bl]] (.agg [.arr .u32 8 (P st bl)]) 0 []
 len:∀st bl,st.length=8→(P st bl).length=8
theorem Z7k {P:List Int→List Int→List Int} (hP:UD P) (args:List AV) (h:Z6) (K:AV→Prop) (hl:Z4I P args h K):Zn PP 131 args h fun o h'=>∃v,o=.ret v∧h'=h∧K v:=by
 unfold Z4I at hl
 split at hl
 ·rename_i st bl
  obtain ⟨hs,hK⟩:=Zb hl
  refine QP (d:=20) (K0:=fun l=>l=[.agg [.arr .u32 8 st],.agg [.arr .u8 64 bl]]) ?_ fun l e=>⟨_,by rw [e];exact hP.pure st bl hs,fun _=>rfl,hK⟩
  rfl
 ·exact hl.elim
noncomputable def E56 (P:List Int→List Int→List Int) (Q:List Int→List Int) (T:List Int→List Int) (B:Nat):Zf:=((G0.withP 131 (Z4I P)).withF 130 (ZeB Q B)).withP 132 (Zb2 T)
theorem Zfx {P:List Int→List Int→List Int} (hP:UD P) {B:Nat} (hB:B≤100000000000):(E56 P Ub Q0 B).Ok:=Zf.withP_ok (Zf.withF_ok (Zf.withP_ok ZB (Z7k hP)) (Zb1 B hB)) Zb3
def Zd5 (ys st:List Int) (o n:Nat):St:=⟨21,[(4,.nslice ⟨3,0,0,0,o⟩ 1 n n),(3,pt 2),(2,pt 0)],⟨4,[(3,.ints .u8 ys),(2,.flat [.arr .u32 8 st]),(0,.flat [.arr .u8 32 Z9])]⟩,[]⟩
def Z9n (st:List Int):St:=⟨21,[(3,pt 2),(2,pt 0)],⟨4,[(2,.flat [.arr .u32 8 st]),(0,.flat [.arr .u8 32 Z9])]⟩,[]⟩
theorem Zgp (P:List Int→List Int→List Int) (Q:List Int→List Int) (T:List Int→List Int) (B:Nat) (ys st st':List Int) (o o' n n' k i:Nat) (Z1 Z2:Prop) (hi:i≤k) (hk:ys.length=64*k) (ho:o=64*i) (ho':o'=64*(i+1)) (hn:n=64*k-64*i) (hn':n'=64*k-64*(i+1)) (hs:st.length=8) (hst:st'=P st ((ys.drop o).take 64)) (h1:i<k→Z1) (h2:i=k→Z2):
  ZY (E56 P Q T B) 20 79 0 0 (Zd5 ys st o n) (rdM 0 0 9 (Zd5 ys st' o' n') (Z9n st) (Z9n st) (Z9n st) Z1 Z2 False False):=by
 refine @Eq.mpr _ (let q1:=decide (n≤n);
 let q2:=decide ((0:Int)≤64∧64≤(↑n:Int));
 let q3:=QE n (some 64);
 Z0 (decide ((↑n:Int)>0)) (Z0 q1 (Z0 q2 (Z0 (decide (o+0+64≤List.length ys)) (Z0 (decide (List.length st=8)) (Z0 q1 (Z0 q2 (Z0 (decide (o+64=o')) (Z0 (decide (q3=n')) (Z0 (decide (n'≤q3)) (ys=ys∧P st (List.take 64 (List.drop (o+0) ys))=st'∧Z9=Z9∧Z1) False) False) False) False) False) False) False) False) False) (st=st∧Z9=Z9∧Z2)) (by kernel_rfl) ?_
 conv=>zeta
 try simp only [Zi]
 try simp only [Zj]
 try simp only [Zk]
 try simp only [Zl]
 try simp only [Zm]
 try simp only [Zh]
 try simp only [Int.toNat_natCast,Nat.zero_add,true_and,and_true,Nat.le_refl]
 refine ⟨fun hlt=> ?_,fun hge=>h2 (by omega)⟩
 have e1:n-64=n':=by omega
 have e2:o+64=o':=by omega
 simp only [QE,e1,e2,Nat.add_zero]
 repeat' (first|(refine And.intro ?_ ?_)|intro _)
 all_goals first|omega|exact hst.symm|exact h1 (by omega)|trivial
def UJ (P:List Int→List Int→List Int) (ys:List Int):Nat→List Int
 | 0=>X0.st
 | i+1=>P (UJ P ys i) ((ys.drop (64*i)).take 64)
theorem Z5I {P:List Int→List Int→List Int} (hP:UD P) (ys:List Int):∀i,(UJ P ys i).length=8
 | 0=>rfl
 | i+1=>hP.len _ _ (Z5I hP ys i)
theorem Z3I (P:List Int→List Int→List Int) (ys:List Int):UJ P ys 0=X0.st:=rfl
theorem Z3J (P:List Int→List Int→List Int) (ys:List Int) (i:Nat):UJ P ys (i+1)=P (UJ P ys i) ((ys.drop (64*i)).take 64):=rfl
attribute [irreducible] UJ
noncomputable def Zfy (P:List Int→List Int→List Int) (Q:List Int→List Int) (T:List Int→List Int) (B:Nat) (ys:List Int) (L k:Nat):Zf:=(E56 P Q T B).withL 79 0 (goM 0 (Zd5 ys [1779033703,3144134277,1013904242,2773480762,1359893119,2600822924,528734635,1541459225] 0 L) (ys.length=64*k∧L=64*k) (YR 0 k 9 (fun i=>i<k) (fun i=>i=k) (fun _=>False) (fun _=>False) (fun i=>Z9n (UJ P ys i)) (fun i=>Z9n (UJ P ys i)) (fun i=>Z9n (UJ P ys i))))
theorem Zd6 {P:List Int→List Int→List Int} (hP:UD P) {B:Nat} (hB:B≤100000000000) (ys:List Int) (L k:Nat):(Zfy P Ub Q0 B ys L k).Ok:=by
 unfold Zfy
 refine Zf.withGoM (N:=20) (S:=fun i=>Zd5 ys (UJ P ys i) (64*i) (64*k-64*i)) (Zfx hP hB) (by kernel_rfl) fun hC=>⟨?_,fun i hi hgo=> ?_⟩
 ·rw [hC.2,Z3I];rfl
 ·exact Zgp P Ub Q0 B ys (UJ P ys i) (UJ P ys (i+1)) _ _ _ _ k i _ _ hi hC.1 rfl rfl rfl rfl (Z5I hP ys i) (Z3J _ _ _) (fun h=>⟨h,h⟩) (fun h=>h)
theorem Zgq (P:List Int→List Int→List Int) (Q:List Int→List Int) (T:List Int→List Int) (B:Nat) (bs ys r:List Int) (n L k:Nat) (hn:n=bs.length) (hB:n≤B) (hy:ys=Q bs) (hL:L=ys.length) (hk:ys.length=64*k) (hr:r=T (UJ P ys k)):
  evF (Zfy P Q T B ys L k) 20 79 [.vints .u8 bs n] ⟨0,[]⟩ (W7 0 [] (.agg [.arr .u8 32 r]) 0 []):=by
 refine @Eq.mpr _ (let q1:=[(1779033703:Int),3144134277,1013904242,2773480762,1359893119,2600822924,528734635,1541459225];
 Z0 (decide (n=List.length bs)) (Z0 (decide (List.length bs≤B)) (Z0 (decide (List.length (Q bs)=L)) (Z0 (decide (L≤List.length (Q bs))) (Q bs=ys∧q1=q1∧Z9=Z9∧(List.length ys=64*k∧L=64*k)∧∀(i:Nat),i≤k→(∀(j:Nat),j<i→(fun (i:Nat)=>i<k) j)→(i=k→T (UJ P ys i)=r∧True)∧(False→Z9=r∧True)∧(False→False)) False) False) False) False) (by kernel_rfl) ?_
 conv=>zeta
 try simp only [Zi]
 try simp only [Zj]
 try simp only [Zk]
 try simp only [Zl]
 try simp only [Zm]
 try simp only [Zh]
 try simp only [Int.toNat_natCast,Nat.zero_add,true_and,and_true,Nat.le_refl]
 subst hy hr
 refine ⟨hn,by omega, ?_⟩
 exact ⟨hL.symm,by omega,rfl,⟨hk,by omega⟩,fun i hi _=>⟨fun he=>by rw [he],fun h=>h.elim,fun h=>h⟩⟩
theorem Zb4 (bs:List Int) (h:bs.length≤100000000000):(Ub bs).length=64*((Ub bs).length/64):=by
 have:(Ub bs).length=bs.length+1+((128-((bs.length:Int)+9)%64)%64).toNat+8:=by
  unfold Ub Z1a
  rw [Zd3 _ h]
  simp only [List.length_append,List.length_cons,List.length_nil,Z2E,List.length_replicate]
 omega
@[irreducible] def Zd7 (P:List Int→List Int→List Int) (bs:List Int):List Int:=Q0 (UJ P (Ub bs) ((Ub bs).length/64))
theorem Z9o {P:List Int→List Int→List Int} (hP:UD P) (bs:List Int) (h:bs.length≤100000000000):ZI PP 79 [.vints .u8 bs bs.length] (.agg [.arr .u8 32 (Zd7 P bs)]) 0 []:=by
 unfold Zd7
 exact .ev (Zd6 hP (Nat.le_refl _) _ _ _) (Zgq P Ub Q0 100000000000 bs _ _ _ _ _ rfl h rfl rfl (Zb4 bs h) rfl)
def ZeC (H:List Int→List Int) (B:Nat):ZU:=fun args h K=>ZV none h true 20 args fun a=>Qm a fun xs=>Zx (xs.length≤B) (K (.agg [.arr .u8 32 (H xs)]))
theorem Zb5 {f:FuncId} {H:List Int→List Int} {B:Nat} (hp:∀xs:List Int,xs.length≤B→ZI PP f [.vints .u8 xs xs.length] (.agg [.arr .u8 32 (H xs)]) 0 []) (args:List AV) (h:Z6) (K:AV→Prop) (hl:ZeC H B args h K):Zn PP f args h fun o h'=>∃v,o=.ret v∧h'=h∧K v:=by
 refine ZI.psumm (d:=20) (Zu _ _ _ _ _ hl fun a ha=> ?_)
 obtain ⟨xs,rfl,hK⟩:=Vh ha
 obtain ⟨hx,hK⟩:=Zb hK
 exact ⟨_,hp xs hx,fun _=>rfl,hK⟩
end Go.Tk
end
section
namespace Go.Tk
open IntKind (i64 u8 u32 u64 wrap)
end Go.Tk
end
section
namespace Go.Tk
open IntKind (i64 u8 u32 u64 wrap)
def U32 (x:Int):Prop:=0≤x∧x<4294967296
theorem Z5J (x:Int):u32.wrap x=x%4294967296:=by
 unfold wrap
 simp [IntKind.bits,IntKind.signed]
theorem Z0v (x:Int):U32 (u32.wrap x):=by rw [Z5J];unfold U32;omega
theorem XH {x:Int} (h:U32 x):u32.wrap x=x:=by rw [Z5J];unfold U32 at h;omega
theorem wr8 (x:Int):u8.wrap x=x%256:=by
 unfold wrap
 simp [IntKind.bits,IntKind.signed]
theorem Zgr (x y:Int):U32 (bOr .u32 x y):=Z0v _
theorem WB (x y:Nat) (hx:x<4294967296) (hy:y<4294967296):YI .u32 x y=((x^^^y:Nat):Int):=by
 unfold YI
 rw [XH]
 ·show (((BitVec.ofInt 32 (x:Int)^^^BitVec.ofInt 32 (y:Int)).toNat:Nat):Int)=_
  rw [BitVec.toNat_xor,BitVec.ofInt_natCast,BitVec.ofInt_natCast,BitVec.toNat_ofNat,BitVec.toNat_ofNat,Nat.mod_eq_of_lt hx,Nat.mod_eq_of_lt hy]
 ·unfold U32
  have:=(BitVec.ofInt u32.bits x^^^BitVec.ofInt u32.bits y).isLt
  simp only [IntKind.bits] at this
  simp only [IntKind.bits]
  omega
theorem Z4J (x y:Nat) (hx:x<4294967296) (hy:y<4294967296):bOr .u32 x y=((x|||y:Nat):Int):=by
 unfold bOr
 rw [XH]
 ·show (((BitVec.ofInt 32 (x:Int)|||BitVec.ofInt 32 (y:Int)).toNat:Nat):Int)=_
  rw [BitVec.toNat_or,BitVec.ofInt_natCast,BitVec.ofInt_natCast,BitVec.toNat_ofNat,BitVec.toNat_ofNat,Nat.mod_eq_of_lt hx,Nat.mod_eq_of_lt hy]
 ·unfold U32
  have:=(BitVec.ofInt u32.bits x|||BitVec.ofInt u32.bits y).isLt
  simp only [IntKind.bits] at this
  simp only [IntKind.bits]
  omega
theorem Z2F (x y:Nat) (hx:x<4294967296) (hy:y<4294967296):Z13 .u32 x y=((x&&&y:Nat):Int):=by
 unfold Z13
 rw [XH]
 ·show (((BitVec.ofInt 32 (x:Int)&&&BitVec.ofInt 32 (y:Int)).toNat:Nat):Int)=_
  rw [BitVec.toNat_and,BitVec.ofInt_natCast,BitVec.ofInt_natCast,BitVec.toNat_ofNat,BitVec.toNat_ofNat,Nat.mod_eq_of_lt hx,Nat.mod_eq_of_lt hy]
 ·unfold U32
  have:=(BitVec.ofInt u32.bits x&&&BitVec.ofInt u32.bits y).isLt
  simp only [IntKind.bits] at this
  simp only [IntKind.bits]
  omega
theorem U32.nat {x:Int} (h:U32 x):∃n:Nat,x=n∧n<4294967296:=⟨x.toNat,by unfold U32 at h;omega,by unfold U32 at h;omega⟩
theorem U32.of {n:Nat} (h:n<4294967296):U32 (n:Int):=by unfold U32;omega
theorem Z9p {x y:Int}:YI .u32 x y=YI .u32 y x:=by unfold YI;rw [BitVec.xor_comm]
theorem Z7l {x y z:Int} (hx:U32 x) (hy:U32 y) (hz:U32 z):YI .u32 (YI .u32 x y) z=YI .u32 x (YI .u32 y z):=by
 obtain ⟨x,rfl,gx⟩:=hx.nat
 obtain ⟨y,rfl,gy⟩:=hy.nat
 obtain ⟨z,rfl,gz⟩:=hz.nat
 rw [WB x y gx gy,WB y z gy gz,WB _ z (Nat.xor_lt_two_pow (n:=32) gx gy) gz,WB x _ gx (Nat.xor_lt_two_pow (n:=32) gy gz),Nat.xor_assoc]
theorem Z9q {x:Int} (hx:U32 x):YI .u32 0 x=x:=by
 obtain ⟨x,rfl,gx⟩:=hx.nat
 have:=WB 0 x (by omega) gx
 simpa using this
theorem Z4K (x n:Nat) (hn:n≤32):Zy .u32 x n=((x/2^n:Nat):Int):=by
 unfold Zy
 have:min (n:Int).toNat u32.bits=n:=by simp [IntKind.bits];omega
 rw [this,Int.fdiv_eq_ediv_of_nonneg _ (Int.le_of_lt (Int.pow_pos (by decide)))]
 simp
theorem Zgs {x:Int} (hx:U32 x) (n:Nat) (hn:n≤32):U32 (Zy .u32 x n):=by
 obtain ⟨x,rfl,gx⟩:=hx.nat
 rw [Z4K x n hn]
 exact U32.of (Nat.lt_of_le_of_lt (Nat.div_le_self x (2^n)) gx)
theorem Z7m (w n:Int):U32 (Z76 w n):=Zgr _ _
theorem Z8c {w:Int} (hw:U32 w) (a b c:Int):sg3 a b c w=Wh 32 [a,b,c] w:=by
 obtain ⟨x,rfl,gx⟩:=hw.nat
 have h0:Zy .u32 (x:Int) 32=0:=by
  rw [show (32:Int)=((32:Nat):Int) from rfl,Z4K x 32 (by omega),Nat.div_eq_of_lt gx]
  rfl
 unfold sg3 Wh
 simp only [List.foldl_cons,List.foldl_nil,h0,Z9q (Z7m _ _)]
theorem Z8d {w:Int} (hw:U32 w) (a b:Int) (n:Nat) (hn:n≤32):rg3 a b n w=Wh n [a,b] w:=by
 have hs:=Zgs hw n hn
 unfold rg3 Wh
 simp only [List.foldl_cons,List.foldl_nil]
 rw [Z9p,Z7l hs (Z7m _ _) (Z7m _ _)]
theorem Wm (x i:Nat) (hi:i≤32):Int.tmod (Zy .u32 x i) 2=(((x.testBit i).toNat:Nat):Int):=by
 rw [Z4K x i hi]
 rw [Int.tmod_eq_emod_of_nonneg (Int.natCast_nonneg _),Nat.toNat_testBit]
 rfl
theorem Z4L (b:Bool) (i:Nat) (hi:i<32):ZG .u32 ((b.toNat:Nat):Int) i=((2^i*b.toNat:Nat):Int):=by
 unfold ZG
 have:min (i:Int).toNat u32.bits=i:=by simp [IntKind.bits];omega
 rw [this]
 have h2:(2:Nat)^i<2^32:=Nat.pow_lt_pow_right (by decide) hi
 have h3:((2:Nat)^i*b.toNat)<4294967296:=by cases b<;>simp_all
 rw [show ((b.toNat:Nat):Int)*2^i=((2^i*b.toNat:Nat):Int) by push_cast;rw [Int.mul_comm]]
 exact XH (U32.of h3)
theorem Z8e (x i:Nat):x%2^(i+1)=x%2^i+2^i*(x.testBit i).toNat:=by
 rw [Nat.toNat_testBit,Nat.mod_pow_succ]
theorem Z8f (x i:Nat) (hx:x<4294967296) (hi:i<32):u32.wrap (((x%2^i:Nat):Int)+((2^i*(x.testBit i).toNat:Nat):Int))=((x%2^(i+1):Nat):Int):=by
 rw [Z8e]
 rw [XH]
 ·push_cast;rfl
 ·rw [show ((x%2^i:Nat):Int)+((2^i*(x.testBit i).toNat:Nat):Int)=((x%2^i+2^i*(x.testBit i).toNat:Nat):Int) by push_cast;rfl,←Z8e]
  exact U32.of (Nat.lt_of_le_of_lt (Nat.mod_le _ _) hx)
theorem Z3K (a b c:Nat) (ha:a<4294967296) (hb:b<4294967296) (hc:c<4294967296):∀i,i≤32→WR a b c i=(((a&&&(b|||c)|||b&&&c)%2^i:Nat):Int)
 | 0,_=>by simp [WR,Nat.mod_one]
 | i+1,hi=>by
  have hm:(a&&&(b|||c)|||b&&&c)<4294967296:=Nat.or_lt_two_pow (n:=32) (Nat.lt_of_le_of_lt Nat.and_le_left ha) (Nat.lt_of_le_of_lt Nat.and_le_left hb)
  rw [WR,Z3K a b c ha hb hc i (by omega),Wm a i (by omega),Wm b i (by omega),Wm c i (by omega),←Z8f _ i hm (by omega)]
  have ht:(a&&&(b|||c)|||b&&&c).testBit i=(a.testBit i&&(b.testBit i||c.testBit i)||b.testBit i&&c.testBit i):=by simp
  rw [ht]
  have h1:=Z4L true i (by omega)
  have hx:u32.wrap (((a&&&(b|||c)|||b&&&c)%2^i:Nat):Int)=(((a&&&(b|||c)|||b&&&c)%2^i:Nat):Int):=XH (U32.of (Nat.lt_of_le_of_lt (Nat.mod_le _ _) hm))
  rw [Z5J,Z5J]
  cases a.testBit i<;>cases b.testBit i<;>cases c.testBit i<;>simp at h1 hx⊢ <;>first|rw [h1]|rw [hx]
theorem Zd8 {a b c:Int} (ha:U32 a) (hb:U32 b) (hc:U32 c):Xl a b c=bOr .u32 (Z13 .u32 a (bOr .u32 b c)) (Z13 .u32 b c):=by
 obtain ⟨a,rfl,ga⟩:=ha.nat
 obtain ⟨b,rfl,gb⟩:=hb.nat
 obtain ⟨c,rfl,gc⟩:=hc.nat
 have h1:=Nat.or_lt_two_pow (n:=32) gb gc
 have h2:a&&&(b|||c)<4294967296:=Nat.lt_of_le_of_lt Nat.and_le_left ga
 have h3:b&&&c<4294967296:=Nat.lt_of_le_of_lt Nat.and_le_left gb
 rw [Z4J b c gb gc,Z2F a _ ga h1,Z2F b c gb gc,Z4J _ _ h2 h3]
 unfold Xl
 rw [Z3K a b c ga gb gc 32 (by omega),Nat.mod_eq_of_lt]
 exact Nat.or_lt_two_pow (n:=32) h2 h3
theorem Z3L (a b c:Nat) (ha:a<4294967296) (hb:b<4294967296) (hc:c<4294967296):∀i,i≤32→Vk a b c i=(((c^^^(a&&&(b^^^c)))%2^i:Nat):Int)
 | 0,_=>by simp [Vk,Nat.mod_one]
 | i+1,hi=>by
  have hm:(c^^^(a&&&(b^^^c)))<4294967296:=Nat.xor_lt_two_pow (n:=32) hc (Nat.lt_of_le_of_lt Nat.and_le_left ha)
  rw [Vk,Z3L a b c ha hb hc i (by omega),Wm a i (by omega),Wm b i (by omega),Wm c i (by omega),←Z8f _ i hm (by omega)]
  have ht:(c^^^(a&&&(b^^^c))).testBit i=(c.testBit i^^(a.testBit i&&(b.testBit i^^c.testBit i))):=by simp
  rw [ht]
  have h1:=Z4L true i (by omega)
  have h0:=Z4L false i (by omega)
  cases a.testBit i<;>cases b.testBit i<;>cases c.testBit i<;>simp at h1 h0⊢ <;>first|rw [h1]|rw [h0,Int.add_zero]
theorem Zd9 {a b c:Int} (ha:U32 a) (hb:U32 b) (hc:U32 c):Xd a b c=YI .u32 c (Z13 .u32 a (YI .u32 b c)):=by
 obtain ⟨a,rfl,ga⟩:=ha.nat
 obtain ⟨b,rfl,gb⟩:=hb.nat
 obtain ⟨c,rfl,gc⟩:=hc.nat
 have h1:=Nat.xor_lt_two_pow (n:=32) gb gc
 have h2:a&&&(b^^^c)<4294967296:=Nat.lt_of_le_of_lt Nat.and_le_left ga
 rw [WB b c gb gc,Z2F a _ ga h1,WB _ _ gc h2]
 unfold Xd
 rw [Z3L a b c ga gb gc 32 (by omega),Nat.mod_eq_of_lt]
 exact Nat.xor_lt_two_pow (n:=32) gc h2
theorem Z3M (bl:List Int) (t:Nat):W0 bl (t+1)=(W0 bl t).set t (if t<16 then Z7j bl t else ZaZ (W0 bl t) t):=by rw [W0]
theorem Z3N (bl:List Int) (s t:Nat) (hs:s<t):∀u,(W0 bl (t+u)).getD s 0=(W0 bl t).getD s 0
 | 0=>rfl
 | u+1=>by
  rw [←Nat.add_assoc,Z3M,←Z3N bl s t hs u]
  simp only [List.getD_eq_getElem?_getD]
  rw [List.getElem?_set_ne (by omega)]
@[irreducible] def Z1b (bl:List Int) (t:Nat):Int:=(W0 bl 64).getD t 0
theorem QV (bl:List Int) {s t:Nat} (hs:s<t) (ht:t≤64):(W0 bl t).getD s 0=Z1b bl s:=by
 unfold Z1b
 have:=Z3N bl s t hs (64-t)
 rw [show t+(64-t)=64 by omega] at this
 exact this.symm
theorem Z8g (bl:List Int) {t:Nat} (ht:t<64):Z1b bl t=if t<16 then Z7j bl t else ZaZ (W0 bl t) t:=by
 rw [←QV bl (Nat.lt_succ_self t) (by omega),Z3M]
 simp only [List.getD_eq_getElem?_getD]
 rw [List.getElem?_set_self (by rw [Z2C];omega)]
 rfl
theorem Z8h (bl:List Int) {t:Nat} (ht:t<16):Z1b bl t=Z7j bl t:=by rw [Z8g bl (by omega),if_pos ht]
theorem Z8i (bl:List Int) {t:Nat} (h16:16≤t) (ht:t<64):Z1b bl t=u32.wrap (u32.wrap (u32.wrap (rg3 17 19 10 (Z1b bl (t-2))+Z1b bl (t-7))+rg3 7 18 3 (Z1b bl (t-15)))+Z1b bl (t-16)):=by
 rw [Z8g bl (by omega),if_neg (by omega)]
 unfold ZaZ
 rw [QV bl (by omega) (by omega),QV bl (by omega) (by omega),QV bl (by omega) (by omega),QV bl (by omega) (by omega)]
theorem Zb6 (bl:List Int) {t:Nat} (ht:t<64):U32 (Z1b bl t):=by
 by_cases h:t<16
 ·rw [Z8h bl h];exact Z0v _
 ·rw [Z8i bl (by omega) ht];exact Z0v _
theorem QW (t:Nat):mAt (t:Int)=t%16:=by
 unfold mAt
 rw [tm (by omega)]
 omega
theorem WS (i t:Nat) (hi:i<8) (ht:t≤64):atI (i:Int) (t:Int)=(i+64-t)%8:=by
 unfold atI
 rw [w64 (x:=(i:Int)+64) (by omega),w64 (by omega),tm (by omega)]
 omega
theorem Z2G (l:List Int) (i j:Nat) (x:Int) (hi:i<l.length):(l.set i x).getD j 0=if i=j then x else l.getD j 0:=by
 simp only [List.getD_eq_getElem?_getD]
 by_cases h:i=j
 ·subst h
  rw [List.getElem?_set_self hi,if_pos rfl];rfl
 ·rw [List.getElem?_set_ne h,if_neg h]
def Ring (bl r:List Int) (t:Nat):Prop:=r.length=16∧∀s,s<max 16 t→max 16 t≤s+16→r.getD (s%16) 0=Z1b bl s
theorem Ring.step {bl r:List Int} {t:Nat} (h:Ring bl r t) (ht:t<64):Ring bl (Qk t r) (t+1):=by
 obtain ⟨hl,hr⟩:=h
 refine ⟨by rw [Z5D,hl],fun s h1 h2=> ?_⟩
 unfold Qk
 by_cases h16:t<16
 ·rw [if_neg (by omega)]
  exact hr s (by omega) (by omega)
 ·rw [if_pos (by omega)]
  have w1:i64.wrap ((t:Int)+1)=((t+1:Nat):Int):=by rw [w64 (by omega)];omega
  have w9:i64.wrap ((t:Int)+9)=((t+9:Nat):Int):=by rw [w64 (by omega)];omega
  have w14:i64.wrap ((t:Int)+14)=((t+14:Nat):Int):=by rw [w64 (by omega)];omega
  have r0:=hr (t-16) (by omega) (by omega)
  have r1:=hr (t-15) (by omega) (by omega)
  have r9:=hr (t-7) (by omega) (by omega)
  have r14:=hr (t-2) (by omega) (by omega)
  rw [show (t-16)%16=t%16 by omega] at r0
  rw [show (t-15)%16=(t+1)%16 by omega] at r1
  rw [show (t-7)%16=(t+9)%16 by omega] at r9
  rw [show (t-2)%16=(t+14)%16 by omega] at r14
  rw [w1,w9,w14,QW,QW,QW,QW,r0,r1,r9,r14,Z2G _ _ _ _ (by rw [hl];omega)]
  by_cases hs:s=t
  ·subst hs
   rw [if_pos rfl,Z8i bl (by omega) ht]
   have e1:=Z8d (Zb6 bl (t:=s-2) (by omega)) 17 19 10 (by omega)
   have e2:=Z8d (Zb6 bl (t:=s-15) (by omega)) 7 18 3 (by omega)
   rw [show ((10:Nat):Int)=10 from rfl] at e1
   rw [show ((3:Nat):Int)=3 from rfl] at e2
   rw [e1,e2]
   simp only [Z5J]
   omega
  ·rw [if_neg (by omega)]
   exact hr s (by omega) (by omega)
def U8 (x:Int):Prop:=0≤x∧x<256
theorem Z1o (x n:Nat) (hn:n≤32) (h:x*2^n<4294967296):ZG .u32 x n=((x*2^n:Nat):Int):=by
 unfold ZG
 have:min (n:Int).toNat u32.bits=n:=by simp [IntKind.bits];omega
 rw [this,show (x:Int)*2^n=((x*2^n:Nat):Int) by push_cast;rfl]
 exact XH (U32.of h)
theorem Z1p (x y:Nat) (hx:x<16777216) (hy:y<256):bOr .u32 (ZG .u32 x 8) y=((x*256+y:Nat):Int):=by
 have:=Z1o x 8 (by omega) (by omega)
 rw [show ((8:Nat):Int)=8 from rfl] at this
 rw [this,Z4J _ _ (by omega) (by omega),←Nat.shiftLeft_eq,←Nat.shiftLeft_add_eq_or_of_lt (by omega),Nat.shiftLeft_eq]
theorem Uc {P:Int→Prop} {l:List Int} (h:∀x∈l,P x) (h0:P 0) (i:Nat):P (l.getD i 0):=by
 rw [List.getD_eq_getElem?_getD]
 cases hg:l[i]? with
 | none=>exact h0
 | some x=>exact h x (List.mem_of_getElem? hg)
theorem U8.nat {x:Int} (h:U8 x):∃n:Nat,x=n∧n<256:=⟨x.toNat,by unfold U8 at h;omega,by unfold U8 at h;omega⟩
theorem Zda (bl:List Int) (hb:∀x∈bl,U8 x) (t:Nat):XK bl (4*t)=Z7j bl t:=by
 unfold XK Z7j
 obtain ⟨a,ea,ha⟩:=(Uc (P:=U8) hb (by unfold U8;omega) (4*t)).nat
 obtain ⟨b,eb,hb'⟩:=(Uc (P:=U8) hb (by unfold U8;omega) (4*t+1)).nat
 obtain ⟨c,ec,hc⟩:=(Uc (P:=U8) hb (by unfold U8;omega) (4*t+2)).nat
 obtain ⟨d,ed,hd⟩:=(Uc (P:=U8) hb (by unfold U8;omega) (4*t+3)).nat
 rw [ea,eb,ec,ed]
 rw [XH (x:=(a:Int)) (U32.of (by omega)),XH (x:=(b:Int)) (U32.of (by omega)),XH (x:=(c:Int)) (U32.of (by omega)),XH (x:=(d:Int)) (U32.of (by omega))]
 have z:=Z1p 0 a (by omega) ha
 have s0:ZG .u32 0 8=0:=by decide
 rw [show ZG .u32 ((0:Nat):Int) 8=0 from s0] at z
 rw [z,Z1p _ b (by omega) hb',Z1p _ c (by omega) hc,Z1p _ d (by omega) hd]
 have g1:=Z1o a 24 (by omega) (by omega)
 have g2:=Z1o b 16 (by omega) (by omega)
 have g3:=Z1o c 8 (by omega) (by omega)
 rw [show ((24:Nat):Int)=24 from rfl] at g1
 rw [show ((16:Nat):Int)=16 from rfl] at g2
 rw [show ((8:Nat):Int)=8 from rfl] at g3
 rw [g1,g2,g3]
 simp only [Z5J]
 omega
theorem Ring.first (bl:List Int) (hb:∀x∈bl,U8 x):Ring bl (Wy bl) 0:=by
 refine ⟨rfl,fun s h1 _=> ?_⟩
 have h16:s<16:=by omega
 rw [Z8h bl h16,←Zda bl hb,Nat.mod_eq_of_lt h16]
 have:s=0∨s=1∨s=2∨s=3∨s=4∨s=5∨s=6∨s=7∨s=8∨s=9∨s=10∨s=11∨s=12∨s=13∨s=14∨s=15:=by omega
 rcases this with rfl|rfl|rfl|rfl|rfl|rfl|rfl|rfl|rfl|rfl|rfl|rfl|rfl|rfl|rfl|rfl<;>rfl
def Z2H (x y:List Int) (t:Nat):Prop:=x.length=8∧∀i,i<8→x.getD ((i+64-t)%8) 0=y.getD i 0
theorem Z2H.step {x y m:List Int} {w:Int} {t:Nat} (h:Z2H x y t) (hU:∀i,i<8→U32 (y.getD i 0)) (ht:t<64) (hm:m.getD (t%16) 0=w):
  Z2H (Z39 t m x) (Z0W Xl Xd (WY.getD t 0) w y) (t+1):=by
 obtain ⟨hl,hr⟩:=h
 have a0:=WS 0 t (by omega) (by omega)
 have a1:=WS 1 t (by omega) (by omega)
 have a2:=WS 2 t (by omega) (by omega)
 have a3:=WS 3 t (by omega) (by omega)
 have a4:=WS 4 t (by omega) (by omega)
 have a5:=WS 5 t (by omega) (by omega)
 have a6:=WS 6 t (by omega) (by omega)
 have a7:=WS 7 t (by omega) (by omega)
 have h0:=hr 0 (by omega)
 have h1:=hr 1 (by omega)
 have h2:=hr 2 (by omega)
 have h3:=hr 3 (by omega)
 have h4:=hr 4 (by omega)
 have h5:=hr 5 (by omega)
 have h6:=hr 6 (by omega)
 have h7:=hr 7 (by omega)
 rw [←a0] at h0
 rw [←a1] at h1
 rw [←a2] at h2
 rw [←a3] at h3
 rw [←a4] at h4
 rw [←a5] at h5
 rw [←a6] at h6
 rw [←a7] at h7
 refine ⟨by rw [Z5E,hl], ?_⟩
 have hadd:Z0t t m x=u32.wrap (u32.wrap (u32.wrap (u32.wrap (y.getD 7 0+sg3 6 11 25 (y.getD 4 0))+Xd (y.getD 4 0) (y.getD 5 0) (y.getD 6 0))+WY.getD t 0)+w):=by
  unfold Z0t
  rw [QW,hm]
  rw [show atI 7 (t:Int)=atI ((7:Nat):Int) t from rfl,show atI 4 (t:Int)=atI ((4:Nat):Int) t from rfl,show atI 5 (t:Int)=atI ((5:Nat):Int) t from rfl,show atI 6 (t:Int)=atI ((6:Nat):Int) t from rfl]
  rw [h4,h5,h6,h7,Z8c (hU 4 (by omega)),Zd9 (hU 4 (by omega)) (hU 5 (by omega)) (hU 6 (by omega))]
  rw [Nat.zero_add,Int.toNat_natCast]
 unfold Z39
 rw [hadd]
 rw [show atI 7 (t:Int)=atI ((7:Nat):Int) t from rfl,show atI 3 (t:Int)=atI ((3:Nat):Int) t from rfl,show atI 0 (t:Int)=atI ((0:Nat):Int) t from rfl,show atI 1 (t:Int)=atI ((1:Nat):Int) t from rfl,show atI 2 (t:Int)=atI ((2:Nat):Int) t from rfl]
 rw [h0,h1,h2,h3,←Zd8 (hU 0 (by omega)) (hU 1 (by omega)) (hU 2 (by omega)),←Z8c (hU 0 (by omega)),a3,a7]
 intro i hi
 rw [Z2G _ _ _ _ (by rw [List.length_set,hl];omega),Z2G _ _ _ _ (by rw [hl];omega)]
 unfold Z0W
 have:i=0∨i=1∨i=2∨i=3∨i=4∨i=5∨i=6∨i=7:=by omega
 rcases this with rfl|rfl|rfl|rfl|rfl|rfl|rfl|rfl
 ·rw [if_pos (by omega)]
  simp only [Z5J,List.getD_cons_zero]
  omega
 ·rw [if_neg (by omega),if_neg (by omega),show (1+64-(t+1))%8=(0+64-t)%8 by omega,hr 0 (by omega)];rfl
 ·rw [if_neg (by omega),if_neg (by omega),show (2+64-(t+1))%8=(1+64-t)%8 by omega,hr 1 (by omega)];rfl
 ·rw [if_neg (by omega),if_neg (by omega),show (3+64-(t+1))%8=(2+64-t)%8 by omega,hr 2 (by omega)];rfl
 ·rw [if_neg (by omega),if_pos (by omega)];rfl
 ·rw [if_neg (by omega),if_neg (by omega),show (5+64-(t+1))%8=(4+64-t)%8 by omega,hr 4 (by omega)];rfl
 ·rw [if_neg (by omega),if_neg (by omega),show (6+64-(t+1))%8=(5+64-t)%8 by omega,hr 5 (by omega)];rfl
 ·rw [if_neg (by omega),if_neg (by omega),show (7+64-(t+1))%8=(6+64-t)%8 by omega,hr 6 (by omega)];rfl
theorem Zdb {k w:Int} {y:List Int} (hU:∀i,i<8→U32 (y.getD i 0)):∀i,i<8→U32 ((Z0W Xl Xd k w y).getD i 0):=by
 intro i hi
 unfold Z0W
 have:i=0∨i=1∨i=2∨i=3∨i=4∨i=5∨i=6∨i=7:=by omega
 rcases this with rfl|rfl|rfl|rfl|rfl|rfl|rfl|rfl
 ·exact Z0v _
 ·exact hU 0 (by omega)
 ·exact hU 1 (by omega)
 ·exact hU 2 (by omega)
 ·exact Z0v _
 ·exact hU 4 (by omega)
 ·exact hU 5 (by omega)
 ·exact hU 6 (by omega)
def W8 (st:List Int):Prop:=st.length=8∧∀x∈st,U32 x
theorem W8.get {st:List Int} (h:W8 st) (i:Nat):U32 (st.getD i 0):=Uc h.2 (by unfold U32;omega) i
theorem Z5K (bl st:List Int) (hb:∀x∈bl,U8 x) (hs:W8 st):∀t,t≤64→Ring bl (Wi (Wy bl) st t).1 t∧Z2H (Wi (Wy bl) st t).2 (Ua Xl Xd (W0 bl 64) st t) t∧∀i,i<8→U32 ((Ua Xl Xd (W0 bl 64) st t).getD i 0)
 | 0,_=>by
  rw [Z3y,Z9l]
  refine ⟨Ring.first bl hb,⟨hs.1,fun i hi=> ?_⟩,fun i _=>hs.get i⟩
  rw [show (i+64-0)%8=i by omega]
 | t+1,h=>by
  obtain ⟨h1,h2,h3⟩:=Z5K bl st hb hs t (by omega)
  rw [Z3z,Z9k]
  have hR:=h1.step (by omega)
  refine ⟨hR,h2.step h3 (by omega) ?_,Zdb h3⟩
  rw [hR.2 t (by omega) (by omega)]
  unfold Z1b
  rfl
theorem Z9r (st x:List Int) (i:Nat):WZ st x (i+1)=(WZ st x i).set i (u32.wrap ((WZ st x i).getD i 0+st.getD i 0)):=by rw [WZ]
theorem Z9s (st x:List Int):WZ st x 0=x:=by rw [WZ]
theorem Zdc (st x:List Int) (hs:st.length=8) (hx:x.length=8):WZ st x 8=Z9d st x:=by
 obtain ⟨a0,a1,a2,a3,a4,a5,a6,a7,rfl⟩:=eight st hs
 obtain ⟨b0,b1,b2,b3,b4,b5,b6,b7,rfl⟩:=eight x hx
 simp only [Z9r,Z9s]
 simp [Z9d,List.set,Int.add_comm]
theorem Z7n {x y:List Int} (h:Z2H x y 64) (hy:y.length=8):y=x:=by
 obtain ⟨h4,h5⟩:=h
 obtain ⟨a0,a1,a2,a3,a4,a5,a6,a7,rfl⟩:=eight _ hy
 obtain ⟨b0,b1,b2,b3,b4,b5,b6,b7,rfl⟩:=eight _ h4
 have g0:=h5 0 (by omega)
 have g1:=h5 1 (by omega)
 have g2:=h5 2 (by omega)
 have g3:=h5 3 (by omega)
 have g4:=h5 4 (by omega)
 have g5:=h5 5 (by omega)
 have g6:=h5 6 (by omega)
 have g7:=h5 7 (by omega)
 simp at g0 g1 g2 g3 g4 g5 g6 g7
 simp [g0,g1,g2,g3,g4,g5,g6,g7]
theorem Z5L (st bl:List Int) (hb:∀x∈bl,U8 x) (hs:W8 st):XG st bl=XZ st bl:=by
 obtain ⟨_,h2,h3⟩:=Z5K bl st hb hs 64 (by omega)
 have hl:=QU (M:=Xl) (P:=Xd) (m:=W0 bl 64) hs.1 64
 unfold XG XZ
 rw [Zdc _ _ hs.1 hl]
 congr 1
 exact Z7n h2 hl
theorem Z5M (st bl:List Int) (hs:st.length=8):W8 (XZ st bl):=by
 refine ⟨Z3A st bl hs,fun x hx=> ?_⟩
 unfold XZ Z9d at hx
 obtain ⟨i,hi,rfl⟩:=List.getElem_of_mem hx
 simp only [List.getElem_zipWith]
 exact Z0v _
def UK (P:List Int→List Int→List Int):Nat→List Int→List Int→List Int
 | 0,st,_=>st
 | n+1,st,ms=>UK P n (P st (ms.take 64)) (ms.drop 64)
theorem Z0w (P:List Int→List Int→List Int):∀(n:Nat) (st ms:List Int),UK P (n+1) st ms=P (UK P n st ms) ((ms.drop (64*n)).take 64)
 | 0,_,_=>rfl
 | n+1,st,ms=>by
  rw [UK,Z0w P n,List.drop_drop]
  rw [show 64+64*n=64*(n+1) by omega]
  rfl
theorem Z2I (P:List Int→List Int→List Int):∀(n:Nat) (st ms more:List Int),64*n≤ms.length→UK P n st (ms++more)=UK P n st ms
 | 0,_,_,_,_=>rfl
 | n+1,st,ms,more,h=>by
  rw [UK,UK,List.take_append_of_le_length (by omega),List.drop_append_of_le_length (by omega),Z2I P n _ _ _ (by rw [List.length_drop];omega)]
theorem Z2J:∀(n:Nat) (st ms:List Int),W8 st→(∀x∈ms,U8 x)→UK XG n st ms=UK XZ n st ms
 | 0,_,_,_,_=>rfl
 | n+1,st,ms,hs,hm=>by
  rw [UK,UK,Z5L st _ (fun x hx=>hm x (List.mem_of_mem_take hx)) hs]
  exact Z2J n _ _ (Z5M st _ hs.1) fun x hx=>hm x (List.mem_of_mem_drop hx)
structure Rep (r:Zz) (ms:List Int):Prop where
 came:r.came=ms.length
 st:r.st=UK XZ (ms.length/64) X0.st ms
 len:r.part.length=64
 part:r.part.take (ms.length%64)=ms.drop (64*(ms.length/64))
theorem Rep.ok {r:Zz} {ms:List Int} (h:Rep r ms) (h8:r.st.length=8):r.Ok:=⟨h8,h.len,by rw [h.came];omega⟩
theorem Rep.one {r:Zz} {ms:List Int} (h:Rep r ms) (bs:List Int):Rep (r.one bs) (ms++wTk r.came bs):=by
 have ha:wAt r.came=ms.length%64:=by
  unfold wAt
  rw [h.came,tm (by omega)]
  omega
 have hk:(wTk r.came bs).length≤64-ms.length%64:=by
  unfold wTk
  rw [ha,List.length_take]
  omega
 have hdl:(ms.drop (64*(ms.length/64))).length=ms.length%64:=by rw [List.length_drop];omega
 have hp:Ve r.part r.came bs=ms.drop (64*(ms.length/64))++wTk r.came bs++r.part.drop (ms.length%64+(wTk r.came bs).length):=by
  unfold Ve spl
  rw [ha,h.part]
 have hl:(Ve r.part r.came bs).length=64:=by
  rw [hp,List.length_append,List.length_append,hdl,List.length_drop,h.len]
  omega
 have hst:(r.one bs).st=if ms.length%64+(wTk r.came bs).length=64 then XZ r.st (Ve r.part r.came bs) else r.st:=by
  show wSt _ _ _ _=_
  unfold wSt
  rw [ha]
 have hca:(r.one bs).came=r.came+(wTk r.came bs).length:=rfl
 have hpa:(r.one bs).part=Ve r.part r.came bs:=rfl
 generalize wTk r.came bs=tk at*
 generalize Ve r.part r.came bs=pa at*
 have hal:(ms++tk).length=ms.length+tk.length:=List.length_append
 refine ⟨by rw [hca,h.came,hal];omega, ?_,by rw [hpa];exact hl, ?_⟩
 ·rw [hst,h.st]
  by_cases h64:ms.length%64+tk.length=64
  ·rw [if_pos h64,hal,show (ms.length+tk.length)/64=ms.length/64+1 by omega,Z0w,Z2I _ _ _ _ _ (by omega)]
   congr 1
   rw [List.drop_append_of_le_length (by omega),hp,show r.part.drop (ms.length%64+tk.length)=[] from List.drop_eq_nil_of_le (by rw [h.len];omega),List.append_nil,List.take_of_length_le (by rw [List.length_append,hdl];omega)]
  ·rw [if_neg h64,hal,show (ms.length+tk.length)/64=ms.length/64 by omega,Z2I _ _ _ _ _ (by omega)]
 ·rw [hpa,hal]
  by_cases h64:ms.length%64+tk.length=64
  ·rw [show (ms.length+tk.length)%64=0 by omega,List.take_zero,List.drop_eq_nil_of_le (by rw [hal];omega)]
  ·rw [show (ms.length+tk.length)/64=ms.length/64 by omega,show (ms.length+tk.length)%64=ms.length%64+tk.length by omega,hp,List.drop_append_of_le_length (by omega)]
   rw [List.take_append_of_le_length (by rw [List.length_append,hdl];omega)]
   exact List.take_of_length_le (by rw [List.length_append,hdl];omega)
theorem Rep.many:∀(n:Nat) (r:Zz) (ms bs:List Int),r.Ok→Rep r ms→bs.length≤n→Rep (Zz.many n r bs).1 (ms++bs)
 | 0,r,ms,bs,_,h,hn=>by
  have:bs=[]:=List.eq_nil_of_length_eq_zero (by omega)
  subst this
  rw [List.append_nil]
  exact h
 | n+1,r,ms,bs,hr,h,hn=>by
  unfold Zz.many
  split
  ·rw [List.append_nil];exact h
  ·rename_i b bs
   have hp:=Uy hr (bs:=b::bs) (by simp)
   have hb:(b::bs)=wTk r.came (b::bs)++(b::bs).drop (wTk r.came (b::bs)).length:=by
    unfold wTk
    rw [List.length_take]
    by_cases h:64-wAt r.came≤(b::bs).length
    ·rw [Nat.min_eq_left h,List.take_append_drop]
    ·rw [Nat.min_eq_right (by omega),List.take_of_length_le (by omega),List.drop_length,List.append_nil]
   have:=Rep.many n _ _ ((b::bs).drop (wTk r.came (b::bs)).length) (hr.one _) (h.one (b::bs)) (by rw [List.length_drop];simp only [List.length_cons] at hn⊢;omega)
   rw [List.append_assoc,←hb] at this
   exact this
theorem Rep.write {r:Zz} {ms:List Int} (hr:r.Ok) (h:Rep r ms) (bs:List Int):Rep (r.write bs) (ms++bs):=by
 unfold Zz.write
 exact Rep.many _ _ _ _ hr h (Nat.le_refl _)
theorem Rep.init:Rep X0 []:=⟨rfl,rfl,rfl,rfl⟩
def Z0x (bs:List Int):List Int:=bs++UI bs.length++len8 bs.length
def Z7o (P:List Int→List Int→List Int) (bs:List Int):List Int:=Z5F (UK P ((Z0x bs).length/64) X0.st (Z0x bs))
theorem Rep.fin {r:Zz} {ms:List Int} (hr:r.Ok) (h:Rep r ms):r.fin=Z7o XZ ms:=by
 have h1:=h.write hr (UI r.came)
 have h2:=h1.write (Vf _ _ hr) (len8 r.came)
 unfold Zz.fin Z7o
 rw [h2.st,h.came]
 rfl
theorem Zb7 (bs:List Int):Zt bs=Z7o XZ bs:=by
 unfold Zt
 have:=Rep.init.write Vg bs
 exact this.fin (Vf _ _ Vg)
theorem Z5N:W8 X0.st:=by
 refine ⟨rfl,fun x hx=> ?_⟩
 simp only [X0,List.mem_cons,List.not_mem_nil,or_false] at hx
 unfold U32
 rcases hx with rfl|rfl|rfl|rfl|rfl|rfl|rfl|rfl<;>omega
theorem Zdd (n:Int):∀x∈UI n,U8 x:=by
 intro x hx
 unfold UI at hx
 rcases List.mem_append.mp hx with h|h
 ·rw [List.mem_singleton] at h
  subst h
  unfold U8;omega
 ·rw [List.eq_of_mem_replicate h]
  unfold U8;omega
theorem Zfz (x:Int):U8 (u8.wrap x):=by rw [wr8];unfold U8;omega
theorem Zde (n:Int):∀x∈len8 n,U8 x:=by
 intro x hx
 unfold len8 UY at hx
 simp only [List.mem_cons,List.not_mem_nil,or_false] at hx
 rcases hx with h|h|h|h|h|h|h|h<;>rw [h]<;>exact Zfz _
theorem Z9t {bs:List Int} (h:∀x∈bs,U8 x):∀x∈Z0x bs,U8 x:=by
 intro x hx
 unfold Z0x at hx
 rcases List.mem_append.mp hx with h1|h1
 ·rcases List.mem_append.mp h1 with h2|h2
  ·exact h x h2
  ·exact Zdd _ x h2
 ·exact Zde _ x h1
end Go.Tk
end
section
namespace Go.Tk
open IntKind (i64 u8 u32 u64 wrap)
theorem Zdf:UD XG:=⟨fun st bl h=>Z5H st bl h,fun _ _ h=>Z4H h⟩
theorem Zb8 (x:List Int) (i:Nat):toN x (i+1)=((((toN x i).set (4*i) (u8.wrap (u32.wrap (Int.tdiv (x.getD i 0) 16777216)))).set (4*i+1) (toE (x.getD i 0) 65536)).set (4*i+2) (toE (x.getD i 0) 256)).set (4*i+3) (u8.wrap (Int.tmod (x.getD i 0) 256)):=by rw [toN]
theorem Zb9 (x:List Int):toN x 0=Z9:=by rw [toN]
def four (x:Int):List Int:=[u8.wrap (u32.wrap (Int.tdiv x 16777216)),toE x 65536,toE x 256,u8.wrap (Int.tmod x 256)]
theorem Z7p (x:List Int) (h:x.length=8):Q0 x=four (x.getD 0 0)++four (x.getD 1 0)++four (x.getD 2 0)++four (x.getD 3 0)++four (x.getD 4 0)++four (x.getD 5 0)++four (x.getD 6 0)++four (x.getD 7 0):=by
 unfold Q0
 simp only [Zb8,Zb9]
 generalize x.getD 0 0=x0
 generalize x.getD 1 0=x1
 generalize x.getD 2 0=x2
 generalize x.getD 3 0=x3
 generalize x.getD 4 0=x4
 generalize x.getD 5 0=x5
 generalize x.getD 6 0=x6
 generalize x.getD 7 0=x7
 kernel_rfl
theorem Zdg (x:Int):u64.wrap x=x%18446744073709551616:=by
 unfold wrap
 simp [IntKind.bits,IntKind.signed]
theorem Z5O (x n:Nat) (hn:n≤64):Zy .u64 x n=((x/2^n:Nat):Int):=by
 unfold Zy
 have:min (n:Int).toNat u64.bits=n:=by simp [IntKind.bits];omega
 rw [this,Int.fdiv_eq_ediv_of_nonneg _ (Int.le_of_lt (Int.pow_pos (by decide)))]
 simp
theorem Xu {x:Int} (h:U32 x):four x=WQ (u64.wrap x):=by
 obtain ⟨x,rfl,gx⟩:=h.nat
 have e:u64.wrap (x:Int)=x:=by rw [Zdg];omega
 have s24:=Z5O x 24 (by omega)
 have s16:=Z5O x 16 (by omega)
 have s8:=Z5O x 8 (by omega)
 have s0:=Z5O x 0 (by omega)
 rw [show ((24:Nat):Int)=24 from rfl] at s24
 rw [show ((16:Nat):Int)=16 from rfl] at s16
 rw [show ((8:Nat):Int)=8 from rfl] at s8
 rw [show ((0:Nat):Int)=0 from rfl] at s0
 have d1:Int.tdiv (x:Int) 16777216=(x:Int)/16777216:=Int.tdiv_eq_ediv_of_nonneg (by omega)
 have d2:Int.tdiv (x:Int) 65536=(x:Int)/65536:=Int.tdiv_eq_ediv_of_nonneg (by omega)
 have d3:Int.tdiv (x:Int) 256=(x:Int)/256:=Int.tdiv_eq_ediv_of_nonneg (by omega)
 unfold four WQ toE
 rw [e,s24,s16,s8,s0,d1,d2,d3]
 simp only [wr8,Z5J]
 rw [tm (a:=(x:Int)/65536%4294967296) (by omega),tm (a:=(x:Int)/256%4294967296) (by omega),tm (a:=(x:Int)) (by omega)]
 simp only [List.cons.injEq,and_true]
 omega
theorem Z7q {x:List Int} (h:W8 x):Q0 x=Z5F x:=by
 rw [Z7p x h.1]
 unfold Z5F
 rw [Xu (h.get 0),Xu (h.get 1),Xu (h.get 2),Xu (h.get 3),Xu (h.get 4),Xu (h.get 5),Xu (h.get 6),Xu (h.get 7)]
theorem Xv (n:Nat) (i:Nat) (hi:i<8):Zd1 n i=u8.wrap (Zy .u64 (u64.wrap (u64.wrap n*8)) ((56-8*i:Nat):Int)):=by
 unfold Zd1
 have e1:i64.wrap (8*(i:Int))=8*(i:Int):=w64 (by omega)
 have e2:i64.wrap (56-8*(i:Int))=((56-8*i:Nat):Int):=by rw [w64 (by omega)];omega
 have e3:u64.wrap ((56-8*i:Nat):Int)=((56-8*i:Nat):Int):=by rw [Zdg];omega
 rw [e1,e2,e3]
 obtain ⟨m,hm⟩:∃m:Nat,u64.wrap (u64.wrap n*8)=m:=⟨(u64.wrap (u64.wrap n*8)).toNat,by rw [Zdg,Zdg];omega⟩
 rw [hm,Z5O m _ (by omega)]
 generalize m/2^(56-8*i)=q
 rw [tm (by omega),wr8,wr8]
 omega
theorem Z9u (n:Nat):XJ n 8=len8 n:=by
 simp only [XJ,List.nil_append,List.cons_append]
 unfold len8 UY
 rw [Xv n 0 (by omega),Xv n 1 (by omega),Xv n 2 (by omega),Xv n 3 (by omega),Xv n 4 (by omega),Xv n 5 (by omega),Xv n 6 (by omega),Xv n 7 (by omega)]
 rfl
theorem Z9v (n:Nat) (h:n≤100000000000):[128]++Z1a n=UI n:=by
 unfold Z1a UI
 have e1:Int.tmod (n:Int) 64=(n:Int)%64:=tm (by omega)
 have e2:i64.wrap (119-(n:Int)%64)=119-(n:Int)%64:=w64 (by omega)
 rw [Zd3 n h,e1,e2,tm (by omega)]
 congr 2
 omega
theorem Zba (bs:List Int) (h:bs.length≤100000000000):Ub bs=Z0x bs:=by
 unfold Ub Z0x
 rw [Z9u,List.append_assoc bs,Z9v _ h]
theorem Z3O (P:List Int→List Int→List Int) (ys:List Int):∀i,UJ P ys i=UK P i X0.st ys
 | 0=>Z3I P ys
 | i+1=>by rw [Z3J,Z0w,Z3O P ys i]
theorem Z8j:∀(n:Nat) (st ms:List Int),W8 st→W8 (UK XZ n st ms)
 | 0,_,_,h=>h
 | n+1,st,_,h=>Z8j n _ _ (Z5M st _ h.1)
@[irreducible] def Z0y (bs:List Int):List Int:=Zd7 XG bs
theorem Zdh {bs:List Int} (h:∀x∈bs,U8 x) (hl:bs.length≤100000000000):Z0y bs=Zt bs:=by
 unfold Z0y Zd7
 rw [Z3O,Zba bs hl,Z2J _ _ _ Z5N (Z9t h),Z7q (Z8j _ _ _ Z5N),Zb7]
 rfl
theorem Z9w (xs:List Int) (h:xs.length≤100000000000):ZI PP 79 [.vints .u8 xs xs.length] (.agg [.arr .u8 32 (Z0y xs)]) 0 []:=by
 unfold Z0y
 exact Z9o Zdf xs h
end Go.Tk
end
section
namespace Go.Tk
open IntKind (i64 u8 u32 u64 wrap)
end Go.Tk
end
section
namespace Go.Tk
open IntKind (i64 u8 u32 u64 wrap)
end Go.Tk
end
section
namespace Go.Tk
open IntKind (i64 u8 u32 u64 wrap)
end Go.Tk
end
section
namespace Go.Tk
open IntKind (i64 u8 u32 u64 wrap)
structure Zo where
 fund:List Int
 index:Int
 cap:Int
 dust:Int
 fee:Int
 delay:Int
 k0:List Int
 k1:List Int
def Zo.c (t:Zo):List AV:=[.arr .u8 32 t.fund,.int .i64 t.index,.int .i64 t.cap,.int .i64 t.dust,.int .i64 t.fee,.int .i64 t.delay,.arr .u8 32 t.k0,.arr .u8 32 t.k1]
structure Zo.Ok (t:Zo):Prop where
 k0:t.k0.length=32
 k1:t.k1.length=32
 b0:Bytes t.k0
 b1:Bytes t.k1
def YT (t:Zo):Bool:=decide (0≤t.index∧t.index≤23)&&decide (1000≤t.cap∧t.cap≤1125899906842624)&&decide (1≤t.dust∧t.dust≤500)&&decide (0≤t.fee∧t.fee≤400)&&decide (1≤t.delay∧t.delay≤1000)&&(t.k0 !=t.k1)
theorem Vl (b:Bool) (x y:Prop):Z0 b x y=((b=true→x)∧(b=false→y)):=by cases b<;>simp [Z0]
theorem Zgt (n a b:Int) (r:Bool) (hr:r=decide (a≤n∧n≤b)):
  evF G0 20 60 [.int .i64 n,.int .i64 a,.int .i64 b] ⟨0,[]⟩ (YM (fun v=>v=.bool r)):=by
 refine @Eq.mpr _ (Z0 (decide (a≤n)) (AV.bool (decide (n≤b))=AV.bool r) (AV.bool false=AV.bool r)) (by kernel_rfl) ?_
 simp only [Vl]
 subst hr
 by_cases h1:a≤n<;>by_cases h2:n≤b<;>simp [h1,h2]
def inQ:ZU:=fun args _ K=>match args with
 | [.int .i64 n,.int .i64 a,.int .i64 b]=>K (.bool (decide (a≤n∧n≤b)))
 | _=>False
theorem ZfA (args:List AV) (h:Z6) (K:AV→Prop) (hl:inQ args h K):Zn PP 60 args h fun o h'=>∃v,o=.ret v∧h'=h∧K v:=by
 unfold inQ at hl
 split at hl
 ·exact Yq ZB rfl (Zgt _ _ _ _ rfl) (fun u hu=>hu▸hl)
 ·exact hl.elim
noncomputable def E71:Zf:=G0.withP 60 inQ
theorem ZfB:E71.Ok:=Zf.withP_ok ZB ZfA
theorem Zgu (t:Zo) (e:Int) (ht:t.Ok) (he:e=if YT t=true then 0 else 2):
  evF E71 20 58 [.agg t.c] ⟨0,[]⟩ (YM (fun v=>v=.int .i64 e)):=by
 refine @Eq.mpr _ (let q1:=AV.int i64 2=AV.int i64 e;
 Z0 (decide (List.length t.k0=32∧List.length t.k1=32)) (Z0 (false==decide (0≤t.index∧t.index≤23)) q1 (Z0 (false==decide (1000≤t.cap∧t.cap≤1125899906842624)) q1 (Z0 (false==decide (1≤t.dust∧t.dust≤500)) q1 (Z0 (false==decide (0≤t.fee∧t.fee≤400)) q1 (Z0 (false==decide (1≤t.delay∧t.delay≤1000)) q1 (Z0 (false== !t.k0==t.k1) q1 (AV.int i64 0=AV.int i64 e))))))) False) (by kernel_rfl) ?_
 conv=>zeta
 try simp only [Zi]
 try simp only [Zj]
 try simp only [Zk]
 try simp only [Zl]
 try simp only [Zm]
 try simp only [Zh]
 try simp only [Int.toNat_natCast,Nat.zero_add,true_and,and_true,Nat.le_refl]
 unfold YT at he
 refine ⟨⟨ht.k0,ht.k1⟩, ?_⟩
 generalize decide (0≤t.index∧t.index≤23)=c1 at*
 generalize decide (1000≤t.cap∧t.cap≤1125899906842624)=c2 at*
 generalize decide (1≤t.dust∧t.dust≤500)=c3 at*
 generalize decide (0≤t.fee∧t.fee≤400)=c4 at*
 generalize decide (1≤t.delay∧t.delay≤1000)=c5 at*
 have h6:(t.k0 !=t.k1)= !(t.k0==t.k1):=rfl
 rw [h6] at he
 generalize (t.k0==t.k1)=c6 at*
 cases c1<;>cases c2<;>cases c3<;>cases c4<;>cases c5<;>cases c6<;>simp_all
theorem Zgv (t:Zo) (b:Bool) (ht:t.Ok) (hb:b=YT t):
  evF G0 20 97 [.agg t.c] ⟨0,[]⟩ (YM (fun v=>v=.bool b)):=by
 refine @Eq.mpr _ (let q1:=t.cap;
 let q2:=AV.bool false=AV.bool b;
 Z0 (decide (t.index≥0)) (Z0 (decide (t.index<24)) (Z0 (decide (q1≥1000)) (Z0 (decide (q1≥0)) (Z0 (decide (q1≤1125899906842624)) (Z0 (decide (t.dust≥1)) (Z0 (decide (t.dust≤500)) (Z0 (decide (t.fee≥0)) (Z0 (decide (t.fee≤400)) (Z0 (decide (t.delay≥1)) (Z0 (decide (t.delay≤1000)) (Z0 (decide (List.length t.k0=32∧List.length t.k1=32)) ((AV.bool !t.k0==t.k1)=AV.bool b) False) q2) q2) q2) q2) q2) q2) q2) q2) q2) q2) q2) (by kernel_rfl) ?_
 conv=>zeta
 try simp only [Zi]
 try simp only [Zj]
 try simp only [Zk]
 try simp only [Zl]
 try simp only [Zm]
 try simp only [Zh]
 try simp only [Int.toNat_natCast,Nat.zero_add,true_and,and_true,Nat.le_refl]
 subst hb
 unfold YT
 repeat' (first|(refine And.intro ?_ ?_)|intro _|fail)
 all_goals first
  | exact ht.k0
  | exact ht.k1
  | (congr 1;symm;rw [Bool.eq_false_iff];simp only [ne_eq,Bool.and_eq_true,decide_eq_true_eq];intro h;omega)
  | (congr 1;have h1:(0≤t.index∧t.index≤23):=(by omega);have h2:(1000≤t.cap∧t.cap≤1125899906842624):=(by omega);have h3:(1≤t.dust∧t.dust≤500):=(by omega);have h4:(0≤t.fee∧t.fee≤400):=(by omega);have h5:(1≤t.delay∧t.delay≤1000):=(by omega);rw [decide_eq_true h1,decide_eq_true h2,decide_eq_true h3,decide_eq_true h4,decide_eq_true h5];rfl)
theorem Z5P (b:Bool) (x y:Prop):Z0 b x y=((b=true→x)∧(b=false→y)):=by cases b<;>simp [Z0]
theorem ZfC {x y:List Int} {b:Int} {i:Nat} {P:Prop} (hx:i<x.length) (hy:i<y.length) (bx:Bytes x) (yb:Bytes y) (hb:b=VV (x.drop i) (y.drop i)) (hP:b=VV (x.drop (i+1)) (y.drop (i+1))→P):
  Z0 (decide (x.getD i 0<y.getD i 0)) (AV.int .i64 (-1)=AV.int .i64 b) (Z0 (decide (x.getD i 0>y.getD i 0)) (AV.int .i64 1=AV.int .i64 b) P):=by
 have e1:x.drop i=x.getD i 0::x.drop (i+1):=by rw [List.drop_eq_getElem_cons hx];simp [List.getD_eq_getElem?_getD,hx]
 have e2:y.drop i=y.getD i 0::y.drop (i+1):=by rw [List.drop_eq_getElem_cons hy];simp [List.getD_eq_getElem?_getD,hy]
 rw [e1,e2] at hb
 have k1:=Z8a (bx.getD i) (yb.getD i)
 have k2:=Z8a (yb.getD i) (bx.getD i)
 generalize x.getD i 0=u at*
 generalize y.getD i 0=v at*
 simp only [VV,List.map_cons,Lib.compareBytes,k1.2,k2.2] at hb
 rw [Z5P,Z5P]
 refine ⟨fun h=> ?_,fun h=>⟨fun h'=> ?_,fun h'=> ?_⟩⟩
 ·have h:u<v:=by simpa using h
  rw [hb,if_pos h]
 ·have h:¬u<v:=by simpa using h
  have h':v<u:=by simpa using h'
  rw [hb,if_neg h,if_pos h']
 ·have h:¬u<v:=by simpa using h
  have h':¬v<u:=by simpa using h'
  rw [if_neg h,if_neg h'] at hb
  exact hP hb
theorem Zgw (x y:List Int) (b:Int) (hx:x.length=32) (hy:y.length=32) (bx:Bytes x) (yb:Bytes y) (hb:b=VV (x.drop 0) (y.drop 0)):
  evF G0 20 184 [.agg [.arr .u8 32 x],.agg [.arr .u8 32 y]] ⟨0,[]⟩ (YM (fun v=>v=.int .i64 b)):=by
 refine @Eq.mpr _ (let q1:=AV.int i64 b;
 let q2:=AV.int i64 (-1)=q1;
 let q3:=AV.int i64 1=q1;
 Z0 (decide (List.getD x 0 0<List.getD y 0 0)) q2
 (Z0 (decide (List.getD x 0 0>List.getD y 0 0)) q3
 (Z0 (decide (List.getD x 1 0<List.getD y 1 0)) q2
 (Z0 (decide (List.getD x 1 0>List.getD y 1 0)) q3
 (Z0 (decide (List.getD x 2 0<List.getD y 2 0)) q2
 (Z0 (decide (List.getD x 2 0>List.getD y 2 0)) q3
 (Z0 (decide (List.getD x 3 0<List.getD y 3 0)) q2
 (Z0 (decide (List.getD x 3 0>List.getD y 3 0)) q3
 (Z0 (decide (List.getD x 4 0<List.getD y 4 0)) q2
 (Z0 (decide (List.getD x 4 0>List.getD y 4 0)) q3
 (Z0 (decide (List.getD x 5 0<List.getD y 5 0)) q2
 (Z0 (decide (List.getD x 5 0>List.getD y 5 0)) q3
 (Z0 (decide (List.getD x 6 0<List.getD y 6 0)) q2
 (Z0 (decide (List.getD x 6 0>List.getD y 6 0)) q3
 (Z0 (decide (List.getD x 7 0<List.getD y 7 0)) q2
 (Z0 (decide (List.getD x 7 0>List.getD y 7 0)) q3
 (Z0 (decide (List.getD x 8 0<List.getD y 8 0)) q2
 (Z0 (decide (List.getD x 8 0>List.getD y 8 0)) q3
 (Z0 (decide (List.getD x 9 0<List.getD y 9 0)) q2
 (Z0 (decide (List.getD x 9 0>List.getD y 9 0)) q3
 (Z0 (decide (List.getD x 10 0<List.getD y 10 0)) q2
 (Z0 (decide (List.getD x 10 0>List.getD y 10 0)) q3
 (Z0 (decide (List.getD x 11 0<List.getD y 11 0)) q2
 (Z0 (decide (List.getD x 11 0>List.getD y 11 0)) q3
 (Z0 (decide (List.getD x 12 0<List.getD y 12 0)) q2
 (Z0 (decide (List.getD x 12 0>List.getD y 12 0)) q3
 (Z0 (decide (List.getD x 13 0<List.getD y 13 0)) q2
 (Z0 (decide (List.getD x 13 0>List.getD y 13 0)) q3
 (Z0 (decide (List.getD x 14 0<List.getD y 14 0)) q2
 (Z0 (decide (List.getD x 14 0>List.getD y 14 0)) q3
 (Z0 (decide (List.getD x 15 0<List.getD y 15 0)) q2
 (Z0 (decide (List.getD x 15 0>List.getD y 15 0)) q3
 (Z0 (decide (List.getD x 16 0<List.getD y 16 0)) q2
 (Z0 (decide (List.getD x 16 0>List.getD y 16 0)) q3
 (Z0 (decide (List.getD x 17 0<List.getD y 17 0)) q2
 (Z0 (decide (List.getD x 17 0>List.getD y 17 0)) q3
 (Z0 (decide (List.getD x 18 0<List.getD y 18 0)) q2
 (Z0 (decide (List.getD x 18 0>List.getD y 18 0)) q3
 (Z0 (decide (List.getD x 19 0<List.getD y 19 0)) q2
 (Z0 (decide (List.getD x 19 0>List.getD y 19 0)) q3
 (Z0 (decide (List.getD x 20 0<List.getD y 20 0)) q2
 (Z0 (decide (List.getD x 20 0>List.getD y 20 0)) q3
 (Z0 (decide (List.getD x 21 0<List.getD y 21 0)) q2
 (Z0 (decide (List.getD x 21 0>List.getD y 21 0)) q3
 (Z0 (decide (List.getD x 22 0<List.getD y 22 0)) q2
 (Z0 (decide (List.getD x 22 0>List.getD y 22 0)) q3
 (Z0 (decide (List.getD x 23 0<List.getD y 23 0)) q2
 (Z0 (decide (List.getD x 23 0>List.getD y 23 0)) q3
 (Z0 (decide (List.getD x 24 0<List.getD y 24 0)) q2 (Z0 (decide (List.getD x 24 0>List.getD y 24 0)) q3 (Z0 (decide (List.getD x 25 0<List.getD y 25 0)) q2 (Z0 (decide (List.getD x 25 0>List.getD y 25 0)) q3 (Z0 (decide (List.getD x 26 0<List.getD y 26 0)) q2 (Z0 (decide (List.getD x 26 0>List.getD y 26 0)) q3 (Z0 (decide (List.getD x 27 0<List.getD y 27 0)) q2 (Z0 (decide (List.getD x 27 0>List.getD y 27 0)) q3 (Z0 (decide (List.getD x 28 0<List.getD y 28 0)) q2 (Z0 (decide (List.getD x 28 0>List.getD y 28 0)) q3 (Z0 (decide (List.getD x 29 0<List.getD y 29 0)) q2 (Z0 (decide (List.getD x 29 0>List.getD y 29 0)) q3 (Z0 (decide (List.getD x 30 0<List.getD y 30 0)) q2 (Z0 (decide (List.getD x 30 0>List.getD y 30 0)) q3 (Z0 (decide (List.getD x 31 0<List.getD y 31 0)) q2 (Z0 (decide (List.getD x 31 0>List.getD y 31 0)) q3 (AV.int i64 0=q1))))))))))))))))))))))))))))))))))))))))))))))))))))))))))))))))) (by kernel_rfl) ?_
 conv=>zeta
 iterate 32 refine ZfC (by omega) (by omega) bx yb hb fun hb=> ?_
 rw [List.drop_eq_nil_of_le (by omega),List.drop_eq_nil_of_le (by omega)] at hb
 have h0:VV [] []=0:=rfl
 rw [hb,h0]
def Zbb:ZU:=fun args _ K=>match args with
 | [.agg [.arr .u8 32 fu,.int .i64 ix,.int .i64 ca,.int .i64 du,.int .i64 fe,.int .i64 de,.arr .u8 32 k0,.arr .u8 32 k1]]=>(Zo.Ok ⟨fu,ix,ca,du,fe,de,k0,k1⟩)∧K (.int .i64 (if YT ⟨fu,ix,ca,du,fe,de,k0,k1⟩=true then 0 else 2))
 | _=>False
theorem Zbc (args:List AV) (h:Z6) (K:AV→Prop) (hl:Zbb args h K):Zn PP 58 args h fun o h'=>∃v,o=.ret v∧h'=h∧K v:=by
 unfold Zbb at hl
 split at hl
 ·obtain ⟨ht,hK⟩:=hl
  exact Yq ZfB rfl (Zgu ⟨_,_,_,_,_,_,_,_⟩ _ ht rfl) (fun u hu=>hu▸hK)
 ·exact hl.elim
def Z7r:ZU:=fun args _ K=>match args with
 | [.agg [.arr .u8 32 fu,.int .i64 ix,.int .i64 ca,.int .i64 du,.int .i64 fe,.int .i64 de,.arr .u8 32 k0,.arr .u8 32 k1]]=>(Zo.Ok ⟨fu,ix,ca,du,fe,de,k0,k1⟩)∧K (.bool (YT ⟨fu,ix,ca,du,fe,de,k0,k1⟩))
 | _=>False
theorem Z9x (args:List AV) (h:Z6) (K:AV→Prop) (hl:Z7r args h K):Zn PP 97 args h fun o h'=>∃v,o=.ret v∧h'=h∧K v:=by
 unfold Z7r at hl
 split at hl
 ·obtain ⟨ht,hK⟩:=hl
  exact Yq ZB rfl (Zgv ⟨_,_,_,_,_,_,_,_⟩ _ ht rfl) (fun u hu=>hu▸hK)
 ·exact hl.elim
def ZfD:ZU:=fun args _ K=>match args with
 | [.agg [.arr .u8 32 x],.agg [.arr .u8 32 y]]=>(x.length=32∧y.length=32)∧Bytes x∧Bytes y∧K (.int .i64 (VV x y))
 | _=>False
theorem Zdi (args:List AV) (h:Z6) (K:AV→Prop) (hl:ZfD args h K):Zn PP 184 args h fun o h'=>∃v,o=.ret v∧h'=h∧K v:=by
 unfold ZfD at hl
 split at hl
 ·obtain ⟨⟨h1,h2⟩,b1,b2,hK⟩:=hl
  exact Yq ZB rfl (Zgw _ _ _ h1 h2 b1 b2 rfl) (fun u hu=>hu▸hK)
 ·exact hl.elim
end Go.Tk
end
section
namespace Go.Tk
open IntKind (i64 u8 u32 u64 wrap)
structure Z7 where
 own:Bool
 id:Int
 amount:Int
 hash:List Int
 expiry:Int
 stage:Int
 fin:Int
 secret:List Int
def Z7.c (h:Z7):List AV:=[.bool h.own,.int .i64 h.id,.int .i64 h.amount,.arr .u8 32 h.hash,.int .i64 h.expiry,.int .i64 h.stage,.int .i64 h.fin,.arr .u8 32 h.secret]
structure Z7.Ok (h:Z7):Prop where
 hash:h.hash.length=32
 hb:Bytes h.hash
 secret:h.secret.length=32
 sb:Bytes h.secret
def Zr:Z7:=⟨false,0,0,Z9,0,0,0,Z9⟩
def Z5 (L:List Z7) (i:Nat):List AV:=(L.getD i Zr).c
structure Za where
 t:Zo
 side:Int
 res:Int
 a0:Int
 a1:Int
 i0:Int
 i1:Int
 L:List Z7
def Za.c (X:Za) (l:AV):List AV:=X.t.c++[.int .i64 X.side,.int .i64 X.res,.arr .i64 2 [X.a0,X.a1],.arr .i64 2 [X.i0,X.i1],l]
def ZN (side:Int) (own:Bool):Int:=match own with|true=>side|false=>1-side
def Za.nx (X:Za) (own:Bool):Int:=match own with|true=>X.i0|false=>X.i1
def Za.am (X:Za) (s:Int):Int:=if s=0 then X.a0 else X.a1
def ZK (side s:Int) (L:List Z7):List Z7:=L.filter fun h=>decide (ZN side h.own=s)
def YU (L:List Z7):List Int:=L.map (·.amount)
def Y4 (X:Za) (s:Int):Int:=X.am s-(YU (ZK X.side s X.L)).sum-X.res-(if s=0 then X.t.fee else 0)
def Yu (h:Z7):Bool:=decide (0≤h.id∧h.id≤2147483647)&&decide (1≤h.amount∧h.amount≤1125899906842624)&&decide (1≤h.expiry∧h.expiry≤2147483647)
def Z3b (H:List Int→List Int) (h:Z7):Bool:=if h.fin=0 then decide (h.stage<6)&&(h.secret==Z9) else if h.fin=1 then decide (6≤h.stage)&&(H h.secret==h.hash) else if h.fin=2 then decide (6≤h.stage)&&(h.secret==Z9) else false
def Xp (H:List Int→List Int) (X:Za) (h:Z7):Bool:=Yu h&&decide (h.id<X.nx h.own)&&decide (1≤h.stage∧h.stage≤9)&&Z3b H h
def Xm (a b:Z7):Prop:=(a.own=true∧b.own=false)∨(a.own=b.own∧a.id<b.id∧min b.stage 5≤min a.stage 5)
instance (a b:Z7):Decidable (Xm a b):=by unfold Xm;infer_instance
def XI (H:List Int→List Int) (X:Za) (i:Nat):Bool:=Xp H X (X.L.getD i Zr)&&(Nat.beq i 0||decide (Xm (X.L.getD (i-1) Zr) (X.L.getD i Zr)))
def Z5Q (X:Za):Bool:=YT X.t&&decide (0≤X.side∧X.side≤1)&&decide (0≤X.res∧X.res≤X.t.cap/10)&&decide (0≤X.a0∧X.a0≤X.t.cap)&&decide (X.a1=X.t.cap-X.a0)&&decide (0≤X.i0∧X.i0≤2147483648)&&decide (0≤X.i1∧X.i1≤2147483648)&&decide ((ZK X.side 0 X.L).length≤8)&&decide ((ZK X.side 1 X.L).length≤8)
def X6 (H:List Int→List Int) (X:Za):Bool:=Z5Q X&&(List.range X.L.length).all (XI H X)&&decide (0≤Y4 X 0)&&(decide ((ZK X.side 1 X.L).length=0)||decide (0≤Y4 X 1))
theorem Z7s {a b c:Z7} (h1:Xm a b) (h2:Xm b c):Xm a c:=by
 unfold Xm at*
 rcases h1 with ⟨p1,p2⟩|⟨p1,p2,p3⟩<;>rcases h2 with ⟨q1,q2⟩|⟨q1,q2,q3⟩
 ·rw [p2] at q1;cases q1
 ·exact .inl ⟨p1,by rw [←q1,p2]⟩
 ·exact .inl ⟨by rw [p1,q1],q2⟩
 ·exact .inr ⟨p1.trans q1,by omega,by omega⟩
theorem VJ {α:Type} {R:α→α→Prop} (ht:∀{a b c},R a b→R b c→R a c) (d:α):∀(L:List α),(∀i,i+1<L.length→R (L.getD i d) (L.getD (i+1) d))→L.Pairwise R
 | [],_=>.nil
 | [a],_=>by simp
 | a::b::r,h=>by
  have ih:=VJ (R:=R) ht d (b::r) fun i hi=>by
   have:=h (i+1) (by simpa using hi)
   rw [List.getD_cons_succ,List.getD_cons_succ] at this
   exact this
  refine List.pairwise_cons.2 ⟨fun z hz=> ?_,ih⟩
  have hab:R a b:=by simpa using h 0 (by simp)
  rcases List.mem_cons.1 hz with rfl|hz
  ·exact hab
  ·exact ht hab ((List.pairwise_cons.1 ih).1 z hz)
structure Za.Inv (H:List Int→List Int) (X:Za):Prop where
 tok:X.t.Ok
 tb:YT X.t=true
 side:X.side=0∨X.side=1
 res:0≤X.res∧X.res≤X.t.cap/10
 a0:0≤X.a0∧X.a0≤X.t.cap
 a1:X.a1=X.t.cap-X.a0
 i0:0≤X.i0∧X.i0≤2147483648
 i1:0≤X.i1∧X.i1≤2147483648
 n0:(ZK X.side 0 X.L).length≤8
 n1:(ZK X.side 1 X.L).length≤8
 und:∀h∈X.L,Xp H X h=true
 fol:X.L.Pairwise Xm
 ov0:0≤Y4 X 0
 ov1:ZK X.side 1 X.L=[]∨0≤Y4 X 1
 ok:∀h∈X.L,h.Ok
theorem Z0z {X:Za}:Z5Q X=true↔YT X.t=true∧(0≤X.side∧X.side≤1)∧(0≤X.res∧X.res≤X.t.cap/10)∧(0≤X.a0∧X.a0≤X.t.cap)∧X.a1=X.t.cap-X.a0∧(0≤X.i0∧X.i0≤2147483648)∧(0≤X.i1∧X.i1≤2147483648)∧(ZK X.side 0 X.L).length≤8∧(ZK X.side 1 X.L).length≤8:=by
 unfold Z5Q
 simp only [Bool.and_eq_true,decide_eq_true_eq,and_assoc]
theorem Qq {H:List Int→List Int} {X:Za}:X6 H X=true↔Z5Q X=true∧(∀i,i<X.L.length→XI H X i=true)∧0≤Y4 X 0∧((ZK X.side 1 X.L).length=0∨0≤Y4 X 1):=by
 unfold X6
 simp only [Bool.and_eq_true,Bool.or_eq_true,decide_eq_true_eq,and_assoc,List.all_eq_true,List.mem_range]
theorem Yd {L:List Z7} {i:Nat} (h:i<L.length):L.getD i Zr∈L:=by
 rw [List.getD_eq_getElem?_getD,List.getElem?_eq_getElem h];exact List.getElem_mem h
theorem Zdj {H:List Int→List Int} {X:Za} (ht:X.t.Ok) (hok:∀h∈X.L,h.Ok):X6 H X=true↔X.Inv H:=by
 rw [Qq,Z0z]
 constructor
 ·rintro ⟨⟨h1,h2,h3,h4,h5,h6,h7,h8,h9⟩,hl,h10,h11⟩
  refine ⟨ht,h1,by omega,h3,h4,h5,h6,h7,h8,h9,fun h hh=> ?_, ?_,h10, ?_,hok⟩
  ·obtain ⟨i,hi,rfl⟩:=List.getElem_of_mem hh
   have:=hl i hi
   unfold XI at this
   simp only [Bool.and_eq_true] at this
   rw [List.getD_eq_getElem?_getD,List.getElem?_eq_getElem hi] at this
   exact this.1
  ·refine VJ (R:=Xm) Z7s Zr X.L fun i hi=> ?_
   have:=hl (i+1) hi
   unfold XI at this
   simp only [Bool.and_eq_true,Bool.or_eq_true,decide_eq_true_eq,Nat.add_sub_cancel] at this
   rcases this.2 with h|h
   ·have:=Nat.eq_of_beq_eq_true h;omega
   ·exact h
  ·rcases h11 with h|h
   ·exact .inl (List.eq_nil_of_length_eq_zero h)
   ·exact .inr h
 ·intro h
  refine ⟨⟨h.tb,by have:=h.side;omega,h.res,h.a0,h.a1,h.i0,h.i1,h.n0,h.n1⟩,fun i hi=> ?_,h.ov0, ?_⟩
  ·unfold XI
   simp only [Bool.and_eq_true,Bool.or_eq_true,decide_eq_true_eq]
   refine ⟨h.und _ (Yd hi), ?_⟩
   cases i with
   | zero=>exact .inl rfl
   | succ i=>
    right
    rw [Nat.add_sub_cancel,List.getD_eq_getElem?_getD,List.getD_eq_getElem?_getD,List.getElem?_eq_getElem hi,List.getElem?_eq_getElem (by omega)]
    exact (List.pairwise_iff_getElem.1 h.fol) i (i+1) (by omega) hi (by omega)
  ·rcases h.ov1 with h|h
   ·exact .inl (by rw [h];rfl)
   ·exact .inr h
def Wd (own:Bool) (s:Int):Int:=if s<1∨9<s∨s=5 then 0 else match own with
 | true=>if s<5 then s else (s-4)%4+1
 | false=>if s<5 then (s+1)%4+1 else s-5
def Y1 (own:Bool) (s m:Int):Int:=if Wd own s=m then s+1 else s
def Yv (own:Bool) (s:Int) (ours:Bool):Bool:=if own=ours then decide (4≤s∧s≤6) else decide (2≤s∧s≤8)
def Xc (h:Z7):List Z7→List Z7
 | []=>[h]
 | x::r=>if h.own=true∧x.own=false then h::x::r else x::Xc h r
def Xq (X:Za) (own:Bool) (id am:Int) (hash:List Int) (ex:Int):Z7:=⟨own,id,am,hash,ex,1,0,Z9⟩
def addE (X:Za) (own:Bool) (id am:Int) (hash:List Int) (ex:Int):Int:=
 if Yu (Xq X own id am hash ex)=false then 2 else if id≠X.nx own then 200 else if 8≤(ZK X.side (ZN X.side own) X.L).length then 201 else if Y4 X (ZN X.side own)<am then 202 else 0
def WC (X:Za) (own:Bool) (d:Int):Za:=match own with
 | true=>{ X with i0:=X.i0+d}
 | false=>{ X with i1:=X.i1+d}
def addX (X:Za) (own:Bool) (id am:Int) (hash:List Int) (ex:Int):Za:=if addE X own id am hash ex=0 then { WC X own 1 with L:=Xc (Xq X own id am hash ex) X.L} else X
def ZJ (own:Bool) (id:Int):List Z7→Nat
 | []=>0
 | x::r=>if x.own=own∧x.id=id then 0 else ZJ own id r+1
def endE (H:List Int→List Int) (X:Za) (own:Bool) (id k:Int) (sec:List Int):Int:=
 if X.L.length≤ZJ own id X.L then 5 else if (X.L.getD (ZJ own id X.L) Zr).stage≠5 then 190 else if k=1∧H sec≠(X.L.getD (ZJ own id X.L) Zr).hash then 203 else 0
def QX (h:Z7) (k:Int) (sec:List Int):Z7:={ h with stage:=6,fin:=k,secret:=sec}
def endX (H:List Int→List Int) (X:Za) (own:Bool) (id k:Int) (sec:List Int):Za:=if endE H X own id k sec=0 then { X with L:=X.L.set (ZJ own id X.L) (QX (X.L.getD (ZJ own id X.L) Zr) k sec)} else X
def stH (m:Int) (h:Z7):Z7:={ h with stage:=Y1 h.own h.stage m}
def Yg (m:Int) (L:List Z7):List Z7:=(L.map (stH m)).filter fun h=>decide (h.stage≠10)
def Yb (m:Int) (L:List Z7):List Z7:=(L.map (stH m)).filter fun h=>decide (h.stage=10)
def XQ (m:Int) (L:List Z7):List Z7:=(L.filter fun h=>decide (h.stage=4∧Wd h.own 4=m)).map (stH m)
def Xr (side:Int) (p:Int×Int) (h:Z7):Int×Int:=if h.fin=1 then (if ZN side h.own=0 then (p.1-h.amount,p.2+h.amount) else (p.1+h.amount,p.2-h.amount)) else p
def Ud (m side:Int) (p:Int×Int) (L:List Z7):Int×Int:=(Yb m L).foldl (Xr side) p
def stpX (X:Za) (m:Int):Za:=if 1≤m∧m≤4 then { X with L:=Yg m X.L,a0:=(Ud m X.side (X.a0,X.a1) X.L).1,a1:=(Ud m X.side (X.a0,X.a1) X.L).2} else X
end Go.Tk
end
section
namespace Go.Tk
open IntKind (i64 u8 u32 u64 wrap)
theorem Zgx (n a b:Int) (r:Bool) (hr:r=decide (a≤n∧n≤b)):
  evF G0 20 31 [.int .i64 n,.int .i64 a,.int .i64 b] ⟨0,[]⟩ (YM (fun v=>v=.bool r)):=by
 refine @Eq.mpr _ (Z0 (decide (a≤n)) (AV.bool (decide (n≤b))=AV.bool r) (AV.bool false=AV.bool r)) (by kernel_rfl) ?_
 simp only [Vl]
 subst hr
 by_cases h1:a≤n<;>by_cases h2:n≤b<;>simp [h1,h2]
theorem Zgy (n a b:Int) (r:Bool) (hr:r=decide (a≤n∧n≤b)):
  evF G0 20 29 [.int .i64 n,.int .i64 a,.int .i64 b] ⟨0,[]⟩ (YM (fun v=>v=.bool r)):=by
 refine @Eq.mpr _ (Z0 (decide (a≤n)) (AV.bool (decide (n≤b))=AV.bool r) (AV.bool false=AV.bool r)) (by kernel_rfl) ?_
 simp only [Vl]
 subst hr
 by_cases h1:a≤n<;>by_cases h2:n≤b<;>simp [h1,h2]
theorem Zgz (n a b:Int) (r:Bool) (hr:r=decide (a≤n∧n≤b)):
  evF G0 20 128 [.int .i64 n,.int .i64 a,.int .i64 b] ⟨0,[]⟩ (YM (fun v=>v=.bool r)):=by
 refine @Eq.mpr _ (Z0 (decide (a≤n)) (AV.bool (decide (n≤b))=AV.bool r) (AV.bool false=AV.bool r)) (by kernel_rfl) ?_
 simp only [Vl]
 subst hr
 by_cases h1:a≤n<;>by_cases h2:n≤b<;>simp [h1,h2]
theorem ZgA (n a b:Int) (r:Bool) (hr:r=decide (a≤n∧n≤b)):
  evF G0 20 72 [.int .i64 n,.int .i64 a,.int .i64 b] ⟨0,[]⟩ (YM (fun v=>v=.bool r)):=by
 refine @Eq.mpr _ (Z0 (decide (a≤n)) (AV.bool (decide (n≤b))=AV.bool r) (AV.bool false=AV.bool r)) (by kernel_rfl) ?_
 simp only [Vl]
 subst hr
 by_cases h1:a≤n<;>by_cases h2:n≤b<;>simp [h1,h2]
theorem Z1q (args:List AV) (h:Z6) (K:AV→Prop) (hl:inQ args h K):Zn PP 31 args h fun o h'=>∃v,o=.ret v∧h'=h∧K v:=by
 unfold inQ at hl
 split at hl
 ·exact Yq ZB rfl (Zgx _ _ _ _ rfl) (fun u hu=>hu▸hl)
 ·exact hl.elim
theorem QY (args:List AV) (h:Z6) (K:AV→Prop) (hl:inQ args h K):Zn PP 29 args h fun o h'=>∃v,o=.ret v∧h'=h∧K v:=by
 unfold inQ at hl
 split at hl
 ·exact Yq ZB rfl (Zgy _ _ _ _ rfl) (fun u hu=>hu▸hl)
 ·exact hl.elim
theorem QZ (args:List AV) (h:Z6) (K:AV→Prop) (hl:inQ args h K):Zn PP 128 args h fun o h'=>∃v,o=.ret v∧h'=h∧K v:=by
 unfold inQ at hl
 split at hl
 ·exact Yq ZB rfl (Zgz _ _ _ _ rfl) (fun u hu=>hu▸hl)
 ·exact hl.elim
theorem Z00 (args:List AV) (h:Z6) (K:AV→Prop) (hl:inQ args h K):Zn PP 72 args h fun o h'=>∃v,o=.ret v∧h'=h∧K v:=by
 unfold inQ at hl
 split at hl
 ·exact Yq ZB rfl (ZgA _ _ _ _ rfl) (fun u hu=>hu▸hl)
 ·exact hl.elim
noncomputable def Z4M (G:Zf):Zf:=(((G.withP 31 inQ).withP 29 inQ).withP 128 inQ).withP 72 inQ
noncomputable def ZfE:Zf:=Z4M G0
theorem Z8k:ZfE.Ok:=Zf.withP_ok (Zf.withP_ok (Zf.withP_ok (Zf.withP_ok ZB Z1q) QY) QZ) Z00
theorem ZhK (p:Z7) (b:Bool) (hb:b=Yu p):
  evF ZfE 20 66 [.agg p.c] ⟨0,[]⟩ (YM (fun v=>v=.bool b)):=by
 refine @Eq.mpr _ (let q1:=AV.bool false=AV.bool b;
 Z0 (decide (0≤p.id∧p.id≤2147483647)) (Z0 (decide (1≤p.amount∧p.amount≤1125899906842624)) (AV.bool (decide (1≤p.expiry∧p.expiry≤2147483647))=AV.bool b) q1) q1) (by kernel_rfl) ?_
 conv=>zeta
 subst hb
 unfold Yu
 generalize decide (0≤p.id∧p.id≤2147483647)=c1
 generalize decide (1≤p.amount∧p.amount≤1125899906842624)=c2
 generalize decide (1≤p.expiry∧p.expiry≤2147483647)=c3
 cases c1<;>cases c2<;>cases c3<;>rfl
def Z4N:ZU:=fun args _ K=>match args with
 | [.agg [.bool ow,.int .i64 id,.int .i64 am,.arr .u8 32 ha,.int .i64 ex,.int .i64 st,.int .i64 en,.arr .u8 32 se]]=>K (.bool (Yu ⟨ow,id,am,ha,ex,st,en,se⟩))
 | _=>False
theorem Z3P (args:List AV) (h:Z6) (K:AV→Prop) (hl:Z4N args h K):Zn PP 66 args h fun o h'=>∃v,o=.ret v∧h'=h∧K v:=by
 unfold Z4N at hl
 split at hl
 ·exact Yq Z8k rfl (ZhK ⟨_,_,_,_,_,_,_,_⟩ _ rfl) (fun u hu=>hu▸hl)
 ·exact hl.elim
end Go.Tk
end
section
namespace Go.Tk
open IntKind (i64 u8 u32 u64 wrap)
theorem X7 (L:List Z7) (i:Nat):plainC (Z5 L i)=true:=rfl
theorem Zg {k:Nat} {τ:Ren} {n:Nat} {L:List Z7} {f:Nat→List AV} (h:∀i,i<n→f i=Z5 L i):Zd k τ n (Z5 L) f:=
 UB h (fun i _=>X7 L i) (fun i _ v hv=>by
  simp only [Z5,Z7.c,List.mem_cons,List.not_mem_nil,or_false] at hv
  rcases hv with rfl|rfl|rfl|rfl|rfl|rfl|rfl|rfl<;>first|exact .inl rfl|exact .inr ⟨_,_,_,rfl⟩)
theorem WD {f:Nat→List AV} {O:List Z7} {x:Z7} {c i:Nat} (hc:O.length=c) (hf:∀i,i<c→f i=Z5 O i) (hi:i<c+1):Yc c f (Xk (Z7.c x) 0 70) i=Z5 (O++[x]) i:=by
 rcases Nat.lt_or_ge i c with h|h
 ·rw [QT h,hf i h]
  unfold Z5
  rw [List.getD_eq_getElem?_getD,List.getD_eq_getElem?_getD,List.getElem?_append_left (by omega)]
 ·have e:i=c:=by omega
  subst e
  rw [UC (Nat.le_refl _),Nat.sub_self]
  unfold Z5
  rw [List.getD_eq_getElem?_getD,List.getElem?_append_right (by omega),hc,Nat.sub_self]
  rfl
theorem ZI.evV {G:Zf} (hG:G.Ok) {n:Nat} {f:FuncId} {args:List AV} {v:AV} (h:evF G n f args ⟨0,[]⟩ (YM fun u=>u=v)):ZI G.P f args v 0 []:=by
 intro E w rs he hr
 refine (Z0l hG h E w rs he hr).mono ?_
 rintro e w' ⟨E₁,o,h',hK0,hev,hor⟩
 cases hor with
 | panic u r hr=>exact hK0.elim
 | ret u r hr=>
  unfold YM at hK0
  simp only at hK0
  split at hK0
  ·rename_i hu
   subst hK0
   refine ⟨E,r,rfl,⟨.refl E,⟨he.fresh,fun x B hx=>by simp [Z6.get,ZF] at hx,fun x B hx=>by simp [Z6.get,ZF] at hx,fun x y B B' b N N' hx=>by simp [Z6.get,ZF] at hx,fun a c hi=>hev.emb.imm a c (hev.le.imm a c hi),fun a c x B N _ hx=>by simp [Z6.get,ZF] at hx⟩,hev.size,hev.os,hev.tape,hev.output,hev.keep,fun b hb=> ?_,fun _ _ h=>h⟩,Zc.vplain (E:=E₁) (E':=E) (fun a c hi=>hev.imm a c hi) _ _ hu hr⟩
   obtain ⟨x,B,N,hx,_⟩:=hb
   simp [Z6.get,ZF] at hx
  ·exact hK0.elim
def VK (b:Bool) (x:Z7):List Z7:=match b with
 | true=>[x]
 | false=>[]
theorem Z0A {p:Z7→Bool} {L:List Z7} {i:Nat} (hi:i<L.length):(L.take (i+1)).filter p=(L.take i).filter p++VK (p (L.getD i Zr)) (L.getD i Zr):=by
 rw [List.take_succ_eq_append_getElem hi,List.filter_append,List.getD_eq_getElem?_getD,List.getElem?_eq_getElem hi]
 congr 1
theorem Zbd (x y:Prop):Z0 true x y=x:=rfl
theorem Z0B (x y:Prop):Z0 false x y=y:=rfl
theorem UE (c x y:Bool) (v:AV):Z0 c (AV.bool x=v) (AV.bool y=v)=(AV.bool (cond c x y)=v):=by cases c<;>rfl
theorem Zbe (c:Bool) (k:IntKind) (x y:Int) (v:AV):Z0 c (AV.int k x=v) (AV.int k y=v)=(AV.int k (cond c x y)=v):=by cases c<;>rfl
inductive LV (cs:List AV) (X:Za):Prop where
 | a (h:cs=X.c (.vrows 70 X.L.length (Z5 X.L) X.L.length))
 | b (h1:X.L=[]) (h:cs=X.c .nilslice)
def X8 (X:Za):Prop:=0≤X.side∧X.side≤1
structure Z0C (X:Za):Prop where
 n:X.L.length<1000
 am:∀h∈X.L,0≤h.amount∧h.amount≤1125899906842624
 a0: -1152921504606846976≤X.a0∧X.a0≤1152921504606846976
 a1: -1152921504606846976≤X.a1∧X.a1≤1152921504606846976
 res:0≤X.res∧X.res≤1152921504606846976
 fee:0≤X.t.fee∧X.t.fee≤1152921504606846976
def Zbf (H:List Int→List Int):ZU:=fun args h K=>ZV none h true 20 args fun a=>match a with
 | [.pview cs 0,.agg [.bool ow,.int .i64 id,.int .i64 am,.arr .u8 32 ha,.int .i64 ex,.int .i64 st,.int .i64 en,.arr .u8 32 se]]=>∃X,LV cs X∧Z7.Ok ⟨ow,id,am,ha,ex,st,en,se⟩∧K (.bool (Xp H X ⟨ow,id,am,ha,ex,st,en,se⟩))
 | _=>False
def ZfF:ZU:=fun args _ K=>match args with
 | [.agg [.bool ow,.int .i64 id,.int .i64 am,.arr .u8 32 ha,.int .i64 ex,.int .i64 st,.int .i64 en,.arr .u8 32 se],.agg [.bool ow',.int .i64 id',.int .i64 am',.arr .u8 32 ha',.int .i64 ex',.int .i64 st',.int .i64 en',.arr .u8 32 se']]=>K (.bool (decide (Xm ⟨ow,id,am,ha,ex,st,en,se⟩ ⟨ow',id',am',ha',ex',st',en',se'⟩)))
 | _=>False
def ZfG:ZU:=fun args _ K=>match args with
 | [.agg [.bool ow,.int .i64 _,.int .i64 _,.arr .u8 32 _,.int .i64 _,.int .i64 _,.int .i64 _,.arr .u8 32 _],.pview [.pview cs 0] 0,.pview [.int .i64 s] 0]=>∃X,LV cs X∧X8 X∧K (.bool (decide (ZN X.side ow=s)))
 | _=>False
def Zbg:YQ:=fun args h K=>ZV none h true 20 args fun a=>match a with
 | [.vrows 70 n f n',.func (.func 115) [] [.pview [.pview cs 0] 0,.pview [.int .i64 s] 0]]=>∃X,n'=n∧n=X.L.length∧f=Z5 X.L∧LV cs X∧X8 X∧n<1000∧K (.ret (.nslice ⟨h.next,0,70,0,0⟩ 70 (ZK X.side s X.L).length (ZK X.side s X.L).length)) ⟨h.next+1,(h.next,.rows 70 (ZK X.side s X.L).length (Z5 (ZK X.side s X.L)))::h.bs⟩
 | [.nilslice,.func (.func 115) [] [.pview [.pview cs 0] 0,.pview [.int .i64 s] 0]]=>∃X,LV cs X∧X8 X∧X.L=[]∧K (.ret (.nslice ⟨h.next,0,70,0,0⟩ 70 (ZK X.side s X.L).length (ZK X.side s X.L).length)) ⟨h.next+1,(h.next,.rows 70 (ZK X.side s X.L).length (Z5 (ZK X.side s X.L)))::h.bs⟩
 | _=>False
def Z2K:YQ:=fun args h K=>ZV none h true 20 args fun a=>match a with
 | [.pview cs 0,.int .i64 s]=>∃X,LV cs X∧X8 X∧X.L.length<1000∧K (.ret (.nslice ⟨h.next,0,0,0,0⟩ 1 (ZK X.side s X.L).length (ZK X.side s X.L).length)) ⟨h.next+1,(h.next,.ints .i64 (YU (ZK X.side s X.L)))::h.bs⟩
 | _=>False
def smS:ZU:=fun args h K=>ZV none h true 20 args fun a=>match a with
 | [.vints .i64 xs n]=>n=xs.length∧n<1000∧(∀x∈xs,0≤x∧x≤1125899906842624)∧K (.int .i64 xs.sum)
 | _=>False
def Zdk:ZU:=fun args h K=>ZV none h true 20 args fun a=>match a with
 | [.pview cs 0,.int .i64 s]=>∃X,LV cs X∧X8 X∧(s=0∨s=1)∧Z0C X∧K (.int .i64 (Y4 X s))
 | _=>False
def ZgB (H:List Int→List Int):ZU:=fun args h K=>ZV none h true 20 args fun a=>match a with
 | [.pview cs 0]=>∃X,LV cs X∧X.t.Ok∧(∀h∈X.L,h.Ok)∧X.L.length<1000∧K (.bool (X6 H X))
 | _=>False
def ZeD:ZU:=fun args h K=>ZV none h true 20 args fun a=>match a with
 | [.int .i64 s,.pview [.pview cs 0] 0]=>∃X,LV cs X∧X8 X∧X.L.length<1000∧K (.bool (decide ((ZK X.side s X.L).length≤8)))
 | _=>False
theorem Zq.last {E:Env} {v v':AV} (hv:∀k m xs,v≠.arr k m xs) (hc:v'.isCell=true) (h:∀c,Zc E v c→Zc E v' c):∀{l:List AV} {vs:List Value},Zq E (l++[v]) vs→Zq E (l++[v']) vs
 | [],vs,hl=>by
  obtain ⟨c,w,rfl,h0,h2,h3,ht⟩:=hl.cons_cell hv
  exact .one _ _ _ _ hc h2 (h _ h3) ht
 | a::r,vs,hl=>by
  by_cases ha:∃k m xs,a=.arr k m xs
  ·obtain ⟨k,m,xs,rfl⟩:=ha
   obtain ⟨w,rfl,ht⟩:=Zq.cons_arr (r:=r++[v]) hl
   exact .arr _ _ _ _ _ (Zq.last hv hc h ht)
  ·obtain ⟨c,w,rfl,h0,h2,h3,ht⟩:=Zq.cons_cell (r:=r++[v]) hl (fun k m xs e=>ha ⟨k,m,xs,e⟩)
   exact .one _ _ _ _ h0 h2 h3 (Zq.last hv hc h ht)
theorem Za.c_eq (X:Za) (l:AV):X.c l=(X.t.c++[.int .i64 X.side,.int .i64 X.res,.arr .i64 2 [X.a0,X.a1],.arr .i64 2 [X.i0,X.i1]])++[l]:=by unfold Za.c;simp
theorem Z8l {cs:List AV} {X:Za} (h:LV cs X) {E:Env} {vs:List Value} (hc:Zq E cs vs):Zq E (X.c (.vrows 70 X.L.length (Z5 X.L) X.L.length)) vs:=by
 rcases h with rfl|⟨h1,rfl⟩
 ·exact hc
 ·rw [Za.c_eq] at*
  refine Zq.last (by intros;simp) rfl (fun c hc=> ?_) hc
  cases hc
  rw [h1]
  exact .vrowsNil _ _ _ _ rfl rfl
def VB (X:Za):AV:=.pview (X.c (.vrows 70 X.L.length (Z5 X.L) X.L.length)) 0
theorem WE {cs:List AV} {X:Za} (h:LV cs X) {E:Env} {r:Value} (hc:Zc E (.pview cs 0) r):Zc E (VB X) r:=by
 cases hc with
 | pview cs inn a vs hc hi=>exact .pview _ 0 a vs (Z8l h hc) hi
theorem Z4O {cs:List AV} {X:Za} (h:LV cs X) {E:Env} {r:Value} (hc:Zc E (.pview [.pview cs 0] 0) r):Zc E (.pview [VB X] 0) r:=by
 cases hc with
 | pview cs inn a vs hc hi=>
  obtain ⟨c,w1,rfl,h0,h2,h3,hc⟩:=hc.cons_cell (by intros;simp)
  cases hc
  exact .pview _ 0 a _ (.one _ _ _ _ rfl h2 (WE h h3) .nil) hi
end Go.Tk
end
section
namespace Go.Tk
open IntKind (i64 u8 u32 u64 wrap)
noncomputable def ZgC (H1:List Int→List Int) (H2:List Int→List Int→List Int) (B:Nat):Zf:=(Z4M (G8 H1 H2 B)).withP 66 Z4N
theorem Zdl:(ZgC Zt Z3a 1000).Ok:=Zf.withP_ok (Zf.withP_ok (Zf.withP_ok (Zf.withP_ok (Zf.withP_ok (Zey 1000 (by decide)) Z1q) QY) QZ) Z00) Z3P
theorem Zbh (x k:Int) (A B:Bool):(if x=k then A else B)=cond (x==k) A B:=by
 by_cases h:x=k
 ·simp [h]
 ·rw [if_neg h,show (x==k)=false from by simpa using h];rfl
theorem ZfH (x k:Int):decide (x≥k)= !decide (x<k):=by by_cases h:x<k<;>simp [h]<;>omega
theorem ZhL (X:Za) (p:Z7) (b:Bool) (H1:List Int→List Int) (H2:List Int→List Int→List Int) (B:Nat) (hok:p.Ok) (hB:32≤B) (hl:(H1 p.secret).length=32) (hb:b=Xp H1 X p):
  evF (ZgC H1 H2 B) 20 77 [VB X,.agg p.c] ⟨0,[]⟩ (YM (fun v=>v=.bool b)):=by
 refine @Eq.mpr _ (let q1:=p.secret;
 let q2:=List.length q1;
 let q3:=p.fin;
 let q4:=p.stage;
 let q5:=p.own;
 let q6:=p.id;
 let q7:=p.hash;
 let q8:=Yu (Z7.mk q5 q6 p.amount q7 p.expiry q4 q3 q1);
 let q9:=decide (q6=q6);
 let q10:=decide (q6<X.i0);
 let q11:=decide (1≤q4∧q4≤9);
 let q12:=AV.bool b;
 let q13:=AV.bool false=q12;
 let q14:=Z0 q11 (AV.bool (q1==Z9)=q12) q13;
 let q15:=decide (q6<X.i1);
 let q16:=Z0 q8 (Z0 q5 (Z0 q9 (Z0 q10 q14 q13) False) (Z0 q9 (Z0 q15 q14 q13) False)) q13;
 let q17:=Z0 q11 q13 q13;
 let q18:=Z0 q8 (Z0 q5 (Z0 q9 (Z0 q10 q17 q13) False) (Z0 q9 (Z0 q15 q17 q13) False)) q13;
 let q19:=decide (q4≥6);
 let q20:=H1 q1;
 let q21:=Z0 q11 (AV.bool (q20==q7)=q12) q13;
 Z0 (decide (q2=32∧(32:Nat)=32)) (Z0 (q3==0) (Z0 (decide (q4<6)) q16 q18) (Z0 (q3==1) (Z0 q19 (q7=q7∧Z0 (decide (q2=32)) (Z0 (decide (32=q2)) (Z0 (decide (q2≤B)) (Z0 (decide (List.length q20=32∧List.length q7=32)) (Z0 q8 (Z0 q5 (Z0 q9 (Z0 q10 q21 q13) False) (Z0 q9 (Z0 q15 q21 q13) False)) q13) False) False) False) False) q18) (Z0 (q3==2) (Z0 q19 q16 q18) q18))) False) (by kernel_rfl) ?_
 conv=>zeta
 have e0:Z7.mk p.own p.id p.amount p.hash p.expiry p.stage p.fin p.secret=p:=rfl
 rw [e0]
 subst hb
 simp only [hok.secret,hok.hash,hl,decide_true,and_self,Zbd,true_and,decide_eq_true hB,UE]
 congr 1
 unfold Xp Z3b Za.nx
 simp only [Zbh,show (6≤p.stage)=(p.stage≥6) from rfl,ZfH]
 have es:(H1 p.secret==p.hash)=(H1 p.secret==p.hash):=rfl
 generalize (H1 p.secret==p.hash)=ch
 generalize (p.secret==Z9)=cz
 generalize Yu p=c1
 generalize decide (p.stage<6)=c6
 generalize decide (1≤p.stage∧p.stage≤9)=d2
 generalize (p.fin==0)=f0
 generalize (p.fin==1)=f1
 generalize (p.fin==2)=f2
 cases p.own
 ·simp only
  generalize decide (p.id<X.i0)=d0
  generalize decide (p.id<X.i1)=d1
  cases f0<;>cases f1<;>cases f2<;>cases c6<;>cases d1<;>cases d2<;>simp
 ·simp only
  generalize decide (p.id<X.i0)=d0
  generalize decide (p.id<X.i1)=d1
  cases f0<;>cases f1<;>cases f2<;>cases c6<;>cases d0<;>cases d2<;>simp
theorem Z9y (args:List AV) (h:Z6) (K:AV→Prop) (hl:Zbf Zt args h K):Zn PP 77 args h fun o h'=>∃v,o=.ret v∧h'=h∧K v:=by
 refine ZI.psumm (d:=20) (Zu _ _ _ _ _ hl fun a ha=> ?_)
 split at ha
 ·obtain ⟨X,hX,ho,hK⟩:=ha
  exact ⟨_,(ZI.evV Zdl (ZhL X ⟨_,_,_,_,_,_,_,_⟩ _ _ _ _ ho (by decide) (Wz _) rfl)).conv (fun E r hr=>hr.head (fun _ hc=>WE hX hc) fun _ hc=>hc),fun _=>rfl,hK⟩
 ·exact ha.elim
end Go.Tk
end
section
namespace Go.Tk
open IntKind (i64 u8 u32 u64 wrap)
theorem ZhM (s:Int):(if 5<s then 5 else s)=min s 5:=by split<;>omega
theorem ZhN (p q:Z7) (b:Bool) (hb:b=decide (Xm p q)):
  evF ZfE 20 78 [.agg p.c,.agg q.c] ⟨0,[]⟩ (YM (fun v=>v=.bool b)):=by
 refine @Eq.mpr _ (let q1:=q.own;
 let q2:=p.id;
 let q3:=q2 !=q2;
 let q4:=q.id;
 let q5:=q4 !=q4;
 let q6:=AV.bool b;
 let q7:=AV.bool false=q6;
 let q8:=Z0 (!p.own==q1) (AV.bool true=q6) (AV.bool (decide ((if 5<p.stage then 5 else p.stage)≥if 5<q.stage then 5 else q.stage))=q6);
 let q9:=decide (q2<q4);
 let q10:=decide (q2>q4);
 let q11:=Z0 q10 q7 q7;
 let q12:=Z0 q3 (Z0 q5 q7 q8) (Z0 q5 q7 (Z0 q9 q8 q11));
 Z0 p.own (Z0 q1 q12 (Z0 q3 (Z0 q5 q8 q8) (Z0 q5 q8 (Z0 q9 q8 (Z0 q10 q8 q8))))) (Z0 q1 (Z0 q3 (Z0 q5 q7 q7) (Z0 q5 q7 (Z0 q9 q7 q11))) q12)) (by kernel_rfl) ?_
 conv=>zeta
 subst hb
 simp only [bne_self_eq_false,Z0B,UE,ZhM]
 congr 1
 refine Bool.eq_iff_iff.2 (Iff.trans (b:=Xm p q) ?_ decide_eq_true_iff.symm)
 unfold Xm
 cases p.own<;>cases q.own<;>by_cases h1:p.id<q.id<;>by_cases h2:q.id<p.id<;>simp [h1,h2]
theorem ZgD (X:Za) (p:Z7) (s:Int) (b:Bool) (hX:X8 X) (hb:b=decide (ZN X.side p.own=s)):
  evF G0 20 115 [.agg p.c,.pview [VB X] 0,.pview [.int .i64 s] 0] ⟨0,[]⟩ (YM (fun v=>v=.bool b)):=by
 refine @Eq.mpr _ (let q1:=decide (s=s);
 Z0 p.own (Z0 q1 (AV.bool (X.side==s)=AV.bool b) False) (Z0 q1 (AV.bool (wrap i64 (1-X.side)==s)=AV.bool b) False)) (by kernel_rfl) ?_
 conv=>zeta
 obtain ⟨h1,h2⟩:=hX
 rw [decide_eq_true (rfl:s=s),w64 (by omega)]
 subst hb
 unfold ZN
 simp only [Zbd,UE]
 cases p.own<;>rfl
theorem Zdm (args:List AV) (h:Z6) (K:AV→Prop) (hl:ZfF args h K):Zn PP 78 args h fun o h'=>∃v,o=.ret v∧h'=h∧K v:=by
 unfold ZfF at hl
 split at hl
 ·exact Yq Z8k rfl (ZhN ⟨_,_,_,_,_,_,_,_⟩ ⟨_,_,_,_,_,_,_,_⟩ _ rfl) (fun u hu=>hu▸hl)
 ·exact hl.elim
end Go.Tk
end
section
namespace Go.Tk
open IntKind (i64 u8 u32 u64 wrap)
theorem Zdn (args:List AV) (h:Z6) (K:AV→Prop) (hl:ZfG args h K):Zn PP 115 args h fun o h'=>∃v,o=.ret v∧h'=h∧K v:=by
 unfold ZfG at hl
 split at hl
 ·rename_i ow id am ha ex st en se cs s
  obtain ⟨X,hX,hs,hK⟩:=hl
  have:=Yq (h:=h) ZB rfl (ZgD X ⟨ow,id,am,ha,ex,st,en,se⟩ s _ hs rfl) (fun u hu=>hu▸hK)
  exact this.conv fun E r hr=>hr.head (fun _ hc=>hc) fun _ hr=>hr.head (fun _ hc=>Z4O hX hc) fun _ hc=>hc
 ·exact hl.elim
noncomputable def ZfI:Zf:=G0.withP 115 ZfG
theorem Zdo:ZfI.Ok:=Zf.withP_ok ZB Zdn
def svC (X:Za) (s:Int):AV:=.func (.func 115) [] [.pview [VB X] 0,.pview [.int .i64 s] 0]
def svS (X:Za) (s:Int) (n i c:Nat) (O:List Z7):St:=⟨22,[(9,.int .i64 i),(8,.int .i64 n),(7,.vrows 70 n (Z5 X.L) n),(1,svC X s),(4,.nslice ⟨0,0,70,0,0⟩ 70 c c)],⟨1,[(0,.rows 70 c (Z5 O))]⟩,[]⟩
def svE (c:Nat) (O:List Z7):St:=⟨22,[(4,.nslice ⟨0,0,70,0,0⟩ 70 c c)],⟨1,[(0,.rows 70 c (Z5 O))]⟩,[]⟩
theorem ZhO (X:Za) (s:Int) (n i c c1:Nat) (O O1:List Z7) (Z1 Z2:Prop) (hn:n<1000) (hL:X.L.length=n) (hi:i≤n) (hO:O.length=c) (hci:c≤i) (hX:X8 X) (h1:i<n→O1=O++VK (decide (ZN X.side (X.L.getD i Zr).own=s)) (X.L.getD i Zr)) (hc1:c1=O1.length) (hZ1:i<n→Z1) (hZ2:i=n→Z2):
  ZY ZfI 20 114 0 0 (svS X s n i c O) (rdM 0 0 9 (svS X s n (i+1) c1 O1) (svE c O) (svE c O) (svE c O) Z1 Z2 False False):=by
 refine @Eq.mpr _ (let q1:=X.L;
 let q2:=List.length q1;
 let q3:=Z5 q1;
 let q4:=Za.c X (AV.vrows 70 q2 q3 q2);
 let q5:=List.getD q1 (Int.toNat (↑i:Int)) Zr;
 let q6:=q5.own;
 let q7:=decide (c=c);
 let q8:=c+1;
 let q9:=decide (wrap i64 ((↑i:Int)+1)=(↑(i+1):Int));
 let q10:=decide ((↑n:Int)=(↑n:Int));
 let q11:=decide (n=n);
 let q12:=q3=q3;
 let q13:=[AV.pview q4 0];
 let q14:=q13=q13;
 let q15:=[AV.int i64 s];
 let q16:=q15=q15;
 let q17:=decide (q8=c1);
 let q18:=Z5 O;
 let q19:=decide (c=c1);
 let q20:=[(0,0)];
 Z0 (decide ((↑i:Int)<(↑n:Int)))
 (Z0 (decide (0≤(↑i:Int)∧(↑i:Int)<(↑n:Int)))
 (∃(X:Za),
 let q41:=X.side;
 LV q4 X∧(0≤q41∧q41≤1)∧Z0 (decide (ZN q41 q6=s)) (Z0 q7 (Z0 (decide (q8*112≤140737488355328)) (Z0 q9 (Z0 q10 (Z0 q11 (q12∧Z0 q11 (q14∧q16∧Z0 q17 (Z0 (decide (c1≤q8)) (Z0 q17 (Zd 0 [(0,3)] c1 (Z5 O1) (Yc c q18 (Xk [AV.bool q6,AV.int i64 q5.id,AV.int i64 q5.amount,AV.arr u8 32 q5.hash,AV.int i64 q5.expiry,AV.int i64 q5.stage,AV.int i64 q5.fin,AV.arr u8 32 q5.secret] 0 70))∧Z1) False) False) False) False) False) False) False) False) False) (Z0 q9 (Z0 q10 (Z0 q11 (q12∧Z0 q11 (q14∧q16∧Z0 q19 (Z0 (decide (c1≤c)) (Z0 q19 (Zd 0 q20 c1 (Z5 O1) q18∧Z1) False) False) False) False) False) False) False))
 False)
 (Z0 q7 (Z0 (decide (c≤c)) (Z0 q7 (Zd 0 q20 c q18 q18∧Z2) False) False) False)) (by kernel_rfl) ?_
 conv=>zeta
 try simp only [Zi]
 try simp only [Zj]
 try simp only [Zk]
 try simp only [Zl]
 try simp only [Zm]
 try simp only [Zh]
 try simp only [Int.toNat_natCast,Nat.zero_add,true_and,and_true,Nat.le_refl]
 refine ⟨fun hc=> ?_,fun hc=>⟨Zg fun _ _=>rfl,hZ2 (by omega)⟩⟩
 have hlt:i<n:=by omega
 have h1:=h1 hlt
 have hwr:i64.wrap ((i:Int)+1)=((i+1:Nat):Int):=by rw [w64 (by omega)];omega
 refine ⟨by omega,X,.a rfl,hX,fun hd=> ?_,fun hd=> ?_⟩
 ·rw [decide_eq_true hd] at h1
  have hl:c1=c+1:=by rw [hc1,h1];simp [VK,hO]
  subst hl
  subst h1
  have hR:Zd 0 [(0,3)] (c+1) (Z5 (O++VK true (X.L.getD i Zr))) (Yc c (Z5 O) (Xk (X.L.getD i Zr).c 0 70)):=Zg fun j hj=>WD hO (fun _ _=>rfl) hj
  repeat' apply And.intro
  all_goals first|omega|exact hwr|exact hR|exact hZ1 hlt|rfl
 ·rw [decide_eq_false hd] at h1
  have hl:c1=c:=by rw [hc1,h1];simp [VK,hO]
  subst hl
  simp only [VK,List.append_nil] at h1
  subst h1
  repeat' apply And.intro
  all_goals first|omega|exact hwr|exact Zg fun _ _=>rfl|exact hZ1 hlt|rfl
def Ue (X:Za) (s:Int) (i:Nat):List Z7:=ZK X.side s (X.L.take i)
theorem Z9z (X:Za) (s:Int) {i:Nat} (hi:i<X.L.length):Ue X s (i+1)=Ue X s i++VK (decide (ZN X.side (X.L.getD i Zr).own=s)) (X.L.getD i Zr):=Z0A hi
theorem Zdp (X:Za) (s:Int) (i:Nat):(Ue X s i).length≤i:=by
 refine Nat.le_trans (List.length_filter_le _ _) ?_
 rw [List.length_take];omega
theorem Zbi (X:Za) (s:Int):Ue X s X.L.length=ZK X.side s X.L:=by unfold Ue;rw [List.take_length]
noncomputable def ZeE (X:Za) (s:Int) (n:Nat):Zf:=ZfI.withL 114 0 (goM 0 (svS X s n 0 0 []) (X.L.length=n∧n<1000∧X8 X) (YR 0 n 9 (fun i=>i<n) (fun i=>i=n) (fun _=>False) (fun _=>False) (fun i=>svE (Ue X s i).length (Ue X s i)) (fun i=>svE (Ue X s i).length (Ue X s i)) (fun i=>svE (Ue X s i).length (Ue X s i))))
theorem Z5R (X:Za) (s:Int) (n:Nat):(ZeE X s n).Ok:=
 Zf.withGoM (N:=20) (S:=fun i=>svS X s n i (Ue X s i).length (Ue X s i)) Zdo (by kernel_rfl) fun hC=>⟨by simp [Ue,ZK],fun i hi _=>by
  obtain ⟨h1,h2,h3⟩:=hC
  exact ZhO X s n i _ _ _ _ (i<n∧i<n) (i=n) h2 h1 hi rfl (Zdp X s i) h3 (fun h=>Z9z X s (by omega)) rfl (fun h=>⟨h,h⟩) (fun h=>h)⟩
theorem ZgE (X:Za) (s:Int) (n c:Nat) (O:List Z7) (hL:X.L.length=n) (hn:n<1000) (hX:X8 X) (hO:O=ZK X.side s X.L) (hc:c=O.length):
  evF (ZeE X s n) 20 114 [.vrows 70 n (Z5 X.L) n,svC X s] ⟨0,[]⟩ (YS 0 (.ret (.nslice ⟨0,0,70,0,0⟩ 70 c c)) 1 [(0,.rows 70 c (Z5 O))]):=by
 refine @Eq.mpr _ (let q1:=decide (n=n);
 let q2:=Z5 X.L;
 let q3:=List.length X.L;
 let q4:=[AV.pview (Za.c X (AV.vrows 70 q3 q2 q3)) 0];
 let q5:=[AV.int i64 s];
 Z0 (decide ((↑n:Int)=(↑n:Int)))
 (Z0 q1
 (q2=q2∧
 Z0 q1
 (q4=q4∧
 q5=q5∧
 (q3=n∧n<1000∧0≤X.side∧X.side≤1)∧
 ∀(i:Nat),
 let q11:=List.length (Ue X s i);
 let q12:=decide (q11=c);
 let q13:=Z0 q12 (Z0 (decide (c≤q11)) (Z0 q12 (Zd 0 [(0,0)] c (Z5 O) (Z5 (Ue X s i))∧True) False) False) False;
 i≤n→(∀(j:Nat),j<i→(fun (i:Nat)=>i<n) j)→(i=n→q13)∧(False→q13)∧(False→False))
 False)
 False)
 False) (by kernel_rfl) ?_
 conv=>zeta
 try simp only [Zi]
 try simp only [Zj]
 try simp only [Zk]
 try simp only [Zl]
 try simp only [Zm]
 try simp only [Zh]
 try simp only [Int.toNat_natCast,Nat.zero_add,true_and,and_true,Nat.le_refl]
 have ha:Ue X s n=O:=by rw [←hL,Zbi,hO]
 repeat' apply And.intro
 all_goals first|rfl|exact hL|exact hn|exact hX.1|exact hX.2|skip
 intro i hi _
 refine ⟨fun he=> ?_,fun h=>h.elim,fun h=>h.elim⟩
 subst he
 rw [ha]
 subst hc
 repeat' apply And.intro
 all_goals first|omega|rfl|exact Zg fun _ _=>rfl
theorem Z9A (args:List AV) (h:Z6) (K:KO) (hl:Zbg args h K):Zn PP 114 args h K:=by
 refine ZI.fsumm (d:=20) (Zu _ _ _ _ _ hl fun a ha=> ?_)
 split at ha
 ·obtain ⟨X,rfl,h1,rfl,hX,hs,h2,hK⟩:=ha
  refine ⟨_,_,_,_,(ZI.evM (Z5R X _ _) (ZgE X _ _ _ _ h1.symm h2 hs rfl rfl)).conv fun E r hr=>hr.head (fun _ hc=>hc) fun _ hr=>hr.head (fun _ hc=> ?_) fun _ hc=>hc,rfl,⟨Nat.one_pos,.rows _ _ _ (fun i _=>X7 _ i),trivial⟩,hK⟩
  cases hc with
  | func fn fi ca fs cs h3 h4=>exact .func _ _ _ _ _ h3 (h4.head (fun _ hc=>Z4O hX hc) fun _ hc=>hc)
 ·obtain ⟨X,hX,hs,h1,hK⟩:=ha
  refine ⟨_,_,_,_,(ZI.evM (Z5R X _ 0) (ZgE X _ 0 _ _ (by rw [h1];rfl) (by omega) hs rfl rfl)).conv fun E r hr=>hr.head (fun _ hc=> ?_) fun _ hr=>hr.head (fun _ hc=> ?_) fun _ hc=>hc,rfl,⟨Nat.one_pos,.rows _ _ _ (fun i _=>X7 _ i),trivial⟩,hK⟩
  ·cases hc;exact .vrowsNil _ _ _ _ rfl rfl
  ·cases hc with
   | func fn fi ca fs cs h3 h4=>exact .func _ _ _ _ _ h3 (h4.head (fun _ hc=>Z4O hX hc) fun _ hc=>hc)
 ·exact ha.elim
noncomputable def Zbj:Zf:=G0.withF 114 Zbg
theorem Zbk:Zbj.Ok:=Zf.withF_ok ZB Z9A
def Zdq (n i:Nat) (O:List Z7):St:=⟨26,[(14,.int .i64 i),(13,.int .i64 n),(12,.nslice ⟨0,0,70,0,0⟩ 70 n n),(4,.nslice ⟨1,0,0,0,0⟩ 1 i i)],⟨2,[(0,.rows 70 n (Z5 O)),(1,.ints .i64 (YU (O.take i)))]⟩,[]⟩
def Z9B (i:Nat) (O:List Z7):St:=⟨26,[(4,.nslice ⟨0,0,0,0,0⟩ 1 i i)],⟨1,[(0,.ints .i64 (YU (O.take i)))]⟩,[]⟩
theorem ZhP (n i:Nat) (O:List Z7) (Z1 Z2:Prop) (hn:n<1000) (hL:O.length=n) (hi:i≤n) (hZ1:i<n→Z1) (hZ2:i=n→Z2):
  ZY Zbj 20 68 0 0 (Zdq n i O) (rdM 0 0 9 (Zdq n (i+1) O) (Z9B i O) (Z9B i O) (Z9B i O) Z1 Z2 False False):=by
 refine @Eq.mpr _ (let q1:=0+Int.toNat (↑i:Int);
 let q2:=YU (List.take i O);
 let q3:=q2++[(List.getD O q1 Zr).amount];
 let q4:=List.length q3;
 let q5:=i+1;
 let q6:=decide (n=n);
 Z0 (decide ((↑i:Int)<(↑n:Int))) (Z0 (decide (0≤(↑i:Int)∧(↑i:Int)<(↑n:Int))) (Z0 (decide (q1<n)) (Z0 (decide (i64=i64∧List.length q2=i)) (Z0 (decide (q4*8≤140737488355328)) (Z0 (decide (wrap i64 ((↑i:Int)+1)=(↑q5:Int))) (Z0 (decide ((↑n:Int)=(↑n:Int))) (Z0 q6 (Z0 (decide (n≤n)) (Z0 (decide (q4=q5)) (Z0 (decide (q5≤q4)) (Z0 q6 (Zd 0 [(1,4),(0,0)] n (Z5 O) (Z5 O)∧q3=YU (List.take q5 O)∧Z1) False) False) False) False) False) False) False) False) False) False) False) (Z0 (decide (i=i)) (Z0 (decide (i≤i)) (q2=q2∧Z2) False) False)) (by kernel_rfl) ?_
 conv=>zeta
 try simp only [Zi]
 try simp only [Zj]
 try simp only [Zk]
 try simp only [Zl]
 try simp only [Zm]
 try simp only [Zh]
 try simp only [Int.toNat_natCast,Nat.zero_add,true_and,and_true,Nat.le_refl]
 have hl:(YU (O.take i)).length=i:=by unfold YU;rw [List.length_map,List.length_take];omega
 refine ⟨fun hc=> ?_,fun hc=>hZ2 (by omega)⟩
 have hlt:i<n:=by omega
 have hwr:i64.wrap ((i:Int)+1)=((i+1:Nat):Int):=by rw [w64 (by omega)];omega
 have ht:YU (O.take (i+1))=YU (O.take i)++[(O.getD i Zr).amount]:=by
  unfold YU
  rw [List.take_succ_eq_append_getElem (by omega),List.map_append,List.getD_eq_getElem?_getD,List.getElem?_eq_getElem (by omega)]
  rfl
 have hl2:(YU (O.take i)++[(O.getD i Zr).amount]).length=i+1:=by simp [hl]
 repeat' apply And.intro
 all_goals first|omega|exact hwr|exact Zg fun _ _=>rfl|exact ht.symm|exact hZ1 hlt|rfl
noncomputable def ZeF (O:List Z7) (n:Nat):Zf:=Zbj.withL 68 0 (goM 0 (Zdq n 0 O) (O.length=n∧n<1000) (YR 0 n 9 (fun i=>i<n) (fun i=>i=n) (fun _=>False) (fun _=>False) (fun i=>Z9B i O) (fun i=>Z9B i O) (fun i=>Z9B i O)))
theorem Zbl (O:List Z7) (n:Nat):(ZeF O n).Ok:=
 Zf.withGoM (N:=20) (S:=fun i=>Zdq n i O) Zbk (by kernel_rfl) fun hC=>⟨rfl,fun i hi _=>ZhP n i O (i<n∧i<n) (i=n) hC.2 hC.1 hi (fun h=>⟨h,h⟩) (fun h=>h)⟩
theorem Z4P (side s:Int) (L:List Z7):(ZK side s L).length≤L.length:=List.length_filter_le _ _
theorem ZhQ (X:Za) (s:Int) (c:Nat) (O:List Z7) (xs:List Int) (hn:X.L.length<1000) (hX:X8 X) (hO:O=ZK X.side s X.L) (hc:c=O.length) (hx:xs=YU O):
  evF (ZeF O c) 20 68 [VB X,.int .i64 s] ⟨0,[]⟩ (YS 0 (.ret (.nslice ⟨0,0,0,0,0⟩ 1 c c)) 1 [(0,.ints .i64 xs)]):=by
 refine @Eq.mpr _ (let q1:=List.length X.L;
 let q2:=Z5 X.L;
 ∃(X_1:Za),
 let q5:=X_1.L;
 let q6:=X_1.side;
 let q7:=ZK q6 s q5;
 let q8:=List.length q7;
 let q9:=decide (q8=c);
 q1=q1∧
 q1=List.length q5∧
 q2=Z5 q5∧
 LV (Za.c X (AV.vrows 70 q1 q2 q1)) X_1∧
 (0≤q6∧q6≤1)∧
 q1<1000∧
 Z0 (decide ((↑q8:Int)=(↑c:Int)))
 (Z0 q9
 (Z0 (decide (c≤q8))
 (Z0 q9
 (Zd 0 [(0,2)] c (Z5 O) (Z5 q7)∧
 YU (List.take 0 O)=[]∧
 (List.length O=c∧c<1000)∧
 ∀(i:Nat),
 let q15:=Z0 (decide (i=c)) (Z0 (decide (c≤i)) (YU (List.take i O)=xs∧True) False) False;
 i≤c→(∀(j:Nat),j<i→(fun (i:Nat)=>i<c) j)→(i=c→q15)∧(False→q15)∧(False→False))
 False)
 False)
 False)
 False) (by kernel_rfl) ?_
 conv=>zeta
 try simp only [Zi]
 try simp only [Zj]
 try simp only [Zk]
 try simp only [Zl]
 try simp only [Zm]
 try simp only [Zh]
 try simp only [Int.toNat_natCast,Nat.zero_add,true_and,and_true,Nat.le_refl]
 subst hx
 have hle:=Z4P X.side s X.L
 refine ⟨X, ?_⟩
 rw [←hO]
 repeat' apply And.intro
 all_goals first|rfl|exact .a rfl|exact hX.1|exact hX.2|exact hn|exact hc.symm|(rw [hc];done)|(rw [hc,hO];omega)|exact Zg fun _ _=>rfl|skip
 intro i hi _
 refine ⟨fun he=> ?_,fun h=>h.elim,fun h=>h.elim⟩
 rw [he,hc,List.take_length]
 exact ⟨rfl,Nat.le_refl _,rfl⟩
theorem UF (args:List AV) (h:Z6) (K:KO) (hl:Z2K args h K):Zn PP 68 args h K:=by
 refine ZI.fsumm (d:=20) (Zu _ _ _ _ _ hl fun a ha=> ?_)
 split at ha
 ·obtain ⟨X,hX,hs,h1,hK⟩:=ha
  exact ⟨_,_,_,_,(ZI.evM (Zbl _ _) (ZhQ X _ _ _ _ h1 hs rfl rfl rfl)).conv fun E r hr=>hr.head (fun _ hc=>WE hX hc) fun _ hc=>hc,rfl,⟨Nat.one_pos,.ints _ _,trivial⟩,hK⟩
 ·exact ha.elim
def Z8m (xs:List Int) (n i:Nat) (a:Int):St:=⟨16,[(7,.int .i64 i),(6,.int .i64 n),(5,.vints .i64 xs n),(2,.int .i64 a)],⟨0,[]⟩,[]⟩
def Z3Q (a:Int):St:=⟨16,[(2,.int .i64 a)],⟨0,[]⟩,[]⟩
theorem ZhR (xs:List Int) (n i:Nat) (a a1:Int) (Z1 Z2:Prop) (hn:n<1000) (hL:xs.length=n) (hi:i≤n) (h1:i<n→a1=i64.wrap (a+xs.getD i 0)) (hZ1:i<n→Z1) (hZ2:i=n→Z2):
  ZY G0 20 80 0 0 (Z8m xs n i a) (rdM 0 0 9 (Z8m xs n (i+1) a1) (Z3Q a) (Z3Q a) (Z3Q a) Z1 Z2 False False):=by
 refine @Eq.mpr _ (Z0 (decide ((↑i:Int)<(↑n:Int))) (Z0 (decide (0≤(↑i:Int)∧(↑i:Int)<(↑n:Int))) (Z0 (decide (wrap i64 ((↑i:Int)+1)=(↑(i+1):Int))) (Z0 (decide ((↑n:Int)=(↑n:Int))) (xs=xs∧Z0 (decide (n=n)) (Z0 (decide (wrap i64 (a+List.getD xs (Int.toNat (↑i:Int)) 0)=a1)) Z1 False) False) False) False) False) (Z0 (decide (a=a)) Z2 False)) (by kernel_rfl) ?_
 try simp only [Zi]
 try simp only [Zj]
 try simp only [Zk]
 try simp only [Zl]
 try simp only [Zm]
 try simp only [Zh]
 try simp only [Int.toNat_natCast,Nat.zero_add,true_and,and_true,Nat.le_refl]
 refine ⟨fun hc=> ?_,fun hc=>hZ2 (by omega)⟩
 have hlt:i<n:=by omega
 have hwr:i64.wrap ((i:Int)+1)=((i+1:Nat):Int):=by rw [w64 (by omega)];omega
 have h1:=h1 hlt
 repeat' apply And.intro
 all_goals first|omega|exact hwr|exact h1.symm|exact hZ1 hlt|rfl
def Z2L (xs:List Int):Nat→Int
 | 0=>0
 | i+1=>i64.wrap (Z2L xs i+xs.getD i 0)
theorem Z0D {xs:List Int} (h:∀x∈xs,0≤x∧x≤1125899906842624):0≤xs.sum∧xs.sum≤1125899906842624*xs.length:=by
 induction xs with
 | nil=>simp
 | cons a r ih=>
  have h1:=h a (by simp)
  have h2:=ih fun x hx=>h x (by simp [hx])
  simp only [List.sum_cons,List.length_cons]
  omega
theorem Z8n {xs:List Int} (hn:xs.length<1000) (h:∀x∈xs,0≤x∧x≤1125899906842624):∀i,i≤xs.length→Z2L xs i=(xs.take i).sum
 | 0,_=>by simp [Z2L]
 | i+1,hi=>by
  have ih:=Z8n hn h i (by omega)
  have hb:=Z0D (xs:=xs.take (i+1)) fun x hx=>h x (List.mem_of_mem_take hx)
  have e:(xs.take (i+1)).sum=(xs.take i).sum+xs.getD i 0:=by
   rw [List.take_succ_eq_append_getElem (by omega),List.sum_append,List.getD_eq_getElem?_getD,List.getElem?_eq_getElem (by omega)]
   simp
  have hl:(xs.take (i+1)).length≤1000:=by rw [List.length_take];omega
  unfold Z2L
  rw [ih,←e,w64 (by omega)]
noncomputable def ZeG (xs:List Int) (n:Nat):Zf:=G0.withL 80 0 (goM 0 (Z8m xs n 0 0) (xs.length=n∧n<1000) (YR 0 n 9 (fun i=>i<n) (fun i=>i=n) (fun _=>False) (fun _=>False) (fun i=>Z3Q (Z2L xs i)) (fun i=>Z3Q (Z2L xs i)) (fun i=>Z3Q (Z2L xs i))))
theorem Zbm (xs:List Int) (n:Nat):(ZeG xs n).Ok:=
 Zf.withGoM (N:=20) (S:=fun i=>Z8m xs n i (Z2L xs i)) ZB (by kernel_rfl) fun hC=>⟨rfl,fun i hi _=>ZhR xs n i _ _ (i<n∧i<n) (i=n) hC.2 hC.1 hi (fun _=>rfl) (fun h=>⟨h,h⟩) (fun h=>h)⟩
theorem ZhS (xs:List Int) (n:Nat) (r:Int) (hL:xs.length=n) (hn:n<1000) (hr:r=Z2L xs n):
  evF (ZeG xs n) 20 80 [.vints .i64 xs n] ⟨0,[]⟩ (YM (fun v=>v=.int .i64 r)):=by
 refine @Eq.mpr _ (Z0 (decide ((↑n:Int)=(↑n:Int)))
 (xs=xs∧
 Z0 (decide (n=n))
 ((List.length xs=n∧n<1000)∧
 ∀(i:Nat),
 let q1:=AV.int i64 (Z2L xs i)=AV.int i64 r;
 i≤n→(∀(j:Nat),j<i→(fun (i:Nat)=>i<n) j)→(i=n→q1)∧(False→q1)∧(False→False))
 False)
 False) (by kernel_rfl) ?_
 conv=>zeta
 try simp only [Zi]
 try simp only [Zj]
 try simp only [Zk]
 try simp only [Zl]
 try simp only [Zm]
 try simp only [Zh]
 try simp only [Int.toNat_natCast,Nat.zero_add,true_and,and_true,Nat.le_refl]
 refine ⟨⟨hL,hn⟩,fun i hi _=>⟨fun he=> ?_,fun h=>h.elim,fun h=>h.elim⟩⟩
 rw [he,hr]
theorem ZfJ (args:List AV) (h:Z6) (K:AV→Prop) (hl:smS args h K):Zn PP 80 args h fun o h'=>∃v,o=.ret v∧h'=h∧K v:=by
 refine ZI.psumm (d:=20) (Zu _ _ _ _ _ hl fun a ha=> ?_)
 split at ha
 ·rename_i xs n
  obtain ⟨h1,h2,h3,hK⟩:=ha
  have e:Z2L xs n=xs.sum:=by rw [h1,Z8n (by omega) h3 _ (Nat.le_refl _),List.take_length]
  exact ⟨_,ZI.evV (Zbm _ _) (ZhS xs n _ h1.symm h2 rfl),fun _=>rfl,by rw [e];exact hK⟩
 ·exact ha.elim
noncomputable def ZeH:Zf:=(G0.withF 68 Z2K).withP 80 smS
theorem Zbn:ZeH.Ok:=Zf.withP_ok (Zf.withF_ok ZB UF) ZfJ
theorem ZhT (X:Za) (s:Int) (r:Int) (hs:s=0∨s=1) (hX:X8 X) (hA:Z0C X) (hr:r=Y4 X s):
  evF ZeH 20 30 [VB X,.int .i64 s] ⟨0,[]⟩ (YM (fun v=>v=.int .i64 r)):=by
 refine @Eq.mpr _ (let q1:=decide (0≤s∧s<2);
 let q2:=0+Int.toNat s;
 let q3:=decide (q2<2);
 let q4:=decide (q2<2);
 let q5:=List.length X.L;
 let q6:=List.getD [X.t.fee,(0:Int)] q2 0;
 let q7:=X.res;
 let q8:=List.getD [X.a0,X.a1] q2 0;
 Z0 q1
 (Z0 q3
 (Z0 q1
 (Z0 q4
 (∃(X_1:Za),
 let q17:=X_1.side;
 let q18:=ZK q17 s X_1.L;
 let q19:=List.length q18;
 let q20:=YU q18;
 let q21:=List.take q19 (XV 0 q20);
 LV (Za.c X (AV.vrows 70 q5 (Z5 X.L) q5)) X_1∧(0≤q17∧q17≤1)∧List.length X_1.L<1000∧Z0 q4 (Z0 (decide (q6=q6)) (Z0 (decide (q7=q7)) (Z0 q3 (Z0 (decide (q8=q8)) (Z0 (decide (0+q19≤List.length q20)) (q19=List.length q21∧q19<1000∧(∀(x:Int),List.Mem x q21→0≤x∧x≤1125899906842624)∧AV.int i64 (wrap i64 (wrap i64 (wrap i64 (q8-List.sum q21)-q7)-q6))=AV.int i64 r) False) False) False) False) False) False)
 False)
 False)
 False)
 False) (by kernel_rfl) ?_
 conv=>zeta
 obtain ⟨h1,h2,h3,h4,h5,h6⟩:=hA
 have hle:=Z4P X.side s X.L
 have hb:∀x∈YU (ZK X.side s X.L),0≤x∧x≤1125899906842624:=fun x hx=>by
  obtain ⟨z,hz,rfl⟩:=List.mem_map.1 hx
  exact h2 z ((List.mem_filter.1 hz).1)
 have hl:(YU (ZK X.side s X.L)).length=(ZK X.side s X.L).length:=List.length_map _
 have hsum:=Z0D hb
 have e:List.take (ZK X.side s X.L).length (XV 0 (YU (ZK X.side s X.L)))=YU (ZK X.side s X.L):=by rw [X4,List.drop_zero,←hl,List.take_length]
 try simp only [Zi]
 try simp only [Zj]
 try simp only [Zk]
 try simp only [Zl]
 try simp only [Zm]
 try simp only [Zh]
 try simp only [Int.toNat_natCast,Nat.zero_add,true_and,and_true,Nat.le_refl]
 repeat' first|apply And.intro|refine Exists.intro X ?_
 all_goals try rw [e]
 all_goals first|omega|rfl|exact .a rfl|exact hX.1|exact hX.2|exact hb|skip
 rw [hr]
 unfold Y4 Za.am
 generalize (YU (ZK X.side s X.L)).sum=q at*
 congr 1
 rcases hs with rfl|rfl
 ·simp only [Int.toNat_zero,List.getD_cons_zero,if_true]
  have e2:i64.wrap (X.a0-q)=X.a0-q:=w64 (by omega)
  have e3:i64.wrap (X.a0-q-X.res)=X.a0-q-X.res:=w64 (by omega)
  rw [e2,e3,w64 (by omega)]
 ·have e1:(1:Int).toNat=1:=rfl
  simp only [e1,List.getD_cons_succ,List.getD_cons_zero,show ¬(1:Int)=0 by decide,if_false]
  have e2:i64.wrap (X.a1-q)=X.a1-q:=w64 (by omega)
  have e3:i64.wrap (X.a1-q-X.res)=X.a1-q-X.res:=w64 (by omega)
  rw [e2,e3,w64 (by omega)]
theorem Z4Q (args:List AV) (h:Z6) (K:AV→Prop) (hl:Zdk args h K):Zn PP 30 args h fun o h'=>∃v,o=.ret v∧h'=h∧K v:=by
 refine ZI.psumm (d:=20) (Zu _ _ _ _ _ hl fun a ha=> ?_)
 split at ha
 ·obtain ⟨X,hX,hs,h1,h2,hK⟩:=ha
  exact ⟨_,(ZI.evV Zbn (ZhT X _ _ h1 hs h2 rfl)).conv fun E r hr=>hr.head (fun _ hc=>WE hX hc) fun _ hc=>hc,fun _=>rfl,hK⟩
 ·exact ha.elim
end Go.Tk
end
section
namespace Go.Tk
open IntKind (i64 u8 u32 u64 wrap)
noncomputable def ZeI:Zf:=G0.withF 68 Z2K
theorem Zbo:ZeI.Ok:=Zf.withF_ok ZB UF
theorem ZgF (X:Za) (s:Int) (b:Bool) (hX:X8 X) (hn:X.L.length<1000) (hb:b=decide ((ZK X.side s X.L).length≤8)):
  evF ZeI 20 76 [.int .i64 s,.pview [VB X] 0] ⟨0,[]⟩ (YM (fun v=>v=.bool b)):=by
 refine @Eq.mpr _ (let q1:=List.length X.L;
 ∃(X_1:Za),
 let q3:=X_1.side;
 LV (Za.c X (AV.vrows 70 q1 (Z5 X.L) q1)) X_1∧(0≤q3∧q3≤1)∧List.length X_1.L<1000∧AV.bool (decide ((↑(List.length (ZK q3 s X_1.L)):Int)≤8))=AV.bool b) (by kernel_rfl) ?_
 conv=>zeta
 subst hb
 refine ⟨X,.a rfl,hX,hn, ?_⟩
 congr 1
 rw [Bool.eq_iff_iff,decide_eq_true_iff,decide_eq_true_iff]
 omega
theorem Zbp (args:List AV) (h:Z6) (K:AV→Prop) (hl:ZeD args h K):Zn PP 76 args h fun o h'=>∃v,o=.ret v∧h'=h∧K v:=by
 refine ZI.psumm (d:=20) (Zu _ _ _ _ _ hl fun a ha=> ?_)
 split at ha
 ·obtain ⟨X,hX,hs,hn,hK⟩:=ha
  exact ⟨_,(ZI.evV Zbo (ZgF X _ _ hs hn rfl)).conv fun E r hr=>hr.head (fun _ hc=>hc) fun _ hr=>hr.head (fun _ hc=>Z4O hX hc) fun _ hc=>hc,fun _=>rfl,hK⟩
 ·exact ha.elim
noncomputable def Zdr (H1:List Int→List Int):Zf:=(G0.withP 77 (Zbf H1)).withP 78 ZfF
theorem Zds:(Zdr Zt).Ok:=Zf.withP_ok (Zf.withP_ok ZB Z9y) Zdm
noncomputable def Zbq (H1:List Int→List Int) (X:Za) (n:Nat):Zf:=((((Z4M (Zdr H1)).withP 58 Zbb).withP 76 ZeD).withP 30 Zdk).withF 68 Z2K
theorem Zbr {H1:List Int→List Int} (h0:(Zdr H1).Ok) (X:Za) (n:Nat):(Zbq H1 X n).Ok:=Zf.withF_ok (Zf.withP_ok (Zf.withP_ok (Zf.withP_ok (Zf.withP_ok (Zf.withP_ok (Zf.withP_ok (Zf.withP_ok h0 Z1q) QY) QZ) Z00) Zbc) Zbp) Z4Q) UF
def rgS (X:Za) (n i:Nat):St:=⟨140,[(99,.int .i64 i),(98,.int .i64 n),(97,.vrows 70 n (Z5 X.L) n),(1,.ptr (some ⟨0,0,0,0,0⟩))],⟨1,[(0,.flat [VB X])]⟩,[]⟩
def rgE (X:Za):St:=⟨140,[(1,.ptr (some ⟨0,0,0,0,0⟩))],⟨1,[(0,.flat [VB X])]⟩,[]⟩
def rgF:St:=⟨140,[(2,.bool false)],⟨0,[]⟩,[]⟩
theorem ZhU (X:Za) (n i:Nat) (H1:List Int→List Int) (Z1 Z2 Z3:Prop) (hn:n<1000) (hL:X.L.length=n) (hi:i≤n) (hok:∀h∈X.L,h.Ok) (h1:i<n→XI H1 X i=true→Z1) (h2:i=n→Z2) (h3:i<n→XI H1 X i=false→Z3):
  ZY (Zbq H1 X n) 20 26 0 0 (rgS X n i) (rdM 0 0 9 (rgS X n (i+1)) (rgE X) rgF rgF Z1 Z2 Z3 False):=by
 refine @Eq.mpr _ (let q1:=X.L;
 let q2:=List.length q1;
 let q3:=Z5 q1;
 let q4:=Za.c X (AV.vrows 70 q2 q3 q2);
 let q5:=List.getD q1 (Int.toNat (↑i:Int)) Zr;
 let q6:=Z7.mk q5.own q5.id q5.amount q5.hash q5.expiry q5.stage q5.fin q5.secret;
 let q7:=wrap i64 ((↑i:Int)-1);
 let q8:=List.getD q1 (Int.toNat q7) Zr;
 let q9:=decide (n=n);
 let q10:=q4=q4;
 let q11:=Z0 (decide (wrap i64 ((↑i:Int)+1)=(↑(i+1):Int))) (Z0 (decide ((↑n:Int)=(↑n:Int))) (Z0 q9 (q3=q3∧Z0 q9 (q10∧Z1) False) False) False) False;
 Z0 (decide ((↑i:Int)<(↑n:Int))) (Z0 (decide (0≤(↑i:Int)∧(↑i:Int)<(↑n:Int))) (∃(X:Za),LV q4 X∧Z7.Ok q6∧Z0 (!Xp H1 X q6) Z3 (Z0 (decide ((↑i:Int)>0)) (Z0 (decide (0≤q7∧q7<(↑q2:Int))) (Z0 (!decide (Xm (Z7.mk q8.own q8.id q8.amount q8.hash q8.expiry q8.stage q8.fin q8.secret) q6)) Z3 q11) False) q11)) False) (q10∧Z2)) (by kernel_rfl) ?_
 conv=>zeta
 try simp only [Zi]
 try simp only [Zj]
 try simp only [Zk]
 try simp only [Zl]
 try simp only [Zm]
 try simp only [Zh]
 try simp only [Int.toNat_natCast,Nat.zero_add,true_and,and_true,Nat.le_refl]
 have e0:∀p:Z7,Z7.mk p.own p.id p.amount p.hash p.expiry p.stage p.fin p.secret=p:=fun _=>rfl
 simp only [e0]
 refine ⟨fun hc=> ?_,fun hc=>h2 (by omega)⟩
 have hlt:i<n:=by omega
 have hwr:i64.wrap ((i:Int)+1)=((i+1:Nat):Int):=by rw [w64 (by omega)];omega
 have hw1:0<i→i64.wrap ((i:Int)-1)=((i-1:Nat):Int):=fun h=>by rw [w64 (by omega)];omega
 have hx:(X.L.getD i Zr).Ok:=hok _ (Yd (by omega))
 refine ⟨by omega,X,.a rfl,hx,fun hu=>h3 hlt ?_,fun hu=> ?_⟩
 ·have hu:Xp H1 X (X.L.getD i Zr)=false:=by simpa using hu
  unfold XI
  rw [hu];rfl
 have hu:Xp H1 X (X.L.getD i Zr)=true:=by simpa using hu
 refine ⟨fun hp=> ?_,fun hp=> ?_⟩
 ·have hp:0<i:=by omega
  rw [hw1 hp,Int.toNat_natCast]
  refine ⟨by omega,fun hf=>h3 hlt ?_,fun hf=> ?_⟩
  ·have hf:decide (Xm (X.L.getD (i-1) Zr) (X.L.getD i Zr))=false:=by simpa using hf
   unfold XI
   rw [hu,hf,ZC (by omega:i≠0)];rfl
  ·have hf:decide (Xm (X.L.getD (i-1) Zr) (X.L.getD i Zr))=true:=by simpa using hf
   have hb:XI H1 X i=true:=by
    unfold XI
    rw [hu,hf];simp
   repeat' apply And.intro
   all_goals first|omega|exact hwr|exact h1 hlt hb|rfl
 ·have hb:XI H1 X i=true:=by
   unfold XI
   rw [hu,show i=0 by omega];rfl
  repeat' apply And.intro
  all_goals first|omega|exact hwr|exact h1 hlt hb|rfl
noncomputable def ZeJ (H1:List Int→List Int) (X:Za) (n:Nat):Zf:=(Zbq H1 X n).withL 26 0 (goM 0 (rgS X n 0) (n<1000∧X.L.length=n∧∀h∈X.L,h.Ok) (YR 0 n 9 (fun i=>XI H1 X i=true∧i<n) (fun i=>i=n) (fun i=>i<n∧XI H1 X i=false) (fun _=>False) (fun _=>rgE X) (fun _=>rgF) (fun _=>rgF)))
theorem Zbs {H1:List Int→List Int} (h0:(Zdr H1).Ok) (X:Za) (n:Nat):(ZeJ H1 X n).Ok:=by
 exact Zf.withGoM (N:=20) (S:=fun i=>rgS X n i) (Zbr h0 X n) (by kernel_rfl) fun hC=>⟨rfl,fun i hi _=>ZhU X n i _ _ _ _ hC.1 hC.2.1 hi hC.2.2 (fun h h'=>⟨⟨h',h⟩,h⟩) (fun h=>h) (fun h h'=>⟨h,h'⟩)⟩
end Go.Tk
end
section
namespace Go.Tk
open IntKind (i64 u8 u32 u64 wrap)
theorem ZZ {t:Zo} (h:YT t=true):(0≤t.index∧t.index≤23)∧(1000≤t.cap∧t.cap≤1125899906842624)∧(1≤t.dust∧t.dust≤500)∧(0≤t.fee∧t.fee≤400)∧(1≤t.delay∧t.delay≤1000):=by
 unfold YT at h
 simp only [Bool.and_eq_true,decide_eq_true_eq] at h
 omega
theorem Z8o {H:List Int→List Int} {X:Za} (hn:X.L.length<1000) (h1:YT X.t=true) (h3:0≤X.res∧X.res≤X.t.cap/10) (h4:0≤X.a0∧X.a0≤X.t.cap) (h5:X.a1=X.t.cap-X.a0) (hl:∀h∈X.L,Xp H X h=true):Z0C X:=by
 have hb:=ZZ h1
 refine ⟨hn,fun h hh=> ?_,by omega,by omega,by omega,by omega⟩
 have:=hl h hh
 unfold Xp Yu at this
 simp only [Bool.and_eq_true,decide_eq_true_eq] at this
 omega
theorem ZhV (X:Za) (n:Nat) (H1:List Int→List Int) (b:Bool) (hL:X.L.length=n) (hn:n<1000) (ht:X.t.Ok) (hok:∀h∈X.L,h.Ok) (hb:b=X6 H1 X):
  evF (ZeJ H1 X n) 20 26 [VB X] ⟨0,[]⟩ (YM (fun v=>v=.bool b)):=by
 refine @Eq.mpr _ (let q1:=X.t;
 let q2:=q1.cap;
 let q3:=Zo.mk q1.fund q1.index q2 q1.dust q1.fee q1.delay q1.k0 q1.k1;
 let q4:=AV.bool b;
 let q5:=AV.bool false=q4;
 let q6:=X.a0;
 let q7:=X.L;
 let q8:=List.length q7;
 let q9:=Z5 q7;
 let q10:=Za.c X (AV.vrows (70:Nat) q8 q9 q8);
 let q11:=decide (q8=n);
 Zo.Ok q3∧
 Z0 ((if YT q3=true then (0:Int) else (2:Int)) !=(0:Int)) q5
 (Z0 (!decide ((0:Int)≤X.side∧X.side≤(1:Int))) q5
 (Z0 (!decide ((0:Int)≤X.res∧X.res≤wrap i64 (Int.tdiv q2 (10:Int)))) q5
 (Z0 (!decide ((0:Int)≤q6∧q6≤q2)) q5
 (Z0 (X.a1 !=wrap i64 (q2-q6)) q5
 (Z0 (!decide ((0:Int)≤X.i0∧X.i0≤(2147483648:Int))) q5
 (Z0 (!decide ((0:Int)≤X.i1∧X.i1≤(2147483648:Int))) q5
 (∃(X_1:Za),
 let q23:=X_1.side;
 LV q10 X_1∧
 ((0:Int)≤q23∧q23≤(1:Int))∧
 List.length X_1.L<(1000:Nat)∧
 Z0 (!decide (List.length (ZK q23 (0:Int) X_1.L)≤(8:Nat))) q5
 (∃(X_2:Za),
 let q25:=X_2.side;
 LV q10 X_2∧
 ((0:Int)≤q25∧q25≤(1:Int))∧
 List.length X_2.L<(1000:Nat)∧
 Z0 (!decide (List.length (ZK q25 (1:Int) X_2.L)≤(8:Nat))) q5
 (Z0 (decide ((↑q8:Int)=(↑n:Int)))
 (Z0 q11
 (q9=q9∧
 Z0 q11
 (q10=q10∧
 (n<(1000:Nat)∧q8=n∧∀(h:Z7),List.Mem h q7→Z7.Ok h)∧
 ∀(i:Nat),
 i≤n→
 (∀(j:Nat),j<i→(fun (i:Nat)=>XI H1 X i=true∧i<n) j)→
 (i=n→
 ∃(X:Za),
 LV q10 X∧
 ((0:Int)≤X.side∧X.side≤(1:Int))∧
 ((0:Int)=(0:Int)∨(0:Int)=(1:Int))∧
 Z0C X∧
 Z0 (decide (Y4 X (0:Int)≥(0:Int)))
 (∃(X:Za),
 let q27:=X.side;
 LV q10 X∧((0:Int)≤q27∧q27≤(1:Int))∧List.length X.L<(1000:Nat)∧Z0 ((↑(List.length (ZK q27 (1:Int) X.L)):Int)==(0:Int)) (AV.bool true=q4) (∃(X:Za),LV q10 X∧((0:Int)≤X.side∧X.side≤(1:Int))∧((1:Int)=(0:Int)∨(1:Int)=(1:Int))∧Z0C X∧AV.bool (decide (Y4 X (1:Int)≥(0:Int)))=q4))
 q5)∧
 (i<n∧XI H1 X i=false→q5)∧(False→False))
 False)
 False)
 False)))))))))) (by kernel_rfl) ?_
 conv=>zeta
 have e0:Zo.mk X.t.fund X.t.index X.t.cap X.t.dust X.t.fee X.t.delay X.t.k0 X.t.k1=X.t:=rfl
 have no:¬(X6 H1 X=true)→AV.bool false=AV.bool b:=fun h=>by rw [hb,Bool.eq_false_iff.2 h]
 have hr:=Qq (H:=H1) (X:=X)
 have hh:=Z0z (X:=X)
 have key:X6 H1 X=true→_:=fun h=>(hh.1 (hr.1 h).1)
 have hlen:X.L.length<1000:=by omega
 rw [e0]
 simp only [Zh]
 refine ⟨ht,fun k=>no fun h=> ?_,fun k1=> ?_⟩
 ·rw [(key h).1] at k;simp at k
 have k1:YT X.t=true:=by
  cases hq:YT X.t with
  | true=>rfl
  | false=>rw [hq] at k1;simp at k1
 have tb:=ZZ k1
 have td:i64.wrap (Int.tdiv X.t.cap 10)=X.t.cap/10:=by rw [Int.tdiv_eq_ediv_of_nonneg (by omega),w64 (by omega)]
 rw [td]
 refine ⟨fun k=>no fun h=> ?_,fun k2=> ?_⟩
 ·have:=(key h).2.1;simp at k;omega
 have k2:0≤X.side∧X.side≤1:=by simpa using k2
 refine ⟨fun k=>no fun h=> ?_,fun k3=> ?_⟩
 ·have:=(key h).2.2.1;simp at k;omega
 have k3:0≤X.res∧X.res≤X.t.cap/10:=by simpa using k3
 refine ⟨fun k=>no fun h=> ?_,fun k4=> ?_⟩
 ·have:=(key h).2.2.2.1;simp at k;omega
 have k4:0≤X.a0∧X.a0≤X.t.cap:=by simpa using k4
 have tw:i64.wrap (X.t.cap-X.a0)=X.t.cap-X.a0:=w64 (by omega)
 rw [tw]
 refine ⟨fun k=>no fun h=> ?_,fun k5=> ?_⟩
 ·have:=(key h).2.2.2.2.1;simp at k;omega
 have k5:X.a1=X.t.cap-X.a0:=by simpa using k5
 refine ⟨fun k=>no fun h=> ?_,fun k6=> ?_⟩
 ·have:=(key h).2.2.2.2.2.1;simp at k;omega
 have k6:0≤X.i0∧X.i0≤2147483648:=by simpa using k6
 refine ⟨fun k=>no fun h=> ?_,fun k7=> ?_⟩
 ·have:=(key h).2.2.2.2.2.2.1;simp at k;omega
 have k7:0≤X.i1∧X.i1≤2147483648:=by simpa using k7
 refine ⟨X,.a rfl,k2,hlen,fun k=>no fun h=> ?_,fun k8=> ?_⟩
 ·have:=(key h).2.2.2.2.2.2.2.1;simp at k;omega
 have k8:(ZK X.side 0 X.L).length≤8:=by simpa using k8
 refine ⟨X,.a rfl,k2,hlen,fun k=>no fun h=> ?_,fun k9=> ?_⟩
 ·have:=(key h).2.2.2.2.2.2.2.2;simp at k;omega
 have k9:(ZK X.side 1 X.L).length≤8:=by simpa using k9
 have hhd:Z5Q X=true:=hh.2 ⟨k1,k2,k3,k4,k5,k6,k7,k8,k9⟩
 simp only [hL,decide_true]
 refine ⟨fun _=>⟨fun _=>⟨trivial,fun _=>⟨trivial,⟨hn,trivial,hok⟩,fun i hi hg=>⟨fun he=> ?_,fun hx=>no fun h=> ?_,fun h=>h.elim⟩⟩,fun h=>by cases h⟩,fun h=>by cases h⟩,fun h=>by cases h⟩
 ·subst he
  have hall:∀j,j<X.L.length→XI H1 X j=true:=fun j hj=>(hg j (by omega)).1
  have hA:Z0C X:=Z8o (H:=H1) hlen k1 k3 k4 k5 fun h hh=>by
   obtain ⟨j,hj,rfl⟩:=List.getElem_of_mem hh
   have:=hall j hj
   unfold XI at this
   simp only [Bool.and_eq_true] at this
   rw [List.getD_eq_getElem?_getD,List.getElem?_eq_getElem hj] at this
   exact this.1
  refine ⟨X,.a (by rw [hL]),k2,.inl trivial,hA,fun k10=>⟨X,.a (by rw [hL]),k2,hlen,fun k11=> ?_,fun k11=>⟨X,.a (by rw [hL]),k2,.inr trivial,hA, ?_⟩⟩,fun k=>no fun h=> ?_⟩
  ·have k10:0≤Y4 X 0:=by simpa using k10
   have:X6 H1 X=true:=hr.2 ⟨hhd,hall,k10,.inl (by simpa using k11)⟩
   rw [hb,this]
  ·have k10:0≤Y4 X 0:=by simpa using k10
   rw [hb]
   congr 1
   rw [Bool.eq_iff_iff,decide_eq_true_iff]
   constructor
   ·intro h;exact hr.2 ⟨hhd,hall,k10,.inr h⟩
   ·intro h
    rcases (hr.1 h).2.2.2 with h|h
    ·rw [h] at k11;simp at k11
    ·exact h
  ·have:=(hr.1 h).2.2.1
   simp at k;omega
 ·have:=(hr.1 h).2.1 i (by omega)
  rw [hx.2] at this;cases this
theorem Zdt (args:List AV) (h:Z6) (K:AV→Prop) (hl:ZgB Zt args h K):Zn PP 26 args h fun o h'=>∃v,o=.ret v∧h'=h∧K v:=by
 refine ZI.psumm (d:=20) (Zu _ _ _ _ _ hl fun a ha=> ?_)
 split at ha
 ·obtain ⟨X,hX,ht,hok,hn,hK⟩:=ha
  exact ⟨_,(ZI.evV (Zbs Zds X _) (ZhV X _ Zt _ rfl hn ht hok rfl)).conv fun E r hr=>hr.head (fun _ hc=>WE hX hc) fun _ hc=>hc,fun _=>rfl,hK⟩
 ·exact ha.elim
end Go.Tk
end
section
namespace Go.Tk
open IntKind (i64 u8 u32 u64 wrap)
noncomputable def ZgG (H1:List Int→List Int):Zf:=G0.withP 26 (ZgB H1)
theorem Zdu:(ZgG Zt).Ok:=Zf.withP_ok ZB Zdt
def UL (t:Zo) (side res a b:Int):Za:=⟨t,side,res,a,b,0,0,[]⟩
theorem ZhW (t:Zo) (side res a b:Int) (X:Za) (H1:List Int→List Int) (ht:t.Ok) (hX:X=UL t side res a b) (hb:X6 H1 X=true):
  evF (ZgG H1) 20 7 [.agg t.c,.int .i64 side,.int .i64 res,.agg [.arr .i64 2 [a,b]]] ⟨0,[]⟩ (YS 0 (.ret (.tuple [.ptr (some ⟨0,0,0,0,0⟩),.int .i64 0])) 2 [(0,.flat (X.c (.nslice ⟨1,0,70,0,0⟩ 70 0 0))),(1,.rows 70 0 (Z5 []))]):=by
 refine @Eq.mpr _ (let q1:=[a,b];
 let q2:=[(0:Int),0];
 let q3:=X.t;
 ∃(X_1:Za),LV [AV.arr u8 32 t.fund,AV.int i64 t.index,AV.int i64 t.cap,AV.int i64 t.dust,AV.int i64 t.fee,AV.int i64 t.delay,AV.arr u8 32 t.k0,AV.arr u8 32 t.k1,AV.int i64 side,AV.int i64 res,AV.arr i64 2 q1,AV.arr i64 2 q2,AV.nilslice] X_1∧Zo.Ok X_1.t∧(∀(h:Z7),List.Mem h X_1.L→Z7.Ok h)∧List.length X_1.L<1000∧Z0 (!X6 H1 X_1) False (t.fund=q3.fund∧Z0 (decide (t.index=q3.index)) (Z0 (decide (t.cap=q3.cap)) (Z0 (decide (t.dust=q3.dust)) (Z0 (decide (t.fee=q3.fee)) (Z0 (decide (t.delay=q3.delay)) (t.k0=q3.k0∧t.k1=q3.k1∧Z0 (decide (side=X.side)) (Z0 (decide (res=X.res)) (q1=[X.a0,X.a1]∧q2=[X.i0,X.i1]∧True) False) False) False) False) False) False) False)) (by kernel_rfl) ?_
 conv=>zeta
 refine ⟨X,.b (by rw [hX];rfl) (by rw [hX];rfl),by rw [hX];exact ht,(by rw [hX];intro h hh;cases hh),(by rw [hX];exact Nat.succ_pos _), ?_⟩
 rw [hb]
 subst hX
 simp [Z0,UL]
end Go.Tk
end
section
namespace Go.Tk
open IntKind (i64 u8 u32 u64 wrap)
theorem and_mk {a b:Bool} (h1:a=true) (h2:b=true):(a&&b)=true:=by rw [h1,h2];rfl
theorem Zbt {E:Env} {w:World} {sz n:Nat} {g g':Nat→List AV} (hg:∀i,i<n→g' i=g i) (he:Emb E ⟨1,[(0,.rows sz n g')]⟩ w):Emb E ⟨1,[(0,.rows sz n g)]⟩ w:=by
 have hget:∀(f:Nat→List AV) x B,(Z6.mk 1 [(0,.rows sz n f)]).get x=some B→x=0∧B=.rows sz n f:=fun f x B hx=>by
  simp only [Z6.get,ZF] at hx
  split at hx
  ·rename_i hb
   cases hx
   exact ⟨(Nat.eq_of_beq_eq_true hb).symm,rfl⟩
  ·cases hx
 have h0:∀f:Nat→List AV,(Z6.mk 1 [(0,.rows sz n f)]).get 0=some (.rows sz n f):=fun f=>rfl
 refine ⟨he.fresh,fun x B hx=> ?_,fun x B hx=> ?_,fun x y B B' b N N' hx hy h1 h2=> ?_,he.imm,fun a c x B N hi hx hb=> ?_⟩
 ·obtain ⟨rfl,rfl⟩:=hget _ _ _ hx;exact he.lt 0 _ (h0 _)
 ·obtain ⟨rfl,rfl⟩:=hget _ _ _ hx
  have:=he.own 0 _ (h0 g')
  cases this with
  | rows0 _ _ _ hn hb=>exact .rows0 _ _ _ hn hb
  | rows _ _ _ b cells elem fr gv hb hw hf hc hl hv=>exact .rows _ _ _ b cells elem fr gv hb hw hf (fun i hi=>hg i hi▸hc i hi) hl hv
 ·obtain ⟨rfl,rfl⟩:=hget _ _ _ hx
  obtain ⟨rfl,rfl⟩:=hget _ _ _ hy
  rfl
 ·obtain ⟨rfl,rfl⟩:=hget _ _ _ hx
  exact he.sep a c 0 _ N hi (h0 g') hb
theorem Spec.rows {P:Program} {f:FuncId} {args:List AV} {sz n:Nat} {g g':Nat→List AV} {o:Out} {nx:Nat} {bs:List (Nat×Blk)} (hg:∀i,i<n→g' i=g i) (h:Spec P f args ⟨1,[(0,.rows sz n g)]⟩ o nx bs):Spec P f args ⟨1,[(0,.rows sz n g')]⟩ o nx bs:=by
 intro E w rs he hl
 have he':=Zbt hg he
 refine (h E w rs he' hl).mono ?_
 rintro e w' ⟨E',hev,ho⟩
 have own:∀b,Wq E ⟨1,[(0,.rows sz n g)]⟩ b↔Wq E ⟨1,[(0,.rows sz n g')]⟩ b:=fun b=>by
  unfold Wq
  constructor
  ·rintro ⟨x,B,N,hx,hb⟩
   simp only [Z6.get,ZF] at hx
   split at hx
   ·rename_i hq;have:=Nat.eq_of_beq_eq_true hq;subst this;exact ⟨0,_,N,rfl,hb⟩
   ·cases hx
  ·rintro ⟨x,B,N,hx,hb⟩
   simp only [Z6.get,ZF] at hx
   split at hx
   ·rename_i hq;have:=Nat.eq_of_beq_eq_true hq;subst this;exact ⟨0,_,N,rfl,hb⟩
   ·cases hx
 exact ⟨E',⟨hev.le,hev.emb,hev.size,hev.os,hev.tape,hev.output,fun b hb hn=>hev.keep b hb (fun h=>hn ((own b).1 h)),fun b hb=>(hev.own b hb).imp (own b).1 id,hev.imm⟩,ho⟩
end Go.Tk
end
section
namespace Go.Tk
open IntKind (i64 u8 u32 u64 wrap)
open Go.Proofs Go.Shelf Go.Lib Go.Sort
theorem Z5S {W w':World} (h1:W.heap.size≤w'.heap.size) (h2:w'.os=W.os) (h3:w'.tape=W.tape) (h4:w'.output=W.output∧W.drawn≤w'.drawn) (h5:∀b,b<W.heap.size→w'.heap[b]? =W.heap[b]?):∃q os',w'=grow (W.drewN q) os':=by
 refine ⟨w'.drawn-W.drawn,w'.heap.extract W.heap.size w'.heap.size, ?_⟩
 obtain ⟨heap,tape,drawn,os,output⟩:=w'
 obtain ⟨heap0,tape0,drawn0,os0,output0⟩:=W
 simp only at h1 h2 h3 h4 h5
 unfold grow World.drewN
 simp only [World.mk.injEq]
 refine ⟨?_,h3,by omega,h2,h4.1⟩
 apply Array.ext_getElem?
 intro i
 rcases Nat.lt_or_ge i heap0.size with h|h
 ·rw [Array.getElem?_append_left h];exact h5 i h
 ·rw [Array.getElem?_append_right h,Array.getElem?_extract]
  rcases Nat.lt_or_ge i heap.size with h'|h'
  ·rw [if_pos (by omega)];congr 1;omega
  ·rw [if_neg (by omega),Array.getElem?_eq_none (by omega)]
section
variable {P:Program} {ρ:Go.Shelf.Ren} {α:Type} [Inhabited α]
theorem Z7t {g k:Nat} {c:α→List AV} {enc:α→List Value} (hc2:∀E x,Zq E (c x) (enc x)) {cf:α→α→Int} (hcmp:∀x y,ZI P g [.agg (c x),.agg (c y)] (.int .i64 (cf x y)) 0 []) (blk off size:Nat) (w:World):
  CmpLays P g #[] enc k cf blk off size w:=by
 intro m os dk hs x y
 have E0:Emb ⟨fun _=>none,fun _ _=>False⟩ ⟨0,[]⟩ (sortWorldK enc k w blk off m dk os):=
  ⟨fun _ _=>rfl,fun x B h=>by simp [Z6.get,ZF] at h,fun x B h=>by simp [Z6.get,ZF] at h,fun x y B B' b N N' h=>by simp [Z6.get,ZF] at h,fun _ _ h=>h.elim,fun _ _ _ _ _ h=>h.elim⟩
 refine (hcmp x y _ _ [.agg (enc x).toArray,.agg (enc y).toArray] E0 (.cons _ _ _ _ (.agg _ _ (hc2 _ _)) (.cons _ _ _ _ (.agg _ _ (hc2 _ _)) .nil))).mono ?_
 rintro e w' ⟨E',r,rfl,hev,hr⟩
 cases hr
 refine ⟨rfl,Z5S hev.size hev.os hev.tape hev.output fun b hb=>hev.keep b hb ?_⟩
 rintro ⟨x,B,N,hx,_⟩
 simp [Z6.get,ZF] at hx
theorem Z9C (L:SlLaysF0.n6 P ρ) {k:Nat} (aE:∀w,(Go.isAgg (ρ.t 24)).run P w=.ok true w) (zE:∀w,(Go.sizeOf (ρ.t 24)).run P w=.ok k w) {c:α→List AV} {enc:α→List Value} (hk:∀x,(enc x).length=k) (hk0:0<k) (h1:∀x,∀v∈enc x,v.oneCell'=true)
  (hc1:∀E x vs,Zq E (c x) vs→vs=enc x) (hc2:∀E x,Zq E (c x) (enc x)) {cf:α→α→Int} (hO:SWO (ltOf cf)) {g:Nat} (eg:∀args w,(callFunc g args).run P w=.ok (.enter g args) w)
  (hcmp:∀x y,ZI P g [.agg (c x),.agg (c y)] (.int .i64 (cf x y)) 0 []) {l L':List α} {n lo:Nat} (hn:l.length=n) (h0:0<n) (hsz:n<4611686018427387904) {f f':Nat→List AV} (hf0:∀i,i<n→f i=c (l.getD i default)) (hf1:∀i,i<n→f' i=c (L'.getD i default))
  (hL:∀l':List α,l'.Perm l→l'.Pairwise (fun a b=>ltOf cf b a=false)→l'=L'):
  Spec P (ρ.f 6) [.nslice ⟨0,0,k,0,0⟩ k n lo,.func (.func g) [] []] ⟨1,[(0,.rows k n f)]⟩ (.ret (.tuple [])) 1 [(0,.rows k n f')]:=by
 intro E w rs he hr
 cases hr with
 | cons v r vs rs hr1 hr2=>
 cases hr2 with
 | cons v2 r2 vs2 rs2 hr2 hr3=>
 cases hr3
 cases hr2 with
 | func fn fi ca fs cs h3 h4=>
 cases h3
 cases h4
 cases hr1 with
 | nslice0 p esz len lo a q1 q2=>omega
 | nslice p esz len lo b N cap hb q1 q2 q3=>
 have hB:=he.own 0 _ rfl
 cases hB with
 | rows0 sz n f q0 hno=>omega
 | rows sz n f b' cells elem fr gg hb' hw hfr hc hl hv=>
 rw [hb'] at hb
 cases hb
 have htot:(ZO.mk 0 0 k 0 0).tot=0:=by simp [ZO.tot]
 rw [htot] at q3⊢
 have hgg:∀i,i<n→gg i=enc (l.getD i default):=fun i hi=>by
  have:=hc i hi
  rw [hf0 i hi] at this
  exact hc1 _ _ _ this
 have hcs:n*k≤cells.size:=by
  rcases Nat.lt_or_ge cells.size (n*k) with h|h
  ·exfalso
   have e:n=(n-1)+1:=by omega
   have hlast:(gg (n-1))[k-1]? =some ((gg (n-1))[k-1]'(by rw [hl _ (by omega)];omega)):=List.getElem?_eq_getElem _
   have:=hv (n-1) (k-1) _ (by omega) hlast
   have e2:(n-1)*k+(k-1)<cells.size:=by
    rcases Nat.lt_or_ge ((n-1)*k+(k-1)) cells.size with h'|h'
    ·exact h'
    ·rw [Array.getElem?_eq_none h'] at this;cases this
   have e3:n*k=(n-1)*k+k:=by rw [e,Nat.add_mul];simp
   omega
  ·exact h
 have hdiv:∀j,j<n*k→j/k<n:=fun j hj=>(Nat.div_lt_iff_lt_mul hk0).2 hj
 have hH:HoldsK enc k w b 0 l.toArray:=by
  intro j hj
  rw [size_flatK] at hj
  have hj:j<n*k:=by simpa [hn] using hj
  have hi:=hdiv j hj
  have hm:j%k<k:=Nat.mod_lt _ hk0
  rw [get_flatK _ _ _ _ (by simpa [hn] using hj)]
  have e:l.toArray[j/k]! =l.getD (j/k) default:=by simp [List.getD_eq_getElem?_getD]
  have hx:(gg (j/k))[j%k]? =some ((enc (l.getD (j/k) default))[j%k]!):=by
   rw [hgg _ hi]
   rw [List.getElem?_eq_getElem (by rw [hk];exact hm)]
   simp [getElem!_pos,hk,hm]
  have hcell:=hv (j/k) (j%k) _ hi hx
  have ej:j/k*k+j%k=j:=by rw [Nat.mul_comm];exact Nat.div_add_mod j k
  rw [ej] at hcell
  refine ⟨?_, ?_⟩
  ·rw [Nat.zero_add,cell_of_heap hw,hcell,e];rfl
  ·unfold World.frozen?
   simp only [Nat.zero_add,hw]
   have:=hfr j (by omega)
   rw [Bool.eq_false_iff]
   simp only [ne_eq,Bool.and_eq_true,decide_eq_true_eq]
   exact this
 have hblk:b<w.heap.size:=(he.own 0 _ rfl).lt hb'
 have hcon:=AnyQ.slices_SortFunc L k aE zE enc hk h1 cf hO g #[] b 0 cap l.toArray w eg (Z7t hc2 hcmp b 0 _ w) hH hblk (by simpa [hn] using hsz)
 have en:l.toArray.size=n:=by simpa using hn
 rw [en] at hcon
 refine hcon.mono ?_
 rintro e w' ⟨rfl,d',m,os,hp,hs,rfl⟩
 obtain ⟨p1,_,p3⟩:=hp
 rw [en] at p1
 have pe:(d'.extract 0 n)=d':=by rw [←p1];simp
 have pe2:(l.toArray.extract 0 n)=l.toArray:=by rw [←en];simp
 rw [pe,pe2] at p3
 have hLd:d'.toList=L':=by
  refine hL _ p3 ?_
  rw [List.pairwise_iff_getElem]
  intro i j hi hj hij
  have:=hs i j (Nat.zero_le _) hij (by simpa [p1] using hj)
  have e1:d'[i]! =d'.toList[i]:=by simp only [Array.length_toList] at hi;simp [getElem!_pos,hi]
  have e2:d'[j]! =d'.toList[j]:=by simp only [Array.length_toList] at hj;simp [getElem!_pos,hj]
  rw [e1,e2] at this
  exact this
 have hheap:(sortWorldK enc k w b 0 m d' os).heap=w.heap.modify b (onCells (putCells id 0 (flatK enc k d')))++os:=rfl
 have hold:∀i,i<w.heap.size→i≠b→(sortWorldK enc k w b 0 m d' os).heap[i]? =w.heap[i]?:=fun i hi hib=>by
  rw [hheap,Array.getElem?_append_left (by simpa using hi),Array.getElem?_modify,if_neg (fun h=>hib h.symm)]
 have hnew:(sortWorldK enc k w b 0 m d' os).heap[b]? =some (.cells (putCells id 0 (flatK enc k d') cells) elem fr):=by
  rw [hheap,Array.getElem?_append_left (by simpa using hblk),Array.getElem?_modify,if_pos rfl,hw];rfl
 have hpsz:(putCells id 0 (flatK enc k d') cells).size=cells.size:=by simp [putCells]
 have hle:w.heap.size≤(sortWorldK enc k w b 0 m d' os).heap.size:=by rw [hheap];simp
 have hown:∀{H:Z6} {i:Nat},H=⟨1,[(0,Blk.rows k n f)]⟩∨H=⟨1,[(0,Blk.rows k n f')]⟩→(Wq E H i↔i=b):=by
  intro H i hq0
  constructor
  ·rintro ⟨x,B,N,hx,hbx⟩
   have hx0:x=0:=by
    rcases hq0 with rfl|rfl
    ·simp only [Z6.get,ZF] at hx
     split at hx
     ·rename_i hq;exact (Nat.eq_of_beq_eq_true hq).symm
     ·cases hx
    ·simp only [Z6.get,ZF] at hx
     split at hx
     ·rename_i hq;exact (Nat.eq_of_beq_eq_true hq).symm
     ·cases hx
   subst hx0
   rw [hb'] at hbx
   cases hbx;rfl
  ·rintro rfl
   rcases hq0 with rfl|rfl<;>exact ⟨0,_,_,rfl,hb'⟩
 have hbn:∀a cc,E.imm a cc→a.block≠b:=fun a cc hi hq=>he.sep a cc 0 _ _ hi rfl (by rw [hb',hq])
 refine ⟨E,⟨.refl E,⟨he.fresh,fun x B hx=> ?_,fun x B hx=> ?_,fun x y B B' bb N N' hx hy _ _=> ?_,fun a cc hi=> ?_,fun a cc x B N hi hx hbx=> ?_⟩,hle,rfl,rfl,⟨rfl,Nat.le_add_right _ _⟩,fun i hi hno=>hold i hi (fun h=>hno ((hown (.inl rfl)).2 h)),fun i ho=>.inl ((hown (.inl rfl)).2 ((hown (.inr rfl)).1 ho)),fun _ _ h=>h⟩,.ret _ _ (.tuple [] [] .nil)⟩
 ·simp only [Z6.get,ZF] at hx
  split at hx
  ·rename_i hq;have:=Nat.eq_of_beq_eq_true hq;show x<1;omega
  ·cases hx
 ·simp only [Z6.get,ZF] at hx
  split at hx
  ·rename_i hq
   have:=Nat.eq_of_beq_eq_true hq
   subst this
   cases hx
   refine .rows k n f' b _ elem fr (fun i=>enc (L'.getD i default)) (by rw [hpsz];exact hb') hnew (fun o ho=>hfr o (by rw [hpsz] at ho;exact ho)) (fun i hi=>by rw [hf1 i hi];exact hc2 _ _) (fun i hi=>hk _) (fun i j cc hi hj=> ?_)
   have hjk:j<k:=by
    have:=(List.getElem?_eq_some_iff.1 hj).1
    rw [hk] at this;exact this
   have ht:i*k+j<n*k:=by
    have:(i+1)*k≤n*k:=Nat.mul_le_mul_right _ hi
    rw [Nat.add_mul,Nat.one_mul] at this
    omega
   unfold putCells
   rw [Array.getElem?_mapIdx,Array.getElem?_eq_getElem (by omega)]
   simp only [Option.map_some]
   rw [if_pos ⟨Nat.zero_le _,by rw [size_flatK,p1];omega⟩,Nat.sub_zero,get_flatK _ _ _ _ (by rw [p1];exact ht)]
   have e1:(i*k+j)/k=i:=by rw [Nat.mul_comm,Nat.mul_add_div hk0,Nat.div_eq_of_lt hjk];rfl
   have e2:(i*k+j)%k=j:=by rw [Nat.mul_comm,Nat.mul_add_mod,Nat.mod_eq_of_lt hjk]
   rw [e1,e2]
   have e3:d'[i]! =L'.getD i default:=by
    have hid:i<d'.size:=by omega
    rw [←hLd,List.getD_eq_getElem?_getD];simp [getElem!_pos,hid]
   rw [e3]
   obtain ⟨hjl,hj2⟩:=List.getElem?_eq_some_iff.1 hj
   rw [←hj2,getElem!_pos (enc (L'.getD i default)) j hjl];rfl
  ·cases hx
 ·simp only [Z6.get,ZF] at hx hy
  split at hx
  ·rename_i hq
   split at hy
   ·rename_i hq'
    rw [←Nat.eq_of_beq_eq_true hq,←Nat.eq_of_beq_eq_true hq']
   ·cases hy
  ·cases hx
 ·have h0:=he.imm a cc hi
  have hlt:a.block<w.heap.size:=by
   rcases Nat.lt_or_ge a.block w.heap.size with hl|hg
   ·exact hl
   ·simp [World.cell?,Array.getElem?_eq_none hg] at h0
  simpa [World.cell?,hold _ hlt (hbn a cc hi)] using h0
 ·have:=(hown (H:=⟨1,[(0,.rows k n f')]⟩) (.inr rfl)).1 ⟨x,B,N,hx,hbx⟩
  exact hbn a cc hi this
end
end Go.Tk
end
section
namespace Go.Tk
open IntKind (i64 u8 u32 u64 wrap)
def Z9D:Go.Shelf.Ren:=⟨fun|6=>70|15=>117|14=>116|28=>156|29=>157|20=>148|21=>149|22=>150|23=>151|24=>152|25=>153|26=>154|27=>155|46=>174|47=>175|48=>176|49=>177|50=>178|57=>185|n=>n,fun|22=>69|24=>85|25=>144|3=>3|39=>196|0=>0|53=>209|55=>240|4=>4|46=>232|45=>231|50=>236|5=>5|9=>9|66=>258|70=>262|76=>273|77=>274|n=>n,fun|n=>n⟩
theorem ZgH:Go.Proofs.SlLaysF0.n6 PP Z9D:={
 mixed:=by kernel_rfl,
 f6:=⟨Go.Proofs.Tryz.f70.name,by decide,Go.Proofs.Tryz.func70.trans (congrArg some (by kernel_rfl))⟩,
 f14:=⟨Go.Proofs.Tryz.f116.name,by decide,Go.Proofs.Tryz.func116.trans (congrArg some (by kernel_rfl))⟩,
 f15:=Go.Proofs.Tryz.func117.trans (congrArg some (by kernel_rfl)),
 f20:=⟨Go.Proofs.Tryz.f148.name,by decide,Go.Proofs.Tryz.func148.trans (congrArg some (by kernel_rfl))⟩,
 f21:=⟨Go.Proofs.Tryz.f149.name,by decide,Go.Proofs.Tryz.func149.trans (congrArg some (by kernel_rfl))⟩,
 f22:=⟨Go.Proofs.Tryz.f150.name,by decide,Go.Proofs.Tryz.func150.trans (congrArg some (by kernel_rfl))⟩,
 f23:=⟨Go.Proofs.Tryz.f151.name,by decide,Go.Proofs.Tryz.func151.trans (congrArg some (by kernel_rfl))⟩,
 f24:=⟨Go.Proofs.Tryz.f152.name,by decide,Go.Proofs.Tryz.func152.trans (congrArg some (by kernel_rfl))⟩,
 f25:=⟨Go.Proofs.Tryz.f153.name,by decide,Go.Proofs.Tryz.func153.trans (congrArg some (by kernel_rfl))⟩,
 f26:=⟨Go.Proofs.Tryz.f154.name,by decide,Go.Proofs.Tryz.func154.trans (congrArg some (by kernel_rfl))⟩,
 f27:=⟨Go.Proofs.Tryz.f155.name,by decide,Go.Proofs.Tryz.func155.trans (congrArg some (by kernel_rfl))⟩,
 f28:=Go.Proofs.Tryz.func156.trans (congrArg some (by kernel_rfl)),
 f29:=Go.Proofs.Tryz.func157.trans (congrArg some (by kernel_rfl)),
 f46:=⟨Go.Proofs.Tryz.f174.name,by decide,Go.Proofs.Tryz.func174.trans (congrArg some (by kernel_rfl))⟩,
 f47:=Go.Proofs.Tryz.func175.trans (congrArg some (by kernel_rfl)),
 f48:=Go.Proofs.Tryz.func176.trans (congrArg some (by kernel_rfl)),
 f49:=⟨Go.Proofs.Tryz.f177.name,by decide,Go.Proofs.Tryz.func177.trans (congrArg some (by kernel_rfl))⟩,
 f50:=⟨Go.Proofs.Tryz.f178.name,by decide,Go.Proofs.Tryz.func178.trans (congrArg some (by kernel_rfl))⟩,
 f57:=⟨Go.Proofs.Tryz.f185.name,by decide,Go.Proofs.Tryz.func185.trans (congrArg some (by kernel_rfl))⟩,
 t0:=Go.Proofs.Tryz.underlying0,
 a0:=Go.Proofs.Tryz.isAgg0,
 z0:=Go.Proofs.Tryz.sizeOf0,
 v0:=Go.Proofs.Tryz.zeroValue0,
 t3:=Go.Proofs.Tryz.underlying3,
 a3:=Go.Proofs.Tryz.isAgg3,
 z3:=Go.Proofs.Tryz.sizeOf3,
 v3:=Go.Proofs.Tryz.zeroValue3,
 t4:=Go.Proofs.Tryz.underlying4,
 a4:=Go.Proofs.Tryz.isAgg4,
 z4:=Go.Proofs.Tryz.sizeOf4,
 v4:=Go.Proofs.Tryz.zeroValue4,
 t5:=Go.Proofs.Tryz.underlying5,
 a5:=Go.Proofs.Tryz.isAgg5,
 z5:=Go.Proofs.Tryz.sizeOf5,
 v5:=Go.Proofs.Tryz.zeroValue5,
 t9:=Go.Proofs.Tryz.underlying9,
 a9:=Go.Proofs.Tryz.isAgg9,
 z9:=Go.Proofs.Tryz.sizeOf9,
 v9:=Go.Proofs.Tryz.zeroValue9,
 t22:=Go.Proofs.Tryz.underlying69,
 a22:=Go.Proofs.Tryz.isAgg69,
 z22:=Go.Proofs.Tryz.sizeOf69,
 v22:=Go.Proofs.Tryz.zeroValue69,
 t25:=Go.Proofs.Tryz.underlying144,
 a25:=Go.Proofs.Tryz.isAgg144,
 z25:=Go.Proofs.Tryz.sizeOf144,
 v25:=Go.Proofs.Tryz.zeroValue144,
 t39:=Go.Proofs.Tryz.underlying196,
 a39:=Go.Proofs.Tryz.isAgg196,
 z39:=Go.Proofs.Tryz.sizeOf196,
 v39:=Go.Proofs.Tryz.zeroValue196,
 t45:=Go.Proofs.Tryz.underlying231,
 a45:=Go.Proofs.Tryz.isAgg231,
 z45:=Go.Proofs.Tryz.sizeOf231,
 v45:=Go.Proofs.Tryz.zeroValue231,
 t46:=Go.Proofs.Tryz.underlying232,
 a46:=Go.Proofs.Tryz.isAgg232,
 z46:=Go.Proofs.Tryz.sizeOf232,
 v46:=Go.Proofs.Tryz.zeroValue232,
 t50:=Go.Proofs.Tryz.underlying236,
 a50:=Go.Proofs.Tryz.isAgg236,
 z50:=Go.Proofs.Tryz.sizeOf236,
 v50:=Go.Proofs.Tryz.zeroValue236,
 t53:=Go.Proofs.Tryz.underlying209,
 a53:=Go.Proofs.Tryz.isAgg209,
 z53:=Go.Proofs.Tryz.sizeOf209,
 v53:=Go.Proofs.Tryz.zeroValue209,
 t55:=Go.Proofs.Tryz.underlying240,
 a55:=Go.Proofs.Tryz.isAgg240,
 z55:=Go.Proofs.Tryz.sizeOf240,
 v55:=Go.Proofs.Tryz.zeroValue240,
 t66:=Go.Proofs.Tryz.underlying258,
 a66:=Go.Proofs.Tryz.isAgg258,
 z66:=Go.Proofs.Tryz.sizeOf258,
 v66:=Go.Proofs.Tryz.zeroValue258,
 t70:=Go.Proofs.Tryz.underlying262,
 a70:=Go.Proofs.Tryz.isAgg262,
 z70:=Go.Proofs.Tryz.sizeOf262,
 v70:=Go.Proofs.Tryz.zeroValue262,
 t76:=Go.Proofs.Tryz.underlying273,
 a76:=Go.Proofs.Tryz.isAgg273,
 z76:=Go.Proofs.Tryz.sizeOf273,
 v76:=Go.Proofs.Tryz.zeroValue273,
 t77:=Go.Proofs.Tryz.underlying274,
 a77:=Go.Proofs.Tryz.isAgg274,
 z77:=Go.Proofs.Tryz.sizeOf274,
 v77:=Go.Proofs.Tryz.zeroValue274}
end Go.Tk
end
section
namespace Go.Tk
open IntKind (i64 u8 u32 u64 wrap)
def Xg {α:Type} (lt:α→α→Bool) (x:α):List α→List α
 | []=>[x]
 | y::r=>match lt x y with
  | true=>x::y::r
  | false=>y::Xg lt x r
def W1 {α:Type} (lt:α→α→Bool):List α→List α→List α
 | acc,[]=>acc
 | acc,x::r=>W1 lt (Xg lt x acc) r
def Qr {α:Type} (lt:α→α→Bool) (l:List α):Prop:=l.Pairwise fun a b=>lt b a=false
structure WO {α:Type} (lt:α→α→Bool):Prop where
 asym:∀x y,lt x y=true→lt y x=false
 neg:∀x y z,lt x y=true→lt z y=false→lt x z=true
theorem Z5T {α:Type} {lt:α→α→Bool} {x z:α}:∀{l:List α},z∈Xg lt x l↔z=x∨z∈l
 | []=>by simp [Xg]
 | y::r=>by
  unfold Xg
  split
  ·simp
  ·simp only [List.mem_cons,Z5T (l:=r)]
   constructor<;>(intro h;rcases h with h|h|h<;>simp [h])
theorem Z2M {α:Type} {lt:α→α→Bool} {x:α}:∀{l:List α},(Xg lt x l).length=l.length+1
 | []=>rfl
 | y::r=>by
  unfold Xg
  split
  ·simp
  ·simp [Z2M (l:=r)]
theorem Z3R {α:Type} {lt:α→α→Bool} {x:α}:∀{l:List α},(Xg lt x l).Perm (x::l)
 | []=>.refl _
 | y::r=>by
  unfold Xg
  split
  ·exact .refl _
  ·exact (List.Perm.cons y Z3R).trans (List.Perm.swap x y r)
theorem Z5U {α:Type} {lt:α→α→Bool} (wo:WO lt) {x:α}:∀{l:List α},Qr lt l→Qr lt (Xg lt x l)
 | [],_=>by simp [Xg,Qr]
 | y::r,h=>by
  unfold Qr at h
  rw [List.pairwise_cons] at h
  unfold Xg
  split
  ·rename_i hx
   unfold Qr
   rw [List.pairwise_cons,List.pairwise_cons]
   refine ⟨fun z hz=> ?_,h.1,h.2⟩
   rcases List.mem_cons.1 hz with rfl|hz
   ·exact wo.asym _ _ hx
   ·cases hzx:lt z x with
    | false=>rfl
    | true=>
     have:=h.1 z hz
     -- z < x < y, so z < y
     have h2:=wo.neg z x y hzx (wo.asym _ _ hx)
     rw [h2] at this;cases this
  ·rename_i hx
   unfold Qr
   rw [List.pairwise_cons]
   refine ⟨fun z hz=> ?_,Z5U wo h.2⟩
   rcases Z5T.1 hz with rfl|hz
   ·exact hx
   ·exact h.1 z hz
theorem Z0E {α:Type} {lt:α→α→Bool} (wo:WO lt):∀{l acc:List α},Qr lt acc→Qr lt (W1 lt acc l)
 | [],_,h=>h
 | _::_,_,h=>by unfold W1;exact Z0E wo (Z5U wo h)
theorem XR {α:Type} {lt:α→α→Bool}:∀{l acc:List α},(W1 lt acc l).Perm (acc++l)
 | [],acc=>by simp [W1]
 | x::r,acc=>by
  unfold W1
  refine XR.trans ?_
  refine (List.Perm.append_right r Z3R).trans ?_
  rw [List.cons_append]
  exact List.perm_middle.symm
theorem XS {α:Type} {lt:α→α→Bool} {l acc:List α}:(W1 lt acc l).length=acc.length+l.length:=by
 rw [(XR (lt:=lt)).length_eq,List.length_append]
theorem Z2N {α:Type} {lt:α→α→Bool} {x:α}:∀{l acc:List α},W1 lt acc (l++[x])=Xg lt x (W1 lt acc l)
 | [],acc=>rfl
 | y::r,acc=>by
  simp only [List.cons_append,W1]
  exact Z2N
theorem Uf {α:Type} {lt:α→α→Bool}:∀{l m:List α},l.Perm m→Qr lt l→Qr lt m→(∀a∈l,∀b∈l,lt a b=false→lt b a=false→a=b)→l=m
 | [],m,hp,_,_,_=>by simpa using hp.symm
 | x::r,[],hp,_,_,_=>by simp at hp
 | x::r,y::q,hp,hl,hm,hu=>by
  unfold Qr at hl hm
  rw [List.pairwise_cons] at hl hm
  have hyx:y=x:=by
   by_cases e:y=x
   ·exact e
   ·have hx:x∈q:=by
     have:=hp.subset (List.mem_cons_self ..)
     rcases List.mem_cons.1 this with h|h
     ·exact absurd h.symm e
     ·exact h
    have hy:y∈r:=by
     have:=hp.symm.subset (List.mem_cons_self ..)
     rcases List.mem_cons.1 this with h|h
     ·exact absurd h e
     ·exact h
    exact hu y (List.mem_cons_of_mem _ hy) x (List.mem_cons_self ..) (hl.1 y hy) (hm.1 x hx)
  subst hyx
  rw [List.perm_cons] at hp
  rw [Uf hp hl.2 hm.2 fun a ha b hb=>hu a (List.mem_cons_of_mem _ ha) b (List.mem_cons_of_mem _ hb)]
end Go.Tk
end
section
namespace Go.Tk
open IntKind (i64 u8 u32 u64 wrap)
def W2 (h:Z7):Int:=match h.own with
 | true=>0
 | false=>1
def Z5V (a b:Int):Int:=if a<b then -1 else if b<a then 1 else 0
def cfH (a b:Z7):Int:=if Z5V (W2 a) (W2 b)≠0 then Z5V (W2 a) (W2 b) else Z5V a.id b.id
theorem Z9E (b:Bool) (x:Prop):Z0 b x x=x:=by cases b<;>rfl
theorem ZhX (p q:Z7) (r:Int) (hr:r=cfH p q):
  evF G0 20 71 [.agg p.c,.agg q.c] ⟨0,[]⟩ (YM (fun v=>v=.int .i64 r)):=by
 refine @Eq.mpr _ (let q1:=p.id;
 let q2:=q1 !=q1;
 let q3:=q.id;
 let q4:=q3 !=q3;
 let q5:=AV.int i64 r;
 let q6:=AV.int i64 0=q5;
 let q7:=AV.int i64 (-1)=q5;
 let q8:=AV.int i64 1=q5;
 let q9:=decide (q1<q3);
 let q10:=decide (q1>q3);
 let q11:=Z0 q2 (Z0 q4 q6 q7) (Z0 q4 q8 (Z0 q9 q7 (Z0 q10 q8 q6)));
 Z0 p.own (Z0 q.own q11 (Z0 q2 (Z0 q4 q7 q7) (Z0 q4 q7 (Z0 q9 q7 (Z0 q10 q7 q7))))) (Z0 q.own (Z0 q2 (Z0 q4 q8 q8) (Z0 q4 q8 (Z0 q9 q8 (Z0 q10 q8 q8)))) q11)) (by kernel_rfl) ?_
 conv=>zeta
 subst hr
 simp only [bne_self_eq_false,Z0B,Z9E]
 unfold cfH W2 Z5V
 simp only [Zbe]
 congr 1
 cases p.own<;>cases q.own<;>by_cases h1:p.id<q.id<;>by_cases h2:q.id<p.id<;>simp [h1,h2]
def ltH (a b:Z7):Bool:=Go.Proofs.ltOf cfH a b
theorem Z1r (a b:Z7):ltH a b=true↔W2 a<W2 b∨(W2 a=W2 b∧a.id<b.id):=by
 unfold ltH Go.Proofs.ltOf cfH Z5V
 rw [decide_eq_true_iff]
 split<;>split<;>(try split)<;>(try split)<;>omega
theorem Z0F (a b:Z7):ltH a b=false↔¬(W2 a<W2 b∨(W2 a=W2 b∧a.id<b.id)):=by
 rw [←Z1r,Bool.not_eq_true]
theorem Zdv:Go.Sort.SWO (Go.Proofs.ltOf cfH) where
 irrefl x:=by rw [show Go.Proofs.ltOf cfH x x=ltH x x from rfl,Z0F];omega
 trans x y z h1 h2:=by
  rw [show Go.Proofs.ltOf cfH x z=ltH x z from rfl,Z1r]
  have a:=(Z1r x y).1 h1
  have b:=(Z1r y z).1 h2
  omega
 ntrans x y z h1 h2:=by
  rw [show Go.Proofs.ltOf cfH x z=ltH x z from rfl,Z0F]
  have a:=(Z0F x y).1 h1
  have b:=(Z0F y z).1 h2
  omega
def Zdw (h:Z7):List Value:=.bool h.own::.int .i64 h.id::.int .i64 h.amount::(intCells .u8 32 h.hash++(.int .i64 h.expiry::.int .i64 h.stage::.int .i64 h.fin::(intCells .u8 32 h.secret++[])))
theorem Z2O (E:Env) (h:Z7):Zq E h.c (Zdw h):=
 .one _ _ _ _ rfl rfl (.bool _) (.one _ _ _ _ rfl rfl (.int _ _) (.one _ _ _ _ rfl rfl (.int _ _) (.arr _ _ _ _ _ (.one _ _ _ _ rfl rfl (.int _ _) (.one _ _ _ _ rfl rfl (.int _ _) (.one _ _ _ _ rfl rfl (.int _ _) (.arr _ _ _ _ _ .nil)))))))
theorem Zdx (E:Env) (h:Z7) (vs:List Value) (hc:Zq E h.c vs):vs=Zdw h:=by
 unfold Z7.c at hc
 obtain ⟨c1,w0,rfl,_,_,h1,k0⟩:=hc.cons_cell (by intros;simp)
 obtain ⟨c2,w1,rfl,_,_,h2,k1⟩:=k0.cons_cell (by intros;simp)
 obtain ⟨c3,w2,rfl,_,_,h3,k2⟩:=k1.cons_cell (by intros;simp)
 obtain ⟨w3,rfl,k3⟩:=k2.cons_arr
 obtain ⟨c4,w4,rfl,_,_,h4,k4⟩:=k3.cons_cell (by intros;simp)
 obtain ⟨c5,w5,rfl,_,_,h5,k5⟩:=k4.cons_cell (by intros;simp)
 obtain ⟨c6,w6,rfl,_,_,h6,k6⟩:=k5.cons_cell (by intros;simp)
 obtain ⟨w7,rfl,k7⟩:=k6.cons_arr
 cases k7
 cases h1;cases h2;cases h3;cases h4;cases h5;cases h6
 rfl
instance:Inhabited Z7:=⟨Zr⟩
theorem ZgI:∃(E:Env),True:=⟨⟨fun _=>none,fun _ _=>False⟩,trivial⟩
theorem Zbu (h:Z7):(Zdw h).length=70:=by
 obtain ⟨E,_⟩:=ZgI
 have:=(Z2O E h).length
 simpa [Z7.c,csz] using this
theorem Zbv (h:Z7):∀v∈Zdw h,v.oneCell'=true:=by
 obtain ⟨E,_⟩:=ZgI
 exact (Z2O E h).all_one
structure Xs (L L':List Z7) (n:Nat):Prop where
 hn:L.length=n
 pos:0<n
 lt:n<1000
 perm:L'.Perm L
 ord:Qr ltH L'
 uniq:∀a∈L',∀b∈L',ltH a b=false→ltH b a=false→a=b
theorem Zbw {L L':List Z7} {n lo:Nat} {f:Nat→List AV} (hf:∀i,i<n→f i=Z5 L i) (h:Xs L L' n):Spec PP 70 [.nslice ⟨0,0,70,0,0⟩ 70 n lo,.func (.func 71) [] []] ⟨1,[(0,.rows 70 n f)]⟩ (.ret (.tuple [])) 1 [(0,.rows 70 n (Z5 L'))]:=
 Z9C (L:=ZgH) (k:=70) Go.Proofs.Tryz.isAgg85 Go.Proofs.Tryz.sizeOf85 (c:=Z7.c) Zbu (by decide) Zbv Zdx Z2O Zdv (g:=71)
  (fun _ _=>Go.Proofs.enters_of Go.Proofs.Tryz.func71 (by kernel_rfl) rfl _ _) (fun x y=>ZI.evV ZB (ZhX x y _ rfl)) h.hn h.pos (by have:=h.lt;omega) hf (fun _ _=>rfl)
  (fun l' hp ho=>(Uf (lt:=ltH) (h.perm.trans hp.symm) h.ord ho h.uniq).symm)
def Z7u:YQ:=fun args h K=>match args with
 | [.nslice ⟨b,0,70,0,0⟩ 70 _ _,_]=>frA [b] h 20 args fun Bs a=>match Bs,a with
  | [.rows 70 n f],[.nslice ⟨0,0,70,0,0⟩ 70 n' _,.func (.func 71) [] []]=>∃L L',n'=n∧(∀i,i<n→f i=Z5 L i)∧Xs L L' n∧K (.ret (.tuple [])) ⟨h.next,(b,.rows 70 n (Z5 L'))::Xe h.bs b⟩
  | _,_=>False
 | _=>False
theorem Z9F (args:List AV) (h:Z6) (K:KO) (hl:Z7u args h K):Zn PP 70 args h K:=by
 unfold Z7u at hl
 split at hl
 ·refine Spec.fsumm hl fun Bs a hlen hK0=> ?_
  split at hK0
  ·obtain ⟨L,L',rfl,hf,hs,hK⟩:=hK0
   exact ⟨_,_,_,_,_,Zbw hf hs,Nat.le_refl _,.ret _ _ rfl,.cons _ _ _ _ _ _ rfl (.rows _ _ _ (fun i _=>X7 _ i)) .nil,hK⟩
  ·exact hK0.elim
 ·exact hl.elim
end Go.Tk
end
section
namespace Go.Tk
open IntKind (i64 u8 u32 u64 wrap)
theorem ZgJ (N:Nat) (L:List Z7) (hN:N+1<1000000):
  evF G0 20 69 [.vrows 70 (N+1) (Z5 L) (N+1)] ⟨0,[]⟩ (YS 0 (.ret (.nslice ⟨0,0,70,0,0⟩ 70 (N+1) (N+1))) 1 [(0,.rows 70 (N+1) (Z5 L))]):=by
 refine @Eq.mpr _ (let q1:=N+1;
 let q2:=0+q1;
 let q3:=decide (q2=q1);
 Z0 (decide (q2*112≤140737488355328)) (Z0 q3 (Z0 (decide (q1≤q2)) (Z0 q3 (Zd 0 [(0,0)] q1 (Z5 L) (Yc 0 (fun (x:Nat)=>[]) (Z5 L))∧True) False) False) False) False) (by kernel_rfl) ?_
 conv=>zeta
 try simp only [Zi]
 try simp only [Zj]
 try simp only [Zk]
 try simp only [Zl]
 try simp only [Zm]
 try simp only [Zh]
 try simp only [Int.toNat_natCast,Nat.zero_add,true_and,and_true,Nat.le_refl]
 repeat' apply And.intro
 all_goals first|omega|exact Zg fun i hi=>by rw [UC (Nat.zero_le _)];rfl
theorem ZgK (L:List Z7) :
  evF G0 20 69 [.nilslice] ⟨0,[]⟩ (YS 0 (.ret (.nslice ⟨0,0,70,0,0⟩ 70 0 0)) 1 [(0,.rows 70 0 (Z5 L))]):=by
 refine @Eq.mpr _ (True) (by kernel_rfl) ?_
 trivial
theorem ZgL (L:List Z7) :
  evF G0 20 69 [.fslice] ⟨0,[]⟩ (YS 0 (.ret (.nslice ⟨0,0,70,0,0⟩ 70 0 0)) 1 [(0,.rows 70 0 (Z5 L))]):=by
 refine @Eq.mpr _ (Zd 0 [(0,0)] 0 (Z5 L) (Yc 0 (fun (x:Nat)=>[]) fun (x:Nat)=>[])∧True) (by kernel_rfl) ?_
 try simp only [Zi]
 try simp only [Zj]
 try simp only [Zk]
 try simp only [Zl]
 try simp only [Zm]
 try simp only [Zh]
 try simp only [Int.toNat_natCast,Nat.zero_add,true_and,and_true,Nat.le_refl]
 first|exact Zg fun i hi=>by omega|exact ⟨Zg fun i hi=>by omega,trivial⟩
theorem Zbx (N:Nat) (L:List Z7) (hN:N<1000000):ZI PP 69 [.vrows 70 N (Z5 L) N] (.nslice ⟨0,0,70,0,0⟩ 70 N N) 1 [(0,.rows 70 N (Z5 L))]:=by
 cases N with
 | zero=>exact ZI.vrows0 (.evM ZB (ZgK L)) (.evM ZB (ZgL L))
 | succ n=>exact .evM ZB (ZgJ n L hN)
def ZfK:YQ:=fun args h K=>ZV none h true 20 args fun a=>match a with
 | [.vrows 70 n f m]=>∃L,m=n∧f=Z5 L∧n<1000000∧K (.ret (.nslice ⟨h.next,0,70,0,0⟩ 70 n n)) ⟨h.next+1,(h.next,.rows 70 n (Z5 L))::h.bs⟩
 | _=>False
theorem Z8p (args:List AV) (h:Z6) (K:KO) (hl:ZfK args h K):Zn PP 69 args h K:=by
 refine ZI.fsumm (d:=20) (Zu _ _ _ _ _ hl fun a ha=> ?_)
 split at ha
 ·obtain ⟨L,rfl,rfl,hN,hK⟩:=ha
  exact ⟨_,_,_,_,Zbx _ L hN,rfl,⟨Nat.one_pos,.rows _ _ _ (fun i _=>X7 _ i),trivial⟩,hK⟩
 ·exact ha.elim
end Go.Tk
end
