/- U: part 4 of an engine (a symbolic evaluator, proved against the model) and of the walk by it. -/
import Derived.Test.YtjahlbmhknicjaaGreatU3
import Derived.OpenShut
import Derived.WideShapes
import Derived.ChangeSlices
import Derived.WalkKit
import Derived.ProofKit
import Derived.Below
import Derived.Handed
import Derived.Carry
set_option linter.unusedVariables false
set_option linter.unusedSimpArgs false
set_option maxRecDepth 100000
set_option maxHeartbeats 0
section
namespace Go.Tk
open IntKind (i64 u8 u32 u64 wrap)
def YR (id n l:Nat) (go ex re jm:Nat→Prop) (En Rn Jn:Nat→St):KE→Prop:=fun X=>
 ∀i,i≤n→(∀j,j<i→go j)→(ex i→X (.exit id) (En i))∧(re i→X .ret (Rn i))∧(jm i→X (.goto l) (Jn i))
theorem Zi {p x:Prop} [Decidable p]:Z0 (decide p) x False=(p∧x):=by
 by_cases h:p
 ·rw [decide_eq_true h];simp [Z0,h]
 ·rw [decide_eq_false h];simp [Z0,h]
theorem Zj {p x:Prop} [Decidable p]:Z0 (decide p) False x=(¬p∧x):=by
 by_cases h:p
 ·rw [decide_eq_true h];simp [Z0,h]
 ·rw [decide_eq_false h];simp [Z0,h]
theorem Zg {p x y:Prop} [Decidable p]:Z0 (decide p) x y=((p→x)∧(¬p→y)):=by
 by_cases h:p
 ·rw [decide_eq_true h];simp [Z0,h]
 ·rw [decide_eq_false h];simp [Z0,h]
theorem Zk {b:Bool} {x:Prop}:Z0 b x False=(b=true∧x):=by cases b<;>simp [Z0]
theorem Zl {b:Bool} {x:Prop}:Z0 b False x=(b=false∧x):=by cases b<;>simp [Z0]
theorem Zh {b:Bool} {x y:Prop}:Z0 b x y=((b=true→x)∧(b=false→y)):=by cases b<;>simp [Z0]
theorem Z7U {k:Nat} {τ:Ren} {v:AV} (hp:v.plain=true) (hc:v.isCell=true) {Z:Prop} (hZ:Z):eqV k τ v v Z:=by
 cases v with
 | ptr p=>cases p<;>simp_all [AV.plain,eqV]
 | map r=>cases r<;>simp_all [AV.plain,eqV]
 | _=>simp_all [AV.plain,eqV,VQ,AV.isCell]
theorem Z2p {k:Nat} {τ:Ren}:∀{l:List AV},YU l=true→∀{Z:Prop},Z→(∀v∈l,v.isCell=true∨∃k n xs,v=.arr k n xs)→eqC k τ l l Z
 | [],_,Z,hZ,_=>by simp [eqC,hZ]
 | v::r,hp,Z,hZ,hc=>by
  simp only [YU,Bool.and_eq_true] at hp
  have hr:=Z2p (k:=k) (τ:=τ) hp.2 hZ (fun u hu=>hc u (List.mem_cons_of_mem _ hu))
  rcases hc v (by simp) with hv|⟨kk,n,xs,rfl⟩
  ·have hna:∀a b c,v≠.arr a b c:=fun a b c e=>by subst e;simp [AV.isCell] at hv
   cases v with
   | arr a b c=>exact absurd rfl (hna a b c)
   | agg cs=>simp [AV.isCell] at hv
   | tuple cs=>simp [AV.isCell] at hv
   | _=>simp only [eqC,hv,Bool.and_self];exact Z7U hp.1 hv hr
  ·unfold eqC
   simp [hr,Nat.beq_refl]
theorem Z7V {k:Nat} {τ:Ren} {n:Nat} {f f':Nat→List AV} (h:∀i,i<n→f' i=f i) (hp:∀i,i<n→YU (f i)=true) (hc:∀i,i<n→∀v∈f i,v.isCell=true∨∃k n xs,v=.arr k n xs):ZO k τ n f f':=
 ⟨fun i hi=>by rw [h i hi];exact Z2p (hp i hi) trivial (hc i hi)⟩
theorem Ze0 {a b:Nat} (h:a<b):Nat.blt a b=true:=by rw [Nat.blt_eq];exact h
theorem Ze1 {a b:Nat} (h:Nat.blt a b=true):a<b:=by rw [Nat.blt_eq] at h;exact h
theorem Z6K {n i:Nat} {f g:Nat→List AV} (h:i<n):Wd n f g i=f i:=by unfold Wd;rw [Ze0 h]
theorem Z3h {n i:Nat} {f g:Nat→List AV} (h:n≤i):Wd n f g i=g (i-n):=by
 unfold Wd
 have:Nat.blt i n=false:=by
  cases hq:Nat.blt i n with
  | false=>rfl
  | true=>have:=Ze1 hq;omega
 rw [this]
theorem Zy.vrows0 {P:Program} {f:FuncId} {esz:Nat} {g:Nat→List AV} {v:AV} {nx:Nat} {bs:List (Nat×Blk)} (h1:Zy P f [.nilslice] v nx bs) (h2:Zy P f [.fslice] v nx bs):Zy P f [.vrows esz 0 g 0] v nx bs:=by
 intro E w rs he hr
 cases hr with
 | cons v r vs rs hv ht=>cases ht with
  | nil=>cases hv with
   | vrowsNil esz n f len _ _=>exact h1 E w _ he (.cons _ _ _ _ .nilslice .nil)
   | vrows esz n f len a cap g _ _ _ _ _=>exact h2 E w _ he (.cons _ _ _ _ (.fslice a cap) .nil)
theorem Zy.vints0 {P:Program} {f:FuncId} {k:IntKind} {v:AV} {nx:Nat} {bs:List (Nat×Blk)} (h1:Zy P f [.nilslice] v nx bs) (h2:Zy P f [.fslice] v nx bs):Zy P f [.vints k [] 0] v nx bs:=by
 intro E w rs he hr
 cases hr with
 | cons v r vs rs hv ht=>cases ht with
  | nil=>cases hv with
   | vintsNil k xs len _ _=>exact h1 E w _ he (.cons _ _ _ _ .nilslice .nil)
   | vints k xs len a cap _ _ _=>exact h2 E w _ he (.cons _ _ _ _ (.fslice a cap) .nil)
end Go.Tk
namespace Go.Tk
open IntKind (i64 u8 u32 u64 wrap)
mutual
theorem UU {mv:Option Nat} {h:Z6}:∀(d:Nat) (t:Bool) (v:AV) (K K':AV→Prop),VF mv h t d v K→(∀a,K a→K' a)→VF mv h t d v K'
 | 0,t,v,K,K',hl,hK=>by unfold VF at hl;exact hl.elim
 | d+1,t,v,K,K',hl,hK=>by
  unfold VF at hl⊢
  split at hl
  all_goals try exact hK _ hl
  all_goals try exact hl.elim
  ·split at hl
   ·split at hl
    ·exact hl.elim
    ·exact hK _ hl
   ·split at hl
    ·split at hl
     ·exact Xp _ _ _ _ _ hl fun _ h=>hK _ h
     ·exact hl.elim
    ·split at hl
     ·obtain ⟨h1,h2⟩:=Z8 hl
      refine VQ h1 ?_
      split at h2
      ·exact Xp _ _ _ _ _ h2 fun _ h=>hK _ h
      ·exact h2.elim
     ·exact hl.elim
    ·exact hl.elim
  ·split at hl
   ·split at hl
    ·exact hl.elim
    ·exact hK _ hl
   ·split at hl
    ·split at hl
     ·obtain ⟨h1,h2⟩:=Z8 hl
      exact VQ h1 (hK _ h2)
     ·exact hl.elim
    ·split at hl
     ·obtain ⟨h1,h2,h3⟩:=Z8 hl
      exact VQ h1 ⟨h2,hK _ h3⟩
     ·exact hl.elim
    ·split at hl
     ·split at hl
      ·split at hl
       ·split at hl
        ·obtain ⟨h1,h2⟩:=Z8 hl
         exact VQ h1 (hK _ h2)
        ·obtain ⟨h1,h2⟩:=Z8 hl
         exact VQ h1 (hK _ h2)
        ·exact hl.elim
       ·exact hl.elim
      ·split at hl
       ·refine Xp _ _ _ _ _ hl fun _ h=> ?_
        split at h
        ·exact hK _ h
        ·exact h.elim
       ·exact hl.elim
     ·exact hl.elim
    ·exact hl.elim
  ·exact Zs _ _ _ _ _ hl fun _ h=>Zs _ _ _ _ _ h fun _ h=>hK _ h
  ·exact UU _ _ _ _ _ hl fun _ h=>hK _ h
  ·exact Xp _ _ _ _ _ hl fun _ h=>hK _ h
  ·exact Zs _ _ _ _ _ hl fun _ h=>hK _ h
theorem Xp {mv:Option Nat} {h:Z6}:∀(d:Nat) (t:Bool) (l:List AV) (K K':List AV→Prop),WO mv h t d l K→(∀a,K a→K' a)→WO mv h t d l K'
 | 0,t,l,K,K',hl,hK=>by unfold WO at hl;exact hl.elim
 | d+1,t,l,K,K',hl,hK=>by
  unfold WO at hl⊢
  split at hl
  ·exact hK _ hl
  ·exact Xp _ _ _ _ _ hl fun _ h=>hK _ h
  ·refine UU _ _ _ _ _ hl fun _ h=> ?_
   split at h
   ·exact Xp _ _ _ _ _ h fun _ h=>hK _ h
   ·exact h.elim
theorem Zs {mv:Option Nat} {h:Z6}:∀(d:Nat) (t:Bool) (l:List AV) (K K':List AV→Prop),ZI mv h t d l K→(∀a,K a→K' a)→ZI mv h t d l K'
 | 0,t,l,K,K',hl,hK=>by unfold ZI at hl;exact hl.elim
 | d+1,t,l,K,K',hl,hK=>by
  unfold ZI at hl⊢
  split at hl
  ·exact hK _ hl
  ·exact UU _ _ _ _ _ hl fun _ h=>Zs _ _ _ _ _ h fun _ h=>hK _ h
end
end Go.Tk
end
section
namespace Go.Tk
open IntKind (i64 u8 u32 u64 wrap)
def Ze2 (g:Nat→InS):Nat→List AV:=fun q=>(g q).c
def ZbJ (g:Nat→Z1W):Nat→List AV:=fun q=>(g q).c
end Go.Tk
end
section
namespace Go.Tk
open IntKind (i64 u8 u32 u64 wrap)
end Go.Tk
end
section
namespace Go.Tk
open IntKind (i64 u8 u32 u64 wrap)
end Go.Tk
end
section
namespace Go.Tk
open IntKind (i64 u8 u32 u64 wrap)
end Go.Tk
end
section
namespace Go.Tk
open IntKind (i64 u8 u32 u64 wrap)
end Go.Tk
end
section
namespace Go.Tk
open IntKind (i64 u8 u32 u64 wrap)
theorem Zb.rowsC {E:Env} {esz n:Nat} {f f':Nat→List AV} {r:Value} (h:Zb E (.vrows esz n f n) r) (hf:∀i,i<n→f i=f' i):Zb E (.vrows esz n f' n) r:=by
 cases h with
 | vrowsNil esz n f len h1 h2=>exact .vrowsNil _ _ _ _ h1 h2
 | vrows esz n f len a cap g h1 h2 hc hl hi=>exact .vrows _ _ _ _ a cap g h1 h2 (fun i h=>by rw [←hf i h];exact hc i h) hl hi
structure TxS where
 num:Int
 N:Nat
 ins:Nat→InS
 M:Nat
 outs:Nat→Z1W
def TxS.c (t:TxS):List AV:=[.int .i64 t.num,.vrows 130 t.N (Ze2 t.ins) t.N,.vrows 132 t.M (ZbJ t.outs) t.M]
structure TxS.Ok (t:TxS):Prop where
 n:t.N<900000000000
 m:t.M<900000000000
 ins:∀i,i<t.N→(t.ins i).Ok
 outs:∀i,i<t.M→(t.outs i).Ok
theorem Zy.conv {P:Program} {f:FuncId} {args args₀:List AV} {v:AV} {nx:Nat} {bs:List (Nat×Blk)} (h:Zy P f args₀ v nx bs) (hc:∀E r,ZA E args r→ZA E args₀ r):Zy P f args v nx bs:=
 fun E w rs he hr=>h E w rs he (hc E rs hr)
theorem ZA.head {E:Env} {v v':AV} {r l:List AV} {rs:List Value} (h:ZA E (v::l) rs) (hv:∀c,Zb E v c→Zb E v' c) (ht:∀cs,ZA E l cs→ZA E r cs):ZA E (v'::r) rs:=by
 cases h with
 | cons v c vs cs h t=>exact .cons _ _ _ _ (hv c h) (ht cs t)
end Go.Tk
end
section
namespace Go.Tk
open IntKind (i64 u8 u32 u64 wrap)
def Z9z (k:Nat) (τ:Ren) (y x:Nat):Ren:=match Nat.blt y k with
 | true=>τ
 | false=>match Z5t τ y with
  | some _=>τ
  | none=>(y,x)::τ
mutual
def Ze3 (k:Nat) (τ:Ren):AV→AV→Ren
 | .ptr (some q),v=>match v with|.ptr (some p)=>Z9z k τ q.blk p.blk|_=>τ
 | .nslice q _ _ _,v=>match v with|.nslice p _ _ _=>Z9z k τ q.blk p.blk|_=>τ
 | .map (some y),v=>match v with|.map (some x)=>Z9z k τ y x|_=>τ
 | .yield y,v=>match v with|.yield x=>Z9z k τ y x|_=>τ
 | .func _ fs cs,v=>match v with|.func _ fs' cs'=>Z3i k (Z3i k τ fs fs') cs cs'|_=>τ
 | .iface _ u,v=>match v with|.iface _ u'=>Ze3 k τ u u'|_=>τ
 | .agg cs,v=>match v with|.agg cs'=>Z3i k τ cs cs'|_=>τ
 | .tuple cs,v=>match v with|.tuple cs'=>Z3i k τ cs cs'|_=>τ
 | _,_=>τ
def Z3i (k:Nat) (τ:Ren):List AV→List AV→Ren
 | [],_=>τ
 | v::r,l=>match l with|v'::r'=>Z3i k (Ze3 k τ v v') r r'|[]=>τ
end
def ZgR (k:Nat) (τ:Ren):Blk→Blk→Ren
 | .flat cs,B=>match B with|.flat cs'=>Z3i k τ cs cs'|_=>τ
 | .map es,B=>match B with|.map es'=>Z3i k (Z3i k τ (es.map (·.1)) (es'.map (·.1))) (es.map (·.2)) (es'.map (·.2))|_=>τ
 | _,_=>τ
def Zfh (k:Nat) (t:ZU):ZU→Ren→Ren
 | [],τ=>τ
 | (x,v)::r,τ=>Zfh k t r (match ZH t x with|some u=>Ze3 k τ v u|none=>τ)
def Ze4 (k:Nat):List Vo→List Vo→Ren→Ren
 | .call _ a::r,l,τ=>match l with|.call _ b::r'=>Ze4 k r r' (Z3i k τ a b)|_=>τ
 | .mark y::r,l,τ=>match l with|.mark x::r'=>Ze4 k r r' (Z9z k τ y x)|_=>τ
 | [],_,τ=>τ
def ZbK (k:Nat) (bs:List (Nat×Blk)):List (Nat×Blk)→Ren→Ren
 | [],τ=>τ
 | (y,B)::r,τ=>ZbK k bs r (match rn k τ y with
  | some x=>match ZC bs x with|some C=>ZgR k τ B C|none=>τ
  | none=>τ)
def ZgS (k:Nat) (s₂ s:St):Ren:=ZbK k s.h.bs s₂.h.bs (ZbK k s.h.bs s₂.h.bs (ZbK k s.h.bs s₂.h.bs (Ze4 k s₂.d s.d (Zfh k s.t s₂.t []))))
def Xj (k:Nat) (s₂ s:St) (Z:Prop):Prop:=VE k (ZgS k s₂ s) s₂ s Z
theorem Ye {k:Nat} {s₂ s:St} {Z:Prop} (hl:Xj k s₂ s Z):Z∧V9 k s s₂:=Xc hl
def Ya (k:Nat) (o:Out) (nx:Nat) (bs:List (Nat×Blk)):KO:=fun o' h=>match o with
 | .ret v=>match o' with
  | .ret u=>Xj k ⟨1,[(0,v)],⟨nx,bs⟩,[]⟩ ⟨1,[(0,u)],h,[]⟩ True
  | .panic _=>False
 | .panic v=>match o' with
  | .panic u=>Xj k ⟨1,[(0,v)],⟨nx,bs⟩,[]⟩ ⟨1,[(0,u)],h,[]⟩ True
  | .ret _=>False
theorem Spec.evM {G:Zd} (hG:G.Ok) {n:Nat} {f:FuncId} {args:List AV} {h0:Z6} {o:Out} {nx:Nat} {bs:List (Nat×Blk)} (h:evF G n f args h0 (Ya h0.next o nx bs)):Spec G.P f args h0 o nx bs:=by
 intro E w rs he hl
 refine (UG hG h E w rs he hl).mono ?_
 rintro e w' ⟨E',o',h',hK,hev,hor⟩
 unfold Ya at hK
 cases o with
 | ret v=>
  cases hor with
  | ret u r hr=>
   obtain ⟨E₂,h1,h2⟩:=Z0i rfl hK he hev hr
   exact ⟨E₂,h1,.ret _ _ h2⟩
  | panic u r hr=>exact hK.elim
 | panic v=>
  cases hor with
  | panic u r hr=>
   obtain ⟨E₂,h1,h2⟩:=Z0i rfl hK he hev hr
   exact ⟨E₂,h1,.panic _ _ h2⟩
  | ret u r hr=>exact hK.elim
theorem Spec.pure {P:Program} {f:FuncId} {args:List AV} {v:AV} {nx:Nat} {bs:List (Nat×Blk)} (h:Spec P f args ⟨0,[]⟩ (.ret v) nx bs):Zy P f args v nx bs:=by
 intro E w rs he hl
 refine (h E w rs he hl).mono ?_
 rintro e w' ⟨E',hev,hor⟩
 cases hor with
 | ret v r hr=>exact ⟨E',r,rfl,hev,hr⟩
theorem Zy.evM {G:Zd} (hG:G.Ok) {n:Nat} {f:FuncId} {args:List AV} {v:AV} {nx:Nat} {bs:List (Nat×Blk)} (h:evF G n f args ⟨0,[]⟩ (Ya 0 (.ret v) nx bs)):Zy G.P f args v nx bs:=(Spec.evM hG h).pure
def goM (k:Nat) (S0:St) (C:Prop) (ends:KE→Prop):Nat→St→KE→Prop:=fun k' s X=>match Nat.beq k' k with
 | true=>Xj k S0 s (C∧ends X)
 | false=>False
def rdM (k id l:Nat) (S1 En Rn Jn:St) (go ex re jm:Prop):KE:=fun e s=>match e with
 | .normal=>Xj k S1 s go
 | .exit x=>(match Nat.beq x id with|true=>Xj k En s ex|false=>False)
 | .ret=>Xj k Rn s re
 | .goto x=>(match Nat.beq x l with|true=>Xj k Jn s jm|false=>False)
 | .panic _=>False
theorem Zd.withGoM {G:Zd} (hG:G.Ok) {f:FuncId} {id k N n l:Nat} {S En Rn Jn:Nat→St} {S0:St} {C:Prop} {go ex re jm:Nat→Prop} (h1:Xt G.P f id=true) (hC:C→S 0=S0∧
   ∀i,i≤n→(∀j,j<i→go j)→ZD G N f id k (S i) (rdM k id l (S (i+1)) (En i) (Rn i) (Jn i) (go i∧i<n) (ex i) (re i) (jm i))):
  (G.withL f id (goM k S0 C (YR id n l go ex re jm En Rn Jn))).Ok:=by
 refine Zd.withL_ok hG h1 ?_
 intro k' s X hl
 unfold goM at hl
 split at hl
 ·rename_i hk
  have:=Nat.eq_of_beq_eq_true hk
  subst this
  obtain ⟨⟨hc,hX⟩,hw⟩:=Ye hl
  obtain ⟨e0,hr⟩:=hC hc
  refine ⟨{ t:Nat//t≤n∧∀j,j<t→go j},fun t=>n-t.1,fun t=>S t.1,⟨0,Nat.zero_le _,fun j hj=>by omega⟩,N,by show V9 k' s (S 0);rw [e0];exact hw, ?_⟩
  rintro ⟨t,ht,hgo⟩
  refine ⟨_,hr t ht hgo, ?_⟩
  intro e s' hY
  unfold rdM at hY
  split at hY
  ·obtain ⟨⟨hg,hlt⟩,hw'⟩:=Ye hY
   refine ⟨⟨t+1,hlt,fun j hj=> ?_⟩,by show n-(t+1)<n-t;omega,hw'⟩
   by_cases hjt:j=t
   ·rw [hjt];exact hg
   ·exact hgo j (by omega)
  ·split at hY
   ·rename_i hi
    have:=Nat.eq_of_beq_eq_true hi
    subst this
    obtain ⟨hex,hw'⟩:=Ye hY
    exact ⟨_,hw',(hX t ht hgo).1 hex⟩
   ·exact hY.elim
  ·obtain ⟨hre,hw'⟩:=Ye hY
   exact ⟨_,hw',(hX t ht hgo).2.1 hre⟩
  ·split at hY
   ·rename_i hi
    have:=Nat.eq_of_beq_eq_true hi
    subst this
    obtain ⟨hjm,hw'⟩:=Ye hY
    exact ⟨_,hw',(hX t ht hgo).2.2 hjm⟩
   ·exact hY.elim
  ·exact hY.elim
 ·exact hl.elim
end Go.Tk
namespace Go.Tk
open IntKind (i64 u8 u32 u64 wrap)
theorem Zd.withL_join {G H:Zd} (hG:G.Ok) (hP:G.P=H.P) {f:FuncId} {id:Nat} {S:Nat→St→KE→Prop} (h:(H.withL f id S).Ok):(G.withL f id S).Ok where
 draw:=hG.draw
 psumm:=hG.psumm
 fsumm:=hG.fsumm
 lsumm:=fun f' id' S' fn c body hS hf hb hm k s X hs=>by
  have hS0:=hS
  simp only [Zd.withL] at hS
  split at hS
  ·have:=h.lsumm f' id' S' fn c body
   simp only [Zd.withL] at this
   rename_i hq
   rw [hq] at this
   have:=this hS (hP▸hf) hb hm k s X hs
   rw [←hP] at this
   exact this
  ·exact hG.lsumm f' id' S' fn c body hS hf hb hm k s X hs
end Go.Tk
end
section
namespace Go.Tk
open IntKind (i64 u8 u32 u64 wrap)
def b8 (n k:Int):Int:=u8.wrap (Zr .i64 n k)
@[irreducible] def Zn (n:Int):List Int:=
 if n<253 then [u8.wrap n] else if n<65536 then [253,b8 n 8,b8 n 0] else if n<4294967296 then [254,b8 n 24,b8 n 16,b8 n 8,b8 n 0]
 else [255,b8 n 56,b8 n 48,b8 n 40,b8 n 32,b8 n 24,b8 n 16,b8 n 8,b8 n 0]
theorem ZK (n:Int):1≤(Zn n).length∧(Zn n).length≤9:=by
 unfold Zn
 split
 ·simp
 ·split
  ·simp
  ·split<;>simp
theorem Z6L {n:Int} (h:n<253):Zn n=[u8.wrap n]:=by unfold Zn;rw [if_pos h]
theorem Z9A {n:Int} (h:¬n<253) (h2:n<65536):Zn n=[253,b8 n 8,b8 n 0]:=by unfold Zn;rw [if_neg h,if_pos h2]
theorem Z9B {n:Int} (h:¬n<253) (h2:¬n<65536) (h3:n<4294967296):Zn n=[254,b8 n 24,b8 n 16,b8 n 8,b8 n 0]:=by unfold Zn;rw [if_neg h,if_neg h2,if_pos h3]
theorem Z9C {n:Int} (h:¬n<253) (h2:¬n<65536) (h3:¬n<4294967296):Zn n=[255,b8 n 56,b8 n 48,b8 n 40,b8 n 32,b8 n 24,b8 n 16,b8 n 8,b8 n 0]:=by unfold Zn;rw [if_neg h,if_neg h2,if_neg h3]
theorem Zfi (xs ys:List Int) (N L s lo:Nat) (n:Int) (hN:xs.length=N) (hB:N<90000000000000) (hy:ys=Zn n) (hL:L=(xs++ys).length):
  evF G0 20 127 [.nslice ⟨0,0,s,0,0⟩ 1 N lo,.int .i64 n] ⟨1,[(0,.ints .u8 xs)]⟩ (Ya 1 (.ret (.nslice ⟨1,0,0,0,0⟩ 1 L L)) 2 [(1,.ints .u8 (xs++ys))]):=by
 refine @Eq.mpr _ (let q1:=decide (u8=u8∧List.length xs=N);
 let q2:=xs++[wrap u8 n];
 let q3:=List.length q2;
 let q4:=xs++ys;
 let q5:=xs++[(253:Int)];
 let q6:=List.length q5;
 let q7:=[wrap u8 (Zr i64 n 8)];
 let q8:=q5++q7;
 let q9:=List.length q8;
 let q10:=[wrap u8 (Zr i64 n 0)];
 let q11:=q8++q10;
 let q12:=List.length q11;
 let q13:=xs++[(254:Int)];
 let q14:=List.length q13;
 let q15:=[wrap u8 (Zr i64 n 24)];
 let q16:=q13++q15;
 let q17:=List.length q16;
 let q18:=[wrap u8 (Zr i64 n 16)];
 let q19:=q16++q18;
 let q20:=List.length q19;
 let q21:=q19++q7;
 let q22:=List.length q21;
 let q23:=q21++q10;
 let q24:=List.length q23;
 let q25:=xs++[(255:Int)];
 let q26:=List.length q25;
 let q27:=q25++[wrap u8 (Zr i64 n 56)];
 let q28:=List.length q27;
 let q29:=q27++[wrap u8 (Zr i64 n 48)];
 let q30:=List.length q29;
 let q31:=q29++[wrap u8 (Zr i64 n 40)];
 let q32:=List.length q31;
 let q33:=q31++[wrap u8 (Zr i64 n 32)];
 let q34:=List.length q33;
 let q35:=q33++q15;
 let q36:=List.length q35;
 let q37:=q35++q18;
 let q38:=List.length q37;
 let q39:=q37++q7;
 let q40:=List.length q39;
 let q41:=q39++q10;
 let q42:=List.length q41;
 Z0 (decide (n<253)) (Z0 q1 (Z0 (decide (q3*1≤140737488355328)) (Z0 (decide (q3=L)) (Z0 (decide (L≤q3)) (q2=q4∧True) False) False) False) False)
 (Z0 (decide (n<65536)) (Z0 q1 (Z0 (decide (q6*1≤140737488355328)) (Z0 (decide (u8=u8∧q6=q6)) (Z0 (decide (q9*1≤140737488355328)) (Z0 (decide (u8=u8∧q9=q9)) (Z0 (decide (q12*1≤140737488355328)) (Z0 (decide (q12=L)) (Z0 (decide (L≤q12)) (q11=q4∧True) False) False) False) False) False) False) False) False)
 (Z0 (decide (n<4294967296)) (Z0 q1 (Z0 (decide (q14*1≤140737488355328)) (Z0 (decide (u8=u8∧q14=q14)) (Z0 (decide (q17*1≤140737488355328)) (Z0 (decide (u8=u8∧q17=q17)) (Z0 (decide (q20*1≤140737488355328)) (Z0 (decide (u8=u8∧q20=q20)) (Z0 (decide (q22*1≤140737488355328)) (Z0 (decide (u8=u8∧q22=q22)) (Z0 (decide (q24*1≤140737488355328)) (Z0 (decide (q24=L)) (Z0 (decide (L≤q24)) (q23=q4∧True) False) False) False) False) False) False) False) False) False) False) False) False)
 (Z0 q1
 (Z0 (decide (q26*1≤140737488355328))
 (Z0 (decide (u8=u8∧q26=q26)) (Z0 (decide (q28*1≤140737488355328)) (Z0 (decide (u8=u8∧q28=q28)) (Z0 (decide (q30*1≤140737488355328)) (Z0 (decide (u8=u8∧q30=q30)) (Z0 (decide (q32*1≤140737488355328)) (Z0 (decide (u8=u8∧q32=q32)) (Z0 (decide (q34*1≤140737488355328)) (Z0 (decide (u8=u8∧q34=q34)) (Z0 (decide (q36*1≤140737488355328)) (Z0 (decide (u8=u8∧q36=q36)) (Z0 (decide (q38*1≤140737488355328)) (Z0 (decide (u8=u8∧q38=q38)) (Z0 (decide (q40*1≤140737488355328)) (Z0 (decide (u8=u8∧q40=q40)) (Z0 (decide (q42*1≤140737488355328)) (Z0 (decide (q42=L)) (Z0 (decide (L≤q42)) (q41=q4∧True) False) False) False) False) False) False) False) False) False) False) False) False) False) False) False) False) False) False) False)
 False)))) (by kernel_rfl) ?_
 conv=>zeta
 try simp only [Zi]
 try simp only [Zg]
 try simp only [Zh]
 try simp only [Int.toNat_natCast,Nat.zero_add,true_and,and_true,Nat.le_refl]
 subst hy hL hN
 refine ⟨fun h1=> ?_,fun h1=>⟨fun h2=> ?_,fun h2=>⟨fun h3=> ?_,fun h3=> ?_⟩⟩⟩
 ·rw [Z6L h1]
  simp only [List.length_append,List.length_cons,List.length_nil]
  and_intros<;>first|trivial|omega
 ·rw [Z9A h1 h2]
  simp only [List.length_append,List.length_cons,List.length_nil]
  and_intros<;>first|trivial|omega|simp [b8]
 ·rw [Z9B h1 h2 h3]
  simp only [List.length_append,List.length_cons,List.length_nil]
  and_intros<;>first|trivial|omega|simp [b8]
 ·rw [Z9C h1 h2 h3]
  simp only [List.length_append,List.length_cons,List.length_nil]
  and_intros<;>first|trivial|omega|simp [b8]
theorem Zfj (ys:List Int) (L:Nat) (n:Int) (hy:ys=Zn n) (hL:L=ys.length):
  evF G0 20 127 [.nilslice,.int .i64 n] ⟨0,[]⟩ (Ya 0 (.ret (.nslice ⟨0,0,0,0,0⟩ 1 L L)) 1 [(0,.ints .u8 ys)]):=by
 refine @Eq.mpr _ (let q1:=[wrap u8 (Zr i64 n 8),wrap u8 (Zr i64 n 0)];
 let q2:=wrap u8 (Zr i64 n 24)::wrap u8 (Zr i64 n 16)::q1;
 Z0 (decide (n<253)) (Z0 (decide (1=L)) (Z0 (decide (L≤1)) ([wrap u8 n]=ys∧True) False) False) (Z0 (decide (n<65536)) (Z0 (decide (3=L)) (Z0 (decide (L≤3)) ((253:Int)::q1=ys∧True) False) False) (Z0 (decide (n<4294967296)) (Z0 (decide (5=L)) (Z0 (decide (L≤5)) ((254:Int)::q2=ys∧True) False) False) (Z0 (decide (9=L)) (Z0 (decide (L≤9)) ((255:Int)::wrap u8 (Zr i64 n 56)::wrap u8 (Zr i64 n 48)::wrap u8 (Zr i64 n 40)::wrap u8 (Zr i64 n 32)::q2=ys∧True) False) False)))) (by kernel_rfl) ?_
 conv=>zeta
 try simp only [Zi]
 try simp only [Zg]
 try simp only [Zh]
 try simp only [Int.toNat_natCast,Nat.zero_add,true_and,and_true,Nat.le_refl]
 subst hy hL
 refine ⟨fun h1=> ?_,fun h1=>⟨fun h2=> ?_,fun h2=>⟨fun h3=> ?_,fun h3=> ?_⟩⟩⟩
 ·rw [Z6L h1];simp
 ·rw [Z9A h1 h2];simp [b8]
 ·rw [Z9B h1 h2 h3];simp [b8]
 ·rw [Z9C h1 h2 h3];simp [b8]
def Ze5 (W:Int→List Int):Yn:=fun args h K=>match args with
 | [.nslice ⟨b,0,_,0,0⟩ 1 _ _,.int .i64 _]=>frA [b] h 20 args fun Bs a=>match Bs,a with
  | [.ints .u8 xs],[.nslice ⟨0,0,_,0,0⟩ 1 len _,.int .i64 n]=>Zt (xs.length=len∧len<90000000000000) (K (.ret (.nslice ⟨h.next,0,0,0,0⟩ 1 (xs++W n).length (xs++W n).length)) ⟨h.next+1,(h.next,.ints .u8 (xs++W n))::YT h.bs b⟩)
  | _,_=>False
 | [.nilslice,.int .i64 n]=>K (.ret (.nslice ⟨h.next,0,0,0,0⟩ 1 (W n).length (W n).length)) ⟨h.next+1,(h.next,.ints .u8 (W n))::h.bs⟩
 | _=>False
theorem ZbL (args:List AV) (h:Z6) (K:KO) (hl:Ze5 Zn args h K):Zm PP 127 args h K:=by
 unfold Ze5 at hl
 split at hl
 ·refine Spec.fsumm hl fun Bs a hlen hK0=> ?_
  split at hK0
  ·obtain ⟨⟨h1,h2⟩,hK⟩:=Z8 hK0
   exact ⟨_,_,_,_,_,.evM Zu (Zfi _ _ _ _ _ _ _ h1 h2 rfl rfl),by simp,.ret _ _ rfl,.cons _ _ _ _ _ _ rfl (.ints _ _) .nil,hK⟩
  ·exact hK0.elim
 ·exact (Zy.evM Zu (Zfj _ _ _ rfl rfl)).calls (fun E w rs he hr=>by
   cases hr with
   | cons v r vs rs h1 h2=>cases h2 with
    | cons v r vs rs h2 h3=>cases h3;exact .cons _ _ _ _ (h1.plain rfl) (.cons _ _ _ _ (h2.plain rfl) .nil)) rfl ⟨Nat.one_pos,.ints _ _,trivial⟩ hl
 ·exact hl.elim
theorem Z9D (x:Int) (xs:List Int) (N:Nat) (hN:(x::xs).length=N) (hB:N<90000000000000):
  evF G0 20 113 [.vints .u8 (x::xs) N] ⟨0,[]⟩ (Ya 0 (.ret (.nslice ⟨0,0,0,0,0⟩ 1 N N)) 1 [(0,.ints .u8 (x::xs))]):=by
 refine @Eq.mpr _ (let q1:=[]++List.take N (x::xs);
 let q2:=List.length q1;
 Z0 (decide (q2*1≤140737488355328)) (Z0 (decide (q2=N)) (Z0 (decide (N≤q2)) (q1=x::xs∧True) False) False) False) (by kernel_rfl) ?_
 conv=>zeta
 try simp only [Zi]
 try simp only [Zj]
 try simp only [Zg]
 try simp only [Zk]
 try simp only [Zl]
 try simp only [Zh]
 try simp only [Int.toNat_natCast,Nat.zero_add,true_and,and_true,Nat.le_refl]
 subst hN
 simp only [List.nil_append,List.take_length]
 and_intros<;>first|trivial|omega
theorem Z9E (u:Unit) :
  evF G0 20 113 [.nilslice] ⟨0,[]⟩ (Ya 0 (.ret (.nslice ⟨0,0,0,0,0⟩ 1 0 0)) 1 [(0,.ints .u8 [])]):=by
 refine @Eq.mpr _ (([]:List Int)=[]∧True) (by kernel_rfl) ?_
 trivial
theorem Z9F (u:Unit) :
  evF G0 20 113 [.fslice] ⟨0,[]⟩ (Ya 0 (.ret (.nslice ⟨0,0,0,0,0⟩ 1 0 0)) 1 [(0,.ints .u8 [])]):=by
 refine @Eq.mpr _ (([]:List Int)=[]∧True) (by kernel_rfl) ?_
 trivial
theorem Z4h (xs:List Int) (N:Nat) (hN:xs.length=N) (hB:N<90000000000000):Zy PP 113 [.vints .u8 xs N] (.nslice ⟨0,0,0,0,0⟩ 1 N N) 1 [(0,.ints .u8 xs)]:=by
 cases xs with
 | nil=>subst hN;exact Zy.vints0 (.evM Zu (Z9E ())) (.evM Zu (Z9F ()))
 | cons x r=>exact .evM Zu (Z9D x r N hN hB)
def Z3j:Yn:=fun args h K=>ZI none h true 20 args fun a=>match a with
 | [.vints .u8 xs n]=>Zt (xs.length=n∧n<90000000000000) (K (.ret (.nslice ⟨h.next,0,0,0,0⟩ 1 n n)) ⟨h.next+1,(h.next,.ints .u8 xs)::h.bs⟩)
 | _=>False
theorem Z1l (args:List AV) (h:Z6) (K:KO) (hl:Z3j args h K):Zm PP 113 args h K:=by
 refine Zy.fsumm (d:=20) (Zs _ _ _ _ _ hl fun a ha=> ?_)
 split at ha
 ·obtain ⟨⟨h1,h2⟩,hK⟩:=Z8 ha
  exact ⟨_,_,_,_,Z4h _ _ h1 h2,rfl,⟨Nat.one_pos,.ints _ _,trivial⟩,hK⟩
 ·exact ha.elim
end Go.Tk
end
section
namespace Go.Tk
open IntKind (i64 u8 u32 u64 wrap)
theorem Spec.conv {P:Program} {f:FuncId} {args args₀:List AV} {h0:Z6} {o:Out} {nx:Nat} {bs:List (Nat×Blk)} (h:Spec P f args₀ h0 o nx bs) (hc:∀E r,ZA E args r→ZA E args₀ r):Spec P f args h0 o nx bs:=
 fun E w rs he hr=>h E w rs he (hc E rs hr)
noncomputable def Z7W (W:Int→List Int):Zd:=G0.withF 127 (Ze5 W)
theorem Qf:(Z7W Zn).Ok:=Zd.withF_ok Zu ZbL
theorem ZbM (xs hh ys:List Int) (N L lo:Nat) (hN:xs.length=N) (hB:N<90000000000000) (hq:hh.length=32) (hy:ys=xs++hh) (hL:L=ys.length):
  evF G0 20 64 [.ptr (some ⟨0,0,0,0,0⟩),.vrows 32 1 (fun _=>[.arr .u8 32 hh]) 1] ⟨2,[(0,.flat [.nslice ⟨1,0,0,0,0⟩ 1 N lo,.bool true]),(1,.ints .u8 xs)]⟩ (Ya 2 (.ret (.int .i64 0)) 3 [(0,.flat [.nslice ⟨2,0,0,0,0⟩ 1 L L,.bool true]),(2,.ints .u8 ys)]):=by
 refine @Eq.mpr _ (let q1:=xs++hh;
 let q2:=List.length q1;
 Z0 (decide (u8=u8∧List.length hh=32)) (Z0 (decide (u8=u8∧List.length xs=N)) (Z0 (decide (q2*1≤140737488355328)) (Z0 (decide (q2=L)) (Z0 (decide (L≤q2)) (q1=ys∧True) False) False) False) False) False) (by kernel_rfl) ?_
 conv=>zeta
 try simp only [Zi]
 try simp only [Zj]
 try simp only [Zg]
 try simp only [Zk]
 try simp only [Zl]
 try simp only [Zh]
 try simp only [Int.toNat_natCast,Nat.zero_add,true_and,and_true,Nat.le_refl]
 subst hN hy hL
 refine ⟨hq,rfl, ?_⟩
 simp only [List.length_append]
 and_intros<;>first|trivial|omega
end Go.Tk
end
section
namespace Go.Tk
open IntKind (i64 u8 u32 u64 wrap)
end Go.Tk
end
section
namespace Go.Tk
open IntKind (i64 u8 u32 u64 wrap)
end Go.Tk
end
section
namespace Go.Tk
open IntKind (i64 u8 u32 u64 wrap)
end Go.Tk
end
section
namespace Go.Tk
open IntKind (i64 u8 u32 u64 wrap)
end Go.Tk
end
section
namespace Go.Tk
open IntKind (i64 u8 u32 u64 wrap)
def QW (n c:Int):Int:=bOr .i64 (Zz .i64 n 8) c
theorem Ze6:Zz .i64 0 8=0:=by decide
def goN:Nat→List Int→Nat→Int→Option Int
 | 0,_,_,n=>some n
 | m+1,xs,k,n=>if n>36028797018963968 then none else goN m xs (k+1) (QW n (i64.wrap (xs.getD k 0)))
def Yz (c:Int):Nat:=if c=253 then 2 else if c=254 then 4 else if c=255 then 8 else 0
@[irreducible] def Ze (W:Int→List Int) (xs:List Int):Int×Int:=
 if xs.length=0 then (0,0)
 else if Yz (xs.getD 0 0)=0 then (i64.wrap (xs.getD 0 0),1)
 else if xs.length≤Yz (xs.getD 0 0) then (0,0)
 else match goN (Yz (xs.getD 0 0)) (xs.drop 1) 0 0 with
  | none=>(0, -1)
  | some n=>if n>4611686018427387904 then (0, -1) else if (W n).length=1+Yz (xs.getD 0 0) then (n,1+Yz (xs.getD 0 0)) else (0, -1)
theorem Vc {W:Int→List Int} {xs:List Int} (h:xs.length=0):Ze W xs=(0,0):=by unfold Ze;rw [if_pos h]
theorem Vd {W:Int→List Int} {xs:List Int} (h:xs.length≠0) (hm:Yz (xs.getD 0 0)=0):Ze W xs=(i64.wrap (xs.getD 0 0),1):=by unfold Ze;rw [if_neg h,if_pos hm]
theorem YA {W:Int→List Int} {xs:List Int} {m:Nat} (h:xs.length≠0) (hm:Yz (xs.getD 0 0)=m) (hm0:m≠0) (hl:xs.length≤m):Ze W xs=(0,0):=by unfold Ze;rw [if_neg h,if_neg (by omega),if_pos (by omega)]
theorem WV {W:Int→List Int} {xs:List Int} {m:Nat} (h:xs.length≠0) (hm:Yz (xs.getD 0 0)=m) (hm0:m≠0) (hl:m<xs.length):Ze W xs=match goN m (xs.drop 1) 0 0 with
  | none=>(0, -1)
  | some n=>if n>4611686018427387904 then (0, -1) else if (W n).length=1+m then (n,1+m) else (0, -1):=by
 unfold Ze;rw [if_neg h,if_neg (by omega),if_neg (by omega),hm]
theorem Z9G {c:Int} (h:c=253):Yz c=2:=by unfold Yz;rw [if_pos h]
theorem Z9H {c:Int} (h:¬c=253) (h2:c=254):Yz c=4:=by unfold Yz;rw [if_neg h,if_pos h2]
theorem Z9I {c:Int} (h:¬c=253) (h2:¬c=254) (h3:c=255):Yz c=8:=by unfold Yz;rw [if_neg h,if_neg h2,if_pos h3]
theorem Zdi {c:Int} (h:¬c=253) (h2:¬c=254) (h3:¬c=255):Yz c=0:=by unfold Yz;rw [if_neg h,if_neg h2,if_neg h3]
theorem Ze7:¬((0:Int)>36028797018963968):=by decide
theorem ZbN (W:Int→List Int) (xs:List Int) (N:Nat) (F:Int×Int) (hN:xs.length=N) (hF:F=Ze W xs):
  evF (Z7W W) 20 194 [.vints .u8 xs N] ⟨0,[]⟩ (Ya 0 (.ret (.tuple [.int .i64 F.1,.int .i64 F.2])) 0 []):=by
 refine @Eq.mpr _ (let q1:=decide (0=F.fst);
 let q2:=Z0 q1 (Z0 (decide (0=F.snd)) True False) False;
 let q3:=decide ((0:Int)≤0∧0<(↑N:Int));
 let q4:=List.getD xs 0 0;
 let q5:=decide (N≤List.length xs);
 let q6:=(↑(List.length xs):Int);
 let q7:=XV (some 1) xs;
 let q8:=bOr i64 0 (wrap i64 (List.getD q7 0 0));
 let q9:=decide (q8>36028797018963968);
 let q10:=Z0 q1 (Z0 (decide (-1=F.snd)) True False) False;
 let q11:=bOr i64 (Zz i64 q8 8) (wrap i64 (List.getD q7 1 0));
 let q12:=decide (q11>36028797018963968);
 let q13:=bOr i64 (Zz i64 q11 8) (wrap i64 (List.getD q7 2 0));
 let q14:=decide (q13>36028797018963968);
 let q15:=bOr i64 (Zz i64 q13 8) (wrap i64 (List.getD q7 3 0));
 let q16:=bOr i64 (Zz i64 q15 8) (wrap i64 (List.getD q7 4 0));
 let q17:=bOr i64 (Zz i64 q16 8) (wrap i64 (List.getD q7 5 0));
 let q18:=bOr i64 (Zz i64 q17 8) (wrap i64 (List.getD q7 6 0));
 let q19:=bOr i64 (Zz i64 q18 8) (wrap i64 (List.getD q7 7 0));
 Z0 ((↑N:Int)==0) q2
 (Z0 q3
 (Z0 (decide (q4=253)) (Z0 (decide ((↑N:Int)≤2)) q2 (Z0 q5 (Z0 (decide ((0:Int)≤1∧(1:Int)≤3∧3≤q6)) (Z0 q9 q10 (Z0 (decide (q11>4611686018427387904)) q10 (Z0 ((↑(List.length (W q11)):Int) !=3) q10 (Z0 (decide (q11=F.fst)) (Z0 (decide (3=F.snd)) True False) False)))) False) False))
 (Z0 (decide (q4=254)) (Z0 (decide ((↑N:Int)≤4)) q2 (Z0 q5 (Z0 (decide ((0:Int)≤1∧(1:Int)≤5∧5≤q6)) (Z0 q9 q10 (Z0 q12 q10 (Z0 q14 q10 (Z0 (decide (q15>4611686018427387904)) q10 (Z0 ((↑(List.length (W q15)):Int) !=5) q10 (Z0 (decide (q15=F.fst)) (Z0 (decide (5=F.snd)) True False) False)))))) False) False))
 (Z0 (decide (q4=255)) (Z0 (decide ((↑N:Int)≤8)) q2 (Z0 q5 (Z0 (decide ((0:Int)≤1∧(1:Int)≤9∧9≤q6)) (Z0 q9 q10 (Z0 q12 q10 (Z0 q14 q10 (Z0 (decide (q15>36028797018963968)) q10 (Z0 (decide (q16>36028797018963968)) q10 (Z0 (decide (q17>36028797018963968)) q10 (Z0 (decide (q18>36028797018963968)) q10 (Z0 (decide (q19>4611686018427387904)) q10 (Z0 ((↑(List.length (W q19)):Int) !=9) q10 (Z0 (decide (q19=F.fst)) (Z0 (decide (9=F.snd)) True False) False)))))))))) False) False)) (Z0 q3 (Z0 (decide (wrap i64 q4=F.fst)) (Z0 (decide (1=F.snd)) True False) False) False))))
 False)) (by kernel_rfl) ?_
 conv=>zeta
 try simp only [Zi]
 try simp only [Zj]
 try simp only [Zg]
 try simp only [Zk]
 try simp only [Zl]
 try simp only [Zh]
 try simp only [Int.toNat_natCast,Nat.zero_add,true_and,and_true,Nat.le_refl]
 subst hN
 refine ⟨fun h0=> ?_,fun h0=> ?_⟩
 ·rw [hF,Vc (by simp at h0;simp [h0])];exact ⟨rfl,rfl⟩
 have h0:xs.length≠0:=by simp at h0;intro h;rw [List.length_eq_zero_iff] at h;exact h0 h
 have ed:XV (some 1) xs=xs.drop 1:=rfl
 rw [ed]
 refine ⟨by omega,fun c1=>⟨fun l1=> ?_,fun l1=>⟨by omega, ?_⟩⟩,fun c1=>⟨fun c2=>⟨fun l1=> ?_,fun l1=>⟨by omega, ?_⟩⟩,fun c2=>⟨fun c3=>⟨fun l1=> ?_,fun l1=>⟨by omega, ?_⟩⟩,fun c3=> ?_⟩⟩⟩
 ·rw [hF,YA h0 (Z9G c1) (by decide) (by omega)];exact ⟨rfl,rfl⟩
 ·rw [hF,WV h0 (Z9G c1) (by decide) (by omega)]
  simp only [goN,QW,Ze6,Ze7,if_false,Nat.zero_add,Nat.reduceAdd]
  repeat' (first|(refine And.intro ?_ ?_)|intro _)
  all_goals first|omega|(simp only [*,if_true,if_false];done)|(simp only [*,if_true,if_false];rfl)|skip
  all_goals rename_i hb
  all_goals first|rw [bne_iff_ne] at hb|rw [bne_eq_false_iff_eq] at hb
  all_goals simp only [*,if_false]
  all_goals first|rfl|(split<;>first|rfl|omega)
 ·rw [hF,YA h0 (Z9H c1 c2) (by decide) (by omega)];exact ⟨rfl,rfl⟩
 ·rw [hF,WV h0 (Z9H c1 c2) (by decide) (by omega)]
  simp only [goN,QW,Ze6,Ze7,if_false,Nat.zero_add,Nat.reduceAdd]
  repeat' (first|(refine And.intro ?_ ?_)|intro _)
  all_goals first|omega|(simp only [*,if_true,if_false];done)|(simp only [*,if_true,if_false];rfl)|skip
  all_goals rename_i hb
  all_goals first|rw [bne_iff_ne] at hb|rw [bne_eq_false_iff_eq] at hb
  all_goals simp only [*,if_false]
  all_goals first|rfl|(split<;>first|rfl|omega)
 ·rw [hF,YA h0 (Z9I c1 c2 c3) (by decide) (by omega)];exact ⟨rfl,rfl⟩
 ·rw [hF,WV h0 (Z9I c1 c2 c3) (by decide) (by omega)]
  simp only [goN,QW,Ze6,Ze7,if_false,Nat.zero_add,Nat.reduceAdd]
  repeat' (first|(refine And.intro ?_ ?_)|intro _)
  all_goals first|omega|(simp only [*,if_true,if_false];done)|(simp only [*,if_true,if_false];rfl)|skip
  all_goals rename_i hb
  all_goals first|rw [bne_iff_ne] at hb|rw [bne_eq_false_iff_eq] at hb
  all_goals simp only [*,if_false]
  all_goals first|rfl|(split<;>first|rfl|omega)
 ·rw [hF,Vd h0 (Zdi c1 c2 c3)];exact ⟨by omega,rfl,rfl⟩
def Z9J (F:List Int→Int×Int):ZG:=fun args h K=>ZI none h true 20 args fun a=>match a with
 | [.vints .u8 xs n]=>Zt (xs.length=n) (K (.tuple [.int .i64 (F xs).1,.int .i64 (F xs).2]))
 | _=>False
theorem Z7X (args:List AV) (h:Z6) (K:AV→Prop) (hl:Z9J (Ze Zn) args h K):Zm PP 194 args h fun o h'=>∃v,o=.ret v∧h'=h∧K v:=by
 refine Zy.psumm (d:=20) (Zs _ _ _ _ _ hl fun a ha=> ?_)
 split at ha
 ·obtain ⟨h1,hK⟩:=Z8 ha
  exact ⟨_,.evM Qf (ZbN _ _ _ _ h1 rfl),fun _=>rfl,hK⟩
 ·exact ha.elim
end Go.Tk
end
section
namespace Go.Tk
open IntKind (i64 u8 u32 u64 wrap)
noncomputable def E23 (F:List Int→Int×Int):Zd:=G0.withP 194 (Z9J F)
theorem Z9K:(E23 (Ze Zn)).Ok:=Zd.withP_ok Zu Z7X
theorem Zfk (F:List Int→Int×Int) (xs:List Int) (o n o' n':Nat) (most v:Int) (hn:o+n=xs.length) (hm:0≤most) (h2:0<(F (xs.drop o)).2∧(F (xs.drop o)).2≤n) (h1:(F (xs.drop o)).1≤most) (hv:(F (xs.drop o)).1=v) (ho:o'=o+(F (xs.drop o)).2.toNat) (hn':n'=n-(F (xs.drop o)).2.toNat):
  evF (E23 F) 20 55 [.agg [.ptr (some ⟨0,0,0,0,0⟩)],.int .i64 most] ⟨2,[(0,.flat [.nslice ⟨1,0,0,0,o⟩ 1 n n,.bool true,.bool false]),(1,.ints .u8 xs)]⟩ (Ya 2 (.ret (.int .i64 v)) 2 [(0,.flat [.nslice ⟨1,0,0,0,o'⟩ 1 n' n',.bool true,.bool false]),(1,.ints .u8 xs)]):=by
 refine @Eq.mpr _ (let q1:=ZE.tot (ZE.mk 1 0 0 0 o);
 let q2:=List.take n (Y8 q1 xs);
 let q3:=F q2;
 let q4:=q3.snd;
 let q5:=q3.fst;
 let q6:=decide (n≤n);
 let q7:=decide (0≤q4∧q4≤ ↑n);
 let q8:=some (Int.toNat q4);
 let q9:=X2 n q8;
 Z0 (decide (most<0)) False (Z0 (decide (q1+n≤List.length xs)) (Z0 (decide (List.length q2=n)) (Z0 (decide (q4>0)) (Z0 (!decide (q5≤most)) False (Z0 (!decide (q4≤ ↑n)) False (Z0 q6 (Z0 q7 (Z0 q6 (Z0 q7 (Z0 (decide (q5=v)) (Z0 (decide (o+ZP q8=o')) (Z0 (decide (q9=n')) (Z0 (decide (n'≤q9)) (xs=xs∧True) False) False) False) False) False) False) False) False))) False) False) False)) (by kernel_rfl) ?_
 conv=>zeta
 try simp only [Zi]
 try simp only [Zj]
 try simp only [Zg]
 try simp only [Zk]
 try simp only [Zl]
 try simp only [Zh]
 try simp only [Int.toNat_natCast,Nat.zero_add,true_and,and_true,Nat.le_refl]
 have ht:(ZE.mk 1 0 0 0 o).tot=o:=by simp [ZE.tot]
 have hd:List.take n (Y8 o xs)=xs.drop o:=by rw [ZZ,List.take_of_length_le (by rw [List.length_drop];omega)]
 have hl:(xs.drop o).length=n:=by rw [List.length_drop];omega
 simp only [ht,hd,hl]
 subst hv ho hn'
 refine ⟨by omega,by omega,trivial, ?_⟩
 generalize F (xs.drop o)=p at*
 have e1:(!decide (p.1≤most))=false:=by simp [h1]
 have e2:(!decide (p.2≤(n:Int)))=false:=by simp [h2.2]
 rw [e1,e2]
 have e3:ZP (some p.2.toNat)=p.2.toNat:=rfl
 have e4:X2 n (some p.2.toNat)=n-p.2.toNat:=rfl
 rw [e3,e4]
 and_intros<;>first|trivial|rfl|omega
theorem Zfl (F:List Int→Int×Int) (xs:List Int) (o n:Nat) (most:Int) (hn:o+n=xs.length) (hm:0≤most) (h2:0<(F (xs.drop o)).2→most<(F (xs.drop o)).1):
  evF (E23 F) 20 55 [.agg [.ptr (some ⟨0,0,0,0,0⟩)],.int .i64 most] ⟨2,[(0,.flat [.nslice ⟨1,0,0,0,o⟩ 1 n n,.bool true,.bool false]),(1,.ints .u8 xs)]⟩ (Ya 2 (.panic (.iface 29 (.int .i64 204))) 2 [(0,.flat [.nslice ⟨1,0,0,0,o⟩ 1 n n,.bool true,.bool true]),(1,.ints .u8 xs)]):=by
 refine @Eq.mpr _ (let q1:=decide (o=o);
 let q2:=decide (n=n);
 let q3:=decide (n≤n);
 let q4:=ZE.tot (ZE.mk 1 0 0 0 o);
 let q5:=List.take n (Y8 q4 xs);
 let q6:=F q5;
 let q7:=q6.snd;
 let q8:=Z0 q1 (Z0 q2 (Z0 q3 (xs=xs∧True) False) False) False;
 let q9:=decide (0≤q7∧q7≤ ↑n);
 Z0 (decide (most<0)) (Z0 q1 (Z0 q2 (Z0 q3 False False) False) False) (Z0 (decide (q4+n≤List.length xs)) (Z0 (decide (List.length q5=n)) (Z0 (decide (q7>0)) (Z0 (!decide (q6.fst≤most)) q8 (Z0 (!decide (q7≤ ↑n)) q8 (Z0 q3 (Z0 q9 (Z0 q3 (Z0 q9 False False) False) False) False))) q8) False) False)) (by kernel_rfl) ?_
 conv=>zeta
 try simp only [Zi]
 try simp only [Zj]
 try simp only [Zg]
 try simp only [Zk]
 try simp only [Zl]
 try simp only [Zh]
 try simp only [Int.toNat_natCast,Nat.zero_add,true_and,and_true,Nat.le_refl]
 have ht:(ZE.mk 1 0 0 0 o).tot=o:=by simp [ZE.tot]
 have hd:List.take n (Y8 o xs)=xs.drop o:=by rw [ZZ,List.take_of_length_le (by rw [List.length_drop];omega)]
 have hl:(xs.drop o).length=n:=by rw [List.length_drop];omega
 simp only [ht,hd,hl]
 refine ⟨fun h=>(by omega),fun _=>⟨by omega,trivial,fun h=>⟨fun _=>trivial,fun h3=> ?_⟩,fun _=>trivial⟩⟩
 have:=h2 h
 simp at h3
 omega
theorem Zfm (xs hh:List Int) (o n o' n':Nat) (hn:o+n=xs.length) (h2:32≤n) (hh':hh=(xs.drop o).take 32) (ho:o'=o+32) (hn':n'=n-32):
  evF G0 20 54 [.agg [.ptr (some ⟨0,0,0,0,0⟩)]] ⟨2,[(0,.flat [.nslice ⟨1,0,0,0,o⟩ 1 n n,.bool true,.bool false]),(1,.ints .u8 xs)]⟩ (Ya 2 (.ret (.agg [.arr .u8 32 hh])) 2 [(0,.flat [.nslice ⟨1,0,0,0,o'⟩ 1 n' n',.bool true,.bool false]),(1,.ints .u8 xs)]):=by
 refine @Eq.mpr _ (let q1:=decide (n≤n);
 let q2:=decide ((0:Int)≤32∧32≤(↑n:Int));
 let q3:=ZE.tot (ZE.mk 1 0 0 0 (o+0));
 let q4:=X2 n (some 32);
 Z0 (!decide (32≤(↑n:Int))) False (Z0 q1 (Z0 q2 (Z0 q1 (Z0 q2 (Z0 (decide (u8=u8∧q3+32≤List.length xs)) (spl Zc 0 (List.take 32 (List.take 32 (Y8 q3 xs)))=hh∧Z0 (decide (o+32=o')) (Z0 (decide (q4=n')) (Z0 (decide (n'≤q4)) (xs=xs∧True) False) False) False) False) False) False) False) False)) (by kernel_rfl) ?_
 conv=>zeta
 try simp only [Zi]
 try simp only [Zj]
 try simp only [Zg]
 try simp only [Zk]
 try simp only [Zl]
 try simp only [Zh]
 try simp only [Int.toNat_natCast,Nat.zero_add,true_and,and_true,Nat.le_refl]
 have e1:(!decide ((32:Int)≤(n:Int)))=false:=by simp;omega
 have ht:(ZE.mk 1 0 0 0 (o+0)).tot=o:=by simp [ZE.tot]
 rw [e1,ht]
 have e4:X2 n (some 32)=n-32:=rfl
 rw [e4]
 have hl:((xs.drop o).take 32).length=32:=by rw [List.length_take,List.length_drop];omega
 have hd:List.take 32 (List.take 32 (Y8 o xs))=(xs.drop o).take 32:=by rw [ZZ,List.take_take];rfl
 rw [hd,hh']
 generalize (xs.drop o).take 32=zs at*
 and_intros<;>first|trivial|rfl|omega|skip
 unfold spl
 rw [List.take_zero,List.nil_append,hl]
 simp [Zc]
theorem Zfn (xs:List Int) (o n:Nat) (hn:o+n=xs.length) (h2:n<32):
  evF G0 20 54 [.agg [.ptr (some ⟨0,0,0,0,0⟩)]] ⟨2,[(0,.flat [.nslice ⟨1,0,0,0,o⟩ 1 n n,.bool true,.bool false]),(1,.ints .u8 xs)]⟩ (Ya 2 (.panic (.iface 29 (.int .i64 204))) 2 [(0,.flat [.nslice ⟨1,0,0,0,o⟩ 1 n n,.bool true,.bool true]),(1,.ints .u8 xs)]):=by
 refine @Eq.mpr _ (let q1:=decide (n≤n);
 let q2:=decide ((0:Int)≤32∧32≤(↑n:Int));
 Z0 (!decide (32≤(↑n:Int))) (Z0 (decide (o=o)) (Z0 (decide (n=n)) (Z0 q1 (xs=xs∧True) False) False) False) (Z0 q1 (Z0 q2 (Z0 q1 (Z0 q2 (Z0 (decide (u8=u8∧ZE.tot (ZE.mk 1 0 0 0 (o+0))+32≤List.length xs)) False False) False) False) False) False)) (by kernel_rfl) ?_
 conv=>zeta
 try simp only [Zi]
 try simp only [Zj]
 try simp only [Zg]
 try simp only [Zk]
 try simp only [Zl]
 try simp only [Zh]
 try simp only [Int.toNat_natCast,Nat.zero_add,true_and,and_true,Nat.le_refl]
 refine ⟨fun _=>trivial,fun h=> ?_⟩
 simp at h
 omega
theorem ZgT (xs:List Int) (o n:Nat) (h2:n=0):
  evF G0 20 58 [.ptr (some ⟨0,0,0,0,0⟩)] ⟨2,[(0,.flat [.nslice ⟨1,0,0,0,o⟩ 1 n n,.bool true,.bool false]),(1,.ints .u8 xs)]⟩ (Ya 2 (.ret (.int .i64 0)) 2 [(0,.flat [.nslice ⟨1,0,0,0,o⟩ 1 n n,.bool true,.bool false]),(1,.ints .u8 xs)]):=by
 refine @Eq.mpr _ (Z0 (!(↑n:Int)==0) False (Z0 (decide (o=o)) (Z0 (decide (n=n)) (Z0 (decide (n≤n)) (xs=xs∧True) False) False) False)) (by kernel_rfl) ?_
 try simp only [Zi]
 try simp only [Zj]
 try simp only [Zg]
 try simp only [Zk]
 try simp only [Zl]
 try simp only [Zh]
 try simp only [Int.toNat_natCast,Nat.zero_add,true_and,and_true,Nat.le_refl]
 subst h2
 simp
theorem ZgU (xs:List Int) (o n:Nat) (h2:n≠0):
  evF G0 20 58 [.ptr (some ⟨0,0,0,0,0⟩)] ⟨2,[(0,.flat [.nslice ⟨1,0,0,0,o⟩ 1 n n,.bool true,.bool false]),(1,.ints .u8 xs)]⟩ (Ya 2 (.ret (.int .i64 140)) 2 [(0,.flat [.nslice ⟨1,0,0,0,o⟩ 1 n n,.bool true,.bool true]),(1,.ints .u8 xs)]):=by
 refine @Eq.mpr _ (Z0 (!(↑n:Int)==0) (Z0 (decide (o=o)) (Z0 (decide (n=n)) (Z0 (decide (n≤n)) (xs=xs∧True) False) False) False) False) (by kernel_rfl) ?_
 try simp only [Zi]
 try simp only [Zj]
 try simp only [Zg]
 try simp only [Zk]
 try simp only [Zl]
 try simp only [Zh]
 try simp only [Int.toNat_natCast,Nat.zero_add,true_and,and_true,Nat.le_refl]
 simp
 omega
theorem U6 (W:Int→List Int) (xs:List Int):(Ze W xs).2≤xs.length:=by
 by_cases h0:xs.length=0
 ·rw [Vc h0];exact Int.natCast_nonneg _
 by_cases hm:Yz (xs.getD 0 0)=0
 ·rw [Vd h0 hm];show (1:Int)≤_;omega
 by_cases hl:xs.length≤Yz (xs.getD 0 0)
 ·rw [YA h0 rfl hm hl];exact Int.natCast_nonneg _
 rw [WV h0 rfl hm (by omega)]
 split
 ·show (-1:Int)≤_;omega
 ·split
  ·show (-1:Int)≤_;omega
  ·split
   ·show (1:Int)+Yz (xs.getD 0 0)≤_;omega
   ·show (-1:Int)≤_;omega
def rdN (F:List Int→Int×Int) (xs:List Int) (o:Nat) (most:Int):Option (Int×Nat):=
 if 0<(F (xs.drop o)).2∧(F (xs.drop o)).1≤most then some ((F (xs.drop o)).1,o+(F (xs.drop o)).2.toNat) else none
def rdH (xs:List Int) (o:Nat):Option (List Int×Nat):=if o+32≤xs.length then some ((xs.drop o).take 32,o+32) else none
def Z9L (F:List Int→Int×Int):Yn:=fun args h K=>match args with
 | [.agg [.ptr (some ⟨r,0,0,0,0⟩)],.int .i64 _]=>match h.get r with
  |some (.flat [.nslice ⟨b,0,0,0,_⟩ 1 _ _,.bool true,.bool false])=>frA [r,b] h 20 args fun Bs a=>match Bs,a with
   | [.flat [.nslice ⟨1,0,0,0,o⟩ 1 n n2,.bool true,.bool false],.ints .u8 xs],[.agg [.ptr (some ⟨0,0,0,0,0⟩)],.int .i64 most]=>
    Zt (n=xs.length-o∧o≤xs.length∧n2=xs.length-o∧0≤most) ((∀v o',rdN F xs o most=some (v,o')→(o≤o'∧o'≤xs.length∧v≤most)→
     K (.ret (.int .i64 v)) ⟨h.next,(r,.flat [.nslice ⟨b,0,0,0,o'⟩ 1 (xs.length-o') (xs.length-o'),.bool true,.bool false])::(b,.ints .u8 xs)::YT (YT h.bs r) b⟩)∧
     (rdN F xs o most=none→K (.panic (.iface 29 (.int .i64 204))) ⟨h.next,(r,.flat [.nslice ⟨b,0,0,0,o⟩ 1 (xs.length-o) (xs.length-o),.bool true,.bool true])::(b,.ints .u8 xs)::YT (YT h.bs r) b⟩))
   | _,_=>False
  | _=>False
 | _=>False
theorem Z9M (args:List AV) (h:Z6) (K:KO) (hl:Z9L (Ze Zn) args h K):Zm PP 55 args h K:=by
 unfold Z9L at hl
 split at hl
 ·split at hl
  ·refine Spec.fsumm hl fun Bs a hlen hK0=> ?_
   split at hK0
   ·rename_i o n n2 xs most
    obtain ⟨⟨rfl,h1,rfl,h3⟩,hK,hK'⟩:=Z8 hK0
    have hle:=U6 Zn (xs.drop o)
    rw [List.length_drop] at hle
    by_cases hc:0<(Ze Zn (xs.drop o)).2∧(Ze Zn (xs.drop o)).1≤most
    ·have f1:o≤o+(Ze Zn (xs.drop o)).2.toNat∧o+(Ze Zn (xs.drop o)).2.toNat≤xs.length∧(Ze Zn (xs.drop o)).1≤most:=⟨by omega,by omega,hc.2⟩
     exact ⟨_,_,_,_,_,.evM Z9K (Zfk _ xs o (xs.length-o) (o+(Ze Zn (xs.drop o)).2.toNat) (xs.length-(o+(Ze Zn (xs.drop o)).2.toNat)) most _ (by omega) h3 ⟨hc.1,by omega⟩ hc.2 rfl rfl (by omega)),by simp,.ret _ _ rfl,.cons _ _ _ _ _ _ rfl (.flat _ _ rfl) (.cons _ _ _ _ _ _ rfl (.ints _ _) .nil),hK _ _ (by unfold rdN;rw [if_pos hc]) f1⟩
    ·exact ⟨_,_,_,_,_,.evM Z9K (Zfl _ xs o _ most (by omega) h3 (fun h=>by omega)),by simp,.panic _ _ rfl,.cons _ _ _ _ _ _ rfl (.flat _ _ rfl) (.cons _ _ _ _ _ _ rfl (.ints _ _) .nil),hK' (by unfold rdN;rw [if_neg hc])⟩
   ·exact hK0.elim
  ·exact hl.elim
 ·exact hl.elim
def Z5K:Yn:=fun args h K=>match args with
 | [.agg [.ptr (some ⟨r,0,0,0,0⟩)]]=>match h.get r with
  |some (.flat [.nslice ⟨b,0,0,0,_⟩ 1 _ _,.bool true,.bool false])=>frA [r,b] h 20 args fun Bs a=>match Bs,a with
   | [.flat [.nslice ⟨1,0,0,0,o⟩ 1 n n2,.bool true,.bool false],.ints .u8 xs],[.agg [.ptr (some ⟨0,0,0,0,0⟩)]]=>
    Zt (n=xs.length-o∧o≤xs.length∧n2=xs.length-o) ((∀hh o',rdH xs o=some (hh,o')→(o≤o'∧o'≤xs.length∧hh.length=32)→
     K (.ret (.agg [.arr .u8 32 hh])) ⟨h.next,(r,.flat [.nslice ⟨b,0,0,0,o'⟩ 1 (xs.length-o') (xs.length-o'),.bool true,.bool false])::(b,.ints .u8 xs)::YT (YT h.bs r) b⟩)∧
     (rdH xs o=none→K (.panic (.iface 29 (.int .i64 204))) ⟨h.next,(r,.flat [.nslice ⟨b,0,0,0,o⟩ 1 (xs.length-o) (xs.length-o),.bool true,.bool true])::(b,.ints .u8 xs)::YT (YT h.bs r) b⟩))
   | _,_=>False
  | _=>False
 | _=>False
theorem Z7Y (args:List AV) (h:Z6) (K:KO) (hl:Z5K args h K):Zm PP 54 args h K:=by
 unfold Z5K at hl
 split at hl
 ·split at hl
  ·refine Spec.fsumm hl fun Bs a hlen hK0=> ?_
   split at hK0
   ·rename_i o n n2 xs
    obtain ⟨⟨rfl,h1,rfl⟩,hK,hK'⟩:=Z8 hK0
    by_cases hc:o+32≤xs.length
    ·have f1:o≤o+32∧o+32≤xs.length∧((xs.drop o).take 32).length=32:=⟨by omega,hc,by rw [List.length_take,List.length_drop];omega⟩
     exact ⟨_,_,_,_,_,.evM Zu (Zfm xs _ o (xs.length-o) (o+32) (xs.length-(o+32)) (by omega) (by omega) rfl rfl (by omega)),by simp,.ret _ _ rfl,.cons _ _ _ _ _ _ rfl (.flat _ _ rfl) (.cons _ _ _ _ _ _ rfl (.ints _ _) .nil),hK _ _ (by unfold rdH;rw [if_pos hc]) f1⟩
    ·exact ⟨_,_,_,_,_,.evM Zu (Zfn xs o _ (by omega) (by omega)),by simp,.panic _ _ rfl,.cons _ _ _ _ _ _ rfl (.flat _ _ rfl) (.cons _ _ _ _ _ _ rfl (.ints _ _) .nil),hK' (by unfold rdH;rw [if_neg hc])⟩
   ·exact hK0.elim
  ·exact hl.elim
 ·exact hl.elim
def Z9N:Yn:=fun args h K=>match args with
 | [.ptr (some ⟨r,0,0,0,0⟩)]=>match h.get r with
  |some (.flat [.nslice ⟨b,0,0,0,_⟩ 1 _ _,.bool true,.bool false])=>frA [r,b] h 20 args fun Bs a=>match Bs,a with
   | [.flat [.nslice ⟨1,0,0,0,o⟩ 1 n n2,.bool true,.bool false],.ints .u8 xs],[.ptr (some ⟨0,0,0,0,0⟩)]=>
    Zt (n2=n) (Z0 (decide (n=0))
     (K (.ret (.int .i64 0)) ⟨h.next,(r,.flat [.nslice ⟨b,0,0,0,o⟩ 1 n n,.bool true,.bool false])::(b,.ints .u8 xs)::YT (YT h.bs r) b⟩)
     (K (.ret (.int .i64 140)) ⟨h.next,(r,.flat [.nslice ⟨b,0,0,0,o⟩ 1 n n,.bool true,.bool true])::(b,.ints .u8 xs)::YT (YT h.bs r) b⟩))
   | _,_=>False
  | _=>False
 | _=>False
theorem Z9O (args:List AV) (h:Z6) (K:KO) (hl:Z9N args h K):Zm PP 58 args h K:=by
 unfold Z9N at hl
 split at hl
 ·split at hl
  ·refine Spec.fsumm hl fun Bs a hlen hK0=> ?_
   split at hK0
   ·rename_i o n n2 xs
    obtain ⟨rfl,hK⟩:=Z8 hK0
    rw [Zg] at hK
    by_cases hc:n2=0
    ·exact ⟨_,_,_,_,_,.evM Zu (ZgT xs o _ hc),by simp,.ret _ _ rfl,.cons _ _ _ _ _ _ rfl (.flat _ _ rfl) (.cons _ _ _ _ _ _ rfl (.ints _ _) .nil),hK.1 hc⟩
    ·exact ⟨_,_,_,_,_,.evM Zu (ZgU xs o _ hc),by simp,.ret _ _ rfl,.cons _ _ _ _ _ _ rfl (.flat _ _ rfl) (.cons _ _ _ _ _ _ rfl (.ints _ _) .nil),hK.2 hc⟩
   ·exact hK0.elim
  ·exact hl.elim
 ·exact hl.elim
end Go.Tk
end
section
namespace Go.Tk
open IntKind (i64 u8 u32 u64 wrap)
def AV.plain2:AV→Bool
 | .iface _ v=>v.plain
 | v=>v.plain
theorem Zb.plain2 {E E':Env} {v:AV} {r:Value} (h:Zb E v r) (hp:v.plain2=true):Zb E' v r:=by
 cases v with
 | iface t u=>cases h with|iface t u x hx=>exact .iface _ _ _ (hx.plain hp)
 | _=>exact h.plain hp
def Z4i {ι:Type} (k:Nat) (m:ι→Nat) (S:ι→St) (i:ι) (X:KE):KE:=fun e s=>match e with
 | .normal=>∃j,m j<m i∧V9 k s (S j)
 | .panic v=>v.plain2=true∧∃s₂,V9 k s s₂∧X (.panic v) s₂
 | .exit id=>∃s₂,V9 k s s₂∧X (.exit id) s₂
 | .goto l=>∃s₂,V9 k s s₂∧X (.goto l) s₂
 | .ret=>∃s₂,V9 k s s₂∧X .ret s₂
theorem Z5L {P:Program} {k:Nat} {ro:Option Nat} {c:Code} {ι:Type} (m:ι→Nat) (S:ι→St) (X:KE)
  (h:∀i,Yb P k ro c (S i) (Z4i k m S i X)):∀i,Yb P k ro (.loop c) (S i) X:=by
 have key:∀N i,m i<N→∀(E0:Env) (h0:Z6) (w0:World) (E:Env) (a:Act) (w:World) (n:Nat),(∀x,k≤x→E0.blk x=none)→We E (S i) a w→Evo E0 h0 w0 E (S i).h w→
   Code.roundsIn (Fr ro) n P c (UF E0 h0 w0 X) N a w:=by
  intro N
  induction N with
  | zero=>intro i hi;omega
  | succ N ih=>
   intro i hi E0 h0 w0 E a w n hk hs hev
   rw [roundsIn_succ]
   refine wpIn_mono (h i E0 h0 w0 E a w n hk hs hev) ?_
   rintro e a' w' ⟨E',x,s',hx,hev',hs',he⟩
   cases he with
   | normal=>
    obtain ⟨j,hj,hw⟩:=hx
    obtain ⟨E₂,hs₂,hev₂⟩:=hw E0 h0 w0 E' a' w' hk hs' hev'
    exact ih j (by omega) E0 h0 w0 E₂ a' w' n hk hs₂ hev₂
   | exit id=>
    obtain ⟨s₂,hw,hx⟩:=hx
    obtain ⟨E₂,hs₂,hev₂⟩:=hw E0 h0 w0 E' a' w' hk hs' hev'
    exact ⟨E₂,_,s₂,hx,hev₂,hs₂,.exit id⟩
   | goto l=>
    obtain ⟨s₂,hw,hx⟩:=hx
    obtain ⟨E₂,hs₂,hev₂⟩:=hw E0 h0 w0 E' a' w' hk hs' hev'
    exact ⟨E₂,_,s₂,hx,hev₂,hs₂,.goto l⟩
   | ret=>
    obtain ⟨s₂,hw,hx⟩:=hx
    obtain ⟨E₂,hs₂,hev₂⟩:=hw E0 h0 w0 E' a' w' hk hs' hev'
    exact ⟨E₂,_,s₂,hx,hev₂,hs₂,.ret⟩
   | panic v r hv=>
    obtain ⟨hp,s₂,hw,hx⟩:=hx
    obtain ⟨E₂,hs₂,hev₂⟩:=hw E0 h0 w0 E' a' w' hk hs' hev'
    exact ⟨E₂,_,s₂,hx,hev₂,hs₂,.panic v r (hv.plain2 hp)⟩
 intro i E0 h0 w0 E a w n hk hs hev
 exact wpIn_loop_rounds (m i+1) (key (m i+1) i (Nat.lt_succ_self _) E0 h0 w0 E a w n hk hs hev)
theorem Zd.withL_okP {G:Zd} (hG:G.Ok) {f:FuncId} {id:Nat} {S:Nat→St→KE→Prop} (h1:Xt G.P f id=true)
  (h:∀k s X,S k s X→∃ι:Type,∃m:ι→Nat,∃I:ι→St,∃i n,V9 k s (I i)∧∀i,∃Y,ZD G n f id k (I i) Y∧∀e s,Y e s→Z4i k m I i X e s):(G.withL f id S).Ok where
 draw:=hG.draw
 psumm:=hG.psumm
 fsumm:=hG.fsumm
 lsumm:=fun f' id' S' fn c body hS hf hb hm k s X hs=>by
  simp only [Zd.withL] at hS
  split at hS
  ·rename_i hq
   rw [Bool.and_eq_true] at hq
   have e1:=Nat.eq_of_beq_eq_true hq.1
   have e2:=Nat.eq_of_beq_eq_true hq.2
   subst e1 e2
   cases hS
   have hc:=QU h1 hf hb hm
   obtain ⟨ι,m,I,i,n,hw,hr⟩:=h k s X hs
   subst hc
   refine Yb.weak (Z5L m I X (fun i=> ?_) i) hw
   have hk:=VY hG n f' none
   obtain ⟨Y,hY,hYX⟩:=hr i
   unfold ZD at hY
   refine Yb.mono ?_ hYX
   refine Qu (k:=k) (ro:=none) hG hk.1 (fun _=>rfl) (fun _=>rfl) (fun _=>⟨fn,body,by rw [hk.2.1];exact hf,hb,fun b hbm=>W2 body id' _ hm b (by simpa [Zw] using hbm)⟩) hY
  ·exact hG.lsumm f' id' S' fn c body hS hf hb hm k s X hs
def rdP (k id l:Nat) (pv:AV) (S1 En Rn Jn Pn:St) (go ex re jm pa:Prop):KE:=fun e s=>match e with
 | .normal=>Xj k S1 s go
 | .exit x=>(match Nat.beq x id with|true=>Xj k En s ex|false=>False)
 | .ret=>Xj k Rn s re
 | .goto x=>(match Nat.beq x l with|true=>Xj k Jn s jm|false=>False)
 | .panic v=>Y9 pv v (Xj k Pn s pa)
def Zfo (id n l:Nat) (pv:AV) (go ex re jm pa:Nat→Prop) (En Rn Jn Pn:Nat→St):KE→Prop:=fun X=>
 ∀i,i≤n→(∀j,j<i→go j)→(ex i→X (.exit id) (En i))∧(re i→X .ret (Rn i))∧(jm i→X (.goto l) (Jn i))∧(pa i→X (.panic pv) (Pn i))
end Go.Tk
end
section
namespace Go.Tk
open IntKind (i64 u8 u32 u64 wrap)
mutual
/-- Without names; views may be. -/
def AV.vplain:AV→Bool
 | .top|.bool _|.int _ _|.str _|.ptr none|.eslice|.fslice|.nilslice|.map none|.nilFunc|.nilIface|.arr _ _ _=>true
 | .vints _ _ _|.vrows _ _ _ _|.pview _ _=>true
 | .agg cs=>XO cs
 | .tuple cs=>XO cs
 | .iface _ v=>v.vplain
 | _=>false
def XO:List AV→Bool
 | []=>true
 | v::r=>v.vplain&&XO r
end
mutual
theorem Zb.vplain {E E':Env} (hi:∀a c,E.imm a c→E'.imm a c):∀(v:AV) (r:Value),v.vplain=true→Zb E v r→Zb E' v r
 | .top,r,_,_=>.top r
 | .bool b,r,_,h=>h.plain rfl
 | .int k n,r,_,h=>h.plain rfl
 | .str s,r,_,h=>h.plain rfl
 | .ptr none,r,_,h=>h.plain rfl
 | .eslice,r,_,h=>h.plain rfl
 | .fslice,r,_,h=>h.plain rfl
 | .nilslice,r,_,h=>h.plain rfl
 | .map none,r,_,h=>h.plain rfl
 | .nilFunc,r,_,h=>h.plain rfl
 | .nilIface,r,_,h=>h.plain rfl
 | .arr k n xs,r,_,h=>h.plain rfl
 | .ptr (some p),r,hp,_=>by simp [AV.vplain] at hp
 | .nslice p a b c,r,hp,_=>by simp [AV.vplain] at hp
 | .map (some x),r,hp,_=>by simp [AV.vplain] at hp
 | .func a b c,r,hp,_=>by simp [AV.vplain] at hp
 | .yield x,r,hp,_=>by simp [AV.vplain] at hp
 | .pview cs inn,r,_,h=>by
  cases h with
  | pview cs inn a vs hc hq=>exact .pview cs inn a vs (Zq.mono (⟨fun _ _ h=>by simp [Env.views] at h,hi⟩:E.views.le E'.views) hc) (fun j c h=>hi _ _ (hq j c h))
 | .vints k xs len,r,_,h=>by
  cases h with
  | vintsNil k xs len h1 h2=>exact .vintsNil k xs len h1 h2
  | vints k xs len a cap h1 h2 hq=>exact .vints k xs len a cap h1 h2 (fun i h=>hi _ _ (hq i h))
 | .vrows esz n f len,r,_,h=>by
  cases h with
  | vrowsNil esz n f len h1 h2=>exact .vrowsNil esz n f len h1 h2
  | vrows esz n f len a cap g h1 h2 hc hl hq=>exact .vrows esz n f len a cap g h1 h2 (fun i h=>Zq.mono (⟨fun _ _ h=>by simp [Env.views] at h,hi⟩:E.views.le E'.views) (hc i h)) hl (fun i j c h h'=>hi _ _ (hq i j c h h'))
 | .iface t v,r,hp,h=>by
  cases h with
  | iface t v x hx=>exact .iface t v x (Zb.vplain hi v x (by simpa [AV.vplain] using hp) hx)
 | .agg cs,r,hp,h=>by
  cases h with
  | agg cs vs hc=>exact .agg cs vs (Zq.vplain hi cs vs (by simpa [AV.vplain] using hp) hc)
 | .tuple cs,r,hp,h=>by
  cases h with
  | tuple _ rs hc=>exact .tuple _ rs (ZA.vplain hi cs rs (by simpa [AV.vplain] using hp) hc)
theorem Zq.vplain {E E':Env} (hi:∀a c,E.imm a c→E'.imm a c):∀(l:List AV) (r:List Value),XO l=true→Zq E l r→Zq E' l r
 | [],r,_,h=>by cases h;exact .nil
 | v::l,r,hp,h=>by
  simp only [XO,Bool.and_eq_true] at hp
  cases h with
  | one v c vs cs h0 h1 hv t=>exact .one v c _ cs h0 h1 (Zb.vplain hi v c hp.1 hv) (Zq.vplain hi l cs hp.2 t)
  | arr k n xs vs cs t=>exact .arr k n xs _ cs (Zq.vplain hi l cs hp.2 t)
theorem ZA.vplain {E E':Env} (hi:∀a c,E.imm a c→E'.imm a c):∀(l:List AV) (r:List Value),XO l=true→ZA E l r→ZA E' l r
 | [],r,_,h=>by cases h;exact .nil
 | v::l,r,hp,h=>by
  simp only [XO,Bool.and_eq_true] at hp
  cases h with
  | cons v c vs cs hv t=>exact .cons v c _ cs (Zb.vplain hi v c hp.1 hv) (ZA.vplain hi l cs hp.2 t)
end
def Y6 (R:AV→Prop):KO:=fun o _=>match o with
 | .ret u=>(match u.vplain with|true=>R u|false=>False)
 | .panic _=>False
theorem Z5M {P:Program} {f:FuncId} {args:List AV} {h:Z6} {R:AV→Prop} {K:AV→Prop} (hp:XO args=true) (hc:Zm P f args ⟨0,[]⟩ (Y6 R)) (hK:∀u,R u→K u):
  Zm P f args h fun o h'=>∃v,o=.ret v∧h'=h∧K v:=by
 intro E w rs he hr
 have hemb:Emb E.views ⟨0,[]⟩ w:=
  ⟨fun x _=>rfl,fun x B h=>by simp [Z6.get,ZC] at h,fun x B h=>by simp [Z6.get,ZC] at h,fun x y B B' b N N' h=>by simp [Z6.get,ZC] at h,he.imm,fun a c x B N _ h=>by simp [Z6.get,ZC] at h⟩
 refine (hc E.views w rs hemb (ZA.vplain (E:=E) (E':=E.views) (fun _ _ h=>h) _ _ hp hr)).mono ?_
 rintro e w' ⟨E₁,o,h',hK0,hev,hor⟩
 cases hor with
 | panic u r hr=>exact hK0.elim
 | ret u r hr=>
  unfold Y6 at hK0
  simp only at hK0
  split at hK0
  ·rename_i hu
   have hkeep:∀b,b<w.heap.size→w'.heap[b]? =w.heap[b]?:=fun b hb=>hev.keep b hb (fun ⟨x,B,N,hx,_⟩=>by simp [Z6.get,ZC] at hx)
   have hemb':Emb E h w':=by
    refine ⟨he.fresh,he.lt,fun x B hx=>(he.own x B hx).congr fun b N hb=>hkeep b ((he.own x B hx).lt hb),he.disj,fun a c hi=> ?_,he.sep⟩
    have hcc:=he.imm a c hi
    have hlt:a.block<w.heap.size:=by
     rcases Nat.lt_or_ge a.block w.heap.size with hl|hg
     ·exact hl
     ·simp [World.cell?,Array.getElem?_eq_none hg] at hcc
    simpa [World.cell?,hkeep _ hlt] using hcc
   exact ⟨E,.ret u,h,⟨u,rfl,rfl,hK u hK0⟩,⟨.refl E,hemb',hev.size,hev.os,hev.tape,hev.output,fun b hb _=>hkeep b hb,fun b ho=>.inl ho,fun _ _ h=>h⟩,.ret _ _ (Zb.vplain (E:=E₁) (E':=E) (fun a c hi=>hev.imm a c hi) _ _ hu hr)⟩
  ·exact hK0.elim
theorem ZQ {G:Zd} (hG:G.Ok) {n:Nat} {f:FuncId} {args:List AV} {h:Z6} {R:AV→Prop} {K:AV→Prop} (hp:XO args=true) (hc:evF G n f args ⟨0,[]⟩ (Y6 R)) (hK:∀u,R u→K u):
  Zm G.P f args h fun o h'=>∃v,o=.ret v∧h'=h∧K v:=Z5M hp (UG hG hc) hK
end Go.Tk
end
section
namespace Go.Tk
open IntKind (i64 u8 u32 u64 wrap)
end Go.Tk
end
section
namespace Go.Tk
open IntKind (i64 u8 u32 u64 wrap)
inductive Ty where
 | bool
 | int (k:IntKind)
 | str
 | arr (k:IntKind) (n:Nat)
 | ints (k:IntKind)
 | rows (esz:Nat) (ts:List Ty)
def Z9P (P:Program) (r:TypeId→Option (List Ty)) (sz:Nat):Nat→List Field→Option (List Ty)
 | o,[]=>if o=sz then some [] else none
 | o,f::fs=>if f.offset=o then (r f.type).bind fun a=>(Z9P P r sz (o+P.cellsOf f.type) fs).bind fun b=>some (a++b) else none
def Z08 (P:Program):Nat→TypeId→Option (List Ty)
 | 0,_=>none
 | m+1,t=>match P.underlying t with
  | some .bool=>some [.bool]
  | some (.int k)=>some [.int k]
  | some .string=>some [.str]
  | some (.array n e)=>match P.underlying e with
   | some (.int k)=>if P.cellsOf t=n∧P.cellsOf e=1 then some [.arr k n] else none
   | _=>(Z08 P m e).bind fun ts=>if P.cellsOf t=n*P.cellsOf e then some (List.replicate n ts).flatten else none
  | some (.slice e)=>match P.underlying e with
   | some (.int k)=>if P.cellsOf e=1 then some [.ints k] else none
   | _=>(Z08 P m e).bind fun ts=>some [.rows (P.cellsOf e) ts]
  | some (.struct fs)=>Z9P P (Z08 P m) (P.cellsOf t) 0 fs.toList
  | _=>none
mutual
inductive QX:Ty→AV→Prop
 | bool (b:Bool):QX .bool (.bool b)
 | int (k:IntKind) (n:Int) (h:(Lit.int k n).wf=true):QX (.int k) (.int k n)
 | str (s:ByteArray) (h:s.size≤maxLen):QX .str (.str s)
 | arr (k:IntKind) (n:Nat) (xs:List Int) (h:xs.length=n) (hw:∀i,i<n→(Lit.int k (xs.getD i 0)).wf=true):QX (.arr k n) (.arr k n xs)
 | ints (k:IntKind) (xs:List Int) (n:Nat) (h:xs.length=n) (hm:n≤maxLen) (hw:∀i,i<n→(Lit.int k (xs.getD i 0)).wf=true):QX (.ints k) (.vints k xs n)
 | rows (esz:Nat) (ts:List Ty) (n:Nat) (f:Nat→List AV) (hm:n≤maxLen) (h:∀i,i<n→Fits ts (f i)):QX (.rows esz ts) (.vrows esz n f n)
inductive Fits:List Ty→List AV→Prop
 | nil:Fits [] []
 | cons (t:Ty) (a:AV) (ts:List Ty) (vz:List AV) (h:QX t a) (r:Fits ts vz):Fits (t::ts) (a::vz)
end
theorem Fits.append:∀{ts wz:List Ty} {vz bs:List AV},Fits ts vz→Fits wz bs→Fits (ts++wz) (vz++bs)
 | _,_,_,_,.nil,h=>h
 | _,_,_,_,.cons t a ts vz h r,k=>.cons t a _ _ h (Fits.append r k)
def tE (w:World):Env:=⟨fun _=>none,fun a c=>w.cell? a=some c⟩
section
variable {H:Type} {enc:TypeId×Value→H} {P:Program} {w:World} {sp:Nat→Bool} {held:Bool}
theorem Uu {k:IntKind} {n:Nat} {cs:List Value} (hl:cs.length=n) (h:∀i,i<n→∃z,cs[i]? =some (.int k z)∧(Lit.int k z).wf=true):
  ∃xs:List Int,xs.length=n∧(∀i,i<n→(Lit.int k (xs.getD i 0)).wf=true)∧∀i,i<n→cs[i]? =some (.int k (xs.getD i 0)):=by
 refine ⟨cs.map fun v=>match v with|.int _ z=>z|_=>0,by simp [hl],fun i hi=> ?_,fun i hi=> ?_⟩
 ·obtain ⟨z,h1,h2⟩:=h i hi
  rw [List.getD_eq_getElem?_getD,List.getElem?_map,h1]
  exact h2
 ·obtain ⟨z,h1,h2⟩:=h i hi
  rw [List.getD_eq_getElem?_getD,List.getElem?_map,h1]
  rfl
theorem ZbO {α β:Type} {n:Nat} {p:Nat→α→β→Prop} [Inhabited α] [Inhabited β] (h:∀i,i<n→∃a b,p i a b):∃(f:Nat→α) (g:Nat→β),∀i,i<n→p i (f i) (g i):=
 ⟨fun i=>if hi:i<n then Classical.choose (h i hi) else default,fun i=>if hi:i<n then Classical.choose (Classical.choose_spec (h i hi)) else default,fun i hi=>by
  simp only [hi,dite_true]
  exact Classical.choose_spec (Classical.choose_spec (h i hi))⟩
theorem Z0j:∀(m:Nat) (t:TypeId) (ts:List Ty),Z08 P m t=some ts→∀(fuel:Nat) (cs:List Value) (x:DataW H×List MemPlace),DataW.trod enc P w 0 sp held fuel t cs=some x→∃vz,Fits ts vz∧Zq (tE w) vz cs
 | 0,_,_,ht=>by simp [Z08] at ht
 | m+1,t,ts,ht=>by
  intro fuel cs x hx
  unfold Z08 at ht
  split at ht
  ·rename_i hu
   cases ht
   obtain ⟨b,rfl,_⟩:=DataW.trod_bool hu hx
   exact ⟨[.bool b],.cons _ _ _ _ (.bool b) .nil,.one _ _ _ _ rfl rfl (.bool b) .nil⟩
  ·rename_i k hu
   cases ht
   obtain ⟨n,rfl,_,hw⟩:=DataW.trod_int hu hx
   exact ⟨[.int k n],.cons _ _ _ _ (.int k n hw) .nil,.one _ _ _ _ rfl rfl (.int k n) .nil⟩
  ·rename_i hu
   cases ht
   obtain ⟨s,rfl,_,hw⟩:=DataW.trod_string hu hx
   exact ⟨[.str s],.cons _ _ _ _ (.str s hw) .nil,.one _ _ _ _ rfl rfl (.str s) .nil⟩
  ·rename_i n e hu
   split at ht
   ·rename_i k he
    split at ht
    ·rename_i hc
     obtain ⟨hc,h1⟩:=hc
     cases ht
     obtain ⟨xs,q,rfl,rfl,hl,hn,hi⟩:=DataW.trod_array hu hx
     rw [hc] at hl
     obtain ⟨zs,z1,z2,z3⟩:=Uu (k:=k) hl fun i hlt=>by
      have:=hi i hlt
      rw [List.getElem?_eq_getElem (by omega),h1] at this
      obtain ⟨z,e1,_,e2⟩:=DataW.trod_int he this
      refine ⟨z, ?_,e2⟩
      rw [Nat.mul_one] at e1
      have:=congrArg (fun l=>l[0]?) e1
      simpa using this
     refine ⟨[.arr k n zs],.cons _ _ _ _ (.arr k n zs z1 z2) .nil, ?_⟩
     have:cs=intCells k n zs++[]:=by
      rw [List.append_nil]
      refine List.ext_getElem? fun i=> ?_
      by_cases hlt:i<n
      ·rw [z3 i hlt]
       simp [intCells,hlt]
      ·rw [List.getElem?_eq_none (by omega),List.getElem?_eq_none (by rw [Z4];omega)]
     rw [this]
     exact .arr _ _ _ _ _ .nil
    ·cases ht
   ·obtain ⟨es,e1,e2⟩:=Option.bind_eq_some_iff.1 ht
    split at e2
    ·rename_i hc
     cases e2
     obtain ⟨xs,q,rfl,rfl,hl,hn,hi⟩:=DataW.trod_array hu hx
     rw [hc] at hl
     have key:∀j,j≤n→∃vz,Fits (List.replicate j es).flatten vz∧Zq (tE w) vz (cs.take (j*P.cellsOf e)):=by
      intro j
      induction j with
      | zero=>intro _;exact ⟨[],.nil,by simp;exact .nil⟩
      | succ j ih=>
       intro hj
       obtain ⟨vz,f1,f2⟩:=ih (by omega)
       have:=hi j (by omega)
       rw [List.getElem?_eq_getElem (by omega)] at this
       obtain ⟨bs,p1,p2⟩:=Z0j m _ _ e1 _ _ _ this
       refine ⟨vz++bs, ?_, ?_⟩
       ·rw [List.replicate_succ',List.flatten_append,List.flatten_singleton]
        exact f1.append p1
       ·rw [Nat.succ_mul,List.take_add]
        exact f2.append p2
     obtain ⟨vz,f1,f2⟩:=key n (Nat.le_refl _)
     rw [List.take_of_length_le (by omega)] at f2
     exact ⟨vz,f1,f2⟩
    ·cases e2
  ·rename_i e hu
   split at ht
   ·rename_i k he
    split at ht
    ·rename_i hc
     cases ht
     rcases DataW.trod_slice hu hx with ⟨rfl,_⟩|⟨a,len,cap,elems,rest,n,rfl,rfl,_,_,hl,hm,hlen,hi,_,_⟩
     ·exact ⟨[.vints k [] 0],.cons _ _ _ _ (.ints k [] 0 rfl (Nat.zero_le _) fun i hi=>absurd hi (Nat.not_lt_zero i)) .nil,.one _ _ _ _ rfl rfl (.vintsNil _ _ _ rfl rfl) .nil⟩
     ·obtain ⟨zs,z1,z2,z3⟩:=Uu (k:=k) (n:=len) (cs:=(List.range len).map fun i=>(w.cell? (a.add i)).getD undef) (by simp) fun i hlt=>by
       have:=hi i hlt
       rw [List.getElem?_eq_getElem (by omega),hc,Nat.mul_one] at this
       obtain ⟨cs',h1,h2⟩:=Option.bind_eq_some_iff.1 this
       obtain ⟨z,rfl,_,e2⟩:=DataW.trod_int he h2
       refine ⟨z, ?_,e2⟩
       simp [hlt,Go.ChangeShapes.cell_of_cells?_one h1]
      refine ⟨[.vints k zs len],.cons _ _ _ _ (.ints k zs len z1 (by omega) z2) .nil,.one _ _ _ _ rfl rfl (.vints k zs len a cap (by omega) (by omega) fun i hlt=> ?_) .nil⟩
      rw [z1] at hlt
      have:=hi i hlt
      rw [List.getElem?_eq_getElem (by omega),hc,Nat.mul_one] at this
      obtain ⟨cs',h1,h2⟩:=Option.bind_eq_some_iff.1 this
      obtain ⟨z,rfl,_,e2⟩:=DataW.trod_int he h2
      have h3:=z3 i hlt
      have h4:=Go.ChangeShapes.cell_of_cells?_one h1
      simp [hlt,h4] at h3
      show w.cell? (a.add i)=_
      rw [h4,h3,List.getD_eq_getElem?_getD]
    ·cases ht
   ·obtain ⟨es,h1,h2⟩:=Option.bind_eq_some_iff.1 ht
    cases h2
    rcases DataW.trod_slice hu hx with ⟨rfl,_⟩|⟨a,len,cap,elems,rest,n,rfl,rfl,_,_,hl,hm,hlen,hi,_,_⟩
    ·exact ⟨[.vrows (P.cellsOf e) 0 (fun _=>[]) 0],.cons _ _ _ _ (.rows _ _ 0 _ (Nat.zero_le _) fun i hi=>absurd hi (Nat.not_lt_zero i)) .nil,.one _ _ _ _ rfl rfl (.vrowsNil _ _ _ _ rfl rfl) .nil⟩
    ·obtain ⟨f,g,hfg⟩:=ZbO (n:=len) (p:=fun i (vz:List AV) (vs:List Value)=>Fits es vz∧Zq (tE w) vz vs∧w.cells? 0 (a.add (i*P.cellsOf e)) (P.cellsOf e)=some vs) fun i hlt=>by
      have:=hi i hlt
      rw [List.getElem?_eq_getElem (by omega)] at this
      obtain ⟨cs',k1,k2⟩:=Option.bind_eq_some_iff.1 this
      obtain ⟨vz,f1,f2⟩:=Z0j m _ _ h1 _ _ _ k2
      exact ⟨vz,cs',f1,f2,k1⟩
     refine ⟨[.vrows (P.cellsOf e) len f len],.cons _ _ _ _ (.rows _ _ len f (by omega) fun i hlt=>(hfg i hlt).1) .nil,.one _ _ _ _ rfl rfl (.vrows _ _ _ _ a cap g (Nat.le_refl _) hl (fun i hlt=>(hfg i hlt).2.1) (fun i hlt=>(World.cells?_some (hfg i hlt).2.2).2.1) fun i j c hlt hj=> ?_) .nil⟩
     obtain ⟨_,hl',hc'⟩:=World.cells?_some (hfg i hlt).2.2
     have hj':j<P.cellsOf e:=by
      rcases Nat.lt_or_ge j (P.cellsOf e) with h|h
      ·exact h
      ·rw [List.getElem?_eq_none (by omega)] at hj;cases hj
     have:=hc' j hj'
     rw [hj] at this
     show w.cell? (a.add (i*P.cellsOf e+j))=some c
     rw [←this]
     rw [Addr.add_add]
  ·rename_i fs hu
   obtain ⟨xs,n,rfl,rfl,hl,hn,hf⟩:=DataW.trod_struct hu hx
   have key:∀(l:List Field) (o:Nat) (ts:List Ty) (i0:Nat),Z9P P (Z08 P m) (P.cellsOf t) o l=some ts→(∀i f,l[i]? =some f→fs[i0+i]? =some f)→∃vz,Fits ts vz∧Zq (tE w) vz (cs.drop o):=by
    intro l
    induction l with
    | nil=>
     intro o ts i0 h _
     unfold Z9P at h
     split at h
     ·rename_i ho
      cases h
      exact ⟨[],.nil,by rw [List.drop_eq_nil_of_le (by omega)];exact .nil⟩
     ·cases h
    | cons f l ih=>
     intro o ts i0 h hl'
     unfold Z9P at h
     split at h
     ·rename_i ho
      obtain ⟨a,h1,h2⟩:=Option.bind_eq_some_iff.1 h
      obtain ⟨b,h3,h4⟩:=Option.bind_eq_some_iff.1 h2
      cases h4
      have h0:fs[i0]? =some f:=hl' 0 f rfl
      have hlt:i0<fs.size:=by
       rcases Nat.lt_or_ge i0 fs.size with h|h
       ·exact h
       ·rw [Array.getElem?_eq_none (by omega)] at h0;cases h0
      have k:=hf i0 f h0
      rw [List.getElem?_eq_getElem (by omega),ho] at k
      obtain ⟨vz,p1,p2⟩:=Z0j m _ _ h1 _ _ _ k
      obtain ⟨bs,q1,q2⟩:=ih (o+P.cellsOf f.type) b (i0+1) h3 fun i g hg=>by
       have:=hl' (i+1) g hg
       rw [←this];congr 1;omega
      refine ⟨vz++bs,p1.append q1, ?_⟩
      have e:cs.drop o=(cs.drop o).take (P.cellsOf f.type)++cs.drop (o+P.cellsOf f.type):=by
       rw [←List.drop_drop,List.take_append_drop]
      rw [e]
      exact p2.append q2
     ·cases h
   obtain ⟨vz,h1,h2⟩:=key fs.toList 0 ts 0 ht fun i f h=>by simpa using h
   exact ⟨vz,h1,by simpa using h2⟩
  ·cases ht
def isAgg (P:Program) (t:TypeId):Bool:=match P.underlying t with
 | some (.struct _)|some (.array _ _)=>true
 | _=>false
inductive Z4j:Bool→List Ty→AV→Prop
 | agg (ts:List Ty) (vz:List AV) (h:Fits ts vz):Z4j true ts (.agg vz)
 | one (t:Ty) (a:AV) (h:QX t a):Z4j false [t] a
theorem Z9Q {m:Nat} {t:TypeId} {ts:List Ty} (ht:Z08 P m t=some ts) (hg:isAgg P t=false) {v:Value} {r:Reach} {b:Nat} (hv:Value.okWide P w r b t v):
  v.cells.toList=[v]∧∃τ,ts=[τ]∧∀k n,τ≠.arr k n:=by
 cases m with
 | zero=>simp [Z08] at ht
 | succ m=>
  unfold Z08 at ht
  unfold isAgg at hg
  split at ht
  ·rename_i hu;cases ht;obtain ⟨b,rfl⟩:=Go.WideShapes.okWide_bool hu hv;exact ⟨rfl,_,rfl,fun _ _ h=>by cases h⟩
  ·rename_i hu;cases ht;obtain ⟨b,rfl⟩:=Go.WideShapes.okWide_int hu hv;exact ⟨rfl,_,rfl,fun _ _ h=>by cases h⟩
  ·rename_i hu;cases ht;obtain ⟨b,rfl⟩:=Go.WideShapes.okWide_string hu hv;exact ⟨rfl,_,rfl,fun _ _ h=>by cases h⟩
  ·rename_i hu;simp [hu] at hg
  ·rename_i hu
   obtain ⟨a,l,c,rfl⟩:=Go.WideShapes.okWide_slice hu hv
   split at ht
   ·split at ht
    ·cases ht;exact ⟨rfl,_,rfl,fun _ _ h=>by cases h⟩
    ·cases ht
   ·obtain ⟨es,h1,h2⟩:=Option.bind_eq_some_iff.1 ht
    cases h2;exact ⟨rfl,_,rfl,fun _ _ h=>by cases h⟩
  ·rename_i hu;simp [hu] at hg
  ·cases ht
theorem Z9R {m:Nat} {t:TypeId} {ts:List Ty} {g:Bool} (ht:Z08 P m t=some ts) (hg:isAgg P t=g) {v:Value} {r:Reach} {b:Nat} (hv:Value.okWide P w r b t v) {d:DataW H} {ps:List MemPlace} (h:DataW.Trod enc P w 0 sp held t v d ps):
  ∃a,Z4j g ts a∧Zb (tE w) a v:=by
 obtain ⟨fuel,hf⟩:=h
 obtain ⟨vz,f1,f2⟩:=Z0j m _ _ ht _ _ _ hf
 cases g with
 | true=>
  have:∃cs,v=.agg cs:=by
   unfold isAgg at hg
   unfold Value.okWide at hv
   split at hg
   ·rename_i hu;simp only [hu] at hv;obtain ⟨cs,rfl,_⟩:=hv;exact ⟨cs,rfl⟩
   ·rename_i hu;simp only [hu] at hv;obtain ⟨cs,rfl,_⟩:=hv;exact ⟨cs,rfl⟩
   ·cases hg
  obtain ⟨cs,rfl⟩:=this
  refine ⟨.agg vz,.agg _ _ f1, ?_⟩
  have:cs=(Value.cells (.agg cs)).toList.toArray:=by simp [Value.cells]
  rw [this]
  exact .agg _ _ f2
 | false=>
  obtain ⟨h1,τ,rfl,h2⟩:=Z9Q ht hg hv
  rw [h1] at f2
  cases f1 with
  | cons _ a _ vz f r=>
   cases r
   generalize hL:[v]=L at f2
   cases f2 with
   | one _ _ _ _ h0 h1 h t=>cases hL;exact ⟨_,.one _ _ f,h⟩
   | arr k n xs _ cs t=>cases f;exact absurd rfl (h2 _ _)
end
end Go.Tk
end
section
namespace Go.Tk
open IntKind (i64 u8 u32 u64 wrap)
open Go.ChangeShapes Go.WideShapes Go.RowKit
theorem Ze8 (w:World):Emb (tE w) ⟨0,[]⟩ w where
 fresh:=fun _ _=>rfl
 lt:=fun x B h=>by simp [Z6.get,ZC] at h
 own:=fun x B h=>by simp [Z6.get,ZC] at h
 disj:=fun x y B B' b N N' h=>absurd h (by simp [Z6.get,ZC])
 imm:=fun _ _ h=>h
 sep:=fun a c x B N _ h=>absurd h (by simp [Z6.get,ZC])
theorem Zm.topT {P:Program} {f:FuncId} {args:List AV} (h:Zm P f args ⟨0,[]⟩ fun o h'=>∃v,o=.ret v∧h'=⟨0,[]⟩∧v=.bool true) {w:World} {rs:List Value} (hl:ZA (tE w) args rs):
  Calls P f rs.toArray w fun e w'=>e=.returned (.bool true)∧Go.RowKit.Below w.heap.size w w':=by
 refine (h (tE w) w rs (Ze8 w) hl).mono ?_
 rintro e w' ⟨E',o,h',⟨v,rfl,rfl,hv⟩,hev,hor⟩
 obtain rfl:=hv
 cases hor with
 | ret v r hr=>
  cases hr
  refine ⟨rfl,hev.os,hev.tape,hev.output.1,hev.size,fun k hk=>hev.keep k hk ?_⟩
  rintro ⟨x,B,N,hx,_⟩
  exact absurd hx (by simp [Z6.get,ZC])
def Z5N (P:Program) (m:Nat):List TypeId→Option (List (Bool×List Ty))
 | []=>some []
 | t::r=>(Z08 P m t).bind fun a=>(Z5N P m r).bind fun b=>some ((isAgg P t,a)::b)
inductive Z2q:List (Bool×List Ty)→List AV→Prop
 | nil:Z2q [] []
 | cons (g:Bool) (ts:List Ty) (a:AV) (r:List (Bool×List Ty)) (vz:List AV) (h:Z4j g ts a) (k:Z2q r vz):Z2q ((g,ts)::r) (a::vz)
section
variable {H:Type} {enc:TypeId×Value→H} {P:Program} {w:World}
theorem Z2r {m:Nat} {r:Reach} {b:Nat}:∀{ts:List TypeId} {τs:List (Bool×List Ty)} {vs:List Value} {ds:List (DataW H)} {ps:List MemPlace},Z5N P m ts=some τs→(∀(j:Nat) t v,ts[j]? =some t→vs[j]? =some v→Value.okWide P w r b t v)→
  DataW.TrodAll enc P w 0 (fun _=>true) true ts vs ds ps→∃vz,Z2q τs vz∧ZA (tE w) vz vs
 | [],τs,vs,ds,ps,ha,_,h=>by
  cases ha
  obtain ⟨rfl,_,_⟩:=trodAll_nil h
  exact ⟨[],.nil,.nil⟩
 | t::ts,τs,vs,ds,ps,ha,hv,h=>by
  obtain ⟨a,h1,h2⟩:=Option.bind_eq_some_iff.1 ha
  obtain ⟨c,h3,h4⟩:=Option.bind_eq_some_iff.1 h2
  cases h4
  obtain ⟨v,vs',d,ds',p,q,rfl,rfl,rfl,k1,k2⟩:=trodAll_cons h
  obtain ⟨x,f1,f2⟩:=Z9R h1 rfl (hv 0 t v rfl rfl) k1
  obtain ⟨vz,g1,g2⟩:=Z2r h3 (fun j t' v' e1 e2=>hv (j+1) t' v' e1 e2) k2
  exact ⟨x::vz,.cons _ _ _ _ _ f1 g1,.cons _ _ _ _ f2 g2⟩
theorem QY {sp:Nat→Bool} {held:Bool}:∀{ts:List TypeId} {vs:List Value} {ds:List (DataW H)} {ps:List MemPlace},DataW.TrodAll enc P w 0 sp held ts vs ds ps→ds.length=ts.length
 | [],_,_,_,h=>by obtain ⟨_,rfl,_⟩:=trodAll_nil h;rfl
 | t::ts,_,_,_,h=>by
  obtain ⟨v,vs',d,ds',p,q,rfl,rfl,rfl,k1,k2⟩:=trodAll_cons h
  simp [QY k2]
theorem Z2s {W':World} (laid:laidOutB P=true) (hb:Below w.heap.size w W'):∀{ts:List TypeId} {vs:List Value} {ds:List (DataW H)} {ps:List MemPlace},ts.all (fun t=>P.readableRec t&&decide (t<P.types.size))=true→
  DataW.TrodAll enc P w 0 (fun _=>true) true ts vs ds ps→DataW.TrodAll enc P W' 0 (fun b=>decide (b<w.heap.size)) true ts vs ds ps
 | [],_,_,_,_,h=>by obtain ⟨rfl,rfl,rfl⟩:=trodAll_nil h;exact trodAll_mk0
 | t::ts,_,_,_,hr,h=>by
  obtain ⟨v,vs',d,ds',p,q,rfl,rfl,rfl,k1,k2⟩:=trodAll_cons h
  simp only [List.all_cons,Bool.and_eq_true,decide_eq_true_eq] at hr
  have lt:∀x∈p,x.block<w.heap.size:=by obtain ⟨m,hm⟩:=k1;exact DataW.trod_lt m _ _ _ hm
  exact trodAll_cons_mk (Below.trod laid hr.1.1 hr.1.2 k1 hb lt) (Z2s laid hb hr.2 k2)
end
theorem lifted_gen {H:Type} {enc:TypeId×Value→H} {C:Checked} {os:Os} {f:FuncId} {fn:Func} {s:ChangeSpec} {conds:List PathCond} {tb:TypeId} {m:Nat} {τs:List (Bool×List Ty)}
  (own:ownKnob C.prog.godebug=none) (laid:laidOutB C.prog=true) (started:os.Started) (noInit:C.prog.inits.idxOf? f=none) (hfn:C.prog.funcs[f]? =some fn)
  (witness:∃(w:World) (tape:Tape) (i:Input),w.os=os∧(w.forCall tape i).Shaped C.prog∧i.vars=[]∧Input.okWide C.prog (w.forCall tape i) .any w.heap.size f i∧
   s.pre6 enc C.prog fn conds false (w.forCall tape i).memory i.args∧({}:Assume).holds C.prog (lone (Frame.enter C.prog f i.args .normal) [] (w.forCall tape i)))
  (hvars:s.vars=[]) (hr:fn.resultTypes= #[tb]) (hb:C.prog.underlying tb=some .bool) (hread:fn.params.toList.all (fun t=>C.prog.readableRec t&&decide (t<C.prog.types.size))=true) (hτ:Z5N C.prog m fn.params.toList=some τs)
  (hs:∀ds:List (DataW H),ds.length=fn.params.toList.length→s.fn H ds={ results:=[.lit (.bool true)],args:=ds})
  (walk:∀vz,Z2q τs vz→Zm C.prog f vz ⟨0,[]⟩ fun o h'=>∃v,o=.ret v∧h'=⟨0,[]⟩∧v=.bool true):
  ReturnsInHanded {} C os f .any (s.pre6 enc C.prog fn conds false) (s.post enc C.prog fn false true false false):=by
 refine returnsInHanded_of_change own started noInit hfn witness ?_
 intro W base args ds gs before hval hW _ _
 have hW':=hW
 obtain ⟨p,q,hA,hV,rfl,hfz,hnd⟩:=hW
 have hV0:=hV
 rw [hvars] at hV
 obtain ⟨rfl,rfl⟩:=trodVars_none hV
 obtain ⟨vz,f1,f2⟩:=Z2r hτ (fun j t v e1 e2=>hval j t v (by simpa using e1) (by simpa using e2)) hA
 have e0:args=args.toList.toArray:=by simp
 have key:=(walk vz f1).topT f2
 rw [←e0] at key
 refine key.mono fun e W' ⟨he,bel⟩=> ?_
 subst he
 have hfn':=hs ds (QY hA)
 refine ⟨_,rfl,ds,[],_,[],p,[],hW', ?_, ?_, ?_,bel.frame _,fun h=>by cases h⟩
 ·rw [List.append_nil,hfn',hr]
  exact trodAll_mk1 (shut_bool hb _)
 ·rw [List.append_nil,hfn']
  exact Z2s laid bel hread hA
 ·rw [List.append_nil,hfn',hvars]
  rfl
end Go.Tk
end
section
namespace Go.Tk
open IntKind (i64 u8 u32 u64 wrap)
def Z3k (P:Program) (f:FuncId) (id:Nat):Bool:=match P.funcs[f]? with
 | some fn=>match fn.body with
  | some b=>match Va id (Zw b) with|[_]=>true|_=>false
  | none=>false
 | none=>false
theorem Z7Z {P:Program} {f:FuncId} {id:Nat} (h:Z3k P f id=true) {fn:Func} {body c:Code} (hf:P.funcs[f]? =some fn) (hb:fn.body=some body) (hm:(id,c)∈Zw body):c=Wp P f id:=by
 have hc:=Wo hm
 simp only [Z3k,hf,hb] at h
 split at h
 ·rename_i d hd
  have hbo:UN P f=body:=by simp [UN,hf,hb]
  have hbl:Wp P f id=d:=by unfold Wp;rw [hbo,hd]
  rw [hd] at hc
  rw [List.mem_singleton] at hc
  rw [hbl];exact hc
 ·cases h
@[irreducible] def Z4k (G:Zd) (n:Nat) (f:FuncId) (id:Nat) (k:Nat) (s:St) (X:KE):Prop:=evC G (Z1S G n f none) k (Wp G.P f id) s X
end Go.Tk
end
section
namespace Go.Tk
open IntKind (i64 u8 u32 u64 wrap)
theorem w8m (x:Int) (h:0≤x):u8.wrap (Int.tmod x 256)=u8.wrap x:=by
 rw [tm h]
 unfold wrap
 simp [IntKind.bits,IntKind.signed]
theorem ZbP {n k:Int} (h:0≤n):0≤Zr .i64 n k:=by
 unfold Zr
 rw [Int.fdiv_eq_ediv_of_nonneg _ (by exact Int.le_of_lt (Int.pow_pos (by decide)))]
 exact Int.ediv_nonneg h (by exact Int.le_of_lt (Int.pow_pos (by decide)))
theorem b8m {n k:Int} (h:0≤n):u8.wrap (Int.tmod (Zr .i64 n k) 256)=b8 n k:=w8m _ (ZbP h)
theorem Ze9 (n:Int) (ys:List Int) (L:Nat) (hn:0≤n) (hy:ys=Zn n) (hL:L=ys.length):
  evF G0 20 123 [.int .i64 n] ⟨0,[]⟩ (Ya 0 (.ret (.nslice ⟨0,0,0,0,0⟩ 1 L L)) 1 [(0,.ints .u8 ys)]):=by
 refine @Eq.mpr _ (let q1:=[wrap u8 (Int.tmod (Zr i64 n 8) 256),wrap u8 (Int.tmod (Zr i64 n 0) 256)];
 let q2:=wrap u8 (Int.tmod (Zr i64 n 24) 256)::wrap u8 (Int.tmod (Zr i64 n 16) 256)::q1;
 Z0 (decide (n<253)) (Z0 (decide (1=L)) (Z0 (decide (L≤1)) ([wrap u8 n]=ys∧True) False) False) (Z0 (decide (n<65536)) (Z0 (decide (3=L)) (Z0 (decide (L≤3)) ((253:Int)::q1=ys∧True) False) False) (Z0 (decide (n<4294967296)) (Z0 (decide (5=L)) (Z0 (decide (L≤5)) ((254:Int)::q2=ys∧True) False) False) (Z0 (decide (9=L)) (Z0 (decide (L≤9)) ((255:Int)::wrap u8 (Int.tmod (Zr i64 n 56) 256)::wrap u8 (Int.tmod (Zr i64 n 48) 256)::wrap u8 (Int.tmod (Zr i64 n 40) 256)::wrap u8 (Int.tmod (Zr i64 n 32) 256)::q2=ys∧True) False) False)))) (by kernel_rfl) ?_
 conv=>zeta
 try simp only [Zi]
 try simp only [Zj]
 try simp only [Zg]
 try simp only [Zk]
 try simp only [Zl]
 try simp only [Zh]
 try simp only [Int.toNat_natCast,Nat.zero_add,true_and,and_true,Nat.le_refl]
 subst hy hL
 refine ⟨fun h1=> ?_,fun h1=>⟨fun h2=> ?_,fun h2=>⟨fun h3=> ?_,fun h3=> ?_⟩⟩⟩
 ·rw [Z6L h1];simp
 ·rw [Z9A h1 h2];simp [b8m hn]
 ·rw [Z9B h1 h2 h3];simp [b8m hn]
 ·rw [Z9C h1 h2 h3];simp [b8m hn]
def Z6M (W:Int→List Int):Yn:=fun args h K=>match args with
 | [.int .i64 n]=>Zt (0≤n) (K (.ret (.nslice ⟨h.next,0,0,0,0⟩ 1 (W n).length (W n).length)) ⟨h.next+1,(h.next,.ints .u8 (W n))::h.bs⟩)
 | _=>False
theorem Z4l (args:List AV) (h:Z6) (K:KO) (hl:Z6M Zn args h K):Zm PP 123 args h K:=by
 unfold Z6M at hl
 split at hl
 ·obtain ⟨hn,hK⟩:=Z8 hl
  exact (Zy.evM Zu (Ze9 _ _ _ hn rfl rfl)).calls (fun E w rs he hr=>by
   cases hr with
   | cons v r vs rs h1 h2=>cases h2;exact .cons _ _ _ _ (h1.plain rfl) .nil) rfl ⟨Nat.one_pos,.ints _ _,trivial⟩ hK
 ·exact hl.elim
noncomputable def E30 (W:Int→List Int):Zd:=G0.withF 123 (Z6M W)
theorem Zea:(E30 Zn).Ok:=Zd.withF_ok Zu Z4l
def Wf:Nat→List Int→Nat→Int→Int
 | 0,_,_,n=>n
 | m+1,xs,k,n=>Wf m xs (k+1) (256*n+xs.getD k 0)
structure Bytes (xs:List Int):Prop where
 h:∀i:Nat,0≤xs.getD i 0∧xs.getD i 0≤255
theorem Bytes.drop {xs:List Int} (h:Bytes xs) (n:Nat):Bytes (xs.drop n):=⟨fun i=>by
 have:=h.h (n+i)
 rw [List.getD_eq_getElem?_getD] at this
 rw [List.getD_eq_getElem?_getD,List.getElem?_drop]
 exact this⟩
theorem Z9S {x:Int} (h:0≤x∧x<18446744073709551616):u64.wrap x=x:=by
 unfold wrap
 simp [IntKind.bits,IntKind.signed]
 omega
def inZ:InS:=⟨Zc,0,0,Zc,Zc,Zc⟩
def ZgV:Z1W:=⟨0,0,Zc,Zc,Zc,Zc,0,0⟩
end Go.Tk
end
section
namespace Go.Tk
open IntKind (i64 u8 u32 u64 wrap)
theorem Z9T {n c:Int} (h0:0≤n) (h1:n<36028797018963968) (h2:0≤c) (h3:c≤255):QW n c=256*n+c:=by
 unfold QW bOr Zz
 have e1:(n*2^(min (8:Int).toNat i64.bits))=n*256:=by simp [IntKind.bits]
 rw [e1,w64 (x:=n*256) (by omega)]
 obtain ⟨a,rfl⟩:=Int.eq_ofNat_of_zero_le h0
 obtain ⟨b,rfl⟩:=Int.eq_ofNat_of_zero_le h2
 have e2:((BitVec.ofInt i64.bits ((a:Int)*256))|||(BitVec.ofInt i64.bits (b:Int))).toNat=256*a+b:=by
  have ea:BitVec.ofInt 64 ((a:Int)*256)=BitVec.ofNat 64 (a*256):=by
   rw [←BitVec.ofInt_natCast];rfl
  have eb:BitVec.ofInt 64 (b:Int)=BitVec.ofNat 64 b:=BitVec.ofInt_natCast 64 b
  show (BitVec.ofInt 64 ((a:Int)*256)|||BitVec.ofInt 64 (b:Int)).toNat=_
  rw [ea,eb,BitVec.toNat_or,BitVec.toNat_ofNat,BitVec.toNat_ofNat,Nat.mod_eq_of_lt (by omega),Nat.mod_eq_of_lt (by omega)]
  have:=Nat.shiftLeft_add_eq_or_of_lt (a:=a) (b:=b) (i:=8) (by omega)
  rw [Nat.shiftLeft_eq] at this
  rw [←this];omega
 rw [e2,w64 (by omega)]
 omega
theorem Z5O {c:Int} (h2:0≤c) (h3:c≤255):QW 36028797018963968 c<0:=by
 have h:∀b:Fin 256,QW 36028797018963968 (b.val:Int)<0:=by decide+kernel
 have:=h ⟨c.toNat,by omega⟩
 have e:((c.toNat:Nat):Int)=c:=Int.toNat_of_nonneg h2
 rw [show ((⟨c.toNat,by omega⟩:Fin 256).val:Int)=c from e] at this
 exact this
theorem Z0k:∀(m:Nat) (xs:List Int) (k:Nat) (n:Int),Bytes xs→0≤n→n*256^m≤Wf m xs k n
 | 0,xs,k,n,hb,hn=>by simp [Wf]
 | m+1,xs,k,n,hb,hn=>by
  have hc:=hb.h k
  have:=Z0k m xs (k+1) (256*n+xs.getD k 0) hb (by omega)
  unfold Wf
  refine Int.le_trans ?_ this
  rw [Int.pow_succ,Int.mul_comm (256^m) 256,←Int.mul_assoc]
  exact Int.mul_le_mul_of_nonneg_right (by omega) (Int.le_of_lt (Int.pow_pos (by decide)))
theorem Z9U {a b:Nat} (h:a≤b):(256:Int)^a≤256^b:=by
 have h1:=Nat.pow_le_pow_right (n:=256) (by decide) h
 have h2:((256^a:Nat):Int)≤((256^b:Nat):Int):=Int.ofNat_le.2 h1
 rw [Int.natCast_pow,Int.natCast_pow] at h2
 exact h2
theorem Zfp (m:Nat):(1:Int)≤256^m:=Int.pow_pos (by decide)
theorem Z6N:∀(m:Nat) (xs:List Int) (k:Nat) (n:Int),Bytes xs→0≤n→m≤8→n<256^(8-m)→
  (goN m xs k n=none∧Wf m xs k n>4611686018427387904)∨(∃v,goN m xs k n=some v∧((v=Wf m xs k n∧0≤v)∨(v<0∧Wf m xs k n>4611686018427387904)))
 | 0,xs,k,n,hb,hn,hm,hl=>.inr ⟨n,rfl,.inl ⟨rfl,hn⟩⟩
 | m+1,xs,k,n,hb,hn,hm,hl=>by
  have hc:=hb.h k
  have hge:=Z0k (m+1) xs k n hb hn
  by_cases h1:n>36028797018963968
  ·left
   refine ⟨by unfold goN;rw [if_pos h1], ?_⟩
   have:=Zfp m
   rw [Int.pow_succ] at hge
   have h2:n*(1*256)≤n*(256^m*256):=Int.mul_le_mul_of_nonneg_left (Int.mul_le_mul_of_nonneg_right this (by decide)) hn
   omega
  ·unfold goN Wf
   rw [if_neg h1]
   have hw:i64.wrap (xs.getD k 0)=xs.getD k 0:=w64 (by omega)
   rw [hw]
   by_cases h2:n=36028797018963968
   ·subst h2
    have hm0:m=0:=by
     have hq:(36028797018963968:Int)=256^6*128:=by decide
     rcases Nat.eq_zero_or_pos m with h|h
     ·exact h
     ·exfalso
      have hle:(256:Int)^(8-(m+1))≤256^6:=Z9U (by omega)
      have:(256:Int)^6=281474976710656:=by decide
      omega
    subst hm0
    right
    refine ⟨_,rfl,.inr ⟨Z5O hc.1 hc.2, ?_⟩⟩
    show 256*36028797018963968+xs.getD k 0>_
    omega
   ·rw [Z9T hn (by omega) hc.1 hc.2]
    refine Z6N m xs (k+1) _ hb (by omega) (by omega) ?_
    have e:8-m=(8-(m+1))+1:=by omega
    rw [e,Int.pow_succ]
    omega
theorem Z2t {xs:List Int} (hb:Bytes xs) {m:Nat} (h:xs.length≠0) (hm:Yz (xs.getD 0 0)=m) (hm0:m≠0) (h8:m≤8) (hl:m<xs.length):
  Ze Zn xs=if Wf m xs 1 0>4611686018427387904 then ((0:Int),(-1:Int)) else if (Zn (Wf m xs 1 0)).length=1+m then (Wf m xs 1 0,1+(m:Int)) else ((0:Int),(-1:Int)):=by
 rw [WV h hm hm0 hl]
 have hv:∀(m k:Nat) (n:Int),Wf m (xs.drop 1) k n=Wf m xs (k+1) n:=by
  intro m
  induction m with
  | zero=>intro k n;rfl
  | succ m ih=>
   intro k n
   unfold Wf
   rw [ih]
   congr 2
   rw [List.getD_eq_getElem?_getD,List.getD_eq_getElem?_getD,List.getElem?_drop,Nat.add_comm]
 have hv:=hv m 0 0
 rcases Z6N m (xs.drop 1) 0 0 (hb.drop 1) (by decide) h8 (Zfp _) with ⟨h1,h2⟩|⟨v,h1,h2⟩
 ·rw [h1,if_pos (by rw [←hv];exact h2)]
 ·rw [h1]
  rcases h2 with ⟨rfl,h0⟩|⟨h0,h2⟩
  ·rw [hv]
  ·show (if v>4611686018427387904 then ((0:Int),(-1:Int)) else if (Zn v).length=1+m then (v,1+(m:Int)) else (0, -1))=_
   rw [if_neg (by omega),if_neg,if_pos (by rw [←hv];exact h2)]
   rw [Z6L (by omega)]
   simp
   omega
theorem Z1m {n c:Int} (h0:0≤n) (h1:n<72057594037927936) (h2:0≤c∧c≤255):u64.wrap (u64.wrap (256*n)+u64.wrap c)=256*n+c:=by
 rw [Z9S (x:=c) (by omega),Z9S (x:=256*n) (by omega),Z9S (by omega)]
theorem Zeb {c:Int} (h2:0≤c∧c≤255):u64.wrap (0+u64.wrap c)=256*0+c:=by
 rw [Z9S (x:=c) (by omega),Z9S (by omega)];omega
theorem Xq {xs:List Int} {F:Int×Int} (hb:Bytes xs) {m:Nat} {M:Int} (hF:F=Ze Zn xs) (hM:M=1+m) (h:xs.length≠0) (hm:Yz (xs.getD 0 0)=m) (hm0:m≠0) (h8:m≤8) (hl:m<xs.length):
  (Wf m xs 1 0>4611686018427387904→0=F.1∧ -1=F.2)∧(¬Wf m xs 1 0>4611686018427387904→0≤i64.wrap (Wf m xs 1 0)∧
   ((((Zn (i64.wrap (Wf m xs 1 0))).length:Int) !=M)=true→0=F.1∧ -1=F.2)∧((((Zn (i64.wrap (Wf m xs 1 0))).length:Int) !=M)=false→i64.wrap (Wf m xs 1 0)=F.1∧M=F.2)):=by
 have he:=Z2t hb h hm hm0 h8 hl
 have hge:=Z0k m xs 1 0 hb (by decide)
 rw [Int.zero_mul] at hge
 generalize Wf m xs 1 0=V at*
 subst hM
 rw [hF,he]
 refine ⟨fun h1=>by rw [if_pos h1];exact ⟨rfl,rfl⟩,fun h1=> ?_⟩
 rw [w64 (x:=V) (by omega)]
 refine ⟨hge,fun h2=> ?_,fun h2=> ?_⟩
 ·rw [bne_iff_ne] at h2
  rw [if_neg h1,if_neg (by omega)]
  exact ⟨rfl,rfl⟩
 ·rw [bne_eq_false_iff_eq] at h2
  rw [if_neg h1,if_pos (by omega)]
  exact ⟨rfl,rfl⟩
theorem Z9V (W:Int→List Int) (xs:List Int) (N:Nat) (F:Int×Int) (hN:xs.length=N) (hW:W=Zn) (hb:Bytes xs) (hF:F=Ze Zn xs):
  evF (E30 W) 20 196 [.vints .u8 xs N] ⟨0,[]⟩ (Ya 0 (.ret (.tuple [.int .i64 F.1,.int .i64 F.2])) 0 []):=by
 refine @Eq.mpr _ (let q1:=decide (0=F.fst);
 let q2:=Z0 q1 (Z0 (decide (0=F.snd)) True False) False;
 let q3:=decide ((0:Int)≤0∧0<(↑N:Int));
 let q4:=List.getD xs 0 0;
 let q5:=q4==255;
 let q6:=decide ((0:Int)≤1∧1<(↑N:Int));
 let q7:=decide ((0:Int)≤2∧2<(↑N:Int));
 let q8:=decide ((0:Int)≤3∧3<(↑N:Int));
 let q9:=decide ((0:Int)≤4∧4<(↑N:Int));
 let q10:=wrap u64 (wrap u64 (256*wrap u64 (0+wrap u64 (List.getD xs 1 0)))+wrap u64 (List.getD xs 2 0));
 let q11:=wrap u64 (wrap u64 (256*wrap u64 (wrap u64 (256*q10)+wrap u64 (List.getD xs 3 0)))+wrap u64 (List.getD xs 4 0));
 let q12:=wrap u64 (wrap u64 (256*wrap u64 (wrap u64 (256*wrap u64 (wrap u64 (256*wrap u64 (wrap u64 (256*q11)+wrap u64 (List.getD xs 5 0)))+wrap u64 (List.getD xs 6 0)))+wrap u64 (List.getD xs 7 0)))+wrap u64 (List.getD xs 8 0));
 let q13:=Z0 q1 (Z0 (decide (-1=F.snd)) True False) False;
 let q14:=wrap i64 q12;
 let q15:=Z0 (decide ((↑N:Int)<9)) q2 (Z0 q6 (Z0 q7 (Z0 q8 (Z0 q9 (Z0 (decide ((0:Int)≤5∧5<(↑N:Int))) (Z0 (decide ((0:Int)≤6∧6<(↑N:Int))) (Z0 (decide ((0:Int)≤7∧7<(↑N:Int))) (Z0 (decide ((0:Int)≤8∧8<(↑N:Int))) (Z0 (decide (q12>4611686018427387904)) q13 (Z0 (decide (0≤q14)) (Z0 ((↑(List.length (W q14)):Int) !=9) q13 (Z0 (decide (q14=F.fst)) (Z0 (decide (9=F.snd)) True False) False)) False)) False) False) False) False) False) False) False) False);
 let q16:=wrap i64 q11;
 let q17:=wrap i64 q10;
 Z0 ((↑N:Int)==0) q2 (Z0 q3 (Z0 (decide (q4<253)) (Z0 q3 (Z0 (decide (wrap i64 q4=F.fst)) (Z0 (decide (1=F.snd)) True False) False) False) (Z0 q3 (Z0 (q4==254) (Z0 q3 (Z0 q5 q15 (Z0 (decide ((↑N:Int)<5)) q2 (Z0 q6 (Z0 q7 (Z0 q8 (Z0 q9 (Z0 (decide (q11>4611686018427387904)) q13 (Z0 (decide (0≤q16)) (Z0 ((↑(List.length (W q16)):Int) !=5) q13 (Z0 (decide (q16=F.fst)) (Z0 (decide (5=F.snd)) True False) False)) False)) False) False) False) False))) False) (Z0 q3 (Z0 q5 q15 (Z0 (decide ((↑N:Int)<3)) q2 (Z0 q6 (Z0 q7 (Z0 (decide (q10>4611686018427387904)) q13 (Z0 (decide (0≤q17)) (Z0 ((↑(List.length (W q17)):Int) !=3) q13 (Z0 (decide (q17=F.fst)) (Z0 (decide (3=F.snd)) True False) False)) False)) False) False))) False)) False)) False)) (by kernel_rfl) ?_
 conv=>zeta
 try simp only [Zi]
 try simp only [Zj]
 try simp only [Zg]
 try simp only [Zk]
 try simp only [Zl]
 try simp only [Zh]
 try simp only [Int.toNat_natCast,Nat.zero_add,true_and,and_true,Nat.le_refl]
 subst hN hW
 refine ⟨fun h0=> ?_,fun h0=> ?_⟩
 ·rw [hF,Vc (by simp at h0;simp [h0])];exact ⟨rfl,rfl⟩
 have h0:xs.length≠0:=by simp at h0;intro h;rw [List.length_eq_zero_iff] at h;exact h0 h
 have c0:=hb.h 0
 have c1:=hb.h 1
 have c2:=hb.h 2
 have c3:=hb.h 3
 have c4:=hb.h 4
 have c5:=hb.h 5
 have c6:=hb.h 6
 have c7:=hb.h 7
 have c8:=hb.h 8
 have e1:=Zeb c1
 have e2:=Z1m (n:=256*0+xs.getD 1 0) (by omega) (by omega) c2
 have e3:=Z1m (n:=256*(256*0+xs.getD 1 0)+xs.getD 2 0) (by omega) (by omega) c3
 have e4:=Z1m (n:=256*(256*(256*0+xs.getD 1 0)+xs.getD 2 0)+xs.getD 3 0) (by omega) (by omega) c4
 have e5:=Z1m (n:=256*(256*(256*(256*0+xs.getD 1 0)+xs.getD 2 0)+xs.getD 3 0)+xs.getD 4 0) (by omega) (by omega) c5
 have e6:=Z1m (n:=256*(256*(256*(256*(256*0+xs.getD 1 0)+xs.getD 2 0)+xs.getD 3 0)+xs.getD 4 0)+xs.getD 5 0) (by omega) (by omega) c6
 have e7:=Z1m (n:=256*(256*(256*(256*(256*(256*0+xs.getD 1 0)+xs.getD 2 0)+xs.getD 3 0)+xs.getD 4 0)+xs.getD 5 0)+xs.getD 6 0) (by omega) (by omega) c7
 have e8:=Z1m (n:=256*(256*(256*(256*(256*(256*(256*0+xs.getD 1 0)+xs.getD 2 0)+xs.getD 3 0)+xs.getD 4 0)+xs.getD 5 0)+xs.getD 6 0)+xs.getD 7 0) (by omega) (by omega) c8
 rw [e1,e2,e3,e4,e5,e6,e7,e8]
 have hl0:(0:Int)≤0∧(0:Int)<(xs.length:Int):=by omega
 refine ⟨hl0,fun a1=>⟨hl0, ?_⟩,fun a1=>⟨hl0,fun a2=>⟨hl0,fun a3=> ?_,fun a3=> ?_⟩,fun a2=>⟨hl0,fun a3=> ?_,fun a3=> ?_⟩⟩⟩
 ·rw [hF,Vd h0 (Zdi (by omega) (by omega) (by omega))];exact ⟨rfl,rfl⟩
 ·simp at a2 a3;omega
 ·have a2:xs.getD 0 0=254:=by simpa using a2
  have hm:=Z9H (by omega) a2
  refine ⟨fun l=> ?_,fun l=> ?_⟩
  ·rw [hF,YA h0 hm (by decide) (by omega)];exact ⟨rfl,rfl⟩
  ·and_intros
   all_goals first|omega|skip
   all_goals first|exact (Xq hb hF rfl h0 hm (by decide) (by decide) (by omega)).1|exact (Xq hb hF rfl h0 hm (by decide) (by decide) (by omega)).2
 ·have a3:xs.getD 0 0=255:=by simpa using a3
  have hm:=Z9I (by omega) (by omega) a3
  refine ⟨fun l=> ?_,fun l=> ?_⟩
  ·rw [hF,YA h0 hm (by decide) (by omega)];exact ⟨rfl,rfl⟩
  ·and_intros
   all_goals first|omega|skip
   all_goals first|exact (Xq hb hF rfl h0 hm (by decide) (by decide) (by omega)).1|exact (Xq hb hF rfl h0 hm (by decide) (by decide) (by omega)).2
 ·have a2:xs.getD 0 0≠254:=by simpa using a2
  have a3:xs.getD 0 0≠255:=by simpa using a3
  have hm:=Z9G (c:=xs.getD 0 0) (by omega)
  refine ⟨fun l=> ?_,fun l=> ?_⟩
  ·rw [hF,YA h0 hm (by decide) (by omega)];exact ⟨rfl,rfl⟩
  ·and_intros
   all_goals first|omega|skip
   all_goals first|exact (Xq hb hF rfl h0 hm (by decide) (by decide) (by omega)).1|exact (Xq hb hF rfl h0 hm (by decide) (by decide) (by omega)).2
def Z6O (F:List Int→Int×Int):ZG:=fun args h K=>ZI none h true 20 args fun a=>match a with
 | [.vints .u8 xs n]=>(xs.length=n∧Bytes xs)∧K (.tuple [.int .i64 (F xs).1,.int .i64 (F xs).2])
 | _=>False
theorem Z5P (args:List AV) (h:Z6) (K:AV→Prop) (hl:Z6O (Ze Zn) args h K):Zm PP 196 args h fun o h'=>∃v,o=.ret v∧h'=h∧K v:=by
 refine Zy.psumm (d:=20) (Zs _ _ _ _ _ hl fun a ha=> ?_)
 split at ha
 ·obtain ⟨⟨h1,h2⟩,hK⟩:=ha
  exact ⟨_,.evM Zea (Z9V _ _ _ _ h1 rfl h2 rfl),fun _=>rfl,hK⟩
 ·exact ha.elim
end Go.Tk
end
section
namespace Go.Tk
open IntKind (i64 u8 u32 u64 wrap)
noncomputable def E32 (F:List Int→Int×Int):Zd:=G0.withP 196 (Z6O F)
theorem Z5Q:(E32 (Ze Zn)).Ok:=Zd.withP_ok Zu Z5P
def ZbQ (Q:List Int→Nat→Bool→Int→Prop):AV→Prop:=fun u=>match u with
 | .tuple [.agg [.vints .u8 ys n,.bool b],.int .i64 v]=>Q ys n b v
 | _=>False
def Z6P (Q:List Int→Nat→Bool→List Int→Prop):AV→Prop:=fun u=>match u with
 | .tuple [.agg [.vints .u8 ys n,.bool b],.agg [.arr .u8 32 h]]=>Q ys n b h
 | _=>False
theorem Zfq (F:List Int→Int×Int) (ys:List Int) (n:Nat) (most:Int) (Q:List Int→Nat→Bool→Int→Prop) (hn:ys.length=n) (hb:Bytes ys) (hm:0≤most) (hF:∀ys,(F ys).2≤ys.length) (h1:0<(F ys).2∧(F ys).1≤most→Q (ys.drop (F ys).2.toNat) (n-(F ys).2.toNat) false (F ys).1) (h2:¬(0<(F ys).2∧(F ys).1≤most)→Q ys n true 0):
  evF (E32 F) 20 121 [.agg [.vints .u8 ys n,.bool false],.int .i64 most] ⟨0,[]⟩ (Y6 (ZbQ Q)):=by
 refine @Eq.mpr _ (let q1:=(F ys).snd;
 let q2:=some (Int.toNat q1);
 Z0 (decide (most<0)) (Q ys n false 0) ((List.length ys=n∧Bytes ys)∧Z0 (decide (q1≤0)) (Q ys n true 0) (Z0 (decide ((F ys).fst>most)) (Q ys n true 0) (Z0 (decide (n≤List.length ys)) (Z0 (decide (0≤q1∧q1≤ ↑n)) (Q (XV q2 ys) (X2 n q2) false (F ys).fst) False) False)))) (by kernel_rfl) ?_
 conv=>zeta
 try simp only [Zi]
 try simp only [Zj]
 try simp only [Zg]
 try simp only [Zk]
 try simp only [Zl]
 try simp only [Zh]
 try simp only [Int.toNat_natCast,Nat.zero_add,true_and,and_true,Nat.le_refl]
 have hle:=hF ys
 refine ⟨fun h=>(by omega),fun _=>⟨⟨hn,hb⟩,fun h=>h2 (by omega),fun h=>⟨fun h3=>h2 (by omega),fun h3=>⟨by omega,⟨by omega,by omega⟩,h1 ⟨by omega,by omega⟩⟩⟩⟩⟩
theorem Zfr (F:List Int→Int×Int) (ys:List Int) (n:Nat) (most:Int) (Q:List Int→Nat→Bool→Int→Prop) (h2:Q ys n true 0):
  evF (E32 F) 20 121 [.agg [.vints .u8 ys n,.bool true],.int .i64 most] ⟨0,[]⟩ (Y6 (ZbQ Q)):=by
 refine @Eq.mpr _ (Q ys n true 0) (by kernel_rfl) ?_
 exact h2
theorem Zfs (ys:List Int) (n:Nat) (Q:List Int→Nat→Bool→List Int→Prop) (hn:ys.length=n) (h1:32≤n→Q (ys.drop 32) (n-32) false (ys.take 32)) (h2:n<32→Q ys n true Zc):
  evF G0 20 120 [.agg [.vints .u8 ys n,.bool false]] ⟨0,[]⟩ (Y6 (Z6P Q)):=by
 refine @Eq.mpr _ (let q1:=decide (n≤List.length ys);
 let q2:=decide ((0:Int)≤32∧32≤(↑(List.length ys):Int));
 let q3:=XV none ys;
 let q4:=spl Zc 0 (List.take 32 (List.take 32 q3));
 let q5:=q4=q4;
 Z0 (decide (32>(↑n:Int))) (Zc=Zc∧Q ys n true Zc) (Z0 q1 (Z0 (decide ((0:Int)≤32∧32≤(↑n:Int))) (Z0 q1 (Z0 q2 (Z0 q1 (Z0 q2 (q3=q3∧ys=ys∧Z0 (decide (n=n)) (q5∧q5∧Q (XV (some 32) ys) (X2 n (some 32)) false q4) False) False) False) False) False) False) False)) (by kernel_rfl) ?_
 conv=>zeta
 try simp only [Zi]
 try simp only [Zj]
 try simp only [Zg]
 try simp only [Zk]
 try simp only [Zl]
 try simp only [Zh]
 try simp only [Int.toNat_natCast,Nat.zero_add,true_and,and_true,Nat.le_refl]
 subst hn
 refine ⟨fun h=>h2 (by omega),fun h=> ?_⟩
 have hl:(ys.take 32).length=32:=by rw [List.length_take];omega
 have hd:List.take 32 (List.take 32 (XV none ys))=ys.take 32:=by rw [show XV none ys=ys from rfl,List.take_take];rfl
 have hs:spl Zc 0 (ys.take 32)=ys.take 32:=by
  unfold spl
  rw [List.take_zero,List.nil_append,hl]
  simp [Zc]
 rw [hd,hs]
 have:=h1 (by omega)
 and_intros<;>first|trivial|rfl|omega|exact this
theorem Zft (ys:List Int) (n:Nat) (Q:List Int→Nat→Bool→List Int→Prop) (h2:Q ys n true Zc):
  evF G0 20 120 [.agg [.vints .u8 ys n,.bool true]] ⟨0,[]⟩ (Y6 (Z6P Q)):=by
 refine @Eq.mpr _ (Zc=Zc∧Q ys n true Zc) (by kernel_rfl) ?_
 exact ⟨rfl,h2⟩
def Z9W (v:Int) (K:Int→Prop):Nat→Prop
 | 0=>v=0→K 0
 | m+1=>Z9W v K m∧(v=((m+1:Nat):Int)→K ((m+1:Nat):Int))
theorem Z4m {v:Int} {K:Int→Prop}:∀{m:Nat},Z9W v K m→0≤v→v≤m→K v
 | 0,h,h0,h1=>by
  have:v=0:=by omega
  subst this
  exact h rfl
 | m+1,h,h0,h1=>by
  by_cases hv:v=((m+1:Nat):Int)
  ·subst hv;exact h.2 rfl
  ·exact Z4m h.1 h0 (by omega)
theorem Z5R {xs:List Int} (hb:Bytes xs):0≤(Ze Zn xs).1:=by
 by_cases h0:xs.length=0
 ·rw [Vc h0];exact Int.le_refl 0
 by_cases hm:Yz (xs.getD 0 0)=0
 ·rw [Vd h0 hm]
  have:=hb.h 0
  show 0≤i64.wrap _
  rw [w64 (by omega)];omega
 by_cases hl:xs.length≤Yz (xs.getD 0 0)
 ·rw [YA h0 rfl hm hl];exact Int.le_refl 0
 have h8:Yz (xs.getD 0 0)≤8:=by unfold Yz;split<;>(try split)<;>(try split)<;>omega
 rw [Z2t hb h0 rfl hm h8 (by omega)]
 have hge:=Z0k (Yz (xs.getD 0 0)) xs 1 0 hb (by decide)
 split
 ·exact Int.le_refl 0
 ·split
  ·show 0≤Wf _ _ _ _;omega
  ·exact Int.le_refl 0
def small (most:Int) (v:Int) (K:Int→Prop):Prop:=match decide (0≤most∧most≤6) with
 | true=>Z9W v K most.toNat
 | false=>K v
theorem Z9X {most v:Int} {K:Int→Prop} (h:small most v K) (h0:0≤v) (h1:v≤most):K v:=by
 unfold small at h
 split at h
 ·rename_i hd
  have:=of_decide_eq_true hd
  exact Z4m h h0 (by omega)
 ·exact h
def Z9Y (F:List Int→Int×Int):ZG:=fun args _ K=>match args with
 | [.agg [.top,.bool true],.int .i64 _]=>K (.tuple [.agg [.top,.bool true],.int .i64 0])
 | [.agg [.vints .u8 ys n,.bool b],.int .i64 most]=>match b with
  | true=>K (.tuple [.agg [.vints .u8 ys n,.bool true],.int .i64 0])
  | false=>∃xs o,ys=xs.drop o∧(n=xs.length-o∧o≤xs.length∧Bytes xs∧0≤most)∧
   (∀v p,rdN F xs o most=some (v,p)→(o≤p∧p≤xs.length∧0≤v∧v≤most)→small most v fun v=>K (.tuple [.agg [.vints .u8 (xs.drop p) (xs.length-p),.bool false],.int .i64 v]))∧
   (rdN F xs o most=none→K (.tuple [.agg [.vints .u8 (xs.drop o) (xs.length-o),.bool true],.int .i64 0]))
 | _=>False
theorem Z6Q {Q:List Int→Nat→Bool→Int→Prop} {u:AV} (h:ZbQ Q u):∃ys n b v,u=.tuple [.agg [.vints .u8 ys n,.bool b],.int .i64 v]∧Q ys n b v:=by
 unfold ZbQ at h
 split at h
 ·exact ⟨_,_,_,_,rfl,h⟩
 ·exact h.elim
theorem Z4n {Q:List Int→Nat→Bool→List Int→Prop} {u:AV} (h:Z6P Q u):∃ys n b v,u=.tuple [.agg [.vints .u8 ys n,.bool b],.agg [.arr .u8 32 v]]∧Q ys n b v:=by
 unfold Z6P at h
 split at h
 ·exact ⟨_,_,_,_,rfl,h⟩
 ·exact h.elim
def Z9Z (Q:Int→Prop):AV→Prop:=fun u=>match u with
 | .tuple [.agg [.top,.bool true],.int .i64 v]=>Q v
 | _=>False
theorem Za0 {Q:Int→Prop} {u:AV} (h:Z9Z Q u):∃v,u=.tuple [.agg [.top,.bool true],.int .i64 v]∧Q v:=by
 unfold Z9Z at h
 split at h
 ·exact ⟨_,rfl,h⟩
 ·exact h.elim
theorem Zfu (F:List Int→Int×Int) (most:Int) (Q:Int→Prop) (h2:Q 0):
  evF (E32 F) 20 121 [.agg [.top,.bool true],.int .i64 most] ⟨0,[]⟩ (Y6 (Z9Z Q)):=by
 refine @Eq.mpr _ (Q 0) (by kernel_rfl) ?_
 exact h2
theorem Z1n (args:List AV) (h:Z6) (K:AV→Prop) (hl:Z9Y (Ze Zn) args h K):Zm PP 121 args h fun o h'=>∃v,o=.ret v∧h'=h∧K v:=by
 unfold Z9Y at hl
 split at hl
 ·exact ZQ Z5Q rfl (Zfu _ _ (fun v=>K (.tuple [.agg [.top,.bool true],.int .i64 v])) hl) (fun u hu=>by obtain ⟨_,rfl,hq⟩:=Za0 hu;exact hq)
 ·rename_i ys n b most
  split at hl
  ·exact ZQ Z5Q rfl (Zfr _ ys n most (fun ys n b v=>K (.tuple [.agg [.vints .u8 ys n,.bool b],.int .i64 v])) hl) (fun u hu=>by obtain ⟨_,_,_,_,rfl,hq⟩:=Z6Q hu;exact hq)
  ·obtain ⟨xs,o,rfl,⟨rfl,h1,h2,h3⟩,hK,hK'⟩:=hl
   refine ZQ Z5Q rfl (Zfq _ (xs.drop o) (xs.length-o) most (fun ys n b v=>K (.tuple [.agg [.vints .u8 ys n,.bool b],.int .i64 v])) (List.length_drop ..) (h2.drop o) h3 (fun _=>U6 _ _) (fun hc=> ?_) (fun hc=>hK' (by unfold rdN;rw [if_neg hc]))) (fun u hu=>by obtain ⟨_,_,_,_,rfl,hq⟩:=Z6Q hu;exact hq)
   have hle:=U6 Zn (xs.drop o)
   rw [List.length_drop] at hle
   have f1:o≤o+(Ze Zn (xs.drop o)).2.toNat∧o+(Ze Zn (xs.drop o)).2.toNat≤xs.length∧0≤(Ze Zn (xs.drop o)).1∧(Ze Zn (xs.drop o)).1≤most:=⟨by omega,by omega,Z5R (h2.drop o),hc.2⟩
   have:=Z9X (hK _ _ (by unfold rdN;rw [if_pos hc]) f1) f1.2.2.1 f1.2.2.2
   rw [List.drop_drop]
   rw [show xs.length-o-(Ze Zn (xs.drop o)).2.toNat=xs.length-(o+(Ze Zn (xs.drop o)).2.toNat) by omega]
   exact this
 ·exact hl.elim
def Z5S:ZG:=fun args _ K=>match args with
 | [.agg [.vints .u8 ys n,.bool b]]=>match b with
  | true=>K (.tuple [.agg [.vints .u8 ys n,.bool true],.agg [.arr .u8 32 Zc]])
  | false=>∃xs o,ys=xs.drop o∧(n=xs.length-o∧o≤xs.length)∧
   (∀v p,rdH xs o=some (v,p)→(o≤p∧p≤xs.length∧v.length=32)→K (.tuple [.agg [.vints .u8 (xs.drop p) (xs.length-p),.bool false],.agg [.arr .u8 32 v]]))∧
   (rdH xs o=none→K (.tuple [.agg [.vints .u8 (xs.drop o) (xs.length-o),.bool true],.agg [.arr .u8 32 Zc]]))
 | _=>False
theorem QE (args:List AV) (h:Z6) (K:AV→Prop) (hl:Z5S args h K):Zm PP 120 args h fun o h'=>∃v,o=.ret v∧h'=h∧K v:=by
 unfold Z5S at hl
 split at hl
 ·rename_i ys n b
  split at hl
  ·exact ZQ Zu rfl (Zft ys n (fun ys n b v=>K (.tuple [.agg [.vints .u8 ys n,.bool b],.agg [.arr .u8 32 v]])) hl) (fun u hu=>by obtain ⟨_,_,_,_,rfl,hq⟩:=Z4n hu;exact hq)
  ·obtain ⟨xs,o,rfl,⟨rfl,h1⟩,hK,hK'⟩:=hl
   refine ZQ Zu rfl (Zfs (xs.drop o) (xs.length-o) (fun ys n b v=>K (.tuple [.agg [.vints .u8 ys n,.bool b],.agg [.arr .u8 32 v]])) (List.length_drop ..) (fun hc=> ?_) (fun hc=>hK' (by unfold rdH;rw [if_neg (by omega)]))) (fun u hu=>by obtain ⟨_,_,_,_,rfl,hq⟩:=Z4n hu;exact hq)
   have f1:o≤o+32∧o+32≤xs.length∧((xs.drop o).take 32).length=32:=⟨by omega,by omega,by rw [List.length_take,List.length_drop];omega⟩
   have:=hK _ _ (by unfold rdH;rw [if_pos (by omega)]) f1
   rw [List.drop_drop]
   rw [show xs.length-o-32=xs.length-(o+32) by omega]
   exact this
 ·exact hl.elim
end Go.Tk
end
section
namespace Go.Tk
open IntKind (i64 u8 u32 u64 wrap)
end Go.Tk
end
section
namespace Go.Tk
open IntKind (i64 u8 u32 u64 wrap)
structure TxB (t:TxS):Prop where
 h:∀i,i<t.M→Bytes (t.outs i).owner∧Bytes (t.outs i).other
end Go.Tk
end
section
namespace Go.Tk
open IntKind (i64 u8 u32 u64 wrap)
end Go.Tk
end
section
namespace Go.Tk
open IntKind (i64 u8 u32 u64 wrap)
end Go.Tk
end
section
namespace Go.Tk
open IntKind (i64 u8 u32 u64 wrap)
theorem Za1 {n:Nat} {xs:List Int} (h:xs.length=n) (hw:∀i,i<n→(Lit.int .u8 (xs.getD i 0)).wf=true):Bytes xs:=⟨fun i=>by
 by_cases hi:i<n
 ·have:=hw i hi
  simp [Lit.wf] at this
  have m1:u8.min=0:=rfl
  have m2:u8.max=255:=rfl
  simp
  omega
 ·rw [List.getD_eq_getElem?_getD,List.getElem?_eq_none (by omega)];simp⟩
structure InS.By (x:InS):Prop where
 name:Bytes x.name
 tag:Bytes x.tag
 also:Bytes x.also
 secret:Bytes x.secret
structure Z1W.By (x:Z1W):Prop where
 owner:Bytes x.owner
 other:Bytes x.other
 point:Bytes x.point
 hash:Bytes x.hash
structure Zdj (t:TxS):Prop where
 ins:∀i,i<t.N→(t.ins i).By
 outs:∀i,i<t.M→(t.outs i).By
theorem Zdj.b {t:TxS} (h:Zdj t):TxB t:=⟨fun i hi=>⟨(h.outs i hi).owner,(h.outs i hi).other⟩⟩
theorem pick {α:Type} [Inhabited α] {n:Nat} {p:Nat→α→Prop} (h:∀i,i<n→∃a,p i a):∃f:Nat→α,∀i,i<n→p i (f i):=
 ⟨fun i=>if hi:i<n then Classical.choose (h i hi) else default,fun i hi=>by
  simp only [hi,dite_true]
  exact Classical.choose_spec (h i hi)⟩
instance:Inhabited InS:=⟨inZ⟩
instance:Inhabited Z1W:=⟨ZgV⟩
theorem Zm.conv {P:Program} {f:FuncId} {us bs:List AV} {h:Z6} {K:KO} (hc:Zm P f bs h K) (hr:∀E rs,ZA E us rs→ZA E bs rs):Zm P f us h K:=
 fun E w rs he hl=>hc E w rs he (hr E rs hl)
theorem Bytes.nil:Bytes []:=⟨fun i=>by simp⟩
theorem Bytes.cons {x:Int} {xs:List Int} (hx:0≤x∧x≤255) (h:Bytes xs):Bytes (x::xs):=⟨fun i=>by
 cases i with
 | zero=>simpa using hx
 | succ i=>have:=h.h i;simpa using this⟩
end Go.Tk
end
section
namespace Go.Tk
open IntKind (i64 u8 u32 u64 wrap)
end Go.Tk
end
section
namespace Go.Tk
open IntKind (i64 u8 u32 u64 wrap)
def Wq (a b c:Int):Nat→Int
 | 0=>0
 | i+1=>if 2≤u32.wrap (u32.wrap (Int.tmod (Zr .u32 a i) 2+Int.tmod (Zr .u32 b i) 2)+Int.tmod (Zr .u32 c i) 2) then u32.wrap (Wq a b c i+Zz .u32 1 i) else Wq a b c i
def WW (a b c:Int):Nat→Int
 | 0=>0
 | i+1=>u32.wrap (WW a b c i+Zz .u32 (if Int.tmod (Zr .u32 a i) 2=1 then Int.tmod (Zr .u32 b i) 2 else Int.tmod (Zr .u32 c i) 2) i)
def moS (a b c:Int) (o:Int) (i:Nat):St:=⟨33,[(8,.int .u64 i),(0,.int .u32 a),(1,.int .u32 b),(2,.int .u32 c),(7,.int .u32 o)],⟨0,[]⟩,[]⟩
def moR (o:Int):St:=⟨33,[(7,.int .u32 o)],⟨0,[]⟩,[]⟩
theorem Zdk {x:Int} (h:0≤x∧x<18446744073709551616):u64.wrap x=x:=by
 unfold wrap
 simp [IntKind.bits,IntKind.signed]
 omega
theorem Zec (a b c o o':Int) (i:Nat) (Z1 Z2:Prop) (hi:i≤32) (ho:o'=if 2≤u32.wrap (u32.wrap (Int.tmod (Zr .u32 a i) 2+Int.tmod (Zr .u32 b i) 2)+Int.tmod (Zr .u32 c i) 2) then u32.wrap (o+Zz .u32 1 i) else o) (h1:i<32→Z1) (h2:i=32→Z2):
  ZD G0 20 193 0 0 (moS a b c o i) (rdM 0 0 9 (moS a b c o' (i+1)) (moR o) (moR o) (moR o) Z1 Z2 False False):=by
 refine @Eq.mpr _ (let q1:=decide (wrap u64 ((↑i:Int)+1)=(↑(i+1):Int));
 let q2:=decide (a=a);
 let q3:=decide (b=b);
 let q4:=decide (c=c);
 Z0 (decide ((↑i:Int)<32)) (Z0 (decide (wrap u32 (wrap u32 (Int.tmod (Zr u32 a (↑i:Int)) 2+Int.tmod (Zr u32 b (↑i:Int)) 2)+Int.tmod (Zr u32 c (↑i:Int)) 2)≥2)) (Z0 q1 (Z0 q2 (Z0 q3 (Z0 q4 (Z0 (decide (wrap u32 (o+Zz u32 1 (↑i:Int))=o')) Z1 False) False) False) False) False) (Z0 q1 (Z0 q2 (Z0 q3 (Z0 q4 (Z0 (decide (o=o')) Z1 False) False) False) False) False)) (Z0 (decide (o=o)) Z2 False)) (by kernel_rfl) ?_
 conv=>zeta
 try simp only [Zi]
 try simp only [Zj]
 try simp only [Zg]
 try simp only [Zk]
 try simp only [Zl]
 try simp only [Zh]
 try simp only [Int.toNat_natCast,Nat.zero_add,true_and,and_true,Nat.le_refl]
 have hw:u64.wrap ((i:Int)+1)=((i+1:Nat):Int):=Zdk (by omega)
 refine ⟨fun hlt=>⟨fun hc=> ?_,fun hc=> ?_⟩,fun hge=>h2 (by omega)⟩
 ·rw [if_pos hc] at ho
  exact ⟨hw,ho.symm,h1 (by omega)⟩
 ·rw [if_neg hc] at ho
  exact ⟨hw,ho.symm,h1 (by omega)⟩
theorem Zed (a b c o o':Int) (i:Nat) (Z1 Z2:Prop) (hi:i≤32) (ho:o'=u32.wrap (o+Zz .u32 (if Int.tmod (Zr .u32 a i) 2=1 then Int.tmod (Zr .u32 b i) 2 else Int.tmod (Zr .u32 c i) 2) i)) (h1:i<32→Z1) (h2:i=32→Z2):
  ZD G0 20 192 0 0 (moS a b c o i) (rdM 0 0 9 (moS a b c o' (i+1)) (moR o) (moR o) (moR o) Z1 Z2 False False):=by
 refine @Eq.mpr _ (let q1:=decide (wrap u64 ((↑i:Int)+1)=(↑(i+1):Int));
 let q2:=decide (a=a);
 let q3:=decide (b=b);
 let q4:=decide (c=c);
 Z0 (decide ((↑i:Int)<32)) (Z0 (Int.tmod (Zr u32 a (↑i:Int)) 2==1) (Z0 q1 (Z0 q2 (Z0 q3 (Z0 q4 (Z0 (decide (wrap u32 (o+Zz u32 (Int.tmod (Zr u32 b (↑i:Int)) 2) (↑i:Int))=o')) Z1 False) False) False) False) False) (Z0 q1 (Z0 q2 (Z0 q3 (Z0 q4 (Z0 (decide (wrap u32 (o+Zz u32 (Int.tmod (Zr u32 c (↑i:Int)) 2) (↑i:Int))=o')) Z1 False) False) False) False) False)) (Z0 (decide (o=o)) Z2 False)) (by kernel_rfl) ?_
 conv=>zeta
 try simp only [Zi]
 try simp only [Zj]
 try simp only [Zg]
 try simp only [Zk]
 try simp only [Zl]
 try simp only [Zh]
 try simp only [Int.toNat_natCast,Nat.zero_add,true_and,and_true,Nat.le_refl]
 have hw:u64.wrap ((i:Int)+1)=((i+1:Nat):Int):=Zdk (by omega)
 refine ⟨fun hlt=>⟨fun hc=> ?_,fun hc=> ?_⟩,fun hge=>h2 (by omega)⟩
 ·rw [if_pos (by simpa using hc)] at ho
  exact ⟨hw,ho.symm,h1 (by omega)⟩
 ·rw [if_neg (by simpa using hc)] at ho
  exact ⟨hw,ho.symm,h1 (by omega)⟩
@[irreducible] def YZ (a b c:Int):Int:=Wq a b c 32
@[irreducible] def YS (a b c:Int):Int:=WW a b c 32
noncomputable def Zee (a b c:Int):Zd:=G0.withL 193 0 (goM 0 (moS a b c 0 0) True (YR 0 32 9 (fun i=>i<32) (fun i=>i=32) (fun _=>False) (fun _=>False) (fun i=>moR (Wq a b c i)) (fun i=>moR (Wq a b c i)) (fun i=>moR (Wq a b c i))))
theorem ZbR (a b c:Int):(Zee a b c).Ok:=by
 unfold Zee
 refine Zd.withGoM (N:=20) (S:=fun i=>moS a b c (Wq a b c i) i) Zu (by kernel_rfl) fun hC=>⟨rfl,fun i hi hgo=> ?_⟩
 exact Zec a b c (Wq a b c i) (Wq a b c (i+1)) i _ _ hi rfl (fun h=>⟨h,h⟩) (fun h=>h)
noncomputable def Zef (a b c:Int):Zd:=G0.withL 192 0 (goM 0 (moS a b c 0 0) True (YR 0 32 9 (fun i=>i<32) (fun i=>i=32) (fun _=>False) (fun _=>False) (fun i=>moR (WW a b c i)) (fun i=>moR (WW a b c i)) (fun i=>moR (WW a b c i))))
theorem ZbS (a b c:Int):(Zef a b c).Ok:=by
 unfold Zef
 refine Zd.withGoM (N:=20) (S:=fun i=>moS a b c (WW a b c i) i) Zu (by kernel_rfl) fun hC=>⟨rfl,fun i hi hgo=> ?_⟩
 exact Zed a b c (WW a b c i) (WW a b c (i+1)) i _ _ hi rfl (fun h=>⟨h,h⟩) (fun h=>h)
theorem Zeg (a b c:Int) (o:Int) (ho:o=Wq a b c 32):
  evF (Zee a b c) 20 193 [.int .u32 a,.int .u32 b,.int .u32 c] ⟨0,[]⟩ (XE 0 [] (.int .u32 o) 0 []):=by
 refine @Eq.mpr _ (Z0 (decide (a=a)) (Z0 (decide (b=b)) (Z0 (decide (c=c)) (True∧∀(i:Nat),i≤32→(∀(j:Nat),j<i→(fun (i:Nat)=>i<32) j)→(i=32→Z0 (decide (Wq a b c i=o)) True False)∧(False→False)∧(False→False)) False) False) False) (by kernel_rfl) ?_
 try simp only [Zi]
 try simp only [Zj]
 try simp only [Zg]
 try simp only [Zk]
 try simp only [Zl]
 try simp only [Zh]
 try simp only [Int.toNat_natCast,Nat.zero_add,true_and,and_true,Nat.le_refl]
 subst ho
 exact fun i hi _=>⟨fun he=>by subst he;rfl,fun h=>h,fun h=>h⟩
theorem Zeh (a b c:Int) (o:Int) (ho:o=WW a b c 32):
  evF (Zef a b c) 20 192 [.int .u32 a,.int .u32 b,.int .u32 c] ⟨0,[]⟩ (XE 0 [] (.int .u32 o) 0 []):=by
 refine @Eq.mpr _ (Z0 (decide (a=a)) (Z0 (decide (b=b)) (Z0 (decide (c=c)) (True∧∀(i:Nat),i≤32→(∀(j:Nat),j<i→(fun (i:Nat)=>i<32) j)→(i=32→Z0 (decide (WW a b c i=o)) True False)∧(False→False)∧(False→False)) False) False) False) (by kernel_rfl) ?_
 try simp only [Zi]
 try simp only [Zj]
 try simp only [Zg]
 try simp only [Zk]
 try simp only [Zl]
 try simp only [Zh]
 try simp only [Int.toNat_natCast,Nat.zero_add,true_and,and_true,Nat.le_refl]
 subst ho
 exact fun i hi _=>⟨fun he=>by subst he;rfl,fun h=>h,fun h=>h⟩
def Z0l (F:Int→Int→Int→Int):ZG:=fun args _ K=>match args with
 | [.int .u32 a,.int .u32 b,.int .u32 c]=>K (.int .u32 (F a b c))
 | _=>False
theorem Z1o {f:FuncId} {F:Int→Int→Int→Int} (hp:∀a b c,Zy PP f [.int .u32 a,.int .u32 b,.int .u32 c] (.int .u32 (F a b c)) 0 []) (args:List AV) (h:Z6) (K:AV→Prop) (hl:Z0l F args h K):Zm PP f args h fun o h'=>∃v,o=.ret v∧h'=h∧K v:=by
 unfold Z0l at hl
 split at hl
 ·rename_i a b c
  refine Qb (d:=20) (K0:=fun l=>l=[.int .u32 a,.int .u32 b,.int .u32 c]) ?_ fun l e=>⟨_,by rw [e];exact hp a b c,fun _=>rfl,hl⟩
  rfl
 ·exact hl.elim
end Go.Tk
end
section
namespace Go.Tk
open IntKind (i64 u8 u32 u64 wrap)
def sg3 (a b c:Int) (w:Int):Int:=Yu .u32 (Yu .u32 (Z5y w (32-a)) (Z5y w (32-b))) (Z5y w (32-c))
def rg3 (a b n:Int) (w:Int):Int:=Yu .u32 (Yu .u32 (Z5y w (32-a)) (Z5y w (32-b))) (Zr .u32 w n)
def Z5T (bl:List Int) (t:Nat):Int:=u32.wrap (u32.wrap (u32.wrap (Zz .u32 (u32.wrap (bl.getD (4*t) 0)) 24+Zz .u32 (u32.wrap (bl.getD (4*t+1) 0)) 16)+Zz .u32 (u32.wrap (bl.getD (4*t+2) 0)) 8)+u32.wrap (bl.getD (4*t+3) 0))
def Za2 (m:List Int) (t:Nat):Int:=u32.wrap (u32.wrap (u32.wrap (rg3 17 19 10 (m.getD (t-2) 0)+m.getD (t-7) 0)+rg3 7 18 3 (m.getD (t-15) 0))+m.getD (t-16) 0)
def Xw (bl:List Int):Nat→List Int
 | 0=>List.replicate 64 0
 | t+1=>(Xw bl t).set t (if t<16 then Z5T bl t else Za2 (Xw bl t) t)
theorem Z1p (bl:List Int):∀t,(Xw bl t).length=64
 | 0=>rfl
 | t+1=>by simp [Xw,Z1p bl t]
def prS (st bl m:List Int) (i:Nat):St:=⟨146,[(6,.int .i64 i),(3,pt 1),(5,pt 3),(2,pt 0),(4,pt 2)],⟨4,[(3,.flat [.arr .u32 64 m]),(2,.flat [.arr .u32 8 [0,0,0,0,0,0,0,0]]),(1,.flat [.arr .u8 64 bl]),(0,.flat [.arr .u32 8 st])]⟩,[]⟩
theorem ZgW (st bl m m':List Int) (i:Nat) (Z1 Z2:Prop) (hi:i≤64) (hm:m.length=64) (hm':m'=m.set i (if i<16 then Z5T bl i else Za2 m i)) (h1:i<64→Z1) (h2:i=64→Z2):
  ZD G0 20 152 0 0 (prS st bl m i) (rdM 0 0 9 (prS st bl m' (i+1)) (prS st bl m i) (prS st bl m i) (prS st bl m i) Z1 Z2 False False):=by
 refine @Eq.mpr _ (let q1:=wrap i64 (4*(↑i:Int));
 let q2:=0+Int.toNat q1;
 let q3:=wrap i64 (q1+1);
 let q4:=0+Int.toNat q3;
 let q5:=wrap i64 (q1+2);
 let q6:=0+Int.toNat q5;
 let q7:=wrap i64 (q1+3);
 let q8:=0+Int.toNat q7;
 let q9:=decide (0≤(↑i:Int)∧(↑i:Int)<64);
 let q10:=0+Int.toNat (↑i:Int);
 let q11:=decide (u32=u32∧q10<64∧q10<List.length m);
 let q12:=decide (wrap i64 ((↑i:Int)+1)=(↑(i+1):Int));
 let q13:=[(0:Int),0,0,0,0,0,0,0];
 let q14:=q13=q13;
 let q15:=q14∧bl=bl∧st=st∧Z1;
 let q16:=wrap i64 ((↑i:Int)-2);
 let q17:=0+Int.toNat q16;
 let q18:=wrap i64 ((↑i:Int)-7);
 let q19:=0+Int.toNat q18;
 let q20:=decide (q19<64);
 let q21:=wrap i64 ((↑i:Int)-15);
 let q22:=0+Int.toNat q21;
 let q23:=decide (q22<64);
 let q24:=wrap i64 ((↑i:Int)-16);
 let q25:=0+Int.toNat q24;
 let q26:=decide (q25<64);
 let q27:=List.getD m q25 0;
 let q28:=decide (q27=q27);
 let q29:=List.getD m q22 0;
 let q30:=List.getD m q19 0;
 let q31:=decide (q30=q30);
 let q32:=List.getD m q17 0;
 Z0 (decide ((↑i:Int)<64))
 (Z0 (decide ((↑i:Int)<16)) (Z0 (decide (0≤q1∧q1<64)) (Z0 (decide (q2<64)) (Z0 (decide (0≤q3∧q3<64)) (Z0 (decide (q4<64)) (Z0 (decide (0≤q5∧q5<64)) (Z0 (decide (q6<64)) (Z0 (decide (0≤q7∧q7<64)) (Z0 (decide (q8<64)) (Z0 q9 (Z0 q11 (Z0 q12 (List.set m q10 (wrap u32 (wrap u32 (wrap u32 (Zz u32 (wrap u32 (List.getD bl q2 0)) 24+Zz u32 (wrap u32 (List.getD bl q4 0)) 16)+Zz u32 (wrap u32 (List.getD bl q6 0)) 8)+wrap u32 (List.getD bl q8 0)))=m'∧q15) False) False) False) False) False) False) False) False) False) False) False)
 (Z0 (decide (0≤q16∧q16<64))
 (Z0 (decide (q17<64)) (Z0 (decide (0≤q18∧q18<64)) (Z0 q20 (Z0 (decide (0≤q21∧q21<64)) (Z0 q23 (Z0 (decide (0≤q24∧q24<64)) (Z0 q26 (Z0 q26 (Z0 q28 (Z0 q23 (Z0 (decide (q29=q29)) (Z0 q20 (Z0 q31 (Z0 q26 (Z0 q28 (Z0 q20 (Z0 q31 (Z0 q9 (Z0 q11 (Z0 q12 (List.set m q10 (wrap u32 (wrap u32 (wrap u32 (Yu u32 (Yu u32 (bOr u32 (Zz u32 q32 15) (Zr u32 q32 17)) (bOr u32 (Zz u32 q32 13) (Zr u32 q32 19))) (Zr u32 q32 10)+q30)+Yu u32 (Yu u32 (bOr u32 (Zz u32 q29 25) (Zr u32 q29 7)) (bOr u32 (Zz u32 q29 14) (Zr u32 q29 18))) (Zr u32 q29 3))+q27))=m'∧q15) False) False) False) False) False) False) False) False) False) False) False) False) False) False) False) False) False) False) False) False) False))
 (Z0 (decide ((↑i:Int)=(↑i:Int))) (m=m∧q14∧bl=bl∧st=st∧Z2) False)) (by kernel_rfl) ?_
 conv=>zeta
 try simp only [Zi]
 try simp only [Zj]
 try simp only [Zg]
 try simp only [Zk]
 try simp only [Zl]
 try simp only [Zh]
 try simp only [Int.toNat_natCast,Nat.zero_add,true_and,and_true,Nat.le_refl]
 have hw:i64.wrap ((i:Int)+1)=((i+1:Nat):Int):=w64 (by omega)
 refine ⟨fun hlt=>⟨fun h16=> ?_,fun h16=> ?_⟩,fun hge=>h2 (by omega)⟩
 ·have e0:i64.wrap (4*(i:Int))=((4*i:Nat):Int):=by rw [w64 (by omega)];omega
  have e1:i64.wrap (((4*i:Nat):Int)+1)=((4*i+1:Nat):Int):=by rw [w64 (by omega)];omega
  have e2:i64.wrap (((4*i:Nat):Int)+2)=((4*i+2:Nat):Int):=by rw [w64 (by omega)];omega
  have e3:i64.wrap (((4*i:Nat):Int)+3)=((4*i+3:Nat):Int):=by rw [w64 (by omega)];omega
  rw [if_pos (by omega)] at hm'
  simp only [e0,e1,e2,e3,hw,Int.toNat_natCast]
  repeat' (first|(refine And.intro ?_ ?_)|intro _)
  all_goals first|omega|exact hm'.symm|exact h1 (by omega)|trivial
 ·have e0:i64.wrap ((i:Int)-2)=((i-2:Nat):Int):=by rw [w64 (by omega)];omega
  have e1:i64.wrap ((i:Int)-7)=((i-7:Nat):Int):=by rw [w64 (by omega)];omega
  have e2:i64.wrap ((i:Int)-15)=((i-15:Nat):Int):=by rw [w64 (by omega)];omega
  have e3:i64.wrap ((i:Int)-16)=((i-16:Nat):Int):=by rw [w64 (by omega)];omega
  rw [if_neg (by omega)] at hm'
  simp only [e0,e1,e2,e3,hw,Int.toNat_natCast]
  repeat' (first|(refine And.intro ?_ ?_)|intro _)
  all_goals first|omega|exact hm'.symm|exact h1 (by omega)|trivial
noncomputable def Zei (st bl:List Int):Zd:=G0.withL 152 0 (goM 0 (prS st bl (List.replicate 64 0) 0) True (YR 0 64 9 (fun i=>i<64) (fun i=>i=64) (fun _=>False) (fun _=>False) (fun i=>prS st bl (Xw bl i) i) (fun i=>prS st bl (Xw bl i) i) (fun i=>prS st bl (Xw bl i) i)))
theorem ZbT (st bl:List Int):(Zei st bl).Ok:=by
 unfold Zei
 refine Zd.withGoM (N:=20) (S:=fun i=>prS st bl (Xw bl i) i) Zu (by kernel_rfl) fun hC=>⟨rfl,fun i hi hgo=> ?_⟩
 exact ZgW st bl (Xw bl i) (Xw bl (i+1)) i _ _ hi (Z1p bl i) rfl (fun h=>⟨h,h⟩) (fun h=>h)
noncomputable def E54 (M P:Int→Int→Int→Int):Zd:=(G0.withP 193 (Z0l M)).withP 192 (Z0l P)
theorem Zej:(E54 YZ YS).Ok:=Zd.withP_ok (Zd.withP_ok Zu (Z1o fun a b c=>by unfold YZ;exact .ev (ZbR a b c) (Zeg a b c _ rfl))) (Z1o fun a b c=>by unfold YS;exact .ev (ZbS a b c) (Zeh a b c _ rfl))
def QZ (M P:Int→Int→Int→Int) (k m:Int) (x:List Int):List Int:=
 let one:=u32.wrap (u32.wrap (u32.wrap (u32.wrap (x.getD 7 0+sg3 6 11 25 (x.getD 4 0))+P (x.getD 4 0) (x.getD 5 0) (x.getD 6 0))+k)+m)
 [u32.wrap (one+u32.wrap (sg3 2 13 22 (x.getD 0 0)+M (x.getD 0 0) (x.getD 1 0) (x.getD 2 0))),x.getD 0 0,x.getD 1 0,x.getD 2 0,u32.wrap (x.getD 3 0+one),x.getD 4 0,x.getD 5 0,x.getD 6 0]
def VJ (M P:Int→Int→Int→Int) (m st:List Int):Nat→List Int
 | 0=>st
 | t+1=>QZ M P (Wy.getD t 0) (m.getD t 0) (VJ M P m st t)
theorem Z80 (M P:Int→Int→Int→Int) (m st:List Int) (t:Nat):VJ M P m st (t+1)=QZ M P (Wy.getD t 0) (m.getD t 0) (VJ M P m st t):=rfl
theorem Z81 (M P:Int→Int→Int→Int) (m st:List Int):VJ M P m st 0=st:=rfl
theorem Qg {M P:Int→Int→Int→Int} {m st:List Int} (h:st.length=8):∀t,(VJ M P m st t).length=8
 | 0=>h
 | _+1=>rfl
def prT (st k m x:List Int) (i:Nat):St:=⟨146,[(9,.int .i64 i),(8,pt 6),(7,pt 5),(5,pt 3),(2,pt 0),(4,pt 2)],⟨7,[(6,.flat [.arr .u32 8 x]),(5,.flat [.arr .u32 64 k]),(3,.flat [.arr .u32 64 m]),(2,.flat [.arr .u32 8 [0,0,0,0,0,0,0,0]]),(0,.flat [.arr .u32 8 st])]⟩,[]⟩
def prU (st x:List Int):St:=⟨146,[(8,pt 6),(2,pt 0),(4,pt 2)],⟨7,[(6,.flat [.arr .u32 8 x]),(2,.flat [.arr .u32 8 [0,0,0,0,0,0,0,0]]),(0,.flat [.arr .u32 8 st])]⟩,[]⟩
theorem ZgX (M P:Int→Int→Int→Int) (st k m x':List Int) (x0 x1 x2 x3 x4 x5 x6 x7:Int) (i:Nat) (Z1 Z2:Prop) (hi:i≤64) (hx:x'=QZ M P (k.getD i 0) (m.getD i 0) [x0,x1,x2,x3,x4,x5,x6,x7]) (h1:i<64→Z1) (h2:i=64→Z2):
  ZD (E54 M P) 20 152 2 0 (prT st k m [x0,x1,x2,x3,x4,x5,x6,x7] i) (rdM 0 2 9 (prT st k m x' (i+1)) (prU st [x0,x1,x2,x3,x4,x5,x6,x7]) (prU st [x0,x1,x2,x3,x4,x5,x6,x7]) (prU st [x0,x1,x2,x3,x4,x5,x6,x7]) Z1 Z2 False False):=by
 refine @Eq.mpr _ (let q1:=decide (0≤(↑i:Int)∧(↑i:Int)<64);
 let q2:=0+Int.toNat (↑i:Int);
 let q3:=decide (q2<64);
 let q4:=decide (q2<64);
 let q5:=List.getD m q2 0;
 let q6:=List.getD k q2 0;
 let q7:=wrap u32 (wrap u32 (wrap u32 (wrap u32 (x7+Yu u32 (Yu u32 (bOr u32 (Zz u32 x4 26) (Zr u32 x4 6)) (bOr u32 (Zz u32 x4 21) (Zr u32 x4 11))) (bOr u32 (Zz u32 x4 7) (Zr u32 x4 25)))+P x4 x5 x6)+q6)+q5);
 let q8:=[(0:Int),0,0,0,0,0,0,0];
 let q9:=q8=q8;
 let q10:=[x0,x1,x2,x3,x4,x5,x6,x7];
 Z0 (decide ((↑i:Int)<64)) (Z0 q1 (Z0 q3 (Z0 q1 (Z0 q4 (Z0 q4 (Z0 (decide (q5=q5)) (Z0 q3 (Z0 (decide (q6=q6)) (Z0 (decide (x6=x6)) (Z0 (decide (x5=x5)) (Z0 (decide (x4=x4)) (Z0 (decide (x7=x7)) (Z0 (decide (x2=x2)) (Z0 (decide (x1=x1)) (Z0 (decide (x0=x0)) (Z0 (decide (wrap i64 ((↑i:Int)+1)=(↑(i+1):Int))) ([wrap u32 (q7+wrap u32 (Yu u32 (Yu u32 (bOr u32 (Zz u32 x0 30) (Zr u32 x0 2)) (bOr u32 (Zz u32 x0 19) (Zr u32 x0 13))) (bOr u32 (Zz u32 x0 10) (Zr u32 x0 22))+M x0 x1 x2)),x0,x1,x2,wrap u32 (x3+q7),x4,x5,x6]=x'∧k=k∧m=m∧q9∧st=st∧Z1) False) False) False) False) False) False) False) False) False) False) False) False) False) False) False) False) (q10=q10∧q9∧st=st∧Z2)) (by kernel_rfl) ?_
 conv=>zeta
 try simp only [Zi]
 try simp only [Zj]
 try simp only [Zg]
 try simp only [Zk]
 try simp only [Zl]
 try simp only [Zh]
 try simp only [Int.toNat_natCast,Nat.zero_add,true_and,and_true,Nat.le_refl]
 have hw:i64.wrap ((i:Int)+1)=((i+1:Nat):Int):=w64 (by omega)
 refine ⟨fun hlt=> ?_,fun hge=>h2 (by omega)⟩
 rw [hw]
 repeat' (first|(refine And.intro ?_ ?_)|intro _)
 all_goals first|omega|exact hx.symm|exact h1 (by omega)|trivial
def prV (st x:List Int) (i:Nat):St:=⟨146,[(12,.int .i64 i),(8,pt 6),(2,pt 0),(4,pt 2)],⟨7,[(6,.flat [.arr .u32 8 x]),(2,.flat [.arr .u32 8 [0,0,0,0,0,0,0,0]]),(0,.flat [.arr .u32 8 st])]⟩,[]⟩
def Wz (st x:List Int):Nat→List Int
 | 0=>x
 | i+1=>(Wz st x i).set i (u32.wrap ((Wz st x i).getD i 0+st.getD i 0))
theorem Z1q {st x:List Int} (h:x.length=8):∀i,(Wz st x i).length=8
 | 0=>h
 | i+1=>by simp [Wz,Z1q h i]
theorem ZgY (st x x':List Int) (i:Nat) (Z1 Z2:Prop) (hi:i≤8) (hl:x.length=8) (hs:st.length=8) (hx:x'=x.set i (u32.wrap (x.getD i 0+st.getD i 0))) (h1:i<8→Z1) (h2:i=8→Z2):
  ZD G0 20 152 4 0 (prV st x i) (rdM 0 4 9 (prV st x' (i+1)) (prU st x) (prU st x) (prU st x) Z1 Z2 False False):=by
 refine @Eq.mpr _ (let q1:=decide (0≤(↑i:Int)∧(↑i:Int)<8);
 let q2:=0+Int.toNat (↑i:Int);
 let q3:=[(0:Int),0,0,0,0,0,0,0];
 let q4:=q3=q3;
 Z0 (decide ((↑i:Int)<8)) (Z0 q1 (Z0 (decide (q2<8)) (Z0 q1 (Z0 (decide (q2<8)) (Z0 q1 (Z0 (decide (u32=u32∧q2<8∧q2<List.length x)) (Z0 (decide (wrap i64 ((↑i:Int)+1)=(↑(i+1):Int))) (List.set x q2 (wrap u32 (List.getD x q2 0+List.getD st q2 0))=x'∧q4∧st=st∧Z1) False) False) False) False) False) False) False) (x=x∧q4∧st=st∧Z2)) (by kernel_rfl) ?_
 conv=>zeta
 try simp only [Zi]
 try simp only [Zj]
 try simp only [Zg]
 try simp only [Zk]
 try simp only [Zl]
 try simp only [Zh]
 try simp only [Int.toNat_natCast,Nat.zero_add,true_and,and_true,Nat.le_refl]
 have hw:i64.wrap ((i:Int)+1)=((i+1:Nat):Int):=w64 (by omega)
 refine ⟨fun hlt=> ?_,fun hge=>h2 (by omega)⟩
 rw [hw]
 repeat' (first|(refine And.intro ?_ ?_)|intro _)
 all_goals first|omega|exact hx.symm|exact h1 (by omega)|trivial
def Zek (M P:Int→Int→Int→Int) (st m:List Int):Nat→St→KE→Prop:=goM 0 (prT st Wy m st 0) (st.length=8) (YR 2 64 9 (fun i=>i<64) (fun i=>i=64) (fun _=>False) (fun _=>False) (fun i=>prU st (VJ M P m st i)) (fun i=>prU st (VJ M P m st i)) (fun i=>prU st (VJ M P m st i)))
theorem ZbU (st m:List Int):((E54 YZ YS).withL 152 2 (Zek YZ YS st m)).Ok:=by
 unfold Zek
 refine Zd.withGoM (N:=20) (S:=fun i=>prT st Wy m (VJ YZ YS m st i) i) Zej (by kernel_rfl) fun hC=>⟨rfl,fun i hi hgo=> ?_⟩
 obtain ⟨x0,x1,x2,x3,x4,x5,x6,x7,e⟩:=eight _ (Qg (M:=YZ) (P:=YS) (m:=m) hC i)
 show ZD _ 20 152 2 0 (prT st Wy m (VJ YZ YS m st i) i) (rdM 0 2 9 (prT st Wy m (QZ YZ YS (Wy.getD i 0) (m.getD i 0) (VJ YZ YS m st i)) (i+1)) _ _ _ _ _ _ _)
 rw [e]
 exact ZgX YZ YS st Wy m _ x0 x1 x2 x3 x4 x5 x6 x7 i _ _ hi rfl (fun h=>⟨h,h⟩) (fun h=>h)
def Zel (st x:List Int):Nat→St→KE→Prop:=goM 0 (prV st x 0) (st.length=8∧x.length=8) (YR 4 8 9 (fun i=>i<8) (fun i=>i=8) (fun _=>False) (fun _=>False) (fun i=>prU st (Wz st x i)) (fun i=>prU st (Wz st x i)) (fun i=>prU st (Wz st x i)))
theorem ZbV (st x:List Int):(G0.withL 152 4 (Zel st x)).Ok:=by
 unfold Zel
 refine Zd.withGoM (N:=20) (S:=fun i=>prV st (Wz st x i) i) Zu (by kernel_rfl) fun hC=>⟨rfl,fun i hi hgo=> ?_⟩
 exact ZgY st (Wz st x i) (Wz st x (i+1)) i _ _ hi (Z1q hC.2 i) hC.1 rfl (fun h=>⟨h,h⟩) (fun h=>h)
noncomputable def Zem (M P:Int→Int→Int→Int) (st bl m x:List Int):Zd:=((Zei st bl).withL 152 2 (Zek M P st m)).withL 152 4 (Zel st x)
theorem ZbW (st bl m x:List Int):(Zem YZ YS st bl m x).Ok:=by
 unfold Zem
 exact Zd.withL_join (H:=G0) (Zd.withL_join (H:=E54 YZ YS) (ZbT st bl) rfl (ZbU st m)) rfl (ZbV st x)
@[irreducible] def Xf (st bl:List Int):List Int:=Wz st (VJ YZ YS (Xw bl 64) st 64) 8
attribute [irreducible] Xw VJ Wz
theorem ZgZ (M P:Int→Int→Int→Int) (st bl m x r:List Int) (hst:st.length=8) (hm:m=Xw bl 64) (hx:x=VJ M P m st 64) (hr:r=Wz st x 8):
  evF (Zem M P st bl m x) 20 152 [.agg [.arr .u32 8 st],.agg [.arr .u8 64 bl]] ⟨0,[]⟩ (XE 0 [] (.agg [.arr .u32 8 r]) 0 []):=by
 refine @Eq.mpr _ ((0:Int)::(0:Int)::(0:Int)::(0:Int)::(0:Int)::(0:Int)::(0:Int)::(0:Int)::(0:Int)::(0:Int)::(0:Int)::(0:Int)::(0:Int)::(0:Int)::(0:Int)::(0:Int)::(0:Int)::(0:Int)::(0:Int)::(0:Int)::(0:Int)::(0:Int)::(0:Int)::(0:Int)::(0:Int)::(0:Int)::(0:Int)::(0:Int)::(0:Int)::(0:Int)::(0:Int)::(0:Int)::Zc=(0:Int)::(0:Int)::(0:Int)::(0:Int)::(0:Int)::(0:Int)::(0:Int)::(0:Int)::(0:Int)::(0:Int)::(0:Int)::(0:Int)::(0:Int)::(0:Int)::(0:Int)::(0:Int)::(0:Int)::(0:Int)::(0:Int)::(0:Int)::(0:Int)::(0:Int)::(0:Int)::(0:Int)::(0:Int)::(0:Int)::(0:Int)::(0:Int)::(0:Int)::(0:Int)::(0:Int)::(0:Int)::Zc∧
 [(0:Int),(0:Int),(0:Int),(0:Int),(0:Int),(0:Int),(0:Int),(0:Int)]=[(0:Int),(0:Int),(0:Int),(0:Int),(0:Int),(0:Int),(0:Int),(0:Int)]∧
 bl=bl∧
 st=st∧
 True∧
 ∀(i:Nat),
 i≤(64:Nat)→
 (∀(j:Nat),j<i→(fun (i:Nat)=>i<(64:Nat)) j)→
 (i=(64:Nat)→
 st=st∧
 [(1116352408:Int),(1899447441:Int),(3049323471:Int),(3921009573:Int),(961987163:Int),(1508970993:Int),(2453635748:Int),(2870763221:Int),(3624381080:Int),(310598401:Int),(607225278:Int),(1426881987:Int),(1925078388:Int),(2162078206:Int),(2614888103:Int),(3248222580:Int),(3835390401:Int),(4022224774:Int),(264347078:Int),(604807628:Int),(770255983:Int),(1249150122:Int),(1555081692:Int),(1996064986:Int),(2554220882:Int),(2821834349:Int),(2952996808:Int),(3210313671:Int),(3336571891:Int),(3584528711:Int),(113926993:Int),(338241895:Int),(666307205:Int),(773529912:Int),(1294757372:Int),(1396182291:Int),(1695183700:Int),(1986661051:Int),(2177026350:Int),(2456956037:Int),(2730485921:Int),(2820302411:Int),(3259730800:Int),(3345764771:Int),(3516065817:Int),(3600352804:Int),(4094571909:Int),(275423344:Int),(430227734:Int),(506948616:Int),
 (659060556:Int),(883997877:Int),(958139571:Int),(1322822218:Int),(1537002063:Int),(1747873779:Int),(1955562222:Int),(2024104815:Int),(2227730452:Int),(2361852424:Int),(2428436474:Int),(2756734187:Int),(3204031479:Int),(3329325298:Int)]=
 Wy∧
 Xw bl i=m∧
 [(0:Int),(0:Int),(0:Int),(0:Int),(0:Int),(0:Int),(0:Int),(0:Int)]=[(0:Int),(0:Int),(0:Int),(0:Int),(0:Int),(0:Int),(0:Int),(0:Int)]∧st=st∧List.length st=(8:Nat)∧∀(i:Nat),i≤(64:Nat)→(∀(j:Nat),j<i→(fun (i:Nat)=>i<(64:Nat)) j)→(i=(64:Nat)→VJ M P m st i=x∧[(0:Int),(0:Int),(0:Int),(0:Int),(0:Int),(0:Int),(0:Int),(0:Int)]=[(0:Int),(0:Int),(0:Int),(0:Int),(0:Int),(0:Int),(0:Int),(0:Int)]∧st=st∧(List.length st=(8:Nat)∧List.length x=(8:Nat))∧∀(i:Nat),i≤(8:Nat)→(∀(j:Nat),j<i→(fun (i:Nat)=>i<(8:Nat)) j)→(i=(8:Nat)→Wz st x i=r∧True)∧(False→[(0:Int),(0:Int),(0:Int),(0:Int),(0:Int),(0:Int),(0:Int),(0:Int)]=r∧True)∧(False→False))∧(False→[(0:Int),(0:Int),(0:Int),(0:Int),(0:Int),(0:Int),(0:Int),(0:Int)]=r∧True)∧(False→False))∧
 (False→[(0:Int),(0:Int),(0:Int),(0:Int),(0:Int),(0:Int),(0:Int),(0:Int)]=r∧True)∧(False→False)) (by kernel_rfl) ?_
 try simp only [Zi]
 try simp only [Zj]
 try simp only [Zg]
 try simp only [Zk]
 try simp only [Zl]
 try simp only [Zh]
 try simp only [Int.toNat_natCast,Nat.zero_add,true_and,and_true,Nat.le_refl]
 subst hm
 have hl:x.length=8:=by rw [hx];exact Qg hst _
 exact fun i _ _=>⟨fun he=>⟨by kernel_rfl,by rw [he],hst,fun j _ _=>⟨fun hj=>⟨by rw [hj,hx],⟨hst,hl⟩,fun q _ _=>⟨fun hq=>by rw [hq,hr],fun h=>h.elim,fun h=>h⟩⟩,fun h=>h.elim,fun h=>h⟩⟩,fun h=>h.elim,fun h=>h⟩
theorem Z4o (st bl:List Int) (h:st.length=8):Zy PP 152 [.agg [.arr .u32 8 st],.agg [.arr .u8 64 bl]] (.agg [.arr .u32 8 (Xf st bl)]) 0 []:=by
 unfold Xf
 exact .ev (ZbW st bl _ _) (ZgZ YZ YS st bl _ _ _ h rfl rfl rfl)
theorem Z3l {st bl:List Int} (h:st.length=8):(Xf st bl).length=8:=by unfold Xf;exact Z1q (Qg h _) _
end Go.Tk
end
section
namespace Go.Tk
open IntKind (i64 u8 u32 u64 wrap)
def ZbX (n i:Int):Int:=u8.wrap (Int.tmod (Zr .u64 (u64.wrap (u64.wrap n*8)) (u64.wrap (i64.wrap (56-i64.wrap (8*i))))) 256)
def Xh (n:Int):Nat→List Int
 | 0=>[]
 | i+1=>Xh n i++[ZbX n i]
theorem Z1r (n:Int):∀i,(Xh n i).length=i
 | 0=>rfl
 | i+1=>by rw [Xh,List.length_append,Z1r n i];rfl
def paS (bs ys:List Int) (n L i:Nat):St:=⟨39,[(5,.int .i64 i),(4,.nslice ⟨3,0,0,0,0⟩ 1 L L),(0,.vints .u8 bs n)],⟨4,[(3,.ints .u8 ys)]⟩,[]⟩
theorem Zfv (bs ys zs:List Int) (n L L' i:Nat) (Z1 Z2:Prop) (hi:i≤8) (hL:ys.length=L) (hb:L<10000000000000) (hz:zs=ys++[ZbX n i]) (hL':L'=zs.length) (h1:i<8→Z1) (h2:i=8→Z2):
  ZD G0 20 151 0 0 (paS bs ys n L i) (rdM 0 0 9 (paS bs zs n L' (i+1)) (paS bs ys n L i) (paS bs ys n L i) (paS bs ys n L i) Z1 Z2 False False):=by
 refine @Eq.mpr _ (let q1:=wrap u64 (wrap i64 (56-wrap i64 (8*(↑i:Int))));
 let q2:=ys++[wrap u8 (Int.tmod (Zr u64 (wrap u64 (wrap u64 (↑n:Int)*8)) q1) 256)];
 let q3:=List.length q2;
 let q4:=decide (n=n);
 Z0 (decide ((↑i:Int)<8)) (Z0 (decide (0≤q1)) (Z0 (decide (u8=u8∧List.length ys=L)) (Z0 (decide (q3*1≤140737488355328)) (Z0 (decide (wrap i64 ((↑i:Int)+1)=(↑(i+1):Int))) (Z0 (decide (q3=L')) (Z0 (decide (L'≤q3)) (bs=bs∧Z0 q4 (q2=zs∧Z1) False) False) False) False) False) False) False) (Z0 (decide ((↑i:Int)=(↑i:Int))) (Z0 (decide (L=L)) (Z0 (decide (L≤L)) (bs=bs∧Z0 q4 (ys=ys∧Z2) False) False) False) False)) (by kernel_rfl) ?_
 conv=>zeta
 try simp only [Zi]
 try simp only [Zj]
 try simp only [Zg]
 try simp only [Zk]
 try simp only [Zl]
 try simp only [Zh]
 try simp only [Int.toNat_natCast,Nat.zero_add,true_and,and_true,Nat.le_refl]
 have hw:i64.wrap ((i:Int)+1)=((i+1:Nat):Int):=w64 (by omega)
 refine ⟨fun hlt=> ?_,fun hge=>h2 (by omega)⟩
 have hz':zs.length=L+1:=by rw [hz,List.length_append,hL];rfl
 have h0:0≤u64.wrap (i64.wrap (56-i64.wrap (8*(i:Int)))):=by
  unfold wrap
  simp [IntKind.bits,IntKind.signed]
  omega
 simp only [List.length_append,List.length_cons,List.length_nil]
 rw [hw]
 repeat' (first|(refine And.intro ?_ ?_)|intro _)
 all_goals first|exact h0|omega|exact hz.symm|exact h1 (by omega)|trivial
noncomputable def Zen (bs y:List Int) (n:Nat):Zd:=G0.withL 151 0 (goM 0 (paS bs (y++Xh n 0) n (y++Xh n 0).length 0) (y.length≤1000000000000) (YR 0 8 9 (fun i=>i<8) (fun i=>i=8) (fun _=>False) (fun _=>False) (fun i=>paS bs (y++Xh n i) n (y++Xh n i).length i) (fun i=>paS bs (y++Xh n i) n (y++Xh n i).length i) (fun i=>paS bs (y++Xh n i) n (y++Xh n i).length i)))
theorem ZbY (bs y:List Int) (n:Nat):(Zen bs y n).Ok:=by
 unfold Zen
 refine Zd.withGoM (N:=20) (S:=fun i=>paS bs (y++Xh n i) n (y++Xh n i).length i) Zu (by kernel_rfl) fun hC=>⟨rfl,fun i hi hgo=> ?_⟩
 have hl:(y++Xh n i).length=y.length+i:=by rw [List.length_append,Z1r]
 exact Zfv bs (y++Xh n i) (y++Xh n (i+1)) n _ _ i _ _ hi rfl (by omega) (by rw [Xh,List.append_assoc]) rfl (fun h=>⟨h,h⟩) (fun h=>h)
def Z09 (n:Nat):List Int:=List.replicate (Int.tmod (i64.wrap (128-Int.tmod (i64.wrap ((n:Int)+9)) 64)) 64).toNat 0
@[irreducible] def VK (bs:List Int):List Int:=(bs++[128]++Z09 bs.length)++Xh bs.length 8
theorem ZbZ (n:Nat) (h:n≤100000000000):Int.tmod (i64.wrap (128-Int.tmod (i64.wrap ((n:Int)+9)) 64)) 64=(128-((n:Int)+9)%64)%64:=by
 have e1:i64.wrap ((n:Int)+9)=(n:Int)+9:=w64 (by omega)
 have e2:Int.tmod ((n:Int)+9) 64=((n:Int)+9)%64:=tm (by omega)
 have e3:i64.wrap (128-((n:Int)+9)%64)=128-((n:Int)+9)%64:=w64 (by omega)
 rw [e1,e2,e3,tm (by omega)]
theorem Za3 (n:Nat) (h:n≤100000000000):(Z09 n).length≤64:=by
 unfold Z09
 rw [ZbZ n h,List.length_replicate]
 omega
theorem Zfw (bs y r:List Int) (n L:Nat) (hn:bs.length=n) (hb:n≤100000000000) (hy:y=bs++[128]++Z09 n) (hr:r=y++Xh n 8) (hL:L=r.length):
  evF (Zen bs y n) 20 151 [.vints .u8 bs n] ⟨0,[]⟩ (Ya 0 (.ret (.nslice ⟨0,0,0,0,0⟩ 1 L L)) 1 [(0,.ints .u8 r)]):=by
 refine @Eq.mpr _ (let q1:=[]++List.take n bs;
 let q2:=List.length q1;
 let q3:=q1++[(128:Int)];
 let q4:=List.length q3;
 let q5:=Int.tmod (wrap i64 (128-Int.tmod (wrap i64 (↑n+9)) 64)) 64;
 let q6:=Int.toNat q5;
 let q7:=q3++List.replicate q6 0;
 let q8:=List.length q7;
 let q9:=y++Xh (↑n) 0;
 let q10:=List.length q9;
 Z0 (decide (q2*1≤140737488355328))
 (Z0 (decide (u8=u8∧q2=q2))
 (Z0 (decide (q4*1≤140737488355328))
 (Z0 (decide (u8=u8∧q4=q4))
 (Z0 (decide ((0:Int)=0∧0≤q5∧(q4+q6)*1≤140737488355328))
 (Z0 (decide (q8=q10))
 (Z0 (decide (q10≤q8))
 (bs=bs∧
 Z0 (decide (n=n))
 (q7=q9∧
 List.length y≤1000000000000∧
 ∀(i:Nat),
 let q21:=y++Xh (↑n) i;
 let q22:=List.length q21;
 i≤8→(∀(j:Nat),j<i→(fun (i:Nat)=>i<8) j)→(i=8→Z0 (decide (q22=L)) (Z0 (decide (L≤q22)) (q21=r∧True) False) False)∧(False→False)∧(False→False))
 False)
 False)
 False)
 False)
 False)
 False)
 False)
 False) (by kernel_rfl) ?_
 conv=>zeta
 try simp only [Zi]
 try simp only [Zj]
 try simp only [Zg]
 try simp only [Zk]
 try simp only [Zl]
 try simp only [Zh]
 try simp only [Int.toNat_natCast,Nat.zero_add,true_and,and_true,Nat.le_refl]
 have ht:List.take n bs=bs:=by rw [←hn];exact List.take_length
 have hz:=Za3 n hb
 have hx:=ZbZ n hb
 have e0:[]++List.take n bs++[128]++List.replicate (Int.tmod (i64.wrap (128-Int.tmod (i64.wrap ((n:Int)+9)) 64)) 64).toNat 0=y++Xh n 0:=by rw [ht,hy];simp [Z09,Xh]
 have hyl:y.length=n+1+(Z09 n).length:=by rw [hy,List.length_append,List.length_append,hn];rfl
 subst hL hr
 simp only [e0,ht,List.length_append,List.length_cons,List.length_nil,hn,List.nil_append]
 refine ⟨by omega,by omega,⟨by omega,by omega⟩, ?_, ?_, ?_,by omega,fun i hi _=>⟨fun he=>by subst he;exact ⟨rfl,Nat.le_refl _,rfl⟩,fun h=>h,fun h=>h⟩⟩
 ·rw [hyl];unfold Z09 Xh;rfl
 ·rw [hyl];unfold Z09 Xh;exact Nat.le_refl _
 ·rw [hy];simp [Z09,Xh]
theorem Z82 (bs:List Int) (h:bs.length≤100000000000):Zy PP 151 [.vints .u8 bs bs.length] (.nslice ⟨0,0,0,0,0⟩ 1 (VK bs).length (VK bs).length) 1 [(0,.ints .u8 (VK bs))]:=.evM (ZbY bs _ _) (Zfw bs _ _ _ _ rfl h rfl (by unfold VK;rfl) rfl)
def Zdl (P:List Int→List Int) (B:Nat):Yn:=fun args h K=>ZI none h true 20 args fun a=>UR a fun xs=>Zt (xs.length≤B) (K (.ret (.nslice ⟨h.next,0,0,0,0⟩ 1 (P xs).length (P xs).length)) ⟨h.next+1,(h.next,.ints .u8 (P xs))::h.bs⟩)
theorem Za4 (B:Nat) (hB:B≤100000000000) (args:List AV) (h:Z6) (K:KO) (hl:Zdl VK B args h K):Zm PP 151 args h K:=by
 refine Zy.fsumm (d:=20) (Zs _ _ _ _ _ hl fun a ha=> ?_)
 obtain ⟨xs,rfl,hK⟩:=WT ha
 obtain ⟨hx,hK⟩:=Z8 hK
 exact ⟨_,_,_,_,Z82 xs (Nat.le_trans hx hB),rfl,⟨Nat.one_pos,.ints _ _,trivial⟩,hK⟩
def toE (x d:Int):Int:=u8.wrap (Int.tmod (u32.wrap (Int.tdiv x d)) 256)
def toN (x:List Int):Nat→List Int
 | 0=>Zc
 | i+1=>((((toN x i).set (4*i) (u8.wrap (u32.wrap (Int.tdiv (x.getD i 0) 16777216)))).set (4*i+1) (toE (x.getD i 0) 65536)).set (4*i+2) (toE (x.getD i 0) 256)).set (4*i+3) (u8.wrap (Int.tmod (x.getD i 0) 256))
theorem Z3m (x:List Int):∀i,(toN x i).length=32
 | 0=>rfl
 | i+1=>by simp [toN,Z3m x i]
def toS (x h:List Int) (i:Nat):St:=⟨47,[(4,.int .i64 i),(1,pt 0),(3,pt 2),(2,pt 1)],⟨3,[(2,.flat [.arr .u8 32 h]),(1,.flat [.arr .u8 32 Zc]),(0,.flat [.arr .u32 8 x])]⟩,[]⟩
theorem Zh0 (x h h':List Int) (i:Nat) (Z1 Z2:Prop) (hi:i≤8) (hl:h.length=32) (hh:h'=(((h.set (4*i) (u8.wrap (u32.wrap (Int.tdiv (x.getD i 0) 16777216)))).set (4*i+1) (toE (x.getD i 0) 65536)).set (4*i+2) (toE (x.getD i 0) 256)).set (4*i+3) (u8.wrap (Int.tmod (x.getD i 0) 256))) (h1:i<8→Z1) (h2:i=8→Z2):
  ZD G0 20 153 0 0 (toS x h i) (rdM 0 0 9 (toS x h' (i+1)) (toS x h i) (toS x h i) (toS x h i) Z1 Z2 False False):=by
 refine @Eq.mpr _ (let q1:=decide (0≤(↑i:Int)∧(↑i:Int)<8);
 let q2:=0+Int.toNat (↑i:Int);
 let q3:=decide (q2<8);
 let q4:=wrap i64 (4*(↑i:Int));
 let q5:=0+Int.toNat q4;
 let q6:=wrap i64 (q4+1);
 let q7:=0+Int.toNat q6;
 let q8:=List.getD x q2 0;
 let q9:=List.set h q5 (wrap u8 (wrap u32 (Int.tdiv q8 16777216)));
 let q10:=wrap i64 (q4+2);
 let q11:=0+Int.toNat q10;
 let q12:=List.set q9 q7 (wrap u8 (Int.tmod (wrap u32 (Int.tdiv q8 65536)) 256));
 let q13:=wrap i64 (q4+3);
 let q14:=0+Int.toNat q13;
 let q15:=List.set q12 q11 (wrap u8 (Int.tmod (wrap u32 (Int.tdiv q8 256)) 256));
 Z0 (decide ((↑i:Int)<8)) (Z0 q1 (Z0 q3 (Z0 (decide (0≤q4∧q4<32)) (Z0 (decide (u8=u8∧q5<32∧q5<List.length h)) (Z0 q1 (Z0 q3 (Z0 (decide (0≤q6∧q6<32)) (Z0 (decide (u8=u8∧q7<32∧q7<List.length q9)) (Z0 q1 (Z0 q3 (Z0 (decide (0≤q10∧q10<32)) (Z0 (decide (u8=u8∧q11<32∧q11<List.length q12)) (Z0 q1 (Z0 q3 (Z0 (decide (0≤q13∧q13<32)) (Z0 (decide (u8=u8∧q14<32∧q14<List.length q15)) (Z0 (decide (wrap i64 ((↑i:Int)+1)=(↑(i+1):Int))) (List.set q15 q14 (wrap u8 (Int.tmod q8 256))=h'∧Zc=Zc∧x=x∧Z1) False) False) False) False) False) False) False) False) False) False) False) False) False) False) False) False) False) (Z0 (decide ((↑i:Int)=(↑i:Int))) (h=h∧Zc=Zc∧x=x∧Z2) False)) (by kernel_rfl) ?_
 conv=>zeta
 try simp only [Zi]
 try simp only [Zj]
 try simp only [Zg]
 try simp only [Zk]
 try simp only [Zl]
 try simp only [Zh]
 try simp only [Int.toNat_natCast,Nat.zero_add,true_and,and_true,Nat.le_refl]
 have hw:i64.wrap ((i:Int)+1)=((i+1:Nat):Int):=w64 (by omega)
 refine ⟨fun hlt=> ?_,fun hge=>h2 (by omega)⟩
 have e0:i64.wrap (4*(i:Int))=((4*i:Nat):Int):=by rw [w64 (by omega)];omega
 have e1:i64.wrap (((4*i:Nat):Int)+1)=((4*i+1:Nat):Int):=by rw [w64 (by omega)];omega
 have e2:i64.wrap (((4*i:Nat):Int)+2)=((4*i+2:Nat):Int):=by rw [w64 (by omega)];omega
 have e3:i64.wrap (((4*i:Nat):Int)+3)=((4*i+3:Nat):Int):=by rw [w64 (by omega)];omega
 simp only [e0,e1,e2,e3,hw,Int.toNat_natCast,List.length_set]
 repeat' (first|(refine And.intro ?_ ?_)|intro _)
 all_goals first|omega|exact hh.symm|exact h1 (by omega)|trivial
noncomputable def Zeo (x:List Int):Zd:=G0.withL 153 0 (goM 0 (toS x Zc 0) True (YR 0 8 9 (fun i=>i<8) (fun i=>i=8) (fun _=>False) (fun _=>False) (fun i=>toS x (toN x i) i) (fun i=>toS x (toN x i) i) (fun i=>toS x (toN x i) i)))
theorem Zc0 (x:List Int):(Zeo x).Ok:=by
 unfold Zeo
 refine Zd.withGoM (N:=20) (S:=fun i=>toS x (toN x i) i) Zu (by kernel_rfl) fun hC=>⟨rfl,fun i hi hgo=> ?_⟩
 exact Zh0 x (toN x i) (toN x (i+1)) i _ _ hi (Z3m x i) rfl (fun h=>⟨h,h⟩) (fun h=>h)
@[irreducible] def Vm (x:List Int):List Int:=toN x 8
attribute [irreducible] toN
theorem Zh1 (x r:List Int) (hr:r=toN x 8):
  evF (Zeo x) 20 153 [.agg [.arr .u32 8 x]] ⟨0,[]⟩ (XE 0 [] (.agg [.arr .u8 32 r]) 0 []):=by
 refine @Eq.mpr _ (Zc=Zc∧Zc=Zc∧x=x∧True∧∀(i:Nat),i≤8→(∀(j:Nat),j<i→(fun (i:Nat)=>i<8) j)→(i=8→toN x i=r∧True)∧(False→Zc=r∧True)∧(False→False)) (by kernel_rfl) ?_
 try simp only [Zi]
 try simp only [Zj]
 try simp only [Zg]
 try simp only [Zk]
 try simp only [Zl]
 try simp only [Zh]
 try simp only [Int.toNat_natCast,Nat.zero_add,true_and,and_true,Nat.le_refl]
 subst hr
 exact fun i hi _=>⟨fun he=>by subst he;rfl,fun h=>h.elim,fun h=>h⟩
def Za5 (T:List Int→List Int):ZG:=fun args _ K=>match args with
 | [.agg [.arr .u32 8 x]]=>K (.agg [.arr .u8 32 (T x)])
 | _=>False
theorem Za6 (args:List AV) (h:Z6) (K:AV→Prop) (hl:Za5 Vm args h K):Zm PP 153 args h fun o h'=>∃v,o=.ret v∧h'=h∧K v:=by
 unfold Za5 at hl
 split at hl
 ·rename_i x
  refine Qb (d:=20) (K0:=fun l=>l=[.agg [.arr .u32 8 x]]) ?_ fun l e=>⟨_,by rw [e];exact (by unfold Vm;exact .ev (Zc0 x) (Zh1 x _ rfl)),fun _=>rfl,hl⟩
  rfl
 ·exact hl.elim
end Go.Tk
end
section
namespace Go.Tk
open IntKind (i64 u8 u32 u64 wrap)
def Z3n (P:List Int→List Int→List Int):ZG:=fun args _ K=>match args with
 | [.agg [.arr .u32 8 st],.agg [.arr .u8 64 bl]]=>Zt (st.length=8) (K (.agg [.arr .u32 8 (P st bl)]))
 | _=>False
structure U7 (P:List Int→List Int→List Int):Prop where
 pure:∀st bl,st.length=8→Zy PP 152 [.agg [.arr .u32 8 st],.agg [.arr .u8 64 bl]] (.agg [.arr .u32 8 (P st bl)]) 0 []
 len:∀st bl,st.length=8→(P st bl).length=8
theorem Z5U {P:List Int→List Int→List Int} (hP:U7 P) (args:List AV) (h:Z6) (K:AV→Prop) (hl:Z3n P args h K):Zm PP 152 args h fun o h'=>∃v,o=.ret v∧h'=h∧K v:=by
 unfold Z3n at hl
 split at hl
 ·rename_i st bl
  obtain ⟨hs,hK⟩:=Z8 hl
  refine Qb (d:=20) (K0:=fun l=>l=[.agg [.arr .u32 8 st],.agg [.arr .u8 64 bl]]) ?_ fun l e=>⟨_,by rw [e];exact hP.pure st bl hs,fun _=>rfl,hK⟩
  rfl
 ·exact hl.elim
noncomputable def E56 (P:List Int→List Int→List Int) (Q:List Int→List Int) (T:List Int→List Int) (B:Nat):Zd:=((G0.withP 152 (Z3n P)).withF 151 (Zdl Q B)).withP 153 (Za5 T)
theorem Zep {P:List Int→List Int→List Int} (hP:U7 P) {B:Nat} (hB:B≤100000000000):(E56 P VK Vm B).Ok:=Zd.withP_ok (Zd.withF_ok (Zd.withP_ok Zu (Z5U hP)) (Za4 B hB)) Za6
def Zc1 (ys st:List Int) (o n:Nat):St:=⟨21,[(4,.nslice ⟨3,0,0,0,o⟩ 1 n n),(3,pt 2),(2,pt 0)],⟨4,[(3,.ints .u8 ys),(2,.flat [.arr .u32 8 st]),(0,.flat [.arr .u8 32 Zc])]⟩,[]⟩
def Z83 (st:List Int):St:=⟨21,[(3,pt 2),(2,pt 0)],⟨4,[(2,.flat [.arr .u32 8 st]),(0,.flat [.arr .u8 32 Zc])]⟩,[]⟩
theorem Zfx (P:List Int→List Int→List Int) (Q:List Int→List Int) (T:List Int→List Int) (B:Nat) (ys st st':List Int) (o o' n n' k i:Nat) (Z1 Z2:Prop) (hi:i≤k) (hk:ys.length=64*k) (ho:o=64*i) (ho':o'=64*(i+1)) (hn:n=64*k-64*i) (hn':n'=64*k-64*(i+1)) (hs:st.length=8) (hst:st'=P st ((ys.drop o).take 64)) (h1:i<k→Z1) (h2:i=k→Z2):
  ZD (E56 P Q T B) 20 102 0 0 (Zc1 ys st o n) (rdM 0 0 9 (Zc1 ys st' o' n') (Z83 st) (Z83 st) (Z83 st) Z1 Z2 False False):=by
 refine @Eq.mpr _ (let q1:=decide (n≤n);
 let q2:=decide ((0:Int)≤64∧64≤(↑n:Int));
 let q3:=X2 n (some 64);
 Z0 (decide ((↑n:Int)>0)) (Z0 q1 (Z0 q2 (Z0 (decide (o+0+64≤List.length ys)) (Z0 (decide (List.length st=8)) (Z0 q1 (Z0 q2 (Z0 (decide (o+64=o')) (Z0 (decide (q3=n')) (Z0 (decide (n'≤q3)) (ys=ys∧P st (List.take 64 (List.drop (o+0) ys))=st'∧Zc=Zc∧Z1) False) False) False) False) False) False) False) False) False) (st=st∧Zc=Zc∧Z2)) (by kernel_rfl) ?_
 conv=>zeta
 try simp only [Zi]
 try simp only [Zj]
 try simp only [Zg]
 try simp only [Zk]
 try simp only [Zl]
 try simp only [Zh]
 try simp only [Int.toNat_natCast,Nat.zero_add,true_and,and_true,Nat.le_refl]
 refine ⟨fun hlt=> ?_,fun hge=>h2 (by omega)⟩
 have e1:n-64=n':=by omega
 have e2:o+64=o':=by omega
 simp only [X2,e1,e2,Nat.add_zero]
 repeat' (first|(refine And.intro ?_ ?_)|intro _)
 all_goals first|omega|exact hst.symm|exact h1 (by omega)|trivial
def Uf (P:List Int→List Int→List Int) (ys:List Int):Nat→List Int
 | 0=>YH.st
 | i+1=>P (Uf P ys i) ((ys.drop (64*i)).take 64)
theorem Z4p {P:List Int→List Int→List Int} (hP:U7 P) (ys:List Int):∀i,(Uf P ys i).length=8
 | 0=>rfl
 | i+1=>hP.len _ _ (Z4p hP ys i)
theorem Z2u (P:List Int→List Int→List Int) (ys:List Int):Uf P ys 0=YH.st:=rfl
theorem Z2v (P:List Int→List Int→List Int) (ys:List Int) (i:Nat):Uf P ys (i+1)=P (Uf P ys i) ((ys.drop (64*i)).take 64):=rfl
attribute [irreducible] Uf
noncomputable def Zeq (P:List Int→List Int→List Int) (Q:List Int→List Int) (T:List Int→List Int) (B:Nat) (ys:List Int) (L k:Nat):Zd:=(E56 P Q T B).withL 102 0 (goM 0 (Zc1 ys [1779033703,3144134277,1013904242,2773480762,1359893119,2600822924,528734635,1541459225] 0 L) (ys.length=64*k∧L=64*k) (YR 0 k 9 (fun i=>i<k) (fun i=>i=k) (fun _=>False) (fun _=>False) (fun i=>Z83 (Uf P ys i)) (fun i=>Z83 (Uf P ys i)) (fun i=>Z83 (Uf P ys i))))
theorem Zc2 {P:List Int→List Int→List Int} (hP:U7 P) {B:Nat} (hB:B≤100000000000) (ys:List Int) (L k:Nat):(Zeq P VK Vm B ys L k).Ok:=by
 unfold Zeq
 refine Zd.withGoM (N:=20) (S:=fun i=>Zc1 ys (Uf P ys i) (64*i) (64*k-64*i)) (Zep hP hB) (by kernel_rfl) fun hC=>⟨?_,fun i hi hgo=> ?_⟩
 ·rw [hC.2,Z2u];rfl
 ·exact Zfx P VK Vm B ys (Uf P ys i) (Uf P ys (i+1)) _ _ _ _ k i _ _ hi hC.1 rfl rfl rfl rfl (Z4p hP ys i) (Z2v _ _ _) (fun h=>⟨h,h⟩) (fun h=>h)
theorem Zfy (P:List Int→List Int→List Int) (Q:List Int→List Int) (T:List Int→List Int) (B:Nat) (bs ys r:List Int) (n L k:Nat) (hn:n=bs.length) (hB:n≤B) (hy:ys=Q bs) (hL:L=ys.length) (hk:ys.length=64*k) (hr:r=T (Uf P ys k)):
  evF (Zeq P Q T B ys L k) 20 102 [.vints .u8 bs n] ⟨0,[]⟩ (XE 0 [] (.agg [.arr .u8 32 r]) 0 []):=by
 refine @Eq.mpr _ (let q1:=[(1779033703:Int),3144134277,1013904242,2773480762,1359893119,2600822924,528734635,1541459225];
 Z0 (decide (n=List.length bs)) (Z0 (decide (List.length bs≤B)) (Z0 (decide (List.length (Q bs)=L)) (Z0 (decide (L≤List.length (Q bs))) (Q bs=ys∧q1=q1∧Zc=Zc∧(List.length ys=64*k∧L=64*k)∧∀(i:Nat),i≤k→(∀(j:Nat),j<i→(fun (i:Nat)=>i<k) j)→(i=k→T (Uf P ys i)=r∧True)∧(False→Zc=r∧True)∧(False→False)) False) False) False) False) (by kernel_rfl) ?_
 conv=>zeta
 try simp only [Zi]
 try simp only [Zj]
 try simp only [Zg]
 try simp only [Zk]
 try simp only [Zl]
 try simp only [Zh]
 try simp only [Int.toNat_natCast,Nat.zero_add,true_and,and_true,Nat.le_refl]
 subst hy hr
 refine ⟨hn,by omega, ?_⟩
 exact ⟨hL.symm,by omega,rfl,⟨hk,by omega⟩,fun i hi _=>⟨fun he=>by rw [he],fun h=>h.elim,fun h=>h⟩⟩
theorem Za7 (bs:List Int) (h:bs.length≤100000000000):(VK bs).length=64*((VK bs).length/64):=by
 have:(VK bs).length=bs.length+1+((128-((bs.length:Int)+9)%64)%64).toNat+8:=by
  unfold VK Z09
  rw [ZbZ _ h]
  simp only [List.length_append,List.length_cons,List.length_nil,Z1r,List.length_replicate]
 omega
@[irreducible] def Za8 (P:List Int→List Int→List Int) (bs:List Int):List Int:=Vm (Uf P (VK bs) ((VK bs).length/64))
theorem Z84 {P:List Int→List Int→List Int} (hP:U7 P) (bs:List Int) (h:bs.length≤100000000000):Zy PP 102 [.vints .u8 bs bs.length] (.agg [.arr .u8 32 (Za8 P bs)]) 0 []:=by
 unfold Za8
 exact .ev (Zc2 hP (Nat.le_refl _) _ _ _) (Zfy P VK Vm 100000000000 bs _ _ _ _ _ rfl h rfl rfl (Za7 bs h) rfl)
def Zdm (H:List Int→List Int) (B:Nat):ZG:=fun args h K=>ZI none h true 20 args fun a=>UR a fun xs=>Zt (xs.length≤B) (K (.agg [.arr .u8 32 (H xs)]))
theorem Za9 {f:FuncId} {H:List Int→List Int} {B:Nat} (hp:∀xs:List Int,xs.length≤B→Zy PP f [.vints .u8 xs xs.length] (.agg [.arr .u8 32 (H xs)]) 0 []) (args:List AV) (h:Z6) (K:AV→Prop) (hl:Zdm H B args h K):Zm PP f args h fun o h'=>∃v,o=.ret v∧h'=h∧K v:=by
 refine Zy.psumm (d:=20) (Zs _ _ _ _ _ hl fun a ha=> ?_)
 obtain ⟨xs,rfl,hK⟩:=WT ha
 obtain ⟨hx,hK⟩:=Z8 hK
 exact ⟨_,hp xs hx,fun _=>rfl,hK⟩
end Go.Tk
end
section
namespace Go.Tk
open IntKind (i64 u8 u32 u64 wrap)
end Go.Tk
end
section
namespace Go.Tk
open IntKind (i64 u8 u32 u64 wrap)
def U32 (x:Int):Prop:=0≤x∧x<4294967296
theorem Z4q (x:Int):u32.wrap x=x%4294967296:=by
 unfold wrap
 simp [IntKind.bits,IntKind.signed]
theorem QF (x:Int):U32 (u32.wrap x):=by rw [Z4q];unfold U32;omega
theorem Xg {x:Int} (h:U32 x):u32.wrap x=x:=by rw [Z4q];unfold U32 at h;omega
theorem wr8 (x:Int):u8.wrap x=x%256:=by
 unfold wrap
 simp [IntKind.bits,IntKind.signed]
theorem Zfz (x y:Int):U32 (bOr .u32 x y):=QF _
theorem W6 (x y:Nat) (hx:x<4294967296) (hy:y<4294967296):Yu .u32 x y=((x^^^y:Nat):Int):=by
 unfold Yu
 rw [Xg]
 ·show (((BitVec.ofInt 32 (x:Int)^^^BitVec.ofInt 32 (y:Int)).toNat:Nat):Int)=_
  rw [BitVec.toNat_xor,BitVec.ofInt_natCast,BitVec.ofInt_natCast,BitVec.toNat_ofNat,BitVec.toNat_ofNat,Nat.mod_eq_of_lt hx,Nat.mod_eq_of_lt hy]
 ·unfold U32
  have:=(BitVec.ofInt u32.bits x^^^BitVec.ofInt u32.bits y).isLt
  simp only [IntKind.bits] at this
  simp only [IntKind.bits]
  omega
theorem Z3o (x y:Nat) (hx:x<4294967296) (hy:y<4294967296):bOr .u32 x y=((x|||y:Nat):Int):=by
 unfold bOr
 rw [Xg]
 ·show (((BitVec.ofInt 32 (x:Int)|||BitVec.ofInt 32 (y:Int)).toNat:Nat):Int)=_
  rw [BitVec.toNat_or,BitVec.ofInt_natCast,BitVec.ofInt_natCast,BitVec.toNat_ofNat,BitVec.toNat_ofNat,Nat.mod_eq_of_lt hx,Nat.mod_eq_of_lt hy]
 ·unfold U32
  have:=(BitVec.ofInt u32.bits x|||BitVec.ofInt u32.bits y).isLt
  simp only [IntKind.bits] at this
  simp only [IntKind.bits]
  omega
theorem Z1s (x y:Nat) (hx:x<4294967296) (hy:y<4294967296):Z03 .u32 x y=((x&&&y:Nat):Int):=by
 unfold Z03
 rw [Xg]
 ·show (((BitVec.ofInt 32 (x:Int)&&&BitVec.ofInt 32 (y:Int)).toNat:Nat):Int)=_
  rw [BitVec.toNat_and,BitVec.ofInt_natCast,BitVec.ofInt_natCast,BitVec.toNat_ofNat,BitVec.toNat_ofNat,Nat.mod_eq_of_lt hx,Nat.mod_eq_of_lt hy]
 ·unfold U32
  have:=(BitVec.ofInt u32.bits x&&&BitVec.ofInt u32.bits y).isLt
  simp only [IntKind.bits] at this
  simp only [IntKind.bits]
  omega
theorem U32.nat {x:Int} (h:U32 x):∃n:Nat,x=n∧n<4294967296:=⟨x.toNat,by unfold U32 at h;omega,by unfold U32 at h;omega⟩
theorem U32.of {n:Nat} (h:n<4294967296):U32 (n:Int):=by unfold U32;omega
theorem Z85 {x y:Int}:Yu .u32 x y=Yu .u32 y x:=by unfold Yu;rw [BitVec.xor_comm]
theorem Z5V {x y z:Int} (hx:U32 x) (hy:U32 y) (hz:U32 z):Yu .u32 (Yu .u32 x y) z=Yu .u32 x (Yu .u32 y z):=by
 obtain ⟨x,rfl,gx⟩:=hx.nat
 obtain ⟨y,rfl,gy⟩:=hy.nat
 obtain ⟨z,rfl,gz⟩:=hz.nat
 rw [W6 x y gx gy,W6 y z gy gz,W6 _ z (Nat.xor_lt_two_pow (n:=32) gx gy) gz,W6 x _ gx (Nat.xor_lt_two_pow (n:=32) gy gz),Nat.xor_assoc]
theorem Z86 {x:Int} (hx:U32 x):Yu .u32 0 x=x:=by
 obtain ⟨x,rfl,gx⟩:=hx.nat
 have:=W6 0 x (by omega) gx
 simpa using this
theorem Z3p (x n:Nat) (hn:n≤32):Zr .u32 x n=((x/2^n:Nat):Int):=by
 unfold Zr
 have:min (n:Int).toNat u32.bits=n:=by simp [IntKind.bits];omega
 rw [this,Int.fdiv_eq_ediv_of_nonneg _ (Int.le_of_lt (Int.pow_pos (by decide)))]
 simp
theorem ZfA {x:Int} (hx:U32 x) (n:Nat) (hn:n≤32):U32 (Zr .u32 x n):=by
 obtain ⟨x,rfl,gx⟩:=hx.nat
 rw [Z3p x n hn]
 exact U32.of (Nat.lt_of_le_of_lt (Nat.div_le_self x (2^n)) gx)
theorem Z5W (w n:Int):U32 (Z5y w n):=Zfz _ _
theorem Z6R {w:Int} (hw:U32 w) (a b c:Int):sg3 a b c w=XM 32 [a,b,c] w:=by
 obtain ⟨x,rfl,gx⟩:=hw.nat
 have h0:Zr .u32 (x:Int) 32=0:=by
  rw [show (32:Int)=((32:Nat):Int) from rfl,Z3p x 32 (by omega),Nat.div_eq_of_lt gx]
  rfl
 unfold sg3 XM
 simp only [List.foldl_cons,List.foldl_nil,h0,Z86 (Z5W _ _)]
theorem Z6S {w:Int} (hw:U32 w) (a b:Int) (n:Nat) (hn:n≤32):rg3 a b n w=XM n [a,b] w:=by
 have hs:=ZfA hw n hn
 unfold rg3 XM
 simp only [List.foldl_cons,List.foldl_nil]
 rw [Z85,Z5V hs (Z5W _ _) (Z5W _ _)]
theorem XR (x i:Nat) (hi:i≤32):Int.tmod (Zr .u32 x i) 2=(((x.testBit i).toNat:Nat):Int):=by
 rw [Z3p x i hi]
 rw [Int.tmod_eq_emod_of_nonneg (Int.natCast_nonneg _),Nat.toNat_testBit]
 rfl
theorem Z3q (b:Bool) (i:Nat) (hi:i<32):Zz .u32 ((b.toNat:Nat):Int) i=((2^i*b.toNat:Nat):Int):=by
 unfold Zz
 have:min (i:Int).toNat u32.bits=i:=by simp [IntKind.bits];omega
 rw [this]
 have h2:(2:Nat)^i<2^32:=Nat.pow_lt_pow_right (by decide) hi
 have h3:((2:Nat)^i*b.toNat)<4294967296:=by cases b<;>simp_all
 rw [show ((b.toNat:Nat):Int)*2^i=((2^i*b.toNat:Nat):Int) by push_cast;rw [Int.mul_comm]]
 exact Xg (U32.of h3)
theorem Z6T (x i:Nat):x%2^(i+1)=x%2^i+2^i*(x.testBit i).toNat:=by
 rw [Nat.toNat_testBit,Nat.mod_pow_succ]
theorem Z6U (x i:Nat) (hx:x<4294967296) (hi:i<32):u32.wrap (((x%2^i:Nat):Int)+((2^i*(x.testBit i).toNat:Nat):Int))=((x%2^(i+1):Nat):Int):=by
 rw [Z6T]
 rw [Xg]
 ·push_cast;rfl
 ·rw [show ((x%2^i:Nat):Int)+((2^i*(x.testBit i).toNat:Nat):Int)=((x%2^i+2^i*(x.testBit i).toNat:Nat):Int) by push_cast;rfl,←Z6T]
  exact U32.of (Nat.lt_of_le_of_lt (Nat.mod_le _ _) hx)
theorem Z2w (a b c:Nat) (ha:a<4294967296) (hb:b<4294967296) (hc:c<4294967296):∀i,i≤32→Wq a b c i=(((a&&&(b|||c)|||b&&&c)%2^i:Nat):Int)
 | 0,_=>by simp [Wq,Nat.mod_one]
 | i+1,hi=>by
  have hm:(a&&&(b|||c)|||b&&&c)<4294967296:=Nat.or_lt_two_pow (n:=32) (Nat.lt_of_le_of_lt Nat.and_le_left ha) (Nat.lt_of_le_of_lt Nat.and_le_left hb)
  rw [Wq,Z2w a b c ha hb hc i (by omega),XR a i (by omega),XR b i (by omega),XR c i (by omega),←Z6U _ i hm (by omega)]
  have ht:(a&&&(b|||c)|||b&&&c).testBit i=(a.testBit i&&(b.testBit i||c.testBit i)||b.testBit i&&c.testBit i):=by simp
  rw [ht]
  have h1:=Z3q true i (by omega)
  have hx:u32.wrap (((a&&&(b|||c)|||b&&&c)%2^i:Nat):Int)=(((a&&&(b|||c)|||b&&&c)%2^i:Nat):Int):=Xg (U32.of (Nat.lt_of_le_of_lt (Nat.mod_le _ _) hm))
  rw [Z4q,Z4q]
  cases a.testBit i<;>cases b.testBit i<;>cases c.testBit i<;>simp at h1 hx⊢ <;>first|rw [h1]|rw [hx]
theorem Zc3 {a b c:Int} (ha:U32 a) (hb:U32 b) (hc:U32 c):YZ a b c=bOr .u32 (Z03 .u32 a (bOr .u32 b c)) (Z03 .u32 b c):=by
 obtain ⟨a,rfl,ga⟩:=ha.nat
 obtain ⟨b,rfl,gb⟩:=hb.nat
 obtain ⟨c,rfl,gc⟩:=hc.nat
 have h1:=Nat.or_lt_two_pow (n:=32) gb gc
 have h2:a&&&(b|||c)<4294967296:=Nat.lt_of_le_of_lt Nat.and_le_left ga
 have h3:b&&&c<4294967296:=Nat.lt_of_le_of_lt Nat.and_le_left gb
 rw [Z3o b c gb gc,Z1s a _ ga h1,Z1s b c gb gc,Z3o _ _ h2 h3]
 unfold YZ
 rw [Z2w a b c ga gb gc 32 (by omega),Nat.mod_eq_of_lt]
 exact Nat.or_lt_two_pow (n:=32) h2 h3
theorem Z2x (a b c:Nat) (ha:a<4294967296) (hb:b<4294967296) (hc:c<4294967296):∀i,i≤32→WW a b c i=(((c^^^(a&&&(b^^^c)))%2^i:Nat):Int)
 | 0,_=>by simp [WW,Nat.mod_one]
 | i+1,hi=>by
  have hm:(c^^^(a&&&(b^^^c)))<4294967296:=Nat.xor_lt_two_pow (n:=32) hc (Nat.lt_of_le_of_lt Nat.and_le_left ha)
  rw [WW,Z2x a b c ha hb hc i (by omega),XR a i (by omega),XR b i (by omega),XR c i (by omega),←Z6U _ i hm (by omega)]
  have ht:(c^^^(a&&&(b^^^c))).testBit i=(c.testBit i^^(a.testBit i&&(b.testBit i^^c.testBit i))):=by simp
  rw [ht]
  have h1:=Z3q true i (by omega)
  have h0:=Z3q false i (by omega)
  cases a.testBit i<;>cases b.testBit i<;>cases c.testBit i<;>simp at h1 h0⊢ <;>first|rw [h1]|rw [h0,Int.add_zero]
theorem Zc4 {a b c:Int} (ha:U32 a) (hb:U32 b) (hc:U32 c):YS a b c=Yu .u32 c (Z03 .u32 a (Yu .u32 b c)):=by
 obtain ⟨a,rfl,ga⟩:=ha.nat
 obtain ⟨b,rfl,gb⟩:=hb.nat
 obtain ⟨c,rfl,gc⟩:=hc.nat
 have h1:=Nat.xor_lt_two_pow (n:=32) gb gc
 have h2:a&&&(b^^^c)<4294967296:=Nat.lt_of_le_of_lt Nat.and_le_left ga
 rw [W6 b c gb gc,Z1s a _ ga h1,W6 _ _ gc h2]
 unfold YS
 rw [Z2x a b c ga gb gc 32 (by omega),Nat.mod_eq_of_lt]
 exact Nat.xor_lt_two_pow (n:=32) gc h2
theorem Z2y (bl:List Int) (t:Nat):Xw bl (t+1)=(Xw bl t).set t (if t<16 then Z5T bl t else Za2 (Xw bl t) t):=by rw [Xw]
theorem Z2z (bl:List Int) (s t:Nat) (hs:s<t):∀u,(Xw bl (t+u)).getD s 0=(Xw bl t).getD s 0
 | 0=>rfl
 | u+1=>by
  rw [←Nat.add_assoc,Z2y,←Z2z bl s t hs u]
  simp only [List.getD_eq_getElem?_getD]
  rw [List.getElem?_set_ne (by omega)]
@[irreducible] def Z0a (bl:List Int) (t:Nat):Int:=(Xw bl 64).getD t 0
theorem Qh (bl:List Int) {s t:Nat} (hs:s<t) (ht:t≤64):(Xw bl t).getD s 0=Z0a bl s:=by
 unfold Z0a
 have:=Z2z bl s t hs (64-t)
 rw [show t+(64-t)=64 by omega] at this
 exact this.symm
theorem Z6V (bl:List Int) {t:Nat} (ht:t<64):Z0a bl t=if t<16 then Z5T bl t else Za2 (Xw bl t) t:=by
 rw [←Qh bl (Nat.lt_succ_self t) (by omega),Z2y]
 simp only [List.getD_eq_getElem?_getD]
 rw [List.getElem?_set_self (by rw [Z1p];omega)]
 rfl
theorem Z6W (bl:List Int) {t:Nat} (ht:t<16):Z0a bl t=Z5T bl t:=by rw [Z6V bl (by omega),if_pos ht]
theorem Z6X (bl:List Int) {t:Nat} (h16:16≤t) (ht:t<64):Z0a bl t=u32.wrap (u32.wrap (u32.wrap (rg3 17 19 10 (Z0a bl (t-2))+Z0a bl (t-7))+rg3 7 18 3 (Z0a bl (t-15)))+Z0a bl (t-16)):=by
 rw [Z6V bl (by omega),if_neg (by omega)]
 unfold Za2
 rw [Qh bl (by omega) (by omega),Qh bl (by omega) (by omega),Qh bl (by omega) (by omega),Qh bl (by omega) (by omega)]
theorem Zaa (bl:List Int) {t:Nat} (ht:t<64):U32 (Z0a bl t):=by
 by_cases h:t<16
 ·rw [Z6W bl h];exact QF _
 ·rw [Z6X bl (by omega) ht];exact QF _
theorem Qi (t:Nat):mAt (t:Int)=t%16:=by
 unfold mAt
 rw [tm (by omega)]
 omega
theorem Wr (i t:Nat) (hi:i<8) (ht:t≤64):atI (i:Int) (t:Int)=(i+64-t)%8:=by
 unfold atI
 rw [w64 (x:=(i:Int)+64) (by omega),w64 (by omega),tm (by omega)]
 omega
theorem Z1t (l:List Int) (i j:Nat) (x:Int) (hi:i<l.length):(l.set i x).getD j 0=if i=j then x else l.getD j 0:=by
 simp only [List.getD_eq_getElem?_getD]
 by_cases h:i=j
 ·subst h
  rw [List.getElem?_set_self hi,if_pos rfl];rfl
 ·rw [List.getElem?_set_ne h,if_neg h]
def Ring (bl r:List Int) (t:Nat):Prop:=r.length=16∧∀s,s<max 16 t→max 16 t≤s+16→r.getD (s%16) 0=Z0a bl s
theorem Ring.step {bl r:List Int} {t:Nat} (h:Ring bl r t) (ht:t<64):Ring bl (UP t r) (t+1):=by
 obtain ⟨hl,hr⟩:=h
 refine ⟨by rw [Z4f,hl],fun s h1 h2=> ?_⟩
 unfold UP
 by_cases h16:t<16
 ·rw [if_neg (by omega)]
  exact hr s (by omega) (by omega)
 ·rw [if_pos (by omega)]
  have w1:i64.wrap ((t:Int)+1)=((t+1:Nat):Int):=by rw [w64 (by omega)];omega
  have w9:i64.wrap ((t:Int)+9)=((t+9:Nat):Int):=by rw [w64 (by omega)];omega
  have w14:i64.wrap ((t:Int)+14)=((t+14:Nat):Int):=by rw [w64 (by omega)];omega
  have r0:=hr (t-16) (by omega) (by omega)
  have r1:=hr (t-15) (by omega) (by omega)
  have r9:=hr (t-7) (by omega) (by omega)
  have r14:=hr (t-2) (by omega) (by omega)
  rw [show (t-16)%16=t%16 by omega] at r0
  rw [show (t-15)%16=(t+1)%16 by omega] at r1
  rw [show (t-7)%16=(t+9)%16 by omega] at r9
  rw [show (t-2)%16=(t+14)%16 by omega] at r14
  rw [w1,w9,w14,Qi,Qi,Qi,Qi,r0,r1,r9,r14,Z1t _ _ _ _ (by rw [hl];omega)]
  by_cases hs:s=t
  ·subst hs
   rw [if_pos rfl,Z6X bl (by omega) ht]
   have e1:=Z6S (Zaa bl (t:=s-2) (by omega)) 17 19 10 (by omega)
   have e2:=Z6S (Zaa bl (t:=s-15) (by omega)) 7 18 3 (by omega)
   rw [show ((10:Nat):Int)=10 from rfl] at e1
   rw [show ((3:Nat):Int)=3 from rfl] at e2
   rw [e1,e2]
   simp only [Z4q]
   omega
  ·rw [if_neg (by omega)]
   exact hr s (by omega) (by omega)
def U8 (x:Int):Prop:=0≤x∧x<256
theorem Z0m (x n:Nat) (hn:n≤32) (h:x*2^n<4294967296):Zz .u32 x n=((x*2^n:Nat):Int):=by
 unfold Zz
 have:min (n:Int).toNat u32.bits=n:=by simp [IntKind.bits];omega
 rw [this,show (x:Int)*2^n=((x*2^n:Nat):Int) by push_cast;rfl]
 exact Xg (U32.of h)
theorem Z0n (x y:Nat) (hx:x<16777216) (hy:y<256):bOr .u32 (Zz .u32 x 8) y=((x*256+y:Nat):Int):=by
 have:=Z0m x 8 (by omega) (by omega)
 rw [show ((8:Nat):Int)=8 from rfl] at this
 rw [this,Z3o _ _ (by omega) (by omega),←Nat.shiftLeft_eq,←Nat.shiftLeft_add_eq_or_of_lt (by omega),Nat.shiftLeft_eq]
theorem VL {P:Int→Prop} {l:List Int} (h:∀x∈l,P x) (h0:P 0) (i:Nat):P (l.getD i 0):=by
 rw [List.getD_eq_getElem?_getD]
 cases hg:l[i]? with
 | none=>exact h0
 | some x=>exact h x (List.mem_of_getElem? hg)
theorem U8.nat {x:Int} (h:U8 x):∃n:Nat,x=n∧n<256:=⟨x.toNat,by unfold U8 at h;omega,by unfold U8 at h;omega⟩
theorem Zc5 (bl:List Int) (hb:∀x∈bl,U8 x) (t:Nat):Xi bl (4*t)=Z5T bl t:=by
 unfold Xi Z5T
 obtain ⟨a,ea,ha⟩:=(VL (P:=U8) hb (by unfold U8;omega) (4*t)).nat
 obtain ⟨b,eb,hb'⟩:=(VL (P:=U8) hb (by unfold U8;omega) (4*t+1)).nat
 obtain ⟨c,ec,hc⟩:=(VL (P:=U8) hb (by unfold U8;omega) (4*t+2)).nat
 obtain ⟨d,ed,hd⟩:=(VL (P:=U8) hb (by unfold U8;omega) (4*t+3)).nat
 rw [ea,eb,ec,ed]
 rw [Xg (x:=(a:Int)) (U32.of (by omega)),Xg (x:=(b:Int)) (U32.of (by omega)),Xg (x:=(c:Int)) (U32.of (by omega)),Xg (x:=(d:Int)) (U32.of (by omega))]
 have z:=Z0n 0 a (by omega) ha
 have s0:Zz .u32 0 8=0:=by decide
 rw [show Zz .u32 ((0:Nat):Int) 8=0 from s0] at z
 rw [z,Z0n _ b (by omega) hb',Z0n _ c (by omega) hc,Z0n _ d (by omega) hd]
 have g1:=Z0m a 24 (by omega) (by omega)
 have g2:=Z0m b 16 (by omega) (by omega)
 have g3:=Z0m c 8 (by omega) (by omega)
 rw [show ((24:Nat):Int)=24 from rfl] at g1
 rw [show ((16:Nat):Int)=16 from rfl] at g2
 rw [show ((8:Nat):Int)=8 from rfl] at g3
 rw [g1,g2,g3]
 simp only [Z4q]
 omega
theorem Ring.first (bl:List Int) (hb:∀x∈bl,U8 x):Ring bl (W4 bl) 0:=by
 refine ⟨rfl,fun s h1 _=> ?_⟩
 have h16:s<16:=by omega
 rw [Z6W bl h16,←Zc5 bl hb,Nat.mod_eq_of_lt h16]
 have:s=0∨s=1∨s=2∨s=3∨s=4∨s=5∨s=6∨s=7∨s=8∨s=9∨s=10∨s=11∨s=12∨s=13∨s=14∨s=15:=by omega
 rcases this with rfl|rfl|rfl|rfl|rfl|rfl|rfl|rfl|rfl|rfl|rfl|rfl|rfl|rfl|rfl|rfl<;>rfl
def Z1u (x y:List Int) (t:Nat):Prop:=x.length=8∧∀i,i<8→x.getD ((i+64-t)%8) 0=y.getD i 0
theorem Z1u.step {x y m:List Int} {w:Int} {t:Nat} (h:Z1u x y t) (hU:∀i,i<8→U32 (y.getD i 0)) (ht:t<64) (hm:m.getD (t%16) 0=w):
  Z1u (Z1V t m x) (QZ YZ YS (Wy.getD t 0) w y) (t+1):=by
 obtain ⟨hl,hr⟩:=h
 have a0:=Wr 0 t (by omega) (by omega)
 have a1:=Wr 1 t (by omega) (by omega)
 have a2:=Wr 2 t (by omega) (by omega)
 have a3:=Wr 3 t (by omega) (by omega)
 have a4:=Wr 4 t (by omega) (by omega)
 have a5:=Wr 5 t (by omega) (by omega)
 have a6:=Wr 6 t (by omega) (by omega)
 have a7:=Wr 7 t (by omega) (by omega)
 have h0:=hr 0 (by omega)
 have h1:=hr 1 (by omega)
 have h2:=hr 2 (by omega)
 have h3:=hr 3 (by omega)
 have h4:=hr 4 (by omega)
 have h5:=hr 5 (by omega)
 have h6:=hr 6 (by omega)
 have h7:=hr 7 (by omega)
 rw [←a0] at h0
 rw [←a1] at h1
 rw [←a2] at h2
 rw [←a3] at h3
 rw [←a4] at h4
 rw [←a5] at h5
 rw [←a6] at h6
 rw [←a7] at h7
 refine ⟨by rw [Z4g,hl], ?_⟩
 have hadd:QC t m x=u32.wrap (u32.wrap (u32.wrap (u32.wrap (y.getD 7 0+sg3 6 11 25 (y.getD 4 0))+YS (y.getD 4 0) (y.getD 5 0) (y.getD 6 0))+Wy.getD t 0)+w):=by
  unfold QC
  rw [Qi,hm]
  rw [show atI 7 (t:Int)=atI ((7:Nat):Int) t from rfl,show atI 4 (t:Int)=atI ((4:Nat):Int) t from rfl,show atI 5 (t:Int)=atI ((5:Nat):Int) t from rfl,show atI 6 (t:Int)=atI ((6:Nat):Int) t from rfl]
  rw [h4,h5,h6,h7,Z6R (hU 4 (by omega)),Zc4 (hU 4 (by omega)) (hU 5 (by omega)) (hU 6 (by omega))]
  rw [Nat.zero_add,Int.toNat_natCast]
 unfold Z1V
 rw [hadd]
 rw [show atI 7 (t:Int)=atI ((7:Nat):Int) t from rfl,show atI 3 (t:Int)=atI ((3:Nat):Int) t from rfl,show atI 0 (t:Int)=atI ((0:Nat):Int) t from rfl,show atI 1 (t:Int)=atI ((1:Nat):Int) t from rfl,show atI 2 (t:Int)=atI ((2:Nat):Int) t from rfl]
 rw [h0,h1,h2,h3,←Zc3 (hU 0 (by omega)) (hU 1 (by omega)) (hU 2 (by omega)),←Z6R (hU 0 (by omega)),a3,a7]
 intro i hi
 rw [Z1t _ _ _ _ (by rw [List.length_set,hl];omega),Z1t _ _ _ _ (by rw [hl];omega)]
 unfold QZ
 have:i=0∨i=1∨i=2∨i=3∨i=4∨i=5∨i=6∨i=7:=by omega
 rcases this with rfl|rfl|rfl|rfl|rfl|rfl|rfl|rfl
 ·rw [if_pos (by omega)]
  simp only [Z4q,List.getD_cons_zero]
  omega
 ·rw [if_neg (by omega),if_neg (by omega),show (1+64-(t+1))%8=(0+64-t)%8 by omega,hr 0 (by omega)];rfl
 ·rw [if_neg (by omega),if_neg (by omega),show (2+64-(t+1))%8=(1+64-t)%8 by omega,hr 1 (by omega)];rfl
 ·rw [if_neg (by omega),if_neg (by omega),show (3+64-(t+1))%8=(2+64-t)%8 by omega,hr 2 (by omega)];rfl
 ·rw [if_neg (by omega),if_pos (by omega)];rfl
 ·rw [if_neg (by omega),if_neg (by omega),show (5+64-(t+1))%8=(4+64-t)%8 by omega,hr 4 (by omega)];rfl
 ·rw [if_neg (by omega),if_neg (by omega),show (6+64-(t+1))%8=(5+64-t)%8 by omega,hr 5 (by omega)];rfl
 ·rw [if_neg (by omega),if_neg (by omega),show (7+64-(t+1))%8=(6+64-t)%8 by omega,hr 6 (by omega)];rfl
theorem Zc6 {k w:Int} {y:List Int} (hU:∀i,i<8→U32 (y.getD i 0)):∀i,i<8→U32 ((QZ YZ YS k w y).getD i 0):=by
 intro i hi
 unfold QZ
 have:i=0∨i=1∨i=2∨i=3∨i=4∨i=5∨i=6∨i=7:=by omega
 rcases this with rfl|rfl|rfl|rfl|rfl|rfl|rfl|rfl
 ·exact QF _
 ·exact hU 0 (by omega)
 ·exact hU 1 (by omega)
 ·exact hU 2 (by omega)
 ·exact QF _
 ·exact hU 4 (by omega)
 ·exact hU 5 (by omega)
 ·exact hU 6 (by omega)
def W8 (st:List Int):Prop:=st.length=8∧∀x∈st,U32 x
theorem W8.get {st:List Int} (h:W8 st) (i:Nat):U32 (st.getD i 0):=VL h.2 (by unfold U32;omega) i
theorem Z4r (bl st:List Int) (hb:∀x∈bl,U8 x) (hs:W8 st):∀t,t≤64→Ring bl (XN (W4 bl) st t).1 t∧Z1u (XN (W4 bl) st t).2 (VJ YZ YS (Xw bl 64) st t) t∧∀i,i<8→U32 ((VJ YZ YS (Xw bl 64) st t).getD i 0)
 | 0,_=>by
  rw [Z2j,Z81]
  refine ⟨Ring.first bl hb,⟨hs.1,fun i hi=> ?_⟩,fun i _=>hs.get i⟩
  rw [show (i+64-0)%8=i by omega]
 | t+1,h=>by
  obtain ⟨h1,h2,h3⟩:=Z4r bl st hb hs t (by omega)
  rw [Z2k,Z80]
  have hR:=h1.step (by omega)
  refine ⟨hR,h2.step h3 (by omega) ?_,Zc6 h3⟩
  rw [hR.2 t (by omega) (by omega)]
  unfold Z0a
  rfl
theorem Z87 (st x:List Int) (i:Nat):Wz st x (i+1)=(Wz st x i).set i (u32.wrap ((Wz st x i).getD i 0+st.getD i 0)):=by rw [Wz]
theorem Z88 (st x:List Int):Wz st x 0=x:=by rw [Wz]
theorem Zc7 (st x:List Int) (hs:st.length=8) (hx:x.length=8):Wz st x 8=Z7O st x:=by
 obtain ⟨a0,a1,a2,a3,a4,a5,a6,a7,rfl⟩:=eight st hs
 obtain ⟨b0,b1,b2,b3,b4,b5,b6,b7,rfl⟩:=eight x hx
 simp only [Z87,Z88]
 simp [Z7O,List.set,Int.add_comm]
theorem Z5X {x y:List Int} (h:Z1u x y 64) (hy:y.length=8):y=x:=by
 obtain ⟨h4,h5⟩:=h
 obtain ⟨a0,a1,a2,a3,a4,a5,a6,a7,rfl⟩:=eight _ hy
 obtain ⟨b0,b1,b2,b3,b4,b5,b6,b7,rfl⟩:=eight _ h4
 have g0:=h5 0 (by omega)
 have g1:=h5 1 (by omega)
 have g2:=h5 2 (by omega)
 have g3:=h5 3 (by omega)
 have g4:=h5 4 (by omega)
 have g5:=h5 5 (by omega)
 have g6:=h5 6 (by omega)
 have g7:=h5 7 (by omega)
 simp at g0 g1 g2 g3 g4 g5 g6 g7
 simp [g0,g1,g2,g3,g4,g5,g6,g7]
theorem Z4s (st bl:List Int) (hb:∀x∈bl,U8 x) (hs:W8 st):Xf st bl=Xv st bl:=by
 obtain ⟨_,h2,h3⟩:=Z4r bl st hb hs 64 (by omega)
 have hl:=Qg (M:=YZ) (P:=YS) (m:=Xw bl 64) hs.1 64
 unfold Xf Xv
 rw [Zc7 _ _ hs.1 hl]
 congr 1
 exact Z5X h2 hl
theorem Z4t (st bl:List Int) (hs:st.length=8):W8 (Xv st bl):=by
 refine ⟨Z2l st bl hs,fun x hx=> ?_⟩
 unfold Xv Z7O at hx
 obtain ⟨i,hi,rfl⟩:=List.getElem_of_mem hx
 simp only [List.getElem_zipWith]
 exact QF _
def Ug (P:List Int→List Int→List Int):Nat→List Int→List Int→List Int
 | 0,st,_=>st
 | n+1,st,ms=>Ug P n (P st (ms.take 64)) (ms.drop 64)
theorem QG (P:List Int→List Int→List Int):∀(n:Nat) (st ms:List Int),Ug P (n+1) st ms=P (Ug P n st ms) ((ms.drop (64*n)).take 64)
 | 0,_,_=>rfl
 | n+1,st,ms=>by
  rw [Ug,QG P n,List.drop_drop]
  rw [show 64+64*n=64*(n+1) by omega]
  rfl
theorem Z1v (P:List Int→List Int→List Int):∀(n:Nat) (st ms more:List Int),64*n≤ms.length→Ug P n st (ms++more)=Ug P n st ms
 | 0,_,_,_,_=>rfl
 | n+1,st,ms,more,h=>by
  rw [Ug,Ug,List.take_append_of_le_length (by omega),List.drop_append_of_le_length (by omega),Z1v P n _ _ _ (by rw [List.length_drop];omega)]
theorem Z1w:∀(n:Nat) (st ms:List Int),W8 st→(∀x∈ms,U8 x)→Ug Xf n st ms=Ug Xv n st ms
 | 0,_,_,_,_=>rfl
 | n+1,st,ms,hs,hm=>by
  rw [Ug,Ug,Z4s st _ (fun x hx=>hm x (List.mem_of_mem_take hx)) hs]
  exact Z1w n _ _ (Z4t st _ hs.1) fun x hx=>hm x (List.mem_of_mem_drop hx)
structure Rep (r:Zx) (ms:List Int):Prop where
 came:r.came=ms.length
 st:r.st=Ug Xv (ms.length/64) YH.st ms
 len:r.part.length=64
 part:r.part.take (ms.length%64)=ms.drop (64*(ms.length/64))
theorem Rep.ok {r:Zx} {ms:List Int} (h:Rep r ms) (h8:r.st.length=8):r.Ok:=⟨h8,h.len,by rw [h.came];omega⟩
theorem Rep.one {r:Zx} {ms:List Int} (h:Rep r ms) (bs:List Int):Rep (r.one bs) (ms++wTk r.came bs):=by
 have ha:wAt r.came=ms.length%64:=by
  unfold wAt
  rw [h.came,tm (by omega)]
  omega
 have hk:(wTk r.came bs).length≤64-ms.length%64:=by
  unfold wTk
  rw [ha,List.length_take]
  omega
 have hdl:(ms.drop (64*(ms.length/64))).length=ms.length%64:=by rw [List.length_drop];omega
 have hp:WQ r.part r.came bs=ms.drop (64*(ms.length/64))++wTk r.came bs++r.part.drop (ms.length%64+(wTk r.came bs).length):=by
  unfold WQ spl
  rw [ha,h.part]
 have hl:(WQ r.part r.came bs).length=64:=by
  rw [hp,List.length_append,List.length_append,hdl,List.length_drop,h.len]
  omega
 have hst:(r.one bs).st=if ms.length%64+(wTk r.came bs).length=64 then Xv r.st (WQ r.part r.came bs) else r.st:=by
  show wSt _ _ _ _=_
  unfold wSt
  rw [ha]
 have hca:(r.one bs).came=r.came+(wTk r.came bs).length:=rfl
 have hpa:(r.one bs).part=WQ r.part r.came bs:=rfl
 generalize wTk r.came bs=tk at*
 generalize WQ r.part r.came bs=pa at*
 have hal:(ms++tk).length=ms.length+tk.length:=List.length_append
 refine ⟨by rw [hca,h.came,hal];omega, ?_,by rw [hpa];exact hl, ?_⟩
 ·rw [hst,h.st]
  by_cases h64:ms.length%64+tk.length=64
  ·rw [if_pos h64,hal,show (ms.length+tk.length)/64=ms.length/64+1 by omega,QG,Z1v _ _ _ _ _ (by omega)]
   congr 1
   rw [List.drop_append_of_le_length (by omega),hp,show r.part.drop (ms.length%64+tk.length)=[] from List.drop_eq_nil_of_le (by rw [h.len];omega),List.append_nil,List.take_of_length_le (by rw [List.length_append,hdl];omega)]
  ·rw [if_neg h64,hal,show (ms.length+tk.length)/64=ms.length/64 by omega,Z1v _ _ _ _ _ (by omega)]
 ·rw [hpa,hal]
  by_cases h64:ms.length%64+tk.length=64
  ·rw [show (ms.length+tk.length)%64=0 by omega,List.take_zero,List.drop_eq_nil_of_le (by rw [hal];omega)]
  ·rw [show (ms.length+tk.length)/64=ms.length/64 by omega,show (ms.length+tk.length)%64=ms.length%64+tk.length by omega,hp,List.drop_append_of_le_length (by omega)]
   rw [List.take_append_of_le_length (by rw [List.length_append,hdl];omega)]
   exact List.take_of_length_le (by rw [List.length_append,hdl];omega)
theorem Rep.many:∀(n:Nat) (r:Zx) (ms bs:List Int),r.Ok→Rep r ms→bs.length≤n→Rep (Zx.many n r bs).1 (ms++bs)
 | 0,r,ms,bs,_,h,hn=>by
  have:bs=[]:=List.eq_nil_of_length_eq_zero (by omega)
  subst this
  rw [List.append_nil]
  exact h
 | n+1,r,ms,bs,hr,h,hn=>by
  unfold Zx.many
  split
  ·rw [List.append_nil];exact h
  ·rename_i b bs
   have hp:=U3 hr (bs:=b::bs) (by simp)
   have hb:(b::bs)=wTk r.came (b::bs)++(b::bs).drop (wTk r.came (b::bs)).length:=by
    unfold wTk
    rw [List.length_take]
    by_cases h:64-wAt r.came≤(b::bs).length
    ·rw [Nat.min_eq_left h,List.take_append_drop]
    ·rw [Nat.min_eq_right (by omega),List.take_of_length_le (by omega),List.drop_length,List.append_nil]
   have:=Rep.many n _ _ ((b::bs).drop (wTk r.came (b::bs)).length) (hr.one _) (h.one (b::bs)) (by rw [List.length_drop];simp only [List.length_cons] at hn⊢;omega)
   rw [List.append_assoc,←hb] at this
   exact this
theorem Rep.write {r:Zx} {ms:List Int} (hr:r.Ok) (h:Rep r ms) (bs:List Int):Rep (r.write bs) (ms++bs):=by
 unfold Zx.write
 exact Rep.many _ _ _ _ hr h (Nat.le_refl _)
theorem Rep.init:Rep YH []:=⟨rfl,rfl,rfl,rfl⟩
def QH (bs:List Int):List Int:=bs++Ue bs.length++len8 bs.length
def Z5Y (P:List Int→List Int→List Int) (bs:List Int):List Int:=Z6F (Ug P ((QH bs).length/64) YH.st (QH bs))
theorem Rep.fin {r:Zx} {ms:List Int} (hr:r.Ok) (h:Rep r ms):r.fin=Z5Y Xv ms:=by
 have h1:=h.write hr (Ue r.came)
 have h2:=h1.write (WR _ _ hr) (len8 r.came)
 unfold Zx.fin Z5Y
 rw [h2.st,h.came]
 rfl
theorem Zab (bs:List Int):ZJ bs=Z5Y Xv bs:=by
 unfold ZJ
 have:=Rep.init.write WS bs
 exact this.fin (WR _ _ WS)
theorem Z4u:W8 YH.st:=by
 refine ⟨rfl,fun x hx=> ?_⟩
 simp only [YH,List.mem_cons,List.not_mem_nil,or_false] at hx
 unfold U32
 rcases hx with rfl|rfl|rfl|rfl|rfl|rfl|rfl|rfl<;>omega
theorem Zc8 (n:Int):∀x∈Ue n,U8 x:=by
 intro x hx
 unfold Ue at hx
 rcases List.mem_append.mp hx with h|h
 ·rw [List.mem_singleton] at h
  subst h
  unfold U8;omega
 ·rw [List.eq_of_mem_replicate h]
  unfold U8;omega
theorem Zer (x:Int):U8 (u8.wrap x):=by rw [wr8];unfold U8;omega
theorem Zc9 (n:Int):∀x∈len8 n,U8 x:=by
 intro x hx
 unfold len8 Ut at hx
 simp only [List.mem_cons,List.not_mem_nil,or_false] at hx
 rcases hx with h|h|h|h|h|h|h|h<;>rw [h]<;>exact Zer _
theorem Z89 {bs:List Int} (h:∀x∈bs,U8 x):∀x∈QH bs,U8 x:=by
 intro x hx
 unfold QH at hx
 rcases List.mem_append.mp hx with h1|h1
 ·rcases List.mem_append.mp h1 with h2|h2
  ·exact h x h2
  ·exact Zc8 _ x h2
 ·exact Zc9 _ x h1
end Go.Tk
end
section
namespace Go.Tk
open IntKind (i64 u8 u32 u64 wrap)
theorem Zca:U7 Xf:=⟨fun st bl h=>Z4o st bl h,fun _ _ h=>Z3l h⟩
theorem Zac (x:List Int) (i:Nat):toN x (i+1)=((((toN x i).set (4*i) (u8.wrap (u32.wrap (Int.tdiv (x.getD i 0) 16777216)))).set (4*i+1) (toE (x.getD i 0) 65536)).set (4*i+2) (toE (x.getD i 0) 256)).set (4*i+3) (u8.wrap (Int.tmod (x.getD i 0) 256)):=by rw [toN]
theorem Zad (x:List Int):toN x 0=Zc:=by rw [toN]
def four (x:Int):List Int:=[u8.wrap (u32.wrap (Int.tdiv x 16777216)),toE x 65536,toE x 256,u8.wrap (Int.tmod x 256)]
theorem Z8a (x:List Int):(Vm x).length=32:=by unfold Vm;exact Z3m x 8
theorem Z5Z (x:List Int) (h:x.length=8):Vm x=four (x.getD 0 0)++four (x.getD 1 0)++four (x.getD 2 0)++four (x.getD 3 0)++four (x.getD 4 0)++four (x.getD 5 0)++four (x.getD 6 0)++four (x.getD 7 0):=by
 unfold Vm
 simp only [Zac,Zad]
 generalize x.getD 0 0=x0
 generalize x.getD 1 0=x1
 generalize x.getD 2 0=x2
 generalize x.getD 3 0=x3
 generalize x.getD 4 0=x4
 generalize x.getD 5 0=x5
 generalize x.getD 6 0=x6
 generalize x.getD 7 0=x7
 kernel_rfl
theorem Zcb (x:Int):u64.wrap x=x%18446744073709551616:=by
 unfold wrap
 simp [IntKind.bits,IntKind.signed]
theorem Z4v (x n:Nat) (hn:n≤64):Zr .u64 x n=((x/2^n:Nat):Int):=by
 unfold Zr
 have:min (n:Int).toNat u64.bits=n:=by simp [IntKind.bits];omega
 rw [this,Int.fdiv_eq_ediv_of_nonneg _ (Int.le_of_lt (Int.pow_pos (by decide)))]
 simp
theorem X5 {x:Int} (h:U32 x):four x=Vl (u64.wrap x):=by
 obtain ⟨x,rfl,gx⟩:=h.nat
 have e:u64.wrap (x:Int)=x:=by rw [Zcb];omega
 have s24:=Z4v x 24 (by omega)
 have s16:=Z4v x 16 (by omega)
 have s8:=Z4v x 8 (by omega)
 have s0:=Z4v x 0 (by omega)
 rw [show ((24:Nat):Int)=24 from rfl] at s24
 rw [show ((16:Nat):Int)=16 from rfl] at s16
 rw [show ((8:Nat):Int)=8 from rfl] at s8
 rw [show ((0:Nat):Int)=0 from rfl] at s0
 have d1:Int.tdiv (x:Int) 16777216=(x:Int)/16777216:=Int.tdiv_eq_ediv_of_nonneg (by omega)
 have d2:Int.tdiv (x:Int) 65536=(x:Int)/65536:=Int.tdiv_eq_ediv_of_nonneg (by omega)
 have d3:Int.tdiv (x:Int) 256=(x:Int)/256:=Int.tdiv_eq_ediv_of_nonneg (by omega)
 unfold four Vl toE
 rw [e,s24,s16,s8,s0,d1,d2,d3]
 simp only [wr8,Z4q]
 rw [tm (a:=(x:Int)/65536%4294967296) (by omega),tm (a:=(x:Int)/256%4294967296) (by omega),tm (a:=(x:Int)) (by omega)]
 simp only [List.cons.injEq,and_true]
 omega
theorem Z60 {x:List Int} (h:W8 x):Vm x=Z6F x:=by
 rw [Z5Z x h.1]
 unfold Z6F
 rw [X5 (h.get 0),X5 (h.get 1),X5 (h.get 2),X5 (h.get 3),X5 (h.get 4),X5 (h.get 5),X5 (h.get 6),X5 (h.get 7)]
theorem X6 (n:Nat) (i:Nat) (hi:i<8):ZbX n i=u8.wrap (Zr .u64 (u64.wrap (u64.wrap n*8)) ((56-8*i:Nat):Int)):=by
 unfold ZbX
 have e1:i64.wrap (8*(i:Int))=8*(i:Int):=w64 (by omega)
 have e2:i64.wrap (56-8*(i:Int))=((56-8*i:Nat):Int):=by rw [w64 (by omega)];omega
 have e3:u64.wrap ((56-8*i:Nat):Int)=((56-8*i:Nat):Int):=by rw [Zcb];omega
 rw [e1,e2,e3]
 obtain ⟨m,hm⟩:∃m:Nat,u64.wrap (u64.wrap n*8)=m:=⟨(u64.wrap (u64.wrap n*8)).toNat,by rw [Zcb,Zcb];omega⟩
 rw [hm,Z4v m _ (by omega)]
 generalize m/2^(56-8*i)=q
 rw [tm (by omega),wr8,wr8]
 omega
theorem Z8b (n:Nat):Xh n 8=len8 n:=by
 simp only [Xh,List.nil_append,List.cons_append]
 unfold len8 Ut
 rw [X6 n 0 (by omega),X6 n 1 (by omega),X6 n 2 (by omega),X6 n 3 (by omega),X6 n 4 (by omega),X6 n 5 (by omega),X6 n 6 (by omega),X6 n 7 (by omega)]
 rfl
theorem Z8c (n:Nat) (h:n≤100000000000):[128]++Z09 n=Ue n:=by
 unfold Z09 Ue
 have e1:Int.tmod (n:Int) 64=(n:Int)%64:=tm (by omega)
 have e2:i64.wrap (119-(n:Int)%64)=119-(n:Int)%64:=w64 (by omega)
 rw [ZbZ n h,e1,e2,tm (by omega)]
 congr 2
 omega
theorem Zae (bs:List Int) (h:bs.length≤100000000000):VK bs=QH bs:=by
 unfold VK QH
 rw [Z8b,List.append_assoc bs,Z8c _ h]
theorem Z2A (P:List Int→List Int→List Int) (ys:List Int):∀i,Uf P ys i=Ug P i YH.st ys
 | 0=>Z2u P ys
 | i+1=>by rw [Z2v,QG,Z2A P ys i]
theorem Z6Y:∀(n:Nat) (st ms:List Int),W8 st→W8 (Ug Xv n st ms)
 | 0,_,_,h=>h
 | n+1,st,_,h=>Z6Y n _ _ (Z4t st _ h.1)
@[irreducible] def Z1X (bs:List Int):List Int:=Za8 Xf bs
theorem Zaf (bs:List Int):(Z1X bs).length=32:=by unfold Z1X Za8;exact Z8a _
theorem Zcc {bs:List Int} (h:∀x∈bs,U8 x) (hl:bs.length≤100000000000):Z1X bs=ZJ bs:=by
 unfold Z1X Za8
 rw [Z2A,Zae bs hl,Z1w _ _ _ Z4u (Z89 h),Z60 (Z6Y _ _ _ Z4u),Zab]
 rfl
theorem Z8d (xs:List Int) (h:xs.length≤100000000000):Zy PP 102 [.vints .u8 xs xs.length] (.agg [.arr .u8 32 (Z1X xs)]) 0 []:=by
 unfold Z1X
 exact Z84 Zca xs h
end Go.Tk
end
section
namespace Go.Tk
open IntKind (i64 u8 u32 u64 wrap)
end Go.Tk
end
section
namespace Go.Tk
open IntKind (i64 u8 u32 u64 wrap)
end Go.Tk
end
section
namespace Go.Tk
open IntKind (i64 u8 u32 u64 wrap)
theorem Bytes.u8 {xs:List Int} (h:Bytes xs):∀x∈xs,U8 x:=by
 intro x hx
 obtain ⟨i,hi,rfl⟩:=List.getElem_of_mem hx
 have:=h.h i
 rw [List.getD_eq_getElem?_getD,List.getElem?_eq_getElem hi] at this
 simp at this
 unfold U8
 omega
end Go.Tk
end
section
namespace Go.Tk
open IntKind (i64 u8 u32 u64 wrap)
structure YM where
 fund:List Int
 index:Int
 cap:Int
 dust:Int
 fee:Int
 delay:Int
 k0:List Int
 k1:List Int
def YM.c (t:YM):List AV:=[.arr .u8 32 t.fund,.int .i64 t.index,.int .i64 t.cap,.int .i64 t.dust,.int .i64 t.fee,.int .i64 t.delay,.arr .u8 32 t.k0,.arr .u8 32 t.k1]
structure YM.Ok (t:YM):Prop where
 k0:t.k0.length=32
 k1:t.k1.length=32
 b0:Bytes t.k0
 b1:Bytes t.k1
def Xk (t:YM):Bool:=decide (0≤t.index∧t.index≤23)&&decide (1000≤t.cap∧t.cap≤1125899906842624)&&decide (1≤t.dust∧t.dust≤500)&&decide (0≤t.fee∧t.fee≤400)&&decide (1≤t.delay∧t.delay≤1000)&&(t.k0 !=t.k1)
theorem VM (b:Bool) (x y:Prop):Z0 b x y=((b=true→x)∧(b=false→y)):=by cases b<;>simp [Z0]
theorem ZfB (n a b:Int) (r:Bool) (hr:r=decide (a≤n∧n≤b)):
  evF G0 20 74 [.int .i64 n,.int .i64 a,.int .i64 b] ⟨0,[]⟩ (Y6 (fun v=>v=.bool r)):=by
 refine @Eq.mpr _ (Z0 (decide (a≤n)) (AV.bool (decide (n≤b))=AV.bool r) (AV.bool false=AV.bool r)) (by kernel_rfl) ?_
 simp only [VM]
 subst hr
 by_cases h1:a≤n<;>by_cases h2:n≤b<;>simp [h1,h2]
def inQ:ZG:=fun args _ K=>match args with
 | [.int .i64 n,.int .i64 a,.int .i64 b]=>K (.bool (decide (a≤n∧n≤b)))
 | _=>False
theorem Zes (args:List AV) (h:Z6) (K:AV→Prop) (hl:inQ args h K):Zm PP 74 args h fun o h'=>∃v,o=.ret v∧h'=h∧K v:=by
 unfold inQ at hl
 split at hl
 ·exact ZQ Zu rfl (ZfB _ _ _ _ rfl) (fun u hu=>hu▸hl)
 ·exact hl.elim
noncomputable def E71:Zd:=G0.withP 74 inQ
theorem Zet:E71.Ok:=Zd.withP_ok Zu Zes
theorem ZfC (t:YM) (e:Int) (ht:t.Ok) (he:e=if Xk t=true then 0 else 2):
  evF E71 20 72 [.agg t.c] ⟨0,[]⟩ (Y6 (fun v=>v=.int .i64 e)):=by
 refine @Eq.mpr _ (let q1:=AV.int i64 2=AV.int i64 e;
 Z0 (decide (List.length t.k0=32∧List.length t.k1=32)) (Z0 (false==decide (0≤t.index∧t.index≤23)) q1 (Z0 (false==decide (1000≤t.cap∧t.cap≤1125899906842624)) q1 (Z0 (false==decide (1≤t.dust∧t.dust≤500)) q1 (Z0 (false==decide (0≤t.fee∧t.fee≤400)) q1 (Z0 (false==decide (1≤t.delay∧t.delay≤1000)) q1 (Z0 (false== !t.k0==t.k1) q1 (AV.int i64 0=AV.int i64 e))))))) False) (by kernel_rfl) ?_
 conv=>zeta
 try simp only [Zi]
 try simp only [Zj]
 try simp only [Zg]
 try simp only [Zk]
 try simp only [Zl]
 try simp only [Zh]
 try simp only [Int.toNat_natCast,Nat.zero_add,true_and,and_true,Nat.le_refl]
 unfold Xk at he
 refine ⟨⟨ht.k0,ht.k1⟩, ?_⟩
 generalize decide (0≤t.index∧t.index≤23)=c1 at*
 generalize decide (1000≤t.cap∧t.cap≤1125899906842624)=c2 at*
 generalize decide (1≤t.dust∧t.dust≤500)=c3 at*
 generalize decide (0≤t.fee∧t.fee≤400)=c4 at*
 generalize decide (1≤t.delay∧t.delay≤1000)=c5 at*
 have h6:(t.k0 !=t.k1)= !(t.k0==t.k1):=rfl
 rw [h6] at he
 generalize (t.k0==t.k1)=c6 at*
 cases c1<;>cases c2<;>cases c3<;>cases c4<;>cases c5<;>cases c6<;>simp_all
theorem ZfD (t:YM) (b:Bool) (ht:t.Ok) (hb:b=Xk t):
  evF G0 20 93 [.agg t.c] ⟨0,[]⟩ (Y6 (fun v=>v=.bool b)):=by
 refine @Eq.mpr _ (let q1:=t.cap;
 let q2:=AV.bool false=AV.bool b;
 Z0 (decide (t.index≥0)) (Z0 (decide (t.index<24)) (Z0 (decide (q1≥1000)) (Z0 (decide (q1≥0)) (Z0 (decide (q1≤1125899906842624)) (Z0 (decide (t.dust≥1)) (Z0 (decide (t.dust≤500)) (Z0 (decide (t.fee≥0)) (Z0 (decide (t.fee≤400)) (Z0 (decide (t.delay≥1)) (Z0 (decide (t.delay≤1000)) (Z0 (decide (List.length t.k0=32∧List.length t.k1=32)) ((AV.bool !t.k0==t.k1)=AV.bool b) False) q2) q2) q2) q2) q2) q2) q2) q2) q2) q2) q2) (by kernel_rfl) ?_
 conv=>zeta
 try simp only [Zi]
 try simp only [Zj]
 try simp only [Zg]
 try simp only [Zk]
 try simp only [Zl]
 try simp only [Zh]
 try simp only [Int.toNat_natCast,Nat.zero_add,true_and,and_true,Nat.le_refl]
 subst hb
 unfold Xk
 repeat' (first|(refine And.intro ?_ ?_)|intro _|fail)
 all_goals first
  | exact ht.k0
  | exact ht.k1
  | (congr 1;symm;rw [Bool.eq_false_iff];simp only [ne_eq,Bool.and_eq_true,decide_eq_true_eq];intro h;omega)
  | (congr 1;have h1:(0≤t.index∧t.index≤23):=(by omega);have h2:(1000≤t.cap∧t.cap≤1125899906842624):=(by omega);have h3:(1≤t.dust∧t.dust≤500):=(by omega);have h4:(0≤t.fee∧t.fee≤400):=(by omega);have h5:(1≤t.delay∧t.delay≤1000):=(by omega);rw [decide_eq_true h1,decide_eq_true h2,decide_eq_true h3,decide_eq_true h4,decide_eq_true h5];rfl)
def Zag:ZG:=fun args _ K=>match args with
 | [.agg [.arr .u8 32 fu,.int .i64 ix,.int .i64 ca,.int .i64 du,.int .i64 fe,.int .i64 de,.arr .u8 32 k0,.arr .u8 32 k1]]=>(YM.Ok ⟨fu,ix,ca,du,fe,de,k0,k1⟩)∧K (.int .i64 (if Xk ⟨fu,ix,ca,du,fe,de,k0,k1⟩=true then 0 else 2))
 | _=>False
theorem Zah (args:List AV) (h:Z6) (K:AV→Prop) (hl:Zag args h K):Zm PP 72 args h fun o h'=>∃v,o=.ret v∧h'=h∧K v:=by
 unfold Zag at hl
 split at hl
 ·obtain ⟨ht,hK⟩:=hl
  exact ZQ Zet rfl (ZfC ⟨_,_,_,_,_,_,_,_⟩ _ ht rfl) (fun u hu=>hu▸hK)
 ·exact hl.elim
def Z61:ZG:=fun args _ K=>match args with
 | [.agg [.arr .u8 32 fu,.int .i64 ix,.int .i64 ca,.int .i64 du,.int .i64 fe,.int .i64 de,.arr .u8 32 k0,.arr .u8 32 k1]]=>(YM.Ok ⟨fu,ix,ca,du,fe,de,k0,k1⟩)∧K (.bool (Xk ⟨fu,ix,ca,du,fe,de,k0,k1⟩))
 | _=>False
theorem Z8e (args:List AV) (h:Z6) (K:AV→Prop) (hl:Z61 args h K):Zm PP 93 args h fun o h'=>∃v,o=.ret v∧h'=h∧K v:=by
 unfold Z61 at hl
 split at hl
 ·obtain ⟨ht,hK⟩:=hl
  exact ZQ Zu rfl (ZfD ⟨_,_,_,_,_,_,_,_⟩ _ ht rfl) (fun u hu=>hu▸hK)
 ·exact hl.elim
end Go.Tk
end
section
namespace Go.Tk
open IntKind (i64 u8 u32 u64 wrap)
structure Z9 where
 own:Bool
 id:Int
 amount:Int
 hash:List Int
 expiry:Int
 stage:Int
 fin:Int
 secret:List Int
def Z9.c (h:Z9):List AV:=[.bool h.own,.int .i64 h.id,.int .i64 h.amount,.arr .u8 32 h.hash,.int .i64 h.expiry,.int .i64 h.stage,.int .i64 h.fin,.arr .u8 32 h.secret]
structure Z9.Ok (h:Z9):Prop where
 hash:h.hash.length=32
 hb:Bytes h.hash
 secret:h.secret.length=32
 sb:Bytes h.secret
def Zo:Z9:=⟨false,0,0,Zc,0,0,0,Zc⟩
def Zf (L:List Z9) (i:Nat):List AV:=(L.getD i Zo).c
structure Za where
 t:YM
 side:Int
 res:Int
 a0:Int
 a1:Int
 i0:Int
 i1:Int
 L:List Z9
def Za.c (X:Za) (l:AV):List AV:=X.t.c++[.int .i64 X.side,.int .i64 X.res,.arr .i64 2 [X.a0,X.a1],.arr .i64 2 [X.i0,X.i1],l]
def WA (side:Int) (own:Bool):Int:=match own with|true=>side|false=>1-side
def Za.nx (X:Za) (own:Bool):Int:=match own with|true=>X.i0|false=>X.i1
def Za.am (X:Za) (s:Int):Int:=if s=0 then X.a0 else X.a1
def ZR (side s:Int) (L:List Z9):List Z9:=L.filter fun h=>decide (WA side h.own=s)
def Xx (L:List Z9):List Int:=L.map (·.amount)
def Yx (X:Za) (s:Int):Int:=X.am s-(Xx (ZR X.side s X.L)).sum-X.res-(if s=0 then X.t.fee else 0)
def Xy (h:Z9):Bool:=decide (0≤h.id∧h.id≤2147483647)&&decide (1≤h.amount∧h.amount≤1125899906842624)&&decide (1≤h.expiry∧h.expiry≤2147483647)
def Z62 (H:List Int→List Int) (h:Z9):Bool:=if h.fin=0 then decide (h.stage<6)&&(h.secret==Zc) else if h.fin=1 then decide (6≤h.stage)&&(H h.secret==h.hash) else if h.fin=2 then decide (6≤h.stage)&&(h.secret==Zc) else false
def Yf (H:List Int→List Int) (X:Za) (h:Z9):Bool:=Xy h&&decide (h.id<X.nx h.own)&&decide (1≤h.stage∧h.stage≤9)&&Z62 H h
def Wg (a b:Z9):Prop:=(a.own=true∧b.own=false)∨(a.own=b.own∧a.id<b.id∧min b.stage 5≤min a.stage 5)
instance (a b:Z9):Decidable (Wg a b):=by unfold Wg;infer_instance
def Y5 (H:List Int→List Int) (X:Za) (i:Nat):Bool:=Yf H X (X.L.getD i Zo)&&(Nat.beq i 0||decide (Wg (X.L.getD (i-1) Zo) (X.L.getD i Zo)))
def Z4w (X:Za):Bool:=Xk X.t&&decide (0≤X.side∧X.side≤1)&&decide (0≤X.res∧X.res≤X.t.cap/10)&&decide (0≤X.a0∧X.a0≤X.t.cap)&&decide (X.a1=X.t.cap-X.a0)&&decide (0≤X.i0∧X.i0≤2147483648)&&decide (0≤X.i1∧X.i1≤2147483648)&&decide ((ZR X.side 0 X.L).length≤8)&&decide ((ZR X.side 1 X.L).length≤8)
def Y7 (H:List Int→List Int) (X:Za):Bool:=Z4w X&&(List.range X.L.length).all (Y5 H X)&&decide (0≤Yx X 0)&&(decide ((ZR X.side 1 X.L).length=0)||decide (0≤Yx X 1))
theorem Z63 {a b c:Z9} (h1:Wg a b) (h2:Wg b c):Wg a c:=by
 unfold Wg at*
 rcases h1 with ⟨p1,p2⟩|⟨p1,p2,p3⟩<;>rcases h2 with ⟨q1,q2⟩|⟨q1,q2,q3⟩
 ·rw [p2] at q1;cases q1
 ·exact .inl ⟨p1,by rw [←q1,p2]⟩
 ·exact .inl ⟨by rw [p1,q1],q2⟩
 ·exact .inr ⟨p1.trans q1,by omega,by omega⟩
theorem Vn {α:Type} {R:α→α→Prop} (ht:∀{a b c},R a b→R b c→R a c) (d:α):∀(L:List α),(∀i,i+1<L.length→R (L.getD i d) (L.getD (i+1) d))→L.Pairwise R
 | [],_=>.nil
 | [a],_=>by simp
 | a::b::r,h=>by
  have ih:=Vn (R:=R) ht d (b::r) fun i hi=>by
   have:=h (i+1) (by simpa using hi)
   rw [List.getD_cons_succ,List.getD_cons_succ] at this
   exact this
  refine List.pairwise_cons.2 ⟨fun z hz=> ?_,ih⟩
  have hab:R a b:=by simpa using h 0 (by simp)
  rcases List.mem_cons.1 hz with rfl|hz
  ·exact hab
  ·exact ht hab ((List.pairwise_cons.1 ih).1 z hz)
structure Za.Inv (H:List Int→List Int) (X:Za):Prop where
 tok:X.t.Ok
 tb:Xk X.t=true
 side:X.side=0∨X.side=1
 res:0≤X.res∧X.res≤X.t.cap/10
 a0:0≤X.a0∧X.a0≤X.t.cap
 a1:X.a1=X.t.cap-X.a0
 i0:0≤X.i0∧X.i0≤2147483648
 i1:0≤X.i1∧X.i1≤2147483648
 n0:(ZR X.side 0 X.L).length≤8
 n1:(ZR X.side 1 X.L).length≤8
 und:∀h∈X.L,Yf H X h=true
 fol:X.L.Pairwise Wg
 ov0:0≤Yx X 0
 ov1:ZR X.side 1 X.L=[]∨0≤Yx X 1
 ok:∀h∈X.L,h.Ok
theorem U9 {X:Za}:Z4w X=true↔Xk X.t=true∧(0≤X.side∧X.side≤1)∧(0≤X.res∧X.res≤X.t.cap/10)∧(0≤X.a0∧X.a0≤X.t.cap)∧X.a1=X.t.cap-X.a0∧(0≤X.i0∧X.i0≤2147483648)∧(0≤X.i1∧X.i1≤2147483648)∧(ZR X.side 0 X.L).length≤8∧(ZR X.side 1 X.L).length≤8:=by
 unfold Z4w
 simp only [Bool.and_eq_true,decide_eq_true_eq,and_assoc]
theorem Ve {H:List Int→List Int} {X:Za}:Y7 H X=true↔Z4w X=true∧(∀i,i<X.L.length→Y5 H X i=true)∧0≤Yx X 0∧((ZR X.side 1 X.L).length=0∨0≤Yx X 1):=by
 unfold Y7
 simp only [Bool.and_eq_true,Bool.or_eq_true,decide_eq_true_eq,and_assoc,List.all_eq_true,List.mem_range]
theorem Y0 {L:List Z9} {i:Nat} (h:i<L.length):L.getD i Zo∈L:=by
 rw [List.getD_eq_getElem?_getD,List.getElem?_eq_getElem h];exact List.getElem_mem h
theorem Zcd {H:List Int→List Int} {X:Za} (ht:X.t.Ok) (hok:∀h∈X.L,h.Ok):Y7 H X=true↔X.Inv H:=by
 rw [Ve,U9]
 constructor
 ·rintro ⟨⟨h1,h2,h3,h4,h5,h6,h7,h8,h9⟩,hl,h10,h11⟩
  refine ⟨ht,h1,by omega,h3,h4,h5,h6,h7,h8,h9,fun h hh=> ?_, ?_,h10, ?_,hok⟩
  ·obtain ⟨i,hi,rfl⟩:=List.getElem_of_mem hh
   have:=hl i hi
   unfold Y5 at this
   simp only [Bool.and_eq_true] at this
   rw [List.getD_eq_getElem?_getD,List.getElem?_eq_getElem hi] at this
   exact this.1
  ·refine Vn (R:=Wg) Z63 Zo X.L fun i hi=> ?_
   have:=hl (i+1) hi
   unfold Y5 at this
   simp only [Bool.and_eq_true,Bool.or_eq_true,decide_eq_true_eq,Nat.add_sub_cancel] at this
   rcases this.2 with h|h
   ·have:=Nat.eq_of_beq_eq_true h;omega
   ·exact h
  ·rcases h11 with h|h
   ·exact .inl (List.eq_nil_of_length_eq_zero h)
   ·exact .inr h
 ·intro h
  refine ⟨⟨h.tb,by have:=h.side;omega,h.res,h.a0,h.a1,h.i0,h.i1,h.n0,h.n1⟩,fun i hi=> ?_,h.ov0, ?_⟩
  ·unfold Y5
   simp only [Bool.and_eq_true,Bool.or_eq_true,decide_eq_true_eq]
   refine ⟨h.und _ (Y0 hi), ?_⟩
   cases i with
   | zero=>exact .inl rfl
   | succ i=>
    right
    rw [Nat.add_sub_cancel,List.getD_eq_getElem?_getD,List.getD_eq_getElem?_getD,List.getElem?_eq_getElem hi,List.getElem?_eq_getElem (by omega)]
    exact (List.pairwise_iff_getElem.1 h.fol) i (i+1) (by omega) hi (by omega)
  ·rcases h.ov1 with h|h
   ·exact .inl (by rw [h];rfl)
   ·exact .inr h
def Z1x (own:Bool) (s:Int):Int:=if s<1∨9<s∨s=5 then 0 else match own with
 | true=>if s<5 then s else (s-4)%4+1
 | false=>if s<5 then (s+1)%4+1 else s-5
def Zeu (h:Z9):List Z9→List Z9
 | []=>[h]
 | x::r=>if h.own=true∧x.own=false then h::x::r else x::Zeu h r
def Xz (own:Bool) (id:Int):List Z9→Nat
 | []=>0
 | x::r=>if x.own=own∧x.id=id then 0 else Xz own id r+1
def XG (L:List Z9):Bool:=L.any fun h=>decide (Z1x h.own h.stage=1)
end Go.Tk
end
section
namespace Go.Tk
open IntKind (i64 u8 u32 u64 wrap)
theorem ZfE (n a b:Int) (r:Bool) (hr:r=decide (a≤n∧n≤b)):
  evF G0 20 68 [.int .i64 n,.int .i64 a,.int .i64 b] ⟨0,[]⟩ (Y6 (fun v=>v=.bool r)):=by
 refine @Eq.mpr _ (Z0 (decide (a≤n)) (AV.bool (decide (n≤b))=AV.bool r) (AV.bool false=AV.bool r)) (by kernel_rfl) ?_
 simp only [VM]
 subst hr
 by_cases h1:a≤n<;>by_cases h2:n≤b<;>simp [h1,h2]
theorem ZfF (n a b:Int) (r:Bool) (hr:r=decide (a≤n∧n≤b)):
  evF G0 20 78 [.int .i64 n,.int .i64 a,.int .i64 b] ⟨0,[]⟩ (Y6 (fun v=>v=.bool r)):=by
 refine @Eq.mpr _ (Z0 (decide (a≤n)) (AV.bool (decide (n≤b))=AV.bool r) (AV.bool false=AV.bool r)) (by kernel_rfl) ?_
 simp only [VM]
 subst hr
 by_cases h1:a≤n<;>by_cases h2:n≤b<;>simp [h1,h2]
theorem ZfG (n a b:Int) (r:Bool) (hr:r=decide (a≤n∧n≤b)):
  evF G0 20 149 [.int .i64 n,.int .i64 a,.int .i64 b] ⟨0,[]⟩ (Y6 (fun v=>v=.bool r)):=by
 refine @Eq.mpr _ (Z0 (decide (a≤n)) (AV.bool (decide (n≤b))=AV.bool r) (AV.bool false=AV.bool r)) (by kernel_rfl) ?_
 simp only [VM]
 subst hr
 by_cases h1:a≤n<;>by_cases h2:n≤b<;>simp [h1,h2]
theorem ZfH (n a b:Int) (r:Bool) (hr:r=decide (a≤n∧n≤b)):
  evF G0 20 86 [.int .i64 n,.int .i64 a,.int .i64 b] ⟨0,[]⟩ (Y6 (fun v=>v=.bool r)):=by
 refine @Eq.mpr _ (Z0 (decide (a≤n)) (AV.bool (decide (n≤b))=AV.bool r) (AV.bool false=AV.bool r)) (by kernel_rfl) ?_
 simp only [VM]
 subst hr
 by_cases h1:a≤n<;>by_cases h2:n≤b<;>simp [h1,h2]
theorem Z3r (args:List AV) (h:Z6) (K:AV→Prop) (hl:inQ args h K):Zm PP 68 args h fun o h'=>∃v,o=.ret v∧h'=h∧K v:=by
 unfold inQ at hl
 split at hl
 ·exact ZQ Zu rfl (ZfE _ _ _ _ rfl) (fun u hu=>hu▸hl)
 ·exact hl.elim
theorem Z1y (args:List AV) (h:Z6) (K:AV→Prop) (hl:inQ args h K):Zm PP 78 args h fun o h'=>∃v,o=.ret v∧h'=h∧K v:=by
 unfold inQ at hl
 split at hl
 ·exact ZQ Zu rfl (ZfF _ _ _ _ rfl) (fun u hu=>hu▸hl)
 ·exact hl.elim
theorem Z1z (args:List AV) (h:Z6) (K:AV→Prop) (hl:inQ args h K):Zm PP 149 args h fun o h'=>∃v,o=.ret v∧h'=h∧K v:=by
 unfold inQ at hl
 split at hl
 ·exact ZQ Zu rfl (ZfG _ _ _ _ rfl) (fun u hu=>hu▸hl)
 ·exact hl.elim
theorem Z1A (args:List AV) (h:Z6) (K:AV→Prop) (hl:inQ args h K):Zm PP 86 args h fun o h'=>∃v,o=.ret v∧h'=h∧K v:=by
 unfold inQ at hl
 split at hl
 ·exact ZQ Zu rfl (ZfH _ _ _ _ rfl) (fun u hu=>hu▸hl)
 ·exact hl.elim
noncomputable def Z64 (G:Zd):Zd:=(((G.withP 68 inQ).withP 78 inQ).withP 149 inQ).withP 86 inQ
noncomputable def Zev:Zd:=Z64 G0
theorem Z6Z:Zev.Ok:=Zd.withP_ok (Zd.withP_ok (Zd.withP_ok (Zd.withP_ok Zu Z3r) Z1y) Z1z) Z1A
theorem Zh2 (p:Z9) (b:Bool) (hb:b=Xy p):
  evF Zev 20 81 [.agg p.c] ⟨0,[]⟩ (Y6 (fun v=>v=.bool b)):=by
 refine @Eq.mpr _ (let q1:=AV.bool false=AV.bool b;
 Z0 (decide (0≤p.id∧p.id≤2147483647)) (Z0 (decide (1≤p.amount∧p.amount≤1125899906842624)) (AV.bool (decide (1≤p.expiry∧p.expiry≤2147483647))=AV.bool b) q1) q1) (by kernel_rfl) ?_
 conv=>zeta
 subst hb
 unfold Xy
 generalize decide (0≤p.id∧p.id≤2147483647)=c1
 generalize decide (1≤p.amount∧p.amount≤1125899906842624)=c2
 generalize decide (1≤p.expiry∧p.expiry≤2147483647)=c3
 cases c1<;>cases c2<;>cases c3<;>rfl
def Z65:ZG:=fun args _ K=>match args with
 | [.agg [.bool ow,.int .i64 id,.int .i64 am,.arr .u8 32 ha,.int .i64 ex,.int .i64 st,.int .i64 en,.arr .u8 32 se]]=>K (.bool (Xy ⟨ow,id,am,ha,ex,st,en,se⟩))
 | _=>False
theorem Z8f (args:List AV) (h:Z6) (K:AV→Prop) (hl:Z65 args h K):Zm PP 81 args h fun o h'=>∃v,o=.ret v∧h'=h∧K v:=by
 unfold Z65 at hl
 split at hl
 ·exact ZQ Z6Z rfl (Zh2 ⟨_,_,_,_,_,_,_,_⟩ _ rfl) (fun u hu=>hu▸hl)
 ·exact hl.elim
end Go.Tk
end
section
namespace Go.Tk
open IntKind (i64 u8 u32 u64 wrap)
theorem XA (L:List Z9) (i:Nat):YU (Zf L i)=true:=rfl
theorem ZM {k:Nat} {τ:Ren} {n:Nat} {L:List Z9} {f:Nat→List AV} (h:∀i,i<n→f i=Zf L i):ZO k τ n (Zf L) f:=
 Z7V h (fun i _=>XA L i) (fun i _ v hv=>by
  simp only [Zf,Z9.c,List.mem_cons,List.not_mem_nil,or_false] at hv
  rcases hv with rfl|rfl|rfl|rfl|rfl|rfl|rfl|rfl<;>first|exact .inl rfl|exact .inr ⟨_,_,_,rfl⟩)
theorem UV {f:Nat→List AV} {O:List Z9} {x:Z9} {c i:Nat} (hc:O.length=c) (hf:∀i,i<c→f i=Zf O i) (hi:i<c+1):Wd c f (Uy (Z9.c x) 0 70) i=Zf (O++[x]) i:=by
 rcases Nat.lt_or_ge i c with h|h
 ·rw [Z6K h,hf i h]
  unfold Zf
  rw [List.getD_eq_getElem?_getD,List.getD_eq_getElem?_getD,List.getElem?_append_left (by omega)]
 ·have e:i=c:=by omega
  subst e
  rw [Z3h (Nat.le_refl _),Nat.sub_self]
  unfold Zf
  rw [List.getD_eq_getElem?_getD,List.getElem?_append_right (by omega),hc,Nat.sub_self]
  rfl
theorem Zy.evV {G:Zd} (hG:G.Ok) {n:Nat} {f:FuncId} {args:List AV} {v:AV} (h:evF G n f args ⟨0,[]⟩ (Y6 fun u=>u=v)):Zy G.P f args v 0 []:=by
 intro E w rs he hr
 refine (UG hG h E w rs he hr).mono ?_
 rintro e w' ⟨E₁,o,h',hK0,hev,hor⟩
 cases hor with
 | panic u r hr=>exact hK0.elim
 | ret u r hr=>
  unfold Y6 at hK0
  simp only at hK0
  split at hK0
  ·rename_i hu
   subst hK0
   refine ⟨E,r,rfl,⟨.refl E,⟨he.fresh,fun x B hx=>by simp [Z6.get,ZC] at hx,fun x B hx=>by simp [Z6.get,ZC] at hx,fun x y B B' b N N' hx=>by simp [Z6.get,ZC] at hx,fun a c hi=>hev.emb.imm a c (hev.le.imm a c hi),fun a c x B N _ hx=>by simp [Z6.get,ZC] at hx⟩,hev.size,hev.os,hev.tape,hev.output,hev.keep,fun b hb=> ?_,fun _ _ h=>h⟩,Zb.vplain (E:=E₁) (E':=E) (fun a c hi=>hev.imm a c hi) _ _ hu hr⟩
   obtain ⟨x,B,N,hx,_⟩:=hb
   simp [Z6.get,ZC] at hx
  ·exact hK0.elim
theorem Qj (G:Zd) (f:FuncId) (S:ZG):(G.withP f S).P=G.P:=rfl
def Z66 (b:Bool) (x:Z9):List Z9:=match b with
 | true=>[x]
 | false=>[]
theorem QI {p:Z9→Bool} {L:List Z9} {i:Nat} (hi:i<L.length):(L.take (i+1)).filter p=(L.take i).filter p++Z66 (p (L.getD i Zo)) (L.getD i Zo):=by
 rw [List.take_succ_eq_append_getElem hi,List.filter_append,List.getD_eq_getElem?_getD,List.getElem?_eq_getElem hi]
 congr 1
theorem Z67 (x y:Prop):Z0 true x y=x:=rfl
theorem Zai (x y:Prop):Z0 false x y=y:=rfl
theorem WX (c x y:Bool) (v:AV):Z0 c (AV.bool x=v) (AV.bool y=v)=(AV.bool (cond c x y)=v):=by cases c<;>rfl
theorem Zaj (c:Bool) (k:IntKind) (x y:Int) (v:AV):Z0 c (AV.int k x=v) (AV.int k y=v)=(AV.int k (cond c x y)=v):=by cases c<;>rfl
inductive LV (cs:List AV) (X:Za):Prop where
 | a (h:cs=X.c (.vrows 70 X.L.length (Zf X.L) X.L.length))
 | b (h1:X.L=[]) (h:cs=X.c .nilslice)
def YW (X:Za):Prop:=0≤X.side∧X.side≤1
structure Z4x (X:Za):Prop where
 n:X.L.length<1000
 am:∀h∈X.L,0≤h.amount∧h.amount≤1125899906842624
 a0: -1152921504606846976≤X.a0∧X.a0≤1152921504606846976
 a1: -1152921504606846976≤X.a1∧X.a1≤1152921504606846976
 res:0≤X.res∧X.res≤1152921504606846976
 fee:0≤X.t.fee∧X.t.fee≤1152921504606846976
def Zak (H:List Int→List Int):ZG:=fun args h K=>ZI none h true 20 args fun a=>match a with
 | [.pview cs 0,.agg [.bool ow,.int .i64 id,.int .i64 am,.arr .u8 32 ha,.int .i64 ex,.int .i64 st,.int .i64 en,.arr .u8 32 se]]=>∃X,LV cs X∧Z9.Ok ⟨ow,id,am,ha,ex,st,en,se⟩∧K (.bool (Yf H X ⟨ow,id,am,ha,ex,st,en,se⟩))
 | _=>False
def Zew:ZG:=fun args _ K=>match args with
 | [.agg [.bool ow,.int .i64 id,.int .i64 am,.arr .u8 32 ha,.int .i64 ex,.int .i64 st,.int .i64 en,.arr .u8 32 se],.agg [.bool ow',.int .i64 id',.int .i64 am',.arr .u8 32 ha',.int .i64 ex',.int .i64 st',.int .i64 en',.arr .u8 32 se']]=>K (.bool (decide (Wg ⟨ow,id,am,ha,ex,st,en,se⟩ ⟨ow',id',am',ha',ex',st',en',se'⟩)))
 | _=>False
def Zex:ZG:=fun args _ K=>match args with
 | [.agg [.bool ow,.int .i64 _,.int .i64 _,.arr .u8 32 _,.int .i64 _,.int .i64 _,.int .i64 _,.arr .u8 32 _],.pview [.pview cs 0] 0,.pview [.int .i64 s] 0]=>∃X,LV cs X∧YW X∧K (.bool (decide (WA X.side ow=s)))
 | _=>False
def Zal:Yn:=fun args h K=>ZI none h true 20 args fun a=>match a with
 | [.vrows 70 n f n',.func (.func 136) [] [.pview [.pview cs 0] 0,.pview [.int .i64 s] 0]]=>∃X,n'=n∧n=X.L.length∧f=Zf X.L∧LV cs X∧YW X∧n<1000∧K (.ret (.nslice ⟨h.next,0,70,0,0⟩ 70 (ZR X.side s X.L).length (ZR X.side s X.L).length)) ⟨h.next+1,(h.next,.rows 70 (ZR X.side s X.L).length (Zf (ZR X.side s X.L)))::h.bs⟩
 | [.nilslice,.func (.func 136) [] [.pview [.pview cs 0] 0,.pview [.int .i64 s] 0]]=>∃X,LV cs X∧YW X∧X.L=[]∧K (.ret (.nslice ⟨h.next,0,70,0,0⟩ 70 (ZR X.side s X.L).length (ZR X.side s X.L).length)) ⟨h.next+1,(h.next,.rows 70 (ZR X.side s X.L).length (Zf (ZR X.side s X.L)))::h.bs⟩
 | _=>False
def Z3s:Yn:=fun args h K=>ZI none h true 20 args fun a=>match a with
 | [.pview cs 0,.int .i64 s]=>∃X,LV cs X∧YW X∧X.L.length<1000∧K (.ret (.nslice ⟨h.next,0,0,0,0⟩ 1 (ZR X.side s X.L).length (ZR X.side s X.L).length)) ⟨h.next+1,(h.next,.ints .i64 (Xx (ZR X.side s X.L)))::h.bs⟩
 | _=>False
def smS:ZG:=fun args h K=>ZI none h true 20 args fun a=>match a with
 | [.vints .i64 xs n]=>n=xs.length∧n<1000∧(∀x∈xs,0≤x∧x≤1125899906842624)∧K (.int .i64 xs.sum)
 | _=>False
def Zey:ZG:=fun args h K=>ZI none h true 20 args fun a=>match a with
 | [.pview cs 0,.int .i64 s]=>∃X,LV cs X∧YW X∧(s=0∨s=1)∧Z4x X∧K (.int .i64 (Yx X s))
 | _=>False
def ZfI (H:List Int→List Int):ZG:=fun args h K=>ZI none h true 20 args fun a=>match a with
 | [.pview cs 0]=>∃X,LV cs X∧X.t.Ok∧(∀h∈X.L,h.Ok)∧X.L.length<1000∧K (.bool (Y7 H X))
 | _=>False
def Zdn:ZG:=fun args h K=>ZI none h true 20 args fun a=>match a with
 | [.int .i64 s,.pview [.pview cs 0] 0]=>∃X,LV cs X∧YW X∧X.L.length<1000∧K (.bool (decide ((ZR X.side s X.L).length≤8)))
 | _=>False
theorem Zq.last {E:Env} {v v':AV} (hv:∀k m xs,v≠.arr k m xs) (hc:v'.isCell=true) (h:∀c,Zb E v c→Zb E v' c):∀{l:List AV} {vs:List Value},Zq E (l++[v]) vs→Zq E (l++[v']) vs
 | [],vs,hl=>by
  obtain ⟨c,w,rfl,h0,h2,h3,ht⟩:=hl.cons_cell hv
  exact .one _ _ _ _ hc h2 (h _ h3) ht
 | a::r,vs,hl=>by
  by_cases ha:∃k m xs,a=.arr k m xs
  ·obtain ⟨k,m,xs,rfl⟩:=ha
   obtain ⟨w,rfl,ht⟩:=Zq.cons_arr (r:=r++[v]) hl
   exact .arr _ _ _ _ _ (Zq.last hv hc h ht)
  ·obtain ⟨c,w,rfl,h0,h2,h3,ht⟩:=Zq.cons_cell (r:=r++[v]) hl (fun k m xs e=>ha ⟨k,m,xs,e⟩)
   exact .one _ _ _ _ h0 h2 h3 (Zq.last hv hc h ht)
theorem Za.c_eq (X:Za) (l:AV):X.c l=(X.t.c++[.int .i64 X.side,.int .i64 X.res,.arr .i64 2 [X.a0,X.a1],.arr .i64 2 [X.i0,X.i1]])++[l]:=by unfold Za.c;simp
theorem Z70 {cs:List AV} {X:Za} (h:LV cs X) {E:Env} {vs:List Value} (hc:Zq E cs vs):Zq E (X.c (.vrows 70 X.L.length (Zf X.L) X.L.length)) vs:=by
 rcases h with rfl|⟨h1,rfl⟩
 ·exact hc
 ·rw [Za.c_eq] at*
  refine Zq.last (by intros;simp) rfl (fun c hc=> ?_) hc
  cases hc
  rw [h1]
  exact .vrowsNil _ _ _ _ rfl rfl
def WB (X:Za):AV:=.pview (X.c (.vrows 70 X.L.length (Zf X.L) X.L.length)) 0
theorem W7 {cs:List AV} {X:Za} (h:LV cs X) {E:Env} {r:Value} (hc:Zb E (.pview cs 0) r):Zb E (WB X) r:=by
 cases hc with
 | pview cs inn a vs hc hi=>exact .pview _ 0 a vs (Z70 h hc) hi
theorem Z3t {cs:List AV} {X:Za} (h:LV cs X) {E:Env} {r:Value} (hc:Zb E (.pview [.pview cs 0] 0) r):Zb E (.pview [WB X] 0) r:=by
 cases hc with
 | pview cs inn a vs hc hi=>
  obtain ⟨c,w1,rfl,h0,h2,h3,hc⟩:=hc.cons_cell (by intros;simp)
  cases hc
  exact .pview _ 0 a _ (.one _ _ _ _ rfl h2 (W7 h h3) .nil) hi
end Go.Tk
end
section
namespace Go.Tk
open IntKind (i64 u8 u32 u64 wrap)
def jnP (k id:Nat) (pv:AV) (S1 Pn:St) (ok no:Prop):KE:=fun e s=>match e with
 | .exit x=>(match Nat.beq x id with|true=>Xj k S1 s ok|false=>False)
 | .panic v=>Y9 pv v (Xj k Pn s no)
 | _=>False
theorem Zd.withJX {G:Zd} (hG:G.Ok) {f:FuncId} {id N:Nat} {pv:AV} {S:Nat→St→KE→Prop} (hpv:pv.plain2=true) (h1:Z3k G.P f id=true)
  (h:∀k s X,S k s X→∃(S0 S1 Pn:St) (ok no:Prop),V9 k s S0∧Z4k G N f id k S0 (jnP k id pv S1 Pn ok no)∧(ok→X (.exit id) S1)∧(no→X (.panic pv) Pn)):(G.withL f id S).Ok where
 draw:=hG.draw
 psumm:=hG.psumm
 fsumm:=hG.fsumm
 lsumm:=fun f' id' S' fn c body hS hf hb hm k' s X hs=>by
  simp only [Zd.withL] at hS
  split at hS
  ·rename_i hq
   rw [Bool.and_eq_true] at hq
   have e1:=Nat.eq_of_beq_eq_true hq.1
   have e2:=Nat.eq_of_beq_eq_true hq.2
   subst e1 e2
   cases hS
   have hc:=Z7Z h1 hf hb hm
   obtain ⟨S0,S1,Pn,ok,no,hw,hE,hX,hX'⟩:=h _ _ _ hs
   unfold Z4k at hE
   rw [←hc] at hE
   have hkN:=VY hG N f' none
   refine Yb.weak ?_ hw
   intro E0 h0 w0 E a w n hk hs hev
   refine wpIn_mono (Qu (k:=k') (ro:=none) hG hkN.1 (fun _=>rfl) (fun _=>rfl) (fun _=>⟨fn,body,by rw [hkN.2.1];exact hf,hb,fun b hbm=>W2 body id' _ hm b hbm⟩) hE E0 h0 w0 E a w n hk hs hev) ?_
   rintro e a' w' ⟨E',x,s',hx,hev',hs',he⟩
   unfold jnP at hx
   split at hx
   ·split at hx
    ·rename_i hi
     have:=Nat.eq_of_beq_eq_true hi
     subst this
     obtain ⟨hok,hw'⟩:=Ye hx
     obtain ⟨E₂,hs₂,hev₂⟩:=hw' E0 h0 w0 E' a' w' hk hs' hev'
     cases he
     exact ⟨E₂,_,_,hX hok,hev₂,hs₂,.exit _⟩
    ·exact hx.elim
   ·obtain ⟨hv,hx2⟩:=VA _ _ _ hx
    subst hv
    obtain ⟨hno,hw'⟩:=Ye hx2
    obtain ⟨E₂,hs₂,hev₂⟩:=hw' E0 h0 w0 E' a' w' hk hs' hev'
    cases he with
    | panic v r hv=>exact ⟨E₂,_,_,hX' hno,hev₂,hs₂,.panic _ r (hv.plain2 hpv)⟩
   ·exact hx.elim
  ·exact hG.lsumm f' id' S' fn c body hS hf hb hm k' s X hs
theorem Zd.withGoX {G:Zd} (hG:G.Ok) {f:FuncId} {id N l:Nat} {pv:AV} {S:Nat→St→KE→Prop} (hpv:pv.plain2=true) (h1:Xt G.P f id=true)
  (h:∀k s X,S k s X→∃(n:Nat) (I En Rn Jn Pn:Nat→St) (go ex re jm pa:Nat→Prop),V9 k s (I 0)∧(∀i,i≤n→(∀j,j<i→go j)→ZD G N f id k (I i) (rdP k id l pv (I (i+1)) (En i) (Rn i) (Jn i) (Pn i) (go i∧i<n) (ex i) (re i) (jm i) (pa i)))∧
   Zfo id n l pv go ex re jm pa En Rn Jn Pn X):(G.withL f id S).Ok:=by
 refine Zd.withL_okP hG h1 ?_
 intro k s X hl
 obtain ⟨n,I,En,Rn,Jn,Pn,go,ex,re,jm,pa,hw,hr,hX⟩:=h k s X hl
 refine ⟨{ t:Nat//t≤n∧∀j,j<t→go j},fun t=>n-t.1,fun t=>I t.1,⟨0,Nat.zero_le _,fun j hj=>by omega⟩,N,hw, ?_⟩
 rintro ⟨t,ht,hgo⟩
 refine ⟨_,hr t ht hgo, ?_⟩
 intro e s' hY
 unfold rdP at hY
 split at hY
 ·obtain ⟨⟨hg,hlt⟩,hw'⟩:=Ye hY
  refine ⟨⟨t+1,hlt,fun j hj=> ?_⟩,by show n-(t+1)<n-t;omega,hw'⟩
  by_cases hjt:j=t
  ·rw [hjt];exact hg
  ·exact hgo j (by omega)
 ·split at hY
  ·rename_i hi
   have:=Nat.eq_of_beq_eq_true hi
   subst this
   obtain ⟨hex,hw'⟩:=Ye hY
   exact ⟨_,hw',(hX t ht hgo).1 hex⟩
  ·exact hY.elim
 ·obtain ⟨hre,hw'⟩:=Ye hY
  exact ⟨_,hw',(hX t ht hgo).2.1 hre⟩
 ·split at hY
  ·rename_i hi
   have:=Nat.eq_of_beq_eq_true hi
   subst this
   obtain ⟨hjm,hw'⟩:=Ye hY
   exact ⟨_,hw',(hX t ht hgo).2.2.1 hjm⟩
  ·exact hY.elim
 ·obtain ⟨hv,hY2⟩:=VA _ _ _ hY
  subst hv
  obtain ⟨hpa,hw'⟩:=Ye hY2
  exact ⟨hpv,_,hw',(hX t ht hgo).2.2.2 hpa⟩
theorem Spec.evK {G:Zd} (hG:G.Ok) {n:Nat} {f:FuncId} {args:List AV} {h0:Z6} {o:Out} {nx:Nat} {bs:List (Nat×Blk)} {K:KO} (h:evF G n f args h0 K) (hk:∀o' h',K o' h'→Ya h0.next o nx bs o' h'):Spec G.P f args h0 o nx bs:=by
 intro E w rs he hl
 refine (UG hG h E w rs he hl).mono ?_
 rintro e w' ⟨E',o',h',hK0,hev,hor⟩
 have hK:=hk _ _ hK0
 unfold Ya at hK
 cases o with
 | ret v=>
  cases hor with
  | ret u r hr=>
   obtain ⟨E₂,h1,h2⟩:=Z0i rfl hK he hev hr
   exact ⟨E₂,h1,.ret _ _ h2⟩
  | panic u r hr=>exact hK.elim
 | panic v=>
  cases hor with
  | panic u r hr=>
   obtain ⟨E₂,h1,h2⟩:=Z0i rfl hK he hev hr
   exact ⟨E₂,h1,.panic _ _ h2⟩
  | ret u r hr=>exact hK.elim
end Go.Tk
end
section
namespace Go.Tk
open IntKind (i64 u8 u32 u64 wrap)
def rdT (xs:List Int) (o:Nat):Option (Bool×Nat):=if o<xs.length∧xs.getD o 0≤1 then some (xs.getD o 0==1,o+1) else none
theorem Zh3 (xs:List Int) (o n o' n':Nat) (b:Bool) (hn:o+n=xs.length) (h0:0<n) (h1:xs.getD o 0≤1) (hb:b=(xs.getD o 0==1)) (ho:o'=o+1) (hn':n'=n-1):
  evF G0 20 116 [.ptr (some ⟨0,0,0,0,0⟩)] ⟨2,[(0,.flat [.nslice ⟨1,0,0,0,o⟩ 1 n n,.bool true,.bool false]),(1,.ints .u8 xs)]⟩ (Ya 2 (.ret (.tuple [.bool b,.int .i64 0])) 2 [(0,.flat [.nslice ⟨1,0,0,0,o'⟩ 1 n' n',.bool true,.bool false]),(1,.ints .u8 xs)]):=by
 refine @Eq.mpr _ (let q1:=Z0 (decide (false=b)) False False;
 let q2:=decide (n≤n);
 let q3:=decide ((0:Int)≤1∧1≤(↑n:Int));
 let q4:=o+0+0;
 let q5:=List.getD xs q4 0;
 let q6:=X2 n (some 1);
 Z0 (!decide (1≤(↑n:Int))) q1 (Z0 q2 (Z0 q3 (Z0 q2 (Z0 q3 (Z0 (decide (q4<List.length xs)) (Z0 (!decide (q5≤1)) q1 (Z0 (decide ((q5==1)=b)) (Z0 (decide (o+1=o')) (Z0 (decide (q6=n')) (Z0 (decide (n'≤q6)) (xs=xs∧True) False) False) False) False)) False) False) False) False) False)) (by kernel_rfl) ?_
 conv=>zeta
 try simp only [Zi]
 try simp only [Zj]
 try simp only [Zg]
 try simp only [Zk]
 try simp only [Zl]
 try simp only [Zh]
 try simp only [Int.toNat_natCast,Nat.zero_add,true_and,and_true,Nat.le_refl]
 subst hb ho hn'
 have e:X2 n (some 1)=n-1:=rfl
 rw [e]
 refine ⟨fun h=>absurd h (by simp;omega),fun _=>⟨by omega,by omega,by omega,fun h=>absurd h (by rw [decide_eq_true (show xs.getD (o+0+0) 0≤1 from h1)];decide),fun _=>by simp⟩⟩
theorem Zh4 (xs:List Int) (o n:Nat) (hn:o+n=xs.length) (h1:0<n→1<xs.getD o 0):
  evF G0 20 116 [.ptr (some ⟨0,0,0,0,0⟩)] ⟨2,[(0,.flat [.nslice ⟨1,0,0,0,o⟩ 1 n n,.bool true,.bool false]),(1,.ints .u8 xs)]⟩ (Ya 2 (.ret (.tuple [.bool false,.int .i64 140])) 2 [(0,.flat [.nslice ⟨1,0,0,0,o⟩ 1 n n,.bool true,.bool true]),(1,.ints .u8 xs)]):=by
 refine @Eq.mpr _ (let q1:=decide (n≤n);
 let q2:=Z0 (decide (o=o)) (Z0 (decide (n=n)) (Z0 q1 (xs=xs∧True) False) False) False;
 let q3:=decide ((0:Int)≤1∧1≤(↑n:Int));
 let q4:=o+0+0;
 let q5:=List.getD xs q4 0;
 Z0 (!decide (1≤(↑n:Int))) q2 (Z0 q1 (Z0 q3 (Z0 q1 (Z0 q3 (Z0 (decide (q4<List.length xs)) (Z0 (!decide (q5≤1)) q2 (Z0 (decide ((q5==1)=false)) False False)) False) False) False) False) False)) (by kernel_rfl) ?_
 conv=>zeta
 try simp only [Zi]
 try simp only [Zj]
 try simp only [Zg]
 try simp only [Zk]
 try simp only [Zl]
 try simp only [Zh]
 try simp only [Int.toNat_natCast,Nat.zero_add,true_and,and_true,Nat.le_refl]
 refine ⟨fun _=>by simp,fun h=>⟨by simp at h;omega,by simp at h;omega,by simp at h;omega,fun _=>by simp,fun h2=> ?_⟩⟩
 have:=h1 (by simp at h;omega)
 have h3:decide (xs.getD o 0≤1)=true:=by
  revert h2
  show (!decide (xs.getD o 0≤1))=false→_
  cases decide (xs.getD o 0≤1)<;>decide
 have h3:=of_decide_eq_true h3
 omega
def Zam:Yn:=fun args h K=>match args with
 | [.ptr (some ⟨r,0,0,0,0⟩)]=>match h.get r with
  |some (.flat [.nslice ⟨b,0,0,0,_⟩ 1 _ _,.bool true,.bool false])=>frA [r,b] h 20 args fun Bs a=>match Bs,a with
   | [.flat [.nslice ⟨1,0,0,0,o⟩ 1 n n2,.bool true,.bool false],.ints .u8 xs],[.ptr (some ⟨0,0,0,0,0⟩)]=>
    Zt (n=xs.length-o∧o≤xs.length∧n2=xs.length-o) ((∀v o',rdT xs o=some (v,o')→(o≤o'∧o'≤xs.length)→
     K (.ret (.tuple [.bool v,.int .i64 0])) ⟨h.next,(r,.flat [.nslice ⟨b,0,0,0,o'⟩ 1 (xs.length-o') (xs.length-o'),.bool true,.bool false])::(b,.ints .u8 xs)::YT (YT h.bs r) b⟩)∧
     (rdT xs o=none→K (.ret (.tuple [.bool false,.int .i64 140])) ⟨h.next,(r,.flat [.nslice ⟨b,0,0,0,o⟩ 1 (xs.length-o) (xs.length-o),.bool true,.bool true])::(b,.ints .u8 xs)::YT (YT h.bs r) b⟩))
   | _,_=>False
  | _=>False
 | _=>False
theorem Zan (args:List AV) (h:Z6) (K:KO) (hl:Zam args h K):Zm PP 116 args h K:=by
 unfold Zam at hl
 split at hl
 ·split at hl
  ·refine Spec.fsumm hl fun Bs a hlen hK0=> ?_
   split at hK0
   ·rename_i o n n2 xs
    obtain ⟨⟨rfl,h1,rfl⟩,hK,hK'⟩:=Z8 hK0
    by_cases hc:o<xs.length∧xs.getD o 0≤1
    ·exact ⟨_,_,_,_,_,.evM Zu (Zh3 xs o (xs.length-o) (o+1) (xs.length-(o+1)) _ (by omega) (by omega) hc.2 rfl rfl (by omega)),by simp,.ret _ _ rfl,.cons _ _ _ _ _ _ rfl (.flat _ _ rfl) (.cons _ _ _ _ _ _ rfl (.ints _ _) .nil),hK _ (o+1) (by unfold rdT;rw [if_pos hc]) ⟨by omega,by omega⟩⟩
    ·exact ⟨_,_,_,_,_,.evM Zu (Zh4 xs o _ (by omega) (fun h=>by omega)),by simp,.ret _ _ rfl,.cons _ _ _ _ _ _ rfl (.flat _ _ rfl) (.cons _ _ _ _ _ _ rfl (.ints _ _) .nil),hK' (by unfold rdT;rw [if_neg hc])⟩
   ·exact hK0.elim
  ·exact hl.elim
 ·exact hl.elim
def Z1B (b:Bool) (xs:List Int) (o:Nat):Option (List Int×Nat):=match b with|true=>rdH xs o|false=>some (Zc,o)
def Yy (F:List Int→Int×Int) (xs:List Int) (o:Nat):Option (Z9×Nat):=
 (rdT xs o).bind fun a=>(rdN F xs a.2 2147483647).bind fun b=>(rdN F xs b.2 1125899906842624).bind fun c=>(rdH xs c.2).bind fun d=>
 (rdN F xs d.2 2147483647).bind fun e=>(rdN F xs e.2 9).bind fun f=>(rdN F xs f.2 2).bind fun g=>(Z1B (g.1==1) xs g.2).bind fun s=>
 some (⟨a.1,b.1,c.1,d.1,e.1,f.1,g.1,s.1⟩,s.2)
noncomputable def Z3u (F:List Int→Int×Int) (H:List Int→List Int):Zd:=((((((G0.withF 55 (Z9L F)).withF 54 Z5K).withF 116 Zam).withF 58 Z9N).withF 113 Z3j).withP 32 (ZfI H))
def lrD:List Vo:=[.call 52 [.ptr (some ⟨0,0,0,0,0⟩),.ptr (some ⟨1,0,0,0,0⟩)]]
def lrT (l:ZU):ZU:=l++[(4,.ptr (some ⟨4,0,0,0,0⟩)),(3,.ptr (some ⟨1,0,0,0,0⟩)),(2,.ptr (some ⟨0,0,0,0,0⟩))]
def lrH (X:Za) (l:AV) (xs:List Int) (o:Nat) (r:List (Nat×Blk)):List (Nat×Blk):=[(0,.flat [.ptr (some ⟨5,0,0,0,0⟩)]),(1,.flat [.int .i64 0]),(2,.ints .u8 xs),(3,.flat [.nslice ⟨2,0,0,0,o⟩ 1 (xs.length-o) (xs.length-o),.bool true,.bool false]),(4,.flat [.ptr (some ⟨3,0,0,0,0⟩)]),(5,.flat (X.c l))]++r
def lr0 (X:Za) (xs:List Int) (o:Nat):St:=⟨120,lrT [(42,.int .i64 5),(41,.nslice ⟨6,0,0,0,0⟩ 1 5 5),(43,.int .i64 0)],⟨7,lrH X .nilslice xs o [(6,.flat [.ptr (some ⟨5,0,0,32,0⟩),.ptr (some ⟨5,0,0,33,0⟩),.ptr (some ⟨5,0,0,34,0⟩),.ptr (some ⟨5,0,0,35,0⟩),.ptr (some ⟨5,0,0,36,0⟩)])]⟩,lrD⟩
def lr1 (X:Za) (xs:List Int) (o:Nat):St:=⟨120,lrT [],⟨6,lrH X .nilslice xs o []⟩,lrD⟩
def lrP:St:=⟨120,[(2,.ptr (some ⟨0,0,0,0,0⟩)),(3,.ptr (some ⟨1,0,0,0,0⟩))],⟨2,[(0,.flat [.top]),(1,.flat [.top])]⟩,lrD⟩
def pvL:AV:=.iface 29 (.int .i64 204)
end Go.Tk
end
