/- K: part 4 of an engine (a symbolic evaluator, proved against the model) and of the walk by it. -/
import Derived.Test.YtjahlbmhknicjaaGreatK3
import Derived.OpenShut
import Derived.WideShapes
import Derived.ChangeSlices
import Derived.WalkKit
import Derived.ProofKit
import Derived.Below
import Derived.Handed
import Derived.Carry
set_option linter.unusedVariables false
set_option linter.unusedSimpArgs false
set_option maxRecDepth 100000
set_option maxHeartbeats 0
section
namespace Go.Tk
open IntKind (i64 u8 u32 u64 wrap)
def Yu (id n l:Nat) (go ex re jm:Nat->Prop) (En Rn Jn:Nat->St):KE->Prop:=fun X=>
 ∀i,i<=n->(∀j,j<i->go j)->(ex i->X (.exit id) (En i))/\(re i->X .ret (Rn i))/\(jm i->X (.goto l) (Jn i))
theorem Zi {p x:Prop} [Decidable p]:Z0 (decide p) x False=(p/\x):=by
 by_cases h:p
 ·rw [decide_eq_true h];simp [Z0,h]
 ·rw [decide_eq_false h];simp [Z0,h]
theorem Zj {p x:Prop} [Decidable p]:Z0 (decide p) False x=(¬p/\x):=by
 by_cases h:p
 ·rw [decide_eq_true h];simp [Z0,h]
 ·rw [decide_eq_false h];simp [Z0,h]
theorem Zf {p x y:Prop} [Decidable p]:Z0 (decide p) x y=((p->x)/\(¬p->y)):=by
 by_cases h:p
 ·rw [decide_eq_true h];simp [Z0,h]
 ·rw [decide_eq_false h];simp [Z0,h]
theorem Zk {b:Bool} {x:Prop}:Z0 b x False=(b=true/\x):=by cases b<;>simp [Z0]
theorem Zl {b:Bool} {x:Prop}:Z0 b False x=(b=false/\x):=by cases b<;>simp [Z0]
theorem Zg {b:Bool} {x y:Prop}:Z0 b x y=((b=true->x)/\(b=false->y)):=by cases b<;>simp [Z0]
theorem ZaU {k:Nat} {τ:Ren} {v:AV} (hp:v.plain=true) (hc:v.isCell=true) {Z:Prop} (hZ:Z):eqV k τ v v Z:=by
 cases v with
 | ptr p=>cases p<;>simp_all [AV.plain,eqV]
 | map r=>cases r<;>simp_all [AV.plain,eqV]
 | _=>simp_all [AV.plain,eqV,UO,AV.isCell]
theorem Z4p {k:Nat} {τ:Ren}:∀{l:List AV},Yt l=true->∀{Z:Prop},Z->(∀v∈l,v.isCell=true\/∃k n xs,v=.arr k n xs)->eqC k τ l l Z
 | [],_,Z,hZ,_=>by simp [eqC,hZ]
 | v::r,hp,Z,hZ,hc=>by
  simp only [Yt,Bool.and_eq_true] at hp
  have hr:=Z4p (k:=k) (τ:=τ) hp.2 hZ (fun u hu=>hc u (List.mem_cons_of_mem _ hu))
  rcases hc v (by simp) with hv|⟨kk,n,xs,rfl⟩
  ·have hna:∀a b c,v≠.arr a b c:=fun a b c e=>by subst e;simp [AV.isCell] at hv
   cases v with
   | arr a b c=>exact absurd rfl (hna a b c)
   | agg cs=>simp [AV.isCell] at hv
   | tuple cs=>simp [AV.isCell] at hv
   | _=>simp only [eqC,hv,Bool.and_self];exact ZaU hp.1 hv hr
  ·unfold eqC
   simp [hr,Nat.beq_refl]
theorem Z4q {k:Nat} {τ:Ren} {n:Nat} {f f':Nat->List AV} (h:∀i,i<n->f' i=f i) (hp:∀i,i<n->Yt (f i)=true) (hc:∀i,i<n->∀v∈f i,v.isCell=true\/∃k n xs,v=.arr k n xs):Zc k τ n f f':=
 ⟨fun i hi=>by rw [h i hi];exact Z4p (hp i hi) trivial (hc i hi)⟩
theorem ZiI {a b:Nat} (h:a<b):Nat.blt a b=true:=by rw [Nat.blt_eq];exact h
theorem ZiJ {a b:Nat} (h:Nat.blt a b=true):a<b:=by rw [Nat.blt_eq] at h;exact h
theorem Z5o {n i:Nat} {f g:Nat->List AV} (h:i<n):ZZ n f g i=f i:=by unfold ZZ;rw [ZiI h]
theorem Z0k {n i:Nat} {f g:Nat->List AV} (h:n<=i):ZZ n f g i=g (i-n):=by
 unfold ZZ
 have:Nat.blt i n=false:=by
  cases hq:Nat.blt i n with
  | false=>rfl
  | true=>have:=ZiJ hq;omega
 rw [this]
theorem ZA.vrows0 {P:Program} {f:FuncId} {esz:Nat} {g:Nat->List AV} {v:AV} {nx:Nat} {bs:List (Nat×Blk)} (h1:ZA P f [.nilslice] v nx bs) (h2:ZA P f [.fslice] v nx bs):ZA P f [.vrows esz 0 g 0] v nx bs:=by
 intro E w rs he hr
 cases hr with
 | cons v r vs rs hv ht=>cases ht with
  | nil=>cases hv with
   | vrowsNil esz n f len _ _=>exact h1 E w _ he (.cons _ _ _ _ .nilslice .nil)
   | vrows esz n f len a cap g _ _ _ _ _=>exact h2 E w _ he (.cons _ _ _ _ (.fslice a cap) .nil)
theorem ZA.vints0 {P:Program} {f:FuncId} {k:IntKind} {v:AV} {nx:Nat} {bs:List (Nat×Blk)} (h1:ZA P f [.nilslice] v nx bs) (h2:ZA P f [.fslice] v nx bs):ZA P f [.vints k [] 0] v nx bs:=by
 intro E w rs he hr
 cases hr with
 | cons v r vs rs hv ht=>cases ht with
  | nil=>cases hv with
   | vintsNil k xs len _ _=>exact h1 E w _ he (.cons _ _ _ _ .nilslice .nil)
   | vints k xs len a cap _ _ _=>exact h2 E w _ he (.cons _ _ _ _ (.fslice a cap) .nil)
end Go.Tk
namespace Go.Tk
open IntKind (i64 u8 u32 u64 wrap)
mutual
theorem QV {mv:Option Nat} {h:Z9}:∀(d:Nat) (t:Bool) (v:AV) (K K':AV->Prop),Uw mv h t d v K->(∀a,K a->K' a)->Uw mv h t d v K'
 | 0,t,v,K,K',hl,hK=>by unfold Uw at hl;exact hl.elim
 | d+1,t,v,K,K',hl,hK=>by
  unfold Uw at hl⊢
  split at hl
  all_goals try exact hK _ hl
  all_goals try exact hl.elim
  ·split at hl
   ·split at hl
    ·exact hl.elim
    ·exact hK _ hl
   ·split at hl
    ·split at hl
     ·exact Wb _ _ _ _ _ hl fun _ h=>hK _ h
     ·exact hl.elim
    ·split at hl
     ·obtain ⟨h1,h2⟩:=Ze hl
      refine UO h1 ?_
      split at h2
      ·exact Wb _ _ _ _ _ h2 fun _ h=>hK _ h
      ·exact h2.elim
     ·exact hl.elim
    ·exact hl.elim
  ·split at hl
   ·split at hl
    ·exact hl.elim
    ·exact hK _ hl
   ·split at hl
    ·split at hl
     ·obtain ⟨h1,h2⟩:=Ze hl
      exact UO h1 (hK _ h2)
     ·exact hl.elim
    ·split at hl
     ·obtain ⟨h1,h2,h3⟩:=Ze hl
      exact UO h1 ⟨h2,hK _ h3⟩
     ·exact hl.elim
    ·split at hl
     ·split at hl
      ·split at hl
       ·split at hl
        ·obtain ⟨h1,h2⟩:=Ze hl
         exact UO h1 (hK _ h2)
        ·obtain ⟨h1,h2⟩:=Ze hl
         exact UO h1 (hK _ h2)
        ·exact hl.elim
       ·exact hl.elim
      ·split at hl
       ·refine Wb _ _ _ _ _ hl fun _ h=> ?_
        split at h
        ·exact hK _ h
        ·exact h.elim
       ·exact hl.elim
     ·exact hl.elim
    ·exact hl.elim
  ·exact Zs _ _ _ _ _ hl fun _ h=>Zs _ _ _ _ _ h fun _ h=>hK _ h
  ·exact QV _ _ _ _ _ hl fun _ h=>hK _ h
  ·exact Wb _ _ _ _ _ hl fun _ h=>hK _ h
  ·exact Zs _ _ _ _ _ hl fun _ h=>hK _ h
theorem Wb {mv:Option Nat} {h:Z9}:∀(d:Nat) (t:Bool) (l:List AV) (K K':List AV->Prop),VC mv h t d l K->(∀a,K a->K' a)->VC mv h t d l K'
 | 0,t,l,K,K',hl,hK=>by unfold VC at hl;exact hl.elim
 | d+1,t,l,K,K',hl,hK=>by
  unfold VC at hl⊢
  split at hl
  ·exact hK _ hl
  ·exact Wb _ _ _ _ _ hl fun _ h=>hK _ h
  ·refine QV _ _ _ _ _ hl fun _ h=> ?_
   split at h
   ·exact Wb _ _ _ _ _ h fun _ h=>hK _ h
   ·exact h.elim
theorem Zs {mv:Option Nat} {h:Z9}:∀(d:Nat) (t:Bool) (l:List AV) (K K':List AV->Prop),ZP mv h t d l K->(∀a,K a->K' a)->ZP mv h t d l K'
 | 0,t,l,K,K',hl,hK=>by unfold ZP at hl;exact hl.elim
 | d+1,t,l,K,K',hl,hK=>by
  unfold ZP at hl⊢
  split at hl
  ·exact hK _ hl
  ·exact QV _ _ _ _ _ hl fun _ h=>Zs _ _ _ _ _ h fun _ h=>hK _ h
end
end Go.Tk
end
section
namespace Go.Tk
open IntKind (i64 u8 u32 u64 wrap)
def ZiK (g:Nat->InS):Nat->List AV:=fun q=>(g q).c
def Zft (g:Nat->Z0T):Nat->List AV:=fun q=>(g q).c
theorem InS.cells (x:InS):∀v∈x.c,v.isCell=true\/∃k n xs,v=.arr k n xs:=by simp [InS.c,AV.isCell]
theorem Z0T.cells (x:Z0T):∀v∈x.c,v.isCell=true\/∃k n xs,v=.arr k n xs:=by simp [Z0T.c,AV.isCell]
end Go.Tk
end
section
namespace Go.Tk
open IntKind (i64 u8 u32 u64 wrap)
end Go.Tk
end
section
namespace Go.Tk
open IntKind (i64 u8 u32 u64 wrap)
end Go.Tk
end
section
namespace Go.Tk
open IntKind (i64 u8 u32 u64 wrap)
end Go.Tk
end
section
namespace Go.Tk
open IntKind (i64 u8 u32 u64 wrap)
end Go.Tk
end
section
namespace Go.Tk
open IntKind (i64 u8 u32 u64 wrap)
theorem Zm.rows0 {E:Env} {esz:Nat} {f:Nat->List AV} {r:Value} {a:Option Addr} {c:Nat} (h:r=.slice a 0 c) (hc:a=none->c=0):Zm E (.vrows esz 0 f 0) r:=by
 subst h
 cases a with
 | none=>rw [hc rfl];exact .vrowsNil _ _ _ _ rfl rfl
 | some a=>exact .vrows _ _ _ _ a c (fun _=>[]) (Nat.le_refl _) (Nat.zero_le _) (fun i h=>by omega) (fun i h=>by omega) (fun i j c h=>by omega)
theorem Zm.rowsC {E:Env} {esz n:Nat} {f f':Nat->List AV} {r:Value} (h:Zm E (.vrows esz n f n) r) (hf:∀i,i<n->f i=f' i):Zm E (.vrows esz n f' n) r:=by
 cases h with
 | vrowsNil esz n f len h1 h2=>exact .vrowsNil _ _ _ _ h1 h2
 | vrows esz n f len a cap g h1 h2 hc hl hi=>exact .vrows _ _ _ _ a cap g h1 h2 (fun i h=>by rw [<-hf i h];exact hc i h) hl hi
structure TxS where
 num:Int
 N:Nat
 ins:Nat->InS
 M:Nat
 outs:Nat->Z0T
def TxS.c (t:TxS):List AV:=[.int .i64 t.num,.vrows 130 t.N (ZiK t.ins) t.N,.vrows 132 t.M (Zft t.outs) t.M]
structure TxS.Ok (t:TxS):Prop where
 n:t.N<900000000000
 m:t.M<900000000000
 ins:∀i,i<t.N->(t.ins i).Ok
 outs:∀i,i<t.M->(t.outs i).Ok
theorem ZA.conv {P:Program} {f:FuncId} {args args₀:List AV} {v:AV} {nx:Nat} {bs:List (Nat×Blk)} (h:ZA P f args₀ v nx bs) (hc:∀E r,ZJ E args r->ZJ E args₀ r):ZA P f args v nx bs:=
 fun E w rs he hr=>h E w rs he (hc E rs hr)
theorem ZJ.head {E:Env} {v v':AV} {r l:List AV} {rs:List Value} (h:ZJ E (v::l) rs) (hv:∀c,Zm E v c->Zm E v' c) (ht:∀cs,ZJ E l cs->ZJ E r cs):ZJ E (v'::r) rs:=by
 cases h with
 | cons v c vs cs h t=>exact .cons _ _ _ _ (hv c h) (ht cs t)
end Go.Tk
end
section
namespace Go.Tk
open IntKind (i64 u8 u32 u64 wrap)
def ZcD (k:Nat) (τ:Ren) (y x:Nat):Ren:=match Nat.blt y k with
 | true=>τ
 | false=>match Z85 τ y with
  | some _=>τ
  | none=>(y,x)::τ
mutual
def ZiL (k:Nat) (τ:Ren):AV->AV->Ren
 | .ptr (some q),v=>match v with|.ptr (some p)=>ZcD k τ q.blk p.blk|_=>τ
 | .nslice q _ _ _,v=>match v with|.nslice p _ _ _=>ZcD k τ q.blk p.blk|_=>τ
 | .map (some y),v=>match v with|.map (some x)=>ZcD k τ y x|_=>τ
 | .yield y,v=>match v with|.yield x=>ZcD k τ y x|_=>τ
 | .func _ fs cs,v=>match v with|.func _ fs' cs'=>Z5p k (Z5p k τ fs fs') cs cs'|_=>τ
 | .iface _ u,v=>match v with|.iface _ u'=>ZiL k τ u u'|_=>τ
 | .agg cs,v=>match v with|.agg cs'=>Z5p k τ cs cs'|_=>τ
 | .tuple cs,v=>match v with|.tuple cs'=>Z5p k τ cs cs'|_=>τ
 | _,_=>τ
def Z5p (k:Nat) (τ:Ren):List AV->List AV->Ren
 | [],_=>τ
 | v::r,l=>match l with|v'::r'=>Z5p k (ZiL k τ v v') r r'|[]=>τ
end
def Zmm (k:Nat) (τ:Ren):Blk->Blk->Ren
 | .flat cs,B=>match B with|.flat cs'=>Z5p k τ cs cs'|_=>τ
 | .map es,B=>match B with|.map es'=>Z5p k (Z5p k τ (es.map (·.1)) (es'.map (·.1))) (es.map (·.2)) (es'.map (·.2))|_=>τ
 | _,_=>τ
def Zk6 (k:Nat) (t:Yd):Yd->Ren->Ren
 | [],τ=>τ
 | (x,v)::r,τ=>Zk6 k t r (match ZW t x with|some u=>ZiL k τ v u|none=>τ)
def ZiM (k:Nat):List Ue->List Ue->Ren->Ren
 | .call _ a::r,l,τ=>match l with|.call _ b::r'=>ZiM k r r' (Z5p k τ a b)|_=>τ
 | .mark y::r,l,τ=>match l with|.mark x::r'=>ZiM k r r' (ZcD k τ y x)|_=>τ
 | [],_,τ=>τ
def Zfu (k:Nat) (bs:List (Nat×Blk)):List (Nat×Blk)->Ren->Ren
 | [],τ=>τ
 | (y,B)::r,τ=>Zfu k bs r (match rn k τ y with
  | some x=>match ZN bs x with|some C=>Zmm k τ B C|none=>τ
  | none=>τ)
def Zmn (k:Nat) (s₂ s:St):Ren:=Zfu k s.h.bs s₂.h.bs (Zfu k s.h.bs s₂.h.bs (Zfu k s.h.bs s₂.h.bs (ZiM k s₂.d s.d (Zk6 k s.t s₂.t []))))
def W4 (k:Nat) (s₂ s:St) (Z:Prop):Prop:=Uv k (Zmn k s₂ s) s₂ s Z
theorem YI {k:Nat} {s₂ s:St} {Z:Prop} (hl:W4 k s₂ s Z):Z/\VY k s s₂:=XU hl
def ZX (k:Nat) (o:Out) (nx:Nat) (bs:List (Nat×Blk)):KO:=fun o' h=>match o with
 | .ret v=>match o' with
  | .ret u=>W4 k ⟨1,[(0,v)],⟨nx,bs⟩,[]⟩ ⟨1,[(0,u)],h,[]⟩ True
  | .panic _=>False
 | .panic v=>match o' with
  | .panic u=>W4 k ⟨1,[(0,v)],⟨nx,bs⟩,[]⟩ ⟨1,[(0,u)],h,[]⟩ True
  | .ret _=>False
theorem Spec.evM {G:Zh} (hG:G.Ok) {n:Nat} {f:FuncId} {args:List AV} {h0:Z9} {o:Out} {nx:Nat} {bs:List (Nat×Blk)} (h:evF G n f args h0 (ZX h0.next o nx bs)):Spec G.P f args h0 o nx bs:=by
 intro E w rs he hl
 refine (QH hG h E w rs he hl).mono ?_
 rintro e w' ⟨E',o',h',hK,hev,hor⟩
 unfold ZX at hK
 cases o with
 | ret v=>
  cases hor with
  | ret u r hr=>
   obtain ⟨E₂,h1,h2⟩:=Z1R rfl hK he hev hr
   exact ⟨E₂,h1,.ret _ _ h2⟩
  | panic u r hr=>exact hK.elim
 | panic v=>
  cases hor with
  | panic u r hr=>
   obtain ⟨E₂,h1,h2⟩:=Z1R rfl hK he hev hr
   exact ⟨E₂,h1,.panic _ _ h2⟩
  | ret u r hr=>exact hK.elim
theorem Spec.pure {P:Program} {f:FuncId} {args:List AV} {v:AV} {nx:Nat} {bs:List (Nat×Blk)} (h:Spec P f args ⟨0,[]⟩ (.ret v) nx bs):ZA P f args v nx bs:=by
 intro E w rs he hl
 refine (h E w rs he hl).mono ?_
 rintro e w' ⟨E',hev,hor⟩
 cases hor with
 | ret v r hr=>exact ⟨E',r,rfl,hev,hr⟩
theorem ZA.evM {G:Zh} (hG:G.Ok) {n:Nat} {f:FuncId} {args:List AV} {v:AV} {nx:Nat} {bs:List (Nat×Blk)} (h:evF G n f args ⟨0,[]⟩ (ZX 0 (.ret v) nx bs)):ZA G.P f args v nx bs:=(Spec.evM hG h).pure
def goM (k:Nat) (S0:St) (C:Prop) (ends:KE->Prop):Nat->St->KE->Prop:=fun k' s X=>match Nat.beq k' k with
 | true=>W4 k S0 s (C/\ends X)
 | false=>False
def rdM (k id l:Nat) (S1 En Rn Jn:St) (go ex re jm:Prop):KE:=fun e s=>match e with
 | .normal=>W4 k S1 s go
 | .exit x=>(match Nat.beq x id with|true=>W4 k En s ex|false=>False)
 | .ret=>W4 k Rn s re
 | .goto x=>(match Nat.beq x l with|true=>W4 k Jn s jm|false=>False)
 | .panic _=>False
theorem Zh.withGoM {G:Zh} (hG:G.Ok) {f:FuncId} {id k N n l:Nat} {S En Rn Jn:Nat->St} {S0:St} {C:Prop} {go ex re jm:Nat->Prop} (h1:Wg G.P f id=true) (hC:C->S 0=S0/\
   ∀i,i<=n->(∀j,j<i->go j)->ZB G N f id k (S i) (rdM k id l (S (i+1)) (En i) (Rn i) (Jn i) (go i/\i<n) (ex i) (re i) (jm i))):
  (G.withL f id (goM k S0 C (Yu id n l go ex re jm En Rn Jn))).Ok:=by
 refine Zh.withL_ok hG h1 ?_
 intro k' s X hl
 unfold goM at hl
 split at hl
 ·rename_i hk
  have:=Nat.eq_of_beq_eq_true hk
  subst this
  obtain ⟨⟨hc,hX⟩,hw⟩:=YI hl
  obtain ⟨e0,hr⟩:=hC hc
  refine ⟨{ t:Nat//t<=n/\∀j,j<t->go j},fun t=>n-t.1,fun t=>S t.1,⟨0,Nat.zero_le _,fun j hj=>by omega⟩,N,by show VY k' s (S 0);rw [e0];exact hw, ?_⟩
  rintro ⟨t,ht,hgo⟩
  refine ⟨_,hr t ht hgo, ?_⟩
  intro e s' hY
  unfold rdM at hY
  split at hY
  ·obtain ⟨⟨hg,hlt⟩,hw'⟩:=YI hY
   refine ⟨⟨t+1,hlt,fun j hj=> ?_⟩,by show n-(t+1)<n-t;omega,hw'⟩
   by_cases hjt:j=t
   ·rw [hjt];exact hg
   ·exact hgo j (by omega)
  ·split at hY
   ·rename_i hi
    have:=Nat.eq_of_beq_eq_true hi
    subst this
    obtain ⟨hex,hw'⟩:=YI hY
    exact ⟨_,hw',(hX t ht hgo).1 hex⟩
   ·exact hY.elim
  ·obtain ⟨hre,hw'⟩:=YI hY
   exact ⟨_,hw',(hX t ht hgo).2.1 hre⟩
  ·split at hY
   ·rename_i hi
    have:=Nat.eq_of_beq_eq_true hi
    subst this
    obtain ⟨hjm,hw'⟩:=YI hY
    exact ⟨_,hw',(hX t ht hgo).2.2 hjm⟩
   ·exact hY.elim
  ·exact hY.elim
 ·exact hl.elim
end Go.Tk
namespace Go.Tk
open IntKind (i64 u8 u32 u64 wrap)
theorem Zh.withL_join {G H:Zh} (hG:G.Ok) (hP:G.P=H.P) {f:FuncId} {id:Nat} {S:Nat->St->KE->Prop} (h:(H.withL f id S).Ok):(G.withL f id S).Ok where
 draw:=hG.draw
 psumm:=hG.psumm
 fsumm:=hG.fsumm
 lsumm:=fun f' id' S' fn c body hS hf hb hm k s X hs=>by
  have hS0:=hS
  simp only [Zh.withL] at hS
  split at hS
  ·have:=h.lsumm f' id' S' fn c body
   simp only [Zh.withL] at this
   rename_i hq
   rw [hq] at this
   have:=this hS (hP▸hf) hb hm k s X hs
   rw [<-hP] at this
   exact this
  ·exact hG.lsumm f' id' S' fn c body hS hf hb hm k s X hs
end Go.Tk
end
section
namespace Go.Tk
open IntKind (i64 u8 u32 u64 wrap)
def b8 (n k:Int):Int:=u8.wrap (Zw .i64 n k)
@[irreducible] def Zq (n:Int):List Int:=
 if n<253 then [u8.wrap n] else if n<65536 then [253,b8 n 8,b8 n 0] else if n<4294967296 then [254,b8 n 24,b8 n 16,b8 n 8,b8 n 0]
 else [255,b8 n 56,b8 n 48,b8 n 40,b8 n 32,b8 n 24,b8 n 16,b8 n 8,b8 n 0]
theorem Y0 (n:Int):1<=(Zq n).length/\(Zq n).length<=9:=by
 unfold Zq
 split
 ·simp
 ·split
  ·simp
  ·split<;>simp
theorem Z9u {n:Int} (h:n<253):Zq n=[u8.wrap n]:=by unfold Zq;rw [if_pos h]
theorem ZcE {n:Int} (h:¬n<253) (h2:n<65536):Zq n=[253,b8 n 8,b8 n 0]:=by unfold Zq;rw [if_neg h,if_pos h2]
theorem ZcF {n:Int} (h:¬n<253) (h2:¬n<65536) (h3:n<4294967296):Zq n=[254,b8 n 24,b8 n 16,b8 n 8,b8 n 0]:=by unfold Zq;rw [if_neg h,if_neg h2,if_pos h3]
theorem ZcG {n:Int} (h:¬n<253) (h2:¬n<65536) (h3:¬n<4294967296):Zq n=[255,b8 n 56,b8 n 48,b8 n 40,b8 n 32,b8 n 24,b8 n 16,b8 n 8,b8 n 0]:=by unfold Zq;rw [if_neg h,if_neg h2,if_neg h3]
theorem Zk7 (xs ys:List Int) (N L s lo:Nat) (n:Int) (hN:xs.length=N) (hB:N<90000000000000) (hy:ys=Zq n) (hL:L=(xs++ys).length):
  evF G0 20 127 [.nslice ⟨0,0,s,0,0⟩ 1 N lo,.int .i64 n] ⟨1,[(0,.ints .u8 xs)]⟩ (ZX 1 (.ret (.nslice ⟨1,0,0,0,0⟩ 1 L L)) 2 [(1,.ints .u8 (xs++ys))]):=by
 refine @Eq.mpr _ (let q1:=decide (u8=u8/\List.length xs=N);let q2:=xs++[wrap u8 n];let q3:=List.length q2;let q4:=xs++ys;let q5:=xs++[(253:Int)];let q6:=List.length q5;let q7:=[wrap u8 (Zw i64 n 8)];let q8:=q5++q7;let q9:=List.length q8;let q10:=[wrap u8 (Zw i64 n 0)];let q11:=q8++q10;let q12:=List.length q11;let q13:=xs++[(254:Int)];let q14:=List.length q13;let q15:=[wrap u8 (Zw i64 n 24)];let q16:=q13++q15;let q17:=List.length q16;let q18:=[wrap u8 (Zw i64 n 16)];let q19:=q16++q18;let q20:=List.length q19;let q21:=q19++q7;let q22:=List.length q21;let q23:=q21++q10;let q24:=List.length q23;let q25:=xs++[(255:Int)];let q26:=List.length q25;let q27:=q25++[wrap u8 (Zw i64 n 56)];let q28:=List.length q27;let q29:=q27++[wrap u8 (Zw i64 n 48)];let q30:=List.length q29;let q31:=q29++[wrap u8 (Zw i64 n 40)];let q32:=List.length q31;let q33:=q31++[wrap u8 (Zw i64 n 32)];let q34:=List.length q33;let q35:=q33++q15;let q36:=List.length q35;let q37:=q35++q18;let q38:=List.length q37;let q39:=q37++q7;let q40:=List.length q39;let q41:=q39++q10;let q42:=List.length q41;
 Z0 (decide (n<253)) (Z0 q1 (Z0 (decide (q3*1<=140737488355328)) (Z0 (decide (q3=L)) (Z0 (decide (L<=q3)) (q2=q4/\True) False) False) False) False)
 (Z0 (decide (n<65536)) (Z0 q1 (Z0 (decide (q6*1<=140737488355328)) (Z0 (decide (u8=u8/\q6=q6)) (Z0 (decide (q9*1<=140737488355328)) (Z0 (decide (u8=u8/\q9=q9)) (Z0 (decide (q12*1<=140737488355328)) (Z0 (decide (q12=L)) (Z0 (decide (L<=q12)) (q11=q4/\True) False) False) False) False) False) False) False) False)
 (Z0 (decide (n<4294967296)) (Z0 q1 (Z0 (decide (q14*1<=140737488355328)) (Z0 (decide (u8=u8/\q14=q14)) (Z0 (decide (q17*1<=140737488355328)) (Z0 (decide (u8=u8/\q17=q17)) (Z0 (decide (q20*1<=140737488355328)) (Z0 (decide (u8=u8/\q20=q20)) (Z0 (decide (q22*1<=140737488355328)) (Z0 (decide (u8=u8/\q22=q22)) (Z0 (decide (q24*1<=140737488355328)) (Z0 (decide (q24=L)) (Z0 (decide (L<=q24)) (q23=q4/\True) False) False) False) False) False) False) False) False) False) False) False) False)
 (Z0 q1
 (Z0 (decide (q26*1<=140737488355328))
 (Z0 (decide (u8=u8/\q26=q26)) (Z0 (decide (q28*1<=140737488355328)) (Z0 (decide (u8=u8/\q28=q28)) (Z0 (decide (q30*1<=140737488355328)) (Z0 (decide (u8=u8/\q30=q30)) (Z0 (decide (q32*1<=140737488355328)) (Z0 (decide (u8=u8/\q32=q32)) (Z0 (decide (q34*1<=140737488355328)) (Z0 (decide (u8=u8/\q34=q34)) (Z0 (decide (q36*1<=140737488355328)) (Z0 (decide (u8=u8/\q36=q36)) (Z0 (decide (q38*1<=140737488355328)) (Z0 (decide (u8=u8/\q38=q38)) (Z0 (decide (q40*1<=140737488355328)) (Z0 (decide (u8=u8/\q40=q40)) (Z0 (decide (q42*1<=140737488355328)) (Z0 (decide (q42=L)) (Z0 (decide (L<=q42)) (q41=q4/\True) False) False) False) False) False) False) False) False) False) False) False) False) False) False) False) False) False) False) False)
 False)))) (by kernel_rfl) ?_
 conv=>zeta
 try simp only [Zi]
 try simp only [Zf]
 try simp only [Zg]
 try simp only [Int.toNat_natCast,Nat.zero_add,true_and,and_true,Nat.le_refl]
 subst hy hL hN
 refine ⟨fun h1=> ?_,fun h1=>⟨fun h2=> ?_,fun h2=>⟨fun h3=> ?_,fun h3=> ?_⟩⟩⟩
 ·rw [Z9u h1]
  simp only [List.length_append,List.length_cons,List.length_nil]
  and_intros<;>first|trivial|omega
 ·rw [ZcE h1 h2]
  simp only [List.length_append,List.length_cons,List.length_nil]
  and_intros<;>first|trivial|omega|simp [b8]
 ·rw [ZcF h1 h2 h3]
  simp only [List.length_append,List.length_cons,List.length_nil]
  and_intros<;>first|trivial|omega|simp [b8]
 ·rw [ZcG h1 h2 h3]
  simp only [List.length_append,List.length_cons,List.length_nil]
  and_intros<;>first|trivial|omega|simp [b8]
theorem Zk8 (ys:List Int) (L:Nat) (n:Int) (hy:ys=Zq n) (hL:L=ys.length):
  evF G0 20 127 [.nilslice,.int .i64 n] ⟨0,[]⟩ (ZX 0 (.ret (.nslice ⟨0,0,0,0,0⟩ 1 L L)) 1 [(0,.ints .u8 ys)]):=by
 refine @Eq.mpr _ (let q1:=[wrap u8 (Zw i64 n 8),wrap u8 (Zw i64 n 0)];let q2:=wrap u8 (Zw i64 n 24)::wrap u8 (Zw i64 n 16)::q1;
 Z0 (decide (n<253)) (Z0 (decide (1=L)) (Z0 (decide (L<=1)) ([wrap u8 n]=ys/\True) False) False) (Z0 (decide (n<65536)) (Z0 (decide (3=L)) (Z0 (decide (L<=3)) ((253:Int)::q1=ys/\True) False) False) (Z0 (decide (n<4294967296)) (Z0 (decide (5=L)) (Z0 (decide (L<=5)) ((254:Int)::q2=ys/\True) False) False) (Z0 (decide (9=L)) (Z0 (decide (L<=9)) ((255:Int)::wrap u8 (Zw i64 n 56)::wrap u8 (Zw i64 n 48)::wrap u8 (Zw i64 n 40)::wrap u8 (Zw i64 n 32)::q2=ys/\True) False) False)))) (by kernel_rfl) ?_
 conv=>zeta
 try simp only [Zi]
 try simp only [Zf]
 try simp only [Zg]
 try simp only [Int.toNat_natCast,Nat.zero_add,true_and,and_true,Nat.le_refl]
 subst hy hL
 refine ⟨fun h1=> ?_,fun h1=>⟨fun h2=> ?_,fun h2=>⟨fun h3=> ?_,fun h3=> ?_⟩⟩⟩
 ·rw [Z9u h1];simp
 ·rw [ZcE h1 h2];simp [b8]
 ·rw [ZcF h1 h2 h3];simp [b8]
 ·rw [ZcG h1 h2 h3];simp [b8]
def ZiN (W:Int->List Int):Y8:=fun args h K=>match args with
 | [.nslice ⟨b,0,_,0,0⟩ 1 _ _,.int .i64 _]=>frA [b] h 20 args fun Bs a=>match Bs,a with
  | [.ints .u8 xs],[.nslice ⟨0,0,_,0,0⟩ 1 len _,.int .i64 n]=>Zx (xs.length=len/\len<90000000000000) (K (.ret (.nslice ⟨h.next,0,0,0,0⟩ 1 (xs++W n).length (xs++W n).length)) ⟨h.next+1,(h.next,.ints .u8 (xs++W n))::Ye h.bs b⟩)
  | _,_=>False
 | [.nilslice,.int .i64 n]=>K (.ret (.nslice ⟨h.next,0,0,0,0⟩ 1 (W n).length (W n).length)) ⟨h.next+1,(h.next,.ints .u8 (W n))::h.bs⟩
 | _=>False
theorem Zfv (args:List AV) (h:Z9) (K:KO) (hl:ZiN Zq args h K):Zn PP 127 args h K:=by
 unfold ZiN at hl
 split at hl
 ·refine Spec.fsumm hl fun Bs a hlen hK0=> ?_
  split at hK0
  ·obtain ⟨⟨h1,h2⟩,hK⟩:=Ze hK0
   exact ⟨_,_,_,_,_,.evM Zu (Zk7 _ _ _ _ _ _ _ h1 h2 rfl rfl),by simp,.ret _ _ rfl,.cons _ _ _ _ _ _ rfl (.ints _ _) .nil,hK⟩
  ·exact hK0.elim
 ·exact (ZA.evM Zu (Zk8 _ _ _ rfl rfl)).calls (fun E w rs he hr=>by
   cases hr with
   | cons v r vs rs h1 h2=>cases h2 with
    | cons v r vs rs h2 h3=>cases h3;exact .cons _ _ _ _ (h1.plain rfl) (.cons _ _ _ _ (h2.plain rfl) .nil)) rfl ⟨Nat.one_pos,.ints _ _,trivial⟩ hl
 ·exact hl.elim
theorem ZcH (x:Int) (xs:List Int) (N:Nat) (hN:(x::xs).length=N) (hB:N<90000000000000):
  evF G0 20 113 [.vints .u8 (x::xs) N] ⟨0,[]⟩ (ZX 0 (.ret (.nslice ⟨0,0,0,0,0⟩ 1 N N)) 1 [(0,.ints .u8 (x::xs))]):=by
 refine @Eq.mpr _ (let q1:=[]++List.take N (x::xs);let q2:=List.length q1;
 Z0 (decide (q2*1<=140737488355328)) (Z0 (decide (q2=N)) (Z0 (decide (N<=q2)) (q1=x::xs/\True) False) False) False) (by kernel_rfl) ?_
 conv=>zeta
 try simp only [Zi]
 try simp only [Zj]
 try simp only [Zf]
 try simp only [Zk]
 try simp only [Zl]
 try simp only [Zg]
 try simp only [Int.toNat_natCast,Nat.zero_add,true_and,and_true,Nat.le_refl]
 subst hN
 simp only [List.nil_append,List.take_length]
 and_intros<;>first|trivial|omega
theorem ZcI (u:Unit) :
  evF G0 20 113 [.nilslice] ⟨0,[]⟩ (ZX 0 (.ret (.nslice ⟨0,0,0,0,0⟩ 1 0 0)) 1 [(0,.ints .u8 [])]):=by
 refine @Eq.mpr _ (([]:List Int)=[]/\True) (by kernel_rfl) ?_
 trivial
theorem ZcJ (u:Unit) :
  evF G0 20 113 [.fslice] ⟨0,[]⟩ (ZX 0 (.ret (.nslice ⟨0,0,0,0,0⟩ 1 0 0)) 1 [(0,.ints .u8 [])]):=by
 refine @Eq.mpr _ (([]:List Int)=[]/\True) (by kernel_rfl) ?_
 trivial
theorem Z6C (xs:List Int) (N:Nat) (hN:xs.length=N) (hB:N<90000000000000):ZA PP 113 [.vints .u8 xs N] (.nslice ⟨0,0,0,0,0⟩ 1 N N) 1 [(0,.ints .u8 xs)]:=by
 cases xs with
 | nil=>subst hN;exact ZA.vints0 (.evM Zu (ZcI ())) (.evM Zu (ZcJ ()))
 | cons x r=>exact .evM Zu (ZcH x r N hN hB)
def Z5q:Y8:=fun args h K=>ZP none h true 20 args fun a=>match a with
 | [.vints .u8 xs n]=>Zx (xs.length=n/\n<90000000000000) (K (.ret (.nslice ⟨h.next,0,0,0,0⟩ 1 n n)) ⟨h.next+1,(h.next,.ints .u8 xs)::h.bs⟩)
 | _=>False
theorem Z33 (args:List AV) (h:Z9) (K:KO) (hl:Z5q args h K):Zn PP 113 args h K:=by
 refine ZA.fsumm (d:=20) (Zs _ _ _ _ _ hl fun a ha=> ?_)
 split at ha
 ·obtain ⟨⟨h1,h2⟩,hK⟩:=Ze ha
  exact ⟨_,_,_,_,Z6C _ _ h1 h2,rfl,⟨Nat.one_pos,.ints _ _,trivial⟩,hK⟩
 ·exact ha.elim
end Go.Tk
end
section
namespace Go.Tk
open IntKind (i64 u8 u32 u64 wrap)
theorem Spec.conv {P:Program} {f:FuncId} {args args₀:List AV} {h0:Z9} {o:Out} {nx:Nat} {bs:List (Nat×Blk)} (h:Spec P f args₀ h0 o nx bs) (hc:∀E r,ZJ E args r->ZJ E args₀ r):Spec P f args h0 o nx bs:=
 fun E w rs he hr=>h E w rs he (hc E rs hr)
noncomputable def ZaV (W:Int->List Int):Zh:=G0.withF 127 (ZiN W)
theorem Z0l:(ZaV Zq).Ok:=Zh.withF_ok Zu Zfv
theorem Zfw (xs hh ys:List Int) (N L lo:Nat) (hN:xs.length=N) (hB:N<90000000000000) (hq:hh.length=32) (hy:ys=xs++hh) (hL:L=ys.length):
  evF G0 20 64 [.ptr (some ⟨0,0,0,0,0⟩),.vrows 32 1 (fun _=>[.arr .u8 32 hh]) 1] ⟨2,[(0,.flat [.nslice ⟨1,0,0,0,0⟩ 1 N lo,.bool true]),(1,.ints .u8 xs)]⟩ (ZX 2 (.ret (.int .i64 0)) 3 [(0,.flat [.nslice ⟨2,0,0,0,0⟩ 1 L L,.bool true]),(2,.ints .u8 ys)]):=by
 refine @Eq.mpr _ (let q1:=xs++hh;let q2:=List.length q1;
 Z0 (decide (u8=u8/\List.length hh=32)) (Z0 (decide (u8=u8/\List.length xs=N)) (Z0 (decide (q2*1<=140737488355328)) (Z0 (decide (q2=L)) (Z0 (decide (L<=q2)) (q1=ys/\True) False) False) False) False) False) (by kernel_rfl) ?_
 conv=>zeta
 try simp only [Zi]
 try simp only [Zj]
 try simp only [Zf]
 try simp only [Zk]
 try simp only [Zl]
 try simp only [Zg]
 try simp only [Int.toNat_natCast,Nat.zero_add,true_and,and_true,Nat.le_refl]
 subst hN hy hL
 refine ⟨hq,rfl, ?_⟩
 simp only [List.length_append]
 and_intros<;>first|trivial|omega
end Go.Tk
end
section
namespace Go.Tk
open IntKind (i64 u8 u32 u64 wrap)
end Go.Tk
end
section
namespace Go.Tk
open IntKind (i64 u8 u32 u64 wrap)
end Go.Tk
end
section
namespace Go.Tk
open IntKind (i64 u8 u32 u64 wrap)
end Go.Tk
end
section
namespace Go.Tk
open IntKind (i64 u8 u32 u64 wrap)
end Go.Tk
end
section
namespace Go.Tk
open IntKind (i64 u8 u32 u64 wrap)
def Z1j (n c:Int):Int:=bOr .i64 (ZI .i64 n 8) c
theorem ZiO:ZI .i64 0 8=0:=by decide
def goN:Nat->List Int->Nat->Int->Option Int
 | 0,_,_,n=>some n
 | m+1,xs,k,n=>if n>36028797018963968 then none else goN m xs (k+1) (Z1j n (i64.wrap (xs.getD k 0)))
def X7 (c:Int):Nat:=if c=253 then 2 else if c=254 then 4 else if c=255 then 8 else 0
@[irreducible] def Zo (W:Int->List Int) (xs:List Int):Int×Int:=
 if xs.length=0 then (0,0)
 else if X7 (xs.getD 0 0)=0 then (i64.wrap (xs.getD 0 0),1)
 else if xs.length<=X7 (xs.getD 0 0) then (0,0)
 else match goN (X7 (xs.getD 0 0)) (xs.drop 1) 0 0 with
  | none=>(0, -1)
  | some n=>if n>4611686018427387904 then (0, -1) else if (W n).length=1+X7 (xs.getD 0 0) then (n,1+X7 (xs.getD 0 0)) else (0, -1)
theorem U1 {W:Int->List Int} {xs:List Int} (h:xs.length=0):Zo W xs=(0,0):=by unfold Zo;rw [if_pos h]
theorem U2 {W:Int->List Int} {xs:List Int} (h:xs.length≠0) (hm:X7 (xs.getD 0 0)=0):Zo W xs=(i64.wrap (xs.getD 0 0),1):=by unfold Zo;rw [if_neg h,if_pos hm]
theorem X8 {W:Int->List Int} {xs:List Int} {m:Nat} (h:xs.length≠0) (hm:X7 (xs.getD 0 0)=m) (hm0:m≠0) (hl:xs.length<=m):Zo W xs=(0,0):=by unfold Zo;rw [if_neg h,if_neg (by omega),if_pos (by omega)]
theorem VK {W:Int->List Int} {xs:List Int} {m:Nat} (h:xs.length≠0) (hm:X7 (xs.getD 0 0)=m) (hm0:m≠0) (hl:m<xs.length):Zo W xs=match goN m (xs.drop 1) 0 0 with
  | none=>(0, -1)
  | some n=>if n>4611686018427387904 then (0, -1) else if (W n).length=1+m then (n,1+m) else (0, -1):=by
 unfold Zo;rw [if_neg h,if_neg (by omega),if_neg (by omega),hm]
theorem ZcK {c:Int} (h:c=253):X7 c=2:=by unfold X7;rw [if_pos h]
theorem ZcL {c:Int} (h:¬c=253) (h2:c=254):X7 c=4:=by unfold X7;rw [if_neg h,if_pos h2]
theorem ZcM {c:Int} (h:¬c=253) (h2:¬c=254) (h3:c=255):X7 c=8:=by unfold X7;rw [if_neg h,if_neg h2,if_pos h3]
theorem ZhI {c:Int} (h:¬c=253) (h2:¬c=254) (h3:¬c=255):X7 c=0:=by unfold X7;rw [if_neg h,if_neg h2,if_neg h3]
theorem ZiP:¬((0:Int)>36028797018963968):=by decide
theorem Zfx (W:Int->List Int) (xs:List Int) (N:Nat) (F:Int×Int) (hN:xs.length=N) (hF:F=Zo W xs):
  evF (ZaV W) 20 194 [.vints .u8 xs N] ⟨0,[]⟩ (ZX 0 (.ret (.tuple [.int .i64 F.1,.int .i64 F.2])) 0 []):=by
 refine @Eq.mpr _ (let q1:=decide (0=F.fst);let q2:=Z0 q1 (Z0 (decide (0=F.snd)) True False) False;let q3:=decide ((0:Int)<=0/\0<(↑N:Int));let q4:=List.getD xs 0 0;let q5:=decide (N<=List.length xs);let q6:=(↑(List.length xs):Int);let q7:=WK (some 1) xs;let q8:=bOr i64 0 (wrap i64 (List.getD q7 0 0));let q9:=decide (q8>36028797018963968);let q10:=Z0 q1 (Z0 (decide (-1=F.snd)) True False) False;let q11:=bOr i64 (ZI i64 q8 8) (wrap i64 (List.getD q7 1 0));let q12:=decide (q11>36028797018963968);let q13:=bOr i64 (ZI i64 q11 8) (wrap i64 (List.getD q7 2 0));let q14:=decide (q13>36028797018963968);let q15:=bOr i64 (ZI i64 q13 8) (wrap i64 (List.getD q7 3 0));let q16:=bOr i64 (ZI i64 q15 8) (wrap i64 (List.getD q7 4 0));let q17:=bOr i64 (ZI i64 q16 8) (wrap i64 (List.getD q7 5 0));let q18:=bOr i64 (ZI i64 q17 8) (wrap i64 (List.getD q7 6 0));let q19:=bOr i64 (ZI i64 q18 8) (wrap i64 (List.getD q7 7 0));
 Z0 ((↑N:Int)==0) q2
 (Z0 q3
 (Z0 (decide (q4=253)) (Z0 (decide ((↑N:Int)<=2)) q2 (Z0 q5 (Z0 (decide ((0:Int)<=1/\(1:Int)<=3/\3<=q6)) (Z0 q9 q10 (Z0 (decide (q11>4611686018427387904)) q10 (Z0 ((↑(List.length (W q11)):Int) !=3) q10 (Z0 (decide (q11=F.fst)) (Z0 (decide (3=F.snd)) True False) False)))) False) False))
 (Z0 (decide (q4=254)) (Z0 (decide ((↑N:Int)<=4)) q2 (Z0 q5 (Z0 (decide ((0:Int)<=1/\(1:Int)<=5/\5<=q6)) (Z0 q9 q10 (Z0 q12 q10 (Z0 q14 q10 (Z0 (decide (q15>4611686018427387904)) q10 (Z0 ((↑(List.length (W q15)):Int) !=5) q10 (Z0 (decide (q15=F.fst)) (Z0 (decide (5=F.snd)) True False) False)))))) False) False))
 (Z0 (decide (q4=255)) (Z0 (decide ((↑N:Int)<=8)) q2 (Z0 q5 (Z0 (decide ((0:Int)<=1/\(1:Int)<=9/\9<=q6)) (Z0 q9 q10 (Z0 q12 q10 (Z0 q14 q10 (Z0 (decide (q15>36028797018963968)) q10 (Z0 (decide (q16>36028797018963968)) q10 (Z0 (decide (q17>36028797018963968)) q10 (Z0 (decide (q18>36028797018963968)) q10 (Z0 (decide (q19>4611686018427387904)) q10 (Z0 ((↑(List.length (W q19)):Int) !=9) q10 (Z0 (decide (q19=F.fst)) (Z0 (decide (9=F.snd)) True False) False)))))))))) False) False)) (Z0 q3 (Z0 (decide (wrap i64 q4=F.fst)) (Z0 (decide (1=F.snd)) True False) False) False))))
 False)) (by kernel_rfl) ?_
 conv=>zeta
 try simp only [Zi]
 try simp only [Zj]
 try simp only [Zf]
 try simp only [Zk]
 try simp only [Zl]
 try simp only [Zg]
 try simp only [Int.toNat_natCast,Nat.zero_add,true_and,and_true,Nat.le_refl]
 subst hN
 refine ⟨fun h0=> ?_,fun h0=> ?_⟩
 ·rw [hF,U1 (by simp at h0;simp [h0])];exact ⟨rfl,rfl⟩
 have h0:xs.length≠0:=by simp at h0;intro h;rw [List.length_eq_zero_iff] at h;exact h0 h
 have ed:WK (some 1) xs=xs.drop 1:=rfl
 rw [ed]
 refine ⟨by omega,fun c1=>⟨fun l1=> ?_,fun l1=>⟨by omega, ?_⟩⟩,fun c1=>⟨fun c2=>⟨fun l1=> ?_,fun l1=>⟨by omega, ?_⟩⟩,fun c2=>⟨fun c3=>⟨fun l1=> ?_,fun l1=>⟨by omega, ?_⟩⟩,fun c3=> ?_⟩⟩⟩
 ·rw [hF,X8 h0 (ZcK c1) (by decide) (by omega)];exact ⟨rfl,rfl⟩
 ·rw [hF,VK h0 (ZcK c1) (by decide) (by omega)]
  simp only [goN,Z1j,ZiO,ZiP,if_false,Nat.zero_add,Nat.reduceAdd]
  repeat' (first|(refine And.intro ?_ ?_)|intro _)
  all_goals first|omega|(simp only [*,if_true,if_false];done)|(simp only [*,if_true,if_false];rfl)|skip
  all_goals rename_i hb
  all_goals first|rw [bne_iff_ne] at hb|rw [bne_eq_false_iff_eq] at hb
  all_goals simp only [*,if_false]
  all_goals first|rfl|(split<;>first|rfl|omega)
 ·rw [hF,X8 h0 (ZcL c1 c2) (by decide) (by omega)];exact ⟨rfl,rfl⟩
 ·rw [hF,VK h0 (ZcL c1 c2) (by decide) (by omega)]
  simp only [goN,Z1j,ZiO,ZiP,if_false,Nat.zero_add,Nat.reduceAdd]
  repeat' (first|(refine And.intro ?_ ?_)|intro _)
  all_goals first|omega|(simp only [*,if_true,if_false];done)|(simp only [*,if_true,if_false];rfl)|skip
  all_goals rename_i hb
  all_goals first|rw [bne_iff_ne] at hb|rw [bne_eq_false_iff_eq] at hb
  all_goals simp only [*,if_false]
  all_goals first|rfl|(split<;>first|rfl|omega)
 ·rw [hF,X8 h0 (ZcM c1 c2 c3) (by decide) (by omega)];exact ⟨rfl,rfl⟩
 ·rw [hF,VK h0 (ZcM c1 c2 c3) (by decide) (by omega)]
  simp only [goN,Z1j,ZiO,ZiP,if_false,Nat.zero_add,Nat.reduceAdd]
  repeat' (first|(refine And.intro ?_ ?_)|intro _)
  all_goals first|omega|(simp only [*,if_true,if_false];done)|(simp only [*,if_true,if_false];rfl)|skip
  all_goals rename_i hb
  all_goals first|rw [bne_iff_ne] at hb|rw [bne_eq_false_iff_eq] at hb
  all_goals simp only [*,if_false]
  all_goals first|rfl|(split<;>first|rfl|omega)
 ·rw [hF,U2 h0 (ZhI c1 c2 c3)];exact ⟨by omega,rfl,rfl⟩
def ZcN (F:List Int->Int×Int):ZK:=fun args h K=>ZP none h true 20 args fun a=>match a with
 | [.vints .u8 xs n]=>Zx (xs.length=n) (K (.tuple [.int .i64 (F xs).1,.int .i64 (F xs).2]))
 | _=>False
theorem ZaW (args:List AV) (h:Z9) (K:AV->Prop) (hl:ZcN (Zo Zq) args h K):Zn PP 194 args h fun o h'=>∃v,o=.ret v/\h'=h/\K v:=by
 refine ZA.psumm (d:=20) (Zs _ _ _ _ _ hl fun a ha=> ?_)
 split at ha
 ·obtain ⟨h1,hK⟩:=Ze ha
  exact ⟨_,.evM Z0l (Zfx _ _ _ _ h1 rfl),fun _=>rfl,hK⟩
 ·exact ha.elim
end Go.Tk
end
section
namespace Go.Tk
open IntKind (i64 u8 u32 u64 wrap)
noncomputable def E23 (F:List Int->Int×Int):Zh:=G0.withP 194 (ZcN F)
theorem ZcO:(E23 (Zo Zq)).Ok:=Zh.withP_ok Zu ZaW
theorem Zk9 (F:List Int->Int×Int) (xs:List Int) (o n o' n':Nat) (most v:Int) (hn:o+n=xs.length) (hm:0<=most) (h2:0<(F (xs.drop o)).2/\(F (xs.drop o)).2<=n) (h1:(F (xs.drop o)).1<=most) (hv:(F (xs.drop o)).1=v) (ho:o'=o+(F (xs.drop o)).2.toNat) (hn':n'=n-(F (xs.drop o)).2.toNat):
  evF (E23 F) 20 55 [.agg [.ptr (some ⟨0,0,0,0,0⟩)],.int .i64 most] ⟨2,[(0,.flat [.nslice ⟨1,0,0,0,o⟩ 1 n n,.bool true,.bool false]),(1,.ints .u8 xs)]⟩ (ZX 2 (.ret (.int .i64 v)) 2 [(0,.flat [.nslice ⟨1,0,0,0,o'⟩ 1 n' n',.bool true,.bool false]),(1,.ints .u8 xs)]):=by
 refine @Eq.mpr _ (let q1:=ZG.tot (ZG.mk 1 0 0 0 o);let q2:=List.take n (YC q1 xs);let q3:=F q2;let q4:=q3.snd;let q5:=q3.fst;let q6:=decide (n<=n);let q7:=decide (0<=q4/\q4<= ↑n);let q8:=some (Int.toNat q4);let q9:=WL n q8;
 Z0 (decide (most<0)) False (Z0 (decide (q1+n<=List.length xs)) (Z0 (decide (List.length q2=n)) (Z0 (decide (q4>0)) (Z0 (!decide (q5<=most)) False (Z0 (!decide (q4<= ↑n)) False (Z0 q6 (Z0 q7 (Z0 q6 (Z0 q7 (Z0 (decide (q5=v)) (Z0 (decide (o+Y7 q8=o')) (Z0 (decide (q9=n')) (Z0 (decide (n'<=q9)) (xs=xs/\True) False) False) False) False) False) False) False) False))) False) False) False)) (by kernel_rfl) ?_
 conv=>zeta
 try simp only [Zi]
 try simp only [Zj]
 try simp only [Zf]
 try simp only [Zk]
 try simp only [Zl]
 try simp only [Zg]
 try simp only [Int.toNat_natCast,Nat.zero_add,true_and,and_true,Nat.le_refl]
 have ht:(ZG.mk 1 0 0 0 o).tot=o:=by simp [ZG.tot]
 have hd:List.take n (YC o xs)=xs.drop o:=by rw [Yf,List.take_of_length_le (by rw [List.length_drop];omega)]
 have hl:(xs.drop o).length=n:=by rw [List.length_drop];omega
 simp only [ht,hd,hl]
 subst hv ho hn'
 refine ⟨by omega,by omega,trivial, ?_⟩
 generalize F (xs.drop o)=p at*
 have e1:(!decide (p.1<=most))=false:=by simp [h1]
 have e2:(!decide (p.2<=(n:Int)))=false:=by simp [h2.2]
 rw [e1,e2]
 have e3:Y7 (some p.2.toNat)=p.2.toNat:=rfl
 have e4:WL n (some p.2.toNat)=n-p.2.toNat:=rfl
 rw [e3,e4]
 and_intros<;>first|trivial|rfl|omega
theorem Zka (F:List Int->Int×Int) (xs:List Int) (o n:Nat) (most:Int) (hn:o+n=xs.length) (hm:0<=most) (h2:0<(F (xs.drop o)).2->most<(F (xs.drop o)).1):
  evF (E23 F) 20 55 [.agg [.ptr (some ⟨0,0,0,0,0⟩)],.int .i64 most] ⟨2,[(0,.flat [.nslice ⟨1,0,0,0,o⟩ 1 n n,.bool true,.bool false]),(1,.ints .u8 xs)]⟩ (ZX 2 (.panic (.iface 29 (.int .i64 204))) 2 [(0,.flat [.nslice ⟨1,0,0,0,o⟩ 1 n n,.bool true,.bool true]),(1,.ints .u8 xs)]):=by
 refine @Eq.mpr _ (let q1:=decide (o=o);let q2:=decide (n=n);let q3:=decide (n<=n);let q4:=ZG.tot (ZG.mk 1 0 0 0 o);let q5:=List.take n (YC q4 xs);let q6:=F q5;let q7:=q6.snd;let q8:=Z0 q1 (Z0 q2 (Z0 q3 (xs=xs/\True) False) False) False;let q9:=decide (0<=q7/\q7<= ↑n);
 Z0 (decide (most<0)) (Z0 q1 (Z0 q2 (Z0 q3 False False) False) False) (Z0 (decide (q4+n<=List.length xs)) (Z0 (decide (List.length q5=n)) (Z0 (decide (q7>0)) (Z0 (!decide (q6.fst<=most)) q8 (Z0 (!decide (q7<= ↑n)) q8 (Z0 q3 (Z0 q9 (Z0 q3 (Z0 q9 False False) False) False) False))) q8) False) False)) (by kernel_rfl) ?_
 conv=>zeta
 try simp only [Zi]
 try simp only [Zj]
 try simp only [Zf]
 try simp only [Zk]
 try simp only [Zl]
 try simp only [Zg]
 try simp only [Int.toNat_natCast,Nat.zero_add,true_and,and_true,Nat.le_refl]
 have ht:(ZG.mk 1 0 0 0 o).tot=o:=by simp [ZG.tot]
 have hd:List.take n (YC o xs)=xs.drop o:=by rw [Yf,List.take_of_length_le (by rw [List.length_drop];omega)]
 have hl:(xs.drop o).length=n:=by rw [List.length_drop];omega
 simp only [ht,hd,hl]
 refine ⟨fun h=>(by omega),fun _=>⟨by omega,trivial,fun h=>⟨fun _=>trivial,fun h3=> ?_⟩,fun _=>trivial⟩⟩
 have:=h2 h
 simp at h3
 omega
theorem Zkb (xs hh:List Int) (o n o' n':Nat) (hn:o+n=xs.length) (h2:32<=n) (hh':hh=(xs.drop o).take 32) (ho:o'=o+32) (hn':n'=n-32):
  evF G0 20 54 [.agg [.ptr (some ⟨0,0,0,0,0⟩)]] ⟨2,[(0,.flat [.nslice ⟨1,0,0,0,o⟩ 1 n n,.bool true,.bool false]),(1,.ints .u8 xs)]⟩ (ZX 2 (.ret (.agg [.arr .u8 32 hh])) 2 [(0,.flat [.nslice ⟨1,0,0,0,o'⟩ 1 n' n',.bool true,.bool false]),(1,.ints .u8 xs)]):=by
 refine @Eq.mpr _ (let q1:=decide (n<=n);let q2:=decide ((0:Int)<=32/\32<=(↑n:Int));let q3:=ZG.tot (ZG.mk 1 0 0 0 (o+0));let q4:=WL n (some 32);
 Z0 (!decide (32<=(↑n:Int))) False (Z0 q1 (Z0 q2 (Z0 q1 (Z0 q2 (Z0 (decide (u8=u8/\q3+32<=List.length xs)) (spl Za 0 (List.take 32 (List.take 32 (YC q3 xs)))=hh/\Z0 (decide (o+32=o')) (Z0 (decide (q4=n')) (Z0 (decide (n'<=q4)) (xs=xs/\True) False) False) False) False) False) False) False) False)) (by kernel_rfl) ?_
 conv=>zeta
 try simp only [Zi]
 try simp only [Zj]
 try simp only [Zf]
 try simp only [Zk]
 try simp only [Zl]
 try simp only [Zg]
 try simp only [Int.toNat_natCast,Nat.zero_add,true_and,and_true,Nat.le_refl]
 have e1:(!decide ((32:Int)<=(n:Int)))=false:=by simp;omega
 have ht:(ZG.mk 1 0 0 0 (o+0)).tot=o:=by simp [ZG.tot]
 rw [e1,ht]
 have e4:WL n (some 32)=n-32:=rfl
 rw [e4]
 have hl:((xs.drop o).take 32).length=32:=by rw [List.length_take,List.length_drop];omega
 have hd:List.take 32 (List.take 32 (YC o xs))=(xs.drop o).take 32:=by rw [Yf,List.take_take];rfl
 rw [hd,hh']
 generalize (xs.drop o).take 32=zs at*
 and_intros<;>first|trivial|rfl|omega|skip
 unfold spl
 rw [List.take_zero,List.nil_append,hl]
 simp [Za]
theorem Zkc (xs:List Int) (o n:Nat) (hn:o+n=xs.length) (h2:n<32):
  evF G0 20 54 [.agg [.ptr (some ⟨0,0,0,0,0⟩)]] ⟨2,[(0,.flat [.nslice ⟨1,0,0,0,o⟩ 1 n n,.bool true,.bool false]),(1,.ints .u8 xs)]⟩ (ZX 2 (.panic (.iface 29 (.int .i64 204))) 2 [(0,.flat [.nslice ⟨1,0,0,0,o⟩ 1 n n,.bool true,.bool true]),(1,.ints .u8 xs)]):=by
 refine @Eq.mpr _ (let q1:=decide (n<=n);let q2:=decide ((0:Int)<=32/\32<=(↑n:Int));
 Z0 (!decide (32<=(↑n:Int))) (Z0 (decide (o=o)) (Z0 (decide (n=n)) (Z0 q1 (xs=xs/\True) False) False) False) (Z0 q1 (Z0 q2 (Z0 q1 (Z0 q2 (Z0 (decide (u8=u8/\ZG.tot (ZG.mk 1 0 0 0 (o+0))+32<=List.length xs)) False False) False) False) False) False)) (by kernel_rfl) ?_
 conv=>zeta
 try simp only [Zi]
 try simp only [Zj]
 try simp only [Zf]
 try simp only [Zk]
 try simp only [Zl]
 try simp only [Zg]
 try simp only [Int.toNat_natCast,Nat.zero_add,true_and,and_true,Nat.le_refl]
 refine ⟨fun _=>trivial,fun h=> ?_⟩
 simp at h
 omega
theorem Zmo (xs:List Int) (o n:Nat) (h2:n=0):
  evF G0 20 58 [.ptr (some ⟨0,0,0,0,0⟩)] ⟨2,[(0,.flat [.nslice ⟨1,0,0,0,o⟩ 1 n n,.bool true,.bool false]),(1,.ints .u8 xs)]⟩ (ZX 2 (.ret (.int .i64 0)) 2 [(0,.flat [.nslice ⟨1,0,0,0,o⟩ 1 n n,.bool true,.bool false]),(1,.ints .u8 xs)]):=by
 refine @Eq.mpr _ (Z0 (!(↑n:Int)==0) False (Z0 (decide (o=o)) (Z0 (decide (n=n)) (Z0 (decide (n<=n)) (xs=xs/\True) False) False) False)) (by kernel_rfl) ?_
 try simp only [Zi]
 try simp only [Zj]
 try simp only [Zf]
 try simp only [Zk]
 try simp only [Zl]
 try simp only [Zg]
 try simp only [Int.toNat_natCast,Nat.zero_add,true_and,and_true,Nat.le_refl]
 subst h2
 simp
theorem Zmp (xs:List Int) (o n:Nat) (h2:n≠0):
  evF G0 20 58 [.ptr (some ⟨0,0,0,0,0⟩)] ⟨2,[(0,.flat [.nslice ⟨1,0,0,0,o⟩ 1 n n,.bool true,.bool false]),(1,.ints .u8 xs)]⟩ (ZX 2 (.ret (.int .i64 140)) 2 [(0,.flat [.nslice ⟨1,0,0,0,o⟩ 1 n n,.bool true,.bool true]),(1,.ints .u8 xs)]):=by
 refine @Eq.mpr _ (Z0 (!(↑n:Int)==0) (Z0 (decide (o=o)) (Z0 (decide (n=n)) (Z0 (decide (n<=n)) (xs=xs/\True) False) False) False) False) (by kernel_rfl) ?_
 try simp only [Zi]
 try simp only [Zj]
 try simp only [Zf]
 try simp only [Zk]
 try simp only [Zl]
 try simp only [Zg]
 try simp only [Int.toNat_natCast,Nat.zero_add,true_and,and_true,Nat.le_refl]
 simp
 omega
theorem Q5 (W:Int->List Int) (xs:List Int):(Zo W xs).2<=xs.length:=by
 by_cases h0:xs.length=0
 ·rw [U1 h0];exact Int.natCast_nonneg _
 by_cases hm:X7 (xs.getD 0 0)=0
 ·rw [U2 h0 hm];show (1:Int)<=_;omega
 by_cases hl:xs.length<=X7 (xs.getD 0 0)
 ·rw [X8 h0 rfl hm hl];exact Int.natCast_nonneg _
 rw [VK h0 rfl hm (by omega)]
 split
 ·show (-1:Int)<=_;omega
 ·split
  ·show (-1:Int)<=_;omega
  ·split
   ·show (1:Int)+X7 (xs.getD 0 0)<=_;omega
   ·show (-1:Int)<=_;omega
def rdN (F:List Int->Int×Int) (xs:List Int) (o:Nat) (most:Int):Option (Int×Nat):=
 if 0<(F (xs.drop o)).2/\(F (xs.drop o)).1<=most then some ((F (xs.drop o)).1,o+(F (xs.drop o)).2.toNat) else none
def rdH (xs:List Int) (o:Nat):Option (List Int×Nat):=if o+32<=xs.length then some ((xs.drop o).take 32,o+32) else none
def ZcP (F:List Int->Int×Int):Y8:=fun args h K=>match args with
 | [.agg [.ptr (some ⟨r,0,0,0,0⟩)],.int .i64 _]=>match h.get r with
  |some (.flat [.nslice ⟨b,0,0,0,_⟩ 1 _ _,.bool true,.bool false])=>frA [r,b] h 20 args fun Bs a=>match Bs,a with
   | [.flat [.nslice ⟨1,0,0,0,o⟩ 1 n n2,.bool true,.bool false],.ints .u8 xs],[.agg [.ptr (some ⟨0,0,0,0,0⟩)],.int .i64 most]=>
    Zx (n=xs.length-o/\o<=xs.length/\n2=xs.length-o/\0<=most) ((∀v o',rdN F xs o most=some (v,o')->(o<=o'/\o'<=xs.length/\v<=most)->
     K (.ret (.int .i64 v)) ⟨h.next,(r,.flat [.nslice ⟨b,0,0,0,o'⟩ 1 (xs.length-o') (xs.length-o'),.bool true,.bool false])::(b,.ints .u8 xs)::Ye (Ye h.bs r) b⟩)/\
     (rdN F xs o most=none->K (.panic (.iface 29 (.int .i64 204))) ⟨h.next,(r,.flat [.nslice ⟨b,0,0,0,o⟩ 1 (xs.length-o) (xs.length-o),.bool true,.bool true])::(b,.ints .u8 xs)::Ye (Ye h.bs r) b⟩))
   | _,_=>False
  | _=>False
 | _=>False
theorem ZcQ (args:List AV) (h:Z9) (K:KO) (hl:ZcP (Zo Zq) args h K):Zn PP 55 args h K:=by
 unfold ZcP at hl
 split at hl
 ·split at hl
  ·refine Spec.fsumm hl fun Bs a hlen hK0=> ?_
   split at hK0
   ·rename_i o n n2 xs most
    obtain ⟨⟨rfl,h1,rfl,h3⟩,hK,hK'⟩:=Ze hK0
    have hle:=Q5 Zq (xs.drop o)
    rw [List.length_drop] at hle
    by_cases hc:0<(Zo Zq (xs.drop o)).2/\(Zo Zq (xs.drop o)).1<=most
    ·have f1:o<=o+(Zo Zq (xs.drop o)).2.toNat/\o+(Zo Zq (xs.drop o)).2.toNat<=xs.length/\(Zo Zq (xs.drop o)).1<=most:=⟨by omega,by omega,hc.2⟩
     exact ⟨_,_,_,_,_,.evM ZcO (Zk9 _ xs o (xs.length-o) (o+(Zo Zq (xs.drop o)).2.toNat) (xs.length-(o+(Zo Zq (xs.drop o)).2.toNat)) most _ (by omega) h3 ⟨hc.1,by omega⟩ hc.2 rfl rfl (by omega)),by simp,.ret _ _ rfl,.cons _ _ _ _ _ _ rfl (.flat _ _ rfl) (.cons _ _ _ _ _ _ rfl (.ints _ _) .nil),hK _ _ (by unfold rdN;rw [if_pos hc]) f1⟩
    ·exact ⟨_,_,_,_,_,.evM ZcO (Zka _ xs o _ most (by omega) h3 (fun h=>by omega)),by simp,.panic _ _ rfl,.cons _ _ _ _ _ _ rfl (.flat _ _ rfl) (.cons _ _ _ _ _ _ rfl (.ints _ _) .nil),hK' (by unfold rdN;rw [if_neg hc])⟩
   ·exact hK0.elim
  ·exact hl.elim
 ·exact hl.elim
def Z8l:Y8:=fun args h K=>match args with
 | [.agg [.ptr (some ⟨r,0,0,0,0⟩)]]=>match h.get r with
  |some (.flat [.nslice ⟨b,0,0,0,_⟩ 1 _ _,.bool true,.bool false])=>frA [r,b] h 20 args fun Bs a=>match Bs,a with
   | [.flat [.nslice ⟨1,0,0,0,o⟩ 1 n n2,.bool true,.bool false],.ints .u8 xs],[.agg [.ptr (some ⟨0,0,0,0,0⟩)]]=>
    Zx (n=xs.length-o/\o<=xs.length/\n2=xs.length-o) ((∀hh o',rdH xs o=some (hh,o')->(o<=o'/\o'<=xs.length/\hh.length=32)->
     K (.ret (.agg [.arr .u8 32 hh])) ⟨h.next,(r,.flat [.nslice ⟨b,0,0,0,o'⟩ 1 (xs.length-o') (xs.length-o'),.bool true,.bool false])::(b,.ints .u8 xs)::Ye (Ye h.bs r) b⟩)/\
     (rdH xs o=none->K (.panic (.iface 29 (.int .i64 204))) ⟨h.next,(r,.flat [.nslice ⟨b,0,0,0,o⟩ 1 (xs.length-o) (xs.length-o),.bool true,.bool true])::(b,.ints .u8 xs)::Ye (Ye h.bs r) b⟩))
   | _,_=>False
  | _=>False
 | _=>False
theorem ZaX (args:List AV) (h:Z9) (K:KO) (hl:Z8l args h K):Zn PP 54 args h K:=by
 unfold Z8l at hl
 split at hl
 ·split at hl
  ·refine Spec.fsumm hl fun Bs a hlen hK0=> ?_
   split at hK0
   ·rename_i o n n2 xs
    obtain ⟨⟨rfl,h1,rfl⟩,hK,hK'⟩:=Ze hK0
    by_cases hc:o+32<=xs.length
    ·have f1:o<=o+32/\o+32<=xs.length/\((xs.drop o).take 32).length=32:=⟨by omega,hc,by rw [List.length_take,List.length_drop];omega⟩
     exact ⟨_,_,_,_,_,.evM Zu (Zkb xs _ o (xs.length-o) (o+32) (xs.length-(o+32)) (by omega) (by omega) rfl rfl (by omega)),by simp,.ret _ _ rfl,.cons _ _ _ _ _ _ rfl (.flat _ _ rfl) (.cons _ _ _ _ _ _ rfl (.ints _ _) .nil),hK _ _ (by unfold rdH;rw [if_pos hc]) f1⟩
    ·exact ⟨_,_,_,_,_,.evM Zu (Zkc xs o _ (by omega) (by omega)),by simp,.panic _ _ rfl,.cons _ _ _ _ _ _ rfl (.flat _ _ rfl) (.cons _ _ _ _ _ _ rfl (.ints _ _) .nil),hK' (by unfold rdH;rw [if_neg hc])⟩
   ·exact hK0.elim
  ·exact hl.elim
 ·exact hl.elim
def ZcR:Y8:=fun args h K=>match args with
 | [.ptr (some ⟨r,0,0,0,0⟩)]=>match h.get r with
  |some (.flat [.nslice ⟨b,0,0,0,_⟩ 1 _ _,.bool true,.bool false])=>frA [r,b] h 20 args fun Bs a=>match Bs,a with
   | [.flat [.nslice ⟨1,0,0,0,o⟩ 1 n n2,.bool true,.bool false],.ints .u8 xs],[.ptr (some ⟨0,0,0,0,0⟩)]=>
    Zx (n2=n) (Z0 (decide (n=0))
     (K (.ret (.int .i64 0)) ⟨h.next,(r,.flat [.nslice ⟨b,0,0,0,o⟩ 1 n n,.bool true,.bool false])::(b,.ints .u8 xs)::Ye (Ye h.bs r) b⟩)
     (K (.ret (.int .i64 140)) ⟨h.next,(r,.flat [.nslice ⟨b,0,0,0,o⟩ 1 n n,.bool true,.bool true])::(b,.ints .u8 xs)::Ye (Ye h.bs r) b⟩))
   | _,_=>False
  | _=>False
 | _=>False
theorem ZcS (args:List AV) (h:Z9) (K:KO) (hl:ZcR args h K):Zn PP 58 args h K:=by
 unfold ZcR at hl
 split at hl
 ·split at hl
  ·refine Spec.fsumm hl fun Bs a hlen hK0=> ?_
   split at hK0
   ·rename_i o n n2 xs
    obtain ⟨rfl,hK⟩:=Ze hK0
    rw [Zf] at hK
    by_cases hc:n2=0
    ·exact ⟨_,_,_,_,_,.evM Zu (Zmo xs o _ hc),by simp,.ret _ _ rfl,.cons _ _ _ _ _ _ rfl (.flat _ _ rfl) (.cons _ _ _ _ _ _ rfl (.ints _ _) .nil),hK.1 hc⟩
    ·exact ⟨_,_,_,_,_,.evM Zu (Zmp xs o _ hc),by simp,.ret _ _ rfl,.cons _ _ _ _ _ _ rfl (.flat _ _ rfl) (.cons _ _ _ _ _ _ rfl (.ints _ _) .nil),hK.2 hc⟩
   ·exact hK0.elim
  ·exact hl.elim
 ·exact hl.elim
end Go.Tk
end
section
namespace Go.Tk
open IntKind (i64 u8 u32 u64 wrap)
def AV.plain2:AV->Bool
 | .iface _ v=>v.plain
 | v=>v.plain
theorem Zm.plain2 {E E':Env} {v:AV} {r:Value} (h:Zm E v r) (hp:v.plain2=true):Zm E' v r:=by
 cases v with
 | iface t u=>cases h with|iface t u x hx=>exact .iface _ _ _ (hx.plain hp)
 | _=>exact h.plain hp
def Z6D {ι:Type} (k:Nat) (m:ι->Nat) (S:ι->St) (i:ι) (X:KE):KE:=fun e s=>match e with
 | .normal=>∃j,m j<m i/\VY k s (S j)
 | .panic v=>v.plain2=true/\∃s₂,VY k s s₂/\X (.panic v) s₂
 | .exit id=>∃s₂,VY k s s₂/\X (.exit id) s₂
 | .goto l=>∃s₂,VY k s s₂/\X (.goto l) s₂
 | .ret=>∃s₂,VY k s s₂/\X .ret s₂
theorem Z8m {P:Program} {k:Nat} {ro:Option Nat} {c:Code} {ι:Type} (m:ι->Nat) (S:ι->St) (X:KE)
  (h:∀i,YF P k ro c (S i) (Z6D k m S i X)):∀i,YF P k ro (.loop c) (S i) X:=by
 have key:∀N i,m i<N->∀(E0:Env) (h0:Z9) (w0:World) (E:Env) (a:Act) (w:World) (n:Nat),(∀x,k<=x->E0.blk x=none)->V1 E (S i) a w->Evo E0 h0 w0 E (S i).h w->
   Code.roundsIn (Fr ro) n P c (QG E0 h0 w0 X) N a w:=by
  intro N
  induction N with
  | zero=>intro i hi;omega
  | succ N ih=>
   intro i hi E0 h0 w0 E a w n hk hs hev
   rw [roundsIn_succ]
   refine wpIn_mono (h i E0 h0 w0 E a w n hk hs hev) ?_
   rintro e a' w' ⟨E',x,s',hx,hev',hs',he⟩
   cases he with
   | normal=>
    obtain ⟨j,hj,hw⟩:=hx
    obtain ⟨E₂,hs₂,hev₂⟩:=hw E0 h0 w0 E' a' w' hk hs' hev'
    exact ih j (by omega) E0 h0 w0 E₂ a' w' n hk hs₂ hev₂
   | exit id=>
    obtain ⟨s₂,hw,hx⟩:=hx
    obtain ⟨E₂,hs₂,hev₂⟩:=hw E0 h0 w0 E' a' w' hk hs' hev'
    exact ⟨E₂,_,s₂,hx,hev₂,hs₂,.exit id⟩
   | goto l=>
    obtain ⟨s₂,hw,hx⟩:=hx
    obtain ⟨E₂,hs₂,hev₂⟩:=hw E0 h0 w0 E' a' w' hk hs' hev'
    exact ⟨E₂,_,s₂,hx,hev₂,hs₂,.goto l⟩
   | ret=>
    obtain ⟨s₂,hw,hx⟩:=hx
    obtain ⟨E₂,hs₂,hev₂⟩:=hw E0 h0 w0 E' a' w' hk hs' hev'
    exact ⟨E₂,_,s₂,hx,hev₂,hs₂,.ret⟩
   | panic v r hv=>
    obtain ⟨hp,s₂,hw,hx⟩:=hx
    obtain ⟨E₂,hs₂,hev₂⟩:=hw E0 h0 w0 E' a' w' hk hs' hev'
    exact ⟨E₂,_,s₂,hx,hev₂,hs₂,.panic v r (hv.plain2 hp)⟩
 intro i E0 h0 w0 E a w n hk hs hev
 exact wpIn_loop_rounds (m i+1) (key (m i+1) i (Nat.lt_succ_self _) E0 h0 w0 E a w n hk hs hev)
theorem Zh.withL_okP {G:Zh} (hG:G.Ok) {f:FuncId} {id:Nat} {S:Nat->St->KE->Prop} (h1:Wg G.P f id=true)
  (h:∀k s X,S k s X->∃ι:Type,∃m:ι->Nat,∃I:ι->St,∃i n,VY k s (I i)/\∀i,∃Y,ZB G n f id k (I i) Y/\∀e s,Y e s->Z6D k m I i X e s):(G.withL f id S).Ok where
 draw:=hG.draw
 psumm:=hG.psumm
 fsumm:=hG.fsumm
 lsumm:=fun f' id' S' fn c body hS hf hb hm k s X hs=>by
  simp only [Zh.withL] at hS
  split at hS
  ·rename_i hq
   rw [Bool.and_eq_true] at hq
   have e1:=Nat.eq_of_beq_eq_true hq.1
   have e2:=Nat.eq_of_beq_eq_true hq.2
   subst e1 e2
   cases hS
   have hc:=Z1h h1 hf hb hm
   obtain ⟨ι,m,I,i,n,hw,hr⟩:=h k s X hs
   subst hc
   refine YF.weak (Z8m m I X (fun i=> ?_) i) hw
   have hk:=UX hG n f' none
   obtain ⟨Y,hY,hYX⟩:=hr i
   unfold ZB at hY
   refine YF.mono ?_ hYX
   refine Z0K (k:=k) (ro:=none) hG hk.1 (fun _=>rfl) (fun _=>rfl) (fun _=>⟨fn,body,by rw [hk.2.1];exact hf,hb,fun b hbm=>WR body id' _ hm b (by simpa [Zz] using hbm)⟩) hY
  ·exact hG.lsumm f' id' S' fn c body hS hf hb hm k s X hs
def rdP (k id l:Nat) (pv:AV) (S1 En Rn Jn Pn:St) (go ex re jm pa:Prop):KE:=fun e s=>match e with
 | .normal=>W4 k S1 s go
 | .exit x=>(match Nat.beq x id with|true=>W4 k En s ex|false=>False)
 | .ret=>W4 k Rn s re
 | .goto x=>(match Nat.beq x l with|true=>W4 k Jn s jm|false=>False)
 | .panic v=>YD pv v (W4 k Pn s pa)
def Zkd (id n l:Nat) (pv:AV) (go ex re jm pa:Nat->Prop) (En Rn Jn Pn:Nat->St):KE->Prop:=fun X=>
 ∀i,i<=n->(∀j,j<i->go j)->(ex i->X (.exit id) (En i))/\(re i->X .ret (Rn i))/\(jm i->X (.goto l) (Jn i))/\(pa i->X (.panic pv) (Pn i))
end Go.Tk
end
section
namespace Go.Tk
open IntKind (i64 u8 u32 u64 wrap)
mutual
/-- Without names; views may be. -/
def AV.vplain:AV->Bool
 | .top|.bool _|.int _ _|.str _|.ptr none|.eslice|.fslice|.nilslice|.map none|.nilFunc|.nilIface|.arr _ _ _=>true
 | .vints _ _ _|.vrows _ _ _ _|.pview _ _=>true
 | .agg cs=>Wx cs
 | .tuple cs=>Wx cs
 | .iface _ v=>v.vplain
 | _=>false
def Wx:List AV->Bool
 | []=>true
 | v::r=>v.vplain&&Wx r
end
mutual
theorem Zm.vplain {E E':Env} (hi:∀a c,E.imm a c->E'.imm a c):∀(v:AV) (r:Value),v.vplain=true->Zm E v r->Zm E' v r
 | .top,r,_,_=>.top r
 | .bool b,r,_,h=>h.plain rfl
 | .int k n,r,_,h=>h.plain rfl
 | .str s,r,_,h=>h.plain rfl
 | .ptr none,r,_,h=>h.plain rfl
 | .eslice,r,_,h=>h.plain rfl
 | .fslice,r,_,h=>h.plain rfl
 | .nilslice,r,_,h=>h.plain rfl
 | .map none,r,_,h=>h.plain rfl
 | .nilFunc,r,_,h=>h.plain rfl
 | .nilIface,r,_,h=>h.plain rfl
 | .arr k n xs,r,_,h=>h.plain rfl
 | .ptr (some p),r,hp,_=>by simp [AV.vplain] at hp
 | .nslice p a b c,r,hp,_=>by simp [AV.vplain] at hp
 | .map (some x),r,hp,_=>by simp [AV.vplain] at hp
 | .func a b c,r,hp,_=>by simp [AV.vplain] at hp
 | .yield x,r,hp,_=>by simp [AV.vplain] at hp
 | .pview cs inn,r,_,h=>by
  cases h with
  | pview cs inn a vs hc hq=>exact .pview cs inn a vs (Zv.mono (⟨fun _ _ h=>by simp [Env.views] at h,hi⟩:E.views.le E'.views) hc) (fun j c h=>hi _ _ (hq j c h))
 | .vints k xs len,r,_,h=>by
  cases h with
  | vintsNil k xs len h1 h2=>exact .vintsNil k xs len h1 h2
  | vints k xs len a cap h1 h2 hq=>exact .vints k xs len a cap h1 h2 (fun i h=>hi _ _ (hq i h))
 | .vrows esz n f len,r,_,h=>by
  cases h with
  | vrowsNil esz n f len h1 h2=>exact .vrowsNil esz n f len h1 h2
  | vrows esz n f len a cap g h1 h2 hc hl hq=>exact .vrows esz n f len a cap g h1 h2 (fun i h=>Zv.mono (⟨fun _ _ h=>by simp [Env.views] at h,hi⟩:E.views.le E'.views) (hc i h)) hl (fun i j c h h'=>hi _ _ (hq i j c h h'))
 | .iface t v,r,hp,h=>by
  cases h with
  | iface t v x hx=>exact .iface t v x (Zm.vplain hi v x (by simpa [AV.vplain] using hp) hx)
 | .agg cs,r,hp,h=>by
  cases h with
  | agg cs vs hc=>exact .agg cs vs (Zv.vplain hi cs vs (by simpa [AV.vplain] using hp) hc)
 | .tuple cs,r,hp,h=>by
  cases h with
  | tuple _ rs hc=>exact .tuple _ rs (ZJ.vplain hi cs rs (by simpa [AV.vplain] using hp) hc)
theorem Zv.vplain {E E':Env} (hi:∀a c,E.imm a c->E'.imm a c):∀(l:List AV) (r:List Value),Wx l=true->Zv E l r->Zv E' l r
 | [],r,_,h=>by cases h;exact .nil
 | v::l,r,hp,h=>by
  simp only [Wx,Bool.and_eq_true] at hp
  cases h with
  | one v c vs cs h0 h1 hv t=>exact .one v c _ cs h0 h1 (Zm.vplain hi v c hp.1 hv) (Zv.vplain hi l cs hp.2 t)
  | arr k n xs vs cs t=>exact .arr k n xs _ cs (Zv.vplain hi l cs hp.2 t)
theorem ZJ.vplain {E E':Env} (hi:∀a c,E.imm a c->E'.imm a c):∀(l:List AV) (r:List Value),Wx l=true->ZJ E l r->ZJ E' l r
 | [],r,_,h=>by cases h;exact .nil
 | v::l,r,hp,h=>by
  simp only [Wx,Bool.and_eq_true] at hp
  cases h with
  | cons v c vs cs hv t=>exact .cons v c _ cs (Zm.vplain hi v c hp.1 hv) (ZJ.vplain hi l cs hp.2 t)
end
def Y4 (R:AV->Prop):KO:=fun o _=>match o with
 | .ret u=>(match u.vplain with|true=>R u|false=>False)
 | .panic _=>False
theorem Z8n {P:Program} {f:FuncId} {args:List AV} {h:Z9} {R:AV->Prop} {K:AV->Prop} (hp:Wx args=true) (hc:Zn P f args ⟨0,[]⟩ (Y4 R)) (hK:∀u,R u->K u):
  Zn P f args h fun o h'=>∃v,o=.ret v/\h'=h/\K v:=by
 intro E w rs he hr
 have hemb:Emb E.views ⟨0,[]⟩ w:=
  ⟨fun x _=>rfl,fun x B h=>by simp [Z9.get,ZN] at h,fun x B h=>by simp [Z9.get,ZN] at h,fun x y B B' b N N' h=>by simp [Z9.get,ZN] at h,he.imm,fun a c x B N _ h=>by simp [Z9.get,ZN] at h⟩
 refine (hc E.views w rs hemb (ZJ.vplain (E:=E) (E':=E.views) (fun _ _ h=>h) _ _ hp hr)).mono ?_
 rintro e w' ⟨E₁,o,h',hK0,hev,hor⟩
 cases hor with
 | panic u r hr=>exact hK0.elim
 | ret u r hr=>
  unfold Y4 at hK0
  simp only at hK0
  split at hK0
  ·rename_i hu
   have hkeep:∀b,b<w.heap.size->w'.heap[b]? =w.heap[b]?:=fun b hb=>hev.keep b hb (fun ⟨x,B,N,hx,_⟩=>by simp [Z9.get,ZN] at hx)
   have hemb':Emb E h w':=by
    refine ⟨he.fresh,he.lt,fun x B hx=>(he.own x B hx).congr fun b N hb=>hkeep b ((he.own x B hx).lt hb),he.disj,fun a c hi=> ?_,he.sep⟩
    have hcc:=he.imm a c hi
    have hlt:a.block<w.heap.size:=by
     rcases Nat.lt_or_ge a.block w.heap.size with hl|hg
     ·exact hl
     ·simp [World.cell?,Array.getElem?_eq_none hg] at hcc
    simpa [World.cell?,hkeep _ hlt] using hcc
   exact ⟨E,.ret u,h,⟨u,rfl,rfl,hK u hK0⟩,⟨.refl E,hemb',hev.size,hev.os,hev.tape,hev.output,fun b hb _=>hkeep b hb,fun b ho=>.inl ho,fun _ _ h=>h⟩,.ret _ _ (Zm.vplain (E:=E₁) (E':=E) (fun a c hi=>hev.imm a c hi) _ _ hu hr)⟩
  ·exact hK0.elim
theorem ZU {G:Zh} (hG:G.Ok) {n:Nat} {f:FuncId} {args:List AV} {h:Z9} {R:AV->Prop} {K:AV->Prop} (hp:Wx args=true) (hc:evF G n f args ⟨0,[]⟩ (Y4 R)) (hK:∀u,R u->K u):
  Zn G.P f args h fun o h'=>∃v,o=.ret v/\h'=h/\K v:=Z8n hp (QH hG hc) hK
end Go.Tk
end
section
namespace Go.Tk
open IntKind (i64 u8 u32 u64 wrap)
end Go.Tk
end
section
namespace Go.Tk
open IntKind (i64 u8 u32 u64 wrap)
inductive Ty where
 | bool
 | int (k:IntKind)
 | str
 | arr (k:IntKind) (n:Nat)
 | ints (k:IntKind)
 | rows (esz:Nat) (ts:List Ty)
def ZcT (P:Program) (r:TypeId->Option (List Ty)) (sz:Nat):Nat->List Field->Option (List Ty)
 | o,[]=>if o=sz then some [] else none
 | o,f::fs=>if f.offset=o then (r f.type).bind fun a=>(ZcT P r sz (o+P.cellsOf f.type) fs).bind fun b=>some (a++b) else none
def Z1D (P:Program):Nat->TypeId->Option (List Ty)
 | 0,_=>none
 | m+1,t=>match P.underlying t with
  | some .bool=>some [.bool]
  | some (.int k)=>some [.int k]
  | some .string=>some [.str]
  | some (.array n e)=>match P.underlying e with
   | some (.int k)=>if P.cellsOf t=n/\P.cellsOf e=1 then some [.arr k n] else none
   | _=>(Z1D P m e).bind fun ts=>if P.cellsOf t=n*P.cellsOf e then some (List.replicate n ts).flatten else none
  | some (.slice e)=>match P.underlying e with
   | some (.int k)=>if P.cellsOf e=1 then some [.ints k] else none
   | _=>(Z1D P m e).bind fun ts=>some [.rows (P.cellsOf e) ts]
  | some (.struct fs)=>ZcT P (Z1D P m) (P.cellsOf t) 0 fs.toList
  | _=>none
mutual
inductive Z1k:Ty->AV->Prop
 | bool (b:Bool):Z1k .bool (.bool b)
 | int (k:IntKind) (n:Int) (h:(Lit.int k n).wf=true):Z1k (.int k) (.int k n)
 | str (s:ByteArray) (h:s.size<=maxLen):Z1k .str (.str s)
 | arr (k:IntKind) (n:Nat) (xs:List Int) (h:xs.length=n) (hw:∀i,i<n->(Lit.int k (xs.getD i 0)).wf=true):Z1k (.arr k n) (.arr k n xs)
 | ints (k:IntKind) (xs:List Int) (n:Nat) (h:xs.length=n) (hm:n<=maxLen) (hw:∀i,i<n->(Lit.int k (xs.getD i 0)).wf=true):Z1k (.ints k) (.vints k xs n)
 | rows (esz:Nat) (ts:List Ty) (n:Nat) (f:Nat->List AV) (hm:n<=maxLen) (h:∀i,i<n->Fits ts (f i)):Z1k (.rows esz ts) (.vrows esz n f n)
inductive Fits:List Ty->List AV->Prop
 | nil:Fits [] []
 | cons (t:Ty) (a:AV) (ts:List Ty) (vz:List AV) (h:Z1k t a) (r:Fits ts vz):Fits (t::ts) (a::vz)
end
theorem Fits.append:∀{ts wz:List Ty} {vz bs:List AV},Fits ts vz->Fits wz bs->Fits (ts++wz) (vz++bs)
 | _,_,_,_,.nil,h=>h
 | _,_,_,_,.cons t a ts vz h r,k=>.cons t a _ _ h (Fits.append r k)
def tE (w:World):Env:=⟨fun _=>none,fun a c=>w.cell? a=some c⟩
section
variable {H:Type} {enc:TypeId×Value->H} {P:Program} {w:World} {sp:Nat->Bool} {held:Bool}
theorem Qv {k:IntKind} {n:Nat} {cs:List Value} (hl:cs.length=n) (h:∀i,i<n->∃z,cs[i]? =some (.int k z)/\(Lit.int k z).wf=true):
  ∃xs:List Int,xs.length=n/\(∀i,i<n->(Lit.int k (xs.getD i 0)).wf=true)/\∀i,i<n->cs[i]? =some (.int k (xs.getD i 0)):=by
 refine ⟨cs.map fun v=>match v with|.int _ z=>z|_=>0,by simp [hl],fun i hi=> ?_,fun i hi=> ?_⟩
 ·obtain ⟨z,h1,h2⟩:=h i hi
  rw [List.getD_eq_getElem?_getD,List.getElem?_map,h1]
  exact h2
 ·obtain ⟨z,h1,h2⟩:=h i hi
  rw [List.getD_eq_getElem?_getD,List.getElem?_map,h1]
  rfl
theorem Zfy {α β:Type} {n:Nat} {p:Nat->α->β->Prop} [Inhabited α] [Inhabited β] (h:∀i,i<n->∃a b,p i a b):∃(f:Nat->α) (g:Nat->β),∀i,i<n->p i (f i) (g i):=
 ⟨fun i=>if hi:i<n then Classical.choose (h i hi) else default,fun i=>if hi:i<n then Classical.choose (Classical.choose_spec (h i hi)) else default,fun i hi=>by
  simp only [hi,dite_true]
  exact Classical.choose_spec (Classical.choose_spec (h i hi))⟩
theorem Z1S:∀(m:Nat) (t:TypeId) (ts:List Ty),Z1D P m t=some ts->∀(fuel:Nat) (cs:List Value) (x:DataW H×List MemPlace),DataW.trod enc P w 0 sp held fuel t cs=some x->∃vz,Fits ts vz/\Zv (tE w) vz cs
 | 0,_,_,ht=>by simp [Z1D] at ht
 | m+1,t,ts,ht=>by
  intro fuel cs x hx
  unfold Z1D at ht
  split at ht
  ·rename_i hu
   cases ht
   obtain ⟨b,rfl,_⟩:=DataW.trod_bool hu hx
   exact ⟨[.bool b],.cons _ _ _ _ (.bool b) .nil,.one _ _ _ _ rfl rfl (.bool b) .nil⟩
  ·rename_i k hu
   cases ht
   obtain ⟨n,rfl,_,hw⟩:=DataW.trod_int hu hx
   exact ⟨[.int k n],.cons _ _ _ _ (.int k n hw) .nil,.one _ _ _ _ rfl rfl (.int k n) .nil⟩
  ·rename_i hu
   cases ht
   obtain ⟨s,rfl,_,hw⟩:=DataW.trod_string hu hx
   exact ⟨[.str s],.cons _ _ _ _ (.str s hw) .nil,.one _ _ _ _ rfl rfl (.str s) .nil⟩
  ·rename_i n e hu
   split at ht
   ·rename_i k he
    split at ht
    ·rename_i hc
     obtain ⟨hc,h1⟩:=hc
     cases ht
     obtain ⟨xs,q,rfl,rfl,hl,hn,hi⟩:=DataW.trod_array hu hx
     rw [hc] at hl
     obtain ⟨zs,z1,z2,z3⟩:=Qv (k:=k) hl fun i hlt=>by
      have:=hi i hlt
      rw [List.getElem?_eq_getElem (by omega),h1] at this
      obtain ⟨z,e1,_,e2⟩:=DataW.trod_int he this
      refine ⟨z, ?_,e2⟩
      rw [Nat.mul_one] at e1
      have:=congrArg (fun l=>l[0]?) e1
      simpa using this
     refine ⟨[.arr k n zs],.cons _ _ _ _ (.arr k n zs z1 z2) .nil, ?_⟩
     have:cs=intCells k n zs++[]:=by
      rw [List.append_nil]
      refine List.ext_getElem? fun i=> ?_
      by_cases hlt:i<n
      ·rw [z3 i hlt]
       simp [intCells,hlt]
      ·rw [List.getElem?_eq_none (by omega),List.getElem?_eq_none (by rw [Zb];omega)]
     rw [this]
     exact .arr _ _ _ _ _ .nil
    ·cases ht
   ·obtain ⟨es,e1,e2⟩:=Option.bind_eq_some_iff.1 ht
    split at e2
    ·rename_i hc
     cases e2
     obtain ⟨xs,q,rfl,rfl,hl,hn,hi⟩:=DataW.trod_array hu hx
     rw [hc] at hl
     have key:∀j,j<=n->∃vz,Fits (List.replicate j es).flatten vz/\Zv (tE w) vz (cs.take (j*P.cellsOf e)):=by
      intro j
      induction j with
      | zero=>intro _;exact ⟨[],.nil,by simp;exact .nil⟩
      | succ j ih=>
       intro hj
       obtain ⟨vz,f1,f2⟩:=ih (by omega)
       have:=hi j (by omega)
       rw [List.getElem?_eq_getElem (by omega)] at this
       obtain ⟨bs,p1,p2⟩:=Z1S m _ _ e1 _ _ _ this
       refine ⟨vz++bs, ?_, ?_⟩
       ·rw [List.replicate_succ',List.flatten_append,List.flatten_singleton]
        exact f1.append p1
       ·rw [Nat.succ_mul,List.take_add]
        exact f2.append p2
     obtain ⟨vz,f1,f2⟩:=key n (Nat.le_refl _)
     rw [List.take_of_length_le (by omega)] at f2
     exact ⟨vz,f1,f2⟩
    ·cases e2
  ·rename_i e hu
   split at ht
   ·rename_i k he
    split at ht
    ·rename_i hc
     cases ht
     rcases DataW.trod_slice hu hx with ⟨rfl,_⟩|⟨a,len,cap,elems,rest,n,rfl,rfl,_,_,hl,hm,hlen,hi,_,_⟩
     ·exact ⟨[.vints k [] 0],.cons _ _ _ _ (.ints k [] 0 rfl (Nat.zero_le _) fun i hi=>absurd hi (Nat.not_lt_zero i)) .nil,.one _ _ _ _ rfl rfl (.vintsNil _ _ _ rfl rfl) .nil⟩
     ·obtain ⟨zs,z1,z2,z3⟩:=Qv (k:=k) (n:=len) (cs:=(List.range len).map fun i=>(w.cell? (a.add i)).getD undef) (by simp) fun i hlt=>by
       have:=hi i hlt
       rw [List.getElem?_eq_getElem (by omega),hc,Nat.mul_one] at this
       obtain ⟨cs',h1,h2⟩:=Option.bind_eq_some_iff.1 this
       obtain ⟨z,rfl,_,e2⟩:=DataW.trod_int he h2
       refine ⟨z, ?_,e2⟩
       simp [hlt,Go.ChangeShapes.cell_of_cells?_one h1]
      refine ⟨[.vints k zs len],.cons _ _ _ _ (.ints k zs len z1 (by omega) z2) .nil,.one _ _ _ _ rfl rfl (.vints k zs len a cap (by omega) (by omega) fun i hlt=> ?_) .nil⟩
      rw [z1] at hlt
      have:=hi i hlt
      rw [List.getElem?_eq_getElem (by omega),hc,Nat.mul_one] at this
      obtain ⟨cs',h1,h2⟩:=Option.bind_eq_some_iff.1 this
      obtain ⟨z,rfl,_,e2⟩:=DataW.trod_int he h2
      have h3:=z3 i hlt
      have h4:=Go.ChangeShapes.cell_of_cells?_one h1
      simp [hlt,h4] at h3
      show w.cell? (a.add i)=_
      rw [h4,h3,List.getD_eq_getElem?_getD]
    ·cases ht
   ·obtain ⟨es,h1,h2⟩:=Option.bind_eq_some_iff.1 ht
    cases h2
    rcases DataW.trod_slice hu hx with ⟨rfl,_⟩|⟨a,len,cap,elems,rest,n,rfl,rfl,_,_,hl,hm,hlen,hi,_,_⟩
    ·exact ⟨[.vrows (P.cellsOf e) 0 (fun _=>[]) 0],.cons _ _ _ _ (.rows _ _ 0 _ (Nat.zero_le _) fun i hi=>absurd hi (Nat.not_lt_zero i)) .nil,.one _ _ _ _ rfl rfl (.vrowsNil _ _ _ _ rfl rfl) .nil⟩
    ·obtain ⟨f,g,hfg⟩:=Zfy (n:=len) (p:=fun i (vz:List AV) (vs:List Value)=>Fits es vz/\Zv (tE w) vz vs/\w.cells? 0 (a.add (i*P.cellsOf e)) (P.cellsOf e)=some vs) fun i hlt=>by
      have:=hi i hlt
      rw [List.getElem?_eq_getElem (by omega)] at this
      obtain ⟨cs',k1,k2⟩:=Option.bind_eq_some_iff.1 this
      obtain ⟨vz,f1,f2⟩:=Z1S m _ _ h1 _ _ _ k2
      exact ⟨vz,cs',f1,f2,k1⟩
     refine ⟨[.vrows (P.cellsOf e) len f len],.cons _ _ _ _ (.rows _ _ len f (by omega) fun i hlt=>(hfg i hlt).1) .nil,.one _ _ _ _ rfl rfl (.vrows _ _ _ _ a cap g (Nat.le_refl _) hl (fun i hlt=>(hfg i hlt).2.1) (fun i hlt=>(World.cells?_some (hfg i hlt).2.2).2.1) fun i j c hlt hj=> ?_) .nil⟩
     obtain ⟨_,hl',hc'⟩:=World.cells?_some (hfg i hlt).2.2
     have hj':j<P.cellsOf e:=by
      rcases Nat.lt_or_ge j (P.cellsOf e) with h|h
      ·exact h
      ·rw [List.getElem?_eq_none (by omega)] at hj;cases hj
     have:=hc' j hj'
     rw [hj] at this
     show w.cell? (a.add (i*P.cellsOf e+j))=some c
     rw [<-this]
     rw [Addr.add_add]
  ·rename_i fs hu
   obtain ⟨xs,n,rfl,rfl,hl,hn,hf⟩:=DataW.trod_struct hu hx
   have key:∀(l:List Field) (o:Nat) (ts:List Ty) (i0:Nat),ZcT P (Z1D P m) (P.cellsOf t) o l=some ts->(∀i f,l[i]? =some f->fs[i0+i]? =some f)->∃vz,Fits ts vz/\Zv (tE w) vz (cs.drop o):=by
    intro l
    induction l with
    | nil=>
     intro o ts i0 h _
     unfold ZcT at h
     split at h
     ·rename_i ho
      cases h
      exact ⟨[],.nil,by rw [List.drop_eq_nil_of_le (by omega)];exact .nil⟩
     ·cases h
    | cons f l ih=>
     intro o ts i0 h hl'
     unfold ZcT at h
     split at h
     ·rename_i ho
      obtain ⟨a,h1,h2⟩:=Option.bind_eq_some_iff.1 h
      obtain ⟨b,h3,h4⟩:=Option.bind_eq_some_iff.1 h2
      cases h4
      have h0:fs[i0]? =some f:=hl' 0 f rfl
      have hlt:i0<fs.size:=by
       rcases Nat.lt_or_ge i0 fs.size with h|h
       ·exact h
       ·rw [Array.getElem?_eq_none (by omega)] at h0;cases h0
      have k:=hf i0 f h0
      rw [List.getElem?_eq_getElem (by omega),ho] at k
      obtain ⟨vz,p1,p2⟩:=Z1S m _ _ h1 _ _ _ k
      obtain ⟨bs,q1,q2⟩:=ih (o+P.cellsOf f.type) b (i0+1) h3 fun i g hg=>by
       have:=hl' (i+1) g hg
       rw [<-this];congr 1;omega
      refine ⟨vz++bs,p1.append q1, ?_⟩
      have e:cs.drop o=(cs.drop o).take (P.cellsOf f.type)++cs.drop (o+P.cellsOf f.type):=by
       rw [<-List.drop_drop,List.take_append_drop]
      rw [e]
      exact p2.append q2
     ·cases h
   obtain ⟨vz,h1,h2⟩:=key fs.toList 0 ts 0 ht fun i f h=>by simpa using h
   exact ⟨vz,h1,by simpa using h2⟩
  ·cases ht
def isAgg (P:Program) (t:TypeId):Bool:=match P.underlying t with
 | some (.struct _)|some (.array _ _)=>true
 | _=>false
inductive Z1l:Bool->List Ty->AV->Prop
 | agg (ts:List Ty) (vz:List AV) (h:Fits ts vz):Z1l true ts (.agg vz)
 | one (t:Ty) (a:AV) (h:Z1k t a):Z1l false [t] a
theorem ZcU {m:Nat} {t:TypeId} {ts:List Ty} (ht:Z1D P m t=some ts) (hg:isAgg P t=false) {v:Value} {r:Reach} {b:Nat} (hv:Value.okWide P w r b t v):
  v.cells.toList=[v]/\∃τ,ts=[τ]/\∀k n,τ≠.arr k n:=by
 cases m with
 | zero=>simp [Z1D] at ht
 | succ m=>
  unfold Z1D at ht
  unfold isAgg at hg
  split at ht
  ·rename_i hu;cases ht;obtain ⟨b,rfl⟩:=Go.WideShapes.okWide_bool hu hv;exact ⟨rfl,_,rfl,fun _ _ h=>by cases h⟩
  ·rename_i hu;cases ht;obtain ⟨b,rfl⟩:=Go.WideShapes.okWide_int hu hv;exact ⟨rfl,_,rfl,fun _ _ h=>by cases h⟩
  ·rename_i hu;cases ht;obtain ⟨b,rfl⟩:=Go.WideShapes.okWide_string hu hv;exact ⟨rfl,_,rfl,fun _ _ h=>by cases h⟩
  ·rename_i hu;simp [hu] at hg
  ·rename_i hu
   obtain ⟨a,l,c,rfl⟩:=Go.WideShapes.okWide_slice hu hv
   split at ht
   ·split at ht
    ·cases ht;exact ⟨rfl,_,rfl,fun _ _ h=>by cases h⟩
    ·cases ht
   ·obtain ⟨es,h1,h2⟩:=Option.bind_eq_some_iff.1 ht
    cases h2;exact ⟨rfl,_,rfl,fun _ _ h=>by cases h⟩
  ·rename_i hu;simp [hu] at hg
  ·cases ht
theorem ZcV {m:Nat} {t:TypeId} {ts:List Ty} {g:Bool} (ht:Z1D P m t=some ts) (hg:isAgg P t=g) {v:Value} {r:Reach} {b:Nat} (hv:Value.okWide P w r b t v) {d:DataW H} {ps:List MemPlace} (h:DataW.Trod enc P w 0 sp held t v d ps):
  ∃a,Z1l g ts a/\Zm (tE w) a v:=by
 obtain ⟨fuel,hf⟩:=h
 obtain ⟨vz,f1,f2⟩:=Z1S m _ _ ht _ _ _ hf
 cases g with
 | true=>
  have:∃cs,v=.agg cs:=by
   unfold isAgg at hg
   unfold Value.okWide at hv
   split at hg
   ·rename_i hu;simp only [hu] at hv;obtain ⟨cs,rfl,_⟩:=hv;exact ⟨cs,rfl⟩
   ·rename_i hu;simp only [hu] at hv;obtain ⟨cs,rfl,_⟩:=hv;exact ⟨cs,rfl⟩
   ·cases hg
  obtain ⟨cs,rfl⟩:=this
  refine ⟨.agg vz,.agg _ _ f1, ?_⟩
  have:cs=(Value.cells (.agg cs)).toList.toArray:=by simp [Value.cells]
  rw [this]
  exact .agg _ _ f2
 | false=>
  obtain ⟨h1,τ,rfl,h2⟩:=ZcU ht hg hv
  rw [h1] at f2
  cases f1 with
  | cons _ a _ vz f r=>
   cases r
   generalize hL:[v]=L at f2
   cases f2 with
   | one _ _ _ _ h0 h1 h t=>cases hL;exact ⟨_,.one _ _ f,h⟩
   | arr k n xs _ cs t=>cases f;exact absurd rfl (h2 _ _)
end
end Go.Tk
end
section
namespace Go.Tk
open IntKind (i64 u8 u32 u64 wrap)
open Go.ChangeShapes Go.WideShapes Go.RowKit
theorem ZiQ (w:World):Emb (tE w) ⟨0,[]⟩ w where
 fresh:=fun _ _=>rfl
 lt:=fun x B h=>by simp [Z9.get,ZN] at h
 own:=fun x B h=>by simp [Z9.get,ZN] at h
 disj:=fun x y B B' b N N' h=>absurd h (by simp [Z9.get,ZN])
 imm:=fun _ _ h=>h
 sep:=fun a c x B N _ h=>absurd h (by simp [Z9.get,ZN])
theorem Zn.topT {P:Program} {f:FuncId} {args:List AV} (h:Zn P f args ⟨0,[]⟩ fun o h'=>∃v,o=.ret v/\h'=⟨0,[]⟩/\v=.bool true) {w:World} {rs:List Value} (hl:ZJ (tE w) args rs):
  Calls P f rs.toArray w fun e w'=>e=.returned (.bool true)/\Go.RowKit.Below w.heap.size w w':=by
 refine (h (tE w) w rs (ZiQ w) hl).mono ?_
 rintro e w' ⟨E',o,h',⟨v,rfl,rfl,hv⟩,hev,hor⟩
 obtain rfl:=hv
 cases hor with
 | ret v r hr=>
  cases hr
  refine ⟨rfl,hev.os,hev.tape,hev.output.1,hev.size,fun k hk=>hev.keep k hk ?_⟩
  rintro ⟨x,B,N,hx,_⟩
  exact absurd hx (by simp [Z9.get,ZN])
def Z8o (P:Program) (m:Nat):List TypeId->Option (List (Bool×List Ty))
 | []=>some []
 | t::r=>(Z1D P m t).bind fun a=>(Z8o P m r).bind fun b=>some ((isAgg P t,a)::b)
inductive Z4r:List (Bool×List Ty)->List AV->Prop
 | nil:Z4r [] []
 | cons (g:Bool) (ts:List Ty) (a:AV) (r:List (Bool×List Ty)) (vz:List AV) (h:Z1l g ts a) (k:Z4r r vz):Z4r ((g,ts)::r) (a::vz)
section
variable {H:Type} {enc:TypeId×Value->H} {P:Program} {w:World}
theorem Z4s {m:Nat} {r:Reach} {b:Nat}:∀{ts:List TypeId} {τs:List (Bool×List Ty)} {vs:List Value} {ds:List (DataW H)} {ps:List MemPlace},Z8o P m ts=some τs->(∀(j:Nat) t v,ts[j]? =some t->vs[j]? =some v->Value.okWide P w r b t v)->
  DataW.TrodAll enc P w 0 (fun _=>true) true ts vs ds ps->∃vz,Z4r τs vz/\ZJ (tE w) vz vs
 | [],τs,vs,ds,ps,ha,_,h=>by
  cases ha
  obtain ⟨rfl,_,_⟩:=trodAll_nil h
  exact ⟨[],.nil,.nil⟩
 | t::ts,τs,vs,ds,ps,ha,hv,h=>by
  obtain ⟨a,h1,h2⟩:=Option.bind_eq_some_iff.1 ha
  obtain ⟨c,h3,h4⟩:=Option.bind_eq_some_iff.1 h2
  cases h4
  obtain ⟨v,vs',d,ds',p,q,rfl,rfl,rfl,k1,k2⟩:=trodAll_cons h
  obtain ⟨x,f1,f2⟩:=ZcV h1 rfl (hv 0 t v rfl rfl) k1
  obtain ⟨vz,g1,g2⟩:=Z4s h3 (fun j t' v' e1 e2=>hv (j+1) t' v' e1 e2) k2
  exact ⟨x::vz,.cons _ _ _ _ _ f1 g1,.cons _ _ _ _ f2 g2⟩
theorem Z1m {sp:Nat->Bool} {held:Bool}:∀{ts:List TypeId} {vs:List Value} {ds:List (DataW H)} {ps:List MemPlace},DataW.TrodAll enc P w 0 sp held ts vs ds ps->ds.length=ts.length
 | [],_,_,_,h=>by obtain ⟨_,rfl,_⟩:=trodAll_nil h;rfl
 | t::ts,_,_,_,h=>by
  obtain ⟨v,vs',d,ds',p,q,rfl,rfl,rfl,k1,k2⟩:=trodAll_cons h
  simp [Z1m k2]
theorem Z4t {W':World} (laid:laidOutB P=true) (hb:Below w.heap.size w W'):∀{ts:List TypeId} {vs:List Value} {ds:List (DataW H)} {ps:List MemPlace},ts.all (fun t=>P.readableRec t&&decide (t<P.types.size))=true->
  DataW.TrodAll enc P w 0 (fun _=>true) true ts vs ds ps->DataW.TrodAll enc P W' 0 (fun b=>decide (b<w.heap.size)) true ts vs ds ps
 | [],_,_,_,_,h=>by obtain ⟨rfl,rfl,rfl⟩:=trodAll_nil h;exact trodAll_mk0
 | t::ts,_,_,_,hr,h=>by
  obtain ⟨v,vs',d,ds',p,q,rfl,rfl,rfl,k1,k2⟩:=trodAll_cons h
  simp only [List.all_cons,Bool.and_eq_true,decide_eq_true_eq] at hr
  have lt:∀x∈p,x.block<w.heap.size:=by obtain ⟨m,hm⟩:=k1;exact DataW.trod_lt m _ _ _ hm
  exact trodAll_cons_mk (Below.trod laid hr.1.1 hr.1.2 k1 hb lt) (Z4t laid hb hr.2 k2)
end
theorem lifted_gen {H:Type} {enc:TypeId×Value->H} {C:Checked} {os:Os} {f:FuncId} {fn:Func} {s:ChangeSpec} {conds:List PathCond} {tb:TypeId} {m:Nat} {τs:List (Bool×List Ty)}
  (own:ownKnob C.prog.godebug=none) (laid:laidOutB C.prog=true) (started:os.Started) (noInit:C.prog.inits.idxOf? f=none) (hfn:C.prog.funcs[f]? =some fn)
  (witness:∃(w:World) (tape:Tape) (i:Input),w.os=os/\(w.forCall tape i).Shaped C.prog/\i.vars=[]/\Input.okWide C.prog (w.forCall tape i) .any w.heap.size f i/\
   s.pre6 enc C.prog fn conds false (w.forCall tape i).memory i.args/\({}:Assume).holds C.prog (lone (Frame.enter C.prog f i.args .normal) [] (w.forCall tape i)))
  (hvars:s.vars=[]) (hr:fn.resultTypes= #[tb]) (hb:C.prog.underlying tb=some .bool) (hread:fn.params.toList.all (fun t=>C.prog.readableRec t&&decide (t<C.prog.types.size))=true) (hτ:Z8o C.prog m fn.params.toList=some τs)
  (hs:∀ds:List (DataW H),ds.length=fn.params.toList.length->s.fn H ds={ results:=[.lit (.bool true)],args:=ds})
  (walk:∀vz,Z4r τs vz->Zn C.prog f vz ⟨0,[]⟩ fun o h'=>∃v,o=.ret v/\h'=⟨0,[]⟩/\v=.bool true):
  ReturnsInHanded {} C os f .any (s.pre6 enc C.prog fn conds false) (s.post enc C.prog fn false true false false):=by
 refine returnsInHanded_of_change own started noInit hfn witness ?_
 intro W base args ds gs before hval hW _ _
 have hW':=hW
 obtain ⟨p,q,hA,hV,rfl,hfz,hnd⟩:=hW
 have hV0:=hV
 rw [hvars] at hV
 obtain ⟨rfl,rfl⟩:=trodVars_none hV
 obtain ⟨vz,f1,f2⟩:=Z4s hτ (fun j t v e1 e2=>hval j t v (by simpa using e1) (by simpa using e2)) hA
 have e0:args=args.toList.toArray:=by simp
 have key:=(walk vz f1).topT f2
 rw [<-e0] at key
 refine key.mono fun e W' ⟨he,bel⟩=> ?_
 subst he
 have hfn':=hs ds (Z1m hA)
 refine ⟨_,rfl,ds,[],_,[],p,[],hW', ?_, ?_, ?_,bel.frame _,fun h=>by cases h⟩
 ·rw [List.append_nil,hfn',hr]
  exact trodAll_mk1 (shut_bool hb _)
 ·rw [List.append_nil,hfn']
  exact Z4t laid bel hread hA
 ·rw [List.append_nil,hfn',hvars]
  rfl
end Go.Tk
end
section
namespace Go.Tk
open IntKind (i64 u8 u32 u64 wrap)
def Z5r (P:Program) (f:FuncId) (id:Nat):Bool:=match P.funcs[f]? with
 | some fn=>match fn.body with
  | some b=>match VZ id (Zz b) with|[_]=>true|_=>false
  | none=>false
 | none=>false
theorem ZaY {P:Program} {f:FuncId} {id:Nat} (h:Z5r P f id=true) {fn:Func} {body c:Code} (hf:P.funcs[f]? =some fn) (hb:fn.body=some body) (hm:(id,c)∈Zz body):c=Vc P f id:=by
 have hc:=Vb hm
 simp only [Z5r,hf,hb] at h
 split at h
 ·rename_i d hd
  have hbo:QO P f=body:=by simp [QO,hf,hb]
  have hbl:Vc P f id=d:=by unfold Vc;rw [hbo,hd]
  rw [hd] at hc
  rw [List.mem_singleton] at hc
  rw [hbl];exact hc
 ·cases h
@[irreducible] def Z6E (G:Zh) (n:Nat) (f:FuncId) (id:Nat) (k:Nat) (s:St) (X:KE):Prop:=evC G (Z3S G n f none) k (Vc G.P f id) s X
end Go.Tk
end
section
namespace Go.Tk
open IntKind (i64 u8 u32 u64 wrap)
theorem w8m (x:Int) (h:0<=x):u8.wrap (Int.tmod x 256)=u8.wrap x:=by
 rw [tm h]
 unfold wrap
 simp [IntKind.bits,IntKind.signed]
theorem Zfz {n k:Int} (h:0<=n):0<=Zw .i64 n k:=by
 unfold Zw
 rw [Int.fdiv_eq_ediv_of_nonneg _ (by exact Int.le_of_lt (Int.pow_pos (by decide)))]
 exact Int.ediv_nonneg h (by exact Int.le_of_lt (Int.pow_pos (by decide)))
theorem b8m {n k:Int} (h:0<=n):u8.wrap (Int.tmod (Zw .i64 n k) 256)=b8 n k:=w8m _ (Zfz h)
theorem ZiR (n:Int) (ys:List Int) (L:Nat) (hn:0<=n) (hy:ys=Zq n) (hL:L=ys.length):
  evF G0 20 123 [.int .i64 n] ⟨0,[]⟩ (ZX 0 (.ret (.nslice ⟨0,0,0,0,0⟩ 1 L L)) 1 [(0,.ints .u8 ys)]):=by
 refine @Eq.mpr _ (let q1:=[wrap u8 (Int.tmod (Zw i64 n 8) 256),wrap u8 (Int.tmod (Zw i64 n 0) 256)];let q2:=wrap u8 (Int.tmod (Zw i64 n 24) 256)::wrap u8 (Int.tmod (Zw i64 n 16) 256)::q1;
 Z0 (decide (n<253)) (Z0 (decide (1=L)) (Z0 (decide (L<=1)) ([wrap u8 n]=ys/\True) False) False) (Z0 (decide (n<65536)) (Z0 (decide (3=L)) (Z0 (decide (L<=3)) ((253:Int)::q1=ys/\True) False) False) (Z0 (decide (n<4294967296)) (Z0 (decide (5=L)) (Z0 (decide (L<=5)) ((254:Int)::q2=ys/\True) False) False) (Z0 (decide (9=L)) (Z0 (decide (L<=9)) ((255:Int)::wrap u8 (Int.tmod (Zw i64 n 56) 256)::wrap u8 (Int.tmod (Zw i64 n 48) 256)::wrap u8 (Int.tmod (Zw i64 n 40) 256)::wrap u8 (Int.tmod (Zw i64 n 32) 256)::q2=ys/\True) False) False)))) (by kernel_rfl) ?_
 conv=>zeta
 try simp only [Zi]
 try simp only [Zj]
 try simp only [Zf]
 try simp only [Zk]
 try simp only [Zl]
 try simp only [Zg]
 try simp only [Int.toNat_natCast,Nat.zero_add,true_and,and_true,Nat.le_refl]
 subst hy hL
 refine ⟨fun h1=> ?_,fun h1=>⟨fun h2=> ?_,fun h2=>⟨fun h3=> ?_,fun h3=> ?_⟩⟩⟩
 ·rw [Z9u h1];simp
 ·rw [ZcE h1 h2];simp [b8m hn]
 ·rw [ZcF h1 h2 h3];simp [b8m hn]
 ·rw [ZcG h1 h2 h3];simp [b8m hn]
def Z9v (W:Int->List Int):Y8:=fun args h K=>match args with
 | [.int .i64 n]=>Zx (0<=n) (K (.ret (.nslice ⟨h.next,0,0,0,0⟩ 1 (W n).length (W n).length)) ⟨h.next+1,(h.next,.ints .u8 (W n))::h.bs⟩)
 | _=>False
theorem Z6F (args:List AV) (h:Z9) (K:KO) (hl:Z9v Zq args h K):Zn PP 123 args h K:=by
 unfold Z9v at hl
 split at hl
 ·obtain ⟨hn,hK⟩:=Ze hl
  exact (ZA.evM Zu (ZiR _ _ _ hn rfl rfl)).calls (fun E w rs he hr=>by
   cases hr with
   | cons v r vs rs h1 h2=>cases h2;exact .cons _ _ _ _ (h1.plain rfl) .nil) rfl ⟨Nat.one_pos,.ints _ _,trivial⟩ hK
 ·exact hl.elim
noncomputable def E30 (W:Int->List Int):Zh:=G0.withF 123 (Z9v W)
theorem ZiS:(E30 Zq).Ok:=Zh.withF_ok Zu Z6F
def V2:Nat->List Int->Nat->Int->Int
 | 0,_,_,n=>n
 | m+1,xs,k,n=>V2 m xs (k+1) (256*n+xs.getD k 0)
structure Bytes (xs:List Int):Prop where
 h:∀i:Nat,0<=xs.getD i 0/\xs.getD i 0<=255
theorem Bytes.drop {xs:List Int} (h:Bytes xs) (n:Nat):Bytes (xs.drop n):=⟨fun i=>by
 have:=h.h (n+i)
 rw [List.getD_eq_getElem?_getD] at this
 rw [List.getD_eq_getElem?_getD,List.getElem?_drop]
 exact this⟩
theorem ZcW {x:Int} (h:0<=x/\x<18446744073709551616):u64.wrap x=x:=by
 unfold wrap
 simp [IntKind.bits,IntKind.signed]
 omega
def inZ:InS:=⟨Za,0,0,Za,Za,Za⟩
def Zmq:Z0T:=⟨0,0,Za,Za,Za,Za,0,0⟩
end Go.Tk
end
section
namespace Go.Tk
open IntKind (i64 u8 u32 u64 wrap)
theorem ZcX {n c:Int} (h0:0<=n) (h1:n<36028797018963968) (h2:0<=c) (h3:c<=255):Z1j n c=256*n+c:=by
 unfold Z1j bOr ZI
 have e1:(n*2^(min (8:Int).toNat i64.bits))=n*256:=by simp [IntKind.bits]
 rw [e1,w64 (x:=n*256) (by omega)]
 obtain ⟨a,rfl⟩:=Int.eq_ofNat_of_zero_le h0
 obtain ⟨b,rfl⟩:=Int.eq_ofNat_of_zero_le h2
 have e2:((BitVec.ofInt i64.bits ((a:Int)*256))|||(BitVec.ofInt i64.bits (b:Int))).toNat=256*a+b:=by
  have ea:BitVec.ofInt 64 ((a:Int)*256)=BitVec.ofNat 64 (a*256):=by
   rw [<-BitVec.ofInt_natCast];rfl
  have eb:BitVec.ofInt 64 (b:Int)=BitVec.ofNat 64 b:=BitVec.ofInt_natCast 64 b
  show (BitVec.ofInt 64 ((a:Int)*256)|||BitVec.ofInt 64 (b:Int)).toNat=_
  rw [ea,eb,BitVec.toNat_or,BitVec.toNat_ofNat,BitVec.toNat_ofNat,Nat.mod_eq_of_lt (by omega),Nat.mod_eq_of_lt (by omega)]
  have:=Nat.shiftLeft_add_eq_or_of_lt (a:=a) (b:=b) (i:=8) (by omega)
  rw [Nat.shiftLeft_eq] at this
  rw [<-this];omega
 rw [e2,w64 (by omega)]
 omega
theorem Z8p {c:Int} (h2:0<=c) (h3:c<=255):Z1j 36028797018963968 c<0:=by
 have h:∀b:Fin 256,Z1j 36028797018963968 (b.val:Int)<0:=by decide+kernel
 have:=h ⟨c.toNat,by omega⟩
 have e:((c.toNat:Nat):Int)=c:=Int.toNat_of_nonneg h2
 rw [show ((⟨c.toNat,by omega⟩:Fin 256).val:Int)=c from e] at this
 exact this
theorem Z1T:∀(m:Nat) (xs:List Int) (k:Nat) (n:Int),Bytes xs->0<=n->n*256^m<=V2 m xs k n
 | 0,xs,k,n,hb,hn=>by simp [V2]
 | m+1,xs,k,n,hb,hn=>by
  have hc:=hb.h k
  have:=Z1T m xs (k+1) (256*n+xs.getD k 0) hb (by omega)
  unfold V2
  refine Int.le_trans ?_ this
  rw [Int.pow_succ,Int.mul_comm (256^m) 256,<-Int.mul_assoc]
  exact Int.mul_le_mul_of_nonneg_right (by omega) (Int.le_of_lt (Int.pow_pos (by decide)))
theorem ZcY {a b:Nat} (h:a<=b):(256:Int)^a<=256^b:=by
 have h1:=Nat.pow_le_pow_right (n:=256) (by decide) h
 have h2:((256^a:Nat):Int)<=((256^b:Nat):Int):=Int.ofNat_le.2 h1
 rw [Int.natCast_pow,Int.natCast_pow] at h2
 exact h2
theorem Zke (m:Nat):(1:Int)<=256^m:=Int.pow_pos (by decide)
theorem Z9w:∀(m:Nat) (xs:List Int) (k:Nat) (n:Int),Bytes xs->0<=n->m<=8->n<256^(8-m)->
  (goN m xs k n=none/\V2 m xs k n>4611686018427387904)\/(∃v,goN m xs k n=some v/\((v=V2 m xs k n/\0<=v)\/(v<0/\V2 m xs k n>4611686018427387904)))
 | 0,xs,k,n,hb,hn,hm,hl=>.inr ⟨n,rfl,.inl ⟨rfl,hn⟩⟩
 | m+1,xs,k,n,hb,hn,hm,hl=>by
  have hc:=hb.h k
  have hge:=Z1T (m+1) xs k n hb hn
  by_cases h1:n>36028797018963968
  ·left
   refine ⟨by unfold goN;rw [if_pos h1], ?_⟩
   have:=Zke m
   rw [Int.pow_succ] at hge
   have h2:n*(1*256)<=n*(256^m*256):=Int.mul_le_mul_of_nonneg_left (Int.mul_le_mul_of_nonneg_right this (by decide)) hn
   omega
  ·unfold goN V2
   rw [if_neg h1]
   have hw:i64.wrap (xs.getD k 0)=xs.getD k 0:=w64 (by omega)
   rw [hw]
   by_cases h2:n=36028797018963968
   ·subst h2
    have hm0:m=0:=by
     have hq:(36028797018963968:Int)=256^6*128:=by decide
     rcases Nat.eq_zero_or_pos m with h|h
     ·exact h
     ·exfalso
      have hle:(256:Int)^(8-(m+1))<=256^6:=ZcY (by omega)
      have:(256:Int)^6=281474976710656:=by decide
      omega
    subst hm0
    right
    refine ⟨_,rfl,.inr ⟨Z8p hc.1 hc.2, ?_⟩⟩
    show 256*36028797018963968+xs.getD k 0>_
    omega
   ·rw [ZcX hn (by omega) hc.1 hc.2]
    refine Z9w m xs (k+1) _ hb (by omega) (by omega) ?_
    have e:8-m=(8-(m+1))+1:=by omega
    rw [e,Int.pow_succ]
    omega
theorem Z4u {xs:List Int} (hb:Bytes xs) {m:Nat} (h:xs.length≠0) (hm:X7 (xs.getD 0 0)=m) (hm0:m≠0) (h8:m<=8) (hl:m<xs.length):
  Zo Zq xs=if V2 m xs 1 0>4611686018427387904 then ((0:Int),(-1:Int)) else if (Zq (V2 m xs 1 0)).length=1+m then (V2 m xs 1 0,1+(m:Int)) else ((0:Int),(-1:Int)):=by
 rw [VK h hm hm0 hl]
 have hv:∀(m k:Nat) (n:Int),V2 m (xs.drop 1) k n=V2 m xs (k+1) n:=by
  intro m
  induction m with
  | zero=>intro k n;rfl
  | succ m ih=>
   intro k n
   unfold V2
   rw [ih]
   congr 2
   rw [List.getD_eq_getElem?_getD,List.getD_eq_getElem?_getD,List.getElem?_drop,Nat.add_comm]
 have hv:=hv m 0 0
 rcases Z9w m (xs.drop 1) 0 0 (hb.drop 1) (by decide) h8 (Zke _) with ⟨h1,h2⟩|⟨v,h1,h2⟩
 ·rw [h1,if_pos (by rw [<-hv];exact h2)]
 ·rw [h1]
  rcases h2 with ⟨rfl,h0⟩|⟨h0,h2⟩
  ·rw [hv]
  ·show (if v>4611686018427387904 then ((0:Int),(-1:Int)) else if (Zq v).length=1+m then (v,1+(m:Int)) else (0, -1))=_
   rw [if_neg (by omega),if_neg,if_pos (by rw [<-hv];exact h2)]
   rw [Z9u (by omega)]
   simp
   omega
theorem Z34 {n c:Int} (h0:0<=n) (h1:n<72057594037927936) (h2:0<=c/\c<=255):u64.wrap (u64.wrap (256*n)+u64.wrap c)=256*n+c:=by
 rw [ZcW (x:=c) (by omega),ZcW (x:=256*n) (by omega),ZcW (by omega)]
theorem ZiT {c:Int} (h2:0<=c/\c<=255):u64.wrap (0+u64.wrap c)=256*0+c:=by
 rw [ZcW (x:=c) (by omega),ZcW (by omega)];omega
theorem Wc {xs:List Int} {F:Int×Int} (hb:Bytes xs) {m:Nat} {M:Int} (hF:F=Zo Zq xs) (hM:M=1+m) (h:xs.length≠0) (hm:X7 (xs.getD 0 0)=m) (hm0:m≠0) (h8:m<=8) (hl:m<xs.length):
  (V2 m xs 1 0>4611686018427387904->0=F.1/\ -1=F.2)/\(¬V2 m xs 1 0>4611686018427387904->0<=i64.wrap (V2 m xs 1 0)/\
   ((((Zq (i64.wrap (V2 m xs 1 0))).length:Int) !=M)=true->0=F.1/\ -1=F.2)/\((((Zq (i64.wrap (V2 m xs 1 0))).length:Int) !=M)=false->i64.wrap (V2 m xs 1 0)=F.1/\M=F.2)):=by
 have he:=Z4u hb h hm hm0 h8 hl
 have hge:=Z1T m xs 1 0 hb (by decide)
 rw [Int.zero_mul] at hge
 generalize V2 m xs 1 0=V at*
 subst hM
 rw [hF,he]
 refine ⟨fun h1=>by rw [if_pos h1];exact ⟨rfl,rfl⟩,fun h1=> ?_⟩
 rw [w64 (x:=V) (by omega)]
 refine ⟨hge,fun h2=> ?_,fun h2=> ?_⟩
 ·rw [bne_iff_ne] at h2
  rw [if_neg h1,if_neg (by omega)]
  exact ⟨rfl,rfl⟩
 ·rw [bne_eq_false_iff_eq] at h2
  rw [if_neg h1,if_pos (by omega)]
  exact ⟨rfl,rfl⟩
theorem ZcZ (W:Int->List Int) (xs:List Int) (N:Nat) (F:Int×Int) (hN:xs.length=N) (hW:W=Zq) (hb:Bytes xs) (hF:F=Zo Zq xs):
  evF (E30 W) 20 196 [.vints .u8 xs N] ⟨0,[]⟩ (ZX 0 (.ret (.tuple [.int .i64 F.1,.int .i64 F.2])) 0 []):=by
 refine @Eq.mpr _ (let q1:=decide (0=F.fst);let q2:=Z0 q1 (Z0 (decide (0=F.snd)) True False) False;let q3:=decide ((0:Int)<=0/\0<(↑N:Int));let q4:=List.getD xs 0 0;let q5:=q4==255;let q6:=decide ((0:Int)<=1/\1<(↑N:Int));let q7:=decide ((0:Int)<=2/\2<(↑N:Int));let q8:=decide ((0:Int)<=3/\3<(↑N:Int));let q9:=decide ((0:Int)<=4/\4<(↑N:Int));let q10:=wrap u64 (wrap u64 (256*wrap u64 (0+wrap u64 (List.getD xs 1 0)))+wrap u64 (List.getD xs 2 0));let q11:=wrap u64 (wrap u64 (256*wrap u64 (wrap u64 (256*q10)+wrap u64 (List.getD xs 3 0)))+wrap u64 (List.getD xs 4 0));let q12:=wrap u64 (wrap u64 (256*wrap u64 (wrap u64 (256*wrap u64 (wrap u64 (256*wrap u64 (wrap u64 (256*q11)+wrap u64 (List.getD xs 5 0)))+wrap u64 (List.getD xs 6 0)))+wrap u64 (List.getD xs 7 0)))+wrap u64 (List.getD xs 8 0));let q13:=Z0 q1 (Z0 (decide (-1=F.snd)) True False) False;let q14:=wrap i64 q12;let q15:=Z0 (decide ((↑N:Int)<9)) q2 (Z0 q6 (Z0 q7 (Z0 q8 (Z0 q9 (Z0 (decide ((0:Int)<=5/\5<(↑N:Int))) (Z0 (decide ((0:Int)<=6/\6<(↑N:Int))) (Z0 (decide ((0:Int)<=7/\7<(↑N:Int))) (Z0 (decide ((0:Int)<=8/\8<(↑N:Int))) (Z0 (decide (q12>4611686018427387904)) q13 (Z0 (decide (0<=q14)) (Z0 ((↑(List.length (W q14)):Int) !=9) q13 (Z0 (decide (q14=F.fst)) (Z0 (decide (9=F.snd)) True False) False)) False)) False) False) False) False) False) False) False) False);let q16:=wrap i64 q11;let q17:=wrap i64 q10;
 Z0 ((↑N:Int)==0) q2 (Z0 q3 (Z0 (decide (q4<253)) (Z0 q3 (Z0 (decide (wrap i64 q4=F.fst)) (Z0 (decide (1=F.snd)) True False) False) False) (Z0 q3 (Z0 (q4==254) (Z0 q3 (Z0 q5 q15 (Z0 (decide ((↑N:Int)<5)) q2 (Z0 q6 (Z0 q7 (Z0 q8 (Z0 q9 (Z0 (decide (q11>4611686018427387904)) q13 (Z0 (decide (0<=q16)) (Z0 ((↑(List.length (W q16)):Int) !=5) q13 (Z0 (decide (q16=F.fst)) (Z0 (decide (5=F.snd)) True False) False)) False)) False) False) False) False))) False) (Z0 q3 (Z0 q5 q15 (Z0 (decide ((↑N:Int)<3)) q2 (Z0 q6 (Z0 q7 (Z0 (decide (q10>4611686018427387904)) q13 (Z0 (decide (0<=q17)) (Z0 ((↑(List.length (W q17)):Int) !=3) q13 (Z0 (decide (q17=F.fst)) (Z0 (decide (3=F.snd)) True False) False)) False)) False) False))) False)) False)) False)) (by kernel_rfl) ?_
 conv=>zeta
 try simp only [Zi]
 try simp only [Zj]
 try simp only [Zf]
 try simp only [Zk]
 try simp only [Zl]
 try simp only [Zg]
 try simp only [Int.toNat_natCast,Nat.zero_add,true_and,and_true,Nat.le_refl]
 subst hN hW
 refine ⟨fun h0=> ?_,fun h0=> ?_⟩
 ·rw [hF,U1 (by simp at h0;simp [h0])];exact ⟨rfl,rfl⟩
 have h0:xs.length≠0:=by simp at h0;intro h;rw [List.length_eq_zero_iff] at h;exact h0 h
 have c0:=hb.h 0
 have c1:=hb.h 1
 have c2:=hb.h 2
 have c3:=hb.h 3
 have c4:=hb.h 4
 have c5:=hb.h 5
 have c6:=hb.h 6
 have c7:=hb.h 7
 have c8:=hb.h 8
 have e1:=ZiT c1
 have e2:=Z34 (n:=256*0+xs.getD 1 0) (by omega) (by omega) c2
 have e3:=Z34 (n:=256*(256*0+xs.getD 1 0)+xs.getD 2 0) (by omega) (by omega) c3
 have e4:=Z34 (n:=256*(256*(256*0+xs.getD 1 0)+xs.getD 2 0)+xs.getD 3 0) (by omega) (by omega) c4
 have e5:=Z34 (n:=256*(256*(256*(256*0+xs.getD 1 0)+xs.getD 2 0)+xs.getD 3 0)+xs.getD 4 0) (by omega) (by omega) c5
 have e6:=Z34 (n:=256*(256*(256*(256*(256*0+xs.getD 1 0)+xs.getD 2 0)+xs.getD 3 0)+xs.getD 4 0)+xs.getD 5 0) (by omega) (by omega) c6
 have e7:=Z34 (n:=256*(256*(256*(256*(256*(256*0+xs.getD 1 0)+xs.getD 2 0)+xs.getD 3 0)+xs.getD 4 0)+xs.getD 5 0)+xs.getD 6 0) (by omega) (by omega) c7
 have e8:=Z34 (n:=256*(256*(256*(256*(256*(256*(256*0+xs.getD 1 0)+xs.getD 2 0)+xs.getD 3 0)+xs.getD 4 0)+xs.getD 5 0)+xs.getD 6 0)+xs.getD 7 0) (by omega) (by omega) c8
 rw [e1,e2,e3,e4,e5,e6,e7,e8]
 have hl0:(0:Int)<=0/\(0:Int)<(xs.length:Int):=by omega
 refine ⟨hl0,fun a1=>⟨hl0, ?_⟩,fun a1=>⟨hl0,fun a2=>⟨hl0,fun a3=> ?_,fun a3=> ?_⟩,fun a2=>⟨hl0,fun a3=> ?_,fun a3=> ?_⟩⟩⟩
 ·rw [hF,U2 h0 (ZhI (by omega) (by omega) (by omega))];exact ⟨rfl,rfl⟩
 ·simp at a2 a3;omega
 ·have a2:xs.getD 0 0=254:=by simpa using a2
  have hm:=ZcL (by omega) a2
  refine ⟨fun l=> ?_,fun l=> ?_⟩
  ·rw [hF,X8 h0 hm (by decide) (by omega)];exact ⟨rfl,rfl⟩
  ·and_intros
   all_goals first|omega|skip
   all_goals first|exact (Wc hb hF rfl h0 hm (by decide) (by decide) (by omega)).1|exact (Wc hb hF rfl h0 hm (by decide) (by decide) (by omega)).2
 ·have a3:xs.getD 0 0=255:=by simpa using a3
  have hm:=ZcM (by omega) (by omega) a3
  refine ⟨fun l=> ?_,fun l=> ?_⟩
  ·rw [hF,X8 h0 hm (by decide) (by omega)];exact ⟨rfl,rfl⟩
  ·and_intros
   all_goals first|omega|skip
   all_goals first|exact (Wc hb hF rfl h0 hm (by decide) (by decide) (by omega)).1|exact (Wc hb hF rfl h0 hm (by decide) (by decide) (by omega)).2
 ·have a2:xs.getD 0 0≠254:=by simpa using a2
  have a3:xs.getD 0 0≠255:=by simpa using a3
  have hm:=ZcK (c:=xs.getD 0 0) (by omega)
  refine ⟨fun l=> ?_,fun l=> ?_⟩
  ·rw [hF,X8 h0 hm (by decide) (by omega)];exact ⟨rfl,rfl⟩
  ·and_intros
   all_goals first|omega|skip
   all_goals first|exact (Wc hb hF rfl h0 hm (by decide) (by decide) (by omega)).1|exact (Wc hb hF rfl h0 hm (by decide) (by decide) (by omega)).2
def Z9x (F:List Int->Int×Int):ZK:=fun args h K=>ZP none h true 20 args fun a=>match a with
 | [.vints .u8 xs n]=>(xs.length=n/\Bytes xs)/\K (.tuple [.int .i64 (F xs).1,.int .i64 (F xs).2])
 | _=>False
theorem Z8q (args:List AV) (h:Z9) (K:AV->Prop) (hl:Z9x (Zo Zq) args h K):Zn PP 196 args h fun o h'=>∃v,o=.ret v/\h'=h/\K v:=by
 refine ZA.psumm (d:=20) (Zs _ _ _ _ _ hl fun a ha=> ?_)
 split at ha
 ·obtain ⟨⟨h1,h2⟩,hK⟩:=ha
  exact ⟨_,.evM ZiS (ZcZ _ _ _ _ h1 rfl h2 rfl),fun _=>rfl,hK⟩
 ·exact ha.elim
end Go.Tk
end
section
namespace Go.Tk
open IntKind (i64 u8 u32 u64 wrap)
noncomputable def E32 (F:List Int->Int×Int):Zh:=G0.withP 196 (Z9x F)
theorem Z8r:(E32 (Zo Zq)).Ok:=Zh.withP_ok Zu Z8q
def ZfA (Q:List Int->Nat->Bool->Int->Prop):AV->Prop:=fun u=>match u with
 | .tuple [.agg [.vints .u8 ys n,.bool b],.int .i64 v]=>Q ys n b v
 | _=>False
def Z9y (Q:List Int->Nat->Bool->List Int->Prop):AV->Prop:=fun u=>match u with
 | .tuple [.agg [.vints .u8 ys n,.bool b],.agg [.arr .u8 32 h]]=>Q ys n b h
 | _=>False
theorem Zkf (F:List Int->Int×Int) (ys:List Int) (n:Nat) (most:Int) (Q:List Int->Nat->Bool->Int->Prop) (hn:ys.length=n) (hb:Bytes ys) (hm:0<=most) (hF:∀ys,(F ys).2<=ys.length) (h1:0<(F ys).2/\(F ys).1<=most->Q (ys.drop (F ys).2.toNat) (n-(F ys).2.toNat) false (F ys).1) (h2:¬(0<(F ys).2/\(F ys).1<=most)->Q ys n true 0):
  evF (E32 F) 20 121 [.agg [.vints .u8 ys n,.bool false],.int .i64 most] ⟨0,[]⟩ (Y4 (ZfA Q)):=by
 refine @Eq.mpr _ (let q1:=(F ys).snd;let q2:=some (Int.toNat q1);
 Z0 (decide (most<0)) (Q ys n false 0) ((List.length ys=n/\Bytes ys)/\Z0 (decide (q1<=0)) (Q ys n true 0) (Z0 (decide ((F ys).fst>most)) (Q ys n true 0) (Z0 (decide (n<=List.length ys)) (Z0 (decide (0<=q1/\q1<= ↑n)) (Q (WK q2 ys) (WL n q2) false (F ys).fst) False) False)))) (by kernel_rfl) ?_
 conv=>zeta
 try simp only [Zi]
 try simp only [Zj]
 try simp only [Zf]
 try simp only [Zk]
 try simp only [Zl]
 try simp only [Zg]
 try simp only [Int.toNat_natCast,Nat.zero_add,true_and,and_true,Nat.le_refl]
 have hle:=hF ys
 refine ⟨fun h=>(by omega),fun _=>⟨⟨hn,hb⟩,fun h=>h2 (by omega),fun h=>⟨fun h3=>h2 (by omega),fun h3=>⟨by omega,⟨by omega,by omega⟩,h1 ⟨by omega,by omega⟩⟩⟩⟩⟩
theorem Zkg (F:List Int->Int×Int) (ys:List Int) (n:Nat) (most:Int) (Q:List Int->Nat->Bool->Int->Prop) (h2:Q ys n true 0):
  evF (E32 F) 20 121 [.agg [.vints .u8 ys n,.bool true],.int .i64 most] ⟨0,[]⟩ (Y4 (ZfA Q)):=by
 refine @Eq.mpr _ (Q ys n true 0) (by kernel_rfl) ?_
 exact h2
theorem Zkh (ys:List Int) (n:Nat) (Q:List Int->Nat->Bool->List Int->Prop) (hn:ys.length=n) (h1:32<=n->Q (ys.drop 32) (n-32) false (ys.take 32)) (h2:n<32->Q ys n true Za):
  evF G0 20 120 [.agg [.vints .u8 ys n,.bool false]] ⟨0,[]⟩ (Y4 (Z9y Q)):=by
 refine @Eq.mpr _ (let q1:=decide (n<=List.length ys);let q2:=decide ((0:Int)<=32/\32<=(↑(List.length ys):Int));let q3:=WK none ys;let q4:=spl Za 0 (List.take 32 (List.take 32 q3));let q5:=q4=q4;
 Z0 (decide (32>(↑n:Int))) (Za=Za/\Q ys n true Za) (Z0 q1 (Z0 (decide ((0:Int)<=32/\32<=(↑n:Int))) (Z0 q1 (Z0 q2 (Z0 q1 (Z0 q2 (q3=q3/\ys=ys/\Z0 (decide (n=n)) (q5/\q5/\Q (WK (some 32) ys) (WL n (some 32)) false q4) False) False) False) False) False) False) False)) (by kernel_rfl) ?_
 conv=>zeta
 try simp only [Zi]
 try simp only [Zj]
 try simp only [Zf]
 try simp only [Zk]
 try simp only [Zl]
 try simp only [Zg]
 try simp only [Int.toNat_natCast,Nat.zero_add,true_and,and_true,Nat.le_refl]
 subst hn
 refine ⟨fun h=>h2 (by omega),fun h=> ?_⟩
 have hl:(ys.take 32).length=32:=by rw [List.length_take];omega
 have hd:List.take 32 (List.take 32 (WK none ys))=ys.take 32:=by rw [show WK none ys=ys from rfl,List.take_take];rfl
 have hs:spl Za 0 (ys.take 32)=ys.take 32:=by
  unfold spl
  rw [List.take_zero,List.nil_append,hl]
  simp [Za]
 rw [hd,hs]
 have:=h1 (by omega)
 and_intros<;>first|trivial|rfl|omega|exact this
theorem Zki (ys:List Int) (n:Nat) (Q:List Int->Nat->Bool->List Int->Prop) (h2:Q ys n true Za):
  evF G0 20 120 [.agg [.vints .u8 ys n,.bool true]] ⟨0,[]⟩ (Y4 (Z9y Q)):=by
 refine @Eq.mpr _ (Za=Za/\Q ys n true Za) (by kernel_rfl) ?_
 exact ⟨rfl,h2⟩
def Zd0 (v:Int) (K:Int->Prop):Nat->Prop
 | 0=>v=0->K 0
 | m+1=>Zd0 v K m/\(v=((m+1:Nat):Int)->K ((m+1:Nat):Int))
theorem Z6G {v:Int} {K:Int->Prop}:∀{m:Nat},Zd0 v K m->0<=v->v<=m->K v
 | 0,h,h0,h1=>by
  have:v=0:=by omega
  subst this
  exact h rfl
 | m+1,h,h0,h1=>by
  by_cases hv:v=((m+1:Nat):Int)
  ·subst hv;exact h.2 rfl
  ·exact Z6G h.1 h0 (by omega)
theorem Z8s {xs:List Int} (hb:Bytes xs):0<=(Zo Zq xs).1:=by
 by_cases h0:xs.length=0
 ·rw [U1 h0];exact Int.le_refl 0
 by_cases hm:X7 (xs.getD 0 0)=0
 ·rw [U2 h0 hm]
  have:=hb.h 0
  show 0<=i64.wrap _
  rw [w64 (by omega)];omega
 by_cases hl:xs.length<=X7 (xs.getD 0 0)
 ·rw [X8 h0 rfl hm hl];exact Int.le_refl 0
 have h8:X7 (xs.getD 0 0)<=8:=by unfold X7;split<;>(try split)<;>(try split)<;>omega
 rw [Z4u hb h0 rfl hm h8 (by omega)]
 have hge:=Z1T (X7 (xs.getD 0 0)) xs 1 0 hb (by decide)
 split
 ·exact Int.le_refl 0
 ·split
  ·show 0<=V2 _ _ _ _;omega
  ·exact Int.le_refl 0
def small (most:Int) (v:Int) (K:Int->Prop):Prop:=match decide (0<=most/\most<=6) with
 | true=>Zd0 v K most.toNat
 | false=>K v
theorem Zd1 {most v:Int} {K:Int->Prop} (h:small most v K) (h0:0<=v) (h1:v<=most):K v:=by
 unfold small at h
 split at h
 ·rename_i hd
  have:=of_decide_eq_true hd
  exact Z6G h h0 (by omega)
 ·exact h
def Zd2 (F:List Int->Int×Int):ZK:=fun args _ K=>match args with
 | [.agg [.top,.bool true],.int .i64 _]=>K (.tuple [.agg [.top,.bool true],.int .i64 0])
 | [.agg [.vints .u8 ys n,.bool b],.int .i64 most]=>match b with
  | true=>K (.tuple [.agg [.vints .u8 ys n,.bool true],.int .i64 0])
  | false=>∃xs o,ys=xs.drop o/\(n=xs.length-o/\o<=xs.length/\Bytes xs/\0<=most)/\
   (∀v p,rdN F xs o most=some (v,p)->(o<=p/\p<=xs.length/\0<=v/\v<=most)->small most v fun v=>K (.tuple [.agg [.vints .u8 (xs.drop p) (xs.length-p),.bool false],.int .i64 v]))/\
   (rdN F xs o most=none->K (.tuple [.agg [.vints .u8 (xs.drop o) (xs.length-o),.bool true],.int .i64 0]))
 | _=>False
theorem Z9z {Q:List Int->Nat->Bool->Int->Prop} {u:AV} (h:ZfA Q u):∃ys n b v,u=.tuple [.agg [.vints .u8 ys n,.bool b],.int .i64 v]/\Q ys n b v:=by
 unfold ZfA at h
 split at h
 ·exact ⟨_,_,_,_,rfl,h⟩
 ·exact h.elim
theorem Z6H {Q:List Int->Nat->Bool->List Int->Prop} {u:AV} (h:Z9y Q u):∃ys n b v,u=.tuple [.agg [.vints .u8 ys n,.bool b],.agg [.arr .u8 32 v]]/\Q ys n b v:=by
 unfold Z9y at h
 split at h
 ·exact ⟨_,_,_,_,rfl,h⟩
 ·exact h.elim
def Zd3 (Q:Int->Prop):AV->Prop:=fun u=>match u with
 | .tuple [.agg [.top,.bool true],.int .i64 v]=>Q v
 | _=>False
theorem Zd4 {Q:Int->Prop} {u:AV} (h:Zd3 Q u):∃v,u=.tuple [.agg [.top,.bool true],.int .i64 v]/\Q v:=by
 unfold Zd3 at h
 split at h
 ·exact ⟨_,rfl,h⟩
 ·exact h.elim
theorem Zkj (F:List Int->Int×Int) (most:Int) (Q:Int->Prop) (h2:Q 0):
  evF (E32 F) 20 121 [.agg [.top,.bool true],.int .i64 most] ⟨0,[]⟩ (Y4 (Zd3 Q)):=by
 refine @Eq.mpr _ (Q 0) (by kernel_rfl) ?_
 exact h2
theorem Z35 (args:List AV) (h:Z9) (K:AV->Prop) (hl:Zd2 (Zo Zq) args h K):Zn PP 121 args h fun o h'=>∃v,o=.ret v/\h'=h/\K v:=by
 unfold Zd2 at hl
 split at hl
 ·exact ZU Z8r rfl (Zkj _ _ (fun v=>K (.tuple [.agg [.top,.bool true],.int .i64 v])) hl) (fun u hu=>by obtain ⟨_,rfl,hq⟩:=Zd4 hu;exact hq)
 ·rename_i ys n b most
  split at hl
  ·exact ZU Z8r rfl (Zkg _ ys n most (fun ys n b v=>K (.tuple [.agg [.vints .u8 ys n,.bool b],.int .i64 v])) hl) (fun u hu=>by obtain ⟨_,_,_,_,rfl,hq⟩:=Z9z hu;exact hq)
  ·obtain ⟨xs,o,rfl,⟨rfl,h1,h2,h3⟩,hK,hK'⟩:=hl
   refine ZU Z8r rfl (Zkf _ (xs.drop o) (xs.length-o) most (fun ys n b v=>K (.tuple [.agg [.vints .u8 ys n,.bool b],.int .i64 v])) (List.length_drop ..) (h2.drop o) h3 (fun _=>Q5 _ _) (fun hc=> ?_) (fun hc=>hK' (by unfold rdN;rw [if_neg hc]))) (fun u hu=>by obtain ⟨_,_,_,_,rfl,hq⟩:=Z9z hu;exact hq)
   have hle:=Q5 Zq (xs.drop o)
   rw [List.length_drop] at hle
   have f1:o<=o+(Zo Zq (xs.drop o)).2.toNat/\o+(Zo Zq (xs.drop o)).2.toNat<=xs.length/\0<=(Zo Zq (xs.drop o)).1/\(Zo Zq (xs.drop o)).1<=most:=⟨by omega,by omega,Z8s (h2.drop o),hc.2⟩
   have:=Zd1 (hK _ _ (by unfold rdN;rw [if_pos hc]) f1) f1.2.2.1 f1.2.2.2
   rw [List.drop_drop]
   rw [show xs.length-o-(Zo Zq (xs.drop o)).2.toNat=xs.length-(o+(Zo Zq (xs.drop o)).2.toNat) by omega]
   exact this
 ·exact hl.elim
def Z8t:ZK:=fun args _ K=>match args with
 | [.agg [.vints .u8 ys n,.bool b]]=>match b with
  | true=>K (.tuple [.agg [.vints .u8 ys n,.bool true],.agg [.arr .u8 32 Za]])
  | false=>∃xs o,ys=xs.drop o/\(n=xs.length-o/\o<=xs.length)/\
   (∀v p,rdH xs o=some (v,p)->(o<=p/\p<=xs.length/\v.length=32)->K (.tuple [.agg [.vints .u8 (xs.drop p) (xs.length-p),.bool false],.agg [.arr .u8 32 v]]))/\
   (rdH xs o=none->K (.tuple [.agg [.vints .u8 (xs.drop o) (xs.length-o),.bool true],.agg [.arr .u8 32 Za]]))
 | _=>False
theorem Z0V (args:List AV) (h:Z9) (K:AV->Prop) (hl:Z8t args h K):Zn PP 120 args h fun o h'=>∃v,o=.ret v/\h'=h/\K v:=by
 unfold Z8t at hl
 split at hl
 ·rename_i ys n b
  split at hl
  ·exact ZU Zu rfl (Zki ys n (fun ys n b v=>K (.tuple [.agg [.vints .u8 ys n,.bool b],.agg [.arr .u8 32 v]])) hl) (fun u hu=>by obtain ⟨_,_,_,_,rfl,hq⟩:=Z6H hu;exact hq)
  ·obtain ⟨xs,o,rfl,⟨rfl,h1⟩,hK,hK'⟩:=hl
   refine ZU Zu rfl (Zkh (xs.drop o) (xs.length-o) (fun ys n b v=>K (.tuple [.agg [.vints .u8 ys n,.bool b],.agg [.arr .u8 32 v]])) (List.length_drop ..) (fun hc=> ?_) (fun hc=>hK' (by unfold rdH;rw [if_neg (by omega)]))) (fun u hu=>by obtain ⟨_,_,_,_,rfl,hq⟩:=Z6H hu;exact hq)
   have f1:o<=o+32/\o+32<=xs.length/\((xs.drop o).take 32).length=32:=⟨by omega,by omega,by rw [List.length_take,List.length_drop];omega⟩
   have:=hK _ _ (by unfold rdH;rw [if_pos (by omega)]) f1
   rw [List.drop_drop]
   rw [show xs.length-o-32=xs.length-(o+32) by omega]
   exact this
 ·exact hl.elim
end Go.Tk
end
section
namespace Go.Tk
open IntKind (i64 u8 u32 u64 wrap)
end Go.Tk
end
section
namespace Go.Tk
open IntKind (i64 u8 u32 u64 wrap)
structure TxB (t:TxS):Prop where
 h:∀i,i<t.M->Bytes (t.outs i).owner/\Bytes (t.outs i).other
end Go.Tk
end
section
namespace Go.Tk
open IntKind (i64 u8 u32 u64 wrap)
end Go.Tk
end
section
namespace Go.Tk
open IntKind (i64 u8 u32 u64 wrap)
end Go.Tk
end
section
namespace Go.Tk
open IntKind (i64 u8 u32 u64 wrap)
theorem VL {n:Nat} {xs:List Int} (h:xs.length=n) (hw:∀i,i<n->(Lit.int .u8 (xs.getD i 0)).wf=true):Bytes xs:=⟨fun i=>by
 by_cases hi:i<n
 ·have:=hw i hi
  simp [Lit.wf] at this
  have m1:u8.min=0:=rfl
  have m2:u8.max=255:=rfl
  simp
  omega
 ·rw [List.getD_eq_getElem?_getD,List.getElem?_eq_none (by omega)];simp⟩
structure InS.By (x:InS):Prop where
 name:Bytes x.name
 tag:Bytes x.tag
 also:Bytes x.also
 secret:Bytes x.secret
structure Z0T.By (x:Z0T):Prop where
 owner:Bytes x.owner
 other:Bytes x.other
 point:Bytes x.point
 hash:Bytes x.hash
structure ZhJ (t:TxS):Prop where
 ins:∀i,i<t.N->(t.ins i).By
 outs:∀i,i<t.M->(t.outs i).By
theorem ZhJ.b {t:TxS} (h:ZhJ t):TxB t:=⟨fun i hi=>⟨(h.outs i hi).owner,(h.outs i hi).other⟩⟩
theorem pick {α:Type} [Inhabited α] {n:Nat} {p:Nat->α->Prop} (h:∀i,i<n->∃a,p i a):∃f:Nat->α,∀i,i<n->p i (f i):=
 ⟨fun i=>if hi:i<n then Classical.choose (h i hi) else default,fun i hi=>by
  simp only [hi,dite_true]
  exact Classical.choose_spec (h i hi)⟩
instance:Inhabited InS:=⟨inZ⟩
instance:Inhabited Z0T:=⟨Zmq⟩
theorem Zn.conv {P:Program} {f:FuncId} {us bs:List AV} {h:Z9} {K:KO} (hc:Zn P f bs h K) (hr:∀E rs,ZJ E us rs->ZJ E bs rs):Zn P f us h K:=
 fun E w rs he hl=>hc E w rs he (hr E rs hl)
theorem Bytes.nil:Bytes []:=⟨fun i=>by simp⟩
theorem Bytes.cons {x:Int} {xs:List Int} (hx:0<=x/\x<=255) (h:Bytes xs):Bytes (x::xs):=⟨fun i=>by
 cases i with
 | zero=>simpa using hx
 | succ i=>have:=h.h i;simpa using this⟩
theorem ZiU (x:Int):0<=u8.wrap x/\u8.wrap x<=255:=by
 unfold wrap
 simp [IntKind.bits,IntKind.signed]
 omega
end Go.Tk
end
section
namespace Go.Tk
open IntKind (i64 u8 u32 u64 wrap)
end Go.Tk
end
section
namespace Go.Tk
open IntKind (i64 u8 u32 u64 wrap)
def Ve (a b c:Int):Nat->Int
 | 0=>0
 | i+1=>if 2<=u32.wrap (u32.wrap (Int.tmod (Zw .u32 a i) 2+Int.tmod (Zw .u32 b i) 2)+Int.tmod (Zw .u32 c i) 2) then u32.wrap (Ve a b c i+ZI .u32 1 i) else Ve a b c i
def VM (a b c:Int):Nat->Int
 | 0=>0
 | i+1=>u32.wrap (VM a b c i+ZI .u32 (if Int.tmod (Zw .u32 a i) 2=1 then Int.tmod (Zw .u32 b i) 2 else Int.tmod (Zw .u32 c i) 2) i)
def moS (a b c:Int) (o:Int) (i:Nat):St:=⟨33,[(8,.int .u64 i),(0,.int .u32 a),(1,.int .u32 b),(2,.int .u32 c),(7,.int .u32 o)],⟨0,[]⟩,[]⟩
def moR (o:Int):St:=⟨33,[(7,.int .u32 o)],⟨0,[]⟩,[]⟩
theorem ZhK {x:Int} (h:0<=x/\x<18446744073709551616):u64.wrap x=x:=by
 unfold wrap
 simp [IntKind.bits,IntKind.signed]
 omega
theorem ZiV (a b c o o':Int) (i:Nat) (Z1 Z2:Prop) (hi:i<=32) (ho:o'=if 2<=u32.wrap (u32.wrap (Int.tmod (Zw .u32 a i) 2+Int.tmod (Zw .u32 b i) 2)+Int.tmod (Zw .u32 c i) 2) then u32.wrap (o+ZI .u32 1 i) else o) (h1:i<32->Z1) (h2:i=32->Z2):
  ZB G0 20 193 0 0 (moS a b c o i) (rdM 0 0 9 (moS a b c o' (i+1)) (moR o) (moR o) (moR o) Z1 Z2 False False):=by
 refine @Eq.mpr _ (let q1:=decide (wrap u64 ((↑i:Int)+1)=(↑(i+1):Int));let q2:=decide (a=a);let q3:=decide (b=b);let q4:=decide (c=c);
 Z0 (decide ((↑i:Int)<32)) (Z0 (decide (wrap u32 (wrap u32 (Int.tmod (Zw u32 a (↑i:Int)) 2+Int.tmod (Zw u32 b (↑i:Int)) 2)+Int.tmod (Zw u32 c (↑i:Int)) 2)>=2)) (Z0 q1 (Z0 q2 (Z0 q3 (Z0 q4 (Z0 (decide (wrap u32 (o+ZI u32 1 (↑i:Int))=o')) Z1 False) False) False) False) False) (Z0 q1 (Z0 q2 (Z0 q3 (Z0 q4 (Z0 (decide (o=o')) Z1 False) False) False) False) False)) (Z0 (decide (o=o)) Z2 False)) (by kernel_rfl) ?_
 conv=>zeta
 try simp only [Zi]
 try simp only [Zj]
 try simp only [Zf]
 try simp only [Zk]
 try simp only [Zl]
 try simp only [Zg]
 try simp only [Int.toNat_natCast,Nat.zero_add,true_and,and_true,Nat.le_refl]
 have hw:u64.wrap ((i:Int)+1)=((i+1:Nat):Int):=ZhK (by omega)
 refine ⟨fun hlt=>⟨fun hc=> ?_,fun hc=> ?_⟩,fun hge=>h2 (by omega)⟩
 ·rw [if_pos hc] at ho
  exact ⟨hw,ho.symm,h1 (by omega)⟩
 ·rw [if_neg hc] at ho
  exact ⟨hw,ho.symm,h1 (by omega)⟩
theorem ZiW (a b c o o':Int) (i:Nat) (Z1 Z2:Prop) (hi:i<=32) (ho:o'=u32.wrap (o+ZI .u32 (if Int.tmod (Zw .u32 a i) 2=1 then Int.tmod (Zw .u32 b i) 2 else Int.tmod (Zw .u32 c i) 2) i)) (h1:i<32->Z1) (h2:i=32->Z2):
  ZB G0 20 192 0 0 (moS a b c o i) (rdM 0 0 9 (moS a b c o' (i+1)) (moR o) (moR o) (moR o) Z1 Z2 False False):=by
 refine @Eq.mpr _ (let q1:=decide (wrap u64 ((↑i:Int)+1)=(↑(i+1):Int));let q2:=decide (a=a);let q3:=decide (b=b);let q4:=decide (c=c);
 Z0 (decide ((↑i:Int)<32)) (Z0 (Int.tmod (Zw u32 a (↑i:Int)) 2==1) (Z0 q1 (Z0 q2 (Z0 q3 (Z0 q4 (Z0 (decide (wrap u32 (o+ZI u32 (Int.tmod (Zw u32 b (↑i:Int)) 2) (↑i:Int))=o')) Z1 False) False) False) False) False) (Z0 q1 (Z0 q2 (Z0 q3 (Z0 q4 (Z0 (decide (wrap u32 (o+ZI u32 (Int.tmod (Zw u32 c (↑i:Int)) 2) (↑i:Int))=o')) Z1 False) False) False) False) False)) (Z0 (decide (o=o)) Z2 False)) (by kernel_rfl) ?_
 conv=>zeta
 try simp only [Zi]
 try simp only [Zj]
 try simp only [Zf]
 try simp only [Zk]
 try simp only [Zl]
 try simp only [Zg]
 try simp only [Int.toNat_natCast,Nat.zero_add,true_and,and_true,Nat.le_refl]
 have hw:u64.wrap ((i:Int)+1)=((i+1:Nat):Int):=ZhK (by omega)
 refine ⟨fun hlt=>⟨fun hc=> ?_,fun hc=> ?_⟩,fun hge=>h2 (by omega)⟩
 ·rw [if_pos (by simpa using hc)] at ho
  exact ⟨hw,ho.symm,h1 (by omega)⟩
 ·rw [if_neg (by simpa using hc)] at ho
  exact ⟨hw,ho.symm,h1 (by omega)⟩
@[irreducible] def XE (a b c:Int):Int:=Ve a b c 32
@[irreducible] def Xx (a b c:Int):Int:=VM a b c 32
noncomputable def ZiX (a b c:Int):Zh:=G0.withL 193 0 (goM 0 (moS a b c 0 0) True (Yu 0 32 9 (fun i=>i<32) (fun i=>i=32) (fun _=>False) (fun _=>False) (fun i=>moR (Ve a b c i)) (fun i=>moR (Ve a b c i)) (fun i=>moR (Ve a b c i))))
theorem ZfB (a b c:Int):(ZiX a b c).Ok:=by
 unfold ZiX
 refine Zh.withGoM (N:=20) (S:=fun i=>moS a b c (Ve a b c i) i) Zu (by kernel_rfl) fun hC=>⟨rfl,fun i hi hgo=> ?_⟩
 exact ZiV a b c (Ve a b c i) (Ve a b c (i+1)) i _ _ hi rfl (fun h=>⟨h,h⟩) (fun h=>h)
noncomputable def ZiY (a b c:Int):Zh:=G0.withL 192 0 (goM 0 (moS a b c 0 0) True (Yu 0 32 9 (fun i=>i<32) (fun i=>i=32) (fun _=>False) (fun _=>False) (fun i=>moR (VM a b c i)) (fun i=>moR (VM a b c i)) (fun i=>moR (VM a b c i))))
theorem ZfC (a b c:Int):(ZiY a b c).Ok:=by
 unfold ZiY
 refine Zh.withGoM (N:=20) (S:=fun i=>moS a b c (VM a b c i) i) Zu (by kernel_rfl) fun hC=>⟨rfl,fun i hi hgo=> ?_⟩
 exact ZiW a b c (VM a b c i) (VM a b c (i+1)) i _ _ hi rfl (fun h=>⟨h,h⟩) (fun h=>h)
theorem ZiZ (a b c:Int) (o:Int) (ho:o=Ve a b c 32):
  evF (ZiX a b c) 20 193 [.int .u32 a,.int .u32 b,.int .u32 c] ⟨0,[]⟩ (Wn 0 [] (.int .u32 o) 0 []):=by
 refine @Eq.mpr _ (Z0 (decide (a=a)) (Z0 (decide (b=b)) (Z0 (decide (c=c)) (True/\∀(i:Nat),i<=32->(∀(j:Nat),j<i->(fun (i:Nat)=>i<32) j)->(i=32->Z0 (decide (Ve a b c i=o)) True False)/\(False->False)/\(False->False)) False) False) False) (by kernel_rfl) ?_
 try simp only [Zi]
 try simp only [Zj]
 try simp only [Zf]
 try simp only [Zk]
 try simp only [Zl]
 try simp only [Zg]
 try simp only [Int.toNat_natCast,Nat.zero_add,true_and,and_true,Nat.le_refl]
 subst ho
 exact fun i hi _=>⟨fun he=>by subst he;rfl,fun h=>h,fun h=>h⟩
theorem Zj0 (a b c:Int) (o:Int) (ho:o=VM a b c 32):
  evF (ZiY a b c) 20 192 [.int .u32 a,.int .u32 b,.int .u32 c] ⟨0,[]⟩ (Wn 0 [] (.int .u32 o) 0 []):=by
 refine @Eq.mpr _ (Z0 (decide (a=a)) (Z0 (decide (b=b)) (Z0 (decide (c=c)) (True/\∀(i:Nat),i<=32->(∀(j:Nat),j<i->(fun (i:Nat)=>i<32) j)->(i=32->Z0 (decide (VM a b c i=o)) True False)/\(False->False)/\(False->False)) False) False) False) (by kernel_rfl) ?_
 try simp only [Zi]
 try simp only [Zj]
 try simp only [Zf]
 try simp only [Zk]
 try simp only [Zl]
 try simp only [Zg]
 try simp only [Int.toNat_natCast,Nat.zero_add,true_and,and_true,Nat.le_refl]
 subst ho
 exact fun i hi _=>⟨fun he=>by subst he;rfl,fun h=>h,fun h=>h⟩
def Z1U (F:Int->Int->Int->Int):ZK:=fun args _ K=>match args with
 | [.int .u32 a,.int .u32 b,.int .u32 c]=>K (.int .u32 (F a b c))
 | _=>False
theorem Z36 {f:FuncId} {F:Int->Int->Int->Int} (hp:∀a b c,ZA PP f [.int .u32 a,.int .u32 b,.int .u32 c] (.int .u32 (F a b c)) 0 []) (args:List AV) (h:Z9) (K:AV->Prop) (hl:Z1U F args h K):Zn PP f args h fun o h'=>∃v,o=.ret v/\h'=h/\K v:=by
 unfold Z1U at hl
 split at hl
 ·rename_i a b c
  refine Z0g (d:=20) (K0:=fun l=>l=[.int .u32 a,.int .u32 b,.int .u32 c]) ?_ fun l e=>⟨_,by rw [e];exact hp a b c,fun _=>rfl,hl⟩
  rfl
 ·exact hl.elim
end Go.Tk
end
section
namespace Go.Tk
open IntKind (i64 u8 u32 u64 wrap)
def sg3 (a b c:Int) (w:Int):Int:=YZ .u32 (YZ .u32 (Z8a w (32-a)) (Z8a w (32-b))) (Z8a w (32-c))
def rg3 (a b n:Int) (w:Int):Int:=YZ .u32 (YZ .u32 (Z8a w (32-a)) (Z8a w (32-b))) (Zw .u32 w n)
def Z8u (bl:List Int) (t:Nat):Int:=u32.wrap (u32.wrap (u32.wrap (ZI .u32 (u32.wrap (bl.getD (4*t) 0)) 24+ZI .u32 (u32.wrap (bl.getD (4*t+1) 0)) 16)+ZI .u32 (u32.wrap (bl.getD (4*t+2) 0)) 8)+u32.wrap (bl.getD (4*t+3) 0))
def Zd5 (m:List Int) (t:Nat):Int:=u32.wrap (u32.wrap (u32.wrap (rg3 17 19 10 (m.getD (t-2) 0)+m.getD (t-7) 0)+rg3 7 18 3 (m.getD (t-15) 0))+m.getD (t-16) 0)
def Wj (bl:List Int):Nat->List Int
 | 0=>List.replicate 64 0
 | t+1=>(Wj bl t).set t (if t<16 then Z8u bl t else Zd5 (Wj bl t) t)
theorem Z37 (bl:List Int):∀t,(Wj bl t).length=64
 | 0=>rfl
 | t+1=>by simp [Wj,Z37 bl t]
def prS (st bl m:List Int) (i:Nat):St:=⟨146,[(6,.int .i64 i),(3,pt 1),(5,pt 3),(2,pt 0),(4,pt 2)],⟨4,[(3,.flat [.arr .u32 64 m]),(2,.flat [.arr .u32 8 [0,0,0,0,0,0,0,0]]),(1,.flat [.arr .u8 64 bl]),(0,.flat [.arr .u32 8 st])]⟩,[]⟩
theorem Zmr (st bl m m':List Int) (i:Nat) (Z1 Z2:Prop) (hi:i<=64) (hm:m.length=64) (hm':m'=m.set i (if i<16 then Z8u bl i else Zd5 m i)) (h1:i<64->Z1) (h2:i=64->Z2):
  ZB G0 20 152 0 0 (prS st bl m i) (rdM 0 0 9 (prS st bl m' (i+1)) (prS st bl m i) (prS st bl m i) (prS st bl m i) Z1 Z2 False False):=by
 refine @Eq.mpr _ (let q1:=wrap i64 (4*(↑i:Int));let q2:=0+Int.toNat q1;let q3:=wrap i64 (q1+1);let q4:=0+Int.toNat q3;let q5:=wrap i64 (q1+2);let q6:=0+Int.toNat q5;let q7:=wrap i64 (q1+3);let q8:=0+Int.toNat q7;let q9:=decide (0<=(↑i:Int)/\(↑i:Int)<64);let q10:=0+Int.toNat (↑i:Int);let q11:=decide (u32=u32/\q10<64/\q10<List.length m);let q12:=decide (wrap i64 ((↑i:Int)+1)=(↑(i+1):Int));let q13:=[(0:Int),0,0,0,0,0,0,0];let q14:=q13=q13;let q15:=q14/\bl=bl/\st=st/\Z1;let q16:=wrap i64 ((↑i:Int)-2);let q17:=0+Int.toNat q16;let q18:=wrap i64 ((↑i:Int)-7);let q19:=0+Int.toNat q18;let q20:=decide (q19<64);let q21:=wrap i64 ((↑i:Int)-15);let q22:=0+Int.toNat q21;let q23:=decide (q22<64);let q24:=wrap i64 ((↑i:Int)-16);let q25:=0+Int.toNat q24;let q26:=decide (q25<64);let q27:=List.getD m q25 0;let q28:=decide (q27=q27);let q29:=List.getD m q22 0;let q30:=List.getD m q19 0;let q31:=decide (q30=q30);let q32:=List.getD m q17 0;
 Z0 (decide ((↑i:Int)<64))
 (Z0 (decide ((↑i:Int)<16)) (Z0 (decide (0<=q1/\q1<64)) (Z0 (decide (q2<64)) (Z0 (decide (0<=q3/\q3<64)) (Z0 (decide (q4<64)) (Z0 (decide (0<=q5/\q5<64)) (Z0 (decide (q6<64)) (Z0 (decide (0<=q7/\q7<64)) (Z0 (decide (q8<64)) (Z0 q9 (Z0 q11 (Z0 q12 (List.set m q10 (wrap u32 (wrap u32 (wrap u32 (ZI u32 (wrap u32 (List.getD bl q2 0)) 24+ZI u32 (wrap u32 (List.getD bl q4 0)) 16)+ZI u32 (wrap u32 (List.getD bl q6 0)) 8)+wrap u32 (List.getD bl q8 0)))=m'/\q15) False) False) False) False) False) False) False) False) False) False) False)
 (Z0 (decide (0<=q16/\q16<64))
 (Z0 (decide (q17<64)) (Z0 (decide (0<=q18/\q18<64)) (Z0 q20 (Z0 (decide (0<=q21/\q21<64)) (Z0 q23 (Z0 (decide (0<=q24/\q24<64)) (Z0 q26 (Z0 q26 (Z0 q28 (Z0 q23 (Z0 (decide (q29=q29)) (Z0 q20 (Z0 q31 (Z0 q26 (Z0 q28 (Z0 q20 (Z0 q31 (Z0 q9 (Z0 q11 (Z0 q12 (List.set m q10 (wrap u32 (wrap u32 (wrap u32 (YZ u32 (YZ u32 (bOr u32 (ZI u32 q32 15) (Zw u32 q32 17)) (bOr u32 (ZI u32 q32 13) (Zw u32 q32 19))) (Zw u32 q32 10)+q30)+YZ u32 (YZ u32 (bOr u32 (ZI u32 q29 25) (Zw u32 q29 7)) (bOr u32 (ZI u32 q29 14) (Zw u32 q29 18))) (Zw u32 q29 3))+q27))=m'/\q15) False) False) False) False) False) False) False) False) False) False) False) False) False) False) False) False) False) False) False) False) False))
 (Z0 (decide ((↑i:Int)=(↑i:Int))) (m=m/\q14/\bl=bl/\st=st/\Z2) False)) (by kernel_rfl) ?_
 conv=>zeta
 try simp only [Zi]
 try simp only [Zj]
 try simp only [Zf]
 try simp only [Zk]
 try simp only [Zl]
 try simp only [Zg]
 try simp only [Int.toNat_natCast,Nat.zero_add,true_and,and_true,Nat.le_refl]
 have hw:i64.wrap ((i:Int)+1)=((i+1:Nat):Int):=w64 (by omega)
 refine ⟨fun hlt=>⟨fun h16=> ?_,fun h16=> ?_⟩,fun hge=>h2 (by omega)⟩
 ·have e0:i64.wrap (4*(i:Int))=((4*i:Nat):Int):=by rw [w64 (by omega)];omega
  have e1:i64.wrap (((4*i:Nat):Int)+1)=((4*i+1:Nat):Int):=by rw [w64 (by omega)];omega
  have e2:i64.wrap (((4*i:Nat):Int)+2)=((4*i+2:Nat):Int):=by rw [w64 (by omega)];omega
  have e3:i64.wrap (((4*i:Nat):Int)+3)=((4*i+3:Nat):Int):=by rw [w64 (by omega)];omega
  rw [if_pos (by omega)] at hm'
  simp only [e0,e1,e2,e3,hw,Int.toNat_natCast]
  repeat' (first|(refine And.intro ?_ ?_)|intro _)
  all_goals first|omega|exact hm'.symm|exact h1 (by omega)|trivial
 ·have e0:i64.wrap ((i:Int)-2)=((i-2:Nat):Int):=by rw [w64 (by omega)];omega
  have e1:i64.wrap ((i:Int)-7)=((i-7:Nat):Int):=by rw [w64 (by omega)];omega
  have e2:i64.wrap ((i:Int)-15)=((i-15:Nat):Int):=by rw [w64 (by omega)];omega
  have e3:i64.wrap ((i:Int)-16)=((i-16:Nat):Int):=by rw [w64 (by omega)];omega
  rw [if_neg (by omega)] at hm'
  simp only [e0,e1,e2,e3,hw,Int.toNat_natCast]
  repeat' (first|(refine And.intro ?_ ?_)|intro _)
  all_goals first|omega|exact hm'.symm|exact h1 (by omega)|trivial
noncomputable def Zj1 (st bl:List Int):Zh:=G0.withL 152 0 (goM 0 (prS st bl (List.replicate 64 0) 0) True (Yu 0 64 9 (fun i=>i<64) (fun i=>i=64) (fun _=>False) (fun _=>False) (fun i=>prS st bl (Wj bl i) i) (fun i=>prS st bl (Wj bl i) i) (fun i=>prS st bl (Wj bl i) i)))
theorem ZfD (st bl:List Int):(Zj1 st bl).Ok:=by
 unfold Zj1
 refine Zh.withGoM (N:=20) (S:=fun i=>prS st bl (Wj bl i) i) Zu (by kernel_rfl) fun hC=>⟨rfl,fun i hi hgo=> ?_⟩
 exact Zmr st bl (Wj bl i) (Wj bl (i+1)) i _ _ hi (Z37 bl i) rfl (fun h=>⟨h,h⟩) (fun h=>h)
noncomputable def E54 (M P:Int->Int->Int->Int):Zh:=(G0.withP 193 (Z1U M)).withP 192 (Z1U P)
theorem Zj2:(E54 XE Xx).Ok:=Zh.withP_ok (Zh.withP_ok Zu (Z36 fun a b c=>by unfold XE;exact .ev (ZfB a b c) (ZiZ a b c _ rfl))) (Z36 fun a b c=>by unfold Xx;exact .ev (ZfC a b c) (Zj0 a b c _ rfl))
def Z1n (M P:Int->Int->Int->Int) (k m:Int) (x:List Int):List Int:=
 let one:=u32.wrap (u32.wrap (u32.wrap (u32.wrap (x.getD 7 0+sg3 6 11 25 (x.getD 4 0))+P (x.getD 4 0) (x.getD 5 0) (x.getD 6 0))+k)+m)
 [u32.wrap (one+u32.wrap (sg3 2 13 22 (x.getD 0 0)+M (x.getD 0 0) (x.getD 1 0) (x.getD 2 0))),x.getD 0 0,x.getD 1 0,x.getD 2 0,u32.wrap (x.getD 3 0+one),x.getD 4 0,x.getD 5 0,x.getD 6 0]
def UA (M P:Int->Int->Int->Int) (m st:List Int):Nat->List Int
 | 0=>st
 | t+1=>Z1n M P (Vn.getD t 0) (m.getD t 0) (UA M P m st t)
theorem ZaZ (M P:Int->Int->Int->Int) (m st:List Int) (t:Nat):UA M P m st (t+1)=Z1n M P (Vn.getD t 0) (m.getD t 0) (UA M P m st t):=rfl
theorem Zb0 (M P:Int->Int->Int->Int) (m st:List Int):UA M P m st 0=st:=rfl
theorem Z0m {M P:Int->Int->Int->Int} {m st:List Int} (h:st.length=8):∀t,(UA M P m st t).length=8
 | 0=>h
 | _+1=>rfl
def prT (st k m x:List Int) (i:Nat):St:=⟨146,[(9,.int .i64 i),(8,pt 6),(7,pt 5),(5,pt 3),(2,pt 0),(4,pt 2)],⟨7,[(6,.flat [.arr .u32 8 x]),(5,.flat [.arr .u32 64 k]),(3,.flat [.arr .u32 64 m]),(2,.flat [.arr .u32 8 [0,0,0,0,0,0,0,0]]),(0,.flat [.arr .u32 8 st])]⟩,[]⟩
def prU (st x:List Int):St:=⟨146,[(8,pt 6),(2,pt 0),(4,pt 2)],⟨7,[(6,.flat [.arr .u32 8 x]),(2,.flat [.arr .u32 8 [0,0,0,0,0,0,0,0]]),(0,.flat [.arr .u32 8 st])]⟩,[]⟩
theorem Zms (M P:Int->Int->Int->Int) (st k m x':List Int) (x0 x1 x2 x3 x4 x5 x6 x7:Int) (i:Nat) (Z1 Z2:Prop) (hi:i<=64) (hx:x'=Z1n M P (k.getD i 0) (m.getD i 0) [x0,x1,x2,x3,x4,x5,x6,x7]) (h1:i<64->Z1) (h2:i=64->Z2):
  ZB (E54 M P) 20 152 2 0 (prT st k m [x0,x1,x2,x3,x4,x5,x6,x7] i) (rdM 0 2 9 (prT st k m x' (i+1)) (prU st [x0,x1,x2,x3,x4,x5,x6,x7]) (prU st [x0,x1,x2,x3,x4,x5,x6,x7]) (prU st [x0,x1,x2,x3,x4,x5,x6,x7]) Z1 Z2 False False):=by
 refine @Eq.mpr _ (let q1:=decide (0<=(↑i:Int)/\(↑i:Int)<64);let q2:=0+Int.toNat (↑i:Int);let q3:=decide (q2<64);let q4:=decide (q2<64);let q5:=List.getD m q2 0;let q6:=List.getD k q2 0;let q7:=wrap u32 (wrap u32 (wrap u32 (wrap u32 (x7+YZ u32 (YZ u32 (bOr u32 (ZI u32 x4 26) (Zw u32 x4 6)) (bOr u32 (ZI u32 x4 21) (Zw u32 x4 11))) (bOr u32 (ZI u32 x4 7) (Zw u32 x4 25)))+P x4 x5 x6)+q6)+q5);let q8:=[(0:Int),0,0,0,0,0,0,0];let q9:=q8=q8;let q10:=[x0,x1,x2,x3,x4,x5,x6,x7];
 Z0 (decide ((↑i:Int)<64)) (Z0 q1 (Z0 q3 (Z0 q1 (Z0 q4 (Z0 q4 (Z0 (decide (q5=q5)) (Z0 q3 (Z0 (decide (q6=q6)) (Z0 (decide (x6=x6)) (Z0 (decide (x5=x5)) (Z0 (decide (x4=x4)) (Z0 (decide (x7=x7)) (Z0 (decide (x2=x2)) (Z0 (decide (x1=x1)) (Z0 (decide (x0=x0)) (Z0 (decide (wrap i64 ((↑i:Int)+1)=(↑(i+1):Int))) ([wrap u32 (q7+wrap u32 (YZ u32 (YZ u32 (bOr u32 (ZI u32 x0 30) (Zw u32 x0 2)) (bOr u32 (ZI u32 x0 19) (Zw u32 x0 13))) (bOr u32 (ZI u32 x0 10) (Zw u32 x0 22))+M x0 x1 x2)),x0,x1,x2,wrap u32 (x3+q7),x4,x5,x6]=x'/\k=k/\m=m/\q9/\st=st/\Z1) False) False) False) False) False) False) False) False) False) False) False) False) False) False) False) False) (q10=q10/\q9/\st=st/\Z2)) (by kernel_rfl) ?_
 conv=>zeta
 try simp only [Zi]
 try simp only [Zj]
 try simp only [Zf]
 try simp only [Zk]
 try simp only [Zl]
 try simp only [Zg]
 try simp only [Int.toNat_natCast,Nat.zero_add,true_and,and_true,Nat.le_refl]
 have hw:i64.wrap ((i:Int)+1)=((i+1:Nat):Int):=w64 (by omega)
 refine ⟨fun hlt=> ?_,fun hge=>h2 (by omega)⟩
 rw [hw]
 repeat' (first|(refine And.intro ?_ ?_)|intro _)
 all_goals first|omega|exact hx.symm|exact h1 (by omega)|trivial
def prV (st x:List Int) (i:Nat):St:=⟨146,[(12,.int .i64 i),(8,pt 6),(2,pt 0),(4,pt 2)],⟨7,[(6,.flat [.arr .u32 8 x]),(2,.flat [.arr .u32 8 [0,0,0,0,0,0,0,0]]),(0,.flat [.arr .u32 8 st])]⟩,[]⟩
def Vo (st x:List Int):Nat->List Int
 | 0=>x
 | i+1=>(Vo st x i).set i (u32.wrap ((Vo st x i).getD i 0+st.getD i 0))
theorem Z38 {st x:List Int} (h:x.length=8):∀i,(Vo st x i).length=8
 | 0=>h
 | i+1=>by simp [Vo,Z38 h i]
theorem Zmt (st x x':List Int) (i:Nat) (Z1 Z2:Prop) (hi:i<=8) (hl:x.length=8) (hs:st.length=8) (hx:x'=x.set i (u32.wrap (x.getD i 0+st.getD i 0))) (h1:i<8->Z1) (h2:i=8->Z2):
  ZB G0 20 152 4 0 (prV st x i) (rdM 0 4 9 (prV st x' (i+1)) (prU st x) (prU st x) (prU st x) Z1 Z2 False False):=by
 refine @Eq.mpr _ (let q1:=decide (0<=(↑i:Int)/\(↑i:Int)<8);let q2:=0+Int.toNat (↑i:Int);let q3:=[(0:Int),0,0,0,0,0,0,0];let q4:=q3=q3;
 Z0 (decide ((↑i:Int)<8)) (Z0 q1 (Z0 (decide (q2<8)) (Z0 q1 (Z0 (decide (q2<8)) (Z0 q1 (Z0 (decide (u32=u32/\q2<8/\q2<List.length x)) (Z0 (decide (wrap i64 ((↑i:Int)+1)=(↑(i+1):Int))) (List.set x q2 (wrap u32 (List.getD x q2 0+List.getD st q2 0))=x'/\q4/\st=st/\Z1) False) False) False) False) False) False) False) (x=x/\q4/\st=st/\Z2)) (by kernel_rfl) ?_
 conv=>zeta
 try simp only [Zi]
 try simp only [Zj]
 try simp only [Zf]
 try simp only [Zk]
 try simp only [Zl]
 try simp only [Zg]
 try simp only [Int.toNat_natCast,Nat.zero_add,true_and,and_true,Nat.le_refl]
 have hw:i64.wrap ((i:Int)+1)=((i+1:Nat):Int):=w64 (by omega)
 refine ⟨fun hlt=> ?_,fun hge=>h2 (by omega)⟩
 rw [hw]
 repeat' (first|(refine And.intro ?_ ?_)|intro _)
 all_goals first|omega|exact hx.symm|exact h1 (by omega)|trivial
def Zj3 (M P:Int->Int->Int->Int) (st m:List Int):Nat->St->KE->Prop:=goM 0 (prT st Vn m st 0) (st.length=8) (Yu 2 64 9 (fun i=>i<64) (fun i=>i=64) (fun _=>False) (fun _=>False) (fun i=>prU st (UA M P m st i)) (fun i=>prU st (UA M P m st i)) (fun i=>prU st (UA M P m st i)))
theorem ZfE (st m:List Int):((E54 XE Xx).withL 152 2 (Zj3 XE Xx st m)).Ok:=by
 unfold Zj3
 refine Zh.withGoM (N:=20) (S:=fun i=>prT st Vn m (UA XE Xx m st i) i) Zj2 (by kernel_rfl) fun hC=>⟨rfl,fun i hi hgo=> ?_⟩
 obtain ⟨x0,x1,x2,x3,x4,x5,x6,x7,e⟩:=eight _ (Z0m (M:=XE) (P:=Xx) (m:=m) hC i)
 show ZB _ 20 152 2 0 (prT st Vn m (UA XE Xx m st i) i) (rdM 0 2 9 (prT st Vn m (Z1n XE Xx (Vn.getD i 0) (m.getD i 0) (UA XE Xx m st i)) (i+1)) _ _ _ _ _ _ _)
 rw [e]
 exact Zms XE Xx st Vn m _ x0 x1 x2 x3 x4 x5 x6 x7 i _ _ hi rfl (fun h=>⟨h,h⟩) (fun h=>h)
def Zj4 (st x:List Int):Nat->St->KE->Prop:=goM 0 (prV st x 0) (st.length=8/\x.length=8) (Yu 4 8 9 (fun i=>i<8) (fun i=>i=8) (fun _=>False) (fun _=>False) (fun i=>prU st (Vo st x i)) (fun i=>prU st (Vo st x i)) (fun i=>prU st (Vo st x i)))
theorem ZfF (st x:List Int):(G0.withL 152 4 (Zj4 st x)).Ok:=by
 unfold Zj4
 refine Zh.withGoM (N:=20) (S:=fun i=>prV st (Vo st x i) i) Zu (by kernel_rfl) fun hC=>⟨rfl,fun i hi hgo=> ?_⟩
 exact Zmt st (Vo st x i) (Vo st x (i+1)) i _ _ hi (Z38 hC.2 i) hC.1 rfl (fun h=>⟨h,h⟩) (fun h=>h)
noncomputable def Zj5 (M P:Int->Int->Int->Int) (st bl m x:List Int):Zh:=((Zj1 st bl).withL 152 2 (Zj3 M P st m)).withL 152 4 (Zj4 st x)
theorem ZfG (st bl m x:List Int):(Zj5 XE Xx st bl m x).Ok:=by
 unfold Zj5
 exact Zh.withL_join (H:=G0) (Zh.withL_join (H:=E54 XE Xx) (ZfD st bl) rfl (ZfE st m)) rfl (ZfF st x)
@[irreducible] def XX (st bl:List Int):List Int:=Vo st (UA XE Xx (Wj bl 64) st 64) 8
attribute [irreducible] Wj UA Vo
theorem Zmu (M P:Int->Int->Int->Int) (st bl m x r:List Int) (hst:st.length=8) (hm:m=Wj bl 64) (hx:x=UA M P m st 64) (hr:r=Vo st x 8):
  evF (Zj5 M P st bl m x) 20 152 [.agg [.arr .u32 8 st],.agg [.arr .u8 64 bl]] ⟨0,[]⟩ (Wn 0 [] (.agg [.arr .u32 8 r]) 0 []):=by
 refine @Eq.mpr _ ((0:Int)::(0:Int)::(0:Int)::(0:Int)::(0:Int)::(0:Int)::(0:Int)::(0:Int)::(0:Int)::(0:Int)::(0:Int)::(0:Int)::(0:Int)::(0:Int)::(0:Int)::(0:Int)::(0:Int)::(0:Int)::(0:Int)::(0:Int)::(0:Int)::(0:Int)::(0:Int)::(0:Int)::(0:Int)::(0:Int)::(0:Int)::(0:Int)::(0:Int)::(0:Int)::(0:Int)::(0:Int)::Za=(0:Int)::(0:Int)::(0:Int)::(0:Int)::(0:Int)::(0:Int)::(0:Int)::(0:Int)::(0:Int)::(0:Int)::(0:Int)::(0:Int)::(0:Int)::(0:Int)::(0:Int)::(0:Int)::(0:Int)::(0:Int)::(0:Int)::(0:Int)::(0:Int)::(0:Int)::(0:Int)::(0:Int)::(0:Int)::(0:Int)::(0:Int)::(0:Int)::(0:Int)::(0:Int)::(0:Int)::(0:Int)::Za/\
 [(0:Int),(0:Int),(0:Int),(0:Int),(0:Int),(0:Int),(0:Int),(0:Int)]=[(0:Int),(0:Int),(0:Int),(0:Int),(0:Int),(0:Int),(0:Int),(0:Int)]/\
 bl=bl/\
 st=st/\
 True/\
 ∀(i:Nat),
 i<=(64:Nat)->
 (∀(j:Nat),j<i->(fun (i:Nat)=>i<(64:Nat)) j)->
 (i=(64:Nat)->
 st=st/\
 [(1116352408:Int),(1899447441:Int),(3049323471:Int),(3921009573:Int),(961987163:Int),(1508970993:Int),(2453635748:Int),(2870763221:Int),(3624381080:Int),(310598401:Int),(607225278:Int),(1426881987:Int),(1925078388:Int),(2162078206:Int),(2614888103:Int),(3248222580:Int),(3835390401:Int),(4022224774:Int),(264347078:Int),(604807628:Int),(770255983:Int),(1249150122:Int),(1555081692:Int),(1996064986:Int),(2554220882:Int),(2821834349:Int),(2952996808:Int),(3210313671:Int),(3336571891:Int),(3584528711:Int),(113926993:Int),(338241895:Int),(666307205:Int),(773529912:Int),(1294757372:Int),(1396182291:Int),(1695183700:Int),(1986661051:Int),(2177026350:Int),(2456956037:Int),(2730485921:Int),(2820302411:Int),(3259730800:Int),(3345764771:Int),(3516065817:Int),(3600352804:Int),(4094571909:Int),(275423344:Int),(430227734:Int),(506948616:Int),
 (659060556:Int),(883997877:Int),(958139571:Int),(1322822218:Int),(1537002063:Int),(1747873779:Int),(1955562222:Int),(2024104815:Int),(2227730452:Int),(2361852424:Int),(2428436474:Int),(2756734187:Int),(3204031479:Int),(3329325298:Int)]=
 Vn/\
 Wj bl i=m/\
 [(0:Int),(0:Int),(0:Int),(0:Int),(0:Int),(0:Int),(0:Int),(0:Int)]=[(0:Int),(0:Int),(0:Int),(0:Int),(0:Int),(0:Int),(0:Int),(0:Int)]/\st=st/\List.length st=(8:Nat)/\∀(i:Nat),i<=(64:Nat)->(∀(j:Nat),j<i->(fun (i:Nat)=>i<(64:Nat)) j)->(i=(64:Nat)->UA M P m st i=x/\[(0:Int),(0:Int),(0:Int),(0:Int),(0:Int),(0:Int),(0:Int),(0:Int)]=[(0:Int),(0:Int),(0:Int),(0:Int),(0:Int),(0:Int),(0:Int),(0:Int)]/\st=st/\(List.length st=(8:Nat)/\List.length x=(8:Nat))/\∀(i:Nat),i<=(8:Nat)->(∀(j:Nat),j<i->(fun (i:Nat)=>i<(8:Nat)) j)->(i=(8:Nat)->Vo st x i=r/\True)/\(False->[(0:Int),(0:Int),(0:Int),(0:Int),(0:Int),(0:Int),(0:Int),(0:Int)]=r/\True)/\(False->False))/\(False->[(0:Int),(0:Int),(0:Int),(0:Int),(0:Int),(0:Int),(0:Int),(0:Int)]=r/\True)/\(False->False))/\
 (False->[(0:Int),(0:Int),(0:Int),(0:Int),(0:Int),(0:Int),(0:Int),(0:Int)]=r/\True)/\(False->False)) (by kernel_rfl) ?_
 try simp only [Zi]
 try simp only [Zj]
 try simp only [Zf]
 try simp only [Zk]
 try simp only [Zl]
 try simp only [Zg]
 try simp only [Int.toNat_natCast,Nat.zero_add,true_and,and_true,Nat.le_refl]
 subst hm
 have hl:x.length=8:=by rw [hx];exact Z0m hst _
 exact fun i _ _=>⟨fun he=>⟨by kernel_rfl,by rw [he],hst,fun j _ _=>⟨fun hj=>⟨by rw [hj,hx],⟨hst,hl⟩,fun q _ _=>⟨fun hq=>by rw [hq,hr],fun h=>h.elim,fun h=>h⟩⟩,fun h=>h.elim,fun h=>h⟩⟩,fun h=>h.elim,fun h=>h⟩
theorem Z6I (st bl:List Int) (h:st.length=8):ZA PP 152 [.agg [.arr .u32 8 st],.agg [.arr .u8 64 bl]] (.agg [.arr .u32 8 (XX st bl)]) 0 []:=by
 unfold XX
 exact .ev (ZfG st bl _ _) (Zmu XE Xx st bl _ _ _ h rfl rfl rfl)
theorem Z5s {st bl:List Int} (h:st.length=8):(XX st bl).length=8:=by unfold XX;exact Z38 (Z0m h _) _
end Go.Tk
end
section
namespace Go.Tk
open IntKind (i64 u8 u32 u64 wrap)
def ZfH (n i:Int):Int:=u8.wrap (Int.tmod (Zw .u64 (u64.wrap (u64.wrap n*8)) (u64.wrap (i64.wrap (56-i64.wrap (8*i))))) 256)
def W1 (n:Int):Nat->List Int
 | 0=>[]
 | i+1=>W1 n i++[ZfH n i]
theorem Z39 (n:Int):∀i,(W1 n i).length=i
 | 0=>rfl
 | i+1=>by rw [W1,List.length_append,Z39 n i];rfl
def paS (bs ys:List Int) (n L i:Nat):St:=⟨39,[(5,.int .i64 i),(4,.nslice ⟨3,0,0,0,0⟩ 1 L L),(0,.vints .u8 bs n)],⟨4,[(3,.ints .u8 ys)]⟩,[]⟩
theorem Zkk (bs ys zs:List Int) (n L L' i:Nat) (Z1 Z2:Prop) (hi:i<=8) (hL:ys.length=L) (hb:L<10000000000000) (hz:zs=ys++[ZfH n i]) (hL':L'=zs.length) (h1:i<8->Z1) (h2:i=8->Z2):
  ZB G0 20 151 0 0 (paS bs ys n L i) (rdM 0 0 9 (paS bs zs n L' (i+1)) (paS bs ys n L i) (paS bs ys n L i) (paS bs ys n L i) Z1 Z2 False False):=by
 refine @Eq.mpr _ (let q1:=wrap u64 (wrap i64 (56-wrap i64 (8*(↑i:Int))));let q2:=ys++[wrap u8 (Int.tmod (Zw u64 (wrap u64 (wrap u64 (↑n:Int)*8)) q1) 256)];let q3:=List.length q2;let q4:=decide (n=n);
 Z0 (decide ((↑i:Int)<8)) (Z0 (decide (0<=q1)) (Z0 (decide (u8=u8/\List.length ys=L)) (Z0 (decide (q3*1<=140737488355328)) (Z0 (decide (wrap i64 ((↑i:Int)+1)=(↑(i+1):Int))) (Z0 (decide (q3=L')) (Z0 (decide (L'<=q3)) (bs=bs/\Z0 q4 (q2=zs/\Z1) False) False) False) False) False) False) False) (Z0 (decide ((↑i:Int)=(↑i:Int))) (Z0 (decide (L=L)) (Z0 (decide (L<=L)) (bs=bs/\Z0 q4 (ys=ys/\Z2) False) False) False) False)) (by kernel_rfl) ?_
 conv=>zeta
 try simp only [Zi]
 try simp only [Zj]
 try simp only [Zf]
 try simp only [Zk]
 try simp only [Zl]
 try simp only [Zg]
 try simp only [Int.toNat_natCast,Nat.zero_add,true_and,and_true,Nat.le_refl]
 have hw:i64.wrap ((i:Int)+1)=((i+1:Nat):Int):=w64 (by omega)
 refine ⟨fun hlt=> ?_,fun hge=>h2 (by omega)⟩
 have hz':zs.length=L+1:=by rw [hz,List.length_append,hL];rfl
 have h0:0<=u64.wrap (i64.wrap (56-i64.wrap (8*(i:Int)))):=by
  unfold wrap
  simp [IntKind.bits,IntKind.signed]
  omega
 simp only [List.length_append,List.length_cons,List.length_nil]
 rw [hw]
 repeat' (first|(refine And.intro ?_ ?_)|intro _)
 all_goals first|exact h0|omega|exact hz.symm|exact h1 (by omega)|trivial
noncomputable def Zj6 (bs y:List Int) (n:Nat):Zh:=G0.withL 151 0 (goM 0 (paS bs (y++W1 n 0) n (y++W1 n 0).length 0) (y.length<=1000000000000) (Yu 0 8 9 (fun i=>i<8) (fun i=>i=8) (fun _=>False) (fun _=>False) (fun i=>paS bs (y++W1 n i) n (y++W1 n i).length i) (fun i=>paS bs (y++W1 n i) n (y++W1 n i).length i) (fun i=>paS bs (y++W1 n i) n (y++W1 n i).length i)))
theorem ZfI (bs y:List Int) (n:Nat):(Zj6 bs y n).Ok:=by
 unfold Zj6
 refine Zh.withGoM (N:=20) (S:=fun i=>paS bs (y++W1 n i) n (y++W1 n i).length i) Zu (by kernel_rfl) fun hC=>⟨rfl,fun i hi hgo=> ?_⟩
 have hl:(y++W1 n i).length=y.length+i:=by rw [List.length_append,Z39]
 exact Zkk bs (y++W1 n i) (y++W1 n (i+1)) n _ _ i _ _ hi rfl (by omega) (by rw [W1,List.append_assoc]) rfl (fun h=>⟨h,h⟩) (fun h=>h)
def Z1E (n:Nat):List Int:=List.replicate (Int.tmod (i64.wrap (128-Int.tmod (i64.wrap ((n:Int)+9)) 64)) 64).toNat 0
@[irreducible] def UB (bs:List Int):List Int:=(bs++[128]++Z1E bs.length)++W1 bs.length 8
theorem ZfJ (n:Nat) (h:n<=100000000000):Int.tmod (i64.wrap (128-Int.tmod (i64.wrap ((n:Int)+9)) 64)) 64=(128-((n:Int)+9)%64)%64:=by
 have e1:i64.wrap ((n:Int)+9)=(n:Int)+9:=w64 (by omega)
 have e2:Int.tmod ((n:Int)+9) 64=((n:Int)+9)%64:=tm (by omega)
 have e3:i64.wrap (128-((n:Int)+9)%64)=128-((n:Int)+9)%64:=w64 (by omega)
 rw [e1,e2,e3,tm (by omega)]
theorem Zd6 (n:Nat) (h:n<=100000000000):(Z1E n).length<=64:=by
 unfold Z1E
 rw [ZfJ n h,List.length_replicate]
 omega
theorem Zkl (bs y r:List Int) (n L:Nat) (hn:bs.length=n) (hb:n<=100000000000) (hy:y=bs++[128]++Z1E n) (hr:r=y++W1 n 8) (hL:L=r.length):
  evF (Zj6 bs y n) 20 151 [.vints .u8 bs n] ⟨0,[]⟩ (ZX 0 (.ret (.nslice ⟨0,0,0,0,0⟩ 1 L L)) 1 [(0,.ints .u8 r)]):=by
 refine @Eq.mpr _ (let q1:=[]++List.take n bs;let q2:=List.length q1;let q3:=q1++[(128:Int)];let q4:=List.length q3;let q5:=Int.tmod (wrap i64 (128-Int.tmod (wrap i64 (↑n+9)) 64)) 64;let q6:=Int.toNat q5;let q7:=q3++List.replicate q6 0;let q8:=List.length q7;let q9:=y++W1 (↑n) 0;let q10:=List.length q9;
 Z0 (decide (q2*1<=140737488355328))
 (Z0 (decide (u8=u8/\q2=q2))
 (Z0 (decide (q4*1<=140737488355328))
 (Z0 (decide (u8=u8/\q4=q4))
 (Z0 (decide ((0:Int)=0/\0<=q5/\(q4+q6)*1<=140737488355328))
 (Z0 (decide (q8=q10))
 (Z0 (decide (q10<=q8))
 (bs=bs/\
 Z0 (decide (n=n))
 (q7=q9/\
 List.length y<=1000000000000/\
 ∀(i:Nat),
 let q21:=y++W1 (↑n) i;let q22:=List.length q21;
 i<=8->(∀(j:Nat),j<i->(fun (i:Nat)=>i<8) j)->(i=8->Z0 (decide (q22=L)) (Z0 (decide (L<=q22)) (q21=r/\True) False) False)/\(False->False)/\(False->False))
 False)
 False)
 False)
 False)
 False)
 False)
 False)
 False) (by kernel_rfl) ?_
 conv=>zeta
 try simp only [Zi]
 try simp only [Zj]
 try simp only [Zf]
 try simp only [Zk]
 try simp only [Zl]
 try simp only [Zg]
 try simp only [Int.toNat_natCast,Nat.zero_add,true_and,and_true,Nat.le_refl]
 have ht:List.take n bs=bs:=by rw [<-hn];exact List.take_length
 have hz:=Zd6 n hb
 have hx:=ZfJ n hb
 have e0:[]++List.take n bs++[128]++List.replicate (Int.tmod (i64.wrap (128-Int.tmod (i64.wrap ((n:Int)+9)) 64)) 64).toNat 0=y++W1 n 0:=by rw [ht,hy];simp [Z1E,W1]
 have hyl:y.length=n+1+(Z1E n).length:=by rw [hy,List.length_append,List.length_append,hn];rfl
 subst hL hr
 simp only [e0,ht,List.length_append,List.length_cons,List.length_nil,hn,List.nil_append]
 refine ⟨by omega,by omega,⟨by omega,by omega⟩, ?_, ?_, ?_,by omega,fun i hi _=>⟨fun he=>by subst he;exact ⟨rfl,Nat.le_refl _,rfl⟩,fun h=>h,fun h=>h⟩⟩
 ·rw [hyl];unfold Z1E W1;rfl
 ·rw [hyl];unfold Z1E W1;exact Nat.le_refl _
 ·rw [hy];simp [Z1E,W1]
theorem Zb1 (bs:List Int) (h:bs.length<=100000000000):ZA PP 151 [.vints .u8 bs bs.length] (.nslice ⟨0,0,0,0,0⟩ 1 (UB bs).length (UB bs).length) 1 [(0,.ints .u8 (UB bs))]:=.evM (ZfI bs _ _) (Zkl bs _ _ _ _ rfl h rfl (by unfold UB;rfl) rfl)
def ZhL (P:List Int->List Int) (B:Nat):Y8:=fun args h K=>ZP none h true 20 args fun a=>QS a fun xs=>Zx (xs.length<=B) (K (.ret (.nslice ⟨h.next,0,0,0,0⟩ 1 (P xs).length (P xs).length)) ⟨h.next+1,(h.next,.ints .u8 (P xs))::h.bs⟩)
theorem Zd7 (B:Nat) (hB:B<=100000000000) (args:List AV) (h:Z9) (K:KO) (hl:ZhL UB B args h K):Zn PP 151 args h K:=by
 refine ZA.fsumm (d:=20) (Zs _ _ _ _ _ hl fun a ha=> ?_)
 obtain ⟨xs,rfl,hK⟩:=VI ha
 obtain ⟨hx,hK⟩:=Ze hK
 exact ⟨_,_,_,_,Zb1 xs (Nat.le_trans hx hB),rfl,⟨Nat.one_pos,.ints _ _,trivial⟩,hK⟩
def toE (x d:Int):Int:=u8.wrap (Int.tmod (u32.wrap (Int.tdiv x d)) 256)
def toN (x:List Int):Nat->List Int
 | 0=>Za
 | i+1=>((((toN x i).set (4*i) (u8.wrap (u32.wrap (Int.tdiv (x.getD i 0) 16777216)))).set (4*i+1) (toE (x.getD i 0) 65536)).set (4*i+2) (toE (x.getD i 0) 256)).set (4*i+3) (u8.wrap (Int.tmod (x.getD i 0) 256))
theorem Z5t (x:List Int):∀i,(toN x i).length=32
 | 0=>rfl
 | i+1=>by simp [toN,Z5t x i]
def toS (x h:List Int) (i:Nat):St:=⟨47,[(4,.int .i64 i),(1,pt 0),(3,pt 2),(2,pt 1)],⟨3,[(2,.flat [.arr .u8 32 h]),(1,.flat [.arr .u8 32 Za]),(0,.flat [.arr .u32 8 x])]⟩,[]⟩
theorem Zmv (x h h':List Int) (i:Nat) (Z1 Z2:Prop) (hi:i<=8) (hl:h.length=32) (hh:h'=(((h.set (4*i) (u8.wrap (u32.wrap (Int.tdiv (x.getD i 0) 16777216)))).set (4*i+1) (toE (x.getD i 0) 65536)).set (4*i+2) (toE (x.getD i 0) 256)).set (4*i+3) (u8.wrap (Int.tmod (x.getD i 0) 256))) (h1:i<8->Z1) (h2:i=8->Z2):
  ZB G0 20 153 0 0 (toS x h i) (rdM 0 0 9 (toS x h' (i+1)) (toS x h i) (toS x h i) (toS x h i) Z1 Z2 False False):=by
 refine @Eq.mpr _ (let q1:=decide (0<=(↑i:Int)/\(↑i:Int)<8);let q2:=0+Int.toNat (↑i:Int);let q3:=decide (q2<8);let q4:=wrap i64 (4*(↑i:Int));let q5:=0+Int.toNat q4;let q6:=wrap i64 (q4+1);let q7:=0+Int.toNat q6;let q8:=List.getD x q2 0;let q9:=List.set h q5 (wrap u8 (wrap u32 (Int.tdiv q8 16777216)));let q10:=wrap i64 (q4+2);let q11:=0+Int.toNat q10;let q12:=List.set q9 q7 (wrap u8 (Int.tmod (wrap u32 (Int.tdiv q8 65536)) 256));let q13:=wrap i64 (q4+3);let q14:=0+Int.toNat q13;let q15:=List.set q12 q11 (wrap u8 (Int.tmod (wrap u32 (Int.tdiv q8 256)) 256));
 Z0 (decide ((↑i:Int)<8)) (Z0 q1 (Z0 q3 (Z0 (decide (0<=q4/\q4<32)) (Z0 (decide (u8=u8/\q5<32/\q5<List.length h)) (Z0 q1 (Z0 q3 (Z0 (decide (0<=q6/\q6<32)) (Z0 (decide (u8=u8/\q7<32/\q7<List.length q9)) (Z0 q1 (Z0 q3 (Z0 (decide (0<=q10/\q10<32)) (Z0 (decide (u8=u8/\q11<32/\q11<List.length q12)) (Z0 q1 (Z0 q3 (Z0 (decide (0<=q13/\q13<32)) (Z0 (decide (u8=u8/\q14<32/\q14<List.length q15)) (Z0 (decide (wrap i64 ((↑i:Int)+1)=(↑(i+1):Int))) (List.set q15 q14 (wrap u8 (Int.tmod q8 256))=h'/\Za=Za/\x=x/\Z1) False) False) False) False) False) False) False) False) False) False) False) False) False) False) False) False) False) (Z0 (decide ((↑i:Int)=(↑i:Int))) (h=h/\Za=Za/\x=x/\Z2) False)) (by kernel_rfl) ?_
 conv=>zeta
 try simp only [Zi]
 try simp only [Zj]
 try simp only [Zf]
 try simp only [Zk]
 try simp only [Zl]
 try simp only [Zg]
 try simp only [Int.toNat_natCast,Nat.zero_add,true_and,and_true,Nat.le_refl]
 have hw:i64.wrap ((i:Int)+1)=((i+1:Nat):Int):=w64 (by omega)
 refine ⟨fun hlt=> ?_,fun hge=>h2 (by omega)⟩
 have e0:i64.wrap (4*(i:Int))=((4*i:Nat):Int):=by rw [w64 (by omega)];omega
 have e1:i64.wrap (((4*i:Nat):Int)+1)=((4*i+1:Nat):Int):=by rw [w64 (by omega)];omega
 have e2:i64.wrap (((4*i:Nat):Int)+2)=((4*i+2:Nat):Int):=by rw [w64 (by omega)];omega
 have e3:i64.wrap (((4*i:Nat):Int)+3)=((4*i+3:Nat):Int):=by rw [w64 (by omega)];omega
 simp only [e0,e1,e2,e3,hw,Int.toNat_natCast,List.length_set]
 repeat' (first|(refine And.intro ?_ ?_)|intro _)
 all_goals first|omega|exact hh.symm|exact h1 (by omega)|trivial
noncomputable def Zj7 (x:List Int):Zh:=G0.withL 153 0 (goM 0 (toS x Za 0) True (Yu 0 8 9 (fun i=>i<8) (fun i=>i=8) (fun _=>False) (fun _=>False) (fun i=>toS x (toN x i) i) (fun i=>toS x (toN x i) i) (fun i=>toS x (toN x i) i)))
theorem ZfK (x:List Int):(Zj7 x).Ok:=by
 unfold Zj7
 refine Zh.withGoM (N:=20) (S:=fun i=>toS x (toN x i) i) Zu (by kernel_rfl) fun hC=>⟨rfl,fun i hi hgo=> ?_⟩
 exact Zmv x (toN x i) (toN x (i+1)) i _ _ hi (Z5t x i) rfl (fun h=>⟨h,h⟩) (fun h=>h)
@[irreducible] def Uc (x:List Int):List Int:=toN x 8
attribute [irreducible] toN
theorem Zmw (x r:List Int) (hr:r=toN x 8):
  evF (Zj7 x) 20 153 [.agg [.arr .u32 8 x]] ⟨0,[]⟩ (Wn 0 [] (.agg [.arr .u8 32 r]) 0 []):=by
 refine @Eq.mpr _ (Za=Za/\Za=Za/\x=x/\True/\∀(i:Nat),i<=8->(∀(j:Nat),j<i->(fun (i:Nat)=>i<8) j)->(i=8->toN x i=r/\True)/\(False->Za=r/\True)/\(False->False)) (by kernel_rfl) ?_
 try simp only [Zi]
 try simp only [Zj]
 try simp only [Zf]
 try simp only [Zk]
 try simp only [Zl]
 try simp only [Zg]
 try simp only [Int.toNat_natCast,Nat.zero_add,true_and,and_true,Nat.le_refl]
 subst hr
 exact fun i hi _=>⟨fun he=>by subst he;rfl,fun h=>h.elim,fun h=>h⟩
def Zd8 (T:List Int->List Int):ZK:=fun args _ K=>match args with
 | [.agg [.arr .u32 8 x]]=>K (.agg [.arr .u8 32 (T x)])
 | _=>False
theorem Zd9 (args:List AV) (h:Z9) (K:AV->Prop) (hl:Zd8 Uc args h K):Zn PP 153 args h fun o h'=>∃v,o=.ret v/\h'=h/\K v:=by
 unfold Zd8 at hl
 split at hl
 ·rename_i x
  refine Z0g (d:=20) (K0:=fun l=>l=[.agg [.arr .u32 8 x]]) ?_ fun l e=>⟨_,by rw [e];exact (by unfold Uc;exact .ev (ZfK x) (Zmw x _ rfl)),fun _=>rfl,hl⟩
  rfl
 ·exact hl.elim
end Go.Tk
end
section
namespace Go.Tk
open IntKind (i64 u8 u32 u64 wrap)
def Z5u (P:List Int->List Int->List Int):ZK:=fun args _ K=>match args with
 | [.agg [.arr .u32 8 st],.agg [.arr .u8 64 bl]]=>Zx (st.length=8) (K (.agg [.arr .u32 8 (P st bl)]))
 | _=>False
structure Q6 (P:List Int->List Int->List Int):Prop where
 pure:∀st bl,st.length=8->ZA PP 152 [.agg [.arr .u32 8 st],.agg [.arr .u8 64 bl]] (.agg [.arr .u32 8 (P st bl)]) 0 []
 len:∀st bl,st.length=8->(P st bl).length=8
theorem Z8v {P:List Int->List Int->List Int} (hP:Q6 P) (args:List AV) (h:Z9) (K:AV->Prop) (hl:Z5u P args h K):Zn PP 152 args h fun o h'=>∃v,o=.ret v/\h'=h/\K v:=by
 unfold Z5u at hl
 split at hl
 ·rename_i st bl
  obtain ⟨hs,hK⟩:=Ze hl
  refine Z0g (d:=20) (K0:=fun l=>l=[.agg [.arr .u32 8 st],.agg [.arr .u8 64 bl]]) ?_ fun l e=>⟨_,by rw [e];exact hP.pure st bl hs,fun _=>rfl,hK⟩
  rfl
 ·exact hl.elim
noncomputable def E56 (P:List Int->List Int->List Int) (Q:List Int->List Int) (T:List Int->List Int) (B:Nat):Zh:=((G0.withP 152 (Z5u P)).withF 151 (ZhL Q B)).withP 153 (Zd8 T)
theorem Zj8 {P:List Int->List Int->List Int} (hP:Q6 P) {B:Nat} (hB:B<=100000000000):(E56 P UB Uc B).Ok:=Zh.withP_ok (Zh.withF_ok (Zh.withP_ok Zu (Z8v hP)) (Zd7 B hB)) Zd9
def ZfL (ys st:List Int) (o n:Nat):St:=⟨21,[(4,.nslice ⟨3,0,0,0,o⟩ 1 n n),(3,pt 2),(2,pt 0)],⟨4,[(3,.ints .u8 ys),(2,.flat [.arr .u32 8 st]),(0,.flat [.arr .u8 32 Za])]⟩,[]⟩
def Zb2 (st:List Int):St:=⟨21,[(3,pt 2),(2,pt 0)],⟨4,[(2,.flat [.arr .u32 8 st]),(0,.flat [.arr .u8 32 Za])]⟩,[]⟩
theorem Zkm (P:List Int->List Int->List Int) (Q:List Int->List Int) (T:List Int->List Int) (B:Nat) (ys st st':List Int) (o o' n n' k i:Nat) (Z1 Z2:Prop) (hi:i<=k) (hk:ys.length=64*k) (ho:o=64*i) (ho':o'=64*(i+1)) (hn:n=64*k-64*i) (hn':n'=64*k-64*(i+1)) (hs:st.length=8) (hst:st'=P st ((ys.drop o).take 64)) (h1:i<k->Z1) (h2:i=k->Z2):
  ZB (E56 P Q T B) 20 102 0 0 (ZfL ys st o n) (rdM 0 0 9 (ZfL ys st' o' n') (Zb2 st) (Zb2 st) (Zb2 st) Z1 Z2 False False):=by
 refine @Eq.mpr _ (let q1:=decide (n<=n);let q2:=decide ((0:Int)<=64/\64<=(↑n:Int));let q3:=WL n (some 64);
 Z0 (decide ((↑n:Int)>0)) (Z0 q1 (Z0 q2 (Z0 (decide (o+0+64<=List.length ys)) (Z0 (decide (List.length st=8)) (Z0 q1 (Z0 q2 (Z0 (decide (o+64=o')) (Z0 (decide (q3=n')) (Z0 (decide (n'<=q3)) (ys=ys/\P st (List.take 64 (List.drop (o+0) ys))=st'/\Za=Za/\Z1) False) False) False) False) False) False) False) False) False) (st=st/\Za=Za/\Z2)) (by kernel_rfl) ?_
 conv=>zeta
 try simp only [Zi]
 try simp only [Zj]
 try simp only [Zf]
 try simp only [Zk]
 try simp only [Zl]
 try simp only [Zg]
 try simp only [Int.toNat_natCast,Nat.zero_add,true_and,and_true,Nat.le_refl]
 refine ⟨fun hlt=> ?_,fun hge=>h2 (by omega)⟩
 have e1:n-64=n':=by omega
 have e2:o+64=o':=by omega
 simp only [WL,e1,e2,Nat.add_zero]
 repeat' (first|(refine And.intro ?_ ?_)|intro _)
 all_goals first|omega|exact hst.symm|exact h1 (by omega)|trivial
def Qg (P:List Int->List Int->List Int) (ys:List Int):Nat->List Int
 | 0=>Xl.st
 | i+1=>P (Qg P ys i) ((ys.drop (64*i)).take 64)
theorem Z6J {P:List Int->List Int->List Int} (hP:Q6 P) (ys:List Int):∀i,(Qg P ys i).length=8
 | 0=>rfl
 | i+1=>hP.len _ _ (Z6J hP ys i)
theorem Z4v (P:List Int->List Int->List Int) (ys:List Int):Qg P ys 0=Xl.st:=rfl
theorem Z4w (P:List Int->List Int->List Int) (ys:List Int) (i:Nat):Qg P ys (i+1)=P (Qg P ys i) ((ys.drop (64*i)).take 64):=rfl
attribute [irreducible] Qg
noncomputable def Zj9 (P:List Int->List Int->List Int) (Q:List Int->List Int) (T:List Int->List Int) (B:Nat) (ys:List Int) (L k:Nat):Zh:=(E56 P Q T B).withL 102 0 (goM 0 (ZfL ys [1779033703,3144134277,1013904242,2773480762,1359893119,2600822924,528734635,1541459225] 0 L) (ys.length=64*k/\L=64*k) (Yu 0 k 9 (fun i=>i<k) (fun i=>i=k) (fun _=>False) (fun _=>False) (fun i=>Zb2 (Qg P ys i)) (fun i=>Zb2 (Qg P ys i)) (fun i=>Zb2 (Qg P ys i))))
theorem ZfM {P:List Int->List Int->List Int} (hP:Q6 P) {B:Nat} (hB:B<=100000000000) (ys:List Int) (L k:Nat):(Zj9 P UB Uc B ys L k).Ok:=by
 unfold Zj9
 refine Zh.withGoM (N:=20) (S:=fun i=>ZfL ys (Qg P ys i) (64*i) (64*k-64*i)) (Zj8 hP hB) (by kernel_rfl) fun hC=>⟨?_,fun i hi hgo=> ?_⟩
 ·rw [hC.2,Z4v];rfl
 ·exact Zkm P UB Uc B ys (Qg P ys i) (Qg P ys (i+1)) _ _ _ _ k i _ _ hi hC.1 rfl rfl rfl rfl (Z6J hP ys i) (Z4w _ _ _) (fun h=>⟨h,h⟩) (fun h=>h)
theorem Zkn (P:List Int->List Int->List Int) (Q:List Int->List Int) (T:List Int->List Int) (B:Nat) (bs ys r:List Int) (n L k:Nat) (hn:n=bs.length) (hB:n<=B) (hy:ys=Q bs) (hL:L=ys.length) (hk:ys.length=64*k) (hr:r=T (Qg P ys k)):
  evF (Zj9 P Q T B ys L k) 20 102 [.vints .u8 bs n] ⟨0,[]⟩ (Wn 0 [] (.agg [.arr .u8 32 r]) 0 []):=by
 refine @Eq.mpr _ (let q1:=[(1779033703:Int),3144134277,1013904242,2773480762,1359893119,2600822924,528734635,1541459225];
 Z0 (decide (n=List.length bs)) (Z0 (decide (List.length bs<=B)) (Z0 (decide (List.length (Q bs)=L)) (Z0 (decide (L<=List.length (Q bs))) (Q bs=ys/\q1=q1/\Za=Za/\(List.length ys=64*k/\L=64*k)/\∀(i:Nat),i<=k->(∀(j:Nat),j<i->(fun (i:Nat)=>i<k) j)->(i=k->T (Qg P ys i)=r/\True)/\(False->Za=r/\True)/\(False->False)) False) False) False) False) (by kernel_rfl) ?_
 conv=>zeta
 try simp only [Zi]
 try simp only [Zj]
 try simp only [Zf]
 try simp only [Zk]
 try simp only [Zl]
 try simp only [Zg]
 try simp only [Int.toNat_natCast,Nat.zero_add,true_and,and_true,Nat.le_refl]
 subst hy hr
 refine ⟨hn,by omega, ?_⟩
 exact ⟨hL.symm,by omega,rfl,⟨hk,by omega⟩,fun i hi _=>⟨fun he=>by rw [he],fun h=>h.elim,fun h=>h⟩⟩
theorem Zda (bs:List Int) (h:bs.length<=100000000000):(UB bs).length=64*((UB bs).length/64):=by
 have:(UB bs).length=bs.length+1+((128-((bs.length:Int)+9)%64)%64).toNat+8:=by
  unfold UB Z1E
  rw [ZfJ _ h]
  simp only [List.length_append,List.length_cons,List.length_nil,Z39,List.length_replicate]
 omega
@[irreducible] def Zdb (P:List Int->List Int->List Int) (bs:List Int):List Int:=Uc (Qg P (UB bs) ((UB bs).length/64))
theorem Zb3 {P:List Int->List Int->List Int} (hP:Q6 P) (bs:List Int) (h:bs.length<=100000000000):ZA PP 102 [.vints .u8 bs bs.length] (.agg [.arr .u8 32 (Zdb P bs)]) 0 []:=by
 unfold Zdb
 exact .ev (ZfM hP (Nat.le_refl _) _ _ _) (Zkn P UB Uc 100000000000 bs _ _ _ _ _ rfl h rfl rfl (Zda bs h) rfl)
def Z9A (H:List Int->List Int) (B:Nat):ZK:=fun args h K=>ZP none h true 20 args fun a=>QS a fun xs=>Zx (xs.length<=B) (K (.agg [.arr .u8 32 (H xs)]))
theorem Z3a {f:FuncId} {H:List Int->List Int} {B:Nat} (hp:∀xs:List Int,xs.length<=B->ZA PP f [.vints .u8 xs xs.length] (.agg [.arr .u8 32 (H xs)]) 0 []) (args:List AV) (h:Z9) (K:AV->Prop) (hl:Z9A H B args h K):Zn PP f args h fun o h'=>∃v,o=.ret v/\h'=h/\K v:=by
 refine ZA.psumm (d:=20) (Zs _ _ _ _ _ hl fun a ha=> ?_)
 obtain ⟨xs,rfl,hK⟩:=VI ha
 obtain ⟨hx,hK⟩:=Ze hK
 exact ⟨_,hp xs hx,fun _=>rfl,hK⟩
end Go.Tk
end
section
namespace Go.Tk
open IntKind (i64 u8 u32 u64 wrap)
end Go.Tk
end
section
namespace Go.Tk
open IntKind (i64 u8 u32 u64 wrap)
def U32 (x:Int):Prop:=0<=x/\x<4294967296
theorem Z6K (x:Int):u32.wrap x=x%4294967296:=by
 unfold wrap
 simp [IntKind.bits,IntKind.signed]
theorem Z0W (x:Int):U32 (u32.wrap x):=by rw [Z6K];unfold U32;omega
theorem XY {x:Int} (h:U32 x):u32.wrap x=x:=by rw [Z6K];unfold U32 at h;omega
theorem wr8 (x:Int):u8.wrap x=x%256:=by
 unfold wrap
 simp [IntKind.bits,IntKind.signed]
theorem Zko (x y:Int):U32 (bOr .u32 x y):=Z0W _
theorem WV (x y:Nat) (hx:x<4294967296) (hy:y<4294967296):YZ .u32 x y=((x^^^y:Nat):Int):=by
 unfold YZ
 rw [XY]
 ·show (((BitVec.ofInt 32 (x:Int)^^^BitVec.ofInt 32 (y:Int)).toNat:Nat):Int)=_
  rw [BitVec.toNat_xor,BitVec.ofInt_natCast,BitVec.ofInt_natCast,BitVec.toNat_ofNat,BitVec.toNat_ofNat,Nat.mod_eq_of_lt hx,Nat.mod_eq_of_lt hy]
 ·unfold U32
  have:=(BitVec.ofInt u32.bits x^^^BitVec.ofInt u32.bits y).isLt
  simp only [IntKind.bits] at this
  simp only [IntKind.bits]
  omega
theorem Z5v (x y:Nat) (hx:x<4294967296) (hy:y<4294967296):bOr .u32 x y=((x|||y:Nat):Int):=by
 unfold bOr
 rw [XY]
 ·show (((BitVec.ofInt 32 (x:Int)|||BitVec.ofInt 32 (y:Int)).toNat:Nat):Int)=_
  rw [BitVec.toNat_or,BitVec.ofInt_natCast,BitVec.ofInt_natCast,BitVec.toNat_ofNat,BitVec.toNat_ofNat,Nat.mod_eq_of_lt hx,Nat.mod_eq_of_lt hy]
 ·unfold U32
  have:=(BitVec.ofInt u32.bits x|||BitVec.ofInt u32.bits y).isLt
  simp only [IntKind.bits] at this
  simp only [IntKind.bits]
  omega
theorem Z3b (x y:Nat) (hx:x<4294967296) (hy:y<4294967296):Z1y .u32 x y=((x&&&y:Nat):Int):=by
 unfold Z1y
 rw [XY]
 ·show (((BitVec.ofInt 32 (x:Int)&&&BitVec.ofInt 32 (y:Int)).toNat:Nat):Int)=_
  rw [BitVec.toNat_and,BitVec.ofInt_natCast,BitVec.ofInt_natCast,BitVec.toNat_ofNat,BitVec.toNat_ofNat,Nat.mod_eq_of_lt hx,Nat.mod_eq_of_lt hy]
 ·unfold U32
  have:=(BitVec.ofInt u32.bits x&&&BitVec.ofInt u32.bits y).isLt
  simp only [IntKind.bits] at this
  simp only [IntKind.bits]
  omega
theorem U32.nat {x:Int} (h:U32 x):∃n:Nat,x=n/\n<4294967296:=⟨x.toNat,by unfold U32 at h;omega,by unfold U32 at h;omega⟩
theorem U32.of {n:Nat} (h:n<4294967296):U32 (n:Int):=by unfold U32;omega
theorem Zb4 {x y:Int}:YZ .u32 x y=YZ .u32 y x:=by unfold YZ;rw [BitVec.xor_comm]
theorem Z8w {x y z:Int} (hx:U32 x) (hy:U32 y) (hz:U32 z):YZ .u32 (YZ .u32 x y) z=YZ .u32 x (YZ .u32 y z):=by
 obtain ⟨x,rfl,gx⟩:=hx.nat
 obtain ⟨y,rfl,gy⟩:=hy.nat
 obtain ⟨z,rfl,gz⟩:=hz.nat
 rw [WV x y gx gy,WV y z gy gz,WV _ z (Nat.xor_lt_two_pow (n:=32) gx gy) gz,WV x _ gx (Nat.xor_lt_two_pow (n:=32) gy gz),Nat.xor_assoc]
theorem Zb5 {x:Int} (hx:U32 x):YZ .u32 0 x=x:=by
 obtain ⟨x,rfl,gx⟩:=hx.nat
 have:=WV 0 x (by omega) gx
 simpa using this
theorem Z5w (x n:Nat) (hn:n<=32):Zw .u32 x n=((x/2^n:Nat):Int):=by
 unfold Zw
 have:min (n:Int).toNat u32.bits=n:=by simp [IntKind.bits];omega
 rw [this,Int.fdiv_eq_ediv_of_nonneg _ (Int.le_of_lt (Int.pow_pos (by decide)))]
 simp
theorem Zkp {x:Int} (hx:U32 x) (n:Nat) (hn:n<=32):U32 (Zw .u32 x n):=by
 obtain ⟨x,rfl,gx⟩:=hx.nat
 rw [Z5w x n hn]
 exact U32.of (Nat.lt_of_le_of_lt (Nat.div_le_self x (2^n)) gx)
theorem Z8x (w n:Int):U32 (Z8a w n):=Zko _ _
theorem Z9B {w:Int} (hw:U32 w) (a b c:Int):sg3 a b c w=Wv 32 [a,b,c] w:=by
 obtain ⟨x,rfl,gx⟩:=hw.nat
 have h0:Zw .u32 (x:Int) 32=0:=by
  rw [show (32:Int)=((32:Nat):Int) from rfl,Z5w x 32 (by omega),Nat.div_eq_of_lt gx]
  rfl
 unfold sg3 Wv
 simp only [List.foldl_cons,List.foldl_nil,h0,Zb5 (Z8x _ _)]
theorem Z9C {w:Int} (hw:U32 w) (a b:Int) (n:Nat) (hn:n<=32):rg3 a b n w=Wv n [a,b] w:=by
 have hs:=Zkp hw n hn
 unfold rg3 Wv
 simp only [List.foldl_cons,List.foldl_nil]
 rw [Zb4,Z8w hs (Z8x _ _) (Z8x _ _)]
theorem WC (x i:Nat) (hi:i<=32):Int.tmod (Zw .u32 x i) 2=(((x.testBit i).toNat:Nat):Int):=by
 rw [Z5w x i hi]
 rw [Int.tmod_eq_emod_of_nonneg (Int.natCast_nonneg _),Nat.toNat_testBit]
 rfl
theorem Z5x (b:Bool) (i:Nat) (hi:i<32):ZI .u32 ((b.toNat:Nat):Int) i=((2^i*b.toNat:Nat):Int):=by
 unfold ZI
 have:min (i:Int).toNat u32.bits=i:=by simp [IntKind.bits];omega
 rw [this]
 have h2:(2:Nat)^i<2^32:=Nat.pow_lt_pow_right (by decide) hi
 have h3:((2:Nat)^i*b.toNat)<4294967296:=by cases b<;>simp_all
 rw [show ((b.toNat:Nat):Int)*2^i=((2^i*b.toNat:Nat):Int) by push_cast;rw [Int.mul_comm]]
 exact XY (U32.of h3)
theorem Z9D (x i:Nat):x%2^(i+1)=x%2^i+2^i*(x.testBit i).toNat:=by
 rw [Nat.toNat_testBit,Nat.mod_pow_succ]
theorem Z9E (x i:Nat) (hx:x<4294967296) (hi:i<32):u32.wrap (((x%2^i:Nat):Int)+((2^i*(x.testBit i).toNat:Nat):Int))=((x%2^(i+1):Nat):Int):=by
 rw [Z9D]
 rw [XY]
 ·push_cast;rfl
 ·rw [show ((x%2^i:Nat):Int)+((2^i*(x.testBit i).toNat:Nat):Int)=((x%2^i+2^i*(x.testBit i).toNat:Nat):Int) by push_cast;rfl,<-Z9D]
  exact U32.of (Nat.lt_of_le_of_lt (Nat.mod_le _ _) hx)
theorem Z4x (a b c:Nat) (ha:a<4294967296) (hb:b<4294967296) (hc:c<4294967296):∀i,i<=32->Ve a b c i=(((a&&&(b|||c)|||b&&&c)%2^i:Nat):Int)
 | 0,_=>by simp [Ve,Nat.mod_one]
 | i+1,hi=>by
  have hm:(a&&&(b|||c)|||b&&&c)<4294967296:=Nat.or_lt_two_pow (n:=32) (Nat.lt_of_le_of_lt Nat.and_le_left ha) (Nat.lt_of_le_of_lt Nat.and_le_left hb)
  rw [Ve,Z4x a b c ha hb hc i (by omega),WC a i (by omega),WC b i (by omega),WC c i (by omega),<-Z9E _ i hm (by omega)]
  have ht:(a&&&(b|||c)|||b&&&c).testBit i=(a.testBit i&&(b.testBit i||c.testBit i)||b.testBit i&&c.testBit i):=by simp
  rw [ht]
  have h1:=Z5x true i (by omega)
  have hx:u32.wrap (((a&&&(b|||c)|||b&&&c)%2^i:Nat):Int)=(((a&&&(b|||c)|||b&&&c)%2^i:Nat):Int):=XY (U32.of (Nat.lt_of_le_of_lt (Nat.mod_le _ _) hm))
  rw [Z6K,Z6K]
  cases a.testBit i<;>cases b.testBit i<;>cases c.testBit i<;>simp at h1 hx⊢ <;>first|rw [h1]|rw [hx]
theorem ZfN {a b c:Int} (ha:U32 a) (hb:U32 b) (hc:U32 c):XE a b c=bOr .u32 (Z1y .u32 a (bOr .u32 b c)) (Z1y .u32 b c):=by
 obtain ⟨a,rfl,ga⟩:=ha.nat
 obtain ⟨b,rfl,gb⟩:=hb.nat
 obtain ⟨c,rfl,gc⟩:=hc.nat
 have h1:=Nat.or_lt_two_pow (n:=32) gb gc
 have h2:a&&&(b|||c)<4294967296:=Nat.lt_of_le_of_lt Nat.and_le_left ga
 have h3:b&&&c<4294967296:=Nat.lt_of_le_of_lt Nat.and_le_left gb
 rw [Z5v b c gb gc,Z3b a _ ga h1,Z3b b c gb gc,Z5v _ _ h2 h3]
 unfold XE
 rw [Z4x a b c ga gb gc 32 (by omega),Nat.mod_eq_of_lt]
 exact Nat.or_lt_two_pow (n:=32) h2 h3
theorem Z4y (a b c:Nat) (ha:a<4294967296) (hb:b<4294967296) (hc:c<4294967296):∀i,i<=32->VM a b c i=(((c^^^(a&&&(b^^^c)))%2^i:Nat):Int)
 | 0,_=>by simp [VM,Nat.mod_one]
 | i+1,hi=>by
  have hm:(c^^^(a&&&(b^^^c)))<4294967296:=Nat.xor_lt_two_pow (n:=32) hc (Nat.lt_of_le_of_lt Nat.and_le_left ha)
  rw [VM,Z4y a b c ha hb hc i (by omega),WC a i (by omega),WC b i (by omega),WC c i (by omega),<-Z9E _ i hm (by omega)]
  have ht:(c^^^(a&&&(b^^^c))).testBit i=(c.testBit i^^(a.testBit i&&(b.testBit i^^c.testBit i))):=by simp
  rw [ht]
  have h1:=Z5x true i (by omega)
  have h0:=Z5x false i (by omega)
  cases a.testBit i<;>cases b.testBit i<;>cases c.testBit i<;>simp at h1 h0⊢ <;>first|rw [h1]|rw [h0,Int.add_zero]
theorem ZfO {a b c:Int} (ha:U32 a) (hb:U32 b) (hc:U32 c):Xx a b c=YZ .u32 c (Z1y .u32 a (YZ .u32 b c)):=by
 obtain ⟨a,rfl,ga⟩:=ha.nat
 obtain ⟨b,rfl,gb⟩:=hb.nat
 obtain ⟨c,rfl,gc⟩:=hc.nat
 have h1:=Nat.xor_lt_two_pow (n:=32) gb gc
 have h2:a&&&(b^^^c)<4294967296:=Nat.lt_of_le_of_lt Nat.and_le_left ga
 rw [WV b c gb gc,Z3b a _ ga h1,WV _ _ gc h2]
 unfold Xx
 rw [Z4y a b c ga gb gc 32 (by omega),Nat.mod_eq_of_lt]
 exact Nat.xor_lt_two_pow (n:=32) gc h2
theorem Z4z (bl:List Int) (t:Nat):Wj bl (t+1)=(Wj bl t).set t (if t<16 then Z8u bl t else Zd5 (Wj bl t) t):=by rw [Wj]
theorem Z4A (bl:List Int) (s t:Nat) (hs:s<t):∀u,(Wj bl (t+u)).getD s 0=(Wj bl t).getD s 0
 | 0=>rfl
 | u+1=>by
  rw [<-Nat.add_assoc,Z4z,<-Z4A bl s t hs u]
  simp only [List.getD_eq_getElem?_getD]
  rw [List.getElem?_set_ne (by omega)]
@[irreducible] def Z1F (bl:List Int) (t:Nat):Int:=(Wj bl 64).getD t 0
theorem Z0n (bl:List Int) {s t:Nat} (hs:s<t) (ht:t<=64):(Wj bl t).getD s 0=Z1F bl s:=by
 unfold Z1F
 have:=Z4A bl s t hs (64-t)
 rw [show t+(64-t)=64 by omega] at this
 exact this.symm
theorem Z9F (bl:List Int) {t:Nat} (ht:t<64):Z1F bl t=if t<16 then Z8u bl t else Zd5 (Wj bl t) t:=by
 rw [<-Z0n bl (Nat.lt_succ_self t) (by omega),Z4z]
 simp only [List.getD_eq_getElem?_getD]
 rw [List.getElem?_set_self (by rw [Z37];omega)]
 rfl
theorem Z9G (bl:List Int) {t:Nat} (ht:t<16):Z1F bl t=Z8u bl t:=by rw [Z9F bl (by omega),if_pos ht]
theorem Z9H (bl:List Int) {t:Nat} (h16:16<=t) (ht:t<64):Z1F bl t=u32.wrap (u32.wrap (u32.wrap (rg3 17 19 10 (Z1F bl (t-2))+Z1F bl (t-7))+rg3 7 18 3 (Z1F bl (t-15)))+Z1F bl (t-16)):=by
 rw [Z9F bl (by omega),if_neg (by omega)]
 unfold Zd5
 rw [Z0n bl (by omega) (by omega),Z0n bl (by omega) (by omega),Z0n bl (by omega) (by omega),Z0n bl (by omega) (by omega)]
theorem Zdc (bl:List Int) {t:Nat} (ht:t<64):U32 (Z1F bl t):=by
 by_cases h:t<16
 ·rw [Z9G bl h];exact Z0W _
 ·rw [Z9H bl (by omega) ht];exact Z0W _
theorem Z0o (t:Nat):mAt (t:Int)=t%16:=by
 unfold mAt
 rw [tm (by omega)]
 omega
theorem Vf (i t:Nat) (hi:i<8) (ht:t<=64):atI (i:Int) (t:Int)=(i+64-t)%8:=by
 unfold atI
 rw [w64 (x:=(i:Int)+64) (by omega),w64 (by omega),tm (by omega)]
 omega
theorem Z3c (l:List Int) (i j:Nat) (x:Int) (hi:i<l.length):(l.set i x).getD j 0=if i=j then x else l.getD j 0:=by
 simp only [List.getD_eq_getElem?_getD]
 by_cases h:i=j
 ·subst h
  rw [List.getElem?_set_self hi,if_pos rfl];rfl
 ·rw [List.getElem?_set_ne h,if_neg h]
def Ring (bl r:List Int) (t:Nat):Prop:=r.length=16/\∀s,s<max 16 t->max 16 t<=s+16->r.getD (s%16) 0=Z1F bl s
theorem Ring.step {bl r:List Int} {t:Nat} (h:Ring bl r t) (ht:t<64):Ring bl (QQ t r) (t+1):=by
 obtain ⟨hl,hr⟩:=h
 refine ⟨by rw [Z6z,hl],fun s h1 h2=> ?_⟩
 unfold QQ
 by_cases h16:t<16
 ·rw [if_neg (by omega)]
  exact hr s (by omega) (by omega)
 ·rw [if_pos (by omega)]
  have w1:i64.wrap ((t:Int)+1)=((t+1:Nat):Int):=by rw [w64 (by omega)];omega
  have w9:i64.wrap ((t:Int)+9)=((t+9:Nat):Int):=by rw [w64 (by omega)];omega
  have w14:i64.wrap ((t:Int)+14)=((t+14:Nat):Int):=by rw [w64 (by omega)];omega
  have r0:=hr (t-16) (by omega) (by omega)
  have r1:=hr (t-15) (by omega) (by omega)
  have r9:=hr (t-7) (by omega) (by omega)
  have r14:=hr (t-2) (by omega) (by omega)
  rw [show (t-16)%16=t%16 by omega] at r0
  rw [show (t-15)%16=(t+1)%16 by omega] at r1
  rw [show (t-7)%16=(t+9)%16 by omega] at r9
  rw [show (t-2)%16=(t+14)%16 by omega] at r14
  rw [w1,w9,w14,Z0o,Z0o,Z0o,Z0o,r0,r1,r9,r14,Z3c _ _ _ _ (by rw [hl];omega)]
  by_cases hs:s=t
  ·subst hs
   rw [if_pos rfl,Z9H bl (by omega) ht]
   have e1:=Z9C (Zdc bl (t:=s-2) (by omega)) 17 19 10 (by omega)
   have e2:=Z9C (Zdc bl (t:=s-15) (by omega)) 7 18 3 (by omega)
   rw [show ((10:Nat):Int)=10 from rfl] at e1
   rw [show ((3:Nat):Int)=3 from rfl] at e2
   rw [e1,e2]
   simp only [Z6K]
   omega
  ·rw [if_neg (by omega)]
   exact hr s (by omega) (by omega)
def U8 (x:Int):Prop:=0<=x/\x<256
theorem Z1V (x n:Nat) (hn:n<=32) (h:x*2^n<4294967296):ZI .u32 x n=((x*2^n:Nat):Int):=by
 unfold ZI
 have:min (n:Int).toNat u32.bits=n:=by simp [IntKind.bits];omega
 rw [this,show (x:Int)*2^n=((x*2^n:Nat):Int) by push_cast;rfl]
 exact XY (U32.of h)
theorem Z1W (x y:Nat) (hx:x<16777216) (hy:y<256):bOr .u32 (ZI .u32 x 8) y=((x*256+y:Nat):Int):=by
 have:=Z1V x 8 (by omega) (by omega)
 rw [show ((8:Nat):Int)=8 from rfl] at this
 rw [this,Z5v _ _ (by omega) (by omega),<-Nat.shiftLeft_eq,<-Nat.shiftLeft_add_eq_or_of_lt (by omega),Nat.shiftLeft_eq]
theorem UC {P:Int->Prop} {l:List Int} (h:∀x∈l,P x) (h0:P 0) (i:Nat):P (l.getD i 0):=by
 rw [List.getD_eq_getElem?_getD]
 cases hg:l[i]? with
 | none=>exact h0
 | some x=>exact h x (List.mem_of_getElem? hg)
theorem U8.nat {x:Int} (h:U8 x):∃n:Nat,x=n/\n<256:=⟨x.toNat,by unfold U8 at h;omega,by unfold U8 at h;omega⟩
theorem ZfP (bl:List Int) (hb:∀x∈bl,U8 x) (t:Nat):W3 bl (4*t)=Z8u bl t:=by
 unfold W3 Z8u
 obtain ⟨a,ea,ha⟩:=(UC (P:=U8) hb (by unfold U8;omega) (4*t)).nat
 obtain ⟨b,eb,hb'⟩:=(UC (P:=U8) hb (by unfold U8;omega) (4*t+1)).nat
 obtain ⟨c,ec,hc⟩:=(UC (P:=U8) hb (by unfold U8;omega) (4*t+2)).nat
 obtain ⟨d,ed,hd⟩:=(UC (P:=U8) hb (by unfold U8;omega) (4*t+3)).nat
 rw [ea,eb,ec,ed]
 rw [XY (x:=(a:Int)) (U32.of (by omega)),XY (x:=(b:Int)) (U32.of (by omega)),XY (x:=(c:Int)) (U32.of (by omega)),XY (x:=(d:Int)) (U32.of (by omega))]
 have z:=Z1W 0 a (by omega) ha
 have s0:ZI .u32 0 8=0:=by decide
 rw [show ZI .u32 ((0:Nat):Int) 8=0 from s0] at z
 rw [z,Z1W _ b (by omega) hb',Z1W _ c (by omega) hc,Z1W _ d (by omega) hd]
 have g1:=Z1V a 24 (by omega) (by omega)
 have g2:=Z1V b 16 (by omega) (by omega)
 have g3:=Z1V c 8 (by omega) (by omega)
 rw [show ((24:Nat):Int)=24 from rfl] at g1
 rw [show ((16:Nat):Int)=16 from rfl] at g2
 rw [show ((8:Nat):Int)=8 from rfl] at g3
 rw [g1,g2,g3]
 simp only [Z6K]
 omega
theorem Ring.first (bl:List Int) (hb:∀x∈bl,U8 x):Ring bl (WT bl) 0:=by
 refine ⟨rfl,fun s h1 _=> ?_⟩
 have h16:s<16:=by omega
 rw [Z9G bl h16,<-ZfP bl hb,Nat.mod_eq_of_lt h16]
 have:s=0\/s=1\/s=2\/s=3\/s=4\/s=5\/s=6\/s=7\/s=8\/s=9\/s=10\/s=11\/s=12\/s=13\/s=14\/s=15:=by omega
 rcases this with rfl|rfl|rfl|rfl|rfl|rfl|rfl|rfl|rfl|rfl|rfl|rfl|rfl|rfl|rfl|rfl<;>rfl
def Z3d (x y:List Int) (t:Nat):Prop:=x.length=8/\∀i,i<8->x.getD ((i+64-t)%8) 0=y.getD i 0
theorem Z3d.step {x y m:List Int} {w:Int} {t:Nat} (h:Z3d x y t) (hU:∀i,i<8->U32 (y.getD i 0)) (ht:t<64) (hm:m.getD (t%16) 0=w):
  Z3d (Z3V t m x) (Z1n XE Xx (Vn.getD t 0) w y) (t+1):=by
 obtain ⟨hl,hr⟩:=h
 have a0:=Vf 0 t (by omega) (by omega)
 have a1:=Vf 1 t (by omega) (by omega)
 have a2:=Vf 2 t (by omega) (by omega)
 have a3:=Vf 3 t (by omega) (by omega)
 have a4:=Vf 4 t (by omega) (by omega)
 have a5:=Vf 5 t (by omega) (by omega)
 have a6:=Vf 6 t (by omega) (by omega)
 have a7:=Vf 7 t (by omega) (by omega)
 have h0:=hr 0 (by omega)
 have h1:=hr 1 (by omega)
 have h2:=hr 2 (by omega)
 have h3:=hr 3 (by omega)
 have h4:=hr 4 (by omega)
 have h5:=hr 5 (by omega)
 have h6:=hr 6 (by omega)
 have h7:=hr 7 (by omega)
 rw [<-a0] at h0
 rw [<-a1] at h1
 rw [<-a2] at h2
 rw [<-a3] at h3
 rw [<-a4] at h4
 rw [<-a5] at h5
 rw [<-a6] at h6
 rw [<-a7] at h7
 refine ⟨by rw [Z6A,hl], ?_⟩
 have hadd:Z0S t m x=u32.wrap (u32.wrap (u32.wrap (u32.wrap (y.getD 7 0+sg3 6 11 25 (y.getD 4 0))+Xx (y.getD 4 0) (y.getD 5 0) (y.getD 6 0))+Vn.getD t 0)+w):=by
  unfold Z0S
  rw [Z0o,hm]
  rw [show atI 7 (t:Int)=atI ((7:Nat):Int) t from rfl,show atI 4 (t:Int)=atI ((4:Nat):Int) t from rfl,show atI 5 (t:Int)=atI ((5:Nat):Int) t from rfl,show atI 6 (t:Int)=atI ((6:Nat):Int) t from rfl]
  rw [h4,h5,h6,h7,Z9B (hU 4 (by omega)),ZfO (hU 4 (by omega)) (hU 5 (by omega)) (hU 6 (by omega))]
  rw [Nat.zero_add,Int.toNat_natCast]
 unfold Z3V
 rw [hadd]
 rw [show atI 7 (t:Int)=atI ((7:Nat):Int) t from rfl,show atI 3 (t:Int)=atI ((3:Nat):Int) t from rfl,show atI 0 (t:Int)=atI ((0:Nat):Int) t from rfl,show atI 1 (t:Int)=atI ((1:Nat):Int) t from rfl,show atI 2 (t:Int)=atI ((2:Nat):Int) t from rfl]
 rw [h0,h1,h2,h3,<-ZfN (hU 0 (by omega)) (hU 1 (by omega)) (hU 2 (by omega)),<-Z9B (hU 0 (by omega)),a3,a7]
 intro i hi
 rw [Z3c _ _ _ _ (by rw [List.length_set,hl];omega),Z3c _ _ _ _ (by rw [hl];omega)]
 unfold Z1n
 have:i=0\/i=1\/i=2\/i=3\/i=4\/i=5\/i=6\/i=7:=by omega
 rcases this with rfl|rfl|rfl|rfl|rfl|rfl|rfl|rfl
 ·rw [if_pos (by omega)]
  simp only [Z6K,List.getD_cons_zero]
  omega
 ·rw [if_neg (by omega),if_neg (by omega),show (1+64-(t+1))%8=(0+64-t)%8 by omega,hr 0 (by omega)];rfl
 ·rw [if_neg (by omega),if_neg (by omega),show (2+64-(t+1))%8=(1+64-t)%8 by omega,hr 1 (by omega)];rfl
 ·rw [if_neg (by omega),if_neg (by omega),show (3+64-(t+1))%8=(2+64-t)%8 by omega,hr 2 (by omega)];rfl
 ·rw [if_neg (by omega),if_pos (by omega)];rfl
 ·rw [if_neg (by omega),if_neg (by omega),show (5+64-(t+1))%8=(4+64-t)%8 by omega,hr 4 (by omega)];rfl
 ·rw [if_neg (by omega),if_neg (by omega),show (6+64-(t+1))%8=(5+64-t)%8 by omega,hr 5 (by omega)];rfl
 ·rw [if_neg (by omega),if_neg (by omega),show (7+64-(t+1))%8=(6+64-t)%8 by omega,hr 6 (by omega)];rfl
theorem ZfQ {k w:Int} {y:List Int} (hU:∀i,i<8->U32 (y.getD i 0)):∀i,i<8->U32 ((Z1n XE Xx k w y).getD i 0):=by
 intro i hi
 unfold Z1n
 have:i=0\/i=1\/i=2\/i=3\/i=4\/i=5\/i=6\/i=7:=by omega
 rcases this with rfl|rfl|rfl|rfl|rfl|rfl|rfl|rfl
 ·exact Z0W _
 ·exact hU 0 (by omega)
 ·exact hU 1 (by omega)
 ·exact hU 2 (by omega)
 ·exact Z0W _
 ·exact hU 4 (by omega)
 ·exact hU 5 (by omega)
 ·exact hU 6 (by omega)
def W8 (st:List Int):Prop:=st.length=8/\∀x∈st,U32 x
theorem W8.get {st:List Int} (h:W8 st) (i:Nat):U32 (st.getD i 0):=UC h.2 (by unfold U32;omega) i
theorem Z6L (bl st:List Int) (hb:∀x∈bl,U8 x) (hs:W8 st):∀t,t<=64->Ring bl (Ww (WT bl) st t).1 t/\Z3d (Ww (WT bl) st t).2 (UA XE Xx (Wj bl 64) st t) t/\∀i,i<8->U32 ((UA XE Xx (Wj bl 64) st t).getD i 0)
 | 0,_=>by
  rw [Z4j,Zb0]
  refine ⟨Ring.first bl hb,⟨hs.1,fun i hi=> ?_⟩,fun i _=>hs.get i⟩
  rw [show (i+64-0)%8=i by omega]
 | t+1,h=>by
  obtain ⟨h1,h2,h3⟩:=Z6L bl st hb hs t (by omega)
  rw [Z4k,ZaZ]
  have hR:=h1.step (by omega)
  refine ⟨hR,h2.step h3 (by omega) ?_,ZfQ h3⟩
  rw [hR.2 t (by omega) (by omega)]
  unfold Z1F
  rfl
theorem Zb6 (st x:List Int) (i:Nat):Vo st x (i+1)=(Vo st x i).set i (u32.wrap ((Vo st x i).getD i 0+st.getD i 0)):=by rw [Vo]
theorem Zb7 (st x:List Int):Vo st x 0=x:=by rw [Vo]
theorem ZfR (st x:List Int) (hs:st.length=8) (hx:x.length=8):Vo st x 8=ZaO st x:=by
 obtain ⟨a0,a1,a2,a3,a4,a5,a6,a7,rfl⟩:=eight st hs
 obtain ⟨b0,b1,b2,b3,b4,b5,b6,b7,rfl⟩:=eight x hx
 simp only [Zb6,Zb7]
 simp [ZaO,List.set,Int.add_comm]
theorem Z8y {x y:List Int} (h:Z3d x y 64) (hy:y.length=8):y=x:=by
 obtain ⟨h4,h5⟩:=h
 obtain ⟨a0,a1,a2,a3,a4,a5,a6,a7,rfl⟩:=eight _ hy
 obtain ⟨b0,b1,b2,b3,b4,b5,b6,b7,rfl⟩:=eight _ h4
 have g0:=h5 0 (by omega)
 have g1:=h5 1 (by omega)
 have g2:=h5 2 (by omega)
 have g3:=h5 3 (by omega)
 have g4:=h5 4 (by omega)
 have g5:=h5 5 (by omega)
 have g6:=h5 6 (by omega)
 have g7:=h5 7 (by omega)
 simp at g0 g1 g2 g3 g4 g5 g6 g7
 simp [g0,g1,g2,g3,g4,g5,g6,g7]
theorem Z6M (st bl:List Int) (hb:∀x∈bl,U8 x) (hs:W8 st):XX st bl=Wi st bl:=by
 obtain ⟨_,h2,h3⟩:=Z6L bl st hb hs 64 (by omega)
 have hl:=Z0m (M:=XE) (P:=Xx) (m:=Wj bl 64) hs.1 64
 unfold XX Wi
 rw [ZfR _ _ hs.1 hl]
 congr 1
 exact Z8y h2 hl
theorem Z6N (st bl:List Int) (hs:st.length=8):W8 (Wi st bl):=by
 refine ⟨Z4l st bl hs,fun x hx=> ?_⟩
 unfold Wi ZaO at hx
 obtain ⟨i,hi,rfl⟩:=List.getElem_of_mem hx
 simp only [List.getElem_zipWith]
 exact Z0W _
def Qh (P:List Int->List Int->List Int):Nat->List Int->List Int->List Int
 | 0,st,_=>st
 | n+1,st,ms=>Qh P n (P st (ms.take 64)) (ms.drop 64)
theorem Z0X (P:List Int->List Int->List Int):∀(n:Nat) (st ms:List Int),Qh P (n+1) st ms=P (Qh P n st ms) ((ms.drop (64*n)).take 64)
 | 0,_,_=>rfl
 | n+1,st,ms=>by
  rw [Qh,Z0X P n,List.drop_drop]
  rw [show 64+64*n=64*(n+1) by omega]
  rfl
theorem Z3e (P:List Int->List Int->List Int):∀(n:Nat) (st ms more:List Int),64*n<=ms.length->Qh P n st (ms++more)=Qh P n st ms
 | 0,_,_,_,_=>rfl
 | n+1,st,ms,more,h=>by
  rw [Qh,Qh,List.take_append_of_le_length (by omega),List.drop_append_of_le_length (by omega),Z3e P n _ _ _ (by rw [List.length_drop];omega)]
theorem Z3f:∀(n:Nat) (st ms:List Int),W8 st->(∀x∈ms,U8 x)->Qh XX n st ms=Qh Wi n st ms
 | 0,_,_,_,_=>rfl
 | n+1,st,ms,hs,hm=>by
  rw [Qh,Qh,Z6M st _ (fun x hx=>hm x (List.mem_of_mem_take hx)) hs]
  exact Z3f n _ _ (Z6N st _ hs.1) fun x hx=>hm x (List.mem_of_mem_drop hx)
structure Rep (r:ZF) (ms:List Int):Prop where
 came:r.came=ms.length
 st:r.st=Qh Wi (ms.length/64) Xl.st ms
 len:r.part.length=64
 part:r.part.take (ms.length%64)=ms.drop (64*(ms.length/64))
theorem Rep.ok {r:ZF} {ms:List Int} (h:Rep r ms) (h8:r.st.length=8):r.Ok:=⟨h8,h.len,by rw [h.came];omega⟩
theorem Rep.one {r:ZF} {ms:List Int} (h:Rep r ms) (bs:List Int):Rep (r.one bs) (ms++wTk r.came bs):=by
 have ha:wAt r.came=ms.length%64:=by
  unfold wAt
  rw [h.came,tm (by omega)]
  omega
 have hk:(wTk r.came bs).length<=64-ms.length%64:=by
  unfold wTk
  rw [ha,List.length_take]
  omega
 have hdl:(ms.drop (64*(ms.length/64))).length=ms.length%64:=by rw [List.length_drop];omega
 have hp:VE r.part r.came bs=ms.drop (64*(ms.length/64))++wTk r.came bs++r.part.drop (ms.length%64+(wTk r.came bs).length):=by
  unfold VE spl
  rw [ha,h.part]
 have hl:(VE r.part r.came bs).length=64:=by
  rw [hp,List.length_append,List.length_append,hdl,List.length_drop,h.len]
  omega
 have hst:(r.one bs).st=if ms.length%64+(wTk r.came bs).length=64 then Wi r.st (VE r.part r.came bs) else r.st:=by
  show wSt _ _ _ _=_
  unfold wSt
  rw [ha]
 have hca:(r.one bs).came=r.came+(wTk r.came bs).length:=rfl
 have hpa:(r.one bs).part=VE r.part r.came bs:=rfl
 generalize wTk r.came bs=tk at*
 generalize VE r.part r.came bs=pa at*
 have hal:(ms++tk).length=ms.length+tk.length:=List.length_append
 refine ⟨by rw [hca,h.came,hal];omega, ?_,by rw [hpa];exact hl, ?_⟩
 ·rw [hst,h.st]
  by_cases h64:ms.length%64+tk.length=64
  ·rw [if_pos h64,hal,show (ms.length+tk.length)/64=ms.length/64+1 by omega,Z0X,Z3e _ _ _ _ _ (by omega)]
   congr 1
   rw [List.drop_append_of_le_length (by omega),hp,show r.part.drop (ms.length%64+tk.length)=[] from List.drop_eq_nil_of_le (by rw [h.len];omega),List.append_nil,List.take_of_length_le (by rw [List.length_append,hdl];omega)]
  ·rw [if_neg h64,hal,show (ms.length+tk.length)/64=ms.length/64 by omega,Z3e _ _ _ _ _ (by omega)]
 ·rw [hpa,hal]
  by_cases h64:ms.length%64+tk.length=64
  ·rw [show (ms.length+tk.length)%64=0 by omega,List.take_zero,List.drop_eq_nil_of_le (by rw [hal];omega)]
  ·rw [show (ms.length+tk.length)/64=ms.length/64 by omega,show (ms.length+tk.length)%64=ms.length%64+tk.length by omega,hp,List.drop_append_of_le_length (by omega)]
   rw [List.take_append_of_le_length (by rw [List.length_append,hdl];omega)]
   exact List.take_of_length_le (by rw [List.length_append,hdl];omega)
theorem Rep.many:∀(n:Nat) (r:ZF) (ms bs:List Int),r.Ok->Rep r ms->bs.length<=n->Rep (ZF.many n r bs).1 (ms++bs)
 | 0,r,ms,bs,_,h,hn=>by
  have:bs=[]:=List.eq_nil_of_length_eq_zero (by omega)
  subst this
  rw [List.append_nil]
  exact h
 | n+1,r,ms,bs,hr,h,hn=>by
  unfold ZF.many
  split
  ·rw [List.append_nil];exact h
  ·rename_i b bs
   have hp:=Q2 hr (bs:=b::bs) (by simp)
   have hb:(b::bs)=wTk r.came (b::bs)++(b::bs).drop (wTk r.came (b::bs)).length:=by
    unfold wTk
    rw [List.length_take]
    by_cases h:64-wAt r.came<=(b::bs).length
    ·rw [Nat.min_eq_left h,List.take_append_drop]
    ·rw [Nat.min_eq_right (by omega),List.take_of_length_le (by omega),List.drop_length,List.append_nil]
   have:=Rep.many n _ _ ((b::bs).drop (wTk r.came (b::bs)).length) (hr.one _) (h.one (b::bs)) (by rw [List.length_drop];simp only [List.length_cons] at hn⊢;omega)
   rw [List.append_assoc,<-hb] at this
   exact this
theorem Rep.write {r:ZF} {ms:List Int} (hr:r.Ok) (h:Rep r ms) (bs:List Int):Rep (r.write bs) (ms++bs):=by
 unfold ZF.write
 exact Rep.many _ _ _ _ hr h (Nat.le_refl _)
theorem Rep.init:Rep Xl []:=⟨rfl,rfl,rfl,rfl⟩
def Z0Y (bs:List Int):List Int:=bs++Qf bs.length++len8 bs.length
def Z8z (P:List Int->List Int->List Int) (bs:List Int):List Int:=Z6B (Qh P ((Z0Y bs).length/64) Xl.st (Z0Y bs))
theorem Rep.fin {r:ZF} {ms:List Int} (hr:r.Ok) (h:Rep r ms):r.fin=Z8z Wi ms:=by
 have h1:=h.write hr (Qf r.came)
 have h2:=h1.write (VF _ _ hr) (len8 r.came)
 unfold ZF.fin Z8z
 rw [h2.st,h.came]
 rfl
theorem Zdd (bs:List Int):Zr bs=Z8z Wi bs:=by
 unfold Zr
 have:=Rep.init.write VH bs
 exact this.fin (VF _ _ VH)
theorem Z6O:W8 Xl.st:=by
 refine ⟨rfl,fun x hx=> ?_⟩
 simp only [Xl,List.mem_cons,List.not_mem_nil,or_false] at hx
 unfold U32
 rcases hx with rfl|rfl|rfl|rfl|rfl|rfl|rfl|rfl<;>omega
theorem ZfS (n:Int):∀x∈Qf n,U8 x:=by
 intro x hx
 unfold Qf at hx
 rcases List.mem_append.mp hx with h|h
 ·rw [List.mem_singleton] at h
  subst h
  unfold U8;omega
 ·rw [List.eq_of_mem_replicate h]
  unfold U8;omega
theorem Zja (x:Int):U8 (u8.wrap x):=by rw [wr8];unfold U8;omega
theorem ZfT (n:Int):∀x∈len8 n,U8 x:=by
 intro x hx
 unfold len8 Qu at hx
 simp only [List.mem_cons,List.not_mem_nil,or_false] at hx
 rcases hx with h|h|h|h|h|h|h|h<;>rw [h]<;>exact Zja _
theorem Zb8 {bs:List Int} (h:∀x∈bs,U8 x):∀x∈Z0Y bs,U8 x:=by
 intro x hx
 unfold Z0Y at hx
 rcases List.mem_append.mp hx with h1|h1
 ·rcases List.mem_append.mp h1 with h2|h2
  ·exact h x h2
  ·exact ZfS _ x h2
 ·exact ZfT _ x h1
end Go.Tk
end
section
namespace Go.Tk
open IntKind (i64 u8 u32 u64 wrap)
theorem ZfU:Q6 XX:=⟨fun st bl h=>Z6I st bl h,fun _ _ h=>Z5s h⟩
theorem Zde (x:List Int) (i:Nat):toN x (i+1)=((((toN x i).set (4*i) (u8.wrap (u32.wrap (Int.tdiv (x.getD i 0) 16777216)))).set (4*i+1) (toE (x.getD i 0) 65536)).set (4*i+2) (toE (x.getD i 0) 256)).set (4*i+3) (u8.wrap (Int.tmod (x.getD i 0) 256)):=by rw [toN]
theorem Zdf (x:List Int):toN x 0=Za:=by rw [toN]
def four (x:Int):List Int:=[u8.wrap (u32.wrap (Int.tdiv x 16777216)),toE x 65536,toE x 256,u8.wrap (Int.tmod x 256)]
theorem Zb9 (x:List Int):(Uc x).length=32:=by unfold Uc;exact Z5t x 8
theorem Z8A (x:List Int) (h:x.length=8):Uc x=four (x.getD 0 0)++four (x.getD 1 0)++four (x.getD 2 0)++four (x.getD 3 0)++four (x.getD 4 0)++four (x.getD 5 0)++four (x.getD 6 0)++four (x.getD 7 0):=by
 unfold Uc
 simp only [Zde,Zdf]
 generalize x.getD 0 0=x0
 generalize x.getD 1 0=x1
 generalize x.getD 2 0=x2
 generalize x.getD 3 0=x3
 generalize x.getD 4 0=x4
 generalize x.getD 5 0=x5
 generalize x.getD 6 0=x6
 generalize x.getD 7 0=x7
 kernel_rfl
theorem ZfV (x:Int):u64.wrap x=x%18446744073709551616:=by
 unfold wrap
 simp [IntKind.bits,IntKind.signed]
theorem Z6P (x n:Nat) (hn:n<=64):Zw .u64 x n=((x/2^n:Nat):Int):=by
 unfold Zw
 have:min (n:Int).toNat u64.bits=n:=by simp [IntKind.bits];omega
 rw [this,Int.fdiv_eq_ediv_of_nonneg _ (Int.le_of_lt (Int.pow_pos (by decide)))]
 simp
theorem XM {x:Int} (h:U32 x):four x=Vd (u64.wrap x):=by
 obtain ⟨x,rfl,gx⟩:=h.nat
 have e:u64.wrap (x:Int)=x:=by rw [ZfV];omega
 have s24:=Z6P x 24 (by omega)
 have s16:=Z6P x 16 (by omega)
 have s8:=Z6P x 8 (by omega)
 have s0:=Z6P x 0 (by omega)
 rw [show ((24:Nat):Int)=24 from rfl] at s24
 rw [show ((16:Nat):Int)=16 from rfl] at s16
 rw [show ((8:Nat):Int)=8 from rfl] at s8
 rw [show ((0:Nat):Int)=0 from rfl] at s0
 have d1:Int.tdiv (x:Int) 16777216=(x:Int)/16777216:=Int.tdiv_eq_ediv_of_nonneg (by omega)
 have d2:Int.tdiv (x:Int) 65536=(x:Int)/65536:=Int.tdiv_eq_ediv_of_nonneg (by omega)
 have d3:Int.tdiv (x:Int) 256=(x:Int)/256:=Int.tdiv_eq_ediv_of_nonneg (by omega)
 unfold four Vd toE
 rw [e,s24,s16,s8,s0,d1,d2,d3]
 simp only [wr8,Z6K]
 rw [tm (a:=(x:Int)/65536%4294967296) (by omega),tm (a:=(x:Int)/256%4294967296) (by omega),tm (a:=(x:Int)) (by omega)]
 simp only [List.cons.injEq,and_true]
 omega
theorem Z8B {x:List Int} (h:W8 x):Uc x=Z6B x:=by
 rw [Z8A x h.1]
 unfold Z6B
 rw [XM (h.get 0),XM (h.get 1),XM (h.get 2),XM (h.get 3),XM (h.get 4),XM (h.get 5),XM (h.get 6),XM (h.get 7)]
theorem XN (n:Nat) (i:Nat) (hi:i<8):ZfH n i=u8.wrap (Zw .u64 (u64.wrap (u64.wrap n*8)) ((56-8*i:Nat):Int)):=by
 unfold ZfH
 have e1:i64.wrap (8*(i:Int))=8*(i:Int):=w64 (by omega)
 have e2:i64.wrap (56-8*(i:Int))=((56-8*i:Nat):Int):=by rw [w64 (by omega)];omega
 have e3:u64.wrap ((56-8*i:Nat):Int)=((56-8*i:Nat):Int):=by rw [ZfV];omega
 rw [e1,e2,e3]
 obtain ⟨m,hm⟩:∃m:Nat,u64.wrap (u64.wrap n*8)=m:=⟨(u64.wrap (u64.wrap n*8)).toNat,by rw [ZfV,ZfV];omega⟩
 rw [hm,Z6P m _ (by omega)]
 generalize m/2^(56-8*i)=q
 rw [tm (by omega),wr8,wr8]
 omega
theorem Zba (n:Nat):W1 n 8=len8 n:=by
 simp only [W1,List.nil_append,List.cons_append]
 unfold len8 Qu
 rw [XN n 0 (by omega),XN n 1 (by omega),XN n 2 (by omega),XN n 3 (by omega),XN n 4 (by omega),XN n 5 (by omega),XN n 6 (by omega),XN n 7 (by omega)]
 rfl
theorem Zbb (n:Nat) (h:n<=100000000000):[128]++Z1E n=Qf n:=by
 unfold Z1E Qf
 have e1:Int.tmod (n:Int) 64=(n:Int)%64:=tm (by omega)
 have e2:i64.wrap (119-(n:Int)%64)=119-(n:Int)%64:=w64 (by omega)
 rw [ZfJ n h,e1,e2,tm (by omega)]
 congr 2
 omega
theorem Zdg (bs:List Int) (h:bs.length<=100000000000):UB bs=Z0Y bs:=by
 unfold UB Z0Y
 rw [Zba,List.append_assoc bs,Zbb _ h]
theorem Z4B (P:List Int->List Int->List Int) (ys:List Int):∀i,Qg P ys i=Qh P i Xl.st ys
 | 0=>Z4v P ys
 | i+1=>by rw [Z4w,Z0X,Z4B P ys i]
theorem Z9I:∀(n:Nat) (st ms:List Int),W8 st->W8 (Qh Wi n st ms)
 | 0,_,_,h=>h
 | n+1,st,_,h=>Z9I n _ _ (Z6N st _ h.1)
@[irreducible] def W2 (bs:List Int):List Int:=Zdb XX bs
theorem Z3g (bs:List Int):(W2 bs).length=32:=by unfold W2 Zdb;exact Zb9 _
theorem Z5y {bs:List Int} (h:∀x∈bs,U8 x) (hl:bs.length<=100000000000):W2 bs=Zr bs:=by
 unfold W2 Zdb
 rw [Z4B,Zdg bs hl,Z3f _ _ _ Z6O (Zb8 h),Z8B (Z9I _ _ _ Z6O),Zdd]
 rfl
theorem Z0Z (xs:List Int) (h:xs.length<=100000000000):ZA PP 102 [.vints .u8 xs xs.length] (.agg [.arr .u8 32 (W2 xs)]) 0 []:=by
 unfold W2
 exact Zb3 ZfU xs h
end Go.Tk
end
section
namespace Go.Tk
open IntKind (i64 u8 u32 u64 wrap)
end Go.Tk
end
section
namespace Go.Tk
open IntKind (i64 u8 u32 u64 wrap)
end Go.Tk
end
section
namespace Go.Tk
open IntKind (i64 u8 u32 u64 wrap)
theorem Bytes.u8 {xs:List Int} (h:Bytes xs):∀x∈xs,U8 x:=by
 intro x hx
 obtain ⟨i,hi,rfl⟩:=List.getElem_of_mem hx
 have:=h.h i
 rw [List.getD_eq_getElem?_getD,List.getElem?_eq_getElem hi] at this
 simp at this
 unfold U8
 omega
end Go.Tk
end
section
namespace Go.Tk
open IntKind (i64 u8 u32 u64 wrap)
structure X3 where
 fund:List Int
 index:Int
 cap:Int
 dust:Int
 fee:Int
 delay:Int
 k0:List Int
 k1:List Int
def X3.c (t:X3):List AV:=[.arr .u8 32 t.fund,.int .i64 t.index,.int .i64 t.cap,.int .i64 t.dust,.int .i64 t.fee,.int .i64 t.delay,.arr .u8 32 t.k0,.arr .u8 32 t.k1]
structure X3.Ok (t:X3):Prop where
 k0:t.k0.length=32
 k1:t.k1.length=32
 b0:Bytes t.k0
 b1:Bytes t.k1
def W5 (t:X3):Bool:=decide (0<=t.index/\t.index<=23)&&decide (1000<=t.cap/\t.cap<=1125899906842624)&&decide (1<=t.dust/\t.dust<=500)&&decide (0<=t.fee/\t.fee<=400)&&decide (1<=t.delay/\t.delay<=1000)&&(t.k0 !=t.k1)
theorem UD (b:Bool) (x y:Prop):Z0 b x y=((b=true->x)/\(b=false->y)):=by cases b<;>simp [Z0]
theorem Zkq (n a b:Int) (r:Bool) (hr:r=decide (a<=n/\n<=b)):
  evF G0 20 74 [.int .i64 n,.int .i64 a,.int .i64 b] ⟨0,[]⟩ (Y4 (fun v=>v=.bool r)):=by
 refine @Eq.mpr _ (Z0 (decide (a<=n)) (AV.bool (decide (n<=b))=AV.bool r) (AV.bool false=AV.bool r)) (by kernel_rfl) ?_
 simp only [UD]
 subst hr
 by_cases h1:a<=n<;>by_cases h2:n<=b<;>simp [h1,h2]
def inQ:ZK:=fun args _ K=>match args with
 | [.int .i64 n,.int .i64 a,.int .i64 b]=>K (.bool (decide (a<=n/\n<=b)))
 | _=>False
theorem Zjb (args:List AV) (h:Z9) (K:AV->Prop) (hl:inQ args h K):Zn PP 74 args h fun o h'=>∃v,o=.ret v/\h'=h/\K v:=by
 unfold inQ at hl
 split at hl
 ·exact ZU Zu rfl (Zkq _ _ _ _ rfl) (fun u hu=>hu▸hl)
 ·exact hl.elim
noncomputable def E71:Zh:=G0.withP 74 inQ
theorem Zjc:E71.Ok:=Zh.withP_ok Zu Zjb
theorem Zkr (t:X3) (e:Int) (ht:t.Ok) (he:e=if W5 t=true then 0 else 2):
  evF E71 20 72 [.agg t.c] ⟨0,[]⟩ (Y4 (fun v=>v=.int .i64 e)):=by
 refine @Eq.mpr _ (let q1:=AV.int i64 2=AV.int i64 e;
 Z0 (decide (List.length t.k0=32/\List.length t.k1=32)) (Z0 (false==decide (0<=t.index/\t.index<=23)) q1 (Z0 (false==decide (1000<=t.cap/\t.cap<=1125899906842624)) q1 (Z0 (false==decide (1<=t.dust/\t.dust<=500)) q1 (Z0 (false==decide (0<=t.fee/\t.fee<=400)) q1 (Z0 (false==decide (1<=t.delay/\t.delay<=1000)) q1 (Z0 (false== !t.k0==t.k1) q1 (AV.int i64 0=AV.int i64 e))))))) False) (by kernel_rfl) ?_
 conv=>zeta
 try simp only [Zi]
 try simp only [Zj]
 try simp only [Zf]
 try simp only [Zk]
 try simp only [Zl]
 try simp only [Zg]
 try simp only [Int.toNat_natCast,Nat.zero_add,true_and,and_true,Nat.le_refl]
 unfold W5 at he
 refine ⟨⟨ht.k0,ht.k1⟩, ?_⟩
 generalize decide (0<=t.index/\t.index<=23)=c1 at*
 generalize decide (1000<=t.cap/\t.cap<=1125899906842624)=c2 at*
 generalize decide (1<=t.dust/\t.dust<=500)=c3 at*
 generalize decide (0<=t.fee/\t.fee<=400)=c4 at*
 generalize decide (1<=t.delay/\t.delay<=1000)=c5 at*
 have h6:(t.k0 !=t.k1)= !(t.k0==t.k1):=rfl
 rw [h6] at he
 generalize (t.k0==t.k1)=c6 at*
 cases c1<;>cases c2<;>cases c3<;>cases c4<;>cases c5<;>cases c6<;>simp_all
theorem Zks (t:X3) (b:Bool) (ht:t.Ok) (hb:b=W5 t):
  evF G0 20 93 [.agg t.c] ⟨0,[]⟩ (Y4 (fun v=>v=.bool b)):=by
 refine @Eq.mpr _ (let q1:=t.cap;let q2:=AV.bool false=AV.bool b;
 Z0 (decide (t.index>=0)) (Z0 (decide (t.index<24)) (Z0 (decide (q1>=1000)) (Z0 (decide (q1>=0)) (Z0 (decide (q1<=1125899906842624)) (Z0 (decide (t.dust>=1)) (Z0 (decide (t.dust<=500)) (Z0 (decide (t.fee>=0)) (Z0 (decide (t.fee<=400)) (Z0 (decide (t.delay>=1)) (Z0 (decide (t.delay<=1000)) (Z0 (decide (List.length t.k0=32/\List.length t.k1=32)) ((AV.bool !t.k0==t.k1)=AV.bool b) False) q2) q2) q2) q2) q2) q2) q2) q2) q2) q2) q2) (by kernel_rfl) ?_
 conv=>zeta
 try simp only [Zi]
 try simp only [Zj]
 try simp only [Zf]
 try simp only [Zk]
 try simp only [Zl]
 try simp only [Zg]
 try simp only [Int.toNat_natCast,Nat.zero_add,true_and,and_true,Nat.le_refl]
 subst hb
 unfold W5
 repeat' (first|(refine And.intro ?_ ?_)|intro _|fail)
 all_goals first
  | exact ht.k0
  | exact ht.k1
  | (congr 1;symm;rw [Bool.eq_false_iff];simp only [ne_eq,Bool.and_eq_true,decide_eq_true_eq];intro h;omega)
  | (congr 1;have h1:(0<=t.index/\t.index<=23):=(by omega);have h2:(1000<=t.cap/\t.cap<=1125899906842624):=(by omega);have h3:(1<=t.dust/\t.dust<=500):=(by omega);have h4:(0<=t.fee/\t.fee<=400):=(by omega);have h5:(1<=t.delay/\t.delay<=1000):=(by omega);rw [decide_eq_true h1,decide_eq_true h2,decide_eq_true h3,decide_eq_true h4,decide_eq_true h5];rfl)
def Zdh:ZK:=fun args _ K=>match args with
 | [.agg [.arr .u8 32 fu,.int .i64 ix,.int .i64 ca,.int .i64 du,.int .i64 fe,.int .i64 de,.arr .u8 32 k0,.arr .u8 32 k1]]=>(X3.Ok ⟨fu,ix,ca,du,fe,de,k0,k1⟩)/\K (.int .i64 (if W5 ⟨fu,ix,ca,du,fe,de,k0,k1⟩=true then 0 else 2))
 | _=>False
theorem Zdi (args:List AV) (h:Z9) (K:AV->Prop) (hl:Zdh args h K):Zn PP 72 args h fun o h'=>∃v,o=.ret v/\h'=h/\K v:=by
 unfold Zdh at hl
 split at hl
 ·obtain ⟨ht,hK⟩:=hl
  exact ZU Zjc rfl (Zkr ⟨_,_,_,_,_,_,_,_⟩ _ ht rfl) (fun u hu=>hu▸hK)
 ·exact hl.elim
def Z8C:ZK:=fun args _ K=>match args with
 | [.agg [.arr .u8 32 fu,.int .i64 ix,.int .i64 ca,.int .i64 du,.int .i64 fe,.int .i64 de,.arr .u8 32 k0,.arr .u8 32 k1]]=>(X3.Ok ⟨fu,ix,ca,du,fe,de,k0,k1⟩)/\K (.bool (W5 ⟨fu,ix,ca,du,fe,de,k0,k1⟩))
 | _=>False
theorem Zbc (args:List AV) (h:Z9) (K:AV->Prop) (hl:Z8C args h K):Zn PP 93 args h fun o h'=>∃v,o=.ret v/\h'=h/\K v:=by
 unfold Z8C at hl
 split at hl
 ·obtain ⟨ht,hK⟩:=hl
  exact ZU Zu rfl (Zks ⟨_,_,_,_,_,_,_,_⟩ _ ht rfl) (fun u hu=>hu▸hK)
 ·exact hl.elim
end Go.Tk
end
section
namespace Go.Tk
open IntKind (i64 u8 u32 u64 wrap)
structure Z6 where
 own:Bool
 id:Int
 amount:Int
 hash:List Int
 expiry:Int
 stage:Int
 fin:Int
 secret:List Int
def Z6.c (h:Z6):List AV:=[.bool h.own,.int .i64 h.id,.int .i64 h.amount,.arr .u8 32 h.hash,.int .i64 h.expiry,.int .i64 h.stage,.int .i64 h.fin,.arr .u8 32 h.secret]
structure Z6.Ok (h:Z6):Prop where
 hash:h.hash.length=32
 hb:Bytes h.hash
 secret:h.secret.length=32
 sb:Bytes h.secret
def Z8:Z6:=⟨false,0,0,Za,0,0,0,Za⟩
def Z4 (L:List Z6) (i:Nat):List AV:=(L.getD i Z8).c
structure Z7 where
 t:X3
 side:Int
 res:Int
 a0:Int
 a1:Int
 i0:Int
 i1:Int
 L:List Z6
def Z7.c (X:Z7) (l:AV):List AV:=X.t.c++[.int .i64 X.side,.int .i64 X.res,.arr .i64 2 [X.a0,X.a1],.arr .i64 2 [X.i0,X.i1],l]
def ZS (side:Int) (own:Bool):Int:=match own with|true=>side|false=>1-side
def Z7.nx (X:Z7) (own:Bool):Int:=match own with|true=>X.i0|false=>X.i1
def Z7.am (X:Z7) (s:Int):Int:=if s=0 then X.a0 else X.a1
def ZR (side s:Int) (L:List Z6):List Z6:=L.filter fun h=>decide (ZS side h.own=s)
def XP (L:List Z6):List Int:=L.map (·.amount)
def Y5 (X:Z7) (s:Int):Int:=X.am s-(XP (ZR X.side s X.L)).sum-X.res-(if s=0 then X.t.fee else 0)
def Yj (h:Z6):Bool:=decide (0<=h.id/\h.id<=2147483647)&&decide (1<=h.amount/\h.amount<=1125899906842624)&&decide (1<=h.expiry/\h.expiry<=2147483647)
def QW (H:List Int->List Int) (h:Z6):Bool:=if h.fin=0 then decide (h.stage<6)&&(h.secret==Za) else if h.fin=1 then decide (6<=h.stage)&&(H h.secret==h.hash) else if h.fin=2 then decide (6<=h.stage)&&(h.secret==Za) else false
def Yz (H:List Int->List Int) (X:Z7) (h:Z6):Bool:=Yj h&&decide (h.id<X.nx h.own)&&decide (1<=h.stage/\h.stage<=9)&&QW H h
def Xi (a b:Z6):Prop:=(a.own=true/\b.own=false)\/(a.own=b.own/\a.id<b.id/\min b.stage 5<=min a.stage 5)
instance (a b:Z6):Decidable (Xi a b):=by unfold Xi;infer_instance
def Yy (H:List Int->List Int) (X:Z7) (i:Nat):Bool:=Yz H X (X.L.getD i Z8)&&(Nat.beq i 0||decide (Xi (X.L.getD (i-1) Z8) (X.L.getD i Z8)))
def Z6Q (X:Z7):Bool:=W5 X.t&&decide (0<=X.side/\X.side<=1)&&decide (0<=X.res/\X.res<=X.t.cap/10)&&decide (0<=X.a0/\X.a0<=X.t.cap)&&decide (X.a1=X.t.cap-X.a0)&&decide (0<=X.i0/\X.i0<=2147483648)&&decide (0<=X.i1/\X.i1<=2147483648)&&decide ((ZR X.side 0 X.L).length<=8)&&decide ((ZR X.side 1 X.L).length<=8)
def YA (H:List Int->List Int) (X:Z7):Bool:=Z6Q X&&(List.range X.L.length).all (Yy H X)&&decide (0<=Y5 X 0)&&(decide ((ZR X.side 1 X.L).length=0)||decide (0<=Y5 X 1))
theorem Z8D {a b c:Z6} (h1:Xi a b) (h2:Xi b c):Xi a c:=by
 unfold Xi at*
 rcases h1 with ⟨p1,p2⟩|⟨p1,p2,p3⟩<;>rcases h2 with ⟨q1,q2⟩|⟨q1,q2,q3⟩
 ·rw [p2] at q1;cases q1
 ·exact .inl ⟨p1,by rw [<-q1,p2]⟩
 ·exact .inl ⟨by rw [p1,q1],q2⟩
 ·exact .inr ⟨p1.trans q1,by omega,by omega⟩
theorem Ud {α:Type} {R:α->α->Prop} (ht:∀{a b c},R a b->R b c->R a c) (d:α):∀(L:List α),(∀i,i+1<L.length->R (L.getD i d) (L.getD (i+1) d))->L.Pairwise R
 | [],_=>.nil
 | [a],_=>by simp
 | a::b::r,h=>by
  have ih:=Ud (R:=R) ht d (b::r) fun i hi=>by
   have:=h (i+1) (by simpa using hi)
   rw [List.getD_cons_succ,List.getD_cons_succ] at this
   exact this
  refine List.pairwise_cons.2 ⟨fun z hz=> ?_,ih⟩
  have hab:R a b:=by simpa using h 0 (by simp)
  rcases List.mem_cons.1 hz with rfl|hz
  ·exact hab
  ·exact ht hab ((List.pairwise_cons.1 ih).1 z hz)
structure Z7.Inv (H:List Int->List Int) (X:Z7):Prop where
 tok:X.t.Ok
 tb:W5 X.t=true
 side:X.side=0\/X.side=1
 res:0<=X.res/\X.res<=X.t.cap/10
 a0:0<=X.a0/\X.a0<=X.t.cap
 a1:X.a1=X.t.cap-X.a0
 i0:0<=X.i0/\X.i0<=2147483648
 i1:0<=X.i1/\X.i1<=2147483648
 n0:(ZR X.side 0 X.L).length<=8
 n1:(ZR X.side 1 X.L).length<=8
 und:∀h∈X.L,Yz H X h=true
 fol:X.L.Pairwise Xi
 ov0:0<=Y5 X 0
 ov1:ZR X.side 1 X.L=[]\/0<=Y5 X 1
 ok:∀h∈X.L,h.Ok
theorem Q7 {X:Z7}:Z6Q X=true↔W5 X.t=true/\(0<=X.side/\X.side<=1)/\(0<=X.res/\X.res<=X.t.cap/10)/\(0<=X.a0/\X.a0<=X.t.cap)/\X.a1=X.t.cap-X.a0/\(0<=X.i0/\X.i0<=2147483648)/\(0<=X.i1/\X.i1<=2147483648)/\(ZR X.side 0 X.L).length<=8/\(ZR X.side 1 X.L).length<=8:=by
 unfold Z6Q
 simp only [Bool.and_eq_true,decide_eq_true_eq,and_assoc]
theorem U3 {H:List Int->List Int} {X:Z7}:YA H X=true↔Z6Q X=true/\(∀i,i<X.L.length->Yy H X i=true)/\0<=Y5 X 0/\((ZR X.side 1 X.L).length=0\/0<=Y5 X 1):=by
 unfold YA
 simp only [Bool.and_eq_true,Bool.or_eq_true,decide_eq_true_eq,and_assoc,List.all_eq_true,List.mem_range]
theorem ZD {L:List Z6} {i:Nat} (h:i<L.length):L.getD i Z8∈L:=by
 rw [List.getD_eq_getElem?_getD,List.getElem?_eq_getElem h];exact List.getElem_mem h
theorem ZfW {H:List Int->List Int} {X:Z7} (ht:X.t.Ok) (hok:∀h∈X.L,h.Ok):YA H X=true↔X.Inv H:=by
 rw [U3,Q7]
 constructor
 ·rintro ⟨⟨h1,h2,h3,h4,h5,h6,h7,h8,h9⟩,hl,h10,h11⟩
  refine ⟨ht,h1,by omega,h3,h4,h5,h6,h7,h8,h9,fun h hh=> ?_, ?_,h10, ?_,hok⟩
  ·obtain ⟨i,hi,rfl⟩:=List.getElem_of_mem hh
   have:=hl i hi
   unfold Yy at this
   simp only [Bool.and_eq_true] at this
   rw [List.getD_eq_getElem?_getD,List.getElem?_eq_getElem hi] at this
   exact this.1
  ·refine Ud (R:=Xi) Z8D Z8 X.L fun i hi=> ?_
   have:=hl (i+1) hi
   unfold Yy at this
   simp only [Bool.and_eq_true,Bool.or_eq_true,decide_eq_true_eq,Nat.add_sub_cancel] at this
   rcases this.2 with h|h
   ·have:=Nat.eq_of_beq_eq_true h;omega
   ·exact h
  ·rcases h11 with h|h
   ·exact .inl (List.eq_nil_of_length_eq_zero h)
   ·exact .inr h
 ·intro h
  refine ⟨⟨h.tb,by have:=h.side;omega,h.res,h.a0,h.a1,h.i0,h.i1,h.n0,h.n1⟩,fun i hi=> ?_,h.ov0, ?_⟩
  ·unfold Yy
   simp only [Bool.and_eq_true,Bool.or_eq_true,decide_eq_true_eq]
   refine ⟨h.und _ (ZD hi), ?_⟩
   cases i with
   | zero=>exact .inl rfl
   | succ i=>
    right
    rw [Nat.add_sub_cancel,List.getD_eq_getElem?_getD,List.getD_eq_getElem?_getD,List.getElem?_eq_getElem hi,List.getElem?_eq_getElem (by omega)]
    exact (List.pairwise_iff_getElem.1 h.fol) i (i+1) (by omega) hi (by omega)
  ·rcases h.ov1 with h|h
   ·exact .inl (by rw [h];rfl)
   ·exact .inr h
def Xy (own:Bool) (s:Int):Int:=if s<1\/9<s\/s=5 then 0 else match own with
 | true=>if s<5 then s else (s-4)%4+1
 | false=>if s<5 then (s+1)%4+1 else s-5
def ZY (own:Bool) (s m:Int):Int:=if Xy own s=m then s+1 else s
def Xj (own:Bool) (s:Int) (ours:Bool):Bool:=if own=ours then decide (4<=s/\s<=6) else decide (2<=s/\s<=8)
def YE (own:Bool) (s:Int):Int:=if s<1\/10<s\/(own=false/\s=1) then 0 else if own=true/\s=6 then 5 else s
def Xp (h:Z6):List Z6->List Z6
 | []=>[h]
 | x::r=>if h.own=true/\x.own=false then h::x::r else x::Xp h r
def Xd (X:Z7) (own:Bool) (id am:Int) (hash:List Int) (ex:Int):Z6:=⟨own,id,am,hash,ex,1,0,Za⟩
def XA (X:Z7) (own:Bool) (id am:Int) (hash:List Int) (ex:Int):Int:=
 if Yj (Xd X own id am hash ex)=false then 2 else if id≠X.nx own then 200 else if 8<=(ZR X.side (ZS X.side own) X.L).length then 201 else if Y5 X (ZS X.side own)<am then 202 else 0
def XG (X:Z7) (own:Bool) (d:Int):Z7:=match own with
 | true=>{ X with i0:=X.i0+d}
 | false=>{ X with i1:=X.i1+d}
def addX (X:Z7) (own:Bool) (id am:Int) (hash:List Int) (ex:Int):Z7:=if XA X own id am hash ex=0 then { XG X own 1 with L:=Xp (Xd X own id am hash ex) X.L} else X
def ZH (own:Bool) (id:Int):List Z6->Nat
 | []=>0
 | x::r=>if x.own=own/\x.id=id then 0 else ZH own id r+1
def Xb (H:List Int->List Int) (X:Z7) (own:Bool) (id k:Int) (sec:List Int):Int:=
 if X.L.length<=ZH own id X.L then 5 else if (X.L.getD (ZH own id X.L) Z8).stage≠5 then 190 else if k=1/\H sec≠(X.L.getD (ZH own id X.L) Z8).hash then 203 else 0
def Uf (h:Z6) (k:Int) (sec:List Int):Z6:={ h with stage:=6,fin:=k,secret:=sec}
def endX (H:List Int->List Int) (X:Z7) (own:Bool) (id k:Int) (sec:List Int):Z7:=if Xb H X own id k sec=0 then { X with L:=X.L.set (ZH own id X.L) (Uf (X.L.getD (ZH own id X.L) Z8) k sec)} else X
def stH (m:Int) (h:Z6):Z6:={ h with stage:=ZY h.own h.stage m}
def Yo (m:Int) (L:List Z6):List Z6:=(L.map (stH m)).filter fun h=>decide (h.stage≠10)
def ZV (m:Int) (L:List Z6):List Z6:=(L.map (stH m)).filter fun h=>decide (h.stage=10)
def Yp (m:Int) (L:List Z6):List Z6:=(L.filter fun h=>decide (h.stage=4/\Xy h.own 4=m)).map (stH m)
def XZ (side:Int) (p:Int×Int) (h:Z6):Int×Int:=if h.fin=1 then (if ZS side h.own=0 then (p.1-h.amount,p.2+h.amount) else (p.1+h.amount,p.2-h.amount)) else p
def Z0p (m side:Int) (p:Int×Int) (L:List Z6):Int×Int:=(ZV m L).foldl (XZ side) p
def stpX (X:Z7) (m:Int):Z7:=if 1<=m/\m<=4 then { X with L:=Yo m X.L,a0:=(Z0p m X.side (X.a0,X.a1) X.L).1,a1:=(Z0p m X.side (X.a0,X.a1) X.L).2} else X
def brH (h:Z6):Z6:=if YE h.own h.stage=5 then { h with stage:=5,fin:=0,secret:=Za} else { h with stage:=YE h.own h.stage}
def Ym (L:List Z6):List Z6:=(L.filter fun h=>decide (YE h.own h.stage≠0)).map brH
def ZL (L:List Z6):List Z6:=L.filter fun h=>decide (YE h.own h.stage=0)
def brkX (X:Z7):Z7:={ X with L:=Ym X.L,i1:=X.i1-(ZL X.L).length}
def Wo (L:List Z6):Bool:=L.any fun h=>decide (Xy h.own h.stage=1)
end Go.Tk
end
section
namespace Go.Tk
open IntKind (i64 u8 u32 u64 wrap)
theorem Zkt (n a b:Int) (r:Bool) (hr:r=decide (a<=n/\n<=b)):
  evF G0 20 68 [.int .i64 n,.int .i64 a,.int .i64 b] ⟨0,[]⟩ (Y4 (fun v=>v=.bool r)):=by
 refine @Eq.mpr _ (Z0 (decide (a<=n)) (AV.bool (decide (n<=b))=AV.bool r) (AV.bool false=AV.bool r)) (by kernel_rfl) ?_
 simp only [UD]
 subst hr
 by_cases h1:a<=n<;>by_cases h2:n<=b<;>simp [h1,h2]
theorem Zku (n a b:Int) (r:Bool) (hr:r=decide (a<=n/\n<=b)):
  evF G0 20 78 [.int .i64 n,.int .i64 a,.int .i64 b] ⟨0,[]⟩ (Y4 (fun v=>v=.bool r)):=by
 refine @Eq.mpr _ (Z0 (decide (a<=n)) (AV.bool (decide (n<=b))=AV.bool r) (AV.bool false=AV.bool r)) (by kernel_rfl) ?_
 simp only [UD]
 subst hr
 by_cases h1:a<=n<;>by_cases h2:n<=b<;>simp [h1,h2]
theorem Zkv (n a b:Int) (r:Bool) (hr:r=decide (a<=n/\n<=b)):
  evF G0 20 149 [.int .i64 n,.int .i64 a,.int .i64 b] ⟨0,[]⟩ (Y4 (fun v=>v=.bool r)):=by
 refine @Eq.mpr _ (Z0 (decide (a<=n)) (AV.bool (decide (n<=b))=AV.bool r) (AV.bool false=AV.bool r)) (by kernel_rfl) ?_
 simp only [UD]
 subst hr
 by_cases h1:a<=n<;>by_cases h2:n<=b<;>simp [h1,h2]
theorem Zkw (n a b:Int) (r:Bool) (hr:r=decide (a<=n/\n<=b)):
  evF G0 20 86 [.int .i64 n,.int .i64 a,.int .i64 b] ⟨0,[]⟩ (Y4 (fun v=>v=.bool r)):=by
 refine @Eq.mpr _ (Z0 (decide (a<=n)) (AV.bool (decide (n<=b))=AV.bool r) (AV.bool false=AV.bool r)) (by kernel_rfl) ?_
 simp only [UD]
 subst hr
 by_cases h1:a<=n<;>by_cases h2:n<=b<;>simp [h1,h2]
theorem Z1X (args:List AV) (h:Z9) (K:AV->Prop) (hl:inQ args h K):Zn PP 68 args h fun o h'=>∃v,o=.ret v/\h'=h/\K v:=by
 unfold inQ at hl
 split at hl
 ·exact ZU Zu rfl (Zkt _ _ _ _ rfl) (fun u hu=>hu▸hl)
 ·exact hl.elim
theorem Z0q (args:List AV) (h:Z9) (K:AV->Prop) (hl:inQ args h K):Zn PP 78 args h fun o h'=>∃v,o=.ret v/\h'=h/\K v:=by
 unfold inQ at hl
 split at hl
 ·exact ZU Zu rfl (Zku _ _ _ _ rfl) (fun u hu=>hu▸hl)
 ·exact hl.elim
theorem Z0r (args:List AV) (h:Z9) (K:AV->Prop) (hl:inQ args h K):Zn PP 149 args h fun o h'=>∃v,o=.ret v/\h'=h/\K v:=by
 unfold inQ at hl
 split at hl
 ·exact ZU Zu rfl (Zkv _ _ _ _ rfl) (fun u hu=>hu▸hl)
 ·exact hl.elim
theorem Z0s (args:List AV) (h:Z9) (K:AV->Prop) (hl:inQ args h K):Zn PP 86 args h fun o h'=>∃v,o=.ret v/\h'=h/\K v:=by
 unfold inQ at hl
 split at hl
 ·exact ZU Zu rfl (Zkw _ _ _ _ rfl) (fun u hu=>hu▸hl)
 ·exact hl.elim
noncomputable def Z5z (G:Zh):Zh:=(((G.withP 68 inQ).withP 78 inQ).withP 149 inQ).withP 86 inQ
noncomputable def Zjd:Zh:=Z5z G0
theorem Z9J:Zjd.Ok:=Zh.withP_ok (Zh.withP_ok (Zh.withP_ok (Zh.withP_ok Zu Z1X) Z0q) Z0r) Z0s
theorem Zmx (p:Z6) (b:Bool) (hb:b=Yj p):
  evF Zjd 20 81 [.agg p.c] ⟨0,[]⟩ (Y4 (fun v=>v=.bool b)):=by
 refine @Eq.mpr _ (let q1:=AV.bool false=AV.bool b;
 Z0 (decide (0<=p.id/\p.id<=2147483647)) (Z0 (decide (1<=p.amount/\p.amount<=1125899906842624)) (AV.bool (decide (1<=p.expiry/\p.expiry<=2147483647))=AV.bool b) q1) q1) (by kernel_rfl) ?_
 conv=>zeta
 subst hb
 unfold Yj
 generalize decide (0<=p.id/\p.id<=2147483647)=c1
 generalize decide (1<=p.amount/\p.amount<=1125899906842624)=c2
 generalize decide (1<=p.expiry/\p.expiry<=2147483647)=c3
 cases c1<;>cases c2<;>cases c3<;>rfl
def Z5A:ZK:=fun args _ K=>match args with
 | [.agg [.bool ow,.int .i64 id,.int .i64 am,.arr .u8 32 ha,.int .i64 ex,.int .i64 st,.int .i64 en,.arr .u8 32 se]]=>K (.bool (Yj ⟨ow,id,am,ha,ex,st,en,se⟩))
 | _=>False
theorem Z4C (args:List AV) (h:Z9) (K:AV->Prop) (hl:Z5A args h K):Zn PP 81 args h fun o h'=>∃v,o=.ret v/\h'=h/\K v:=by
 unfold Z5A at hl
 split at hl
 ·exact ZU Z9J rfl (Zmx ⟨_,_,_,_,_,_,_,_⟩ _ rfl) (fun u hu=>hu▸hl)
 ·exact hl.elim
end Go.Tk
end
section
namespace Go.Tk
open IntKind (i64 u8 u32 u64 wrap)
theorem Xq (L:List Z6) (i:Nat):Yt (Z4 L i)=true:=rfl
theorem Zp {k:Nat} {τ:Ren} {n:Nat} {L:List Z6} {f:Nat->List AV} (h:∀i,i<n->f i=Z4 L i):Zc k τ n (Z4 L) f:=
 Z4q h (fun i _=>Xq L i) (fun i _ v hv=>by
  simp only [Z4,Z6.c,List.mem_cons,List.not_mem_nil,or_false] at hv
  rcases hv with rfl|rfl|rfl|rfl|rfl|rfl|rfl|rfl<;>first|exact .inl rfl|exact .inr ⟨_,_,_,rfl⟩)
theorem Yk {f:Nat->List AV} {O:List Z6} {x:Z6} {c i:Nat} (hc:O.length=c) (hf:∀i,i<c->f i=Z4 O i) (hi:i<c+1):ZZ c f (YG (Z6.c x) 0 70) i=Z4 (O++[x]) i:=by
 rcases Nat.lt_or_ge i c with h|h
 ·rw [Z5o h,hf i h]
  unfold Z4
  rw [List.getD_eq_getElem?_getD,List.getD_eq_getElem?_getD,List.getElem?_append_left (by omega)]
 ·have e:i=c:=by omega
  subst e
  rw [Z0k (Nat.le_refl _),Nat.sub_self]
  unfold Z4
  rw [List.getD_eq_getElem?_getD,List.getElem?_append_right (by omega),hc,Nat.sub_self]
  rfl
theorem ZA.evV {G:Zh} (hG:G.Ok) {n:Nat} {f:FuncId} {args:List AV} {v:AV} (h:evF G n f args ⟨0,[]⟩ (Y4 fun u=>u=v)):ZA G.P f args v 0 []:=by
 intro E w rs he hr
 refine (QH hG h E w rs he hr).mono ?_
 rintro e w' ⟨E₁,o,h',hK0,hev,hor⟩
 cases hor with
 | panic u r hr=>exact hK0.elim
 | ret u r hr=>
  unfold Y4 at hK0
  simp only at hK0
  split at hK0
  ·rename_i hu
   subst hK0
   refine ⟨E,r,rfl,⟨.refl E,⟨he.fresh,fun x B hx=>by simp [Z9.get,ZN] at hx,fun x B hx=>by simp [Z9.get,ZN] at hx,fun x y B B' b N N' hx=>by simp [Z9.get,ZN] at hx,fun a c hi=>hev.emb.imm a c (hev.le.imm a c hi),fun a c x B N _ hx=>by simp [Z9.get,ZN] at hx⟩,hev.size,hev.os,hev.tape,hev.output,hev.keep,fun b hb=> ?_,fun _ _ h=>h⟩,Zm.vplain (E:=E₁) (E':=E) (fun a c hi=>hev.imm a c hi) _ _ hu hr⟩
   obtain ⟨x,B,N,hx,_⟩:=hb
   simp [Z9.get,ZN] at hx
  ·exact hK0.elim
theorem Vg (G:Zh) (f:FuncId) (S:ZK):(G.withP f S).P=G.P:=rfl
theorem Z5B (G:Zh) (f:FuncId) (S:Y8):(G.withF f S).P=G.P:=rfl
def X4 (b:Bool) (x:Z6):List Z6:=match b with
 | true=>[x]
 | false=>[]
theorem Z10 {p:Z6->Bool} {L:List Z6} {i:Nat} (hi:i<L.length):(L.take (i+1)).filter p=(L.take i).filter p++X4 (p (L.getD i Z8)) (L.getD i Z8):=by
 rw [List.take_succ_eq_append_getElem hi,List.filter_append,List.getD_eq_getElem?_getD,List.getElem?_eq_getElem hi]
 congr 1
theorem Z8E (x y:Prop):Z0 true x y=x:=rfl
theorem Zdj (x y:Prop):Z0 false x y=y:=rfl
theorem WD (c x y:Bool) (v:AV):Z0 c (AV.bool x=v) (AV.bool y=v)=(AV.bool (cond c x y)=v):=by cases c<;>rfl
theorem Zdk (c:Bool) (k:IntKind) (x y:Int) (v:AV):Z0 c (AV.int k x=v) (AV.int k y=v)=(AV.int k (cond c x y)=v):=by cases c<;>rfl
inductive LV (cs:List AV) (X:Z7):Prop where
 | a (h:cs=X.c (.vrows 70 X.L.length (Z4 X.L) X.L.length))
 | b (h1:X.L=[]) (h:cs=X.c .nilslice)
def YX (X:Z7):Prop:=0<=X.side/\X.side<=1
structure Z11 (X:Z7):Prop where
 n:X.L.length<1000
 am:∀h∈X.L,0<=h.amount/\h.amount<=1125899906842624
 a0: -1152921504606846976<=X.a0/\X.a0<=1152921504606846976
 a1: -1152921504606846976<=X.a1/\X.a1<=1152921504606846976
 res:0<=X.res/\X.res<=1152921504606846976
 fee:0<=X.t.fee/\X.t.fee<=1152921504606846976
def Zdl (H:List Int->List Int):ZK:=fun args h K=>ZP none h true 20 args fun a=>match a with
 | [.pview cs 0,.agg [.bool ow,.int .i64 id,.int .i64 am,.arr .u8 32 ha,.int .i64 ex,.int .i64 st,.int .i64 en,.arr .u8 32 se]]=>∃X,LV cs X/\Z6.Ok ⟨ow,id,am,ha,ex,st,en,se⟩/\K (.bool (Yz H X ⟨ow,id,am,ha,ex,st,en,se⟩))
 | _=>False
def Zje:ZK:=fun args _ K=>match args with
 | [.agg [.bool ow,.int .i64 id,.int .i64 am,.arr .u8 32 ha,.int .i64 ex,.int .i64 st,.int .i64 en,.arr .u8 32 se],.agg [.bool ow',.int .i64 id',.int .i64 am',.arr .u8 32 ha',.int .i64 ex',.int .i64 st',.int .i64 en',.arr .u8 32 se']]=>K (.bool (decide (Xi ⟨ow,id,am,ha,ex,st,en,se⟩ ⟨ow',id',am',ha',ex',st',en',se'⟩)))
 | _=>False
def Zjf:ZK:=fun args _ K=>match args with
 | [.agg [.bool ow,.int .i64 _,.int .i64 _,.arr .u8 32 _,.int .i64 _,.int .i64 _,.int .i64 _,.arr .u8 32 _],.pview [.pview cs 0] 0,.pview [.int .i64 s] 0]=>∃X,LV cs X/\YX X/\K (.bool (decide (ZS X.side ow=s)))
 | _=>False
def Zdm:Y8:=fun args h K=>ZP none h true 20 args fun a=>match a with
 | [.vrows 70 n f n',.func (.func 136) [] [.pview [.pview cs 0] 0,.pview [.int .i64 s] 0]]=>∃X,n'=n/\n=X.L.length/\f=Z4 X.L/\LV cs X/\YX X/\n<1000/\K (.ret (.nslice ⟨h.next,0,70,0,0⟩ 70 (ZR X.side s X.L).length (ZR X.side s X.L).length)) ⟨h.next+1,(h.next,.rows 70 (ZR X.side s X.L).length (Z4 (ZR X.side s X.L)))::h.bs⟩
 | [.nilslice,.func (.func 136) [] [.pview [.pview cs 0] 0,.pview [.int .i64 s] 0]]=>∃X,LV cs X/\YX X/\X.L=[]/\K (.ret (.nslice ⟨h.next,0,70,0,0⟩ 70 (ZR X.side s X.L).length (ZR X.side s X.L).length)) ⟨h.next+1,(h.next,.rows 70 (ZR X.side s X.L).length (Z4 (ZR X.side s X.L)))::h.bs⟩
 | _=>False
def Z3h:Y8:=fun args h K=>ZP none h true 20 args fun a=>match a with
 | [.pview cs 0,.int .i64 s]=>∃X,LV cs X/\YX X/\X.L.length<1000/\K (.ret (.nslice ⟨h.next,0,0,0,0⟩ 1 (ZR X.side s X.L).length (ZR X.side s X.L).length)) ⟨h.next+1,(h.next,.ints .i64 (XP (ZR X.side s X.L)))::h.bs⟩
 | _=>False
def smS:ZK:=fun args h K=>ZP none h true 20 args fun a=>match a with
 | [.vints .i64 xs n]=>n=xs.length/\n<1000/\(∀x∈xs,0<=x/\x<=1125899906842624)/\K (.int .i64 xs.sum)
 | _=>False
def ZfX:ZK:=fun args h K=>ZP none h true 20 args fun a=>match a with
 | [.pview cs 0,.int .i64 s]=>∃X,LV cs X/\YX X/\(s=0\/s=1)/\Z11 X/\K (.int .i64 (Y5 X s))
 | _=>False
def Zkx (H:List Int->List Int):ZK:=fun args h K=>ZP none h true 20 args fun a=>match a with
 | [.pview cs 0]=>∃X,LV cs X/\X.t.Ok/\(∀h∈X.L,h.Ok)/\X.L.length<1000/\K (.bool (YA H X))
 | _=>False
def ZhM:ZK:=fun args h K=>ZP none h true 20 args fun a=>match a with
 | [.int .i64 s,.pview [.pview cs 0] 0]=>∃X,LV cs X/\YX X/\X.L.length<1000/\K (.bool (decide ((ZR X.side s X.L).length<=8)))
 | _=>False
theorem Zv.last {E:Env} {v v':AV} (hv:∀k m xs,v≠.arr k m xs) (hc:v'.isCell=true) (h:∀c,Zm E v c->Zm E v' c):∀{l:List AV} {vs:List Value},Zv E (l++[v]) vs->Zv E (l++[v']) vs
 | [],vs,hl=>by
  obtain ⟨c,w,rfl,h0,h2,h3,ht⟩:=hl.cons_cell hv
  exact .one _ _ _ _ hc h2 (h _ h3) ht
 | a::r,vs,hl=>by
  by_cases ha:∃k m xs,a=.arr k m xs
  ·obtain ⟨k,m,xs,rfl⟩:=ha
   obtain ⟨w,rfl,ht⟩:=Zv.cons_arr (r:=r++[v]) hl
   exact .arr _ _ _ _ _ (Zv.last hv hc h ht)
  ·obtain ⟨c,w,rfl,h0,h2,h3,ht⟩:=Zv.cons_cell (r:=r++[v]) hl (fun k m xs e=>ha ⟨k,m,xs,e⟩)
   exact .one _ _ _ _ h0 h2 h3 (Zv.last hv hc h ht)
theorem Z7.c_eq (X:Z7) (l:AV):X.c l=(X.t.c++[.int .i64 X.side,.int .i64 X.res,.arr .i64 2 [X.a0,X.a1],.arr .i64 2 [X.i0,X.i1]])++[l]:=by unfold Z7.c;simp
theorem Z9K {cs:List AV} {X:Z7} (h:LV cs X) {E:Env} {vs:List Value} (hc:Zv E cs vs):Zv E (X.c (.vrows 70 X.L.length (Z4 X.L) X.L.length)) vs:=by
 rcases h with rfl|⟨h1,rfl⟩
 ·exact hc
 ·rw [Z7.c_eq] at*
  refine Zv.last (by intros;simp) rfl (fun c hc=> ?_) hc
  cases hc
  rw [h1]
  exact .vrowsNil _ _ _ _ rfl rfl
def Wp (X:Z7):AV:=.pview (X.c (.vrows 70 X.L.length (Z4 X.L) X.L.length)) 0
theorem W0 {cs:List AV} {X:Z7} (h:LV cs X) {E:Env} {r:Value} (hc:Zm E (.pview cs 0) r):Zm E (Wp X) r:=by
 cases hc with
 | pview cs inn a vs hc hi=>exact .pview _ 0 a vs (Z9K h hc) hi
theorem Z5C {cs:List AV} {X:Z7} (h:LV cs X) {E:Env} {r:Value} (hc:Zm E (.pview [.pview cs 0] 0) r):Zm E (.pview [Wp X] 0) r:=by
 cases hc with
 | pview cs inn a vs hc hi=>
  obtain ⟨c,w1,rfl,h0,h2,h3,hc⟩:=hc.cons_cell (by intros;simp)
  cases hc
  exact .pview _ 0 a _ (.one _ _ _ _ rfl h2 (W0 h h3) .nil) hi
end Go.Tk
end
section
namespace Go.Tk
open IntKind (i64 u8 u32 u64 wrap)
def jnP (k id:Nat) (pv:AV) (S1 Pn:St) (ok no:Prop):KE:=fun e s=>match e with
 | .exit x=>(match Nat.beq x id with|true=>W4 k S1 s ok|false=>False)
 | .panic v=>YD pv v (W4 k Pn s no)
 | _=>False
theorem Zh.withJX {G:Zh} (hG:G.Ok) {f:FuncId} {id N:Nat} {pv:AV} {S:Nat->St->KE->Prop} (hpv:pv.plain2=true) (h1:Z5r G.P f id=true)
  (h:∀k s X,S k s X->∃(S0 S1 Pn:St) (ok no:Prop),VY k s S0/\Z6E G N f id k S0 (jnP k id pv S1 Pn ok no)/\(ok->X (.exit id) S1)/\(no->X (.panic pv) Pn)):(G.withL f id S).Ok where
 draw:=hG.draw
 psumm:=hG.psumm
 fsumm:=hG.fsumm
 lsumm:=fun f' id' S' fn c body hS hf hb hm k' s X hs=>by
  simp only [Zh.withL] at hS
  split at hS
  ·rename_i hq
   rw [Bool.and_eq_true] at hq
   have e1:=Nat.eq_of_beq_eq_true hq.1
   have e2:=Nat.eq_of_beq_eq_true hq.2
   subst e1 e2
   cases hS
   have hc:=ZaY h1 hf hb hm
   obtain ⟨S0,S1,Pn,ok,no,hw,hE,hX,hX'⟩:=h _ _ _ hs
   unfold Z6E at hE
   rw [<-hc] at hE
   have hkN:=UX hG N f' none
   refine YF.weak ?_ hw
   intro E0 h0 w0 E a w n hk hs hev
   refine wpIn_mono (Z0K (k:=k') (ro:=none) hG hkN.1 (fun _=>rfl) (fun _=>rfl) (fun _=>⟨fn,body,by rw [hkN.2.1];exact hf,hb,fun b hbm=>WR body id' _ hm b hbm⟩) hE E0 h0 w0 E a w n hk hs hev) ?_
   rintro e a' w' ⟨E',x,s',hx,hev',hs',he⟩
   unfold jnP at hx
   split at hx
   ·split at hx
    ·rename_i hi
     have:=Nat.eq_of_beq_eq_true hi
     subst this
     obtain ⟨hok,hw'⟩:=YI hx
     obtain ⟨E₂,hs₂,hev₂⟩:=hw' E0 h0 w0 E' a' w' hk hs' hev'
     cases he
     exact ⟨E₂,_,_,hX hok,hev₂,hs₂,.exit _⟩
    ·exact hx.elim
   ·obtain ⟨hv,hx2⟩:=Ur _ _ _ hx
    subst hv
    obtain ⟨hno,hw'⟩:=YI hx2
    obtain ⟨E₂,hs₂,hev₂⟩:=hw' E0 h0 w0 E' a' w' hk hs' hev'
    cases he with
    | panic v r hv=>exact ⟨E₂,_,_,hX' hno,hev₂,hs₂,.panic _ r (hv.plain2 hpv)⟩
   ·exact hx.elim
  ·exact hG.lsumm f' id' S' fn c body hS hf hb hm k' s X hs
theorem Zh.withGoX {G:Zh} (hG:G.Ok) {f:FuncId} {id N l:Nat} {pv:AV} {S:Nat->St->KE->Prop} (hpv:pv.plain2=true) (h1:Wg G.P f id=true)
  (h:∀k s X,S k s X->∃(n:Nat) (I En Rn Jn Pn:Nat->St) (go ex re jm pa:Nat->Prop),VY k s (I 0)/\(∀i,i<=n->(∀j,j<i->go j)->ZB G N f id k (I i) (rdP k id l pv (I (i+1)) (En i) (Rn i) (Jn i) (Pn i) (go i/\i<n) (ex i) (re i) (jm i) (pa i)))/\
   Zkd id n l pv go ex re jm pa En Rn Jn Pn X):(G.withL f id S).Ok:=by
 refine Zh.withL_okP hG h1 ?_
 intro k s X hl
 obtain ⟨n,I,En,Rn,Jn,Pn,go,ex,re,jm,pa,hw,hr,hX⟩:=h k s X hl
 refine ⟨{ t:Nat//t<=n/\∀j,j<t->go j},fun t=>n-t.1,fun t=>I t.1,⟨0,Nat.zero_le _,fun j hj=>by omega⟩,N,hw, ?_⟩
 rintro ⟨t,ht,hgo⟩
 refine ⟨_,hr t ht hgo, ?_⟩
 intro e s' hY
 unfold rdP at hY
 split at hY
 ·obtain ⟨⟨hg,hlt⟩,hw'⟩:=YI hY
  refine ⟨⟨t+1,hlt,fun j hj=> ?_⟩,by show n-(t+1)<n-t;omega,hw'⟩
  by_cases hjt:j=t
  ·rw [hjt];exact hg
  ·exact hgo j (by omega)
 ·split at hY
  ·rename_i hi
   have:=Nat.eq_of_beq_eq_true hi
   subst this
   obtain ⟨hex,hw'⟩:=YI hY
   exact ⟨_,hw',(hX t ht hgo).1 hex⟩
  ·exact hY.elim
 ·obtain ⟨hre,hw'⟩:=YI hY
  exact ⟨_,hw',(hX t ht hgo).2.1 hre⟩
 ·split at hY
  ·rename_i hi
   have:=Nat.eq_of_beq_eq_true hi
   subst this
   obtain ⟨hjm,hw'⟩:=YI hY
   exact ⟨_,hw',(hX t ht hgo).2.2.1 hjm⟩
  ·exact hY.elim
 ·obtain ⟨hv,hY2⟩:=Ur _ _ _ hY
  subst hv
  obtain ⟨hpa,hw'⟩:=YI hY2
  exact ⟨hpv,_,hw',(hX t ht hgo).2.2.2 hpa⟩
theorem Spec.evK {G:Zh} (hG:G.Ok) {n:Nat} {f:FuncId} {args:List AV} {h0:Z9} {o:Out} {nx:Nat} {bs:List (Nat×Blk)} {K:KO} (h:evF G n f args h0 K) (hk:∀o' h',K o' h'->ZX h0.next o nx bs o' h'):Spec G.P f args h0 o nx bs:=by
 intro E w rs he hl
 refine (QH hG h E w rs he hl).mono ?_
 rintro e w' ⟨E',o',h',hK0,hev,hor⟩
 have hK:=hk _ _ hK0
 unfold ZX at hK
 cases o with
 | ret v=>
  cases hor with
  | ret u r hr=>
   obtain ⟨E₂,h1,h2⟩:=Z1R rfl hK he hev hr
   exact ⟨E₂,h1,.ret _ _ h2⟩
  | panic u r hr=>exact hK.elim
 | panic v=>
  cases hor with
  | panic u r hr=>
   obtain ⟨E₂,h1,h2⟩:=Z1R rfl hK he hev hr
   exact ⟨E₂,h1,.panic _ _ h2⟩
  | ret u r hr=>exact hK.elim
end Go.Tk
end
section
namespace Go.Tk
open IntKind (i64 u8 u32 u64 wrap)
def rdT (xs:List Int) (o:Nat):Option (Bool×Nat):=if o<xs.length/\xs.getD o 0<=1 then some (xs.getD o 0==1,o+1) else none
theorem Zmy (xs:List Int) (o n o' n':Nat) (b:Bool) (hn:o+n=xs.length) (h0:0<n) (h1:xs.getD o 0<=1) (hb:b=(xs.getD o 0==1)) (ho:o'=o+1) (hn':n'=n-1):
  evF G0 20 116 [.ptr (some ⟨0,0,0,0,0⟩)] ⟨2,[(0,.flat [.nslice ⟨1,0,0,0,o⟩ 1 n n,.bool true,.bool false]),(1,.ints .u8 xs)]⟩ (ZX 2 (.ret (.tuple [.bool b,.int .i64 0])) 2 [(0,.flat [.nslice ⟨1,0,0,0,o'⟩ 1 n' n',.bool true,.bool false]),(1,.ints .u8 xs)]):=by
 refine @Eq.mpr _ (let q1:=Z0 (decide (false=b)) False False;let q2:=decide (n<=n);let q3:=decide ((0:Int)<=1/\1<=(↑n:Int));let q4:=o+0+0;let q5:=List.getD xs q4 0;let q6:=WL n (some 1);
 Z0 (!decide (1<=(↑n:Int))) q1 (Z0 q2 (Z0 q3 (Z0 q2 (Z0 q3 (Z0 (decide (q4<List.length xs)) (Z0 (!decide (q5<=1)) q1 (Z0 (decide ((q5==1)=b)) (Z0 (decide (o+1=o')) (Z0 (decide (q6=n')) (Z0 (decide (n'<=q6)) (xs=xs/\True) False) False) False) False)) False) False) False) False) False)) (by kernel_rfl) ?_
 conv=>zeta
 try simp only [Zi]
 try simp only [Zj]
 try simp only [Zf]
 try simp only [Zk]
 try simp only [Zl]
 try simp only [Zg]
 try simp only [Int.toNat_natCast,Nat.zero_add,true_and,and_true,Nat.le_refl]
 subst hb ho hn'
 have e:WL n (some 1)=n-1:=rfl
 rw [e]
 refine ⟨fun h=>absurd h (by simp;omega),fun _=>⟨by omega,by omega,by omega,fun h=>absurd h (by rw [decide_eq_true (show xs.getD (o+0+0) 0<=1 from h1)];decide),fun _=>by simp⟩⟩
theorem Zmz (xs:List Int) (o n:Nat) (hn:o+n=xs.length) (h1:0<n->1<xs.getD o 0):
  evF G0 20 116 [.ptr (some ⟨0,0,0,0,0⟩)] ⟨2,[(0,.flat [.nslice ⟨1,0,0,0,o⟩ 1 n n,.bool true,.bool false]),(1,.ints .u8 xs)]⟩ (ZX 2 (.ret (.tuple [.bool false,.int .i64 140])) 2 [(0,.flat [.nslice ⟨1,0,0,0,o⟩ 1 n n,.bool true,.bool true]),(1,.ints .u8 xs)]):=by
 refine @Eq.mpr _ (let q1:=decide (n<=n);let q2:=Z0 (decide (o=o)) (Z0 (decide (n=n)) (Z0 q1 (xs=xs/\True) False) False) False;let q3:=decide ((0:Int)<=1/\1<=(↑n:Int));let q4:=o+0+0;let q5:=List.getD xs q4 0;
 Z0 (!decide (1<=(↑n:Int))) q2 (Z0 q1 (Z0 q3 (Z0 q1 (Z0 q3 (Z0 (decide (q4<List.length xs)) (Z0 (!decide (q5<=1)) q2 (Z0 (decide ((q5==1)=false)) False False)) False) False) False) False) False)) (by kernel_rfl) ?_
 conv=>zeta
 try simp only [Zi]
 try simp only [Zj]
 try simp only [Zf]
 try simp only [Zk]
 try simp only [Zl]
 try simp only [Zg]
 try simp only [Int.toNat_natCast,Nat.zero_add,true_and,and_true,Nat.le_refl]
 refine ⟨fun _=>by simp,fun h=>⟨by simp at h;omega,by simp at h;omega,by simp at h;omega,fun _=>by simp,fun h2=> ?_⟩⟩
 have:=h1 (by simp at h;omega)
 have h3:decide (xs.getD o 0<=1)=true:=by
  revert h2
  show (!decide (xs.getD o 0<=1))=false->_
  cases decide (xs.getD o 0<=1)<;>decide
 have h3:=of_decide_eq_true h3
 omega
def Zdn:Y8:=fun args h K=>match args with
 | [.ptr (some ⟨r,0,0,0,0⟩)]=>match h.get r with
  |some (.flat [.nslice ⟨b,0,0,0,_⟩ 1 _ _,.bool true,.bool false])=>frA [r,b] h 20 args fun Bs a=>match Bs,a with
   | [.flat [.nslice ⟨1,0,0,0,o⟩ 1 n n2,.bool true,.bool false],.ints .u8 xs],[.ptr (some ⟨0,0,0,0,0⟩)]=>
    Zx (n=xs.length-o/\o<=xs.length/\n2=xs.length-o) ((∀v o',rdT xs o=some (v,o')->(o<=o'/\o'<=xs.length)->
     K (.ret (.tuple [.bool v,.int .i64 0])) ⟨h.next,(r,.flat [.nslice ⟨b,0,0,0,o'⟩ 1 (xs.length-o') (xs.length-o'),.bool true,.bool false])::(b,.ints .u8 xs)::Ye (Ye h.bs r) b⟩)/\
     (rdT xs o=none->K (.ret (.tuple [.bool false,.int .i64 140])) ⟨h.next,(r,.flat [.nslice ⟨b,0,0,0,o⟩ 1 (xs.length-o) (xs.length-o),.bool true,.bool true])::(b,.ints .u8 xs)::Ye (Ye h.bs r) b⟩))
   | _,_=>False
  | _=>False
 | _=>False
theorem Zdo (args:List AV) (h:Z9) (K:KO) (hl:Zdn args h K):Zn PP 116 args h K:=by
 unfold Zdn at hl
 split at hl
 ·split at hl
  ·refine Spec.fsumm hl fun Bs a hlen hK0=> ?_
   split at hK0
   ·rename_i o n n2 xs
    obtain ⟨⟨rfl,h1,rfl⟩,hK,hK'⟩:=Ze hK0
    by_cases hc:o<xs.length/\xs.getD o 0<=1
    ·exact ⟨_,_,_,_,_,.evM Zu (Zmy xs o (xs.length-o) (o+1) (xs.length-(o+1)) _ (by omega) (by omega) hc.2 rfl rfl (by omega)),by simp,.ret _ _ rfl,.cons _ _ _ _ _ _ rfl (.flat _ _ rfl) (.cons _ _ _ _ _ _ rfl (.ints _ _) .nil),hK _ (o+1) (by unfold rdT;rw [if_pos hc]) ⟨by omega,by omega⟩⟩
    ·exact ⟨_,_,_,_,_,.evM Zu (Zmz xs o _ (by omega) (fun h=>by omega)),by simp,.ret _ _ rfl,.cons _ _ _ _ _ _ rfl (.flat _ _ rfl) (.cons _ _ _ _ _ _ rfl (.ints _ _) .nil),hK' (by unfold rdT;rw [if_neg hc])⟩
   ·exact hK0.elim
  ·exact hl.elim
 ·exact hl.elim
def Z3i (b:Bool) (xs:List Int) (o:Nat):Option (List Int×Nat):=match b with|true=>rdH xs o|false=>some (Za,o)
def X6 (F:List Int->Int×Int) (xs:List Int) (o:Nat):Option (Z6×Nat):=
 (rdT xs o).bind fun a=>(rdN F xs a.2 2147483647).bind fun b=>(rdN F xs b.2 1125899906842624).bind fun c=>(rdH xs c.2).bind fun d=>
 (rdN F xs d.2 2147483647).bind fun e=>(rdN F xs e.2 9).bind fun f=>(rdN F xs f.2 2).bind fun g=>(Z3i (g.1==1) xs g.2).bind fun s=>
 some (⟨a.1,b.1,c.1,d.1,e.1,f.1,g.1,s.1⟩,s.2)
noncomputable def Z5D (F:List Int->Int×Int) (H:List Int->List Int):Zh:=((((((G0.withF 55 (ZcP F)).withF 54 Z8l).withF 116 Zdn).withF 58 ZcR).withF 113 Z5q).withP 32 (Zkx H))
def lrD:List Ue:=[.call 52 [.ptr (some ⟨0,0,0,0,0⟩),.ptr (some ⟨1,0,0,0,0⟩)]]
def lrT (l:Yd):Yd:=l++[(4,.ptr (some ⟨4,0,0,0,0⟩)),(3,.ptr (some ⟨1,0,0,0,0⟩)),(2,.ptr (some ⟨0,0,0,0,0⟩))]
def lrH (X:Z7) (l:AV) (xs:List Int) (o:Nat) (r:List (Nat×Blk)):List (Nat×Blk):=[(0,.flat [.ptr (some ⟨5,0,0,0,0⟩)]),(1,.flat [.int .i64 0]),(2,.ints .u8 xs),(3,.flat [.nslice ⟨2,0,0,0,o⟩ 1 (xs.length-o) (xs.length-o),.bool true,.bool false]),(4,.flat [.ptr (some ⟨3,0,0,0,0⟩)]),(5,.flat (X.c l))]++r
def lr0 (X:Z7) (xs:List Int) (o:Nat):St:=⟨120,lrT [(42,.int .i64 5),(41,.nslice ⟨6,0,0,0,0⟩ 1 5 5),(43,.int .i64 0)],⟨7,lrH X .nilslice xs o [(6,.flat [.ptr (some ⟨5,0,0,32,0⟩),.ptr (some ⟨5,0,0,33,0⟩),.ptr (some ⟨5,0,0,34,0⟩),.ptr (some ⟨5,0,0,35,0⟩),.ptr (some ⟨5,0,0,36,0⟩)])]⟩,lrD⟩
def lr1 (X:Z7) (xs:List Int) (o:Nat):St:=⟨120,lrT [],⟨6,lrH X .nilslice xs o []⟩,lrD⟩
def lrP:St:=⟨120,[(2,.ptr (some ⟨0,0,0,0,0⟩)),(3,.ptr (some ⟨1,0,0,0,0⟩))],⟨2,[(0,.flat [.top]),(1,.flat [.top])]⟩,lrD⟩
def pvL:AV:=.iface 29 (.int .i64 204)
end Go.Tk
end
