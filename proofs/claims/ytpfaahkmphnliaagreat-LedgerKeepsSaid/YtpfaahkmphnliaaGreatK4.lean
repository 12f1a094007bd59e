/- K: part 4 of an engine (a symbolic evaluator, proved against the model) and of the walk by it. -/
import Derived.Test.YtpfaahkmphnliaaGreatK3
import Derived.OpenShut
import Derived.WideShapes
import Derived.ChangeSlices
import Derived.WalkKit
import Derived.ProofKit
import Derived.Below
import Derived.Handed
import Derived.Carry
set_option linter.unusedVariables false
set_option linter.unusedSimpArgs false
set_option maxRecDepth 100000
set_option maxHeartbeats 0
section
namespace Go.Tk
open IntKind (i64 u8 u32 u64 wrap)
def goL (k:Nat) (τ:Ren) (S0:St) (C:Prop) (ends:KE->Prop):Nat->St->KE->Prop:=fun k' s X=>match Nat.beq k' k with
 | true=>YU k τ S0 s (C/\ends X)
 | false=>False
def ZcD (id n:Nat) (go ex re:Nat->Prop) (En Rn:Nat->St):KE->Prop:=fun X=>
 ∀i,i<=n->(∀j,j<i->go j)->(ex i->X (.exit id) (En i))/\(re i->X .ret (Rn i))
theorem Zg.withGo {G:Zg} (hG:G.Ok) {f:FuncId} {id k N n:Nat} {τ0 τ1 τ2 τ3:Ren} {S En Rn:Nat->St} {S0:St} {C:Prop} {go ex re:Nat->Prop} (h1:XY G.P f id=true) (hC:C->S 0=S0/\
   ∀i,i<=n->(∀j,j<i->go j)->ZG G N f id k (S i) fun e s=>match e with
    | .normal=>YU k τ1 (S (i+1)) s (go i/\i<n)
    | .exit x=>(match Nat.beq x id with|true=>YU k τ2 (En i) s (ex i)|false=>False)
    | .ret=>YU k τ3 (Rn i) s (re i)
    | _=>False):
  (G.withL f id (goL k τ0 S0 C (ZcD id n go ex re En Rn))).Ok:=by
 refine Zg.withL_ok hG h1 ?_
 intro k' s X hl
 unfold goL at hl
 split at hl
 ·rename_i hk
  have:=Nat.eq_of_beq_eq_true hk
  subst this
  obtain ⟨⟨hc,hX⟩,hw⟩:=Yn hl
  obtain ⟨e0,hr⟩:=hC hc
  refine ⟨{ t:Nat//t<=n/\∀j,j<t->go j},fun t=>n-t.1,fun t=>S t.1,⟨0,Nat.zero_le _,fun j hj=>by omega⟩,N,by show Vi k' s (S 0);rw [e0];exact hw, ?_⟩
  rintro ⟨t,ht,hgo⟩
  refine ⟨_,hr t ht hgo, ?_⟩
  intro e s' hY
  split at hY
  ·obtain ⟨⟨hg,hlt⟩,hw'⟩:=Yn hY
   refine ⟨⟨t+1,hlt,fun j hj=> ?_⟩,by show n-(t+1)<n-t;omega,hw'⟩
   by_cases hjt:j=t
   ·rw [hjt];exact hg
   ·exact hgo j (by omega)
  ·split at hY
   ·rename_i hi
    have:=Nat.eq_of_beq_eq_true hi
    subst this
    obtain ⟨hex,hw'⟩:=Yn hY
    exact ⟨_,hw',(hX t ht hgo).1 hex⟩
   ·exact hY.elim
  ·obtain ⟨hre,hw'⟩:=Yn hY
   exact ⟨_,hw',(hX t ht hgo).2 hre⟩
  ·exact hY.elim
 ·exact hl.elim
def YJ (id n l:Nat) (go ex re jm:Nat->Prop) (En Rn Jn:Nat->St):KE->Prop:=fun X=>
 ∀i,i<=n->(∀j,j<i->go j)->(ex i->X (.exit id) (En i))/\(re i->X .ret (Rn i))/\(jm i->X (.goto l) (Jn i))
theorem Zg.withGoJ {G:Zg} (hG:G.Ok) {f:FuncId} {id k N n l:Nat} {τ0 τ1 τ2 τ3 τ4:Ren} {S En Rn Jn:Nat->St} {S0:St} {C:Prop} {go ex re jm:Nat->Prop} (h1:XY G.P f id=true) (hC:C->S 0=S0/\
   ∀i,i<=n->(∀j,j<i->go j)->ZG G N f id k (S i) fun e s=>match e with
    | .normal=>YU k τ1 (S (i+1)) s (go i/\i<n)
    | .exit x=>(match Nat.beq x id with|true=>YU k τ2 (En i) s (ex i)|false=>False)
    | .ret=>YU k τ3 (Rn i) s (re i)
    | .goto x=>(match Nat.beq x l with|true=>YU k τ4 (Jn i) s (jm i)|false=>False)
    | _=>False):
  (G.withL f id (goL k τ0 S0 C (YJ id n l go ex re jm En Rn Jn))).Ok:=by
 refine Zg.withL_ok hG h1 ?_
 intro k' s X hl
 unfold goL at hl
 split at hl
 ·rename_i hk
  have:=Nat.eq_of_beq_eq_true hk
  subst this
  obtain ⟨⟨hc,hX⟩,hw⟩:=Yn hl
  obtain ⟨e0,hr⟩:=hC hc
  refine ⟨{ t:Nat//t<=n/\∀j,j<t->go j},fun t=>n-t.1,fun t=>S t.1,⟨0,Nat.zero_le _,fun j hj=>by omega⟩,N,by show Vi k' s (S 0);rw [e0];exact hw, ?_⟩
  rintro ⟨t,ht,hgo⟩
  refine ⟨_,hr t ht hgo, ?_⟩
  intro e s' hY
  split at hY
  ·obtain ⟨⟨hg,hlt⟩,hw'⟩:=Yn hY
   refine ⟨⟨t+1,hlt,fun j hj=> ?_⟩,by show n-(t+1)<n-t;omega,hw'⟩
   by_cases hjt:j=t
   ·rw [hjt];exact hg
   ·exact hgo j (by omega)
  ·split at hY
   ·rename_i hi
    have:=Nat.eq_of_beq_eq_true hi
    subst this
    obtain ⟨hex,hw'⟩:=Yn hY
    exact ⟨_,hw',(hX t ht hgo).1 hex⟩
   ·exact hY.elim
  ·obtain ⟨hre,hw'⟩:=Yn hY
   exact ⟨_,hw',(hX t ht hgo).2.1 hre⟩
  ·split at hY
   ·rename_i hi
    have:=Nat.eq_of_beq_eq_true hi
    subst this
    obtain ⟨hjm,hw'⟩:=Yn hY
    exact ⟨_,hw',(hX t ht hgo).2.2 hjm⟩
   ·exact hY.elim
  ·exact hY.elim
 ·exact hl.elim
theorem Zj {p x:Prop} [Decidable p]:Z0 (decide p) x False=(p/\x):=by
 by_cases h:p
 ·rw [decide_eq_true h];simp [Z0,h]
 ·rw [decide_eq_false h];simp [Z0,h]
theorem Zl {p x:Prop} [Decidable p]:Z0 (decide p) False x=(¬p/\x):=by
 by_cases h:p
 ·rw [decide_eq_true h];simp [Z0,h]
 ·rw [decide_eq_false h];simp [Z0,h]
theorem Zi {p x y:Prop} [Decidable p]:Z0 (decide p) x y=((p->x)/\(¬p->y)):=by
 by_cases h:p
 ·rw [decide_eq_true h];simp [Z0,h]
 ·rw [decide_eq_false h];simp [Z0,h]
theorem Zm {b:Bool} {x:Prop}:Z0 b x False=(b=true/\x):=by cases b<;>simp [Z0]
theorem Zn {b:Bool} {x:Prop}:Z0 b False x=(b=false/\x):=by cases b<;>simp [Z0]
theorem Zh {b:Bool} {x y:Prop}:Z0 b x y=((b=true->x)/\(b=false->y)):=by cases b<;>simp [Z0]
theorem Zb0 {k:Nat} {τ:Ren} {v:AV} (hp:v.plain=true) (hc:v.isCell=true) {Z:Prop} (hZ:Z):eqV k τ v v Z:=by
 cases v with
 | ptr p=>cases p<;>simp_all [AV.plain,eqV]
 | map r=>cases r<;>simp_all [AV.plain,eqV]
 | _=>simp_all [AV.plain,eqV,UO,AV.isCell]
theorem Z4t {k:Nat} {τ:Ren}:∀{l:List AV},Yy l=true->∀{Z:Prop},Z->(∀v∈l,v.isCell=true\/∃k n xs,v=.arr k n xs)->eqC k τ l l Z
 | [],_,Z,hZ,_=>by simp [eqC,hZ]
 | v::r,hp,Z,hZ,hc=>by
  simp only [Yy,Bool.and_eq_true] at hp
  have hr:=Z4t (k:=k) (τ:=τ) hp.2 hZ (fun u hu=>hc u (List.mem_cons_of_mem _ hu))
  rcases hc v (by simp) with hv|⟨kk,n,xs,rfl⟩
  ·have hna:∀a b c,v≠.arr a b c:=fun a b c e=>by subst e;simp [AV.isCell] at hv
   cases v with
   | arr a b c=>exact absurd rfl (hna a b c)
   | agg cs=>simp [AV.isCell] at hv
   | tuple cs=>simp [AV.isCell] at hv
   | _=>simp only [eqC,hv,Bool.and_self];exact Zb0 hp.1 hv hr
  ·unfold eqC
   simp [hr,Nat.beq_refl]
theorem Z4u {k:Nat} {τ:Ren} {n:Nat} {f f':Nat->List AV} (h:∀i,i<n->f' i=f i) (hp:∀i,i<n->Yy (f i)=true) (hc:∀i,i<n->∀v∈f i,v.isCell=true\/∃k n xs,v=.arr k n xs):Zb k τ n f f':=
 ⟨fun i hi=>by rw [h i hi];exact Z4t (hp i hi) trivial (hc i hi)⟩
theorem ZcE {a b:Nat} (h:a<b):Nat.blt a b=true:=by rw [Nat.blt_eq];exact h
theorem ZcF {a b:Nat} (h:Nat.blt a b=true):a<b:=by rw [Nat.blt_eq] at h;exact h
theorem Z9u {n i:Nat} {f g:Nat->List AV} (h:i<n):Y2 n f g i=f i:=by unfold Y2;rw [ZcE h]
theorem Z1Z {n i:Nat} {f g:Nat->List AV} (h:n<=i):Y2 n f g i=g (i-n):=by
 unfold Y2
 have:Nat.blt i n=false:=by
  cases hq:Nat.blt i n with
  | false=>rfl
  | true=>have:=ZcF hq;omega
 rw [this]
theorem ZC.vrows0 {P:Program} {f:FuncId} {esz:Nat} {g:Nat->List AV} {v:AV} {nx:Nat} {bs:List (Nat×Blk)} (h1:ZC P f [.nilslice] v nx bs) (h2:ZC P f [.fslice] v nx bs):ZC P f [.vrows esz 0 g 0] v nx bs:=by
 intro E w rs he hr
 cases hr with
 | cons v r vs rs hv ht=>cases ht with
  | nil=>cases hv with
   | vrowsNil esz n f len _ _=>exact h1 E w _ he (.cons _ _ _ _ .nilslice .nil)
   | vrows esz n f len a cap g _ _ _ _ _=>exact h2 E w _ he (.cons _ _ _ _ (.fslice a cap) .nil)
theorem ZC.vints0 {P:Program} {f:FuncId} {k:IntKind} {v:AV} {nx:Nat} {bs:List (Nat×Blk)} (h1:ZC P f [.nilslice] v nx bs) (h2:ZC P f [.fslice] v nx bs):ZC P f [.vints k [] 0] v nx bs:=by
 intro E w rs he hr
 cases hr with
 | cons v r vs rs hv ht=>cases ht with
  | nil=>cases hv with
   | vintsNil k xs len _ _=>exact h1 E w _ he (.cons _ _ _ _ .nilslice .nil)
   | vints k xs len a cap _ _ _=>exact h2 E w _ he (.cons _ _ _ _ (.fslice a cap) .nil)
end Go.Tk
namespace Go.Tk
open IntKind (i64 u8 u32 u64 wrap)
mutual
theorem QV {mv:Option Nat} {h:Za}:∀(d:Nat) (t:Bool) (v:AV) (K K':AV->Prop),Uu mv h t d v K->(∀a,K a->K' a)->Uu mv h t d v K'
 | 0,t,v,K,K',hl,hK=>by unfold Uu at hl;exact hl.elim
 | d+1,t,v,K,K',hl,hK=>by
  unfold Uu at hl⊢
  split at hl
  all_goals try exact hK _ hl
  all_goals try exact hl.elim
  ·split at hl
   ·split at hl
    ·exact hl.elim
    ·exact hK _ hl
   ·split at hl
    ·split at hl
     ·exact Wd _ _ _ _ _ hl fun _ h=>hK _ h
     ·exact hl.elim
    ·split at hl
     ·obtain ⟨h1,h2⟩:=Ze hl
      refine UO h1 ?_
      split at h2
      ·exact Wd _ _ _ _ _ h2 fun _ h=>hK _ h
      ·exact h2.elim
     ·exact hl.elim
    ·exact hl.elim
  ·split at hl
   ·split at hl
    ·exact hl.elim
    ·exact hK _ hl
   ·split at hl
    ·split at hl
     ·obtain ⟨h1,h2⟩:=Ze hl
      exact UO h1 (hK _ h2)
     ·exact hl.elim
    ·split at hl
     ·obtain ⟨h1,h2,h3⟩:=Ze hl
      exact UO h1 ⟨h2,hK _ h3⟩
     ·exact hl.elim
    ·split at hl
     ·split at hl
      ·split at hl
       ·split at hl
        ·obtain ⟨h1,h2⟩:=Ze hl
         exact UO h1 (hK _ h2)
        ·obtain ⟨h1,h2⟩:=Ze hl
         exact UO h1 (hK _ h2)
        ·exact hl.elim
       ·exact hl.elim
      ·split at hl
       ·refine Wd _ _ _ _ _ hl fun _ h=> ?_
        split at h
        ·exact hK _ h
        ·exact h.elim
       ·exact hl.elim
     ·exact hl.elim
    ·exact hl.elim
  ·exact Zu _ _ _ _ _ hl fun _ h=>Zu _ _ _ _ _ h fun _ h=>hK _ h
  ·exact QV _ _ _ _ _ hl fun _ h=>hK _ h
  ·exact Wd _ _ _ _ _ hl fun _ h=>hK _ h
  ·exact Zu _ _ _ _ _ hl fun _ h=>hK _ h
theorem Wd {mv:Option Nat} {h:Za}:∀(d:Nat) (t:Bool) (l:List AV) (K K':List AV->Prop),Vz mv h t d l K->(∀a,K a->K' a)->Vz mv h t d l K'
 | 0,t,l,K,K',hl,hK=>by unfold Vz at hl;exact hl.elim
 | d+1,t,l,K,K',hl,hK=>by
  unfold Vz at hl⊢
  split at hl
  ·exact hK _ hl
  ·exact Wd _ _ _ _ _ hl fun _ h=>hK _ h
  ·refine QV _ _ _ _ _ hl fun _ h=> ?_
   split at h
   ·exact Wd _ _ _ _ _ h fun _ h=>hK _ h
   ·exact h.elim
theorem Zu {mv:Option Nat} {h:Za}:∀(d:Nat) (t:Bool) (l:List AV) (K K':List AV->Prop),ZU mv h t d l K->(∀a,K a->K' a)->ZU mv h t d l K'
 | 0,t,l,K,K',hl,hK=>by unfold ZU at hl;exact hl.elim
 | d+1,t,l,K,K',hl,hK=>by
  unfold ZU at hl⊢
  split at hl
  ·exact hK _ hl
  ·exact QV _ _ _ _ _ hl fun _ h=>Zu _ _ _ _ _ h fun _ h=>hK _ h
end
end Go.Tk
end
section
namespace Go.Tk
open IntKind (i64 u8 u32 u64 wrap)
def Ziz (g:Nat->InS):Nat->List AV:=fun q=>(g q).c
def ZfA (g:Nat->Z0l):Nat->List AV:=fun q=>(g q).c
theorem InS.cells (x:InS):∀v∈x.c,v.isCell=true\/∃k n xs,v=.arr k n xs:=by simp [InS.c,AV.isCell]
theorem Z0l.cells (x:Z0l):∀v∈x.c,v.isCell=true\/∃k n xs,v=.arr k n xs:=by simp [Z0l.c,AV.isCell]
end Go.Tk
end
section
namespace Go.Tk
open IntKind (i64 u8 u32 u64 wrap)
def WV (p:Nat->Bool) (n:Nat):Int:=match (List.range n).find? p with|some i=>i|none=> -1
theorem Z3b {p:Nat->Bool} {n i:Nat} (hi:i<n) (hgo:∀j,j<i->p j=false) (hp:p i=true):WV p n=i:=by
 unfold WV
 have:(List.range n).find? p=some i:=by
  rw [List.find?_range_eq_some]
  exact ⟨hp,List.mem_range.2 hi,fun j hj=>by simp [hgo j hj]⟩
 rw [this]
theorem Z3c {p:Nat->Bool} {n:Nat} (hgo:∀j,j<n->p j=false):WV p n= -1:=by
 unfold WV
 have:(List.range n).find? p=none:=by
  rw [List.find?_eq_none]
  intro j hj
  simp [hgo j (List.mem_range.1 hj)]
 rw [this]
theorem Z6z (p:Nat->Bool) (n:Nat):(WV p n= -1/\∀j,j<n->p j=false)\/∃i,i<n/\WV p n=(i:Nat)/\p i=true/\∀j,j<i->p j=false:=by
 unfold WV
 cases h:(List.range n).find? p with
 | none=>
  refine .inl ⟨rfl,fun j hj=> ?_⟩
  have:=List.find?_eq_none.1 h j (List.mem_range.2 hj)
  simpa using this
 | some i=>
  rw [List.find?_range_eq_some] at h
  exact .inr ⟨i,List.mem_range.1 h.2.1,rfl,h.1,fun j hj=>by simpa using h.2.2 j hj⟩
end Go.Tk
end
section
namespace Go.Tk
open IntKind (i64 u8 u32 u64 wrap)
theorem Zb1 (p:Nat->Bool) (n:Nat):decide (0<=WV p n)=(List.range n).any p:=by
 rcases Z6z p n with ⟨h,h2⟩|⟨i,hi,h,h2,_⟩
 ·rw [h]
  have:(List.range n).any p=false:=by
   rw [List.any_eq_false]
   intro j hj
   simp [h2 j (List.mem_range.1 hj)]
  rw [this];rfl
 ·rw [h]
  have:(List.range n).any p=true:=List.any_eq_true.2 ⟨i,List.mem_range.2 hi,h2⟩
  rw [this];simp
end Go.Tk
end
section
namespace Go.Tk
open IntKind (i64 u8 u32 u64 wrap)
def Uy (m x:Int):Bool:=decide (x<0\/x>m)
theorem ZiA (m x:Int) (F:Bool) (hF:F=Uy m x):
  evF G0 20 173 [.int .i64 x,.pview [.int .i64 m] 0] ⟨0,[]⟩ (XN 0 [] (.bool F) 0 []):=by
 refine @Eq.mpr _ (Z0 (decide (x<0)) (Z0 (decide (true=F)) True False) (Z0 (decide (decide (x>m)=F)) True False)) (by kernel_rfl) ?_
 try simp only [Zj]
 try simp only [Zi]
 try simp only [Zh]
 try simp only [Int.toNat_natCast,Nat.zero_add,true_and,and_true,Nat.le_refl]
 subst hF
 unfold Uy
 refine ⟨fun h=> ?_,fun h=> ?_⟩<;>simp [h]
theorem ZfB (x:Int) (F:Bool) (hF:F=Uy 4611686018427387904 x):
  evF G0 20 95 [.int .i64 x] ⟨0,[]⟩ (XN 0 [] (.bool F) 0 []):=by
 refine @Eq.mpr _ (Z0 (decide (x<0)) (Z0 (decide (true=F)) True False) (Z0 (decide (decide (x>4611686018427387904)=F)) True False)) (by kernel_rfl) ?_
 try simp only [Zj]
 try simp only [Zi]
 try simp only [Zh]
 try simp only [Int.toNat_natCast,Nat.zero_add,true_and,and_true,Nat.le_refl]
 subst hF
 unfold Uy
 refine ⟨fun h=> ?_,fun h=> ?_⟩<;>simp [h]
def ZhD:ZR:=fun args h K=>ZU none h true 20 args fun a=>match a with
 | [.int .i64 x,.pview [.int .i64 m] 0]=>K (.bool (Uy m x))
 | _=>False
theorem ZcG (args:List AV) (h:Za) (K:AV->Prop) (hl:ZhD args h K):Zp PP 173 args h fun o h'=>∃v,o=.ret v/\h'=h/\K v:=by
 refine ZC.psumm (d:=20) (Zu _ _ _ _ _ hl fun a ha=> ?_)
 split at ha
 ·exact ⟨_,.ev Zv (ZiA _ _ _ rfl),fun _=>rfl,ha⟩
 ·exact ha.elim
def ZcH (T:Int):ZR:=fun args h K=>ZU none h true 20 args fun a=>match a with
 | [.int .i64 x]=>K (.bool (Uy T x))
 | _=>False
theorem Zb2 (args:List AV) (h:Za) (K:AV->Prop) (hl:ZcH 4611686018427387904 args h K):Zp PP 95 args h fun o h'=>∃v,o=.ret v/\h'=h/\K v:=by
 refine ZC.psumm (d:=20) (Zu _ _ _ _ _ hl fun a ha=> ?_)
 split at ha
 ·exact ⟨_,.ev Zv (ZfB _ _ rfl),fun _=>rfl,ha⟩
 ·exact ha.elim
noncomputable def ZjT (T:Int):Zg:=(G0.withP 173 ZhD).withP 95 (ZcH T)
theorem ZfC:(ZjT 4611686018427387904).Ok:=Zg.withP_ok (Zg.withP_ok Zv ZcG) Zb2
def YL (m:Int) (xs:List Int):Nat->Bool:=fun j=>Uy m (xs.getD j 0)
noncomputable def ZcI:Zg:=ZjT 4611686018427387904
theorem Z9v:ZcI.Ok:=ZfC
def ZiB (xs:List Int) (N:Nat) (m:Int) (i:Nat):St:=⟨19,[(1,.func (.func 173) [] [.pview [.int .i64 m] 0]),(0,.vints .i64 xs N),(7,.int .i64 N),(8,.int .i64 i)],⟨0,[]⟩,[]⟩
def ZjU (i:Nat):St:=⟨19,[(4,.int .i64 i)],⟨0,[]⟩,[]⟩
def ZjV (_:Nat):St:=⟨19,[],⟨0,[]⟩,[]⟩
theorem ZjW (xs:List Int) (N:Nat) (m:Int) (i:Nat) (Z1 Z2 Z3:Prop) (hC:N<900000000000/\xs.length=N) (hi:i<=N) (h1:i<N->YL m xs i=false->Z1) (h2:i=N->Z2) (h3:i<N->YL m xs i=true->Z3):
  ZG ZcI 20 142 0 0 (ZiB xs N m i) (fun e s=>match e with|.normal=>YU 0 [] (ZiB xs N m (i+1)) s Z1|.exit x=>(match Nat.beq x 0 with|true=>YU 0 [] (ZjV i) s Z2|false=>False)|.ret=>YU 0 [] (ZjU i) s Z3|_=>False):=by
 refine @Eq.mpr _ (let q1:=[AV.int i64 m];
 Z0 (decide ((↑i:Int)<(↑N:Int))) (Z0 (decide (0<=(↑i:Int)/\(↑i:Int)<(↑N:Int))) (Z0 (Uy m (List.getD xs (Int.toNat (↑i:Int)) 0)) (Z0 (decide ((↑i:Int)=(↑i:Int))) Z3 False) (q1=q1/\xs=xs/\Z0 (decide (N=N)) (Z0 (decide ((↑N:Int)=(↑N:Int))) (Z0 (decide (wrap i64 ((↑i:Int)+1)=(↑(i+1):Int))) Z1 False) False) False)) False) Z2) (by kernel_rfl) ?_
 conv=>zeta
 try simp only [Zj]
 try simp only [Zi]
 try simp only [Zh]
 try simp only [Int.toNat_natCast,Nat.zero_add,true_and,and_true,Nat.le_refl]
 refine ⟨fun hlt=>⟨by omega,fun h=>h3 (by omega) h,fun h=>⟨w64 (by omega),h1 (by omega) h⟩⟩,fun hge=>h2 (by omega)⟩
noncomputable def ZjX (xs:List Int) (N:Nat) (m:Int):Zg:=ZcI.withL 142 0 (goL 0 [] (ZiB xs N m 0) (N<900000000000/\xs.length=N) (ZcD 0 N (fun i=>YL m xs i=false) (fun i=>i=N) (fun i=>i<N/\YL m xs i=true) ZjV ZjU))
theorem ZfD (xs:List Int) (N:Nat) (m:Int):(ZjX xs N m).Ok:=
 Zg.withGo (τ1:=[]) (τ2:=[]) (τ3:=[]) (N:=20) Z9v (by kernel_rfl) fun hC=>⟨rfl,fun i hi _=>ZjW xs N m i _ _ _ hC hi (fun h1 h2=>⟨h2,h1⟩) (fun h=>h) (fun h1 h2=>⟨h1,h2⟩)⟩
theorem ZjY (xs:List Int) (N:Nat) (m:Int) (F:Int) (hC:N<900000000000/\xs.length=N) (hF:F=WV (YL m xs) N):
  evF (ZjX xs N m) 20 142 [.vints .i64 xs N,.func (.func 173) [] [.pview [.int .i64 m] 0]] ⟨0,[]⟩ (XN 0 [] (.int .i64 F) 0 []):=by
 refine @Eq.mpr _ (let q1:=[AV.int i64 m];
 q1=q1/\xs=xs/\Z0 (decide (N=N)) (Z0 (decide ((↑N:Int)=(↑N:Int))) ((N<900000000000/\List.length xs=N)/\∀(i:Nat),i<=N->(∀(j:Nat),j<i->(fun (i:Nat)=>YL m xs i=false) j)->(i=N->Z0 (decide (-1=F)) True False)/\(i<N/\YL m xs i=true->Z0 (decide ((↑i:Int)=F)) True False)) False) False) (by kernel_rfl) ?_
 conv=>zeta
 try simp only [Zj]
 try simp only [Zi]
 try simp only [Zh]
 try simp only [Int.toNat_natCast,Nat.zero_add,true_and,and_true,Nat.le_refl]
 subst hF
 exact ⟨hC,fun i hi hgo=>⟨fun h=>by subst h;exact (Z3c hgo).symm,fun h=>(Z3b h.1 hgo h.2).symm⟩⟩
theorem ZcJ (xs:List Int) (N:Nat) (m:Int) (hC:N<900000000000/\xs.length=N):ZC PP 142 [.vints .i64 xs N,.func (.func 173) [] [.pview [.int .i64 m] 0]] (.int .i64 (WV (YL m xs) N)) 0 []:=.ev (ZfD xs N m) (ZjY xs N m _ hC rfl)
def ZiC (xs:List Int) (N:Nat) (i:Nat):St:=⟨19,[(1,.func (.func 95) [] []),(0,.vints .i64 xs N),(7,.int .i64 N),(8,.int .i64 i)],⟨0,[]⟩,[]⟩
def ZjZ (i:Nat):St:=⟨19,[(4,.int .i64 i)],⟨0,[]⟩,[]⟩
def Zk0 (_:Nat):St:=⟨19,[],⟨0,[]⟩,[]⟩
theorem Zk1 (xs:List Int) (N:Nat) (i:Nat) (Z1 Z2 Z3:Prop) (hC:N<900000000000/\xs.length=N) (hi:i<=N) (h1:i<N->YL 4611686018427387904 xs i=false->Z1) (h2:i=N->Z2) (h3:i<N->YL 4611686018427387904 xs i=true->Z3):
  ZG ZcI 20 142 0 0 (ZiC xs N i) (fun e s=>match e with|.normal=>YU 0 [] (ZiC xs N (i+1)) s Z1|.exit x=>(match Nat.beq x 0 with|true=>YU 0 [] (Zk0 i) s Z2|false=>False)|.ret=>YU 0 [] (ZjZ i) s Z3|_=>False):=by
 refine @Eq.mpr _ (Z0 (decide ((↑i:Int)<(↑N:Int))) (Z0 (decide (0<=(↑i:Int)/\(↑i:Int)<(↑N:Int))) (Z0 (Uy 4611686018427387904 (List.getD xs (Int.toNat (↑i:Int)) 0)) (Z0 (decide ((↑i:Int)=(↑i:Int))) Z3 False) (xs=xs/\Z0 (decide (N=N)) (Z0 (decide ((↑N:Int)=(↑N:Int))) (Z0 (decide (wrap i64 ((↑i:Int)+1)=(↑(i+1):Int))) Z1 False) False) False)) False) Z2) (by kernel_rfl) ?_
 try simp only [Zj]
 try simp only [Zi]
 try simp only [Zh]
 try simp only [Int.toNat_natCast,Nat.zero_add,true_and,and_true,Nat.le_refl]
 refine ⟨fun hlt=>⟨by omega,fun h=>h3 (by omega) h,fun h=>⟨w64 (by omega),h1 (by omega) h⟩⟩,fun hge=>h2 (by omega)⟩
noncomputable def Zk2 (xs:List Int) (N:Nat):Zg:=ZcI.withL 142 0 (goL 0 [] (ZiC xs N 0) (N<900000000000/\xs.length=N) (ZcD 0 N (fun i=>YL 4611686018427387904 xs i=false) (fun i=>i=N) (fun i=>i<N/\YL 4611686018427387904 xs i=true) Zk0 ZjZ))
theorem ZfE (xs:List Int) (N:Nat):(Zk2 xs N).Ok:=
 Zg.withGo (τ1:=[]) (τ2:=[]) (τ3:=[]) (N:=20) Z9v (by kernel_rfl) fun hC=>⟨rfl,fun i hi _=>Zk1 xs N i _ _ _ hC hi (fun h1 h2=>⟨h2,h1⟩) (fun h=>h) (fun h1 h2=>⟨h1,h2⟩)⟩
theorem Zk3 (xs:List Int) (N:Nat) (F:Int) (hC:N<900000000000/\xs.length=N) (hF:F=WV (YL 4611686018427387904 xs) N):
  evF (Zk2 xs N) 20 142 [.vints .i64 xs N,.func (.func 95) [] []] ⟨0,[]⟩ (XN 0 [] (.int .i64 F) 0 []):=by
 refine @Eq.mpr _ (xs=xs/\Z0 (decide (N=N)) (Z0 (decide ((↑N:Int)=(↑N:Int))) ((N<900000000000/\List.length xs=N)/\∀(i:Nat),i<=N->(∀(j:Nat),j<i->(fun (i:Nat)=>YL 4611686018427387904 xs i=false) j)->(i=N->Z0 (decide (-1=F)) True False)/\(i<N/\YL 4611686018427387904 xs i=true->Z0 (decide ((↑i:Int)=F)) True False)) False) False) (by kernel_rfl) ?_
 try simp only [Zj]
 try simp only [Zi]
 try simp only [Zh]
 try simp only [Int.toNat_natCast,Nat.zero_add,true_and,and_true,Nat.le_refl]
 subst hF
 exact ⟨hC,fun i hi hgo=>⟨fun h=>by subst h;exact (Z3c hgo).symm,fun h=>(Z3b h.1 hgo h.2).symm⟩⟩
theorem ZcK (xs:List Int) (N:Nat) (hC:N<900000000000/\xs.length=N):ZC PP 142 [.vints .i64 xs N,.func (.func 95) [] []] (.int .i64 (WV (YL 4611686018427387904 xs) N)) 0 []:=.ev (ZfE xs N) (Zk3 xs N _ hC rfl)
def Zk4 (T:Int):ZR:=fun args h K=>ZU none h true 20 args fun a=>match a with
 | [.vints .i64 xs n,.func (.func 173) [] [.pview [.int .i64 m] 0]]=>Zx (xs.length=n/\n<900000000000) (K (.int .i64 (WV (YL m xs) n)))
 | [.vints .i64 xs n,.func (.func 95) [] []]=>Zx (xs.length=n/\n<900000000000) (K (.int .i64 (WV (YL T xs) n)))
 | _=>False
theorem ZfF (args:List AV) (h:Za) (K:AV->Prop) (hl:Zk4 4611686018427387904 args h K):Zp PP 142 args h fun o h'=>∃v,o=.ret v/\h'=h/\K v:=by
 refine ZC.psumm (d:=20) (Zu _ _ _ _ _ hl fun a ha=> ?_)
 split at ha
 ·obtain ⟨⟨h1,h2⟩,hK⟩:=Ze ha
  exact ⟨_,ZcJ _ _ _ ⟨h2,h1⟩,fun _=>rfl,hK⟩
 ·obtain ⟨⟨h1,h2⟩,hK⟩:=Ze ha
  exact ⟨_,ZcK _ _ ⟨h2,h1⟩,fun _=>rfl,hK⟩
 ·exact ha.elim
noncomputable def Zk5 (T:Int):Zg:=G0.withP 142 (Zk4 T)
theorem ZfG:(Zk5 4611686018427387904).Ok:=Zg.withP_ok Zv ZfF
@[irreducible] def allIn (m:Int) (xs:List Int):Bool:= !((List.range xs.length).any (YL m xs))
theorem ZfH (T:Int) (xs:List Int) (N:Nat) (F:Int) (hC:N<900000000000/\xs.length=N) (hF:F=if allIn 1125899906842624 xs then 0 else 2):
  evF (Zk5 T) 20 112 [.vints .i64 xs N] ⟨0,[]⟩ (XN 0 [] (.int .i64 F) 0 []):=by
 refine @Eq.mpr _ (Z0 (decide (List.length xs=N/\N<900000000000)) (Z0 (!!decide (WV (YL 1125899906842624 xs) N>=0)) (Z0 (decide (2=F)) True False) (Z0 (decide (0=F)) True False)) False) (by kernel_rfl) ?_
 try simp only [Zj]
 try simp only [Zi]
 try simp only [Zh]
 try simp only [Int.toNat_natCast,Nat.zero_add,true_and,and_true,Nat.le_refl]
 obtain ⟨h1,h2⟩:=hC
 subst h2
 have hb:=Zb1 (YL 1125899906842624 xs) xs.length
 refine ⟨⟨rfl,h1⟩,fun h=> ?_,fun h=> ?_⟩
 ·rw [hF]
  unfold allIn
  rw [<-hb]
  simp at h
  simp [h]
 ·rw [hF]
  unfold allIn
  rw [<-hb]
  simp at h
  simp [h]
def ZcL (m:Int):ZR:=fun args h K=>ZU none h true 20 args fun a=>match a with
 | [.vints .i64 xs n]=>Zx (xs.length=n/\n<900000000000) (Z0 (allIn m xs) (K (.int .i64 0)) (K (.int .i64 2)))
 | _=>False
theorem Zb3 (args:List AV) (h:Za) (K:AV->Prop) (hl:ZcL 1125899906842624 args h K):Zp PP 112 args h fun o h'=>∃v,o=.ret v/\h'=h/\K v:=by
 refine ZC.psumm (d:=20) (Zu _ _ _ _ _ hl fun a ha=> ?_)
 split at ha
 ·obtain ⟨⟨h1,h2⟩,hK⟩:=Ze ha
  refine ⟨_,.ev (ZfG) (ZfH _ _ _ _ ⟨h2,h1⟩ rfl),fun _=>rfl, ?_⟩
  rw [Zh] at hK
  split
  ·rename_i h;exact hK.1 h
  ·rename_i h;exact hK.2 (by simpa using h)
 ·exact ha.elim
end Go.Tk
end
section
namespace Go.Tk
open IntKind (i64 u8 u32 u64 wrap)
def Wj (xs:List Int) (i:Nat):Int:=(xs.take i).sum
theorem Z10 {xs:List Int} {i:Nat} (h:i<xs.length):Wj xs (i+1)=Wj xs i+xs.getD i 0:=by
 unfold Wj
 rw [List.take_succ_eq_append_getElem h,List.sum_append]
 simp [List.getD_eq_getElem?_getD,h]
theorem Z11 {m:Int} {xs:List Int} (h:allIn m xs=true) {i:Nat} (hi:i<xs.length):0<=xs.getD i 0/\xs.getD i 0<=m:=by
 unfold allIn at h
 rw [Bool.not_eq_true'] at h
 rw [List.any_eq_false] at h
 have:=h i (List.mem_range.2 hi)
 simp [YL,Uy, -List.getD_eq_getElem?_getD] at this
 exact this
theorem Z6A {m:Int} {xs:List Int} (h:allIn m xs=true):∀{i:Nat},i<=xs.length->0<=Wj xs i
 | 0,_=>by simp [Wj]
 | i+1,hi=>by
  rw [Z10 (by omega)]
  have:=Z11 h (i:=i) (by omega)
  have:=Z6A h (i:=i) (by omega)
  omega
theorem Z4v {m:Int} {xs:List Int} (h:allIn m xs=true):∀(d i:Nat),i+d<=xs.length->Wj xs i<=Wj xs (i+d)
 | 0,i,_=>Int.le_refl _
 | d+1,i,hi=>by
  have h1:=Z4v h d i (by omega)
  rw [<-Nat.add_assoc,Z10 (by omega)]
  have:=Z11 h (i:=i+d) (by omega)
  omega
def adS (xs:List Int) (i:Nat):St:=⟨24,[(10,.vints .i64 xs xs.length),(3,.int .i64 150),(11,.int .i64 xs.length),(12,.int .i64 i),(2,.int .i64 (Wj xs i))],⟨0,[]⟩,[]⟩
def adE (xs:List Int) (i:Nat):St:=⟨24,[(3,.int .i64 150),(2,.int .i64 (Wj xs i))],⟨0,[]⟩,[]⟩
def adJ (_:Nat):St:=⟨24,[(3,.int .i64 150)],⟨0,[]⟩,[]⟩
theorem Zk6 (xs:List Int) (i:Nat) (Z1 Z2 Z4:Prop) (M:Int) (hM:M=1125899906842624) (hn:xs.length<900000000000) (hall:allIn M xs=true) (hi:i<=xs.length) (hgo:∀j,j<i->Wj xs (j+1)<=M) (h1:i<xs.length->Wj xs (i+1)<=M->Z1) (h2:i=xs.length->Z2) (h4:i<xs.length->M<Wj xs (i+1)->Z4):
  ZG G0 20 63 0 0 (adS xs i) (fun e s=>match e with|.normal=>YU 0 [] (adS xs (i+1)) s Z1|.exit x=>(match Nat.beq x 0 with|true=>YU 0 [] (adE xs i) s Z2|false=>False)|.ret=>YU 0 [] (adJ i) s False|.goto x=>(match Nat.beq x 0 with|true=>YU 0 [] (adJ i) s Z4|false=>False)|_=>False):=by
 refine @Eq.mpr _ (let q1:=List.length xs;let q2:=(↑q1:Int);let q3:=Wj xs i;let q4:=wrap i64 (q3+List.getD xs (Int.toNat (↑i:Int)) 0);
 Z0 (decide ((↑i:Int)<q2)) (Z0 (decide (0<=(↑i:Int)/\(↑i:Int)<q2)) (Z0 (decide (q4>1125899906842624)) Z4 (xs=xs/\Z0 (decide (q1=q1)) (Z0 (decide (q2=q2)) (Z0 (decide (wrap i64 ((↑i:Int)+1)=(↑(i+1):Int))) (Z0 (decide (q4=Wj xs (i+1))) Z1 False) False) False) False)) False) (Z0 (decide (q3=q3)) Z2 False)) (by kernel_rfl) ?_
 conv=>zeta
 try simp only [Zj]
 try simp only [Zi]
 try simp only [Zh]
 try simp only [Int.toNat_natCast,Nat.zero_add,true_and,and_true,Nat.le_refl]
 subst hM
 refine ⟨fun hlt=>⟨by omega, ?_⟩,fun hge=>h2 (by omega)⟩
 have hs:=Z10 (xs:=xs) (i:=i) (by omega)
 have hx:=Z11 hall (i:=i) (by omega)
 have hp:=Z6A hall hi
 have hq:Wj xs i<=1125899906842624:=by
  cases i with
  | zero=>simp [Wj]
  | succ j=>exact hgo j (by omega)
 have hw:i64.wrap (Wj xs i+xs.getD i 0)=Wj xs (i+1):=by rw [w64 (by omega)];exact hs.symm
 rw [hw]
 have hw2:i64.wrap ((i:Int)+1)=((i+1:Nat):Int):=w64 (by omega)
 refine ⟨fun h=>h4 (by omega) (by omega),fun h=> ?_⟩
 rw [hw2]
 simp [h1 (by omega) (by omega)]
noncomputable def Zk7 (m M:Int) (xs:List Int):Zg:=(G0.withL 63 0 (goL 0 [] (adS xs 0) (allIn M xs=true/\xs.length<900000000000) (YJ 0 xs.length 0 (fun i=>Wj xs (i+1)<=M) (fun i=>i=xs.length) (fun _=>False) (fun i=>i<xs.length/\M<Wj xs (i+1)) (adE xs) adJ adJ))).withP 112 (ZcL m)
theorem ZfI (xs:List Int):(Zk7 1125899906842624 1125899906842624 xs).Ok:=
 Zg.withP_ok (Zg.withGoJ (τ1:=[]) (τ2:=[]) (τ3:=[]) (τ4:=[]) (N:=20) Zv (by kernel_rfl) fun hC=>⟨rfl,fun i hi hgo=>Zk6 xs i _ _ _ _ rfl hC.2 hC.1 hi hgo (fun h1 h2=>⟨h2,h1⟩) (fun h=>h) (fun h1 h2=>⟨h1,h2⟩)⟩) Zb3
@[irreducible] def Z3d (xs:List Int):Int×Int:=if allIn 1125899906842624 xs=true then (if xs.sum<=1125899906842624 then (xs.sum,0) else (0,150)) else (0,2)
theorem Zk8 (xs:List Int) (m M:Int) (F:Int×Int) (hm:m=1125899906842624) (hM:M=1125899906842624) (hn:xs.length<900000000000) (hF:F=Z3d xs):
  evF (Zk7 m M xs) 20 63 [.vints .i64 xs xs.length] ⟨0,[]⟩ (XN 0 [] (.tuple [.int .i64 F.1,.int .i64 F.2]) 0 []):=by
 refine @Eq.mpr _ (let q1:=List.length xs;let q2:=(↑q1:Int);let q3:=decide (0=F.fst);
 Z0 (decide (q1=q1/\q1<900000000000)) (Z0 (allIn m xs) (xs=xs/\Z0 (decide (q1=q1)) (Z0 (decide (q2=q2)) ((allIn M xs=true/\q1<900000000000)/\∀(i:Nat),i<=q1->(∀(j:Nat),j<i->(fun (i:Nat)=>Wj xs (i+1)<=M) j)->(i=q1->Z0 (decide (Wj xs i=F.fst)) (Z0 (decide (0=F.snd)) True False) False)/\(False->False)/\(i<q1/\M<Wj xs (i+1)->Z0 q3 (Z0 (decide (150=F.snd)) True False) False)) False) False) (Z0 q3 (Z0 (decide (2=F.snd)) True False) False)) False) (by kernel_rfl) ?_
 conv=>zeta
 try simp only [Zj]
 try simp only [Zi]
 try simp only [Zh]
 try simp only [Int.toNat_natCast,Nat.zero_add,true_and,and_true,Nat.le_refl]
 subst hm hM hF
 have ht:Wj xs xs.length=xs.sum:=by simp [Wj]
 refine ⟨hn,fun hall=>⟨⟨hall,hn⟩,fun i hi hgo=>⟨fun he=> ?_,fun h=>h.elim,fun he=> ?_⟩⟩,fun hall=> ?_⟩
 ·subst he
  have hle:xs.sum<=1125899906842624:=by
   rw [<-ht]
   rcases Nat.eq_zero_or_pos xs.length with h0|h0
   ·rw [h0];simp [Wj]
   ·have:=hgo (xs.length-1) (by omega)
    rw [Nat.sub_add_cancel h0] at this
    exact this
  unfold Z3d
  rw [if_pos hall,if_pos hle]
  exact ⟨ht,rfl⟩
 ·have hmono:=Z4v hall (xs.length-(i+1)) (i+1) (by omega)
  rw [show i+1+(xs.length-(i+1))=xs.length by omega,ht] at hmono
  unfold Z3d
  rw [if_pos hall,if_neg (by omega)]
  exact ⟨rfl,rfl⟩
 ·unfold Z3d
  rw [if_neg (by simp [hall])]
  exact ⟨rfl,rfl⟩
def ZcM (A:List Int->Int×Int):ZR:=fun args h K=>ZU none h true 20 args fun a=>match a with
 | [.vints .i64 xs n]=>Zx (n=xs.length/\n<900000000000) (K (.tuple [.int .i64 (A xs).1,.int .i64 (A xs).2]))
 | _=>False
theorem ZcN (args:List AV) (h:Za) (K:AV->Prop) (hl:ZcM Z3d args h K):Zp PP 63 args h fun o h'=>∃v,o=.ret v/\h'=h/\K v:=by
 refine ZC.psumm (d:=20) (Zu _ _ _ _ _ hl fun a ha=> ?_)
 split at ha
 ·obtain ⟨⟨rfl,h1⟩,hK⟩:=Ze ha
  exact ⟨_,.ev (ZfI _) (Zk8 _ _ _ _ rfl rfl h1 rfl),fun _=>rfl,hK⟩
 ·exact ha.elim
end Go.Tk
end
section
namespace Go.Tk
open IntKind (i64 u8 u32 u64 wrap)
theorem Zk.rows0 {E:Env} {esz:Nat} {f:Nat->List AV} {r:Value} {a:Option Addr} {c:Nat} (h:r=.slice a 0 c) (hc:a=none->c=0):Zk E (.vrows esz 0 f 0) r:=by
 subst h
 cases a with
 | none=>rw [hc rfl];exact .vrowsNil _ _ _ _ rfl rfl
 | some a=>exact .vrows _ _ _ _ a c (fun _=>[]) (Nat.le_refl _) (Nat.zero_le _) (fun i h=>by omega) (fun i h=>by omega) (fun i j c h=>by omega)
theorem Zk.rowsC {E:Env} {esz n:Nat} {f f':Nat->List AV} {r:Value} (h:Zk E (.vrows esz n f n) r) (hf:∀i,i<n->f i=f' i):Zk E (.vrows esz n f' n) r:=by
 cases h with
 | vrowsNil esz n f len h1 h2=>exact .vrowsNil _ _ _ _ h1 h2
 | vrows esz n f len a cap g h1 h2 hc hl hi=>exact .vrows _ _ _ _ a cap g h1 h2 (fun i h=>by rw [<-hf i h];exact hc i h) hl hi
structure TxS where
 num:Int
 N:Nat
 ins:Nat->InS
 M:Nat
 outs:Nat->Z0l
def TxS.c (t:TxS):List AV:=[.int .i64 t.num,.vrows 130 t.N (Ziz t.ins) t.N,.vrows 132 t.M (ZfA t.outs) t.M]
structure TxS.Ok (t:TxS):Prop where
 n:t.N<900000000000
 m:t.M<900000000000
 ins:∀i,i<t.N->(t.ins i).Ok
 outs:∀i,i<t.M->(t.outs i).Ok
theorem ZC.conv {P:Program} {f:FuncId} {args args₀:List AV} {v:AV} {nx:Nat} {bs:List (Nat×Blk)} (h:ZC P f args₀ v nx bs) (hc:∀E r,ZK E args r->ZK E args₀ r):ZC P f args v nx bs:=
 fun E w rs he hr=>h E w rs he (hc E rs hr)
theorem ZK.head {E:Env} {v v':AV} {r l:List AV} {rs:List Value} (h:ZK E (v::l) rs) (hv:∀c,Zk E v c->Zk E v' c) (ht:∀cs,ZK E l cs->ZK E r cs):ZK E (v'::r) rs:=by
 cases h with
 | cons v c vs cs h t=>exact .cons _ _ _ _ (hv c h) (ht cs t)
end Go.Tk
end
section
namespace Go.Tk
open IntKind (i64 u8 u32 u64 wrap)
def ZcO (k:Nat) (τ:Ren) (y x:Nat):Ren:=match Nat.blt y k with
 | true=>τ
 | false=>match Z89 τ y with
  | some _=>τ
  | none=>(y,x)::τ
mutual
def ZiD (k:Nat) (τ:Ren):AV->AV->Ren
 | .ptr (some q),v=>match v with|.ptr (some p)=>ZcO k τ q.blk p.blk|_=>τ
 | .nslice q _ _ _,v=>match v with|.nslice p _ _ _=>ZcO k τ q.blk p.blk|_=>τ
 | .map (some y),v=>match v with|.map (some x)=>ZcO k τ y x|_=>τ
 | .yield y,v=>match v with|.yield x=>ZcO k τ y x|_=>τ
 | .func _ fs cs,v=>match v with|.func _ fs' cs'=>Z5y k (Z5y k τ fs fs') cs cs'|_=>τ
 | .iface _ u,v=>match v with|.iface _ u'=>ZiD k τ u u'|_=>τ
 | .agg cs,v=>match v with|.agg cs'=>Z5y k τ cs cs'|_=>τ
 | .tuple cs,v=>match v with|.tuple cs'=>Z5y k τ cs cs'|_=>τ
 | _,_=>τ
def Z5y (k:Nat) (τ:Ren):List AV->List AV->Ren
 | [],_=>τ
 | v::r,l=>match l with|v'::r'=>Z5y k (ZiD k τ v v') r r'|[]=>τ
end
def Zm3 (k:Nat) (τ:Ren):Blk->Blk->Ren
 | .flat cs,B=>match B with|.flat cs'=>Z5y k τ cs cs'|_=>τ
 | .map es,B=>match B with|.map es'=>Z5y k (Z5y k τ (es.map (·.1)) (es'.map (·.1))) (es.map (·.2)) (es'.map (·.2))|_=>τ
 | _,_=>τ
def Zk9 (k:Nat) (t:Yd):Yd->Ren->Ren
 | [],τ=>τ
 | (x,v)::r,τ=>Zk9 k t r (match ZY t x with|some u=>ZiD k τ v u|none=>τ)
def ZiE (k:Nat):List Uc->List Uc->Ren->Ren
 | .call _ a::r,l,τ=>match l with|.call _ b::r'=>ZiE k r r' (Z5y k τ a b)|_=>τ
 | .mark y::r,l,τ=>match l with|.mark x::r'=>ZiE k r r' (ZcO k τ y x)|_=>τ
 | [],_,τ=>τ
def ZfJ (k:Nat) (bs:List (Nat×Blk)):List (Nat×Blk)->Ren->Ren
 | [],τ=>τ
 | (y,B)::r,τ=>ZfJ k bs r (match rn k τ y with
  | some x=>match ZO bs x with|some C=>Zm3 k τ B C|none=>τ
  | none=>τ)
def Zm4 (k:Nat) (s₂ s:St):Ren:=ZfJ k s.h.bs s₂.h.bs (ZfJ k s.h.bs s₂.h.bs (ZfJ k s.h.bs s₂.h.bs (ZiE k s₂.d s.d (Zk9 k s.t s₂.t []))))
def Wk (k:Nat) (s₂ s:St) (Z:Prop):Prop:=YU k (Zm4 k s₂ s) s₂ s Z
theorem YV {k:Nat} {s₂ s:St} {Z:Prop} (hl:Wk k s₂ s Z):Z/\Vi k s s₂:=Yn hl
def Y5 (k:Nat) (o:Out) (nx:Nat) (bs:List (Nat×Blk)):KO:=fun o' h=>match o with
 | .ret v=>match o' with
  | .ret u=>Wk k ⟨1,[(0,v)],⟨nx,bs⟩,[]⟩ ⟨1,[(0,u)],h,[]⟩ True
  | .panic _=>False
 | .panic v=>match o' with
  | .panic u=>Wk k ⟨1,[(0,v)],⟨nx,bs⟩,[]⟩ ⟨1,[(0,u)],h,[]⟩ True
  | .ret _=>False
theorem Spec.evM {G:Zg} (hG:G.Ok) {n:Nat} {f:FuncId} {args:List AV} {h0:Za} {o:Out} {nx:Nat} {bs:List (Nat×Blk)} (h:evF G n f args h0 (Y5 h0.next o nx bs)):Spec G.P f args h0 o nx bs:=by
 intro E w rs he hl
 refine (QG hG h E w rs he hl).mono ?_
 rintro e w' ⟨E',o',h',hK,hev,hor⟩
 unfold Y5 at hK
 cases o with
 | ret v=>
  cases hor with
  | ret u r hr=>
   obtain ⟨E₂,h1,h2⟩:=Z1Y rfl hK he hev hr
   exact ⟨E₂,h1,.ret _ _ h2⟩
  | panic u r hr=>exact hK.elim
 | panic v=>
  cases hor with
  | panic u r hr=>
   obtain ⟨E₂,h1,h2⟩:=Z1Y rfl hK he hev hr
   exact ⟨E₂,h1,.panic _ _ h2⟩
  | ret u r hr=>exact hK.elim
theorem Spec.pure {P:Program} {f:FuncId} {args:List AV} {v:AV} {nx:Nat} {bs:List (Nat×Blk)} (h:Spec P f args ⟨0,[]⟩ (.ret v) nx bs):ZC P f args v nx bs:=by
 intro E w rs he hl
 refine (h E w rs he hl).mono ?_
 rintro e w' ⟨E',hev,hor⟩
 cases hor with
 | ret v r hr=>exact ⟨E',r,rfl,hev,hr⟩
theorem ZC.evM {G:Zg} (hG:G.Ok) {n:Nat} {f:FuncId} {args:List AV} {v:AV} {nx:Nat} {bs:List (Nat×Blk)} (h:evF G n f args ⟨0,[]⟩ (Y5 0 (.ret v) nx bs)):ZC G.P f args v nx bs:=(Spec.evM hG h).pure
def goM (k:Nat) (S0:St) (C:Prop) (ends:KE->Prop):Nat->St->KE->Prop:=fun k' s X=>match Nat.beq k' k with
 | true=>Wk k S0 s (C/\ends X)
 | false=>False
def rdM (k id l:Nat) (S1 En Rn Jn:St) (go ex re jm:Prop):KE:=fun e s=>match e with
 | .normal=>Wk k S1 s go
 | .exit x=>(match Nat.beq x id with|true=>Wk k En s ex|false=>False)
 | .ret=>Wk k Rn s re
 | .goto x=>(match Nat.beq x l with|true=>Wk k Jn s jm|false=>False)
 | .panic _=>False
theorem Zg.withGoM {G:Zg} (hG:G.Ok) {f:FuncId} {id k N n l:Nat} {S En Rn Jn:Nat->St} {S0:St} {C:Prop} {go ex re jm:Nat->Prop} (h1:XY G.P f id=true) (hC:C->S 0=S0/\
   ∀i,i<=n->(∀j,j<i->go j)->ZG G N f id k (S i) (rdM k id l (S (i+1)) (En i) (Rn i) (Jn i) (go i/\i<n) (ex i) (re i) (jm i))):
  (G.withL f id (goM k S0 C (YJ id n l go ex re jm En Rn Jn))).Ok:=by
 refine Zg.withL_ok hG h1 ?_
 intro k' s X hl
 unfold goM at hl
 split at hl
 ·rename_i hk
  have:=Nat.eq_of_beq_eq_true hk
  subst this
  obtain ⟨⟨hc,hX⟩,hw⟩:=YV hl
  obtain ⟨e0,hr⟩:=hC hc
  refine ⟨{ t:Nat//t<=n/\∀j,j<t->go j},fun t=>n-t.1,fun t=>S t.1,⟨0,Nat.zero_le _,fun j hj=>by omega⟩,N,by show Vi k' s (S 0);rw [e0];exact hw, ?_⟩
  rintro ⟨t,ht,hgo⟩
  refine ⟨_,hr t ht hgo, ?_⟩
  intro e s' hY
  unfold rdM at hY
  split at hY
  ·obtain ⟨⟨hg,hlt⟩,hw'⟩:=YV hY
   refine ⟨⟨t+1,hlt,fun j hj=> ?_⟩,by show n-(t+1)<n-t;omega,hw'⟩
   by_cases hjt:j=t
   ·rw [hjt];exact hg
   ·exact hgo j (by omega)
  ·split at hY
   ·rename_i hi
    have:=Nat.eq_of_beq_eq_true hi
    subst this
    obtain ⟨hex,hw'⟩:=YV hY
    exact ⟨_,hw',(hX t ht hgo).1 hex⟩
   ·exact hY.elim
  ·obtain ⟨hre,hw'⟩:=YV hY
   exact ⟨_,hw',(hX t ht hgo).2.1 hre⟩
  ·split at hY
   ·rename_i hi
    have:=Nat.eq_of_beq_eq_true hi
    subst this
    obtain ⟨hjm,hw'⟩:=YV hY
    exact ⟨_,hw',(hX t ht hgo).2.2 hjm⟩
   ·exact hY.elim
  ·exact hY.elim
 ·exact hl.elim
end Go.Tk
namespace Go.Tk
open IntKind (i64 u8 u32 u64 wrap)
theorem Zg.withL_join {G H:Zg} (hG:G.Ok) (hP:G.P=H.P) {f:FuncId} {id:Nat} {S:Nat->St->KE->Prop} (h:(H.withL f id S).Ok):(G.withL f id S).Ok where
 draw:=hG.draw
 psumm:=hG.psumm
 fsumm:=hG.fsumm
 lsumm:=fun f' id' S' fn c body hS hf hb hm k s X hs=>by
  have hS0:=hS
  simp only [Zg.withL] at hS
  split at hS
  ·have:=h.lsumm f' id' S' fn c body
   simp only [Zg.withL] at this
   rename_i hq
   rw [hq] at this
   have:=this hS (hP▸hf) hb hm k s X hs
   rw [<-hP] at this
   exact this
  ·exact hG.lsumm f' id' S' fn c body hS hf hb hm k s X hs
end Go.Tk
end
section
namespace Go.Tk
open IntKind (i64 u8 u32 u64 wrap)
def b8 (n k:Int):Int:=u8.wrap (Zz .i64 n k)
@[irreducible] def Zr (n:Int):List Int:=
 if n<253 then [u8.wrap n] else if n<65536 then [253,b8 n 8,b8 n 0] else if n<4294967296 then [254,b8 n 24,b8 n 16,b8 n 8,b8 n 0]
 else [255,b8 n 56,b8 n 48,b8 n 40,b8 n 32,b8 n 24,b8 n 16,b8 n 8,b8 n 0]
theorem Yi (n:Int):1<=(Zr n).length/\(Zr n).length<=9:=by
 unfold Zr
 split
 ·simp
 ·split
  ·simp
  ·split<;>simp
theorem Z1q {n:Int} (h:n<253):Zr n=[u8.wrap n]:=by unfold Zr;rw [if_pos h]
theorem Z4w {n:Int} (h:¬n<253) (h2:n<65536):Zr n=[253,b8 n 8,b8 n 0]:=by unfold Zr;rw [if_neg h,if_pos h2]
theorem Z4x {n:Int} (h:¬n<253) (h2:¬n<65536) (h3:n<4294967296):Zr n=[254,b8 n 24,b8 n 16,b8 n 8,b8 n 0]:=by unfold Zr;rw [if_neg h,if_neg h2,if_pos h3]
theorem Z4y {n:Int} (h:¬n<253) (h2:¬n<65536) (h3:¬n<4294967296):Zr n=[255,b8 n 56,b8 n 48,b8 n 40,b8 n 32,b8 n 24,b8 n 16,b8 n 8,b8 n 0]:=by unfold Zr;rw [if_neg h,if_neg h2,if_neg h3]
theorem Zka (xs ys:List Int) (N L s lo:Nat) (n:Int) (hN:xs.length=N) (hB:N<90000000000000) (hy:ys=Zr n) (hL:L=(xs++ys).length):
  evF G0 20 96 [.nslice ⟨0,0,s,0,0⟩ 1 N lo,.int .i64 n] ⟨1,[(0,.ints .u8 xs)]⟩ (Y5 1 (.ret (.nslice ⟨1,0,0,0,0⟩ 1 L L)) 2 [(1,.ints .u8 (xs++ys))]):=by
 refine @Eq.mpr _ (let q1:=decide (u8=u8/\List.length xs=N);let q2:=xs++[wrap u8 n];let q3:=List.length q2;let q4:=xs++ys;let q5:=xs++[(253:Int)];let q6:=List.length q5;let q7:=[wrap u8 (Zz i64 n 8)];let q8:=q5++q7;let q9:=List.length q8;let q10:=[wrap u8 (Zz i64 n 0)];let q11:=q8++q10;let q12:=List.length q11;let q13:=xs++[(254:Int)];let q14:=List.length q13;let q15:=[wrap u8 (Zz i64 n 24)];let q16:=q13++q15;let q17:=List.length q16;let q18:=[wrap u8 (Zz i64 n 16)];let q19:=q16++q18;let q20:=List.length q19;let q21:=q19++q7;let q22:=List.length q21;let q23:=q21++q10;let q24:=List.length q23;let q25:=xs++[(255:Int)];let q26:=List.length q25;let q27:=q25++[wrap u8 (Zz i64 n 56)];let q28:=List.length q27;let q29:=q27++[wrap u8 (Zz i64 n 48)];let q30:=List.length q29;let q31:=q29++[wrap u8 (Zz i64 n 40)];let q32:=List.length q31;let q33:=q31++[wrap u8 (Zz i64 n 32)];let q34:=List.length q33;let q35:=q33++q15;let q36:=List.length q35;let q37:=q35++q18;let q38:=List.length q37;let q39:=q37++q7;let q40:=List.length q39;let q41:=q39++q10;let q42:=List.length q41;
 Z0 (decide (n<253)) (Z0 q1 (Z0 (decide (q3*1<=140737488355328)) (Z0 (decide (q3=L)) (Z0 (decide (L<=q3)) (q2=q4/\True) False) False) False) False)
 (Z0 (decide (n<65536)) (Z0 q1 (Z0 (decide (q6*1<=140737488355328)) (Z0 (decide (u8=u8/\q6=q6)) (Z0 (decide (q9*1<=140737488355328)) (Z0 (decide (u8=u8/\q9=q9)) (Z0 (decide (q12*1<=140737488355328)) (Z0 (decide (q12=L)) (Z0 (decide (L<=q12)) (q11=q4/\True) False) False) False) False) False) False) False) False)
 (Z0 (decide (n<4294967296)) (Z0 q1 (Z0 (decide (q14*1<=140737488355328)) (Z0 (decide (u8=u8/\q14=q14)) (Z0 (decide (q17*1<=140737488355328)) (Z0 (decide (u8=u8/\q17=q17)) (Z0 (decide (q20*1<=140737488355328)) (Z0 (decide (u8=u8/\q20=q20)) (Z0 (decide (q22*1<=140737488355328)) (Z0 (decide (u8=u8/\q22=q22)) (Z0 (decide (q24*1<=140737488355328)) (Z0 (decide (q24=L)) (Z0 (decide (L<=q24)) (q23=q4/\True) False) False) False) False) False) False) False) False) False) False) False) False)
 (Z0 q1
 (Z0 (decide (q26*1<=140737488355328))
 (Z0 (decide (u8=u8/\q26=q26)) (Z0 (decide (q28*1<=140737488355328)) (Z0 (decide (u8=u8/\q28=q28)) (Z0 (decide (q30*1<=140737488355328)) (Z0 (decide (u8=u8/\q30=q30)) (Z0 (decide (q32*1<=140737488355328)) (Z0 (decide (u8=u8/\q32=q32)) (Z0 (decide (q34*1<=140737488355328)) (Z0 (decide (u8=u8/\q34=q34)) (Z0 (decide (q36*1<=140737488355328)) (Z0 (decide (u8=u8/\q36=q36)) (Z0 (decide (q38*1<=140737488355328)) (Z0 (decide (u8=u8/\q38=q38)) (Z0 (decide (q40*1<=140737488355328)) (Z0 (decide (u8=u8/\q40=q40)) (Z0 (decide (q42*1<=140737488355328)) (Z0 (decide (q42=L)) (Z0 (decide (L<=q42)) (q41=q4/\True) False) False) False) False) False) False) False) False) False) False) False) False) False) False) False) False) False) False) False)
 False)))) (by kernel_rfl) ?_
 conv=>zeta
 try simp only [Zj]
 try simp only [Zi]
 try simp only [Zh]
 try simp only [Int.toNat_natCast,Nat.zero_add,true_and,and_true,Nat.le_refl]
 subst hy hL hN
 refine ⟨fun h1=> ?_,fun h1=>⟨fun h2=> ?_,fun h2=>⟨fun h3=> ?_,fun h3=> ?_⟩⟩⟩
 ·rw [Z1q h1]
  simp only [List.length_append,List.length_cons,List.length_nil]
  and_intros<;>first|trivial|omega
 ·rw [Z4w h1 h2]
  simp only [List.length_append,List.length_cons,List.length_nil]
  and_intros<;>first|trivial|omega|simp [b8]
 ·rw [Z4x h1 h2 h3]
  simp only [List.length_append,List.length_cons,List.length_nil]
  and_intros<;>first|trivial|omega|simp [b8]
 ·rw [Z4y h1 h2 h3]
  simp only [List.length_append,List.length_cons,List.length_nil]
  and_intros<;>first|trivial|omega|simp [b8]
theorem Zkb (ys:List Int) (L:Nat) (n:Int) (hy:ys=Zr n) (hL:L=ys.length):
  evF G0 20 96 [.nilslice,.int .i64 n] ⟨0,[]⟩ (Y5 0 (.ret (.nslice ⟨0,0,0,0,0⟩ 1 L L)) 1 [(0,.ints .u8 ys)]):=by
 refine @Eq.mpr _ (let q1:=[wrap u8 (Zz i64 n 8),wrap u8 (Zz i64 n 0)];let q2:=wrap u8 (Zz i64 n 24)::wrap u8 (Zz i64 n 16)::q1;
 Z0 (decide (n<253)) (Z0 (decide (1=L)) (Z0 (decide (L<=1)) ([wrap u8 n]=ys/\True) False) False) (Z0 (decide (n<65536)) (Z0 (decide (3=L)) (Z0 (decide (L<=3)) ((253:Int)::q1=ys/\True) False) False) (Z0 (decide (n<4294967296)) (Z0 (decide (5=L)) (Z0 (decide (L<=5)) ((254:Int)::q2=ys/\True) False) False) (Z0 (decide (9=L)) (Z0 (decide (L<=9)) ((255:Int)::wrap u8 (Zz i64 n 56)::wrap u8 (Zz i64 n 48)::wrap u8 (Zz i64 n 40)::wrap u8 (Zz i64 n 32)::q2=ys/\True) False) False)))) (by kernel_rfl) ?_
 conv=>zeta
 try simp only [Zj]
 try simp only [Zi]
 try simp only [Zh]
 try simp only [Int.toNat_natCast,Nat.zero_add,true_and,and_true,Nat.le_refl]
 subst hy hL
 refine ⟨fun h1=> ?_,fun h1=>⟨fun h2=> ?_,fun h2=>⟨fun h3=> ?_,fun h3=> ?_⟩⟩⟩
 ·rw [Z1q h1];simp
 ·rw [Z4w h1 h2];simp [b8]
 ·rw [Z4x h1 h2 h3];simp [b8]
 ·rw [Z4y h1 h2 h3];simp [b8]
def ZiF (W:Int->List Int):Yf:=fun args h K=>match args with
 | [.nslice ⟨b,0,_,0,0⟩ 1 _ _,.int .i64 _]=>frA [b] h 20 args fun Bs a=>match Bs,a with
  | [.ints .u8 xs],[.nslice ⟨0,0,_,0,0⟩ 1 len _,.int .i64 n]=>Zx (xs.length=len/\len<90000000000000) (K (.ret (.nslice ⟨h.next,0,0,0,0⟩ 1 (xs++W n).length (xs++W n).length)) ⟨h.next+1,(h.next,.ints .u8 (xs++W n))::Yc h.bs b⟩)
  | _,_=>False
 | [.nilslice,.int .i64 n]=>K (.ret (.nslice ⟨h.next,0,0,0,0⟩ 1 (W n).length (W n).length)) ⟨h.next+1,(h.next,.ints .u8 (W n))::h.bs⟩
 | _=>False
theorem ZfK (args:List AV) (h:Za) (K:KO) (hl:ZiF Zr args h K):Zp PP 96 args h K:=by
 unfold ZiF at hl
 split at hl
 ·refine Spec.fsumm hl fun Bs a hlen hK0=> ?_
  split at hK0
  ·obtain ⟨⟨h1,h2⟩,hK⟩:=Ze hK0
   exact ⟨_,_,_,_,_,.evM Zv (Zka _ _ _ _ _ _ _ h1 h2 rfl rfl),by simp,.ret _ _ rfl,.cons _ _ _ _ _ _ rfl (.ints _ _) .nil,hK⟩
  ·exact hK0.elim
 ·exact (ZC.evM Zv (Zkb _ _ _ rfl rfl)).calls (fun E w rs he hr=>by
   cases hr with
   | cons v r vs rs h1 h2=>cases h2 with
    | cons v r vs rs h2 h3=>cases h3;exact .cons _ _ _ _ (h1.plain rfl) (.cons _ _ _ _ (h2.plain rfl) .nil)) rfl ⟨Nat.one_pos,.ints _ _,trivial⟩ hl
 ·exact hl.elim
theorem ZcP (x:Int) (xs:List Int) (N:Nat) (hN:(x::xs).length=N) (hB:N<90000000000000):
  evF G0 20 86 [.vints .u8 (x::xs) N] ⟨0,[]⟩ (Y5 0 (.ret (.nslice ⟨0,0,0,0,0⟩ 1 N N)) 1 [(0,.ints .u8 (x::xs))]):=by
 refine @Eq.mpr _ (let q1:=[]++List.take N (x::xs);let q2:=List.length q1;
 Z0 (decide (q2*1<=140737488355328)) (Z0 (decide (q2=N)) (Z0 (decide (N<=q2)) (q1=x::xs/\True) False) False) False) (by kernel_rfl) ?_
 conv=>zeta
 try simp only [Zj]
 try simp only [Zl]
 try simp only [Zi]
 try simp only [Zm]
 try simp only [Zn]
 try simp only [Zh]
 try simp only [Int.toNat_natCast,Nat.zero_add,true_and,and_true,Nat.le_refl]
 subst hN
 simp only [List.nil_append,List.take_length]
 and_intros<;>first|trivial|omega
theorem ZcQ (u:Unit) :
  evF G0 20 86 [.nilslice] ⟨0,[]⟩ (Y5 0 (.ret (.nslice ⟨0,0,0,0,0⟩ 1 0 0)) 1 [(0,.ints .u8 [])]):=by
 refine @Eq.mpr _ (([]:List Int)=[]/\True) (by kernel_rfl) ?_
 trivial
theorem ZcR (u:Unit) :
  evF G0 20 86 [.fslice] ⟨0,[]⟩ (Y5 0 (.ret (.nslice ⟨0,0,0,0,0⟩ 1 0 0)) 1 [(0,.ints .u8 [])]):=by
 refine @Eq.mpr _ (([]:List Int)=[]/\True) (by kernel_rfl) ?_
 trivial
theorem Z6B (xs:List Int) (N:Nat) (hN:xs.length=N) (hB:N<90000000000000):ZC PP 86 [.vints .u8 xs N] (.nslice ⟨0,0,0,0,0⟩ 1 N N) 1 [(0,.ints .u8 xs)]:=by
 cases xs with
 | nil=>subst hN;exact ZC.vints0 (.evM Zv (ZcQ ())) (.evM Zv (ZcR ()))
 | cons x r=>exact .evM Zv (ZcP x r N hN hB)
def Z5z:Yf:=fun args h K=>ZU none h true 20 args fun a=>match a with
 | [.vints .u8 xs n]=>Zx (xs.length=n/\n<90000000000000) (K (.ret (.nslice ⟨h.next,0,0,0,0⟩ 1 n n)) ⟨h.next+1,(h.next,.ints .u8 xs)::h.bs⟩)
 | _=>False
theorem Z3e (args:List AV) (h:Za) (K:KO) (hl:Z5z args h K):Zp PP 86 args h K:=by
 refine ZC.fsumm (d:=20) (Zu _ _ _ _ _ hl fun a ha=> ?_)
 split at ha
 ·obtain ⟨⟨h1,h2⟩,hK⟩:=Ze ha
  exact ⟨_,_,_,_,Z6B _ _ h1 h2,rfl,⟨Nat.one_pos,.ints _ _,trivial⟩,hK⟩
 ·exact ha.elim
end Go.Tk
end
section
namespace Go.Tk
open IntKind (i64 u8 u32 u64 wrap)
theorem Spec.conv {P:Program} {f:FuncId} {args args₀:List AV} {h0:Za} {o:Out} {nx:Nat} {bs:List (Nat×Blk)} (h:Spec P f args₀ h0 o nx bs) (hc:∀E r,ZK E args r->ZK E args₀ r):Spec P f args h0 o nx bs:=
 fun E w rs he hr=>h E w rs he (hc E rs hr)
noncomputable def Zb4 (W:Int->List Int):Zg:=G0.withF 96 (ZiF W)
theorem Z0m:(Zb4 Zr).Ok:=Zg.withF_ok Zv ZfK
theorem ZfL (xs hh ys:List Int) (N L lo:Nat) (hN:xs.length=N) (hB:N<90000000000000) (hq:hh.length=32) (hy:ys=xs++hh) (hL:L=ys.length):
  evF G0 20 44 [.ptr (some ⟨0,0,0,0,0⟩),.vrows 32 1 (fun _=>[.arr .u8 32 hh]) 1] ⟨2,[(0,.flat [.nslice ⟨1,0,0,0,0⟩ 1 N lo,.bool true]),(1,.ints .u8 xs)]⟩ (Y5 2 (.ret (.int .i64 0)) 3 [(0,.flat [.nslice ⟨2,0,0,0,0⟩ 1 L L,.bool true]),(2,.ints .u8 ys)]):=by
 refine @Eq.mpr _ (let q1:=xs++hh;let q2:=List.length q1;
 Z0 (decide (u8=u8/\List.length hh=32)) (Z0 (decide (u8=u8/\List.length xs=N)) (Z0 (decide (q2*1<=140737488355328)) (Z0 (decide (q2=L)) (Z0 (decide (L<=q2)) (q1=ys/\True) False) False) False) False) False) (by kernel_rfl) ?_
 conv=>zeta
 try simp only [Zj]
 try simp only [Zl]
 try simp only [Zi]
 try simp only [Zm]
 try simp only [Zn]
 try simp only [Zh]
 try simp only [Int.toNat_natCast,Nat.zero_add,true_and,and_true,Nat.le_refl]
 subst hN hy hL
 refine ⟨hq,rfl, ?_⟩
 simp only [List.length_append]
 and_intros<;>first|trivial|omega
end Go.Tk
end
section
namespace Go.Tk
open IntKind (i64 u8 u32 u64 wrap)
end Go.Tk
end
section
namespace Go.Tk
open IntKind (i64 u8 u32 u64 wrap)
end Go.Tk
end
section
namespace Go.Tk
open IntKind (i64 u8 u32 u64 wrap)
end Go.Tk
end
section
namespace Go.Tk
open IntKind (i64 u8 u32 u64 wrap)
end Go.Tk
end
section
namespace Go.Tk
open IntKind (i64 u8 u32 u64 wrap)
def Z1r (n c:Int):Int:=bOr .i64 (ZJ .i64 n 8) c
theorem ZiG:ZJ .i64 0 8=0:=by decide
def goN:Nat->List Int->Nat->Int->Option Int
 | 0,_,_,n=>some n
 | m+1,xs,k,n=>if n>36028797018963968 then none else goN m xs (k+1) (Z1r n (i64.wrap (xs.getD k 0)))
def Xn (c:Int):Nat:=if c=253 then 2 else if c=254 then 4 else if c=255 then 8 else 0
@[irreducible] def Zq (W:Int->List Int) (xs:List Int):Int×Int:=
 if xs.length=0 then (0,0)
 else if Xn (xs.getD 0 0)=0 then (i64.wrap (xs.getD 0 0),1)
 else if xs.length<=Xn (xs.getD 0 0) then (0,0)
 else match goN (Xn (xs.getD 0 0)) (xs.drop 1) 0 0 with
  | none=>(0, -1)
  | some n=>if n>4611686018427387904 then (0, -1) else if (W n).length=1+Xn (xs.getD 0 0) then (n,1+Xn (xs.getD 0 0)) else (0, -1)
theorem QW {W:Int->List Int} {xs:List Int} (h:xs.length=0):Zq W xs=(0,0):=by unfold Zq;rw [if_pos h]
theorem VZ {W:Int->List Int} {xs:List Int} (h:xs.length≠0) (hm:Xn (xs.getD 0 0)=0):Zq W xs=(i64.wrap (xs.getD 0 0),1):=by unfold Zq;rw [if_neg h,if_pos hm]
theorem Xt {W:Int->List Int} {xs:List Int} {m:Nat} (h:xs.length≠0) (hm:Xn (xs.getD 0 0)=m) (hm0:m≠0) (hl:xs.length<=m):Zq W xs=(0,0):=by unfold Zq;rw [if_neg h,if_neg (by omega),if_pos (by omega)]
theorem VH {W:Int->List Int} {xs:List Int} {m:Nat} (h:xs.length≠0) (hm:Xn (xs.getD 0 0)=m) (hm0:m≠0) (hl:m<xs.length):Zq W xs=match goN m (xs.drop 1) 0 0 with
  | none=>(0, -1)
  | some n=>if n>4611686018427387904 then (0, -1) else if (W n).length=1+m then (n,1+m) else (0, -1):=by
 unfold Zq;rw [if_neg h,if_neg (by omega),if_neg (by omega),hm]
theorem Z6C {c:Int} (h:c=253):Xn c=2:=by unfold Xn;rw [if_pos h]
theorem Z6D {c:Int} (h:¬c=253) (h2:c=254):Xn c=4:=by unfold Xn;rw [if_neg h,if_pos h2]
theorem Z6E {c:Int} (h:¬c=253) (h2:¬c=254) (h3:c=255):Xn c=8:=by unfold Xn;rw [if_neg h,if_neg h2,if_pos h3]
theorem ZcS {c:Int} (h:¬c=253) (h2:¬c=254) (h3:¬c=255):Xn c=0:=by unfold Xn;rw [if_neg h,if_neg h2,if_neg h3]
theorem ZiH:¬((0:Int)>36028797018963968):=by decide
theorem ZfM (W:Int->List Int) (xs:List Int) (N:Nat) (F:Int×Int) (hN:xs.length=N) (hF:F=Zq W xs):
  evF (Zb4 W) 20 172 [.vints .u8 xs N] ⟨0,[]⟩ (Y5 0 (.ret (.tuple [.int .i64 F.1,.int .i64 F.2])) 0 []):=by
 refine @Eq.mpr _ (let q1:=decide (0=F.fst);let q2:=Z0 q1 (Z0 (decide (0=F.snd)) True False) False;let q3:=decide ((0:Int)<=0/\0<(↑N:Int));let q4:=List.getD xs 0 0;let q5:=decide (N<=List.length xs);let q6:=(↑(List.length xs):Int);let q7:=Z2p (some 1) xs;let q8:=bOr i64 0 (wrap i64 (List.getD q7 0 0));let q9:=decide (q8>36028797018963968);let q10:=Z0 q1 (Z0 (decide (-1=F.snd)) True False) False;let q11:=bOr i64 (ZJ i64 q8 8) (wrap i64 (List.getD q7 1 0));let q12:=decide (q11>36028797018963968);let q13:=bOr i64 (ZJ i64 q11 8) (wrap i64 (List.getD q7 2 0));let q14:=decide (q13>36028797018963968);let q15:=bOr i64 (ZJ i64 q13 8) (wrap i64 (List.getD q7 3 0));let q16:=bOr i64 (ZJ i64 q15 8) (wrap i64 (List.getD q7 4 0));let q17:=bOr i64 (ZJ i64 q16 8) (wrap i64 (List.getD q7 5 0));let q18:=bOr i64 (ZJ i64 q17 8) (wrap i64 (List.getD q7 6 0));let q19:=bOr i64 (ZJ i64 q18 8) (wrap i64 (List.getD q7 7 0));
 Z0 ((↑N:Int)==0) q2
 (Z0 q3
 (Z0 (decide (q4=253)) (Z0 (decide ((↑N:Int)<=2)) q2 (Z0 q5 (Z0 (decide ((0:Int)<=1/\(1:Int)<=3/\3<=q6)) (Z0 q9 q10 (Z0 (decide (q11>4611686018427387904)) q10 (Z0 ((↑(List.length (W q11)):Int) !=3) q10 (Z0 (decide (q11=F.fst)) (Z0 (decide (3=F.snd)) True False) False)))) False) False))
 (Z0 (decide (q4=254)) (Z0 (decide ((↑N:Int)<=4)) q2 (Z0 q5 (Z0 (decide ((0:Int)<=1/\(1:Int)<=5/\5<=q6)) (Z0 q9 q10 (Z0 q12 q10 (Z0 q14 q10 (Z0 (decide (q15>4611686018427387904)) q10 (Z0 ((↑(List.length (W q15)):Int) !=5) q10 (Z0 (decide (q15=F.fst)) (Z0 (decide (5=F.snd)) True False) False)))))) False) False))
 (Z0 (decide (q4=255)) (Z0 (decide ((↑N:Int)<=8)) q2 (Z0 q5 (Z0 (decide ((0:Int)<=1/\(1:Int)<=9/\9<=q6)) (Z0 q9 q10 (Z0 q12 q10 (Z0 q14 q10 (Z0 (decide (q15>36028797018963968)) q10 (Z0 (decide (q16>36028797018963968)) q10 (Z0 (decide (q17>36028797018963968)) q10 (Z0 (decide (q18>36028797018963968)) q10 (Z0 (decide (q19>4611686018427387904)) q10 (Z0 ((↑(List.length (W q19)):Int) !=9) q10 (Z0 (decide (q19=F.fst)) (Z0 (decide (9=F.snd)) True False) False)))))))))) False) False)) (Z0 q3 (Z0 (decide (wrap i64 q4=F.fst)) (Z0 (decide (1=F.snd)) True False) False) False))))
 False)) (by kernel_rfl) ?_
 conv=>zeta
 try simp only [Zj]
 try simp only [Zl]
 try simp only [Zi]
 try simp only [Zm]
 try simp only [Zn]
 try simp only [Zh]
 try simp only [Int.toNat_natCast,Nat.zero_add,true_and,and_true,Nat.le_refl]
 subst hN
 refine ⟨fun h0=> ?_,fun h0=> ?_⟩
 ·rw [hF,QW (by simp at h0;simp [h0])];exact ⟨rfl,rfl⟩
 have h0:xs.length≠0:=by simp at h0;intro h;rw [List.length_eq_zero_iff] at h;exact h0 h
 have ed:Z2p (some 1) xs=xs.drop 1:=rfl
 rw [ed]
 refine ⟨by omega,fun c1=>⟨fun l1=> ?_,fun l1=>⟨by omega, ?_⟩⟩,fun c1=>⟨fun c2=>⟨fun l1=> ?_,fun l1=>⟨by omega, ?_⟩⟩,fun c2=>⟨fun c3=>⟨fun l1=> ?_,fun l1=>⟨by omega, ?_⟩⟩,fun c3=> ?_⟩⟩⟩
 ·rw [hF,Xt h0 (Z6C c1) (by decide) (by omega)];exact ⟨rfl,rfl⟩
 ·rw [hF,VH h0 (Z6C c1) (by decide) (by omega)]
  simp only [goN,Z1r,ZiG,ZiH,if_false,Nat.zero_add,Nat.reduceAdd]
  repeat' (first|(refine And.intro ?_ ?_)|intro _)
  all_goals first|omega|(simp only [*,if_true,if_false];done)|(simp only [*,if_true,if_false];rfl)|skip
  all_goals rename_i hb
  all_goals first|rw [bne_iff_ne] at hb|rw [bne_eq_false_iff_eq] at hb
  all_goals simp only [*,if_false]
  all_goals first|rfl|(split<;>first|rfl|omega)
 ·rw [hF,Xt h0 (Z6D c1 c2) (by decide) (by omega)];exact ⟨rfl,rfl⟩
 ·rw [hF,VH h0 (Z6D c1 c2) (by decide) (by omega)]
  simp only [goN,Z1r,ZiG,ZiH,if_false,Nat.zero_add,Nat.reduceAdd]
  repeat' (first|(refine And.intro ?_ ?_)|intro _)
  all_goals first|omega|(simp only [*,if_true,if_false];done)|(simp only [*,if_true,if_false];rfl)|skip
  all_goals rename_i hb
  all_goals first|rw [bne_iff_ne] at hb|rw [bne_eq_false_iff_eq] at hb
  all_goals simp only [*,if_false]
  all_goals first|rfl|(split<;>first|rfl|omega)
 ·rw [hF,Xt h0 (Z6E c1 c2 c3) (by decide) (by omega)];exact ⟨rfl,rfl⟩
 ·rw [hF,VH h0 (Z6E c1 c2 c3) (by decide) (by omega)]
  simp only [goN,Z1r,ZiG,ZiH,if_false,Nat.zero_add,Nat.reduceAdd]
  repeat' (first|(refine And.intro ?_ ?_)|intro _)
  all_goals first|omega|(simp only [*,if_true,if_false];done)|(simp only [*,if_true,if_false];rfl)|skip
  all_goals rename_i hb
  all_goals first|rw [bne_iff_ne] at hb|rw [bne_eq_false_iff_eq] at hb
  all_goals simp only [*,if_false]
  all_goals first|rfl|(split<;>first|rfl|omega)
 ·rw [hF,VZ h0 (ZcS c1 c2 c3)];exact ⟨by omega,rfl,rfl⟩
def ZcT (F:List Int->Int×Int):ZR:=fun args h K=>ZU none h true 20 args fun a=>match a with
 | [.vints .u8 xs n]=>Zx (xs.length=n) (K (.tuple [.int .i64 (F xs).1,.int .i64 (F xs).2]))
 | _=>False
theorem Zb5 (args:List AV) (h:Za) (K:AV->Prop) (hl:ZcT (Zq Zr) args h K):Zp PP 172 args h fun o h'=>∃v,o=.ret v/\h'=h/\K v:=by
 refine ZC.psumm (d:=20) (Zu _ _ _ _ _ hl fun a ha=> ?_)
 split at ha
 ·obtain ⟨h1,hK⟩:=Ze ha
  exact ⟨_,.evM Z0m (ZfM _ _ _ _ h1 rfl),fun _=>rfl,hK⟩
 ·exact ha.elim
end Go.Tk
end
section
namespace Go.Tk
open IntKind (i64 u8 u32 u64 wrap)
noncomputable def E23 (F:List Int->Int×Int):Zg:=G0.withP 172 (ZcT F)
theorem ZcU:(E23 (Zq Zr)).Ok:=Zg.withP_ok Zv Zb5
theorem Zkc (F:List Int->Int×Int) (xs:List Int) (o n o' n':Nat) (most v:Int) (hn:o+n=xs.length) (hm:0<=most) (h2:0<(F (xs.drop o)).2/\(F (xs.drop o)).2<=n) (h1:(F (xs.drop o)).1<=most) (hv:(F (xs.drop o)).1=v) (ho:o'=o+(F (xs.drop o)).2.toNat) (hn':n'=n-(F (xs.drop o)).2.toNat):
  evF (E23 F) 20 39 [.agg [.ptr (some ⟨0,0,0,0,0⟩)],.int .i64 most] ⟨2,[(0,.flat [.nslice ⟨1,0,0,0,o⟩ 1 n n,.bool true,.bool false]),(1,.ints .u8 xs)]⟩ (Y5 2 (.ret (.int .i64 v)) 2 [(0,.flat [.nslice ⟨1,0,0,0,o'⟩ 1 n' n',.bool true,.bool false]),(1,.ints .u8 xs)]):=by
 refine @Eq.mpr _ (let q1:=ZF.tot (ZF.mk 1 0 0 0 o);let q2:=List.take n (YH q1 xs);let q3:=F q2;let q4:=q3.snd;let q5:=q3.fst;let q6:=decide (n<=n);let q7:=decide (0<=q4/\q4<= ↑n);let q8:=some (Int.toNat q4);let q9:=Vp n q8;
 Z0 (decide (most<0)) False (Z0 (decide (q1+n<=List.length xs)) (Z0 (decide (List.length q2=n)) (Z0 (decide (q4>0)) (Z0 (!decide (q5<=most)) False (Z0 (!decide (q4<= ↑n)) False (Z0 q6 (Z0 q7 (Z0 q6 (Z0 q7 (Z0 (decide (q5=v)) (Z0 (decide (o+Y6 q8=o')) (Z0 (decide (q9=n')) (Z0 (decide (n'<=q9)) (xs=xs/\True) False) False) False) False) False) False) False) False))) False) False) False)) (by kernel_rfl) ?_
 conv=>zeta
 try simp only [Zj]
 try simp only [Zl]
 try simp only [Zi]
 try simp only [Zm]
 try simp only [Zn]
 try simp only [Zh]
 try simp only [Int.toNat_natCast,Nat.zero_add,true_and,and_true,Nat.le_refl]
 have ht:(ZF.mk 1 0 0 0 o).tot=o:=by simp [ZF.tot]
 have hd:List.take n (YH o xs)=xs.drop o:=by rw [Yw,List.take_of_length_le (by rw [List.length_drop];omega)]
 have hl:(xs.drop o).length=n:=by rw [List.length_drop];omega
 simp only [ht,hd,hl]
 subst hv ho hn'
 refine ⟨by omega,by omega,trivial, ?_⟩
 generalize F (xs.drop o)=p at*
 have e1:(!decide (p.1<=most))=false:=by simp [h1]
 have e2:(!decide (p.2<=(n:Int)))=false:=by simp [h2.2]
 rw [e1,e2]
 have e3:Y6 (some p.2.toNat)=p.2.toNat:=rfl
 have e4:Vp n (some p.2.toNat)=n-p.2.toNat:=rfl
 rw [e3,e4]
 and_intros<;>first|trivial|rfl|omega
theorem Zkd (F:List Int->Int×Int) (xs:List Int) (o n:Nat) (most:Int) (hn:o+n=xs.length) (hm:0<=most) (h2:0<(F (xs.drop o)).2->most<(F (xs.drop o)).1):
  evF (E23 F) 20 39 [.agg [.ptr (some ⟨0,0,0,0,0⟩)],.int .i64 most] ⟨2,[(0,.flat [.nslice ⟨1,0,0,0,o⟩ 1 n n,.bool true,.bool false]),(1,.ints .u8 xs)]⟩ (Y5 2 (.panic (.iface 31 (.int .i64 204))) 2 [(0,.flat [.nslice ⟨1,0,0,0,o⟩ 1 n n,.bool true,.bool true]),(1,.ints .u8 xs)]):=by
 refine @Eq.mpr _ (let q1:=decide (o=o);let q2:=decide (n=n);let q3:=decide (n<=n);let q4:=ZF.tot (ZF.mk 1 0 0 0 o);let q5:=List.take n (YH q4 xs);let q6:=F q5;let q7:=q6.snd;let q8:=Z0 q1 (Z0 q2 (Z0 q3 (xs=xs/\True) False) False) False;let q9:=decide (0<=q7/\q7<= ↑n);
 Z0 (decide (most<0)) (Z0 q1 (Z0 q2 (Z0 q3 False False) False) False) (Z0 (decide (q4+n<=List.length xs)) (Z0 (decide (List.length q5=n)) (Z0 (decide (q7>0)) (Z0 (!decide (q6.fst<=most)) q8 (Z0 (!decide (q7<= ↑n)) q8 (Z0 q3 (Z0 q9 (Z0 q3 (Z0 q9 False False) False) False) False))) q8) False) False)) (by kernel_rfl) ?_
 conv=>zeta
 try simp only [Zj]
 try simp only [Zl]
 try simp only [Zi]
 try simp only [Zm]
 try simp only [Zn]
 try simp only [Zh]
 try simp only [Int.toNat_natCast,Nat.zero_add,true_and,and_true,Nat.le_refl]
 have ht:(ZF.mk 1 0 0 0 o).tot=o:=by simp [ZF.tot]
 have hd:List.take n (YH o xs)=xs.drop o:=by rw [Yw,List.take_of_length_le (by rw [List.length_drop];omega)]
 have hl:(xs.drop o).length=n:=by rw [List.length_drop];omega
 simp only [ht,hd,hl]
 refine ⟨fun h=>(by omega),fun _=>⟨by omega,trivial,fun h=>⟨fun _=>trivial,fun h3=> ?_⟩,fun _=>trivial⟩⟩
 have:=h2 h
 simp at h3
 omega
theorem Zke (xs hh:List Int) (o n o' n':Nat) (hn:o+n=xs.length) (h2:32<=n) (hh':hh=(xs.drop o).take 32) (ho:o'=o+32) (hn':n'=n-32):
  evF G0 20 38 [.agg [.ptr (some ⟨0,0,0,0,0⟩)]] ⟨2,[(0,.flat [.nslice ⟨1,0,0,0,o⟩ 1 n n,.bool true,.bool false]),(1,.ints .u8 xs)]⟩ (Y5 2 (.ret (.agg [.arr .u8 32 hh])) 2 [(0,.flat [.nslice ⟨1,0,0,0,o'⟩ 1 n' n',.bool true,.bool false]),(1,.ints .u8 xs)]):=by
 refine @Eq.mpr _ (let q1:=decide (n<=n);let q2:=decide ((0:Int)<=32/\32<=(↑n:Int));let q3:=ZF.tot (ZF.mk 1 0 0 0 (o+0));let q4:=Vp n (some 32);
 Z0 (!decide (32<=(↑n:Int))) False (Z0 q1 (Z0 q2 (Z0 q1 (Z0 q2 (Z0 (decide (u8=u8/\q3+32<=List.length xs)) (spl Zf 0 (List.take 32 (List.take 32 (YH q3 xs)))=hh/\Z0 (decide (o+32=o')) (Z0 (decide (q4=n')) (Z0 (decide (n'<=q4)) (xs=xs/\True) False) False) False) False) False) False) False) False)) (by kernel_rfl) ?_
 conv=>zeta
 try simp only [Zj]
 try simp only [Zl]
 try simp only [Zi]
 try simp only [Zm]
 try simp only [Zn]
 try simp only [Zh]
 try simp only [Int.toNat_natCast,Nat.zero_add,true_and,and_true,Nat.le_refl]
 have e1:(!decide ((32:Int)<=(n:Int)))=false:=by simp;omega
 have ht:(ZF.mk 1 0 0 0 (o+0)).tot=o:=by simp [ZF.tot]
 rw [e1,ht]
 have e4:Vp n (some 32)=n-32:=rfl
 rw [e4]
 have hl:((xs.drop o).take 32).length=32:=by rw [List.length_take,List.length_drop];omega
 have hd:List.take 32 (List.take 32 (YH o xs))=(xs.drop o).take 32:=by rw [Yw,List.take_take];rfl
 rw [hd,hh']
 generalize (xs.drop o).take 32=zs at*
 and_intros<;>first|trivial|rfl|omega|skip
 unfold spl
 rw [List.take_zero,List.nil_append,hl]
 simp [Zf]
theorem Zkf (xs:List Int) (o n:Nat) (hn:o+n=xs.length) (h2:n<32):
  evF G0 20 38 [.agg [.ptr (some ⟨0,0,0,0,0⟩)]] ⟨2,[(0,.flat [.nslice ⟨1,0,0,0,o⟩ 1 n n,.bool true,.bool false]),(1,.ints .u8 xs)]⟩ (Y5 2 (.panic (.iface 31 (.int .i64 204))) 2 [(0,.flat [.nslice ⟨1,0,0,0,o⟩ 1 n n,.bool true,.bool true]),(1,.ints .u8 xs)]):=by
 refine @Eq.mpr _ (let q1:=decide (n<=n);let q2:=decide ((0:Int)<=32/\32<=(↑n:Int));
 Z0 (!decide (32<=(↑n:Int))) (Z0 (decide (o=o)) (Z0 (decide (n=n)) (Z0 q1 (xs=xs/\True) False) False) False) (Z0 q1 (Z0 q2 (Z0 q1 (Z0 q2 (Z0 (decide (u8=u8/\ZF.tot (ZF.mk 1 0 0 0 (o+0))+32<=List.length xs)) False False) False) False) False) False)) (by kernel_rfl) ?_
 conv=>zeta
 try simp only [Zj]
 try simp only [Zl]
 try simp only [Zi]
 try simp only [Zm]
 try simp only [Zn]
 try simp only [Zh]
 try simp only [Int.toNat_natCast,Nat.zero_add,true_and,and_true,Nat.le_refl]
 refine ⟨fun _=>trivial,fun h=> ?_⟩
 simp at h
 omega
theorem Zm5 (xs:List Int) (o n:Nat) (h2:n=0):
  evF G0 20 42 [.ptr (some ⟨0,0,0,0,0⟩)] ⟨2,[(0,.flat [.nslice ⟨1,0,0,0,o⟩ 1 n n,.bool true,.bool false]),(1,.ints .u8 xs)]⟩ (Y5 2 (.ret (.int .i64 0)) 2 [(0,.flat [.nslice ⟨1,0,0,0,o⟩ 1 n n,.bool true,.bool false]),(1,.ints .u8 xs)]):=by
 refine @Eq.mpr _ (Z0 (!(↑n:Int)==0) False (Z0 (decide (o=o)) (Z0 (decide (n=n)) (Z0 (decide (n<=n)) (xs=xs/\True) False) False) False)) (by kernel_rfl) ?_
 try simp only [Zj]
 try simp only [Zl]
 try simp only [Zi]
 try simp only [Zm]
 try simp only [Zn]
 try simp only [Zh]
 try simp only [Int.toNat_natCast,Nat.zero_add,true_and,and_true,Nat.le_refl]
 subst h2
 simp
theorem Zm6 (xs:List Int) (o n:Nat) (h2:n≠0):
  evF G0 20 42 [.ptr (some ⟨0,0,0,0,0⟩)] ⟨2,[(0,.flat [.nslice ⟨1,0,0,0,o⟩ 1 n n,.bool true,.bool false]),(1,.ints .u8 xs)]⟩ (Y5 2 (.ret (.int .i64 140)) 2 [(0,.flat [.nslice ⟨1,0,0,0,o⟩ 1 n n,.bool true,.bool true]),(1,.ints .u8 xs)]):=by
 refine @Eq.mpr _ (Z0 (!(↑n:Int)==0) (Z0 (decide (o=o)) (Z0 (decide (n=n)) (Z0 (decide (n<=n)) (xs=xs/\True) False) False) False) False) (by kernel_rfl) ?_
 try simp only [Zj]
 try simp only [Zl]
 try simp only [Zi]
 try simp only [Zm]
 try simp only [Zn]
 try simp only [Zh]
 try simp only [Int.toNat_natCast,Nat.zero_add,true_and,and_true,Nat.le_refl]
 simp
 omega
theorem Z4z (W:Int->List Int) (xs:List Int):(Zq W xs).2<=xs.length:=by
 by_cases h0:xs.length=0
 ·rw [QW h0];exact Int.natCast_nonneg _
 by_cases hm:Xn (xs.getD 0 0)=0
 ·rw [VZ h0 hm];show (1:Int)<=_;omega
 by_cases hl:xs.length<=Xn (xs.getD 0 0)
 ·rw [Xt h0 rfl hm hl];exact Int.natCast_nonneg _
 rw [VH h0 rfl hm (by omega)]
 split
 ·show (-1:Int)<=_;omega
 ·split
  ·show (-1:Int)<=_;omega
  ·split
   ·show (1:Int)+Xn (xs.getD 0 0)<=_;omega
   ·show (-1:Int)<=_;omega
def rdN (F:List Int->Int×Int) (xs:List Int) (o:Nat) (most:Int):Option (Int×Nat):=
 if 0<(F (xs.drop o)).2/\(F (xs.drop o)).1<=most then some ((F (xs.drop o)).1,o+(F (xs.drop o)).2.toNat) else none
def rdH (xs:List Int) (o:Nat):Option (List Int×Nat):=if o+32<=xs.length then some ((xs.drop o).take 32,o+32) else none
def ZcV (F:List Int->Int×Int):Yf:=fun args h K=>match args with
 | [.agg [.ptr (some ⟨r,0,0,0,0⟩)],.int .i64 _]=>match h.get r with
  |some (.flat [.nslice ⟨b,0,0,0,_⟩ 1 _ _,.bool true,.bool false])=>frA [r,b] h 20 args fun Bs a=>match Bs,a with
   | [.flat [.nslice ⟨1,0,0,0,o⟩ 1 n n2,.bool true,.bool false],.ints .u8 xs],[.agg [.ptr (some ⟨0,0,0,0,0⟩)],.int .i64 most]=>
    Zx (n=xs.length-o/\o<=xs.length/\n2=xs.length-o/\0<=most) ((∀v o',rdN F xs o most=some (v,o')->(o<=o'/\o'<=xs.length/\v<=most)->
     K (.ret (.int .i64 v)) ⟨h.next,(r,.flat [.nslice ⟨b,0,0,0,o'⟩ 1 (xs.length-o') (xs.length-o'),.bool true,.bool false])::(b,.ints .u8 xs)::Yc (Yc h.bs r) b⟩)/\
     (rdN F xs o most=none->K (.panic (.iface 31 (.int .i64 204))) ⟨h.next,(r,.flat [.nslice ⟨b,0,0,0,o⟩ 1 (xs.length-o) (xs.length-o),.bool true,.bool true])::(b,.ints .u8 xs)::Yc (Yc h.bs r) b⟩))
   | _,_=>False
  | _=>False
 | _=>False
theorem ZcW (args:List AV) (h:Za) (K:KO) (hl:ZcV (Zq Zr) args h K):Zp PP 39 args h K:=by
 unfold ZcV at hl
 split at hl
 ·split at hl
  ·refine Spec.fsumm hl fun Bs a hlen hK0=> ?_
   split at hK0
   ·rename_i o n n2 xs most
    obtain ⟨⟨rfl,h1,rfl,h3⟩,hK,hK'⟩:=Ze hK0
    have hle:=Z4z Zr (xs.drop o)
    rw [List.length_drop] at hle
    by_cases hc:0<(Zq Zr (xs.drop o)).2/\(Zq Zr (xs.drop o)).1<=most
    ·have f1:o<=o+(Zq Zr (xs.drop o)).2.toNat/\o+(Zq Zr (xs.drop o)).2.toNat<=xs.length/\(Zq Zr (xs.drop o)).1<=most:=⟨by omega,by omega,hc.2⟩
     exact ⟨_,_,_,_,_,.evM ZcU (Zkc _ xs o (xs.length-o) (o+(Zq Zr (xs.drop o)).2.toNat) (xs.length-(o+(Zq Zr (xs.drop o)).2.toNat)) most _ (by omega) h3 ⟨hc.1,by omega⟩ hc.2 rfl rfl (by omega)),by simp,.ret _ _ rfl,.cons _ _ _ _ _ _ rfl (.flat _ _ rfl) (.cons _ _ _ _ _ _ rfl (.ints _ _) .nil),hK _ _ (by unfold rdN;rw [if_pos hc]) f1⟩
    ·exact ⟨_,_,_,_,_,.evM ZcU (Zkd _ xs o _ most (by omega) h3 (fun h=>by omega)),by simp,.panic _ _ rfl,.cons _ _ _ _ _ _ rfl (.flat _ _ rfl) (.cons _ _ _ _ _ _ rfl (.ints _ _) .nil),hK' (by unfold rdN;rw [if_neg hc])⟩
   ·exact hK0.elim
  ·exact hl.elim
 ·exact hl.elim
def Z8o:Yf:=fun args h K=>match args with
 | [.agg [.ptr (some ⟨r,0,0,0,0⟩)]]=>match h.get r with
  |some (.flat [.nslice ⟨b,0,0,0,_⟩ 1 _ _,.bool true,.bool false])=>frA [r,b] h 20 args fun Bs a=>match Bs,a with
   | [.flat [.nslice ⟨1,0,0,0,o⟩ 1 n n2,.bool true,.bool false],.ints .u8 xs],[.agg [.ptr (some ⟨0,0,0,0,0⟩)]]=>
    Zx (n=xs.length-o/\o<=xs.length/\n2=xs.length-o) ((∀hh o',rdH xs o=some (hh,o')->(o<=o'/\o'<=xs.length/\hh.length=32)->
     K (.ret (.agg [.arr .u8 32 hh])) ⟨h.next,(r,.flat [.nslice ⟨b,0,0,0,o'⟩ 1 (xs.length-o') (xs.length-o'),.bool true,.bool false])::(b,.ints .u8 xs)::Yc (Yc h.bs r) b⟩)/\
     (rdH xs o=none->K (.panic (.iface 31 (.int .i64 204))) ⟨h.next,(r,.flat [.nslice ⟨b,0,0,0,o⟩ 1 (xs.length-o) (xs.length-o),.bool true,.bool true])::(b,.ints .u8 xs)::Yc (Yc h.bs r) b⟩))
   | _,_=>False
  | _=>False
 | _=>False
theorem Zb6 (args:List AV) (h:Za) (K:KO) (hl:Z8o args h K):Zp PP 38 args h K:=by
 unfold Z8o at hl
 split at hl
 ·split at hl
  ·refine Spec.fsumm hl fun Bs a hlen hK0=> ?_
   split at hK0
   ·rename_i o n n2 xs
    obtain ⟨⟨rfl,h1,rfl⟩,hK,hK'⟩:=Ze hK0
    by_cases hc:o+32<=xs.length
    ·have f1:o<=o+32/\o+32<=xs.length/\((xs.drop o).take 32).length=32:=⟨by omega,hc,by rw [List.length_take,List.length_drop];omega⟩
     exact ⟨_,_,_,_,_,.evM Zv (Zke xs _ o (xs.length-o) (o+32) (xs.length-(o+32)) (by omega) (by omega) rfl rfl (by omega)),by simp,.ret _ _ rfl,.cons _ _ _ _ _ _ rfl (.flat _ _ rfl) (.cons _ _ _ _ _ _ rfl (.ints _ _) .nil),hK _ _ (by unfold rdH;rw [if_pos hc]) f1⟩
    ·exact ⟨_,_,_,_,_,.evM Zv (Zkf xs o _ (by omega) (by omega)),by simp,.panic _ _ rfl,.cons _ _ _ _ _ _ rfl (.flat _ _ rfl) (.cons _ _ _ _ _ _ rfl (.ints _ _) .nil),hK' (by unfold rdH;rw [if_neg hc])⟩
   ·exact hK0.elim
  ·exact hl.elim
 ·exact hl.elim
def ZcX:Yf:=fun args h K=>match args with
 | [.ptr (some ⟨r,0,0,0,0⟩)]=>match h.get r with
  |some (.flat [.nslice ⟨b,0,0,0,_⟩ 1 _ _,.bool true,.bool false])=>frA [r,b] h 20 args fun Bs a=>match Bs,a with
   | [.flat [.nslice ⟨1,0,0,0,o⟩ 1 n n2,.bool true,.bool false],.ints .u8 xs],[.ptr (some ⟨0,0,0,0,0⟩)]=>
    Zx (n2=n) (Z0 (decide (n=0))
     (K (.ret (.int .i64 0)) ⟨h.next,(r,.flat [.nslice ⟨b,0,0,0,o⟩ 1 n n,.bool true,.bool false])::(b,.ints .u8 xs)::Yc (Yc h.bs r) b⟩)
     (K (.ret (.int .i64 140)) ⟨h.next,(r,.flat [.nslice ⟨b,0,0,0,o⟩ 1 n n,.bool true,.bool true])::(b,.ints .u8 xs)::Yc (Yc h.bs r) b⟩))
   | _,_=>False
  | _=>False
 | _=>False
theorem ZcY (args:List AV) (h:Za) (K:KO) (hl:ZcX args h K):Zp PP 42 args h K:=by
 unfold ZcX at hl
 split at hl
 ·split at hl
  ·refine Spec.fsumm hl fun Bs a hlen hK0=> ?_
   split at hK0
   ·rename_i o n n2 xs
    obtain ⟨rfl,hK⟩:=Ze hK0
    rw [Zi] at hK
    by_cases hc:n2=0
    ·exact ⟨_,_,_,_,_,.evM Zv (Zm5 xs o _ hc),by simp,.ret _ _ rfl,.cons _ _ _ _ _ _ rfl (.flat _ _ rfl) (.cons _ _ _ _ _ _ rfl (.ints _ _) .nil),hK.1 hc⟩
    ·exact ⟨_,_,_,_,_,.evM Zv (Zm6 xs o _ hc),by simp,.ret _ _ rfl,.cons _ _ _ _ _ _ rfl (.flat _ _ rfl) (.cons _ _ _ _ _ _ rfl (.ints _ _) .nil),hK.2 hc⟩
   ·exact hK0.elim
  ·exact hl.elim
 ·exact hl.elim
end Go.Tk
end
section
namespace Go.Tk
open IntKind (i64 u8 u32 u64 wrap)
def AV.plain2:AV->Bool
 | .iface _ v=>v.plain
 | v=>v.plain
theorem Zk.plain2 {E E':Env} {v:AV} {r:Value} (h:Zk E v r) (hp:v.plain2=true):Zk E' v r:=by
 cases v with
 | iface t u=>cases h with|iface t u x hx=>exact .iface _ _ _ (hx.plain hp)
 | _=>exact h.plain hp
def Z6F {ι:Type} (k:Nat) (m:ι->Nat) (S:ι->St) (i:ι) (X:KE):KE:=fun e s=>match e with
 | .normal=>∃j,m j<m i/\Vi k s (S j)
 | .panic v=>v.plain2=true/\∃s₂,Vi k s s₂/\X (.panic v) s₂
 | .exit id=>∃s₂,Vi k s s₂/\X (.exit id) s₂
 | .goto l=>∃s₂,Vi k s s₂/\X (.goto l) s₂
 | .ret=>∃s₂,Vi k s s₂/\X .ret s₂
theorem Z8p {P:Program} {k:Nat} {ro:Option Nat} {c:Code} {ι:Type} (m:ι->Nat) (S:ι->St) (X:KE)
  (h:∀i,YI P k ro c (S i) (Z6F k m S i X)):∀i,YI P k ro (.loop c) (S i) X:=by
 have key:∀N i,m i<N->∀(E0:Env) (h0:Za) (w0:World) (E:Env) (a:Act) (w:World) (n:Nat),(∀x,k<=x->E0.blk x=none)->V0 E (S i) a w->Evo E0 h0 w0 E (S i).h w->
   Code.roundsIn (Fr ro) n P c (QF E0 h0 w0 X) N a w:=by
  intro N
  induction N with
  | zero=>intro i hi;omega
  | succ N ih=>
   intro i hi E0 h0 w0 E a w n hk hs hev
   rw [roundsIn_succ]
   refine wpIn_mono (h i E0 h0 w0 E a w n hk hs hev) ?_
   rintro e a' w' ⟨E',x,s',hx,hev',hs',he⟩
   cases he with
   | normal=>
    obtain ⟨j,hj,hw⟩:=hx
    obtain ⟨E₂,hs₂,hev₂⟩:=hw E0 h0 w0 E' a' w' hk hs' hev'
    exact ih j (by omega) E0 h0 w0 E₂ a' w' n hk hs₂ hev₂
   | exit id=>
    obtain ⟨s₂,hw,hx⟩:=hx
    obtain ⟨E₂,hs₂,hev₂⟩:=hw E0 h0 w0 E' a' w' hk hs' hev'
    exact ⟨E₂,_,s₂,hx,hev₂,hs₂,.exit id⟩
   | goto l=>
    obtain ⟨s₂,hw,hx⟩:=hx
    obtain ⟨E₂,hs₂,hev₂⟩:=hw E0 h0 w0 E' a' w' hk hs' hev'
    exact ⟨E₂,_,s₂,hx,hev₂,hs₂,.goto l⟩
   | ret=>
    obtain ⟨s₂,hw,hx⟩:=hx
    obtain ⟨E₂,hs₂,hev₂⟩:=hw E0 h0 w0 E' a' w' hk hs' hev'
    exact ⟨E₂,_,s₂,hx,hev₂,hs₂,.ret⟩
   | panic v r hv=>
    obtain ⟨hp,s₂,hw,hx⟩:=hx
    obtain ⟨E₂,hs₂,hev₂⟩:=hw E0 h0 w0 E' a' w' hk hs' hev'
    exact ⟨E₂,_,s₂,hx,hev₂,hs₂,.panic v r (hv.plain2 hp)⟩
 intro i E0 h0 w0 E a w n hk hs hev
 exact wpIn_loop_rounds (m i+1) (key (m i+1) i (Nat.lt_succ_self _) E0 h0 w0 E a w n hk hs hev)
theorem Zg.withL_okP {G:Zg} (hG:G.Ok) {f:FuncId} {id:Nat} {S:Nat->St->KE->Prop} (h1:XY G.P f id=true)
  (h:∀k s X,S k s X->∃ι:Type,∃m:ι->Nat,∃I:ι->St,∃i n,Vi k s (I i)/\∀i,∃Y,ZG G n f id k (I i) Y/\∀e s,Y e s->Z6F k m I i X e s):(G.withL f id S).Ok where
 draw:=hG.draw
 psumm:=hG.psumm
 fsumm:=hG.fsumm
 lsumm:=fun f' id' S' fn c body hS hf hb hm k s X hs=>by
  simp only [Zg.withL] at hS
  split at hS
  ·rename_i hq
   rw [Bool.and_eq_true] at hq
   have e1:=Nat.eq_of_beq_eq_true hq.1
   have e2:=Nat.eq_of_beq_eq_true hq.2
   subst e1 e2
   cases hS
   have hc:=Z1o h1 hf hb hm
   obtain ⟨ι,m,I,i,n,hw,hr⟩:=h k s X hs
   subst hc
   refine YI.weak (Z8p m I X (fun i=> ?_) i) hw
   have hk:=UX hG n f' none
   obtain ⟨Y,hY,hYX⟩:=hr i
   unfold ZG at hY
   refine YI.mono ?_ hYX
   refine Z0Q (k:=k) (ro:=none) hG hk.1 (fun _=>rfl) (fun _=>rfl) (fun _=>⟨fn,body,by rw [hk.2.1];exact hf,hb,fun b hbm=>WR body id' _ hm b (by simpa [ZA] using hbm)⟩) hY
  ·exact hG.lsumm f' id' S' fn c body hS hf hb hm k s X hs
def rdP (k id l:Nat) (pv:AV) (S1 En Rn Jn Pn:St) (go ex re jm pa:Prop):KE:=fun e s=>match e with
 | .normal=>Wk k S1 s go
 | .exit x=>(match Nat.beq x id with|true=>Wk k En s ex|false=>False)
 | .ret=>Wk k Rn s re
 | .goto x=>(match Nat.beq x l with|true=>Wk k Jn s jm|false=>False)
 | .panic v=>YD pv v (Wk k Pn s pa)
def Zkg (id n l:Nat) (pv:AV) (go ex re jm pa:Nat->Prop) (En Rn Jn Pn:Nat->St):KE->Prop:=fun X=>
 ∀i,i<=n->(∀j,j<i->go j)->(ex i->X (.exit id) (En i))/\(re i->X .ret (Rn i))/\(jm i->X (.goto l) (Jn i))/\(pa i->X (.panic pv) (Pn i))
end Go.Tk
end
section
namespace Go.Tk
open IntKind (i64 u8 u32 u64 wrap)
mutual
/-- Without names; views may be. -/
def AV.vplain:AV->Bool
 | .top|.bool _|.int _ _|.str _|.ptr none|.eslice|.fslice|.nilslice|.map none|.nilFunc|.nilIface|.arr _ _ _=>true
 | .vints _ _ _|.vrows _ _ _ _|.pview _ _=>true
 | .agg cs=>WA cs
 | .tuple cs=>WA cs
 | .iface _ v=>v.vplain
 | _=>false
def WA:List AV->Bool
 | []=>true
 | v::r=>v.vplain&&WA r
end
mutual
theorem Zk.vplain {E E':Env} (hi:∀a c,E.imm a c->E'.imm a c):∀(v:AV) (r:Value),v.vplain=true->Zk E v r->Zk E' v r
 | .top,r,_,_=>.top r
 | .bool b,r,_,h=>h.plain rfl
 | .int k n,r,_,h=>h.plain rfl
 | .str s,r,_,h=>h.plain rfl
 | .ptr none,r,_,h=>h.plain rfl
 | .eslice,r,_,h=>h.plain rfl
 | .fslice,r,_,h=>h.plain rfl
 | .nilslice,r,_,h=>h.plain rfl
 | .map none,r,_,h=>h.plain rfl
 | .nilFunc,r,_,h=>h.plain rfl
 | .nilIface,r,_,h=>h.plain rfl
 | .arr k n xs,r,_,h=>h.plain rfl
 | .ptr (some p),r,hp,_=>by simp [AV.vplain] at hp
 | .nslice p a b c,r,hp,_=>by simp [AV.vplain] at hp
 | .map (some x),r,hp,_=>by simp [AV.vplain] at hp
 | .func a b c,r,hp,_=>by simp [AV.vplain] at hp
 | .yield x,r,hp,_=>by simp [AV.vplain] at hp
 | .pview cs inn,r,_,h=>by
  cases h with
  | pview cs inn a vs hc hq=>exact .pview cs inn a vs (Zw.mono (⟨fun _ _ h=>by simp [Env.views] at h,hi⟩:E.views.le E'.views) hc) (fun j c h=>hi _ _ (hq j c h))
 | .vints k xs len,r,_,h=>by
  cases h with
  | vintsNil k xs len h1 h2=>exact .vintsNil k xs len h1 h2
  | vints k xs len a cap h1 h2 hq=>exact .vints k xs len a cap h1 h2 (fun i h=>hi _ _ (hq i h))
 | .vrows esz n f len,r,_,h=>by
  cases h with
  | vrowsNil esz n f len h1 h2=>exact .vrowsNil esz n f len h1 h2
  | vrows esz n f len a cap g h1 h2 hc hl hq=>exact .vrows esz n f len a cap g h1 h2 (fun i h=>Zw.mono (⟨fun _ _ h=>by simp [Env.views] at h,hi⟩:E.views.le E'.views) (hc i h)) hl (fun i j c h h'=>hi _ _ (hq i j c h h'))
 | .iface t v,r,hp,h=>by
  cases h with
  | iface t v x hx=>exact .iface t v x (Zk.vplain hi v x (by simpa [AV.vplain] using hp) hx)
 | .agg cs,r,hp,h=>by
  cases h with
  | agg cs vs hc=>exact .agg cs vs (Zw.vplain hi cs vs (by simpa [AV.vplain] using hp) hc)
 | .tuple cs,r,hp,h=>by
  cases h with
  | tuple _ rs hc=>exact .tuple _ rs (ZK.vplain hi cs rs (by simpa [AV.vplain] using hp) hc)
theorem Zw.vplain {E E':Env} (hi:∀a c,E.imm a c->E'.imm a c):∀(l:List AV) (r:List Value),WA l=true->Zw E l r->Zw E' l r
 | [],r,_,h=>by cases h;exact .nil
 | v::l,r,hp,h=>by
  simp only [WA,Bool.and_eq_true] at hp
  cases h with
  | one v c vs cs h0 h1 hv t=>exact .one v c _ cs h0 h1 (Zk.vplain hi v c hp.1 hv) (Zw.vplain hi l cs hp.2 t)
  | arr k n xs vs cs t=>exact .arr k n xs _ cs (Zw.vplain hi l cs hp.2 t)
theorem ZK.vplain {E E':Env} (hi:∀a c,E.imm a c->E'.imm a c):∀(l:List AV) (r:List Value),WA l=true->ZK E l r->ZK E' l r
 | [],r,_,h=>by cases h;exact .nil
 | v::l,r,hp,h=>by
  simp only [WA,Bool.and_eq_true] at hp
  cases h with
  | cons v c vs cs hv t=>exact .cons v c _ cs (Zk.vplain hi v c hp.1 hv) (ZK.vplain hi l cs hp.2 t)
end
def Yo (R:AV->Prop):KO:=fun o _=>match o with
 | .ret u=>(match u.vplain with|true=>R u|false=>False)
 | .panic _=>False
theorem Z8q {P:Program} {f:FuncId} {args:List AV} {h:Za} {R:AV->Prop} {K:AV->Prop} (hp:WA args=true) (hc:Zp P f args ⟨0,[]⟩ (Yo R)) (hK:∀u,R u->K u):
  Zp P f args h fun o h'=>∃v,o=.ret v/\h'=h/\K v:=by
 intro E w rs he hr
 have hemb:Emb E.views ⟨0,[]⟩ w:=
  ⟨fun x _=>rfl,fun x B h=>by simp [Za.get,ZO] at h,fun x B h=>by simp [Za.get,ZO] at h,fun x y B B' b N N' h=>by simp [Za.get,ZO] at h,he.imm,fun a c x B N _ h=>by simp [Za.get,ZO] at h⟩
 refine (hc E.views w rs hemb (ZK.vplain (E:=E) (E':=E.views) (fun _ _ h=>h) _ _ hp hr)).mono ?_
 rintro e w' ⟨E₁,o,h',hK0,hev,hor⟩
 cases hor with
 | panic u r hr=>exact hK0.elim
 | ret u r hr=>
  unfold Yo at hK0
  simp only at hK0
  split at hK0
  ·rename_i hu
   have hkeep:∀b,b<w.heap.size->w'.heap[b]? =w.heap[b]?:=fun b hb=>hev.keep b hb (fun ⟨x,B,N,hx,_⟩=>by simp [Za.get,ZO] at hx)
   have hemb':Emb E h w':=by
    refine ⟨he.fresh,he.lt,fun x B hx=>(he.own x B hx).congr fun b N hb=>hkeep b ((he.own x B hx).lt hb),he.disj,fun a c hi=> ?_,he.sep⟩
    have hcc:=he.imm a c hi
    have hlt:a.block<w.heap.size:=by
     rcases Nat.lt_or_ge a.block w.heap.size with hl|hg
     ·exact hl
     ·simp [World.cell?,Array.getElem?_eq_none hg] at hcc
    simpa [World.cell?,hkeep _ hlt] using hcc
   exact ⟨E,.ret u,h,⟨u,rfl,rfl,hK u hK0⟩,⟨.refl E,hemb',hev.size,hev.os,hev.tape,hev.output,fun b hb _=>hkeep b hb,fun b ho=>.inl ho,fun _ _ h=>h⟩,.ret _ _ (Zk.vplain (E:=E₁) (E':=E) (fun a c hi=>hev.imm a c hi) _ _ hu hr)⟩
  ·exact hK0.elim
theorem Y7 {G:Zg} (hG:G.Ok) {n:Nat} {f:FuncId} {args:List AV} {h:Za} {R:AV->Prop} {K:AV->Prop} (hp:WA args=true) (hc:evF G n f args ⟨0,[]⟩ (Yo R)) (hK:∀u,R u->K u):
  Zp G.P f args h fun o h'=>∃v,o=.ret v/\h'=h/\K v:=Z8q hp (QG hG hc) hK
end Go.Tk
end
section
namespace Go.Tk
open IntKind (i64 u8 u32 u64 wrap)
end Go.Tk
end
section
namespace Go.Tk
open IntKind (i64 u8 u32 u64 wrap)
inductive Ty where
 | bool
 | int (k:IntKind)
 | str
 | arr (k:IntKind) (n:Nat)
 | ints (k:IntKind)
 | rows (esz:Nat) (ts:List Ty)
def ZcZ (P:Program) (r:TypeId->Option (List Ty)) (sz:Nat):Nat->List Field->Option (List Ty)
 | o,[]=>if o=sz then some [] else none
 | o,f::fs=>if f.offset=o then (r f.type).bind fun a=>(ZcZ P r sz (o+P.cellsOf f.type) fs).bind fun b=>some (a++b) else none
def Z1K (P:Program):Nat->TypeId->Option (List Ty)
 | 0,_=>none
 | m+1,t=>match P.underlying t with
  | some .bool=>some [.bool]
  | some (.int k)=>some [.int k]
  | some .string=>some [.str]
  | some (.array n e)=>match P.underlying e with
   | some (.int k)=>if P.cellsOf t=n/\P.cellsOf e=1 then some [.arr k n] else none
   | _=>(Z1K P m e).bind fun ts=>if P.cellsOf t=n*P.cellsOf e then some (List.replicate n ts).flatten else none
  | some (.slice e)=>match P.underlying e with
   | some (.int k)=>if P.cellsOf e=1 then some [.ints k] else none
   | _=>(Z1K P m e).bind fun ts=>some [.rows (P.cellsOf e) ts]
  | some (.struct fs)=>ZcZ P (Z1K P m) (P.cellsOf t) 0 fs.toList
  | _=>none
mutual
inductive Z1s:Ty->AV->Prop
 | bool (b:Bool):Z1s .bool (.bool b)
 | int (k:IntKind) (n:Int) (h:(Lit.int k n).wf=true):Z1s (.int k) (.int k n)
 | str (s:ByteArray) (h:s.size<=maxLen):Z1s .str (.str s)
 | arr (k:IntKind) (n:Nat) (xs:List Int) (h:xs.length=n) (hw:∀i,i<n->(Lit.int k (xs.getD i 0)).wf=true):Z1s (.arr k n) (.arr k n xs)
 | ints (k:IntKind) (xs:List Int) (n:Nat) (h:xs.length=n) (hm:n<=maxLen) (hw:∀i,i<n->(Lit.int k (xs.getD i 0)).wf=true):Z1s (.ints k) (.vints k xs n)
 | rows (esz:Nat) (ts:List Ty) (n:Nat) (f:Nat->List AV) (hm:n<=maxLen) (h:∀i,i<n->Fits ts (f i)):Z1s (.rows esz ts) (.vrows esz n f n)
inductive Fits:List Ty->List AV->Prop
 | nil:Fits [] []
 | cons (t:Ty) (a:AV) (ts:List Ty) (vz:List AV) (h:Z1s t a) (r:Fits ts vz):Fits (t::ts) (a::vz)
end
theorem Fits.append:∀{ts wz:List Ty} {vz bs:List AV},Fits ts vz->Fits wz bs->Fits (ts++wz) (vz++bs)
 | _,_,_,_,.nil,h=>h
 | _,_,_,_,.cons t a ts vz h r,k=>.cons t a _ _ h (Fits.append r k)
def tE (w:World):Env:=⟨fun _=>none,fun a c=>w.cell? a=some c⟩
section
variable {H:Type} {enc:TypeId×Value->H} {P:Program} {w:World} {sp:Nat->Bool} {held:Bool}
theorem Qs {k:IntKind} {n:Nat} {cs:List Value} (hl:cs.length=n) (h:∀i,i<n->∃z,cs[i]? =some (.int k z)/\(Lit.int k z).wf=true):
  ∃xs:List Int,xs.length=n/\(∀i,i<n->(Lit.int k (xs.getD i 0)).wf=true)/\∀i,i<n->cs[i]? =some (.int k (xs.getD i 0)):=by
 refine ⟨cs.map fun v=>match v with|.int _ z=>z|_=>0,by simp [hl],fun i hi=> ?_,fun i hi=> ?_⟩
 ·obtain ⟨z,h1,h2⟩:=h i hi
  rw [List.getD_eq_getElem?_getD,List.getElem?_map,h1]
  exact h2
 ·obtain ⟨z,h1,h2⟩:=h i hi
  rw [List.getD_eq_getElem?_getD,List.getElem?_map,h1]
  rfl
theorem ZfN {α β:Type} {n:Nat} {p:Nat->α->β->Prop} [Inhabited α] [Inhabited β] (h:∀i,i<n->∃a b,p i a b):∃(f:Nat->α) (g:Nat->β),∀i,i<n->p i (f i) (g i):=
 ⟨fun i=>if hi:i<n then Classical.choose (h i hi) else default,fun i=>if hi:i<n then Classical.choose (Classical.choose_spec (h i hi)) else default,fun i hi=>by
  simp only [hi,dite_true]
  exact Classical.choose_spec (Classical.choose_spec (h i hi))⟩
theorem Z20:∀(m:Nat) (t:TypeId) (ts:List Ty),Z1K P m t=some ts->∀(fuel:Nat) (cs:List Value) (x:DataW H×List MemPlace),DataW.trod enc P w 0 sp held fuel t cs=some x->∃vz,Fits ts vz/\Zw (tE w) vz cs
 | 0,_,_,ht=>by simp [Z1K] at ht
 | m+1,t,ts,ht=>by
  intro fuel cs x hx
  unfold Z1K at ht
  split at ht
  ·rename_i hu
   cases ht
   obtain ⟨b,rfl,_⟩:=DataW.trod_bool hu hx
   exact ⟨[.bool b],.cons _ _ _ _ (.bool b) .nil,.one _ _ _ _ rfl rfl (.bool b) .nil⟩
  ·rename_i k hu
   cases ht
   obtain ⟨n,rfl,_,hw⟩:=DataW.trod_int hu hx
   exact ⟨[.int k n],.cons _ _ _ _ (.int k n hw) .nil,.one _ _ _ _ rfl rfl (.int k n) .nil⟩
  ·rename_i hu
   cases ht
   obtain ⟨s,rfl,_,hw⟩:=DataW.trod_string hu hx
   exact ⟨[.str s],.cons _ _ _ _ (.str s hw) .nil,.one _ _ _ _ rfl rfl (.str s) .nil⟩
  ·rename_i n e hu
   split at ht
   ·rename_i k he
    split at ht
    ·rename_i hc
     obtain ⟨hc,h1⟩:=hc
     cases ht
     obtain ⟨xs,q,rfl,rfl,hl,hn,hi⟩:=DataW.trod_array hu hx
     rw [hc] at hl
     obtain ⟨zs,z1,z2,z3⟩:=Qs (k:=k) hl fun i hlt=>by
      have:=hi i hlt
      rw [List.getElem?_eq_getElem (by omega),h1] at this
      obtain ⟨z,e1,_,e2⟩:=DataW.trod_int he this
      refine ⟨z, ?_,e2⟩
      rw [Nat.mul_one] at e1
      have:=congrArg (fun l=>l[0]?) e1
      simpa using this
     refine ⟨[.arr k n zs],.cons _ _ _ _ (.arr k n zs z1 z2) .nil, ?_⟩
     have:cs=intCells k n zs++[]:=by
      rw [List.append_nil]
      refine List.ext_getElem? fun i=> ?_
      by_cases hlt:i<n
      ·rw [z3 i hlt]
       simp [intCells,hlt]
      ·rw [List.getElem?_eq_none (by omega),List.getElem?_eq_none (by rw [Z9];omega)]
     rw [this]
     exact .arr _ _ _ _ _ .nil
    ·cases ht
   ·obtain ⟨es,e1,e2⟩:=Option.bind_eq_some_iff.1 ht
    split at e2
    ·rename_i hc
     cases e2
     obtain ⟨xs,q,rfl,rfl,hl,hn,hi⟩:=DataW.trod_array hu hx
     rw [hc] at hl
     have key:∀j,j<=n->∃vz,Fits (List.replicate j es).flatten vz/\Zw (tE w) vz (cs.take (j*P.cellsOf e)):=by
      intro j
      induction j with
      | zero=>intro _;exact ⟨[],.nil,by simp;exact .nil⟩
      | succ j ih=>
       intro hj
       obtain ⟨vz,f1,f2⟩:=ih (by omega)
       have:=hi j (by omega)
       rw [List.getElem?_eq_getElem (by omega)] at this
       obtain ⟨bs,p1,p2⟩:=Z20 m _ _ e1 _ _ _ this
       refine ⟨vz++bs, ?_, ?_⟩
       ·rw [List.replicate_succ',List.flatten_append,List.flatten_singleton]
        exact f1.append p1
       ·rw [Nat.succ_mul,List.take_add]
        exact f2.append p2
     obtain ⟨vz,f1,f2⟩:=key n (Nat.le_refl _)
     rw [List.take_of_length_le (by omega)] at f2
     exact ⟨vz,f1,f2⟩
    ·cases e2
  ·rename_i e hu
   split at ht
   ·rename_i k he
    split at ht
    ·rename_i hc
     cases ht
     rcases DataW.trod_slice hu hx with ⟨rfl,_⟩|⟨a,len,cap,elems,rest,n,rfl,rfl,_,_,hl,hm,hlen,hi,_,_⟩
     ·exact ⟨[.vints k [] 0],.cons _ _ _ _ (.ints k [] 0 rfl (Nat.zero_le _) fun i hi=>absurd hi (Nat.not_lt_zero i)) .nil,.one _ _ _ _ rfl rfl (.vintsNil _ _ _ rfl rfl) .nil⟩
     ·obtain ⟨zs,z1,z2,z3⟩:=Qs (k:=k) (n:=len) (cs:=(List.range len).map fun i=>(w.cell? (a.add i)).getD undef) (by simp) fun i hlt=>by
       have:=hi i hlt
       rw [List.getElem?_eq_getElem (by omega),hc,Nat.mul_one] at this
       obtain ⟨cs',h1,h2⟩:=Option.bind_eq_some_iff.1 this
       obtain ⟨z,rfl,_,e2⟩:=DataW.trod_int he h2
       refine ⟨z, ?_,e2⟩
       simp [hlt,Go.ChangeShapes.cell_of_cells?_one h1]
      refine ⟨[.vints k zs len],.cons _ _ _ _ (.ints k zs len z1 (by omega) z2) .nil,.one _ _ _ _ rfl rfl (.vints k zs len a cap (by omega) (by omega) fun i hlt=> ?_) .nil⟩
      rw [z1] at hlt
      have:=hi i hlt
      rw [List.getElem?_eq_getElem (by omega),hc,Nat.mul_one] at this
      obtain ⟨cs',h1,h2⟩:=Option.bind_eq_some_iff.1 this
      obtain ⟨z,rfl,_,e2⟩:=DataW.trod_int he h2
      have h3:=z3 i hlt
      have h4:=Go.ChangeShapes.cell_of_cells?_one h1
      simp [hlt,h4] at h3
      show w.cell? (a.add i)=_
      rw [h4,h3,List.getD_eq_getElem?_getD]
    ·cases ht
   ·obtain ⟨es,h1,h2⟩:=Option.bind_eq_some_iff.1 ht
    cases h2
    rcases DataW.trod_slice hu hx with ⟨rfl,_⟩|⟨a,len,cap,elems,rest,n,rfl,rfl,_,_,hl,hm,hlen,hi,_,_⟩
    ·exact ⟨[.vrows (P.cellsOf e) 0 (fun _=>[]) 0],.cons _ _ _ _ (.rows _ _ 0 _ (Nat.zero_le _) fun i hi=>absurd hi (Nat.not_lt_zero i)) .nil,.one _ _ _ _ rfl rfl (.vrowsNil _ _ _ _ rfl rfl) .nil⟩
    ·obtain ⟨f,g,hfg⟩:=ZfN (n:=len) (p:=fun i (vz:List AV) (vs:List Value)=>Fits es vz/\Zw (tE w) vz vs/\w.cells? 0 (a.add (i*P.cellsOf e)) (P.cellsOf e)=some vs) fun i hlt=>by
      have:=hi i hlt
      rw [List.getElem?_eq_getElem (by omega)] at this
      obtain ⟨cs',k1,k2⟩:=Option.bind_eq_some_iff.1 this
      obtain ⟨vz,f1,f2⟩:=Z20 m _ _ h1 _ _ _ k2
      exact ⟨vz,cs',f1,f2,k1⟩
     refine ⟨[.vrows (P.cellsOf e) len f len],.cons _ _ _ _ (.rows _ _ len f (by omega) fun i hlt=>(hfg i hlt).1) .nil,.one _ _ _ _ rfl rfl (.vrows _ _ _ _ a cap g (Nat.le_refl _) hl (fun i hlt=>(hfg i hlt).2.1) (fun i hlt=>(World.cells?_some (hfg i hlt).2.2).2.1) fun i j c hlt hj=> ?_) .nil⟩
     obtain ⟨_,hl',hc'⟩:=World.cells?_some (hfg i hlt).2.2
     have hj':j<P.cellsOf e:=by
      rcases Nat.lt_or_ge j (P.cellsOf e) with h|h
      ·exact h
      ·rw [List.getElem?_eq_none (by omega)] at hj;cases hj
     have:=hc' j hj'
     rw [hj] at this
     show w.cell? (a.add (i*P.cellsOf e+j))=some c
     rw [<-this]
     rw [Addr.add_add]
  ·rename_i fs hu
   obtain ⟨xs,n,rfl,rfl,hl,hn,hf⟩:=DataW.trod_struct hu hx
   have key:∀(l:List Field) (o:Nat) (ts:List Ty) (i0:Nat),ZcZ P (Z1K P m) (P.cellsOf t) o l=some ts->(∀i f,l[i]? =some f->fs[i0+i]? =some f)->∃vz,Fits ts vz/\Zw (tE w) vz (cs.drop o):=by
    intro l
    induction l with
    | nil=>
     intro o ts i0 h _
     unfold ZcZ at h
     split at h
     ·rename_i ho
      cases h
      exact ⟨[],.nil,by rw [List.drop_eq_nil_of_le (by omega)];exact .nil⟩
     ·cases h
    | cons f l ih=>
     intro o ts i0 h hl'
     unfold ZcZ at h
     split at h
     ·rename_i ho
      obtain ⟨a,h1,h2⟩:=Option.bind_eq_some_iff.1 h
      obtain ⟨b,h3,h4⟩:=Option.bind_eq_some_iff.1 h2
      cases h4
      have h0:fs[i0]? =some f:=hl' 0 f rfl
      have hlt:i0<fs.size:=by
       rcases Nat.lt_or_ge i0 fs.size with h|h
       ·exact h
       ·rw [Array.getElem?_eq_none (by omega)] at h0;cases h0
      have k:=hf i0 f h0
      rw [List.getElem?_eq_getElem (by omega),ho] at k
      obtain ⟨vz,p1,p2⟩:=Z20 m _ _ h1 _ _ _ k
      obtain ⟨bs,q1,q2⟩:=ih (o+P.cellsOf f.type) b (i0+1) h3 fun i g hg=>by
       have:=hl' (i+1) g hg
       rw [<-this];congr 1;omega
      refine ⟨vz++bs,p1.append q1, ?_⟩
      have e:cs.drop o=(cs.drop o).take (P.cellsOf f.type)++cs.drop (o+P.cellsOf f.type):=by
       rw [<-List.drop_drop,List.take_append_drop]
      rw [e]
      exact p2.append q2
     ·cases h
   obtain ⟨vz,h1,h2⟩:=key fs.toList 0 ts 0 ht fun i f h=>by simpa using h
   exact ⟨vz,h1,by simpa using h2⟩
  ·cases ht
def isAgg (P:Program) (t:TypeId):Bool:=match P.underlying t with
 | some (.struct _)|some (.array _ _)=>true
 | _=>false
inductive Z3f:Bool->List Ty->AV->Prop
 | agg (ts:List Ty) (vz:List AV) (h:Fits ts vz):Z3f true ts (.agg vz)
 | one (t:Ty) (a:AV) (h:Z1s t a):Z3f false [t] a
theorem Zd0 {m:Nat} {t:TypeId} {ts:List Ty} (ht:Z1K P m t=some ts) (hg:isAgg P t=false) {v:Value} {r:Reach} {b:Nat} (hv:Value.okWide P w r b t v):
  v.cells.toList=[v]/\∃τ,ts=[τ]/\∀k n,τ≠.arr k n:=by
 cases m with
 | zero=>simp [Z1K] at ht
 | succ m=>
  unfold Z1K at ht
  unfold isAgg at hg
  split at ht
  ·rename_i hu;cases ht;obtain ⟨b,rfl⟩:=Go.WideShapes.okWide_bool hu hv;exact ⟨rfl,_,rfl,fun _ _ h=>by cases h⟩
  ·rename_i hu;cases ht;obtain ⟨b,rfl⟩:=Go.WideShapes.okWide_int hu hv;exact ⟨rfl,_,rfl,fun _ _ h=>by cases h⟩
  ·rename_i hu;cases ht;obtain ⟨b,rfl⟩:=Go.WideShapes.okWide_string hu hv;exact ⟨rfl,_,rfl,fun _ _ h=>by cases h⟩
  ·rename_i hu;simp [hu] at hg
  ·rename_i hu
   obtain ⟨a,l,c,rfl⟩:=Go.WideShapes.okWide_slice hu hv
   split at ht
   ·split at ht
    ·cases ht;exact ⟨rfl,_,rfl,fun _ _ h=>by cases h⟩
    ·cases ht
   ·obtain ⟨es,h1,h2⟩:=Option.bind_eq_some_iff.1 ht
    cases h2;exact ⟨rfl,_,rfl,fun _ _ h=>by cases h⟩
  ·rename_i hu;simp [hu] at hg
  ·cases ht
theorem Zd1 {m:Nat} {t:TypeId} {ts:List Ty} {g:Bool} (ht:Z1K P m t=some ts) (hg:isAgg P t=g) {v:Value} {r:Reach} {b:Nat} (hv:Value.okWide P w r b t v) {d:DataW H} {ps:List MemPlace} (h:DataW.Trod enc P w 0 sp held t v d ps):
  ∃a,Z3f g ts a/\Zk (tE w) a v:=by
 obtain ⟨fuel,hf⟩:=h
 obtain ⟨vz,f1,f2⟩:=Z20 m _ _ ht _ _ _ hf
 cases g with
 | true=>
  have:∃cs,v=.agg cs:=by
   unfold isAgg at hg
   unfold Value.okWide at hv
   split at hg
   ·rename_i hu;simp only [hu] at hv;obtain ⟨cs,rfl,_⟩:=hv;exact ⟨cs,rfl⟩
   ·rename_i hu;simp only [hu] at hv;obtain ⟨cs,rfl,_⟩:=hv;exact ⟨cs,rfl⟩
   ·cases hg
  obtain ⟨cs,rfl⟩:=this
  refine ⟨.agg vz,.agg _ _ f1, ?_⟩
  have:cs=(Value.cells (.agg cs)).toList.toArray:=by simp [Value.cells]
  rw [this]
  exact .agg _ _ f2
 | false=>
  obtain ⟨h1,τ,rfl,h2⟩:=Zd0 ht hg hv
  rw [h1] at f2
  cases f1 with
  | cons _ a _ vz f r=>
   cases r
   generalize hL:[v]=L at f2
   cases f2 with
   | one _ _ _ _ h0 h1 h t=>cases hL;exact ⟨_,.one _ _ f,h⟩
   | arr k n xs _ cs t=>cases f;exact absurd rfl (h2 _ _)
end
end Go.Tk
end
section
namespace Go.Tk
open IntKind (i64 u8 u32 u64 wrap)
open Go.ChangeShapes Go.WideShapes Go.RowKit
theorem ZiI (w:World):Emb (tE w) ⟨0,[]⟩ w where
 fresh:=fun _ _=>rfl
 lt:=fun x B h=>by simp [Za.get,ZO] at h
 own:=fun x B h=>by simp [Za.get,ZO] at h
 disj:=fun x y B B' b N N' h=>absurd h (by simp [Za.get,ZO])
 imm:=fun _ _ h=>h
 sep:=fun a c x B N _ h=>absurd h (by simp [Za.get,ZO])
theorem Zp.topT {P:Program} {f:FuncId} {args:List AV} (h:Zp P f args ⟨0,[]⟩ fun o h'=>∃v,o=.ret v/\h'=⟨0,[]⟩/\v=.bool true) {w:World} {rs:List Value} (hl:ZK (tE w) args rs):
  Calls P f rs.toArray w fun e w'=>e=.returned (.bool true)/\Go.RowKit.Below w.heap.size w w':=by
 refine (h (tE w) w rs (ZiI w) hl).mono ?_
 rintro e w' ⟨E',o,h',⟨v,rfl,rfl,hv⟩,hev,hor⟩
 obtain rfl:=hv
 cases hor with
 | ret v r hr=>
  cases hr
  refine ⟨rfl,hev.os,hev.tape,hev.output.1,hev.size,fun k hk=>hev.keep k hk ?_⟩
  rintro ⟨x,B,N,hx,_⟩
  exact absurd hx (by simp [Za.get,ZO])
def Z8r (P:Program) (m:Nat):List TypeId->Option (List (Bool×List Ty))
 | []=>some []
 | t::r=>(Z1K P m t).bind fun a=>(Z8r P m r).bind fun b=>some ((isAgg P t,a)::b)
inductive Z4A:List (Bool×List Ty)->List AV->Prop
 | nil:Z4A [] []
 | cons (g:Bool) (ts:List Ty) (a:AV) (r:List (Bool×List Ty)) (vz:List AV) (h:Z3f g ts a) (k:Z4A r vz):Z4A ((g,ts)::r) (a::vz)
section
variable {H:Type} {enc:TypeId×Value->H} {P:Program} {w:World}
theorem Z4B {m:Nat} {r:Reach} {b:Nat}:∀{ts:List TypeId} {τs:List (Bool×List Ty)} {vs:List Value} {ds:List (DataW H)} {ps:List MemPlace},Z8r P m ts=some τs->(∀(j:Nat) t v,ts[j]? =some t->vs[j]? =some v->Value.okWide P w r b t v)->
  DataW.TrodAll enc P w 0 (fun _=>true) true ts vs ds ps->∃vz,Z4A τs vz/\ZK (tE w) vz vs
 | [],τs,vs,ds,ps,ha,_,h=>by
  cases ha
  obtain ⟨rfl,_,_⟩:=trodAll_nil h
  exact ⟨[],.nil,.nil⟩
 | t::ts,τs,vs,ds,ps,ha,hv,h=>by
  obtain ⟨a,h1,h2⟩:=Option.bind_eq_some_iff.1 ha
  obtain ⟨c,h3,h4⟩:=Option.bind_eq_some_iff.1 h2
  cases h4
  obtain ⟨v,vs',d,ds',p,q,rfl,rfl,rfl,k1,k2⟩:=trodAll_cons h
  obtain ⟨x,f1,f2⟩:=Zd1 h1 rfl (hv 0 t v rfl rfl) k1
  obtain ⟨vz,g1,g2⟩:=Z4B h3 (fun j t' v' e1 e2=>hv (j+1) t' v' e1 e2) k2
  exact ⟨x::vz,.cons _ _ _ _ _ f1 g1,.cons _ _ _ _ f2 g2⟩
theorem Z1t {sp:Nat->Bool} {held:Bool}:∀{ts:List TypeId} {vs:List Value} {ds:List (DataW H)} {ps:List MemPlace},DataW.TrodAll enc P w 0 sp held ts vs ds ps->ds.length=ts.length
 | [],_,_,_,h=>by obtain ⟨_,rfl,_⟩:=trodAll_nil h;rfl
 | t::ts,_,_,_,h=>by
  obtain ⟨v,vs',d,ds',p,q,rfl,rfl,rfl,k1,k2⟩:=trodAll_cons h
  simp [Z1t k2]
theorem Z4C {W':World} (laid:laidOutB P=true) (hb:Below w.heap.size w W'):∀{ts:List TypeId} {vs:List Value} {ds:List (DataW H)} {ps:List MemPlace},ts.all (fun t=>P.readableRec t&&decide (t<P.types.size))=true->
  DataW.TrodAll enc P w 0 (fun _=>true) true ts vs ds ps->DataW.TrodAll enc P W' 0 (fun b=>decide (b<w.heap.size)) true ts vs ds ps
 | [],_,_,_,_,h=>by obtain ⟨rfl,rfl,rfl⟩:=trodAll_nil h;exact trodAll_mk0
 | t::ts,_,_,_,hr,h=>by
  obtain ⟨v,vs',d,ds',p,q,rfl,rfl,rfl,k1,k2⟩:=trodAll_cons h
  simp only [List.all_cons,Bool.and_eq_true,decide_eq_true_eq] at hr
  have lt:∀x∈p,x.block<w.heap.size:=by obtain ⟨m,hm⟩:=k1;exact DataW.trod_lt m _ _ _ hm
  exact trodAll_cons_mk (Below.trod laid hr.1.1 hr.1.2 k1 hb lt) (Z4C laid hb hr.2 k2)
end
theorem lifted_gen {H:Type} {enc:TypeId×Value->H} {C:Checked} {os:Os} {f:FuncId} {fn:Func} {s:ChangeSpec} {conds:List PathCond} {tb:TypeId} {m:Nat} {τs:List (Bool×List Ty)}
  (own:ownKnob C.prog.godebug=none) (laid:laidOutB C.prog=true) (started:os.Started) (noInit:C.prog.inits.idxOf? f=none) (hfn:C.prog.funcs[f]? =some fn)
  (witness:∃(w:World) (tape:Tape) (i:Input),w.os=os/\(w.forCall tape i).Shaped C.prog/\i.vars=[]/\Input.okWide C.prog (w.forCall tape i) .any w.heap.size f i/\
   s.pre6 enc C.prog fn conds false (w.forCall tape i).memory i.args/\({}:Assume).holds C.prog (lone (Frame.enter C.prog f i.args .normal) [] (w.forCall tape i)))
  (hvars:s.vars=[]) (hr:fn.resultTypes= #[tb]) (hb:C.prog.underlying tb=some .bool) (hread:fn.params.toList.all (fun t=>C.prog.readableRec t&&decide (t<C.prog.types.size))=true) (hτ:Z8r C.prog m fn.params.toList=some τs)
  (hs:∀ds:List (DataW H),ds.length=fn.params.toList.length->s.fn H ds={ results:=[.lit (.bool true)],args:=ds})
  (walk:∀vz,Z4A τs vz->Zp C.prog f vz ⟨0,[]⟩ fun o h'=>∃v,o=.ret v/\h'=⟨0,[]⟩/\v=.bool true):
  ReturnsInHanded {} C os f .any (s.pre6 enc C.prog fn conds false) (s.post enc C.prog fn false true false false):=by
 refine returnsInHanded_of_change own started noInit hfn witness ?_
 intro W base args ds gs before hval hW _ _
 have hW':=hW
 obtain ⟨p,q,hA,hV,rfl,hfz,hnd⟩:=hW
 have hV0:=hV
 rw [hvars] at hV
 obtain ⟨rfl,rfl⟩:=trodVars_none hV
 obtain ⟨vz,f1,f2⟩:=Z4B hτ (fun j t v e1 e2=>hval j t v (by simpa using e1) (by simpa using e2)) hA
 have e0:args=args.toList.toArray:=by simp
 have key:=(walk vz f1).topT f2
 rw [<-e0] at key
 refine key.mono fun e W' ⟨he,bel⟩=> ?_
 subst he
 have hfn':=hs ds (Z1t hA)
 refine ⟨_,rfl,ds,[],_,[],p,[],hW', ?_, ?_, ?_,bel.frame _,fun h=>by cases h⟩
 ·rw [List.append_nil,hfn',hr]
  exact trodAll_mk1 (shut_bool hb _)
 ·rw [List.append_nil,hfn']
  exact Z4C laid bel hread hA
 ·rw [List.append_nil,hfn',hvars]
  rfl
end Go.Tk
end
section
namespace Go.Tk
open IntKind (i64 u8 u32 u64 wrap)
def Z5A (P:Program) (f:FuncId) (id:Nat):Bool:=match P.funcs[f]? with
 | some fn=>match fn.body with
  | some b=>match VX id (ZA b) with|[_]=>true|_=>false
  | none=>false
 | none=>false
theorem Zb7 {P:Program} {f:FuncId} {id:Nat} (h:Z5A P f id=true) {fn:Func} {body c:Code} (hf:P.funcs[f]? =some fn) (hb:fn.body=some body) (hm:(id,c)∈ZA body):c=Va P f id:=by
 have hc:=V9 hm
 simp only [Z5A,hf,hb] at h
 split at h
 ·rename_i d hd
  have hbo:QO P f=body:=by simp [QO,hf,hb]
  have hbl:Va P f id=d:=by unfold Va;rw [hbo,hd]
  rw [hd] at hc
  rw [List.mem_singleton] at hc
  rw [hbl];exact hc
 ·cases h
@[irreducible] def Z6G (G:Zg) (n:Nat) (f:FuncId) (id:Nat) (k:Nat) (s:St) (X:KE):Prop:=evC G (Z3W G n f none) k (Va G.P f id) s X
end Go.Tk
end
section
namespace Go.Tk
open IntKind (i64 u8 u32 u64 wrap)
def Uz:Nat->List Int->Nat->Int->Int
 | 0,_,_,n=>n
 | m+1,xs,k,n=>Uz m xs (k+1) (256*n+xs.getD k 0)
structure Bytes (xs:List Int):Prop where
 h:∀i:Nat,0<=xs.getD i 0/\xs.getD i 0<=255
theorem Bytes.drop {xs:List Int} (h:Bytes xs) (n:Nat):Bytes (xs.drop n):=⟨fun i=>by
 have:=h.h (n+i)
 rw [List.getD_eq_getElem?_getD] at this
 rw [List.getD_eq_getElem?_getD,List.getElem?_drop]
 exact this⟩
def inZ:InS:=⟨Zf,0,0,Zf,Zf,Zf⟩
def Zm7:Z0l:=⟨0,0,Zf,Zf,Zf,Zf,0,0⟩
end Go.Tk
end
section
namespace Go.Tk
open IntKind (i64 u8 u32 u64 wrap)
theorem Zd2 {n c:Int} (h0:0<=n) (h1:n<36028797018963968) (h2:0<=c) (h3:c<=255):Z1r n c=256*n+c:=by
 unfold Z1r bOr ZJ
 have e1:(n*2^(min (8:Int).toNat i64.bits))=n*256:=by simp [IntKind.bits]
 rw [e1,w64 (x:=n*256) (by omega)]
 obtain ⟨a,rfl⟩:=Int.eq_ofNat_of_zero_le h0
 obtain ⟨b,rfl⟩:=Int.eq_ofNat_of_zero_le h2
 have e2:((BitVec.ofInt i64.bits ((a:Int)*256))|||(BitVec.ofInt i64.bits (b:Int))).toNat=256*a+b:=by
  have ea:BitVec.ofInt 64 ((a:Int)*256)=BitVec.ofNat 64 (a*256):=by
   rw [<-BitVec.ofInt_natCast];rfl
  have eb:BitVec.ofInt 64 (b:Int)=BitVec.ofNat 64 b:=BitVec.ofInt_natCast 64 b
  show (BitVec.ofInt 64 ((a:Int)*256)|||BitVec.ofInt 64 (b:Int)).toNat=_
  rw [ea,eb,BitVec.toNat_or,BitVec.toNat_ofNat,BitVec.toNat_ofNat,Nat.mod_eq_of_lt (by omega),Nat.mod_eq_of_lt (by omega)]
  have:=Nat.shiftLeft_add_eq_or_of_lt (a:=a) (b:=b) (i:=8) (by omega)
  rw [Nat.shiftLeft_eq] at this
  rw [<-this];omega
 rw [e2,w64 (by omega)]
 omega
theorem Z8s {c:Int} (h2:0<=c) (h3:c<=255):Z1r 36028797018963968 c<0:=by
 have h:∀b:Fin 256,Z1r 36028797018963968 (b.val:Int)<0:=by decide+kernel
 have:=h ⟨c.toNat,by omega⟩
 have e:((c.toNat:Nat):Int)=c:=Int.toNat_of_nonneg h2
 rw [show ((⟨c.toNat,by omega⟩:Fin 256).val:Int)=c from e] at this
 exact this
theorem Z9w:∀(m:Nat) (xs:List Int) (k:Nat) (n:Int),Bytes xs->0<=n->n*256^m<=Uz m xs k n
 | 0,xs,k,n,hb,hn=>by simp [Uz]
 | m+1,xs,k,n,hb,hn=>by
  have hc:=hb.h k
  have:=Z9w m xs (k+1) (256*n+xs.getD k 0) hb (by omega)
  unfold Uz
  refine Int.le_trans ?_ this
  rw [Int.pow_succ,Int.mul_comm (256^m) 256,<-Int.mul_assoc]
  exact Int.mul_le_mul_of_nonneg_right (by omega) (Int.le_of_lt (Int.pow_pos (by decide)))
theorem Zd3 {a b:Nat} (h:a<=b):(256:Int)^a<=256^b:=by
 have h1:=Nat.pow_le_pow_right (n:=256) (by decide) h
 have h2:((256^a:Nat):Int)<=((256^b:Nat):Int):=Int.ofNat_le.2 h1
 rw [Int.natCast_pow,Int.natCast_pow] at h2
 exact h2
theorem Zkh (m:Nat):(1:Int)<=256^m:=Int.pow_pos (by decide)
theorem Z9x:∀(m:Nat) (xs:List Int) (k:Nat) (n:Int),Bytes xs->0<=n->m<=8->n<256^(8-m)->
  (goN m xs k n=none/\Uz m xs k n>4611686018427387904)\/(∃v,goN m xs k n=some v/\((v=Uz m xs k n/\0<=v)\/(v<0/\Uz m xs k n>4611686018427387904)))
 | 0,xs,k,n,hb,hn,hm,hl=>.inr ⟨n,rfl,.inl ⟨rfl,hn⟩⟩
 | m+1,xs,k,n,hb,hn,hm,hl=>by
  have hc:=hb.h k
  have hge:=Z9w (m+1) xs k n hb hn
  by_cases h1:n>36028797018963968
  ·left
   refine ⟨by unfold goN;rw [if_pos h1], ?_⟩
   have:=Zkh m
   rw [Int.pow_succ] at hge
   have h2:n*(1*256)<=n*(256^m*256):=Int.mul_le_mul_of_nonneg_left (Int.mul_le_mul_of_nonneg_right this (by decide)) hn
   omega
  ·unfold goN Uz
   rw [if_neg h1]
   have hw:i64.wrap (xs.getD k 0)=xs.getD k 0:=w64 (by omega)
   rw [hw]
   by_cases h2:n=36028797018963968
   ·subst h2
    have hm0:m=0:=by
     have hq:(36028797018963968:Int)=256^6*128:=by decide
     rcases Nat.eq_zero_or_pos m with h|h
     ·exact h
     ·exfalso
      have hle:(256:Int)^(8-(m+1))<=256^6:=Zd3 (by omega)
      have:(256:Int)^6=281474976710656:=by decide
      omega
    subst hm0
    right
    refine ⟨_,rfl,.inr ⟨Z8s hc.1 hc.2, ?_⟩⟩
    show 256*36028797018963968+xs.getD k 0>_
    omega
   ·rw [Zd2 hn (by omega) hc.1 hc.2]
    refine Z9x m xs (k+1) _ hb (by omega) (by omega) ?_
    have e:8-m=(8-(m+1))+1:=by omega
    rw [e,Int.pow_succ]
    omega
theorem WF {xs:List Int} (hb:Bytes xs) {m:Nat} (h:xs.length≠0) (hm:Xn (xs.getD 0 0)=m) (hm0:m≠0) (h8:m<=8) (hl:m<xs.length):
  Zq Zr xs=if Uz m xs 1 0>4611686018427387904 then ((0:Int),(-1:Int)) else if (Zr (Uz m xs 1 0)).length=1+m then (Uz m xs 1 0,1+(m:Int)) else ((0:Int),(-1:Int)):=by
 rw [VH h hm hm0 hl]
 have hv:∀(m k:Nat) (n:Int),Uz m (xs.drop 1) k n=Uz m xs (k+1) n:=by
  intro m
  induction m with
  | zero=>intro k n;rfl
  | succ m ih=>
   intro k n
   unfold Uz
   rw [ih]
   congr 2
   rw [List.getD_eq_getElem?_getD,List.getD_eq_getElem?_getD,List.getElem?_drop,Nat.add_comm]
 have hv:=hv m 0 0
 rcases Z9x m (xs.drop 1) 0 0 (hb.drop 1) (by decide) h8 (Zkh _) with ⟨h1,h2⟩|⟨v,h1,h2⟩
 ·rw [h1,if_pos (by rw [<-hv];exact h2)]
 ·rw [h1]
  rcases h2 with ⟨rfl,h0⟩|⟨h0,h2⟩
  ·rw [hv]
  ·show (if v>4611686018427387904 then ((0:Int),(-1:Int)) else if (Zr v).length=1+m then (v,1+(m:Int)) else (0, -1))=_
   rw [if_neg (by omega),if_neg,if_pos (by rw [<-hv];exact h2)]
   rw [Z1q (by omega)]
   simp
   omega
end Go.Tk
end
section
namespace Go.Tk
open IntKind (i64 u8 u32 u64 wrap)
end Go.Tk
end
section
namespace Go.Tk
open IntKind (i64 u8 u32 u64 wrap)
end Go.Tk
end
section
namespace Go.Tk
open IntKind (i64 u8 u32 u64 wrap)
structure TxB (t:TxS):Prop where
 h:∀i,i<t.M->Bytes (t.outs i).owner/\Bytes (t.outs i).other
end Go.Tk
end
section
namespace Go.Tk
open IntKind (i64 u8 u32 u64 wrap)
end Go.Tk
end
section
namespace Go.Tk
open IntKind (i64 u8 u32 u64 wrap)
theorem UA (xs:List Int):List.take xs.length (YH 0 xs)=xs:=by rw [Yw,List.drop_zero,List.take_length]
end Go.Tk
end
section
namespace Go.Tk
open IntKind (i64 u8 u32 u64 wrap)
theorem Z6H {n:Nat} {xs:List Int} (h:xs.length=n) (hw:∀i,i<n->(Lit.int .u8 (xs.getD i 0)).wf=true):Bytes xs:=⟨fun i=>by
 by_cases hi:i<n
 ·have:=hw i hi
  simp [Lit.wf] at this
  have m1:u8.min=0:=rfl
  have m2:u8.max=255:=rfl
  simp
  omega
 ·rw [List.getD_eq_getElem?_getD,List.getElem?_eq_none (by omega)];simp⟩
structure InS.By (x:InS):Prop where
 name:Bytes x.name
 tag:Bytes x.tag
 also:Bytes x.also
 secret:Bytes x.secret
structure Z0l.By (x:Z0l):Prop where
 owner:Bytes x.owner
 other:Bytes x.other
 point:Bytes x.point
 hash:Bytes x.hash
structure ZhE (t:TxS):Prop where
 ins:∀i,i<t.N->(t.ins i).By
 outs:∀i,i<t.M->(t.outs i).By
theorem ZhE.b {t:TxS} (h:ZhE t):TxB t:=⟨fun i hi=>⟨(h.outs i hi).owner,(h.outs i hi).other⟩⟩
theorem pick {α:Type} [Inhabited α] {n:Nat} {p:Nat->α->Prop} (h:∀i,i<n->∃a,p i a):∃f:Nat->α,∀i,i<n->p i (f i):=
 ⟨fun i=>if hi:i<n then Classical.choose (h i hi) else default,fun i hi=>by
  simp only [hi,dite_true]
  exact Classical.choose_spec (h i hi)⟩
instance:Inhabited InS:=⟨inZ⟩
instance:Inhabited Z0l:=⟨Zm7⟩
theorem Zp.conv {P:Program} {f:FuncId} {us bs:List AV} {h:Za} {K:KO} (hc:Zp P f bs h K) (hr:∀E rs,ZK E us rs->ZK E bs rs):Zp P f us h K:=
 fun E w rs he hl=>hc E w rs he (hr E rs hl)
theorem Bytes.nil:Bytes []:=⟨fun i=>by simp⟩
theorem Bytes.cons {x:Int} {xs:List Int} (hx:0<=x/\x<=255) (h:Bytes xs):Bytes (x::xs):=⟨fun i=>by
 cases i with
 | zero=>simpa using hx
 | succ i=>have:=h.h i;simpa using this⟩
theorem ZfO (x:Int):0<=u8.wrap x/\u8.wrap x<=255:=by
 unfold wrap
 simp [IntKind.bits,IntKind.signed]
 omega
end Go.Tk
end
section
namespace Go.Tk
open IntKind (i64 u8 u32 u64 wrap)
end Go.Tk
end
section
namespace Go.Tk
open IntKind (i64 u8 u32 u64 wrap)
def Vc (a b c:Int):Nat->Int
 | 0=>0
 | i+1=>if 2<=u32.wrap (u32.wrap (Int.tmod (Zz .u32 a i) 2+Int.tmod (Zz .u32 b i) 2)+Int.tmod (Zz .u32 c i) 2) then u32.wrap (Vc a b c i+ZJ .u32 1 i) else Vc a b c i
def VI (a b c:Int):Nat->Int
 | 0=>0
 | i+1=>u32.wrap (VI a b c i+ZJ .u32 (if Int.tmod (Zz .u32 a i) 2=1 then Int.tmod (Zz .u32 b i) 2 else Int.tmod (Zz .u32 c i) 2) i)
def moS (a b c:Int) (o:Int) (i:Nat):St:=⟨33,[(8,.int .u64 i),(0,.int .u32 a),(1,.int .u32 b),(2,.int .u32 c),(7,.int .u32 o)],⟨0,[]⟩,[]⟩
def moR (o:Int):St:=⟨33,[(7,.int .u32 o)],⟨0,[]⟩,[]⟩
theorem ZhF {x:Int} (h:0<=x/\x<18446744073709551616):u64.wrap x=x:=by
 unfold wrap
 simp [IntKind.bits,IntKind.signed]
 omega
theorem ZiJ (a b c o o':Int) (i:Nat) (Z1 Z2:Prop) (hi:i<=32) (ho:o'=if 2<=u32.wrap (u32.wrap (Int.tmod (Zz .u32 a i) 2+Int.tmod (Zz .u32 b i) 2)+Int.tmod (Zz .u32 c i) 2) then u32.wrap (o+ZJ .u32 1 i) else o) (h1:i<32->Z1) (h2:i=32->Z2):
  ZG G0 20 170 0 0 (moS a b c o i) (rdM 0 0 9 (moS a b c o' (i+1)) (moR o) (moR o) (moR o) Z1 Z2 False False):=by
 refine @Eq.mpr _ (let q1:=decide (wrap u64 ((↑i:Int)+1)=(↑(i+1):Int));let q2:=decide (a=a);let q3:=decide (b=b);let q4:=decide (c=c);
 Z0 (decide ((↑i:Int)<32)) (Z0 (decide (wrap u32 (wrap u32 (Int.tmod (Zz u32 a (↑i:Int)) 2+Int.tmod (Zz u32 b (↑i:Int)) 2)+Int.tmod (Zz u32 c (↑i:Int)) 2)>=2)) (Z0 q1 (Z0 q2 (Z0 q3 (Z0 q4 (Z0 (decide (wrap u32 (o+ZJ u32 1 (↑i:Int))=o')) Z1 False) False) False) False) False) (Z0 q1 (Z0 q2 (Z0 q3 (Z0 q4 (Z0 (decide (o=o')) Z1 False) False) False) False) False)) (Z0 (decide (o=o)) Z2 False)) (by kernel_rfl) ?_
 conv=>zeta
 try simp only [Zj]
 try simp only [Zl]
 try simp only [Zi]
 try simp only [Zm]
 try simp only [Zn]
 try simp only [Zh]
 try simp only [Int.toNat_natCast,Nat.zero_add,true_and,and_true,Nat.le_refl]
 have hw:u64.wrap ((i:Int)+1)=((i+1:Nat):Int):=ZhF (by omega)
 refine ⟨fun hlt=>⟨fun hc=> ?_,fun hc=> ?_⟩,fun hge=>h2 (by omega)⟩
 ·rw [if_pos hc] at ho
  exact ⟨hw,ho.symm,h1 (by omega)⟩
 ·rw [if_neg hc] at ho
  exact ⟨hw,ho.symm,h1 (by omega)⟩
theorem ZiK (a b c o o':Int) (i:Nat) (Z1 Z2:Prop) (hi:i<=32) (ho:o'=u32.wrap (o+ZJ .u32 (if Int.tmod (Zz .u32 a i) 2=1 then Int.tmod (Zz .u32 b i) 2 else Int.tmod (Zz .u32 c i) 2) i)) (h1:i<32->Z1) (h2:i=32->Z2):
  ZG G0 20 169 0 0 (moS a b c o i) (rdM 0 0 9 (moS a b c o' (i+1)) (moR o) (moR o) (moR o) Z1 Z2 False False):=by
 refine @Eq.mpr _ (let q1:=decide (wrap u64 ((↑i:Int)+1)=(↑(i+1):Int));let q2:=decide (a=a);let q3:=decide (b=b);let q4:=decide (c=c);
 Z0 (decide ((↑i:Int)<32)) (Z0 (Int.tmod (Zz u32 a (↑i:Int)) 2==1) (Z0 q1 (Z0 q2 (Z0 q3 (Z0 q4 (Z0 (decide (wrap u32 (o+ZJ u32 (Int.tmod (Zz u32 b (↑i:Int)) 2) (↑i:Int))=o')) Z1 False) False) False) False) False) (Z0 q1 (Z0 q2 (Z0 q3 (Z0 q4 (Z0 (decide (wrap u32 (o+ZJ u32 (Int.tmod (Zz u32 c (↑i:Int)) 2) (↑i:Int))=o')) Z1 False) False) False) False) False)) (Z0 (decide (o=o)) Z2 False)) (by kernel_rfl) ?_
 conv=>zeta
 try simp only [Zj]
 try simp only [Zl]
 try simp only [Zi]
 try simp only [Zm]
 try simp only [Zn]
 try simp only [Zh]
 try simp only [Int.toNat_natCast,Nat.zero_add,true_and,and_true,Nat.le_refl]
 have hw:u64.wrap ((i:Int)+1)=((i+1:Nat):Int):=ZhF (by omega)
 refine ⟨fun hlt=>⟨fun hc=> ?_,fun hc=> ?_⟩,fun hge=>h2 (by omega)⟩
 ·rw [if_pos (by simpa using hc)] at ho
  exact ⟨hw,ho.symm,h1 (by omega)⟩
 ·rw [if_neg (by simpa using hc)] at ho
  exact ⟨hw,ho.symm,h1 (by omega)⟩
@[irreducible] def XL (a b c:Int):Int:=Vc a b c 32
@[irreducible] def XC (a b c:Int):Int:=VI a b c 32
noncomputable def ZiL (a b c:Int):Zg:=G0.withL 170 0 (goM 0 (moS a b c 0 0) True (YJ 0 32 9 (fun i=>i<32) (fun i=>i=32) (fun _=>False) (fun _=>False) (fun i=>moR (Vc a b c i)) (fun i=>moR (Vc a b c i)) (fun i=>moR (Vc a b c i))))
theorem ZfP (a b c:Int):(ZiL a b c).Ok:=by
 unfold ZiL
 refine Zg.withGoM (N:=20) (S:=fun i=>moS a b c (Vc a b c i) i) Zv (by kernel_rfl) fun hC=>⟨rfl,fun i hi hgo=> ?_⟩
 exact ZiJ a b c (Vc a b c i) (Vc a b c (i+1)) i _ _ hi rfl (fun h=>⟨h,h⟩) (fun h=>h)
noncomputable def ZiM (a b c:Int):Zg:=G0.withL 169 0 (goM 0 (moS a b c 0 0) True (YJ 0 32 9 (fun i=>i<32) (fun i=>i=32) (fun _=>False) (fun _=>False) (fun i=>moR (VI a b c i)) (fun i=>moR (VI a b c i)) (fun i=>moR (VI a b c i))))
theorem ZfQ (a b c:Int):(ZiM a b c).Ok:=by
 unfold ZiM
 refine Zg.withGoM (N:=20) (S:=fun i=>moS a b c (VI a b c i) i) Zv (by kernel_rfl) fun hC=>⟨rfl,fun i hi hgo=> ?_⟩
 exact ZiK a b c (VI a b c i) (VI a b c (i+1)) i _ _ hi rfl (fun h=>⟨h,h⟩) (fun h=>h)
theorem ZiN (a b c:Int) (o:Int) (ho:o=Vc a b c 32):
  evF (ZiL a b c) 20 170 [.int .u32 a,.int .u32 b,.int .u32 c] ⟨0,[]⟩ (XN 0 [] (.int .u32 o) 0 []):=by
 refine @Eq.mpr _ (Z0 (decide (a=a)) (Z0 (decide (b=b)) (Z0 (decide (c=c)) (True/\∀(i:Nat),i<=32->(∀(j:Nat),j<i->(fun (i:Nat)=>i<32) j)->(i=32->Z0 (decide (Vc a b c i=o)) True False)/\(False->False)/\(False->False)) False) False) False) (by kernel_rfl) ?_
 try simp only [Zj]
 try simp only [Zl]
 try simp only [Zi]
 try simp only [Zm]
 try simp only [Zn]
 try simp only [Zh]
 try simp only [Int.toNat_natCast,Nat.zero_add,true_and,and_true,Nat.le_refl]
 subst ho
 exact fun i hi _=>⟨fun he=>by subst he;rfl,fun h=>h,fun h=>h⟩
theorem ZiO (a b c:Int) (o:Int) (ho:o=VI a b c 32):
  evF (ZiM a b c) 20 169 [.int .u32 a,.int .u32 b,.int .u32 c] ⟨0,[]⟩ (XN 0 [] (.int .u32 o) 0 []):=by
 refine @Eq.mpr _ (Z0 (decide (a=a)) (Z0 (decide (b=b)) (Z0 (decide (c=c)) (True/\∀(i:Nat),i<=32->(∀(j:Nat),j<i->(fun (i:Nat)=>i<32) j)->(i=32->Z0 (decide (VI a b c i=o)) True False)/\(False->False)/\(False->False)) False) False) False) (by kernel_rfl) ?_
 try simp only [Zj]
 try simp only [Zl]
 try simp only [Zi]
 try simp only [Zm]
 try simp only [Zn]
 try simp only [Zh]
 try simp only [Int.toNat_natCast,Nat.zero_add,true_and,and_true,Nat.le_refl]
 subst ho
 exact fun i hi _=>⟨fun he=>by subst he;rfl,fun h=>h,fun h=>h⟩
def Z21 (F:Int->Int->Int->Int):ZR:=fun args _ K=>match args with
 | [.int .u32 a,.int .u32 b,.int .u32 c]=>K (.int .u32 (F a b c))
 | _=>False
theorem Z3g {f:FuncId} {F:Int->Int->Int->Int} (hp:∀a b c,ZC PP f [.int .u32 a,.int .u32 b,.int .u32 c] (.int .u32 (F a b c)) 0 []) (args:List AV) (h:Za) (K:AV->Prop) (hl:Z21 F args h K):Zp PP f args h fun o h'=>∃v,o=.ret v/\h'=h/\K v:=by
 unfold Z21 at hl
 split at hl
 ·rename_i a b c
  refine Z0h (d:=20) (K0:=fun l=>l=[.int .u32 a,.int .u32 b,.int .u32 c]) ?_ fun l e=>⟨_,by rw [e];exact hp a b c,fun _=>rfl,hl⟩
  rfl
 ·exact hl.elim
end Go.Tk
end
section
namespace Go.Tk
open IntKind (i64 u8 u32 u64 wrap)
def sg3 (a b c:Int) (w:Int):Int:=X6 .u32 (X6 .u32 (Z8d w (32-a)) (Z8d w (32-b))) (Z8d w (32-c))
def rg3 (a b n:Int) (w:Int):Int:=X6 .u32 (X6 .u32 (Z8d w (32-a)) (Z8d w (32-b))) (Zz .u32 w n)
def Z8t (bl:List Int) (t:Nat):Int:=u32.wrap (u32.wrap (u32.wrap (ZJ .u32 (u32.wrap (bl.getD (4*t) 0)) 24+ZJ .u32 (u32.wrap (bl.getD (4*t+1) 0)) 16)+ZJ .u32 (u32.wrap (bl.getD (4*t+2) 0)) 8)+u32.wrap (bl.getD (4*t+3) 0))
def Zd4 (m:List Int) (t:Nat):Int:=u32.wrap (u32.wrap (u32.wrap (rg3 17 19 10 (m.getD (t-2) 0)+m.getD (t-7) 0)+rg3 7 18 3 (m.getD (t-15) 0))+m.getD (t-16) 0)
def Wl (bl:List Int):Nat->List Int
 | 0=>List.replicate 64 0
 | t+1=>(Wl bl t).set t (if t<16 then Z8t bl t else Zd4 (Wl bl t) t)
theorem Z3h (bl:List Int):∀t,(Wl bl t).length=64
 | 0=>rfl
 | t+1=>by simp [Wl,Z3h bl t]
def prS (st bl m:List Int) (i:Nat):St:=⟨146,[(6,.int .i64 i),(3,pt 1),(5,pt 3),(2,pt 0),(4,pt 2)],⟨4,[(3,.flat [.arr .u32 64 m]),(2,.flat [.arr .u32 8 [0,0,0,0,0,0,0,0]]),(1,.flat [.arr .u8 64 bl]),(0,.flat [.arr .u32 8 st])]⟩,[]⟩
theorem Zm8 (st bl m m':List Int) (i:Nat) (Z1 Z2:Prop) (hi:i<=64) (hm:m.length=64) (hm':m'=m.set i (if i<16 then Z8t bl i else Zd4 m i)) (h1:i<64->Z1) (h2:i=64->Z2):
  ZG G0 20 131 0 0 (prS st bl m i) (rdM 0 0 9 (prS st bl m' (i+1)) (prS st bl m i) (prS st bl m i) (prS st bl m i) Z1 Z2 False False):=by
 refine @Eq.mpr _ (let q1:=wrap i64 (4*(↑i:Int));let q2:=0+Int.toNat q1;let q3:=wrap i64 (q1+1);let q4:=0+Int.toNat q3;let q5:=wrap i64 (q1+2);let q6:=0+Int.toNat q5;let q7:=wrap i64 (q1+3);let q8:=0+Int.toNat q7;let q9:=decide (0<=(↑i:Int)/\(↑i:Int)<64);let q10:=0+Int.toNat (↑i:Int);let q11:=decide (u32=u32/\q10<64/\q10<List.length m);let q12:=decide (wrap i64 ((↑i:Int)+1)=(↑(i+1):Int));let q13:=[(0:Int),0,0,0,0,0,0,0];let q14:=q13=q13;let q15:=q14/\bl=bl/\st=st/\Z1;let q16:=wrap i64 ((↑i:Int)-2);let q17:=0+Int.toNat q16;let q18:=wrap i64 ((↑i:Int)-7);let q19:=0+Int.toNat q18;let q20:=decide (q19<64);let q21:=wrap i64 ((↑i:Int)-15);let q22:=0+Int.toNat q21;let q23:=decide (q22<64);let q24:=wrap i64 ((↑i:Int)-16);let q25:=0+Int.toNat q24;let q26:=decide (q25<64);let q27:=List.getD m q25 0;let q28:=decide (q27=q27);let q29:=List.getD m q22 0;let q30:=List.getD m q19 0;let q31:=decide (q30=q30);let q32:=List.getD m q17 0;
 Z0 (decide ((↑i:Int)<64))
 (Z0 (decide ((↑i:Int)<16)) (Z0 (decide (0<=q1/\q1<64)) (Z0 (decide (q2<64)) (Z0 (decide (0<=q3/\q3<64)) (Z0 (decide (q4<64)) (Z0 (decide (0<=q5/\q5<64)) (Z0 (decide (q6<64)) (Z0 (decide (0<=q7/\q7<64)) (Z0 (decide (q8<64)) (Z0 q9 (Z0 q11 (Z0 q12 (List.set m q10 (wrap u32 (wrap u32 (wrap u32 (ZJ u32 (wrap u32 (List.getD bl q2 0)) 24+ZJ u32 (wrap u32 (List.getD bl q4 0)) 16)+ZJ u32 (wrap u32 (List.getD bl q6 0)) 8)+wrap u32 (List.getD bl q8 0)))=m'/\q15) False) False) False) False) False) False) False) False) False) False) False)
 (Z0 (decide (0<=q16/\q16<64))
 (Z0 (decide (q17<64)) (Z0 (decide (0<=q18/\q18<64)) (Z0 q20 (Z0 (decide (0<=q21/\q21<64)) (Z0 q23 (Z0 (decide (0<=q24/\q24<64)) (Z0 q26 (Z0 q26 (Z0 q28 (Z0 q23 (Z0 (decide (q29=q29)) (Z0 q20 (Z0 q31 (Z0 q26 (Z0 q28 (Z0 q20 (Z0 q31 (Z0 q9 (Z0 q11 (Z0 q12 (List.set m q10 (wrap u32 (wrap u32 (wrap u32 (X6 u32 (X6 u32 (bOr u32 (ZJ u32 q32 15) (Zz u32 q32 17)) (bOr u32 (ZJ u32 q32 13) (Zz u32 q32 19))) (Zz u32 q32 10)+q30)+X6 u32 (X6 u32 (bOr u32 (ZJ u32 q29 25) (Zz u32 q29 7)) (bOr u32 (ZJ u32 q29 14) (Zz u32 q29 18))) (Zz u32 q29 3))+q27))=m'/\q15) False) False) False) False) False) False) False) False) False) False) False) False) False) False) False) False) False) False) False) False) False))
 (Z0 (decide ((↑i:Int)=(↑i:Int))) (m=m/\q14/\bl=bl/\st=st/\Z2) False)) (by kernel_rfl) ?_
 conv=>zeta
 try simp only [Zj]
 try simp only [Zl]
 try simp only [Zi]
 try simp only [Zm]
 try simp only [Zn]
 try simp only [Zh]
 try simp only [Int.toNat_natCast,Nat.zero_add,true_and,and_true,Nat.le_refl]
 have hw:i64.wrap ((i:Int)+1)=((i+1:Nat):Int):=w64 (by omega)
 refine ⟨fun hlt=>⟨fun h16=> ?_,fun h16=> ?_⟩,fun hge=>h2 (by omega)⟩
 ·have e0:i64.wrap (4*(i:Int))=((4*i:Nat):Int):=by rw [w64 (by omega)];omega
  have e1:i64.wrap (((4*i:Nat):Int)+1)=((4*i+1:Nat):Int):=by rw [w64 (by omega)];omega
  have e2:i64.wrap (((4*i:Nat):Int)+2)=((4*i+2:Nat):Int):=by rw [w64 (by omega)];omega
  have e3:i64.wrap (((4*i:Nat):Int)+3)=((4*i+3:Nat):Int):=by rw [w64 (by omega)];omega
  rw [if_pos (by omega)] at hm'
  simp only [e0,e1,e2,e3,hw,Int.toNat_natCast]
  repeat' (first|(refine And.intro ?_ ?_)|intro _)
  all_goals first|omega|exact hm'.symm|exact h1 (by omega)|trivial
 ·have e0:i64.wrap ((i:Int)-2)=((i-2:Nat):Int):=by rw [w64 (by omega)];omega
  have e1:i64.wrap ((i:Int)-7)=((i-7:Nat):Int):=by rw [w64 (by omega)];omega
  have e2:i64.wrap ((i:Int)-15)=((i-15:Nat):Int):=by rw [w64 (by omega)];omega
  have e3:i64.wrap ((i:Int)-16)=((i-16:Nat):Int):=by rw [w64 (by omega)];omega
  rw [if_neg (by omega)] at hm'
  simp only [e0,e1,e2,e3,hw,Int.toNat_natCast]
  repeat' (first|(refine And.intro ?_ ?_)|intro _)
  all_goals first|omega|exact hm'.symm|exact h1 (by omega)|trivial
noncomputable def ZiP (st bl:List Int):Zg:=G0.withL 131 0 (goM 0 (prS st bl (List.replicate 64 0) 0) True (YJ 0 64 9 (fun i=>i<64) (fun i=>i=64) (fun _=>False) (fun _=>False) (fun i=>prS st bl (Wl bl i) i) (fun i=>prS st bl (Wl bl i) i) (fun i=>prS st bl (Wl bl i) i)))
theorem ZfR (st bl:List Int):(ZiP st bl).Ok:=by
 unfold ZiP
 refine Zg.withGoM (N:=20) (S:=fun i=>prS st bl (Wl bl i) i) Zv (by kernel_rfl) fun hC=>⟨rfl,fun i hi hgo=> ?_⟩
 exact Zm8 st bl (Wl bl i) (Wl bl (i+1)) i _ _ hi (Z3h bl i) rfl (fun h=>⟨h,h⟩) (fun h=>h)
noncomputable def E54 (M P:Int->Int->Int->Int):Zg:=(G0.withP 170 (Z21 M)).withP 169 (Z21 P)
theorem ZiQ:(E54 XL XC).Ok:=Zg.withP_ok (Zg.withP_ok Zv (Z3g fun a b c=>by unfold XL;exact .ev (ZfP a b c) (ZiN a b c _ rfl))) (Z3g fun a b c=>by unfold XC;exact .ev (ZfQ a b c) (ZiO a b c _ rfl))
def Z1u (M P:Int->Int->Int->Int) (k m:Int) (x:List Int):List Int:=
 let one:=u32.wrap (u32.wrap (u32.wrap (u32.wrap (x.getD 7 0+sg3 6 11 25 (x.getD 4 0))+P (x.getD 4 0) (x.getD 5 0) (x.getD 6 0))+k)+m)
 [u32.wrap (one+u32.wrap (sg3 2 13 22 (x.getD 0 0)+M (x.getD 0 0) (x.getD 1 0) (x.getD 2 0))),x.getD 0 0,x.getD 1 0,x.getD 2 0,u32.wrap (x.getD 3 0+one),x.getD 4 0,x.getD 5 0,x.getD 6 0]
def UB (M P:Int->Int->Int->Int) (m st:List Int):Nat->List Int
 | 0=>st
 | t+1=>Z1u M P (Vk.getD t 0) (m.getD t 0) (UB M P m st t)
theorem Zb8 (M P:Int->Int->Int->Int) (m st:List Int) (t:Nat):UB M P m st (t+1)=Z1u M P (Vk.getD t 0) (m.getD t 0) (UB M P m st t):=rfl
theorem Zb9 (M P:Int->Int->Int->Int) (m st:List Int):UB M P m st 0=st:=rfl
theorem Z0n {M P:Int->Int->Int->Int} {m st:List Int} (h:st.length=8):∀t,(UB M P m st t).length=8
 | 0=>h
 | _+1=>rfl
def prT (st k m x:List Int) (i:Nat):St:=⟨146,[(9,.int .i64 i),(8,pt 6),(7,pt 5),(5,pt 3),(2,pt 0),(4,pt 2)],⟨7,[(6,.flat [.arr .u32 8 x]),(5,.flat [.arr .u32 64 k]),(3,.flat [.arr .u32 64 m]),(2,.flat [.arr .u32 8 [0,0,0,0,0,0,0,0]]),(0,.flat [.arr .u32 8 st])]⟩,[]⟩
def prU (st x:List Int):St:=⟨146,[(8,pt 6),(2,pt 0),(4,pt 2)],⟨7,[(6,.flat [.arr .u32 8 x]),(2,.flat [.arr .u32 8 [0,0,0,0,0,0,0,0]]),(0,.flat [.arr .u32 8 st])]⟩,[]⟩
theorem Zm9 (M P:Int->Int->Int->Int) (st k m x':List Int) (x0 x1 x2 x3 x4 x5 x6 x7:Int) (i:Nat) (Z1 Z2:Prop) (hi:i<=64) (hx:x'=Z1u M P (k.getD i 0) (m.getD i 0) [x0,x1,x2,x3,x4,x5,x6,x7]) (h1:i<64->Z1) (h2:i=64->Z2):
  ZG (E54 M P) 20 131 2 0 (prT st k m [x0,x1,x2,x3,x4,x5,x6,x7] i) (rdM 0 2 9 (prT st k m x' (i+1)) (prU st [x0,x1,x2,x3,x4,x5,x6,x7]) (prU st [x0,x1,x2,x3,x4,x5,x6,x7]) (prU st [x0,x1,x2,x3,x4,x5,x6,x7]) Z1 Z2 False False):=by
 refine @Eq.mpr _ (let q1:=decide (0<=(↑i:Int)/\(↑i:Int)<64);let q2:=0+Int.toNat (↑i:Int);let q3:=decide (q2<64);let q4:=decide (q2<64);let q5:=List.getD m q2 0;let q6:=List.getD k q2 0;let q7:=wrap u32 (wrap u32 (wrap u32 (wrap u32 (x7+X6 u32 (X6 u32 (bOr u32 (ZJ u32 x4 26) (Zz u32 x4 6)) (bOr u32 (ZJ u32 x4 21) (Zz u32 x4 11))) (bOr u32 (ZJ u32 x4 7) (Zz u32 x4 25)))+P x4 x5 x6)+q6)+q5);let q8:=[(0:Int),0,0,0,0,0,0,0];let q9:=q8=q8;let q10:=[x0,x1,x2,x3,x4,x5,x6,x7];
 Z0 (decide ((↑i:Int)<64)) (Z0 q1 (Z0 q3 (Z0 q1 (Z0 q4 (Z0 q4 (Z0 (decide (q5=q5)) (Z0 q3 (Z0 (decide (q6=q6)) (Z0 (decide (x6=x6)) (Z0 (decide (x5=x5)) (Z0 (decide (x4=x4)) (Z0 (decide (x7=x7)) (Z0 (decide (x2=x2)) (Z0 (decide (x1=x1)) (Z0 (decide (x0=x0)) (Z0 (decide (wrap i64 ((↑i:Int)+1)=(↑(i+1):Int))) ([wrap u32 (q7+wrap u32 (X6 u32 (X6 u32 (bOr u32 (ZJ u32 x0 30) (Zz u32 x0 2)) (bOr u32 (ZJ u32 x0 19) (Zz u32 x0 13))) (bOr u32 (ZJ u32 x0 10) (Zz u32 x0 22))+M x0 x1 x2)),x0,x1,x2,wrap u32 (x3+q7),x4,x5,x6]=x'/\k=k/\m=m/\q9/\st=st/\Z1) False) False) False) False) False) False) False) False) False) False) False) False) False) False) False) False) (q10=q10/\q9/\st=st/\Z2)) (by kernel_rfl) ?_
 conv=>zeta
 try simp only [Zj]
 try simp only [Zl]
 try simp only [Zi]
 try simp only [Zm]
 try simp only [Zn]
 try simp only [Zh]
 try simp only [Int.toNat_natCast,Nat.zero_add,true_and,and_true,Nat.le_refl]
 have hw:i64.wrap ((i:Int)+1)=((i+1:Nat):Int):=w64 (by omega)
 refine ⟨fun hlt=> ?_,fun hge=>h2 (by omega)⟩
 rw [hw]
 repeat' (first|(refine And.intro ?_ ?_)|intro _)
 all_goals first|omega|exact hx.symm|exact h1 (by omega)|trivial
def prV (st x:List Int) (i:Nat):St:=⟨146,[(12,.int .i64 i),(8,pt 6),(2,pt 0),(4,pt 2)],⟨7,[(6,.flat [.arr .u32 8 x]),(2,.flat [.arr .u32 8 [0,0,0,0,0,0,0,0]]),(0,.flat [.arr .u32 8 st])]⟩,[]⟩
def Vl (st x:List Int):Nat->List Int
 | 0=>x
 | i+1=>(Vl st x i).set i (u32.wrap ((Vl st x i).getD i 0+st.getD i 0))
theorem Z3i {st x:List Int} (h:x.length=8):∀i,(Vl st x i).length=8
 | 0=>h
 | i+1=>by simp [Vl,Z3i h i]
theorem Zma (st x x':List Int) (i:Nat) (Z1 Z2:Prop) (hi:i<=8) (hl:x.length=8) (hs:st.length=8) (hx:x'=x.set i (u32.wrap (x.getD i 0+st.getD i 0))) (h1:i<8->Z1) (h2:i=8->Z2):
  ZG G0 20 131 4 0 (prV st x i) (rdM 0 4 9 (prV st x' (i+1)) (prU st x) (prU st x) (prU st x) Z1 Z2 False False):=by
 refine @Eq.mpr _ (let q1:=decide (0<=(↑i:Int)/\(↑i:Int)<8);let q2:=0+Int.toNat (↑i:Int);let q3:=[(0:Int),0,0,0,0,0,0,0];let q4:=q3=q3;
 Z0 (decide ((↑i:Int)<8)) (Z0 q1 (Z0 (decide (q2<8)) (Z0 q1 (Z0 (decide (q2<8)) (Z0 q1 (Z0 (decide (u32=u32/\q2<8/\q2<List.length x)) (Z0 (decide (wrap i64 ((↑i:Int)+1)=(↑(i+1):Int))) (List.set x q2 (wrap u32 (List.getD x q2 0+List.getD st q2 0))=x'/\q4/\st=st/\Z1) False) False) False) False) False) False) False) (x=x/\q4/\st=st/\Z2)) (by kernel_rfl) ?_
 conv=>zeta
 try simp only [Zj]
 try simp only [Zl]
 try simp only [Zi]
 try simp only [Zm]
 try simp only [Zn]
 try simp only [Zh]
 try simp only [Int.toNat_natCast,Nat.zero_add,true_and,and_true,Nat.le_refl]
 have hw:i64.wrap ((i:Int)+1)=((i+1:Nat):Int):=w64 (by omega)
 refine ⟨fun hlt=> ?_,fun hge=>h2 (by omega)⟩
 rw [hw]
 repeat' (first|(refine And.intro ?_ ?_)|intro _)
 all_goals first|omega|exact hx.symm|exact h1 (by omega)|trivial
def ZiR (M P:Int->Int->Int->Int) (st m:List Int):Nat->St->KE->Prop:=goM 0 (prT st Vk m st 0) (st.length=8) (YJ 2 64 9 (fun i=>i<64) (fun i=>i=64) (fun _=>False) (fun _=>False) (fun i=>prU st (UB M P m st i)) (fun i=>prU st (UB M P m st i)) (fun i=>prU st (UB M P m st i)))
theorem ZfS (st m:List Int):((E54 XL XC).withL 131 2 (ZiR XL XC st m)).Ok:=by
 unfold ZiR
 refine Zg.withGoM (N:=20) (S:=fun i=>prT st Vk m (UB XL XC m st i) i) ZiQ (by kernel_rfl) fun hC=>⟨rfl,fun i hi hgo=> ?_⟩
 obtain ⟨x0,x1,x2,x3,x4,x5,x6,x7,e⟩:=eight _ (Z0n (M:=XL) (P:=XC) (m:=m) hC i)
 show ZG _ 20 131 2 0 (prT st Vk m (UB XL XC m st i) i) (rdM 0 2 9 (prT st Vk m (Z1u XL XC (Vk.getD i 0) (m.getD i 0) (UB XL XC m st i)) (i+1)) _ _ _ _ _ _ _)
 rw [e]
 exact Zm9 XL XC st Vk m _ x0 x1 x2 x3 x4 x5 x6 x7 i _ _ hi rfl (fun h=>⟨h,h⟩) (fun h=>h)
def ZiS (st x:List Int):Nat->St->KE->Prop:=goM 0 (prV st x 0) (st.length=8/\x.length=8) (YJ 4 8 9 (fun i=>i<8) (fun i=>i=8) (fun _=>False) (fun _=>False) (fun i=>prU st (Vl st x i)) (fun i=>prU st (Vl st x i)) (fun i=>prU st (Vl st x i)))
theorem ZfT (st x:List Int):(G0.withL 131 4 (ZiS st x)).Ok:=by
 unfold ZiS
 refine Zg.withGoM (N:=20) (S:=fun i=>prV st (Vl st x i) i) Zv (by kernel_rfl) fun hC=>⟨rfl,fun i hi hgo=> ?_⟩
 exact Zma st (Vl st x i) (Vl st x (i+1)) i _ _ hi (Z3i hC.2 i) hC.1 rfl (fun h=>⟨h,h⟩) (fun h=>h)
noncomputable def ZiT (M P:Int->Int->Int->Int) (st bl m x:List Int):Zg:=((ZiP st bl).withL 131 2 (ZiR M P st m)).withL 131 4 (ZiS st x)
theorem ZfU (st bl m x:List Int):(ZiT XL XC st bl m x).Ok:=by
 unfold ZiT
 exact Zg.withL_join (H:=G0) (Zg.withL_join (H:=E54 XL XC) (ZfR st bl) rfl (ZfS st m)) rfl (ZfT st x)
@[irreducible] def W1 (st bl:List Int):List Int:=Vl st (UB XL XC (Wl bl 64) st 64) 8
attribute [irreducible] Wl UB Vl
theorem Zmb (M P:Int->Int->Int->Int) (st bl m x r:List Int) (hst:st.length=8) (hm:m=Wl bl 64) (hx:x=UB M P m st 64) (hr:r=Vl st x 8):
  evF (ZiT M P st bl m x) 20 131 [.agg [.arr .u32 8 st],.agg [.arr .u8 64 bl]] ⟨0,[]⟩ (XN 0 [] (.agg [.arr .u32 8 r]) 0 []):=by
 refine @Eq.mpr _ ((0:Int)::(0:Int)::(0:Int)::(0:Int)::(0:Int)::(0:Int)::(0:Int)::(0:Int)::(0:Int)::(0:Int)::(0:Int)::(0:Int)::(0:Int)::(0:Int)::(0:Int)::(0:Int)::(0:Int)::(0:Int)::(0:Int)::(0:Int)::(0:Int)::(0:Int)::(0:Int)::(0:Int)::(0:Int)::(0:Int)::(0:Int)::(0:Int)::(0:Int)::(0:Int)::(0:Int)::(0:Int)::Zf=(0:Int)::(0:Int)::(0:Int)::(0:Int)::(0:Int)::(0:Int)::(0:Int)::(0:Int)::(0:Int)::(0:Int)::(0:Int)::(0:Int)::(0:Int)::(0:Int)::(0:Int)::(0:Int)::(0:Int)::(0:Int)::(0:Int)::(0:Int)::(0:Int)::(0:Int)::(0:Int)::(0:Int)::(0:Int)::(0:Int)::(0:Int)::(0:Int)::(0:Int)::(0:Int)::(0:Int)::(0:Int)::Zf/\
 [(0:Int),(0:Int),(0:Int),(0:Int),(0:Int),(0:Int),(0:Int),(0:Int)]=[(0:Int),(0:Int),(0:Int),(0:Int),(0:Int),(0:Int),(0:Int),(0:Int)]/\
 bl=bl/\
 st=st/\
 True/\
 ∀(i:Nat),
 i<=(64:Nat)->
 (∀(j:Nat),j<i->(fun (i:Nat)=>i<(64:Nat)) j)->
 (i=(64:Nat)->
 st=st/\
 [(1116352408:Int),(1899447441:Int),(3049323471:Int),(3921009573:Int),(961987163:Int),(1508970993:Int),(2453635748:Int),(2870763221:Int),(3624381080:Int),(310598401:Int),(607225278:Int),(1426881987:Int),(1925078388:Int),(2162078206:Int),(2614888103:Int),(3248222580:Int),(3835390401:Int),(4022224774:Int),(264347078:Int),(604807628:Int),(770255983:Int),(1249150122:Int),(1555081692:Int),(1996064986:Int),(2554220882:Int),(2821834349:Int),(2952996808:Int),(3210313671:Int),(3336571891:Int),(3584528711:Int),(113926993:Int),(338241895:Int),(666307205:Int),(773529912:Int),(1294757372:Int),(1396182291:Int),(1695183700:Int),(1986661051:Int),(2177026350:Int),(2456956037:Int),(2730485921:Int),(2820302411:Int),(3259730800:Int),(3345764771:Int),(3516065817:Int),(3600352804:Int),(4094571909:Int),(275423344:Int),(430227734:Int),(506948616:Int),
 (659060556:Int),(883997877:Int),(958139571:Int),(1322822218:Int),(1537002063:Int),(1747873779:Int),(1955562222:Int),(2024104815:Int),(2227730452:Int),(2361852424:Int),(2428436474:Int),(2756734187:Int),(3204031479:Int),(3329325298:Int)]=
 Vk/\
 Wl bl i=m/\
 [(0:Int),(0:Int),(0:Int),(0:Int),(0:Int),(0:Int),(0:Int),(0:Int)]=[(0:Int),(0:Int),(0:Int),(0:Int),(0:Int),(0:Int),(0:Int),(0:Int)]/\st=st/\List.length st=(8:Nat)/\∀(i:Nat),i<=(64:Nat)->(∀(j:Nat),j<i->(fun (i:Nat)=>i<(64:Nat)) j)->(i=(64:Nat)->UB M P m st i=x/\[(0:Int),(0:Int),(0:Int),(0:Int),(0:Int),(0:Int),(0:Int),(0:Int)]=[(0:Int),(0:Int),(0:Int),(0:Int),(0:Int),(0:Int),(0:Int),(0:Int)]/\st=st/\(List.length st=(8:Nat)/\List.length x=(8:Nat))/\∀(i:Nat),i<=(8:Nat)->(∀(j:Nat),j<i->(fun (i:Nat)=>i<(8:Nat)) j)->(i=(8:Nat)->Vl st x i=r/\True)/\(False->[(0:Int),(0:Int),(0:Int),(0:Int),(0:Int),(0:Int),(0:Int),(0:Int)]=r/\True)/\(False->False))/\(False->[(0:Int),(0:Int),(0:Int),(0:Int),(0:Int),(0:Int),(0:Int),(0:Int)]=r/\True)/\(False->False))/\
 (False->[(0:Int),(0:Int),(0:Int),(0:Int),(0:Int),(0:Int),(0:Int),(0:Int)]=r/\True)/\(False->False)) (by kernel_rfl) ?_
 try simp only [Zj]
 try simp only [Zl]
 try simp only [Zi]
 try simp only [Zm]
 try simp only [Zn]
 try simp only [Zh]
 try simp only [Int.toNat_natCast,Nat.zero_add,true_and,and_true,Nat.le_refl]
 subst hm
 have hl:x.length=8:=by rw [hx];exact Z0n hst _
 exact fun i _ _=>⟨fun he=>⟨by kernel_rfl,by rw [he],hst,fun j _ _=>⟨fun hj=>⟨by rw [hj,hx],⟨hst,hl⟩,fun q _ _=>⟨fun hq=>by rw [hq,hr],fun h=>h.elim,fun h=>h⟩⟩,fun h=>h.elim,fun h=>h⟩⟩,fun h=>h.elim,fun h=>h⟩
theorem Z6I (st bl:List Int) (h:st.length=8):ZC PP 131 [.agg [.arr .u32 8 st],.agg [.arr .u8 64 bl]] (.agg [.arr .u32 8 (W1 st bl)]) 0 []:=by
 unfold W1
 exact .ev (ZfU st bl _ _) (Zmb XL XC st bl _ _ _ h rfl rfl rfl)
theorem Z5B {st bl:List Int} (h:st.length=8):(W1 st bl).length=8:=by unfold W1;exact Z3i (Z0n h _) _
end Go.Tk
end
section
namespace Go.Tk
open IntKind (i64 u8 u32 u64 wrap)
def ZfV (n i:Int):Int:=u8.wrap (Int.tmod (Zz .u64 (u64.wrap (u64.wrap n*8)) (u64.wrap (i64.wrap (56-i64.wrap (8*i))))) 256)
def W6 (n:Int):Nat->List Int
 | 0=>[]
 | i+1=>W6 n i++[ZfV n i]
theorem Z3j (n:Int):∀i,(W6 n i).length=i
 | 0=>rfl
 | i+1=>by rw [W6,List.length_append,Z3j n i];rfl
def paS (bs ys:List Int) (n L i:Nat):St:=⟨39,[(5,.int .i64 i),(4,.nslice ⟨3,0,0,0,0⟩ 1 L L),(0,.vints .u8 bs n)],⟨4,[(3,.ints .u8 ys)]⟩,[]⟩
theorem Zki (bs ys zs:List Int) (n L L' i:Nat) (Z1 Z2:Prop) (hi:i<=8) (hL:ys.length=L) (hb:L<10000000000000) (hz:zs=ys++[ZfV n i]) (hL':L'=zs.length) (h1:i<8->Z1) (h2:i=8->Z2):
  ZG G0 20 130 0 0 (paS bs ys n L i) (rdM 0 0 9 (paS bs zs n L' (i+1)) (paS bs ys n L i) (paS bs ys n L i) (paS bs ys n L i) Z1 Z2 False False):=by
 refine @Eq.mpr _ (let q1:=wrap u64 (wrap i64 (56-wrap i64 (8*(↑i:Int))));let q2:=ys++[wrap u8 (Int.tmod (Zz u64 (wrap u64 (wrap u64 (↑n:Int)*8)) q1) 256)];let q3:=List.length q2;let q4:=decide (n=n);
 Z0 (decide ((↑i:Int)<8)) (Z0 (decide (0<=q1)) (Z0 (decide (u8=u8/\List.length ys=L)) (Z0 (decide (q3*1<=140737488355328)) (Z0 (decide (wrap i64 ((↑i:Int)+1)=(↑(i+1):Int))) (Z0 (decide (q3=L')) (Z0 (decide (L'<=q3)) (bs=bs/\Z0 q4 (q2=zs/\Z1) False) False) False) False) False) False) False) (Z0 (decide ((↑i:Int)=(↑i:Int))) (Z0 (decide (L=L)) (Z0 (decide (L<=L)) (bs=bs/\Z0 q4 (ys=ys/\Z2) False) False) False) False)) (by kernel_rfl) ?_
 conv=>zeta
 try simp only [Zj]
 try simp only [Zl]
 try simp only [Zi]
 try simp only [Zm]
 try simp only [Zn]
 try simp only [Zh]
 try simp only [Int.toNat_natCast,Nat.zero_add,true_and,and_true,Nat.le_refl]
 have hw:i64.wrap ((i:Int)+1)=((i+1:Nat):Int):=w64 (by omega)
 refine ⟨fun hlt=> ?_,fun hge=>h2 (by omega)⟩
 have hz':zs.length=L+1:=by rw [hz,List.length_append,hL];rfl
 have h0:0<=u64.wrap (i64.wrap (56-i64.wrap (8*(i:Int)))):=by
  unfold wrap
  simp [IntKind.bits,IntKind.signed]
  omega
 simp only [List.length_append,List.length_cons,List.length_nil]
 rw [hw]
 repeat' (first|(refine And.intro ?_ ?_)|intro _)
 all_goals first|exact h0|omega|exact hz.symm|exact h1 (by omega)|trivial
noncomputable def ZiU (bs y:List Int) (n:Nat):Zg:=G0.withL 130 0 (goM 0 (paS bs (y++W6 n 0) n (y++W6 n 0).length 0) (y.length<=1000000000000) (YJ 0 8 9 (fun i=>i<8) (fun i=>i=8) (fun _=>False) (fun _=>False) (fun i=>paS bs (y++W6 n i) n (y++W6 n i).length i) (fun i=>paS bs (y++W6 n i) n (y++W6 n i).length i) (fun i=>paS bs (y++W6 n i) n (y++W6 n i).length i)))
theorem ZfW (bs y:List Int) (n:Nat):(ZiU bs y n).Ok:=by
 unfold ZiU
 refine Zg.withGoM (N:=20) (S:=fun i=>paS bs (y++W6 n i) n (y++W6 n i).length i) Zv (by kernel_rfl) fun hC=>⟨rfl,fun i hi hgo=> ?_⟩
 have hl:(y++W6 n i).length=y.length+i:=by rw [List.length_append,Z3j]
 exact Zki bs (y++W6 n i) (y++W6 n (i+1)) n _ _ i _ _ hi rfl (by omega) (by rw [W6,List.append_assoc]) rfl (fun h=>⟨h,h⟩) (fun h=>h)
def Z1L (n:Nat):List Int:=List.replicate (Int.tmod (i64.wrap (128-Int.tmod (i64.wrap ((n:Int)+9)) 64)) 64).toNat 0
@[irreducible] def UC (bs:List Int):List Int:=(bs++[128]++Z1L bs.length)++W6 bs.length 8
theorem ZfX (n:Nat) (h:n<=100000000000):Int.tmod (i64.wrap (128-Int.tmod (i64.wrap ((n:Int)+9)) 64)) 64=(128-((n:Int)+9)%64)%64:=by
 have e1:i64.wrap ((n:Int)+9)=(n:Int)+9:=w64 (by omega)
 have e2:Int.tmod ((n:Int)+9) 64=((n:Int)+9)%64:=tm (by omega)
 have e3:i64.wrap (128-((n:Int)+9)%64)=128-((n:Int)+9)%64:=w64 (by omega)
 rw [e1,e2,e3,tm (by omega)]
theorem Zd5 (n:Nat) (h:n<=100000000000):(Z1L n).length<=64:=by
 unfold Z1L
 rw [ZfX n h,List.length_replicate]
 omega
theorem Zkj (bs y r:List Int) (n L:Nat) (hn:bs.length=n) (hb:n<=100000000000) (hy:y=bs++[128]++Z1L n) (hr:r=y++W6 n 8) (hL:L=r.length):
  evF (ZiU bs y n) 20 130 [.vints .u8 bs n] ⟨0,[]⟩ (Y5 0 (.ret (.nslice ⟨0,0,0,0,0⟩ 1 L L)) 1 [(0,.ints .u8 r)]):=by
 refine @Eq.mpr _ (let q1:=[]++List.take n bs;let q2:=List.length q1;let q3:=q1++[(128:Int)];let q4:=List.length q3;let q5:=Int.tmod (wrap i64 (128-Int.tmod (wrap i64 (↑n+9)) 64)) 64;let q6:=Int.toNat q5;let q7:=q3++List.replicate q6 0;let q8:=List.length q7;let q9:=y++W6 (↑n) 0;let q10:=List.length q9;
 Z0 (decide (q2*1<=140737488355328))
 (Z0 (decide (u8=u8/\q2=q2))
 (Z0 (decide (q4*1<=140737488355328))
 (Z0 (decide (u8=u8/\q4=q4))
 (Z0 (decide ((0:Int)=0/\0<=q5/\(q4+q6)*1<=140737488355328))
 (Z0 (decide (q8=q10))
 (Z0 (decide (q10<=q8))
 (bs=bs/\
 Z0 (decide (n=n))
 (q7=q9/\
 List.length y<=1000000000000/\
 ∀(i:Nat),
 let q21:=y++W6 (↑n) i;let q22:=List.length q21;
 i<=8->(∀(j:Nat),j<i->(fun (i:Nat)=>i<8) j)->(i=8->Z0 (decide (q22=L)) (Z0 (decide (L<=q22)) (q21=r/\True) False) False)/\(False->False)/\(False->False))
 False)
 False)
 False)
 False)
 False)
 False)
 False)
 False) (by kernel_rfl) ?_
 conv=>zeta
 try simp only [Zj]
 try simp only [Zl]
 try simp only [Zi]
 try simp only [Zm]
 try simp only [Zn]
 try simp only [Zh]
 try simp only [Int.toNat_natCast,Nat.zero_add,true_and,and_true,Nat.le_refl]
 have ht:List.take n bs=bs:=by rw [<-hn];exact List.take_length
 have hz:=Zd5 n hb
 have hx:=ZfX n hb
 have e0:[]++List.take n bs++[128]++List.replicate (Int.tmod (i64.wrap (128-Int.tmod (i64.wrap ((n:Int)+9)) 64)) 64).toNat 0=y++W6 n 0:=by rw [ht,hy];simp [Z1L,W6]
 have hyl:y.length=n+1+(Z1L n).length:=by rw [hy,List.length_append,List.length_append,hn];rfl
 subst hL hr
 simp only [e0,ht,List.length_append,List.length_cons,List.length_nil,hn,List.nil_append]
 refine ⟨by omega,by omega,⟨by omega,by omega⟩, ?_, ?_, ?_,by omega,fun i hi _=>⟨fun he=>by subst he;exact ⟨rfl,Nat.le_refl _,rfl⟩,fun h=>h,fun h=>h⟩⟩
 ·rw [hyl];unfold Z1L W6;rfl
 ·rw [hyl];unfold Z1L W6;exact Nat.le_refl _
 ·rw [hy];simp [Z1L,W6]
theorem Zba (bs:List Int) (h:bs.length<=100000000000):ZC PP 130 [.vints .u8 bs bs.length] (.nslice ⟨0,0,0,0,0⟩ 1 (UC bs).length (UC bs).length) 1 [(0,.ints .u8 (UC bs))]:=.evM (ZfW bs _ _) (Zkj bs _ _ _ _ rfl h rfl (by unfold UC;rfl) rfl)
def ZhG (P:List Int->List Int) (B:Nat):Yf:=fun args h K=>ZU none h true 20 args fun a=>QS a fun xs=>Zx (xs.length<=B) (K (.ret (.nslice ⟨h.next,0,0,0,0⟩ 1 (P xs).length (P xs).length)) ⟨h.next+1,(h.next,.ints .u8 (P xs))::h.bs⟩)
theorem Zd6 (B:Nat) (hB:B<=100000000000) (args:List AV) (h:Za) (K:KO) (hl:ZhG UC B args h K):Zp PP 130 args h K:=by
 refine ZC.fsumm (d:=20) (Zu _ _ _ _ _ hl fun a ha=> ?_)
 obtain ⟨xs,rfl,hK⟩:=VF ha
 obtain ⟨hx,hK⟩:=Ze hK
 exact ⟨_,_,_,_,Zba xs (Nat.le_trans hx hB),rfl,⟨Nat.one_pos,.ints _ _,trivial⟩,hK⟩
def toE (x d:Int):Int:=u8.wrap (Int.tmod (u32.wrap (Int.tdiv x d)) 256)
def toN (x:List Int):Nat->List Int
 | 0=>Zf
 | i+1=>((((toN x i).set (4*i) (u8.wrap (u32.wrap (Int.tdiv (x.getD i 0) 16777216)))).set (4*i+1) (toE (x.getD i 0) 65536)).set (4*i+2) (toE (x.getD i 0) 256)).set (4*i+3) (u8.wrap (Int.tmod (x.getD i 0) 256))
theorem Z5C (x:List Int):∀i,(toN x i).length=32
 | 0=>rfl
 | i+1=>by simp [toN,Z5C x i]
def toS (x h:List Int) (i:Nat):St:=⟨47,[(4,.int .i64 i),(1,pt 0),(3,pt 2),(2,pt 1)],⟨3,[(2,.flat [.arr .u8 32 h]),(1,.flat [.arr .u8 32 Zf]),(0,.flat [.arr .u32 8 x])]⟩,[]⟩
theorem Zmc (x h h':List Int) (i:Nat) (Z1 Z2:Prop) (hi:i<=8) (hl:h.length=32) (hh:h'=(((h.set (4*i) (u8.wrap (u32.wrap (Int.tdiv (x.getD i 0) 16777216)))).set (4*i+1) (toE (x.getD i 0) 65536)).set (4*i+2) (toE (x.getD i 0) 256)).set (4*i+3) (u8.wrap (Int.tmod (x.getD i 0) 256))) (h1:i<8->Z1) (h2:i=8->Z2):
  ZG G0 20 132 0 0 (toS x h i) (rdM 0 0 9 (toS x h' (i+1)) (toS x h i) (toS x h i) (toS x h i) Z1 Z2 False False):=by
 refine @Eq.mpr _ (let q1:=decide (0<=(↑i:Int)/\(↑i:Int)<8);let q2:=0+Int.toNat (↑i:Int);let q3:=decide (q2<8);let q4:=wrap i64 (4*(↑i:Int));let q5:=0+Int.toNat q4;let q6:=wrap i64 (q4+1);let q7:=0+Int.toNat q6;let q8:=List.getD x q2 0;let q9:=List.set h q5 (wrap u8 (wrap u32 (Int.tdiv q8 16777216)));let q10:=wrap i64 (q4+2);let q11:=0+Int.toNat q10;let q12:=List.set q9 q7 (wrap u8 (Int.tmod (wrap u32 (Int.tdiv q8 65536)) 256));let q13:=wrap i64 (q4+3);let q14:=0+Int.toNat q13;let q15:=List.set q12 q11 (wrap u8 (Int.tmod (wrap u32 (Int.tdiv q8 256)) 256));
 Z0 (decide ((↑i:Int)<8)) (Z0 q1 (Z0 q3 (Z0 (decide (0<=q4/\q4<32)) (Z0 (decide (u8=u8/\q5<32/\q5<List.length h)) (Z0 q1 (Z0 q3 (Z0 (decide (0<=q6/\q6<32)) (Z0 (decide (u8=u8/\q7<32/\q7<List.length q9)) (Z0 q1 (Z0 q3 (Z0 (decide (0<=q10/\q10<32)) (Z0 (decide (u8=u8/\q11<32/\q11<List.length q12)) (Z0 q1 (Z0 q3 (Z0 (decide (0<=q13/\q13<32)) (Z0 (decide (u8=u8/\q14<32/\q14<List.length q15)) (Z0 (decide (wrap i64 ((↑i:Int)+1)=(↑(i+1):Int))) (List.set q15 q14 (wrap u8 (Int.tmod q8 256))=h'/\Zf=Zf/\x=x/\Z1) False) False) False) False) False) False) False) False) False) False) False) False) False) False) False) False) False) (Z0 (decide ((↑i:Int)=(↑i:Int))) (h=h/\Zf=Zf/\x=x/\Z2) False)) (by kernel_rfl) ?_
 conv=>zeta
 try simp only [Zj]
 try simp only [Zl]
 try simp only [Zi]
 try simp only [Zm]
 try simp only [Zn]
 try simp only [Zh]
 try simp only [Int.toNat_natCast,Nat.zero_add,true_and,and_true,Nat.le_refl]
 have hw:i64.wrap ((i:Int)+1)=((i+1:Nat):Int):=w64 (by omega)
 refine ⟨fun hlt=> ?_,fun hge=>h2 (by omega)⟩
 have e0:i64.wrap (4*(i:Int))=((4*i:Nat):Int):=by rw [w64 (by omega)];omega
 have e1:i64.wrap (((4*i:Nat):Int)+1)=((4*i+1:Nat):Int):=by rw [w64 (by omega)];omega
 have e2:i64.wrap (((4*i:Nat):Int)+2)=((4*i+2:Nat):Int):=by rw [w64 (by omega)];omega
 have e3:i64.wrap (((4*i:Nat):Int)+3)=((4*i+3:Nat):Int):=by rw [w64 (by omega)];omega
 simp only [e0,e1,e2,e3,hw,Int.toNat_natCast,List.length_set]
 repeat' (first|(refine And.intro ?_ ?_)|intro _)
 all_goals first|omega|exact hh.symm|exact h1 (by omega)|trivial
noncomputable def ZiV (x:List Int):Zg:=G0.withL 132 0 (goM 0 (toS x Zf 0) True (YJ 0 8 9 (fun i=>i<8) (fun i=>i=8) (fun _=>False) (fun _=>False) (fun i=>toS x (toN x i) i) (fun i=>toS x (toN x i) i) (fun i=>toS x (toN x i) i)))
theorem ZfY (x:List Int):(ZiV x).Ok:=by
 unfold ZiV
 refine Zg.withGoM (N:=20) (S:=fun i=>toS x (toN x i) i) Zv (by kernel_rfl) fun hC=>⟨rfl,fun i hi hgo=> ?_⟩
 exact Zmc x (toN x i) (toN x (i+1)) i _ _ hi (Z5C x i) rfl (fun h=>⟨h,h⟩) (fun h=>h)
@[irreducible] def U9 (x:List Int):List Int:=toN x 8
attribute [irreducible] toN
theorem Zmd (x r:List Int) (hr:r=toN x 8):
  evF (ZiV x) 20 132 [.agg [.arr .u32 8 x]] ⟨0,[]⟩ (XN 0 [] (.agg [.arr .u8 32 r]) 0 []):=by
 refine @Eq.mpr _ (Zf=Zf/\Zf=Zf/\x=x/\True/\∀(i:Nat),i<=8->(∀(j:Nat),j<i->(fun (i:Nat)=>i<8) j)->(i=8->toN x i=r/\True)/\(False->Zf=r/\True)/\(False->False)) (by kernel_rfl) ?_
 try simp only [Zj]
 try simp only [Zl]
 try simp only [Zi]
 try simp only [Zm]
 try simp only [Zn]
 try simp only [Zh]
 try simp only [Int.toNat_natCast,Nat.zero_add,true_and,and_true,Nat.le_refl]
 subst hr
 exact fun i hi _=>⟨fun he=>by subst he;rfl,fun h=>h.elim,fun h=>h⟩
def Zd7 (T:List Int->List Int):ZR:=fun args _ K=>match args with
 | [.agg [.arr .u32 8 x]]=>K (.agg [.arr .u8 32 (T x)])
 | _=>False
theorem Zd8 (args:List AV) (h:Za) (K:AV->Prop) (hl:Zd7 U9 args h K):Zp PP 132 args h fun o h'=>∃v,o=.ret v/\h'=h/\K v:=by
 unfold Zd7 at hl
 split at hl
 ·rename_i x
  refine Z0h (d:=20) (K0:=fun l=>l=[.agg [.arr .u32 8 x]]) ?_ fun l e=>⟨_,by rw [e];exact (by unfold U9;exact .ev (ZfY x) (Zmd x _ rfl)),fun _=>rfl,hl⟩
  rfl
 ·exact hl.elim
end Go.Tk
end
section
namespace Go.Tk
open IntKind (i64 u8 u32 u64 wrap)
def Z5D (P:List Int->List Int->List Int):ZR:=fun args _ K=>match args with
 | [.agg [.arr .u32 8 st],.agg [.arr .u8 64 bl]]=>Zx (st.length=8) (K (.agg [.arr .u32 8 (P st bl)]))
 | _=>False
structure Q5 (P:List Int->List Int->List Int):Prop where
 pure:∀st bl,st.length=8->ZC PP 131 [.agg [.arr .u32 8 st],.agg [.arr .u8 64 bl]] (.agg [.arr .u32 8 (P st bl)]) 0 []
 len:∀st bl,st.length=8->(P st bl).length=8
theorem Z8u {P:List Int->List Int->List Int} (hP:Q5 P) (args:List AV) (h:Za) (K:AV->Prop) (hl:Z5D P args h K):Zp PP 131 args h fun o h'=>∃v,o=.ret v/\h'=h/\K v:=by
 unfold Z5D at hl
 split at hl
 ·rename_i st bl
  obtain ⟨hs,hK⟩:=Ze hl
  refine Z0h (d:=20) (K0:=fun l=>l=[.agg [.arr .u32 8 st],.agg [.arr .u8 64 bl]]) ?_ fun l e=>⟨_,by rw [e];exact hP.pure st bl hs,fun _=>rfl,hK⟩
  rfl
 ·exact hl.elim
noncomputable def E56 (P:List Int->List Int->List Int) (Q:List Int->List Int) (T:List Int->List Int) (B:Nat):Zg:=((G0.withP 131 (Z5D P)).withF 130 (ZhG Q B)).withP 132 (Zd7 T)
theorem ZiW {P:List Int->List Int->List Int} (hP:Q5 P) {B:Nat} (hB:B<=100000000000):(E56 P UC U9 B).Ok:=Zg.withP_ok (Zg.withF_ok (Zg.withP_ok Zv (Z8u hP)) (Zd6 B hB)) Zd8
def ZfZ (ys st:List Int) (o n:Nat):St:=⟨21,[(4,.nslice ⟨3,0,0,0,o⟩ 1 n n),(3,pt 2),(2,pt 0)],⟨4,[(3,.ints .u8 ys),(2,.flat [.arr .u32 8 st]),(0,.flat [.arr .u8 32 Zf])]⟩,[]⟩
def Zbb (st:List Int):St:=⟨21,[(3,pt 2),(2,pt 0)],⟨4,[(2,.flat [.arr .u32 8 st]),(0,.flat [.arr .u8 32 Zf])]⟩,[]⟩
theorem Zkk (P:List Int->List Int->List Int) (Q:List Int->List Int) (T:List Int->List Int) (B:Nat) (ys st st':List Int) (o o' n n' k i:Nat) (Z1 Z2:Prop) (hi:i<=k) (hk:ys.length=64*k) (ho:o=64*i) (ho':o'=64*(i+1)) (hn:n=64*k-64*i) (hn':n'=64*k-64*(i+1)) (hs:st.length=8) (hst:st'=P st ((ys.drop o).take 64)) (h1:i<k->Z1) (h2:i=k->Z2):
  ZG (E56 P Q T B) 20 79 0 0 (ZfZ ys st o n) (rdM 0 0 9 (ZfZ ys st' o' n') (Zbb st) (Zbb st) (Zbb st) Z1 Z2 False False):=by
 refine @Eq.mpr _ (let q1:=decide (n<=n);let q2:=decide ((0:Int)<=64/\64<=(↑n:Int));let q3:=Vp n (some 64);
 Z0 (decide ((↑n:Int)>0)) (Z0 q1 (Z0 q2 (Z0 (decide (o+0+64<=List.length ys)) (Z0 (decide (List.length st=8)) (Z0 q1 (Z0 q2 (Z0 (decide (o+64=o')) (Z0 (decide (q3=n')) (Z0 (decide (n'<=q3)) (ys=ys/\P st (List.take 64 (List.drop (o+0) ys))=st'/\Zf=Zf/\Z1) False) False) False) False) False) False) False) False) False) (st=st/\Zf=Zf/\Z2)) (by kernel_rfl) ?_
 conv=>zeta
 try simp only [Zj]
 try simp only [Zl]
 try simp only [Zi]
 try simp only [Zm]
 try simp only [Zn]
 try simp only [Zh]
 try simp only [Int.toNat_natCast,Nat.zero_add,true_and,and_true,Nat.le_refl]
 refine ⟨fun hlt=> ?_,fun hge=>h2 (by omega)⟩
 have e1:n-64=n':=by omega
 have e2:o+64=o':=by omega
 simp only [Vp,e1,e2,Nat.add_zero]
 repeat' (first|(refine And.intro ?_ ?_)|intro _)
 all_goals first|omega|exact hst.symm|exact h1 (by omega)|trivial
def Qc (P:List Int->List Int->List Int) (ys:List Int):Nat->List Int
 | 0=>Xm.st
 | i+1=>P (Qc P ys i) ((ys.drop (64*i)).take 64)
theorem Z6J {P:List Int->List Int->List Int} (hP:Q5 P) (ys:List Int):∀i,(Qc P ys i).length=8
 | 0=>rfl
 | i+1=>hP.len _ _ (Z6J hP ys i)
theorem Z4D (P:List Int->List Int->List Int) (ys:List Int):Qc P ys 0=Xm.st:=rfl
theorem Z4E (P:List Int->List Int->List Int) (ys:List Int) (i:Nat):Qc P ys (i+1)=P (Qc P ys i) ((ys.drop (64*i)).take 64):=rfl
attribute [irreducible] Qc
noncomputable def ZiX (P:List Int->List Int->List Int) (Q:List Int->List Int) (T:List Int->List Int) (B:Nat) (ys:List Int) (L k:Nat):Zg:=(E56 P Q T B).withL 79 0 (goM 0 (ZfZ ys [1779033703,3144134277,1013904242,2773480762,1359893119,2600822924,528734635,1541459225] 0 L) (ys.length=64*k/\L=64*k) (YJ 0 k 9 (fun i=>i<k) (fun i=>i=k) (fun _=>False) (fun _=>False) (fun i=>Zbb (Qc P ys i)) (fun i=>Zbb (Qc P ys i)) (fun i=>Zbb (Qc P ys i))))
theorem Zg0 {P:List Int->List Int->List Int} (hP:Q5 P) {B:Nat} (hB:B<=100000000000) (ys:List Int) (L k:Nat):(ZiX P UC U9 B ys L k).Ok:=by
 unfold ZiX
 refine Zg.withGoM (N:=20) (S:=fun i=>ZfZ ys (Qc P ys i) (64*i) (64*k-64*i)) (ZiW hP hB) (by kernel_rfl) fun hC=>⟨?_,fun i hi hgo=> ?_⟩
 ·rw [hC.2,Z4D];rfl
 ·exact Zkk P UC U9 B ys (Qc P ys i) (Qc P ys (i+1)) _ _ _ _ k i _ _ hi hC.1 rfl rfl rfl rfl (Z6J hP ys i) (Z4E _ _ _) (fun h=>⟨h,h⟩) (fun h=>h)
theorem Zkl (P:List Int->List Int->List Int) (Q:List Int->List Int) (T:List Int->List Int) (B:Nat) (bs ys r:List Int) (n L k:Nat) (hn:n=bs.length) (hB:n<=B) (hy:ys=Q bs) (hL:L=ys.length) (hk:ys.length=64*k) (hr:r=T (Qc P ys k)):
  evF (ZiX P Q T B ys L k) 20 79 [.vints .u8 bs n] ⟨0,[]⟩ (XN 0 [] (.agg [.arr .u8 32 r]) 0 []):=by
 refine @Eq.mpr _ (let q1:=[(1779033703:Int),3144134277,1013904242,2773480762,1359893119,2600822924,528734635,1541459225];
 Z0 (decide (n=List.length bs)) (Z0 (decide (List.length bs<=B)) (Z0 (decide (List.length (Q bs)=L)) (Z0 (decide (L<=List.length (Q bs))) (Q bs=ys/\q1=q1/\Zf=Zf/\(List.length ys=64*k/\L=64*k)/\∀(i:Nat),i<=k->(∀(j:Nat),j<i->(fun (i:Nat)=>i<k) j)->(i=k->T (Qc P ys i)=r/\True)/\(False->Zf=r/\True)/\(False->False)) False) False) False) False) (by kernel_rfl) ?_
 conv=>zeta
 try simp only [Zj]
 try simp only [Zl]
 try simp only [Zi]
 try simp only [Zm]
 try simp only [Zn]
 try simp only [Zh]
 try simp only [Int.toNat_natCast,Nat.zero_add,true_and,and_true,Nat.le_refl]
 subst hy hr
 refine ⟨hn,by omega, ?_⟩
 exact ⟨hL.symm,by omega,rfl,⟨hk,by omega⟩,fun i hi _=>⟨fun he=>by rw [he],fun h=>h.elim,fun h=>h⟩⟩
theorem Zd9 (bs:List Int) (h:bs.length<=100000000000):(UC bs).length=64*((UC bs).length/64):=by
 have:(UC bs).length=bs.length+1+((128-((bs.length:Int)+9)%64)%64).toNat+8:=by
  unfold UC Z1L
  rw [ZfX _ h]
  simp only [List.length_append,List.length_cons,List.length_nil,Z3j,List.length_replicate]
 omega
@[irreducible] def Zda (P:List Int->List Int->List Int) (bs:List Int):List Int:=U9 (Qc P (UC bs) ((UC bs).length/64))
theorem Zbc {P:List Int->List Int->List Int} (hP:Q5 P) (bs:List Int) (h:bs.length<=100000000000):ZC PP 79 [.vints .u8 bs bs.length] (.agg [.arr .u8 32 (Zda P bs)]) 0 []:=by
 unfold Zda
 exact .ev (Zg0 hP (Nat.le_refl _) _ _ _) (Zkl P UC U9 100000000000 bs _ _ _ _ _ rfl h rfl rfl (Zd9 bs h) rfl)
def Zdb (H:List Int->List Int) (B:Nat):ZR:=fun args h K=>ZU none h true 20 args fun a=>QS a fun xs=>Zx (xs.length<=B) (K (.agg [.arr .u8 32 (H xs)]))
theorem Z6K {f:FuncId} {H:List Int->List Int} {B:Nat} (hp:∀xs:List Int,xs.length<=B->ZC PP f [.vints .u8 xs xs.length] (.agg [.arr .u8 32 (H xs)]) 0 []) (args:List AV) (h:Za) (K:AV->Prop) (hl:Zdb H B args h K):Zp PP f args h fun o h'=>∃v,o=.ret v/\h'=h/\K v:=by
 refine ZC.psumm (d:=20) (Zu _ _ _ _ _ hl fun a ha=> ?_)
 obtain ⟨xs,rfl,hK⟩:=VF ha
 obtain ⟨hx,hK⟩:=Ze hK
 exact ⟨_,hp xs hx,fun _=>rfl,hK⟩
end Go.Tk
end
section
namespace Go.Tk
open IntKind (i64 u8 u32 u64 wrap)
end Go.Tk
end
section
namespace Go.Tk
open IntKind (i64 u8 u32 u64 wrap)
def U32 (x:Int):Prop:=0<=x/\x<4294967296
theorem Z6L (x:Int):u32.wrap x=x%4294967296:=by
 unfold wrap
 simp [IntKind.bits,IntKind.signed]
theorem Z12 (x:Int):U32 (u32.wrap x):=by rw [Z6L];unfold U32;omega
theorem W2 {x:Int} (h:U32 x):u32.wrap x=x:=by rw [Z6L];unfold U32 at h;omega
theorem wr8 (x:Int):u8.wrap x=x%256:=by
 unfold wrap
 simp [IntKind.bits,IntKind.signed]
theorem Zkm (x y:Int):U32 (bOr .u32 x y):=Z12 _
theorem WW (x y:Nat) (hx:x<4294967296) (hy:y<4294967296):X6 .u32 x y=((x^^^y:Nat):Int):=by
 unfold X6
 rw [W2]
 ·show (((BitVec.ofInt 32 (x:Int)^^^BitVec.ofInt 32 (y:Int)).toNat:Nat):Int)=_
  rw [BitVec.toNat_xor,BitVec.ofInt_natCast,BitVec.ofInt_natCast,BitVec.toNat_ofNat,BitVec.toNat_ofNat,Nat.mod_eq_of_lt hx,Nat.mod_eq_of_lt hy]
 ·unfold U32
  have:=(BitVec.ofInt u32.bits x^^^BitVec.ofInt u32.bits y).isLt
  simp only [IntKind.bits] at this
  simp only [IntKind.bits]
  omega
theorem Z5E (x y:Nat) (hx:x<4294967296) (hy:y<4294967296):bOr .u32 x y=((x|||y:Nat):Int):=by
 unfold bOr
 rw [W2]
 ·show (((BitVec.ofInt 32 (x:Int)|||BitVec.ofInt 32 (y:Int)).toNat:Nat):Int)=_
  rw [BitVec.toNat_or,BitVec.ofInt_natCast,BitVec.ofInt_natCast,BitVec.toNat_ofNat,BitVec.toNat_ofNat,Nat.mod_eq_of_lt hx,Nat.mod_eq_of_lt hy]
 ·unfold U32
  have:=(BitVec.ofInt u32.bits x|||BitVec.ofInt u32.bits y).isLt
  simp only [IntKind.bits] at this
  simp only [IntKind.bits]
  omega
theorem Z3k (x y:Nat) (hx:x<4294967296) (hy:y<4294967296):Z1F .u32 x y=((x&&&y:Nat):Int):=by
 unfold Z1F
 rw [W2]
 ·show (((BitVec.ofInt 32 (x:Int)&&&BitVec.ofInt 32 (y:Int)).toNat:Nat):Int)=_
  rw [BitVec.toNat_and,BitVec.ofInt_natCast,BitVec.ofInt_natCast,BitVec.toNat_ofNat,BitVec.toNat_ofNat,Nat.mod_eq_of_lt hx,Nat.mod_eq_of_lt hy]
 ·unfold U32
  have:=(BitVec.ofInt u32.bits x&&&BitVec.ofInt u32.bits y).isLt
  simp only [IntKind.bits] at this
  simp only [IntKind.bits]
  omega
theorem U32.nat {x:Int} (h:U32 x):∃n:Nat,x=n/\n<4294967296:=⟨x.toNat,by unfold U32 at h;omega,by unfold U32 at h;omega⟩
theorem U32.of {n:Nat} (h:n<4294967296):U32 (n:Int):=by unfold U32;omega
theorem Zbd {x y:Int}:X6 .u32 x y=X6 .u32 y x:=by unfold X6;rw [BitVec.xor_comm]
theorem Z8v {x y z:Int} (hx:U32 x) (hy:U32 y) (hz:U32 z):X6 .u32 (X6 .u32 x y) z=X6 .u32 x (X6 .u32 y z):=by
 obtain ⟨x,rfl,gx⟩:=hx.nat
 obtain ⟨y,rfl,gy⟩:=hy.nat
 obtain ⟨z,rfl,gz⟩:=hz.nat
 rw [WW x y gx gy,WW y z gy gz,WW _ z (Nat.xor_lt_two_pow (n:=32) gx gy) gz,WW x _ gx (Nat.xor_lt_two_pow (n:=32) gy gz),Nat.xor_assoc]
theorem Zbe {x:Int} (hx:U32 x):X6 .u32 0 x=x:=by
 obtain ⟨x,rfl,gx⟩:=hx.nat
 have:=WW 0 x (by omega) gx
 simpa using this
theorem Z5F (x n:Nat) (hn:n<=32):Zz .u32 x n=((x/2^n:Nat):Int):=by
 unfold Zz
 have:min (n:Int).toNat u32.bits=n:=by simp [IntKind.bits];omega
 rw [this,Int.fdiv_eq_ediv_of_nonneg _ (Int.le_of_lt (Int.pow_pos (by decide)))]
 simp
theorem Zkn {x:Int} (hx:U32 x) (n:Nat) (hn:n<=32):U32 (Zz .u32 x n):=by
 obtain ⟨x,rfl,gx⟩:=hx.nat
 rw [Z5F x n hn]
 exact U32.of (Nat.lt_of_le_of_lt (Nat.div_le_self x (2^n)) gx)
theorem Z8w (w n:Int):U32 (Z8d w n):=Zkm _ _
theorem Z9y {w:Int} (hw:U32 w) (a b c:Int):sg3 a b c w=Wy 32 [a,b,c] w:=by
 obtain ⟨x,rfl,gx⟩:=hw.nat
 have h0:Zz .u32 (x:Int) 32=0:=by
  rw [show (32:Int)=((32:Nat):Int) from rfl,Z5F x 32 (by omega),Nat.div_eq_of_lt gx]
  rfl
 unfold sg3 Wy
 simp only [List.foldl_cons,List.foldl_nil,h0,Zbe (Z8w _ _)]
theorem Z9z {w:Int} (hw:U32 w) (a b:Int) (n:Nat) (hn:n<=32):rg3 a b n w=Wy n [a,b] w:=by
 have hs:=Zkn hw n hn
 unfold rg3 Wy
 simp only [List.foldl_cons,List.foldl_nil]
 rw [Zbd,Z8v hs (Z8w _ _) (Z8w _ _)]
theorem WG (x i:Nat) (hi:i<=32):Int.tmod (Zz .u32 x i) 2=(((x.testBit i).toNat:Nat):Int):=by
 rw [Z5F x i hi]
 rw [Int.tmod_eq_emod_of_nonneg (Int.natCast_nonneg _),Nat.toNat_testBit]
 rfl
theorem Z5G (b:Bool) (i:Nat) (hi:i<32):ZJ .u32 ((b.toNat:Nat):Int) i=((2^i*b.toNat:Nat):Int):=by
 unfold ZJ
 have:min (i:Int).toNat u32.bits=i:=by simp [IntKind.bits];omega
 rw [this]
 have h2:(2:Nat)^i<2^32:=Nat.pow_lt_pow_right (by decide) hi
 have h3:((2:Nat)^i*b.toNat)<4294967296:=by cases b<;>simp_all
 rw [show ((b.toNat:Nat):Int)*2^i=((2^i*b.toNat:Nat):Int) by push_cast;rw [Int.mul_comm]]
 exact W2 (U32.of h3)
theorem Z9A (x i:Nat):x%2^(i+1)=x%2^i+2^i*(x.testBit i).toNat:=by
 rw [Nat.toNat_testBit,Nat.mod_pow_succ]
theorem Z9B (x i:Nat) (hx:x<4294967296) (hi:i<32):u32.wrap (((x%2^i:Nat):Int)+((2^i*(x.testBit i).toNat:Nat):Int))=((x%2^(i+1):Nat):Int):=by
 rw [Z9A]
 rw [W2]
 ·push_cast;rfl
 ·rw [show ((x%2^i:Nat):Int)+((2^i*(x.testBit i).toNat:Nat):Int)=((x%2^i+2^i*(x.testBit i).toNat:Nat):Int) by push_cast;rfl,<-Z9A]
  exact U32.of (Nat.lt_of_le_of_lt (Nat.mod_le _ _) hx)
theorem Z4F (a b c:Nat) (ha:a<4294967296) (hb:b<4294967296) (hc:c<4294967296):∀i,i<=32->Vc a b c i=(((a&&&(b|||c)|||b&&&c)%2^i:Nat):Int)
 | 0,_=>by simp [Vc,Nat.mod_one]
 | i+1,hi=>by
  have hm:(a&&&(b|||c)|||b&&&c)<4294967296:=Nat.or_lt_two_pow (n:=32) (Nat.lt_of_le_of_lt Nat.and_le_left ha) (Nat.lt_of_le_of_lt Nat.and_le_left hb)
  rw [Vc,Z4F a b c ha hb hc i (by omega),WG a i (by omega),WG b i (by omega),WG c i (by omega),<-Z9B _ i hm (by omega)]
  have ht:(a&&&(b|||c)|||b&&&c).testBit i=(a.testBit i&&(b.testBit i||c.testBit i)||b.testBit i&&c.testBit i):=by simp
  rw [ht]
  have h1:=Z5G true i (by omega)
  have hx:u32.wrap (((a&&&(b|||c)|||b&&&c)%2^i:Nat):Int)=(((a&&&(b|||c)|||b&&&c)%2^i:Nat):Int):=W2 (U32.of (Nat.lt_of_le_of_lt (Nat.mod_le _ _) hm))
  rw [Z6L,Z6L]
  cases a.testBit i<;>cases b.testBit i<;>cases c.testBit i<;>simp at h1 hx⊢ <;>first|rw [h1]|rw [hx]
theorem Zg1 {a b c:Int} (ha:U32 a) (hb:U32 b) (hc:U32 c):XL a b c=bOr .u32 (Z1F .u32 a (bOr .u32 b c)) (Z1F .u32 b c):=by
 obtain ⟨a,rfl,ga⟩:=ha.nat
 obtain ⟨b,rfl,gb⟩:=hb.nat
 obtain ⟨c,rfl,gc⟩:=hc.nat
 have h1:=Nat.or_lt_two_pow (n:=32) gb gc
 have h2:a&&&(b|||c)<4294967296:=Nat.lt_of_le_of_lt Nat.and_le_left ga
 have h3:b&&&c<4294967296:=Nat.lt_of_le_of_lt Nat.and_le_left gb
 rw [Z5E b c gb gc,Z3k a _ ga h1,Z3k b c gb gc,Z5E _ _ h2 h3]
 unfold XL
 rw [Z4F a b c ga gb gc 32 (by omega),Nat.mod_eq_of_lt]
 exact Nat.or_lt_two_pow (n:=32) h2 h3
theorem Z4G (a b c:Nat) (ha:a<4294967296) (hb:b<4294967296) (hc:c<4294967296):∀i,i<=32->VI a b c i=(((c^^^(a&&&(b^^^c)))%2^i:Nat):Int)
 | 0,_=>by simp [VI,Nat.mod_one]
 | i+1,hi=>by
  have hm:(c^^^(a&&&(b^^^c)))<4294967296:=Nat.xor_lt_two_pow (n:=32) hc (Nat.lt_of_le_of_lt Nat.and_le_left ha)
  rw [VI,Z4G a b c ha hb hc i (by omega),WG a i (by omega),WG b i (by omega),WG c i (by omega),<-Z9B _ i hm (by omega)]
  have ht:(c^^^(a&&&(b^^^c))).testBit i=(c.testBit i^^(a.testBit i&&(b.testBit i^^c.testBit i))):=by simp
  rw [ht]
  have h1:=Z5G true i (by omega)
  have h0:=Z5G false i (by omega)
  cases a.testBit i<;>cases b.testBit i<;>cases c.testBit i<;>simp at h1 h0⊢ <;>first|rw [h1]|rw [h0,Int.add_zero]
theorem Zg2 {a b c:Int} (ha:U32 a) (hb:U32 b) (hc:U32 c):XC a b c=X6 .u32 c (Z1F .u32 a (X6 .u32 b c)):=by
 obtain ⟨a,rfl,ga⟩:=ha.nat
 obtain ⟨b,rfl,gb⟩:=hb.nat
 obtain ⟨c,rfl,gc⟩:=hc.nat
 have h1:=Nat.xor_lt_two_pow (n:=32) gb gc
 have h2:a&&&(b^^^c)<4294967296:=Nat.lt_of_le_of_lt Nat.and_le_left ga
 rw [WW b c gb gc,Z3k a _ ga h1,WW _ _ gc h2]
 unfold XC
 rw [Z4G a b c ga gb gc 32 (by omega),Nat.mod_eq_of_lt]
 exact Nat.xor_lt_two_pow (n:=32) gc h2
theorem Z4H (bl:List Int) (t:Nat):Wl bl (t+1)=(Wl bl t).set t (if t<16 then Z8t bl t else Zd4 (Wl bl t) t):=by rw [Wl]
theorem Z4I (bl:List Int) (s t:Nat) (hs:s<t):∀u,(Wl bl (t+u)).getD s 0=(Wl bl t).getD s 0
 | 0=>rfl
 | u+1=>by
  rw [<-Nat.add_assoc,Z4H,<-Z4I bl s t hs u]
  simp only [List.getD_eq_getElem?_getD]
  rw [List.getElem?_set_ne (by omega)]
@[irreducible] def Z1M (bl:List Int) (t:Nat):Int:=(Wl bl 64).getD t 0
theorem Z0o (bl:List Int) {s t:Nat} (hs:s<t) (ht:t<=64):(Wl bl t).getD s 0=Z1M bl s:=by
 unfold Z1M
 have:=Z4I bl s t hs (64-t)
 rw [show t+(64-t)=64 by omega] at this
 exact this.symm
theorem Z9C (bl:List Int) {t:Nat} (ht:t<64):Z1M bl t=if t<16 then Z8t bl t else Zd4 (Wl bl t) t:=by
 rw [<-Z0o bl (Nat.lt_succ_self t) (by omega),Z4H]
 simp only [List.getD_eq_getElem?_getD]
 rw [List.getElem?_set_self (by rw [Z3h];omega)]
 rfl
theorem Z9D (bl:List Int) {t:Nat} (ht:t<16):Z1M bl t=Z8t bl t:=by rw [Z9C bl (by omega),if_pos ht]
theorem Z9E (bl:List Int) {t:Nat} (h16:16<=t) (ht:t<64):Z1M bl t=u32.wrap (u32.wrap (u32.wrap (rg3 17 19 10 (Z1M bl (t-2))+Z1M bl (t-7))+rg3 7 18 3 (Z1M bl (t-15)))+Z1M bl (t-16)):=by
 rw [Z9C bl (by omega),if_neg (by omega)]
 unfold Zd4
 rw [Z0o bl (by omega) (by omega),Z0o bl (by omega) (by omega),Z0o bl (by omega) (by omega),Z0o bl (by omega) (by omega)]
theorem Zdc (bl:List Int) {t:Nat} (ht:t<64):U32 (Z1M bl t):=by
 by_cases h:t<16
 ·rw [Z9D bl h];exact Z12 _
 ·rw [Z9E bl (by omega) ht];exact Z12 _
theorem Z0p (t:Nat):mAt (t:Int)=t%16:=by
 unfold mAt
 rw [tm (by omega)]
 omega
theorem Vd (i t:Nat) (hi:i<8) (ht:t<=64):atI (i:Int) (t:Int)=(i+64-t)%8:=by
 unfold atI
 rw [w64 (x:=(i:Int)+64) (by omega),w64 (by omega),tm (by omega)]
 omega
theorem Z3l (l:List Int) (i j:Nat) (x:Int) (hi:i<l.length):(l.set i x).getD j 0=if i=j then x else l.getD j 0:=by
 simp only [List.getD_eq_getElem?_getD]
 by_cases h:i=j
 ·subst h
  rw [List.getElem?_set_self hi,if_pos rfl];rfl
 ·rw [List.getElem?_set_ne h,if_neg h]
def Ring (bl r:List Int) (t:Nat):Prop:=r.length=16/\∀s,s<max 16 t->max 16 t<=s+16->r.getD (s%16) 0=Z1M bl s
theorem Ring.step {bl r:List Int} {t:Nat} (h:Ring bl r t) (ht:t<64):Ring bl (QQ t r) (t+1):=by
 obtain ⟨hl,hr⟩:=h
 refine ⟨by rw [Z6w,hl],fun s h1 h2=> ?_⟩
 unfold QQ
 by_cases h16:t<16
 ·rw [if_neg (by omega)]
  exact hr s (by omega) (by omega)
 ·rw [if_pos (by omega)]
  have w1:i64.wrap ((t:Int)+1)=((t+1:Nat):Int):=by rw [w64 (by omega)];omega
  have w9:i64.wrap ((t:Int)+9)=((t+9:Nat):Int):=by rw [w64 (by omega)];omega
  have w14:i64.wrap ((t:Int)+14)=((t+14:Nat):Int):=by rw [w64 (by omega)];omega
  have r0:=hr (t-16) (by omega) (by omega)
  have r1:=hr (t-15) (by omega) (by omega)
  have r9:=hr (t-7) (by omega) (by omega)
  have r14:=hr (t-2) (by omega) (by omega)
  rw [show (t-16)%16=t%16 by omega] at r0
  rw [show (t-15)%16=(t+1)%16 by omega] at r1
  rw [show (t-7)%16=(t+9)%16 by omega] at r9
  rw [show (t-2)%16=(t+14)%16 by omega] at r14
  rw [w1,w9,w14,Z0p,Z0p,Z0p,Z0p,r0,r1,r9,r14,Z3l _ _ _ _ (by rw [hl];omega)]
  by_cases hs:s=t
  ·subst hs
   rw [if_pos rfl,Z9E bl (by omega) ht]
   have e1:=Z9z (Zdc bl (t:=s-2) (by omega)) 17 19 10 (by omega)
   have e2:=Z9z (Zdc bl (t:=s-15) (by omega)) 7 18 3 (by omega)
   rw [show ((10:Nat):Int)=10 from rfl] at e1
   rw [show ((3:Nat):Int)=3 from rfl] at e2
   rw [e1,e2]
   simp only [Z6L]
   omega
  ·rw [if_neg (by omega)]
   exact hr s (by omega) (by omega)
def U8 (x:Int):Prop:=0<=x/\x<256
theorem Z22 (x n:Nat) (hn:n<=32) (h:x*2^n<4294967296):ZJ .u32 x n=((x*2^n:Nat):Int):=by
 unfold ZJ
 have:min (n:Int).toNat u32.bits=n:=by simp [IntKind.bits];omega
 rw [this,show (x:Int)*2^n=((x*2^n:Nat):Int) by push_cast;rfl]
 exact W2 (U32.of h)
theorem Z23 (x y:Nat) (hx:x<16777216) (hy:y<256):bOr .u32 (ZJ .u32 x 8) y=((x*256+y:Nat):Int):=by
 have:=Z22 x 8 (by omega) (by omega)
 rw [show ((8:Nat):Int)=8 from rfl] at this
 rw [this,Z5E _ _ (by omega) (by omega),<-Nat.shiftLeft_eq,<-Nat.shiftLeft_add_eq_or_of_lt (by omega),Nat.shiftLeft_eq]
theorem UD {P:Int->Prop} {l:List Int} (h:∀x∈l,P x) (h0:P 0) (i:Nat):P (l.getD i 0):=by
 rw [List.getD_eq_getElem?_getD]
 cases hg:l[i]? with
 | none=>exact h0
 | some x=>exact h x (List.mem_of_getElem? hg)
theorem U8.nat {x:Int} (h:U8 x):∃n:Nat,x=n/\n<256:=⟨x.toNat,by unfold U8 at h;omega,by unfold U8 at h;omega⟩
theorem Zg3 (bl:List Int) (hb:∀x∈bl,U8 x) (t:Nat):W7 bl (4*t)=Z8t bl t:=by
 unfold W7 Z8t
 obtain ⟨a,ea,ha⟩:=(UD (P:=U8) hb (by unfold U8;omega) (4*t)).nat
 obtain ⟨b,eb,hb'⟩:=(UD (P:=U8) hb (by unfold U8;omega) (4*t+1)).nat
 obtain ⟨c,ec,hc⟩:=(UD (P:=U8) hb (by unfold U8;omega) (4*t+2)).nat
 obtain ⟨d,ed,hd⟩:=(UD (P:=U8) hb (by unfold U8;omega) (4*t+3)).nat
 rw [ea,eb,ec,ed]
 rw [W2 (x:=(a:Int)) (U32.of (by omega)),W2 (x:=(b:Int)) (U32.of (by omega)),W2 (x:=(c:Int)) (U32.of (by omega)),W2 (x:=(d:Int)) (U32.of (by omega))]
 have z:=Z23 0 a (by omega) ha
 have s0:ZJ .u32 0 8=0:=by decide
 rw [show ZJ .u32 ((0:Nat):Int) 8=0 from s0] at z
 rw [z,Z23 _ b (by omega) hb',Z23 _ c (by omega) hc,Z23 _ d (by omega) hd]
 have g1:=Z22 a 24 (by omega) (by omega)
 have g2:=Z22 b 16 (by omega) (by omega)
 have g3:=Z22 c 8 (by omega) (by omega)
 rw [show ((24:Nat):Int)=24 from rfl] at g1
 rw [show ((16:Nat):Int)=16 from rfl] at g2
 rw [show ((8:Nat):Int)=8 from rfl] at g3
 rw [g1,g2,g3]
 simp only [Z6L]
 omega
theorem Ring.first (bl:List Int) (hb:∀x∈bl,U8 x):Ring bl (WT bl) 0:=by
 refine ⟨rfl,fun s h1 _=> ?_⟩
 have h16:s<16:=by omega
 rw [Z9D bl h16,<-Zg3 bl hb,Nat.mod_eq_of_lt h16]
 have:s=0\/s=1\/s=2\/s=3\/s=4\/s=5\/s=6\/s=7\/s=8\/s=9\/s=10\/s=11\/s=12\/s=13\/s=14\/s=15:=by omega
 rcases this with rfl|rfl|rfl|rfl|rfl|rfl|rfl|rfl|rfl|rfl|rfl|rfl|rfl|rfl|rfl|rfl<;>rfl
def Z3m (x y:List Int) (t:Nat):Prop:=x.length=8/\∀i,i<8->x.getD ((i+64-t)%8) 0=y.getD i 0
theorem Z3m.step {x y m:List Int} {w:Int} {t:Nat} (h:Z3m x y t) (hU:∀i,i<8->U32 (y.getD i 0)) (ht:t<64) (hm:m.getD (t%16) 0=w):
  Z3m (Z3Z t m x) (Z1u XL XC (Vk.getD t 0) w y) (t+1):=by
 obtain ⟨hl,hr⟩:=h
 have a0:=Vd 0 t (by omega) (by omega)
 have a1:=Vd 1 t (by omega) (by omega)
 have a2:=Vd 2 t (by omega) (by omega)
 have a3:=Vd 3 t (by omega) (by omega)
 have a4:=Vd 4 t (by omega) (by omega)
 have a5:=Vd 5 t (by omega) (by omega)
 have a6:=Vd 6 t (by omega) (by omega)
 have a7:=Vd 7 t (by omega) (by omega)
 have h0:=hr 0 (by omega)
 have h1:=hr 1 (by omega)
 have h2:=hr 2 (by omega)
 have h3:=hr 3 (by omega)
 have h4:=hr 4 (by omega)
 have h5:=hr 5 (by omega)
 have h6:=hr 6 (by omega)
 have h7:=hr 7 (by omega)
 rw [<-a0] at h0
 rw [<-a1] at h1
 rw [<-a2] at h2
 rw [<-a3] at h3
 rw [<-a4] at h4
 rw [<-a5] at h5
 rw [<-a6] at h6
 rw [<-a7] at h7
 refine ⟨by rw [Z6x,hl], ?_⟩
 have hadd:Z0Y t m x=u32.wrap (u32.wrap (u32.wrap (u32.wrap (y.getD 7 0+sg3 6 11 25 (y.getD 4 0))+XC (y.getD 4 0) (y.getD 5 0) (y.getD 6 0))+Vk.getD t 0)+w):=by
  unfold Z0Y
  rw [Z0p,hm]
  rw [show atI 7 (t:Int)=atI ((7:Nat):Int) t from rfl,show atI 4 (t:Int)=atI ((4:Nat):Int) t from rfl,show atI 5 (t:Int)=atI ((5:Nat):Int) t from rfl,show atI 6 (t:Int)=atI ((6:Nat):Int) t from rfl]
  rw [h4,h5,h6,h7,Z9y (hU 4 (by omega)),Zg2 (hU 4 (by omega)) (hU 5 (by omega)) (hU 6 (by omega))]
  rw [Nat.zero_add,Int.toNat_natCast]
 unfold Z3Z
 rw [hadd]
 rw [show atI 7 (t:Int)=atI ((7:Nat):Int) t from rfl,show atI 3 (t:Int)=atI ((3:Nat):Int) t from rfl,show atI 0 (t:Int)=atI ((0:Nat):Int) t from rfl,show atI 1 (t:Int)=atI ((1:Nat):Int) t from rfl,show atI 2 (t:Int)=atI ((2:Nat):Int) t from rfl]
 rw [h0,h1,h2,h3,<-Zg1 (hU 0 (by omega)) (hU 1 (by omega)) (hU 2 (by omega)),<-Z9y (hU 0 (by omega)),a3,a7]
 intro i hi
 rw [Z3l _ _ _ _ (by rw [List.length_set,hl];omega),Z3l _ _ _ _ (by rw [hl];omega)]
 unfold Z1u
 have:i=0\/i=1\/i=2\/i=3\/i=4\/i=5\/i=6\/i=7:=by omega
 rcases this with rfl|rfl|rfl|rfl|rfl|rfl|rfl|rfl
 ·rw [if_pos (by omega)]
  simp only [Z6L,List.getD_cons_zero]
  omega
 ·rw [if_neg (by omega),if_neg (by omega),show (1+64-(t+1))%8=(0+64-t)%8 by omega,hr 0 (by omega)];rfl
 ·rw [if_neg (by omega),if_neg (by omega),show (2+64-(t+1))%8=(1+64-t)%8 by omega,hr 1 (by omega)];rfl
 ·rw [if_neg (by omega),if_neg (by omega),show (3+64-(t+1))%8=(2+64-t)%8 by omega,hr 2 (by omega)];rfl
 ·rw [if_neg (by omega),if_pos (by omega)];rfl
 ·rw [if_neg (by omega),if_neg (by omega),show (5+64-(t+1))%8=(4+64-t)%8 by omega,hr 4 (by omega)];rfl
 ·rw [if_neg (by omega),if_neg (by omega),show (6+64-(t+1))%8=(5+64-t)%8 by omega,hr 5 (by omega)];rfl
 ·rw [if_neg (by omega),if_neg (by omega),show (7+64-(t+1))%8=(6+64-t)%8 by omega,hr 6 (by omega)];rfl
theorem Zg4 {k w:Int} {y:List Int} (hU:∀i,i<8->U32 (y.getD i 0)):∀i,i<8->U32 ((Z1u XL XC k w y).getD i 0):=by
 intro i hi
 unfold Z1u
 have:i=0\/i=1\/i=2\/i=3\/i=4\/i=5\/i=6\/i=7:=by omega
 rcases this with rfl|rfl|rfl|rfl|rfl|rfl|rfl|rfl
 ·exact Z12 _
 ·exact hU 0 (by omega)
 ·exact hU 1 (by omega)
 ·exact hU 2 (by omega)
 ·exact Z12 _
 ·exact hU 4 (by omega)
 ·exact hU 5 (by omega)
 ·exact hU 6 (by omega)
def W8 (st:List Int):Prop:=st.length=8/\∀x∈st,U32 x
theorem W8.get {st:List Int} (h:W8 st) (i:Nat):U32 (st.getD i 0):=UD h.2 (by unfold U32;omega) i
theorem Z6M (bl st:List Int) (hb:∀x∈bl,U8 x) (hs:W8 st):∀t,t<=64->Ring bl (Wz (WT bl) st t).1 t/\Z3m (Wz (WT bl) st t).2 (UB XL XC (Wl bl 64) st t) t/\∀i,i<8->U32 ((UB XL XC (Wl bl 64) st t).getD i 0)
 | 0,_=>by
  rw [Z4n,Zb9]
  refine ⟨Ring.first bl hb,⟨hs.1,fun i hi=> ?_⟩,fun i _=>hs.get i⟩
  rw [show (i+64-0)%8=i by omega]
 | t+1,h=>by
  obtain ⟨h1,h2,h3⟩:=Z6M bl st hb hs t (by omega)
  rw [Z4o,Zb8]
  have hR:=h1.step (by omega)
  refine ⟨hR,h2.step h3 (by omega) ?_,Zg4 h3⟩
  rw [hR.2 t (by omega) (by omega)]
  unfold Z1M
  rfl
theorem Zbf (st x:List Int) (i:Nat):Vl st x (i+1)=(Vl st x i).set i (u32.wrap ((Vl st x i).getD i 0+st.getD i 0)):=by rw [Vl]
theorem Zbg (st x:List Int):Vl st x 0=x:=by rw [Vl]
theorem Zg5 (st x:List Int) (hs:st.length=8) (hx:x.length=8):Vl st x 8=ZaU st x:=by
 obtain ⟨a0,a1,a2,a3,a4,a5,a6,a7,rfl⟩:=eight st hs
 obtain ⟨b0,b1,b2,b3,b4,b5,b6,b7,rfl⟩:=eight x hx
 simp only [Zbf,Zbg]
 simp [ZaU,List.set,Int.add_comm]
theorem Z8x {x y:List Int} (h:Z3m x y 64) (hy:y.length=8):y=x:=by
 obtain ⟨h4,h5⟩:=h
 obtain ⟨a0,a1,a2,a3,a4,a5,a6,a7,rfl⟩:=eight _ hy
 obtain ⟨b0,b1,b2,b3,b4,b5,b6,b7,rfl⟩:=eight _ h4
 have g0:=h5 0 (by omega)
 have g1:=h5 1 (by omega)
 have g2:=h5 2 (by omega)
 have g3:=h5 3 (by omega)
 have g4:=h5 4 (by omega)
 have g5:=h5 5 (by omega)
 have g6:=h5 6 (by omega)
 have g7:=h5 7 (by omega)
 simp at g0 g1 g2 g3 g4 g5 g6 g7
 simp [g0,g1,g2,g3,g4,g5,g6,g7]
theorem Z6N (st bl:List Int) (hb:∀x∈bl,U8 x) (hs:W8 st):W1 st bl=Wi st bl:=by
 obtain ⟨_,h2,h3⟩:=Z6M bl st hb hs 64 (by omega)
 have hl:=Z0n (M:=XL) (P:=XC) (m:=Wl bl 64) hs.1 64
 unfold W1 Wi
 rw [Zg5 _ _ hs.1 hl]
 congr 1
 exact Z8x h2 hl
theorem Z6O (st bl:List Int) (hs:st.length=8):W8 (Wi st bl):=by
 refine ⟨Z4p st bl hs,fun x hx=> ?_⟩
 unfold Wi ZaU at hx
 obtain ⟨i,hi,rfl⟩:=List.getElem_of_mem hx
 simp only [List.getElem_zipWith]
 exact Z12 _
def Qd (P:List Int->List Int->List Int):Nat->List Int->List Int->List Int
 | 0,st,_=>st
 | n+1,st,ms=>Qd P n (P st (ms.take 64)) (ms.drop 64)
theorem Z13 (P:List Int->List Int->List Int):∀(n:Nat) (st ms:List Int),Qd P (n+1) st ms=P (Qd P n st ms) ((ms.drop (64*n)).take 64)
 | 0,_,_=>rfl
 | n+1,st,ms=>by
  rw [Qd,Z13 P n,List.drop_drop]
  rw [show 64+64*n=64*(n+1) by omega]
  rfl
theorem Z3n (P:List Int->List Int->List Int):∀(n:Nat) (st ms more:List Int),64*n<=ms.length->Qd P n st (ms++more)=Qd P n st ms
 | 0,_,_,_,_=>rfl
 | n+1,st,ms,more,h=>by
  rw [Qd,Qd,List.take_append_of_le_length (by omega),List.drop_append_of_le_length (by omega),Z3n P n _ _ _ (by rw [List.length_drop];omega)]
theorem Z3o:∀(n:Nat) (st ms:List Int),W8 st->(∀x∈ms,U8 x)->Qd W1 n st ms=Qd Wi n st ms
 | 0,_,_,_,_=>rfl
 | n+1,st,ms,hs,hm=>by
  rw [Qd,Qd,Z6N st _ (fun x hx=>hm x (List.mem_of_mem_take hx)) hs]
  exact Z3o n _ _ (Z6O st _ hs.1) fun x hx=>hm x (List.mem_of_mem_drop hx)
structure Rep (r:ZE) (ms:List Int):Prop where
 came:r.came=ms.length
 st:r.st=Qd Wi (ms.length/64) Xm.st ms
 len:r.part.length=64
 part:r.part.take (ms.length%64)=ms.drop (64*(ms.length/64))
theorem Rep.ok {r:ZE} {ms:List Int} (h:Rep r ms) (h8:r.st.length=8):r.Ok:=⟨h8,h.len,by rw [h.came];omega⟩
theorem Rep.one {r:ZE} {ms:List Int} (h:Rep r ms) (bs:List Int):Rep (r.one bs) (ms++wTk r.came bs):=by
 have ha:wAt r.came=ms.length%64:=by
  unfold wAt
  rw [h.came,tm (by omega)]
  omega
 have hk:(wTk r.came bs).length<=64-ms.length%64:=by
  unfold wTk
  rw [ha,List.length_take]
  omega
 have hdl:(ms.drop (64*(ms.length/64))).length=ms.length%64:=by rw [List.length_drop];omega
 have hp:VB r.part r.came bs=ms.drop (64*(ms.length/64))++wTk r.came bs++r.part.drop (ms.length%64+(wTk r.came bs).length):=by
  unfold VB spl
  rw [ha,h.part]
 have hl:(VB r.part r.came bs).length=64:=by
  rw [hp,List.length_append,List.length_append,hdl,List.length_drop,h.len]
  omega
 have hst:(r.one bs).st=if ms.length%64+(wTk r.came bs).length=64 then Wi r.st (VB r.part r.came bs) else r.st:=by
  show wSt _ _ _ _=_
  unfold wSt
  rw [ha]
 have hca:(r.one bs).came=r.came+(wTk r.came bs).length:=rfl
 have hpa:(r.one bs).part=VB r.part r.came bs:=rfl
 generalize wTk r.came bs=tk at*
 generalize VB r.part r.came bs=pa at*
 have hal:(ms++tk).length=ms.length+tk.length:=List.length_append
 refine ⟨by rw [hca,h.came,hal];omega, ?_,by rw [hpa];exact hl, ?_⟩
 ·rw [hst,h.st]
  by_cases h64:ms.length%64+tk.length=64
  ·rw [if_pos h64,hal,show (ms.length+tk.length)/64=ms.length/64+1 by omega,Z13,Z3n _ _ _ _ _ (by omega)]
   congr 1
   rw [List.drop_append_of_le_length (by omega),hp,show r.part.drop (ms.length%64+tk.length)=[] from List.drop_eq_nil_of_le (by rw [h.len];omega),List.append_nil,List.take_of_length_le (by rw [List.length_append,hdl];omega)]
  ·rw [if_neg h64,hal,show (ms.length+tk.length)/64=ms.length/64 by omega,Z3n _ _ _ _ _ (by omega)]
 ·rw [hpa,hal]
  by_cases h64:ms.length%64+tk.length=64
  ·rw [show (ms.length+tk.length)%64=0 by omega,List.take_zero,List.drop_eq_nil_of_le (by rw [hal];omega)]
  ·rw [show (ms.length+tk.length)/64=ms.length/64 by omega,show (ms.length+tk.length)%64=ms.length%64+tk.length by omega,hp,List.drop_append_of_le_length (by omega)]
   rw [List.take_append_of_le_length (by rw [List.length_append,hdl];omega)]
   exact List.take_of_length_le (by rw [List.length_append,hdl];omega)
theorem Rep.many:∀(n:Nat) (r:ZE) (ms bs:List Int),r.Ok->Rep r ms->bs.length<=n->Rep (ZE.many n r bs).1 (ms++bs)
 | 0,r,ms,bs,_,h,hn=>by
  have:bs=[]:=List.eq_nil_of_length_eq_zero (by omega)
  subst this
  rw [List.append_nil]
  exact h
 | n+1,r,ms,bs,hr,h,hn=>by
  unfold ZE.many
  split
  ·rw [List.append_nil];exact h
  ·rename_i b bs
   have hp:=Q2 hr (bs:=b::bs) (by simp)
   have hb:(b::bs)=wTk r.came (b::bs)++(b::bs).drop (wTk r.came (b::bs)).length:=by
    unfold wTk
    rw [List.length_take]
    by_cases h:64-wAt r.came<=(b::bs).length
    ·rw [Nat.min_eq_left h,List.take_append_drop]
    ·rw [Nat.min_eq_right (by omega),List.take_of_length_le (by omega),List.drop_length,List.append_nil]
   have:=Rep.many n _ _ ((b::bs).drop (wTk r.came (b::bs)).length) (hr.one _) (h.one (b::bs)) (by rw [List.length_drop];simp only [List.length_cons] at hn⊢;omega)
   rw [List.append_assoc,<-hb] at this
   exact this
theorem Rep.write {r:ZE} {ms:List Int} (hr:r.Ok) (h:Rep r ms) (bs:List Int):Rep (r.write bs) (ms++bs):=by
 unfold ZE.write
 exact Rep.many _ _ _ _ hr h (Nat.le_refl _)
theorem Rep.init:Rep Xm []:=⟨rfl,rfl,rfl,rfl⟩
def Z14 (bs:List Int):List Int:=bs++Qb bs.length++len8 bs.length
def Z8y (P:List Int->List Int->List Int) (bs:List Int):List Int:=Z6y (Qd P ((Z14 bs).length/64) Xm.st (Z14 bs))
theorem Rep.fin {r:ZE} {ms:List Int} (hr:r.Ok) (h:Rep r ms):r.fin=Z8y Wi ms:=by
 have h1:=h.write hr (Qb r.came)
 have h2:=h1.write (VC _ _ hr) (len8 r.came)
 unfold ZE.fin Z8y
 rw [h2.st,h.came]
 rfl
theorem Zdd (bs:List Int):Zs bs=Z8y Wi bs:=by
 unfold Zs
 have:=Rep.init.write VE bs
 exact this.fin (VC _ _ VE)
theorem Z6P:W8 Xm.st:=by
 refine ⟨rfl,fun x hx=> ?_⟩
 simp only [Xm,List.mem_cons,List.not_mem_nil,or_false] at hx
 unfold U32
 rcases hx with rfl|rfl|rfl|rfl|rfl|rfl|rfl|rfl<;>omega
theorem Zg6 (n:Int):∀x∈Qb n,U8 x:=by
 intro x hx
 unfold Qb at hx
 rcases List.mem_append.mp hx with h|h
 ·rw [List.mem_singleton] at h
  subst h
  unfold U8;omega
 ·rw [List.eq_of_mem_replicate h]
  unfold U8;omega
theorem ZiY (x:Int):U8 (u8.wrap x):=by rw [wr8];unfold U8;omega
theorem Zg7 (n:Int):∀x∈len8 n,U8 x:=by
 intro x hx
 unfold len8 Qr at hx
 simp only [List.mem_cons,List.not_mem_nil,or_false] at hx
 rcases hx with h|h|h|h|h|h|h|h<;>rw [h]<;>exact ZiY _
theorem Zbh {bs:List Int} (h:∀x∈bs,U8 x):∀x∈Z14 bs,U8 x:=by
 intro x hx
 unfold Z14 at hx
 rcases List.mem_append.mp hx with h1|h1
 ·rcases List.mem_append.mp h1 with h2|h2
  ·exact h x h2
  ·exact Zg6 _ x h2
 ·exact Zg7 _ x h1
end Go.Tk
end
section
namespace Go.Tk
open IntKind (i64 u8 u32 u64 wrap)
theorem Zg8:Q5 W1:=⟨fun st bl h=>Z6I st bl h,fun _ _ h=>Z5B h⟩
theorem Zde (x:List Int) (i:Nat):toN x (i+1)=((((toN x i).set (4*i) (u8.wrap (u32.wrap (Int.tdiv (x.getD i 0) 16777216)))).set (4*i+1) (toE (x.getD i 0) 65536)).set (4*i+2) (toE (x.getD i 0) 256)).set (4*i+3) (u8.wrap (Int.tmod (x.getD i 0) 256)):=by rw [toN]
theorem Zdf (x:List Int):toN x 0=Zf:=by rw [toN]
def four (x:Int):List Int:=[u8.wrap (u32.wrap (Int.tdiv x 16777216)),toE x 65536,toE x 256,u8.wrap (Int.tmod x 256)]
theorem Zbi (x:List Int):(U9 x).length=32:=by unfold U9;exact Z5C x 8
theorem Z8z (x:List Int) (h:x.length=8):U9 x=four (x.getD 0 0)++four (x.getD 1 0)++four (x.getD 2 0)++four (x.getD 3 0)++four (x.getD 4 0)++four (x.getD 5 0)++four (x.getD 6 0)++four (x.getD 7 0):=by
 unfold U9
 simp only [Zde,Zdf]
 generalize x.getD 0 0=x0
 generalize x.getD 1 0=x1
 generalize x.getD 2 0=x2
 generalize x.getD 3 0=x3
 generalize x.getD 4 0=x4
 generalize x.getD 5 0=x5
 generalize x.getD 6 0=x6
 generalize x.getD 7 0=x7
 kernel_rfl
theorem Zg9 (x:Int):u64.wrap x=x%18446744073709551616:=by
 unfold wrap
 simp [IntKind.bits,IntKind.signed]
theorem Z6Q (x n:Nat) (hn:n<=64):Zz .u64 x n=((x/2^n:Nat):Int):=by
 unfold Zz
 have:min (n:Int).toNat u64.bits=n:=by simp [IntKind.bits];omega
 rw [this,Int.fdiv_eq_ediv_of_nonneg _ (Int.le_of_lt (Int.pow_pos (by decide)))]
 simp
theorem XQ {x:Int} (h:U32 x):four x=Vb (u64.wrap x):=by
 obtain ⟨x,rfl,gx⟩:=h.nat
 have e:u64.wrap (x:Int)=x:=by rw [Zg9];omega
 have s24:=Z6Q x 24 (by omega)
 have s16:=Z6Q x 16 (by omega)
 have s8:=Z6Q x 8 (by omega)
 have s0:=Z6Q x 0 (by omega)
 rw [show ((24:Nat):Int)=24 from rfl] at s24
 rw [show ((16:Nat):Int)=16 from rfl] at s16
 rw [show ((8:Nat):Int)=8 from rfl] at s8
 rw [show ((0:Nat):Int)=0 from rfl] at s0
 have d1:Int.tdiv (x:Int) 16777216=(x:Int)/16777216:=Int.tdiv_eq_ediv_of_nonneg (by omega)
 have d2:Int.tdiv (x:Int) 65536=(x:Int)/65536:=Int.tdiv_eq_ediv_of_nonneg (by omega)
 have d3:Int.tdiv (x:Int) 256=(x:Int)/256:=Int.tdiv_eq_ediv_of_nonneg (by omega)
 unfold four Vb toE
 rw [e,s24,s16,s8,s0,d1,d2,d3]
 simp only [wr8,Z6L]
 rw [tm (a:=(x:Int)/65536%4294967296) (by omega),tm (a:=(x:Int)/256%4294967296) (by omega),tm (a:=(x:Int)) (by omega)]
 simp only [List.cons.injEq,and_true]
 omega
theorem Z8A {x:List Int} (h:W8 x):U9 x=Z6y x:=by
 rw [Z8z x h.1]
 unfold Z6y
 rw [XQ (h.get 0),XQ (h.get 1),XQ (h.get 2),XQ (h.get 3),XQ (h.get 4),XQ (h.get 5),XQ (h.get 6),XQ (h.get 7)]
theorem XR (n:Nat) (i:Nat) (hi:i<8):ZfV n i=u8.wrap (Zz .u64 (u64.wrap (u64.wrap n*8)) ((56-8*i:Nat):Int)):=by
 unfold ZfV
 have e1:i64.wrap (8*(i:Int))=8*(i:Int):=w64 (by omega)
 have e2:i64.wrap (56-8*(i:Int))=((56-8*i:Nat):Int):=by rw [w64 (by omega)];omega
 have e3:u64.wrap ((56-8*i:Nat):Int)=((56-8*i:Nat):Int):=by rw [Zg9];omega
 rw [e1,e2,e3]
 obtain ⟨m,hm⟩:∃m:Nat,u64.wrap (u64.wrap n*8)=m:=⟨(u64.wrap (u64.wrap n*8)).toNat,by rw [Zg9,Zg9];omega⟩
 rw [hm,Z6Q m _ (by omega)]
 generalize m/2^(56-8*i)=q
 rw [tm (by omega),wr8,wr8]
 omega
theorem Zbj (n:Nat):W6 n 8=len8 n:=by
 simp only [W6,List.nil_append,List.cons_append]
 unfold len8 Qr
 rw [XR n 0 (by omega),XR n 1 (by omega),XR n 2 (by omega),XR n 3 (by omega),XR n 4 (by omega),XR n 5 (by omega),XR n 6 (by omega),XR n 7 (by omega)]
 rfl
theorem Zbk (n:Nat) (h:n<=100000000000):[128]++Z1L n=Qb n:=by
 unfold Z1L Qb
 have e1:Int.tmod (n:Int) 64=(n:Int)%64:=tm (by omega)
 have e2:i64.wrap (119-(n:Int)%64)=119-(n:Int)%64:=w64 (by omega)
 rw [ZfX n h,e1,e2,tm (by omega)]
 congr 2
 omega
theorem Zdg (bs:List Int) (h:bs.length<=100000000000):UC bs=Z14 bs:=by
 unfold UC Z14
 rw [Zbj,List.append_assoc bs,Zbk _ h]
theorem Z4J (P:List Int->List Int->List Int) (ys:List Int):∀i,Qc P ys i=Qd P i Xm.st ys
 | 0=>Z4D P ys
 | i+1=>by rw [Z4E,Z13,Z4J P ys i]
theorem Z9F:∀(n:Nat) (st ms:List Int),W8 st->W8 (Qd Wi n st ms)
 | 0,_,_,h=>h
 | n+1,st,_,h=>Z9F n _ _ (Z6O st _ h.1)
@[irreducible] def WB (bs:List Int):List Int:=Zda W1 bs
theorem Z6R (bs:List Int):(WB bs).length=32:=by unfold WB Zda;exact Zbi _
theorem Z9G {bs:List Int} (h:∀x∈bs,U8 x) (hl:bs.length<=100000000000):WB bs=Zs bs:=by
 unfold WB Zda
 rw [Z4J,Zdg bs hl,Z3o _ _ _ Z6P (Zbh h),Z8A (Z9F _ _ _ Z6P),Zdd]
 rfl
theorem Z4K (xs:List Int) (h:xs.length<=100000000000):ZC PP 79 [.vints .u8 xs xs.length] (.agg [.arr .u8 32 (WB xs)]) 0 []:=by
 unfold WB
 exact Zbc Zg8 xs h
end Go.Tk
end
section
namespace Go.Tk
open IntKind (i64 u8 u32 u64 wrap)
end Go.Tk
end
section
namespace Go.Tk
open IntKind (i64 u8 u32 u64 wrap)
end Go.Tk
end
section
namespace Go.Tk
open IntKind (i64 u8 u32 u64 wrap)
theorem Bytes.u8 {xs:List Int} (h:Bytes xs):∀x∈xs,U8 x:=by
 intro x hx
 obtain ⟨i,hi,rfl⟩:=List.getElem_of_mem hx
 have:=h.h i
 rw [List.getD_eq_getElem?_getD,List.getElem?_eq_getElem hi] at this
 simp at this
 unfold U8
 omega
end Go.Tk
end
section
namespace Go.Tk
open IntKind (i64 u8 u32 u64 wrap)
structure ZV where
 fund:List Int
 index:Int
 cap:Int
 dust:Int
 fee:Int
 delay:Int
 k0:List Int
 k1:List Int
def ZV.c (t:ZV):List AV:=[.arr .u8 32 t.fund,.int .i64 t.index,.int .i64 t.cap,.int .i64 t.dust,.int .i64 t.fee,.int .i64 t.delay,.arr .u8 32 t.k0,.arr .u8 32 t.k1]
structure ZV.Ok (t:ZV):Prop where
 k0:t.k0.length=32
 k1:t.k1.length=32
 b0:Bytes t.k0
 b1:Bytes t.k1
def Xo (t:ZV):Bool:=decide (0<=t.index/\t.index<=23)&&decide (1000<=t.cap/\t.cap<=1125899906842624)&&decide (1<=t.dust/\t.dust<=500)&&decide (0<=t.fee/\t.fee<=400)&&decide (1<=t.delay/\t.delay<=1000)&&(t.k0 !=t.k1)
theorem UE (b:Bool) (x y:Prop):Z0 b x y=((b=true->x)/\(b=false->y)):=by cases b<;>simp [Z0]
theorem Zko (n a b:Int) (r:Bool) (hr:r=decide (a<=n/\n<=b)):
  evF G0 20 60 [.int .i64 n,.int .i64 a,.int .i64 b] ⟨0,[]⟩ (Yo (fun v=>v=.bool r)):=by
 refine @Eq.mpr _ (Z0 (decide (a<=n)) (AV.bool (decide (n<=b))=AV.bool r) (AV.bool false=AV.bool r)) (by kernel_rfl) ?_
 simp only [UE]
 subst hr
 by_cases h1:a<=n<;>by_cases h2:n<=b<;>simp [h1,h2]
def inQ:ZR:=fun args _ K=>match args with
 | [.int .i64 n,.int .i64 a,.int .i64 b]=>K (.bool (decide (a<=n/\n<=b)))
 | _=>False
theorem Zdh (args:List AV) (h:Za) (K:AV->Prop) (hl:inQ args h K):Zp PP 60 args h fun o h'=>∃v,o=.ret v/\h'=h/\K v:=by
 unfold inQ at hl
 split at hl
 ·exact Y7 Zv rfl (Zko _ _ _ _ rfl) (fun u hu=>hu▸hl)
 ·exact hl.elim
noncomputable def E71:Zg:=G0.withP 60 inQ
theorem Zdi:E71.Ok:=Zg.withP_ok Zv Zdh
theorem Zkp (t:ZV) (e:Int) (ht:t.Ok) (he:e=if Xo t=true then 0 else 2):
  evF E71 20 58 [.agg t.c] ⟨0,[]⟩ (Yo (fun v=>v=.int .i64 e)):=by
 refine @Eq.mpr _ (let q1:=AV.int i64 2=AV.int i64 e;
 Z0 (decide (List.length t.k0=32/\List.length t.k1=32)) (Z0 (false==decide (0<=t.index/\t.index<=23)) q1 (Z0 (false==decide (1000<=t.cap/\t.cap<=1125899906842624)) q1 (Z0 (false==decide (1<=t.dust/\t.dust<=500)) q1 (Z0 (false==decide (0<=t.fee/\t.fee<=400)) q1 (Z0 (false==decide (1<=t.delay/\t.delay<=1000)) q1 (Z0 (false== !t.k0==t.k1) q1 (AV.int i64 0=AV.int i64 e))))))) False) (by kernel_rfl) ?_
 conv=>zeta
 try simp only [Zj]
 try simp only [Zl]
 try simp only [Zi]
 try simp only [Zm]
 try simp only [Zn]
 try simp only [Zh]
 try simp only [Int.toNat_natCast,Nat.zero_add,true_and,and_true,Nat.le_refl]
 unfold Xo at he
 refine ⟨⟨ht.k0,ht.k1⟩, ?_⟩
 generalize decide (0<=t.index/\t.index<=23)=c1 at*
 generalize decide (1000<=t.cap/\t.cap<=1125899906842624)=c2 at*
 generalize decide (1<=t.dust/\t.dust<=500)=c3 at*
 generalize decide (0<=t.fee/\t.fee<=400)=c4 at*
 generalize decide (1<=t.delay/\t.delay<=1000)=c5 at*
 have h6:(t.k0 !=t.k1)= !(t.k0==t.k1):=rfl
 rw [h6] at he
 generalize (t.k0==t.k1)=c6 at*
 cases c1<;>cases c2<;>cases c3<;>cases c4<;>cases c5<;>cases c6<;>simp_all
theorem Zkq (t:ZV) (b:Bool) (ht:t.Ok) (hb:b=Xo t):
  evF G0 20 97 [.agg t.c] ⟨0,[]⟩ (Yo (fun v=>v=.bool b)):=by
 refine @Eq.mpr _ (let q1:=t.cap;let q2:=AV.bool false=AV.bool b;
 Z0 (decide (t.index>=0)) (Z0 (decide (t.index<24)) (Z0 (decide (q1>=1000)) (Z0 (decide (q1>=0)) (Z0 (decide (q1<=1125899906842624)) (Z0 (decide (t.dust>=1)) (Z0 (decide (t.dust<=500)) (Z0 (decide (t.fee>=0)) (Z0 (decide (t.fee<=400)) (Z0 (decide (t.delay>=1)) (Z0 (decide (t.delay<=1000)) (Z0 (decide (List.length t.k0=32/\List.length t.k1=32)) ((AV.bool !t.k0==t.k1)=AV.bool b) False) q2) q2) q2) q2) q2) q2) q2) q2) q2) q2) q2) (by kernel_rfl) ?_
 conv=>zeta
 try simp only [Zj]
 try simp only [Zl]
 try simp only [Zi]
 try simp only [Zm]
 try simp only [Zn]
 try simp only [Zh]
 try simp only [Int.toNat_natCast,Nat.zero_add,true_and,and_true,Nat.le_refl]
 subst hb
 unfold Xo
 repeat' (first|(refine And.intro ?_ ?_)|intro _|fail)
 all_goals first
  | exact ht.k0
  | exact ht.k1
  | (congr 1;symm;rw [Bool.eq_false_iff];simp only [ne_eq,Bool.and_eq_true,decide_eq_true_eq];intro h;omega)
  | (congr 1;have h1:(0<=t.index/\t.index<=23):=(by omega);have h2:(1000<=t.cap/\t.cap<=1125899906842624):=(by omega);have h3:(1<=t.dust/\t.dust<=500):=(by omega);have h4:(0<=t.fee/\t.fee<=400):=(by omega);have h5:(1<=t.delay/\t.delay<=1000):=(by omega);rw [decide_eq_true h1,decide_eq_true h2,decide_eq_true h3,decide_eq_true h4,decide_eq_true h5];rfl)
def Z6S:ZR:=fun args _ K=>match args with
 | [.agg [.arr .u8 32 fu,.int .i64 ix,.int .i64 ca,.int .i64 du,.int .i64 fe,.int .i64 de,.arr .u8 32 k0,.arr .u8 32 k1]]=>(ZV.Ok ⟨fu,ix,ca,du,fe,de,k0,k1⟩)/\K (.int .i64 (if Xo ⟨fu,ix,ca,du,fe,de,k0,k1⟩=true then 0 else 2))
 | _=>False
theorem Z6T (args:List AV) (h:Za) (K:AV->Prop) (hl:Z6S args h K):Zp PP 58 args h fun o h'=>∃v,o=.ret v/\h'=h/\K v:=by
 unfold Z6S at hl
 split at hl
 ·obtain ⟨ht,hK⟩:=hl
  exact Y7 Zdi rfl (Zkp ⟨_,_,_,_,_,_,_,_⟩ _ ht rfl) (fun u hu=>hu▸hK)
 ·exact hl.elim
def Z8B:ZR:=fun args _ K=>match args with
 | [.agg [.arr .u8 32 fu,.int .i64 ix,.int .i64 ca,.int .i64 du,.int .i64 fe,.int .i64 de,.arr .u8 32 k0,.arr .u8 32 k1]]=>(ZV.Ok ⟨fu,ix,ca,du,fe,de,k0,k1⟩)/\K (.bool (Xo ⟨fu,ix,ca,du,fe,de,k0,k1⟩))
 | _=>False
theorem Zbl (args:List AV) (h:Za) (K:AV->Prop) (hl:Z8B args h K):Zp PP 97 args h fun o h'=>∃v,o=.ret v/\h'=h/\K v:=by
 unfold Z8B at hl
 split at hl
 ·obtain ⟨ht,hK⟩:=hl
  exact Y7 Zv rfl (Zkq ⟨_,_,_,_,_,_,_,_⟩ _ ht rfl) (fun u hu=>hu▸hK)
 ·exact hl.elim
end Go.Tk
end
section
namespace Go.Tk
open IntKind (i64 u8 u32 u64 wrap)
structure Z7 where
 own:Bool
 id:Int
 amount:Int
 hash:List Int
 expiry:Int
 stage:Int
 fin:Int
 secret:List Int
def Z7.c (h:Z7):List AV:=[.bool h.own,.int .i64 h.id,.int .i64 h.amount,.arr .u8 32 h.hash,.int .i64 h.expiry,.int .i64 h.stage,.int .i64 h.fin,.arr .u8 32 h.secret]
structure Z7.Ok (h:Z7):Prop where
 hash:h.hash.length=32
 hb:Bytes h.hash
 secret:h.secret.length=32
 sb:Bytes h.secret
def Zc:Z7:=⟨false,0,0,Zf,0,0,0,Zf⟩
def Z6 (L:List Z7) (i:Nat):List AV:=(L.getD i Zc).c
structure Z8 where
 t:ZV
 side:Int
 res:Int
 a0:Int
 a1:Int
 i0:Int
 i1:Int
 L:List Z7
def Z8.c (X:Z8) (l:AV):List AV:=X.t.c++[.int .i64 X.side,.int .i64 X.res,.arr .i64 2 [X.a0,X.a1],.arr .i64 2 [X.i0,X.i1],l]
def ZD (side:Int) (own:Bool):Int:=match own with|true=>side|false=>1-side
def Z8.nx (X:Z8) (own:Bool):Int:=match own with|true=>X.i0|false=>X.i1
def Z8.am (X:Z8) (s:Int):Int:=if s=0 then X.a0 else X.a1
def ZP (side s:Int) (L:List Z7):List Z7:=L.filter fun h=>decide (ZD side h.own=s)
def Xe (L:List Z7):List Int:=L.map (·.amount)
def Yl (X:Z8) (s:Int):Int:=X.am s-(Xe (ZP X.side s X.L)).sum-X.res-(if s=0 then X.t.fee else 0)
def Yp (h:Z7):Bool:=decide (0<=h.id/\h.id<=2147483647)&&decide (1<=h.amount/\h.amount<=1125899906842624)&&decide (1<=h.expiry/\h.expiry<=2147483647)
def Z0q (H:List Int->List Int) (h:Z7):Bool:=if h.fin=0 then decide (h.stage<6)&&(h.secret==Zf) else if h.fin=1 then decide (6<=h.stage)&&(H h.secret==h.hash) else if h.fin=2 then decide (6<=h.stage)&&(h.secret==Zf) else false
def XE (H:List Int->List Int) (X:Z8) (h:Z7):Bool:=Yp h&&decide (h.id<X.nx h.own)&&decide (1<=h.stage/\h.stage<=9)&&Z0q H h
def XG (a b:Z7):Prop:=(a.own=true/\b.own=false)\/(a.own=b.own/\a.id<b.id/\min b.stage 5<=min a.stage 5)
instance (a b:Z7):Decidable (XG a b):=by unfold XG;infer_instance
def W3 (H:List Int->List Int) (X:Z8) (i:Nat):Bool:=XE H X (X.L.getD i Zc)&&(Nat.beq i 0||decide (XG (X.L.getD (i-1) Zc) (X.L.getD i Zc)))
def Z6U (X:Z8):Bool:=Xo X.t&&decide (0<=X.side/\X.side<=1)&&decide (0<=X.res/\X.res<=X.t.cap/10)&&decide (0<=X.a0/\X.a0<=X.t.cap)&&decide (X.a1=X.t.cap-X.a0)&&decide (0<=X.i0/\X.i0<=2147483648)&&decide (0<=X.i1/\X.i1<=2147483648)&&decide ((ZP X.side 0 X.L).length<=8)&&decide ((ZP X.side 1 X.L).length<=8)
def Yb (H:List Int->List Int) (X:Z8):Bool:=Z6U X&&(List.range X.L.length).all (W3 H X)&&decide (0<=Yl X 0)&&(decide ((ZP X.side 1 X.L).length=0)||decide (0<=Yl X 1))
theorem Z8C {a b c:Z7} (h1:XG a b) (h2:XG b c):XG a c:=by
 unfold XG at*
 rcases h1 with ⟨p1,p2⟩|⟨p1,p2,p3⟩<;>rcases h2 with ⟨q1,q2⟩|⟨q1,q2,q3⟩
 ·rw [p2] at q1;cases q1
 ·exact .inl ⟨p1,by rw [<-q1,p2]⟩
 ·exact .inl ⟨by rw [p1,q1],q2⟩
 ·exact .inr ⟨p1.trans q1,by omega,by omega⟩
theorem Ua {α:Type} {R:α->α->Prop} (ht:∀{a b c},R a b->R b c->R a c) (d:α):∀(L:List α),(∀i,i+1<L.length->R (L.getD i d) (L.getD (i+1) d))->L.Pairwise R
 | [],_=>.nil
 | [a],_=>by simp
 | a::b::r,h=>by
  have ih:=Ua (R:=R) ht d (b::r) fun i hi=>by
   have:=h (i+1) (by simpa using hi)
   rw [List.getD_cons_succ,List.getD_cons_succ] at this
   exact this
  refine List.pairwise_cons.2 ⟨fun z hz=> ?_,ih⟩
  have hab:R a b:=by simpa using h 0 (by simp)
  rcases List.mem_cons.1 hz with rfl|hz
  ·exact hab
  ·exact ht hab ((List.pairwise_cons.1 ih).1 z hz)
structure Z8.Inv (H:List Int->List Int) (X:Z8):Prop where
 tok:X.t.Ok
 tb:Xo X.t=true
 side:X.side=0\/X.side=1
 res:0<=X.res/\X.res<=X.t.cap/10
 a0:0<=X.a0/\X.a0<=X.t.cap
 a1:X.a1=X.t.cap-X.a0
 i0:0<=X.i0/\X.i0<=2147483648
 i1:0<=X.i1/\X.i1<=2147483648
 n0:(ZP X.side 0 X.L).length<=8
 n1:(ZP X.side 1 X.L).length<=8
 und:∀h∈X.L,XE H X h=true
 fol:X.L.Pairwise XG
 ov0:0<=Yl X 0
 ov1:ZP X.side 1 X.L=[]\/0<=Yl X 1
 ok:∀h∈X.L,h.Ok
theorem Z15 {X:Z8}:Z6U X=true↔Xo X.t=true/\(0<=X.side/\X.side<=1)/\(0<=X.res/\X.res<=X.t.cap/10)/\(0<=X.a0/\X.a0<=X.t.cap)/\X.a1=X.t.cap-X.a0/\(0<=X.i0/\X.i0<=2147483648)/\(0<=X.i1/\X.i1<=2147483648)/\(ZP X.side 0 X.L).length<=8/\(ZP X.side 1 X.L).length<=8:=by
 unfold Z6U
 simp only [Bool.and_eq_true,decide_eq_true_eq,and_assoc]
theorem QX {H:List Int->List Int} {X:Z8}:Yb H X=true↔Z6U X=true/\(∀i,i<X.L.length->W3 H X i=true)/\0<=Yl X 0/\((ZP X.side 1 X.L).length=0\/0<=Yl X 1):=by
 unfold Yb
 simp only [Bool.and_eq_true,Bool.or_eq_true,decide_eq_true_eq,and_assoc,List.all_eq_true,List.mem_range]
theorem ZM {L:List Z7} {i:Nat} (h:i<L.length):L.getD i Zc∈L:=by
 rw [List.getD_eq_getElem?_getD,List.getElem?_eq_getElem h];exact List.getElem_mem h
theorem Z24 {H:List Int->List Int} {X:Z8} (ht:X.t.Ok) (hok:∀h∈X.L,h.Ok):Yb H X=true↔X.Inv H:=by
 rw [QX,Z15]
 constructor
 ·rintro ⟨⟨h1,h2,h3,h4,h5,h6,h7,h8,h9⟩,hl,h10,h11⟩
  refine ⟨ht,h1,by omega,h3,h4,h5,h6,h7,h8,h9,fun h hh=> ?_, ?_,h10, ?_,hok⟩
  ·obtain ⟨i,hi,rfl⟩:=List.getElem_of_mem hh
   have:=hl i hi
   unfold W3 at this
   simp only [Bool.and_eq_true] at this
   rw [List.getD_eq_getElem?_getD,List.getElem?_eq_getElem hi] at this
   exact this.1
  ·refine Ua (R:=XG) Z8C Zc X.L fun i hi=> ?_
   have:=hl (i+1) hi
   unfold W3 at this
   simp only [Bool.and_eq_true,Bool.or_eq_true,decide_eq_true_eq,Nat.add_sub_cancel] at this
   rcases this.2 with h|h
   ·have:=Nat.eq_of_beq_eq_true h;omega
   ·exact h
  ·rcases h11 with h|h
   ·exact .inl (List.eq_nil_of_length_eq_zero h)
   ·exact .inr h
 ·intro h
  refine ⟨⟨h.tb,by have:=h.side;omega,h.res,h.a0,h.a1,h.i0,h.i1,h.n0,h.n1⟩,fun i hi=> ?_,h.ov0, ?_⟩
  ·unfold W3
   simp only [Bool.and_eq_true,Bool.or_eq_true,decide_eq_true_eq]
   refine ⟨h.und _ (ZM hi), ?_⟩
   cases i with
   | zero=>exact .inl rfl
   | succ i=>
    right
    rw [Nat.add_sub_cancel,List.getD_eq_getElem?_getD,List.getD_eq_getElem?_getD,List.getElem?_eq_getElem hi,List.getElem?_eq_getElem (by omega)]
    exact (List.pairwise_iff_getElem.1 h.fol) i (i+1) (by omega) hi (by omega)
  ·rcases h.ov1 with h|h
   ·exact .inl (by rw [h];rfl)
   ·exact .inr h
def Wm (own:Bool) (s:Int):Int:=if s<1\/9<s\/s=5 then 0 else match own with
 | true=>if s<5 then s else (s-4)%4+1
 | false=>if s<5 then (s+1)%4+1 else s-5
def ZZ (own:Bool) (s m:Int):Int:=if Wm own s=m then s+1 else s
def YG (own:Bool) (s:Int) (ours:Bool):Bool:=if own=ours then decide (4<=s/\s<=6) else decide (2<=s/\s<=8)
def YE (own:Bool) (s:Int):Int:=if s<1\/10<s\/(own=false/\s=1) then 0 else if own=true/\s=6 then 5 else s
def Xu (h:Z7):List Z7->List Z7
 | []=>[h]
 | x::r=>if h.own=true/\x.own=false then h::x::r else x::Xu h r
def Xf (X:Z8) (own:Bool) (id am:Int) (hash:List Int) (ex:Int):Z7:=⟨own,id,am,hash,ex,1,0,Zf⟩
def XH (X:Z8) (own:Bool) (id am:Int) (hash:List Int) (ex:Int):Int:=
 if Yp (Xf X own id am hash ex)=false then 2 else if id≠X.nx own then 200 else if 8<=(ZP X.side (ZD X.side own) X.L).length then 201 else if Yl X (ZD X.side own)<am then 202 else 0
def XI (X:Z8) (own:Bool) (d:Int):Z8:=match own with
 | true=>{ X with i0:=X.i0+d}
 | false=>{ X with i1:=X.i1+d}
def addX (X:Z8) (own:Bool) (id am:Int) (hash:List Int) (ex:Int):Z8:=if XH X own id am hash ex=0 then { XI X own 1 with L:=Xu (Xf X own id am hash ex) X.L} else X
def ZW (own:Bool) (id:Int):List Z7->Nat
 | []=>0
 | x::r=>if x.own=own/\x.id=id then 0 else ZW own id r+1
def Xd (H:List Int->List Int) (X:Z8) (own:Bool) (id k:Int) (sec:List Int):Int:=
 if X.L.length<=ZW own id X.L then 5 else if (X.L.getD (ZW own id X.L) Zc).stage≠5 then 190 else if k=1/\H sec≠(X.L.getD (ZW own id X.L) Zc).hash then 203 else 0
def Ud (h:Z7) (k:Int) (sec:List Int):Z7:={ h with stage:=6,fin:=k,secret:=sec}
def endX (H:List Int->List Int) (X:Z8) (own:Bool) (id k:Int) (sec:List Int):Z8:=if Xd H X own id k sec=0 then { X with L:=X.L.set (ZW own id X.L) (Ud (X.L.getD (ZW own id X.L) Zc) k sec)} else X
def stH (m:Int) (h:Z7):Z7:={ h with stage:=ZZ h.own h.stage m}
def Yr (m:Int) (L:List Z7):List Z7:=(L.map (stH m)).filter fun h=>decide (h.stage≠10)
def ZX (m:Int) (L:List Z7):List Z7:=(L.map (stH m)).filter fun h=>decide (h.stage=10)
def Ys (m:Int) (L:List Z7):List Z7:=(L.filter fun h=>decide (h.stage=4/\Wm h.own 4=m)).map (stH m)
def XT (side:Int) (p:Int×Int) (h:Z7):Int×Int:=if h.fin=1 then (if ZD side h.own=0 then (p.1-h.amount,p.2+h.amount) else (p.1+h.amount,p.2-h.amount)) else p
def Z0r (m side:Int) (p:Int×Int) (L:List Z7):Int×Int:=(ZX m L).foldl (XT side) p
def stpX (X:Z8) (m:Int):Z8:=if 1<=m/\m<=4 then { X with L:=Yr m X.L,a0:=(Z0r m X.side (X.a0,X.a1) X.L).1,a1:=(Z0r m X.side (X.a0,X.a1) X.L).2} else X
def brH (h:Z7):Z7:=if YE h.own h.stage=5 then { h with stage:=5,fin:=0,secret:=Zf} else { h with stage:=YE h.own h.stage}
def Ym (L:List Z7):List Z7:=(L.filter fun h=>decide (YE h.own h.stage≠0)).map brH
def ZL (L:List Z7):List Z7:=L.filter fun h=>decide (YE h.own h.stage=0)
def brkX (X:Z8):Z8:={ X with L:=Ym X.L,i1:=X.i1-(ZL X.L).length}
def ZiZ (L:List Z7):Bool:=L.any fun h=>decide (Wm h.own h.stage=1)
end Go.Tk
end
section
namespace Go.Tk
open IntKind (i64 u8 u32 u64 wrap)
theorem Zkr (n a b:Int) (r:Bool) (hr:r=decide (a<=n/\n<=b)):
  evF G0 20 31 [.int .i64 n,.int .i64 a,.int .i64 b] ⟨0,[]⟩ (Yo (fun v=>v=.bool r)):=by
 refine @Eq.mpr _ (Z0 (decide (a<=n)) (AV.bool (decide (n<=b))=AV.bool r) (AV.bool false=AV.bool r)) (by kernel_rfl) ?_
 simp only [UE]
 subst hr
 by_cases h1:a<=n<;>by_cases h2:n<=b<;>simp [h1,h2]
theorem Zks (n a b:Int) (r:Bool) (hr:r=decide (a<=n/\n<=b)):
  evF G0 20 29 [.int .i64 n,.int .i64 a,.int .i64 b] ⟨0,[]⟩ (Yo (fun v=>v=.bool r)):=by
 refine @Eq.mpr _ (Z0 (decide (a<=n)) (AV.bool (decide (n<=b))=AV.bool r) (AV.bool false=AV.bool r)) (by kernel_rfl) ?_
 simp only [UE]
 subst hr
 by_cases h1:a<=n<;>by_cases h2:n<=b<;>simp [h1,h2]
theorem Zkt (n a b:Int) (r:Bool) (hr:r=decide (a<=n/\n<=b)):
  evF G0 20 128 [.int .i64 n,.int .i64 a,.int .i64 b] ⟨0,[]⟩ (Yo (fun v=>v=.bool r)):=by
 refine @Eq.mpr _ (Z0 (decide (a<=n)) (AV.bool (decide (n<=b))=AV.bool r) (AV.bool false=AV.bool r)) (by kernel_rfl) ?_
 simp only [UE]
 subst hr
 by_cases h1:a<=n<;>by_cases h2:n<=b<;>simp [h1,h2]
theorem Zku (n a b:Int) (r:Bool) (hr:r=decide (a<=n/\n<=b)):
  evF G0 20 72 [.int .i64 n,.int .i64 a,.int .i64 b] ⟨0,[]⟩ (Yo (fun v=>v=.bool r)):=by
 refine @Eq.mpr _ (Z0 (decide (a<=n)) (AV.bool (decide (n<=b))=AV.bool r) (AV.bool false=AV.bool r)) (by kernel_rfl) ?_
 simp only [UE]
 subst hr
 by_cases h1:a<=n<;>by_cases h2:n<=b<;>simp [h1,h2]
theorem Z25 (args:List AV) (h:Za) (K:AV->Prop) (hl:inQ args h K):Zp PP 31 args h fun o h'=>∃v,o=.ret v/\h'=h/\K v:=by
 unfold inQ at hl
 split at hl
 ·exact Y7 Zv rfl (Zkr _ _ _ _ rfl) (fun u hu=>hu▸hl)
 ·exact hl.elim
theorem Z0s (args:List AV) (h:Za) (K:AV->Prop) (hl:inQ args h K):Zp PP 29 args h fun o h'=>∃v,o=.ret v/\h'=h/\K v:=by
 unfold inQ at hl
 split at hl
 ·exact Y7 Zv rfl (Zks _ _ _ _ rfl) (fun u hu=>hu▸hl)
 ·exact hl.elim
theorem Z0t (args:List AV) (h:Za) (K:AV->Prop) (hl:inQ args h K):Zp PP 128 args h fun o h'=>∃v,o=.ret v/\h'=h/\K v:=by
 unfold inQ at hl
 split at hl
 ·exact Y7 Zv rfl (Zkt _ _ _ _ rfl) (fun u hu=>hu▸hl)
 ·exact hl.elim
theorem Z0u (args:List AV) (h:Za) (K:AV->Prop) (hl:inQ args h K):Zp PP 72 args h fun o h'=>∃v,o=.ret v/\h'=h/\K v:=by
 unfold inQ at hl
 split at hl
 ·exact Y7 Zv rfl (Zku _ _ _ _ rfl) (fun u hu=>hu▸hl)
 ·exact hl.elim
noncomputable def Z5H (G:Zg):Zg:=(((G.withP 31 inQ).withP 29 inQ).withP 128 inQ).withP 72 inQ
noncomputable def Zj0:Zg:=Z5H G0
theorem Z9H:Zj0.Ok:=Zg.withP_ok (Zg.withP_ok (Zg.withP_ok (Zg.withP_ok Zv Z25) Z0s) Z0t) Z0u
theorem Zme (p:Z7) (b:Bool) (hb:b=Yp p):
  evF Zj0 20 66 [.agg p.c] ⟨0,[]⟩ (Yo (fun v=>v=.bool b)):=by
 refine @Eq.mpr _ (let q1:=AV.bool false=AV.bool b;
 Z0 (decide (0<=p.id/\p.id<=2147483647)) (Z0 (decide (1<=p.amount/\p.amount<=1125899906842624)) (AV.bool (decide (1<=p.expiry/\p.expiry<=2147483647))=AV.bool b) q1) q1) (by kernel_rfl) ?_
 conv=>zeta
 subst hb
 unfold Yp
 generalize decide (0<=p.id/\p.id<=2147483647)=c1
 generalize decide (1<=p.amount/\p.amount<=1125899906842624)=c2
 generalize decide (1<=p.expiry/\p.expiry<=2147483647)=c3
 cases c1<;>cases c2<;>cases c3<;>rfl
def Z5I:ZR:=fun args _ K=>match args with
 | [.agg [.bool ow,.int .i64 id,.int .i64 am,.arr .u8 32 ha,.int .i64 ex,.int .i64 st,.int .i64 en,.arr .u8 32 se]]=>K (.bool (Yp ⟨ow,id,am,ha,ex,st,en,se⟩))
 | _=>False
theorem Z4L (args:List AV) (h:Za) (K:AV->Prop) (hl:Z5I args h K):Zp PP 66 args h fun o h'=>∃v,o=.ret v/\h'=h/\K v:=by
 unfold Z5I at hl
 split at hl
 ·exact Y7 Z9H rfl (Zme ⟨_,_,_,_,_,_,_,_⟩ _ rfl) (fun u hu=>hu▸hl)
 ·exact hl.elim
end Go.Tk
end
section
namespace Go.Tk
open IntKind (i64 u8 u32 u64 wrap)
theorem Xv (L:List Z7) (i:Nat):Yy (Z6 L i)=true:=rfl
theorem Zo {k:Nat} {τ:Ren} {n:Nat} {L:List Z7} {f:Nat->List AV} (h:∀i,i<n->f i=Z6 L i):Zb k τ n (Z6 L) f:=
 Z4u h (fun i _=>Xv L i) (fun i _ v hv=>by
  simp only [Z6,Z7.c,List.mem_cons,List.not_mem_nil,or_false] at hv
  rcases hv with rfl|rfl|rfl|rfl|rfl|rfl|rfl|rfl<;>first|exact .inl rfl|exact .inr ⟨_,_,_,rfl⟩)
theorem Yt {f:Nat->List AV} {O:List Z7} {x:Z7} {c i:Nat} (hc:O.length=c) (hf:∀i,i<c->f i=Z6 O i) (hi:i<c+1):Y2 c f (YQ (Z7.c x) 0 70) i=Z6 (O++[x]) i:=by
 rcases Nat.lt_or_ge i c with h|h
 ·rw [Z9u h,hf i h]
  unfold Z6
  rw [List.getD_eq_getElem?_getD,List.getD_eq_getElem?_getD,List.getElem?_append_left (by omega)]
 ·have e:i=c:=by omega
  subst e
  rw [Z1Z (Nat.le_refl _),Nat.sub_self]
  unfold Z6
  rw [List.getD_eq_getElem?_getD,List.getElem?_append_right (by omega),hc,Nat.sub_self]
  rfl
theorem ZC.evV {G:Zg} (hG:G.Ok) {n:Nat} {f:FuncId} {args:List AV} {v:AV} (h:evF G n f args ⟨0,[]⟩ (Yo fun u=>u=v)):ZC G.P f args v 0 []:=by
 intro E w rs he hr
 refine (QG hG h E w rs he hr).mono ?_
 rintro e w' ⟨E₁,o,h',hK0,hev,hor⟩
 cases hor with
 | panic u r hr=>exact hK0.elim
 | ret u r hr=>
  unfold Yo at hK0
  simp only at hK0
  split at hK0
  ·rename_i hu
   subst hK0
   refine ⟨E,r,rfl,⟨.refl E,⟨he.fresh,fun x B hx=>by simp [Za.get,ZO] at hx,fun x B hx=>by simp [Za.get,ZO] at hx,fun x y B B' b N N' hx=>by simp [Za.get,ZO] at hx,fun a c hi=>hev.emb.imm a c (hev.le.imm a c hi),fun a c x B N _ hx=>by simp [Za.get,ZO] at hx⟩,hev.size,hev.os,hev.tape,hev.output,hev.keep,fun b hb=> ?_,fun _ _ h=>h⟩,Zk.vplain (E:=E₁) (E':=E) (fun a c hi=>hev.imm a c hi) _ _ hu hr⟩
   obtain ⟨x,B,N,hx,_⟩:=hb
   simp [Za.get,ZO] at hx
  ·exact hK0.elim
theorem Z9I (G:Zg) (f:FuncId) (S:Yf):(G.withF f S).P=G.P:=rfl
def X9 (b:Bool) (x:Z7):List Z7:=match b with
 | true=>[x]
 | false=>[]
theorem Z16 {p:Z7->Bool} {L:List Z7} {i:Nat} (hi:i<L.length):(L.take (i+1)).filter p=(L.take i).filter p++X9 (p (L.getD i Zc)) (L.getD i Zc):=by
 rw [List.take_succ_eq_append_getElem hi,List.filter_append,List.getD_eq_getElem?_getD,List.getElem?_eq_getElem hi]
 congr 1
theorem Zdj (x y:Prop):Z0 true x y=x:=rfl
theorem Zdk (x y:Prop):Z0 false x y=y:=rfl
theorem VJ (c x y:Bool) (v:AV):Z0 c (AV.bool x=v) (AV.bool y=v)=(AV.bool (cond c x y)=v):=by cases c<;>rfl
theorem Zdl (c:Bool) (k:IntKind) (x y:Int) (v:AV):Z0 c (AV.int k x=v) (AV.int k y=v)=(AV.int k (cond c x y)=v):=by cases c<;>rfl
inductive LV (cs:List AV) (X:Z8):Prop where
 | a (h:cs=X.c (.vrows 70 X.L.length (Z6 X.L) X.L.length))
 | b (h1:X.L=[]) (h:cs=X.c .nilslice)
def X3 (X:Z8):Prop:=0<=X.side/\X.side<=1
structure Z1N (X:Z8):Prop where
 n:X.L.length<1000
 am:∀h∈X.L,0<=h.amount/\h.amount<=1125899906842624
 a0: -1152921504606846976<=X.a0/\X.a0<=1152921504606846976
 a1: -1152921504606846976<=X.a1/\X.a1<=1152921504606846976
 res:0<=X.res/\X.res<=1152921504606846976
 fee:0<=X.t.fee/\X.t.fee<=1152921504606846976
def Zdm (H:List Int->List Int):ZR:=fun args h K=>ZU none h true 20 args fun a=>match a with
 | [.pview cs 0,.agg [.bool ow,.int .i64 id,.int .i64 am,.arr .u8 32 ha,.int .i64 ex,.int .i64 st,.int .i64 en,.arr .u8 32 se]]=>∃X,LV cs X/\Z7.Ok ⟨ow,id,am,ha,ex,st,en,se⟩/\K (.bool (XE H X ⟨ow,id,am,ha,ex,st,en,se⟩))
 | _=>False
def Zj1:ZR:=fun args _ K=>match args with
 | [.agg [.bool ow,.int .i64 id,.int .i64 am,.arr .u8 32 ha,.int .i64 ex,.int .i64 st,.int .i64 en,.arr .u8 32 se],.agg [.bool ow',.int .i64 id',.int .i64 am',.arr .u8 32 ha',.int .i64 ex',.int .i64 st',.int .i64 en',.arr .u8 32 se']]=>K (.bool (decide (XG ⟨ow,id,am,ha,ex,st,en,se⟩ ⟨ow',id',am',ha',ex',st',en',se'⟩)))
 | _=>False
def Zj2:ZR:=fun args _ K=>match args with
 | [.agg [.bool ow,.int .i64 _,.int .i64 _,.arr .u8 32 _,.int .i64 _,.int .i64 _,.int .i64 _,.arr .u8 32 _],.pview [.pview cs 0] 0,.pview [.int .i64 s] 0]=>∃X,LV cs X/\X3 X/\K (.bool (decide (ZD X.side ow=s)))
 | _=>False
def Zdn:Yf:=fun args h K=>ZU none h true 20 args fun a=>match a with
 | [.vrows 70 n f n',.func (.func 115) [] [.pview [.pview cs 0] 0,.pview [.int .i64 s] 0]]=>∃X,n'=n/\n=X.L.length/\f=Z6 X.L/\LV cs X/\X3 X/\n<1000/\K (.ret (.nslice ⟨h.next,0,70,0,0⟩ 70 (ZP X.side s X.L).length (ZP X.side s X.L).length)) ⟨h.next+1,(h.next,.rows 70 (ZP X.side s X.L).length (Z6 (ZP X.side s X.L)))::h.bs⟩
 | [.nilslice,.func (.func 115) [] [.pview [.pview cs 0] 0,.pview [.int .i64 s] 0]]=>∃X,LV cs X/\X3 X/\X.L=[]/\K (.ret (.nslice ⟨h.next,0,70,0,0⟩ 70 (ZP X.side s X.L).length (ZP X.side s X.L).length)) ⟨h.next+1,(h.next,.rows 70 (ZP X.side s X.L).length (Z6 (ZP X.side s X.L)))::h.bs⟩
 | _=>False
def Z3p:Yf:=fun args h K=>ZU none h true 20 args fun a=>match a with
 | [.pview cs 0,.int .i64 s]=>∃X,LV cs X/\X3 X/\X.L.length<1000/\K (.ret (.nslice ⟨h.next,0,0,0,0⟩ 1 (ZP X.side s X.L).length (ZP X.side s X.L).length)) ⟨h.next+1,(h.next,.ints .i64 (Xe (ZP X.side s X.L)))::h.bs⟩
 | _=>False
def smS:ZR:=fun args h K=>ZU none h true 20 args fun a=>match a with
 | [.vints .i64 xs n]=>n=xs.length/\n<1000/\(∀x∈xs,0<=x/\x<=1125899906842624)/\K (.int .i64 xs.sum)
 | _=>False
def Zj3:ZR:=fun args h K=>ZU none h true 20 args fun a=>match a with
 | [.pview cs 0,.int .i64 s]=>∃X,LV cs X/\X3 X/\(s=0\/s=1)/\Z1N X/\K (.int .i64 (Yl X s))
 | _=>False
def Zj4 (H:List Int->List Int):ZR:=fun args h K=>ZU none h true 20 args fun a=>match a with
 | [.pview cs 0]=>∃X,LV cs X/\X.t.Ok/\(∀h∈X.L,h.Ok)/\X.L.length<1000/\K (.bool (Yb H X))
 | _=>False
def ZhH:ZR:=fun args h K=>ZU none h true 20 args fun a=>match a with
 | [.int .i64 s,.pview [.pview cs 0] 0]=>∃X,LV cs X/\X3 X/\X.L.length<1000/\K (.bool (decide ((ZP X.side s X.L).length<=8)))
 | _=>False
theorem Zw.last {E:Env} {v v':AV} (hv:∀k m xs,v≠.arr k m xs) (hc:v'.isCell=true) (h:∀c,Zk E v c->Zk E v' c):∀{l:List AV} {vs:List Value},Zw E (l++[v]) vs->Zw E (l++[v']) vs
 | [],vs,hl=>by
  obtain ⟨c,w,rfl,h0,h2,h3,ht⟩:=hl.cons_cell hv
  exact .one _ _ _ _ hc h2 (h _ h3) ht
 | a::r,vs,hl=>by
  by_cases ha:∃k m xs,a=.arr k m xs
  ·obtain ⟨k,m,xs,rfl⟩:=ha
   obtain ⟨w,rfl,ht⟩:=Zw.cons_arr (r:=r++[v]) hl
   exact .arr _ _ _ _ _ (Zw.last hv hc h ht)
  ·obtain ⟨c,w,rfl,h0,h2,h3,ht⟩:=Zw.cons_cell (r:=r++[v]) hl (fun k m xs e=>ha ⟨k,m,xs,e⟩)
   exact .one _ _ _ _ h0 h2 h3 (Zw.last hv hc h ht)
theorem Z8.c_eq (X:Z8) (l:AV):X.c l=(X.t.c++[.int .i64 X.side,.int .i64 X.res,.arr .i64 2 [X.a0,X.a1],.arr .i64 2 [X.i0,X.i1]])++[l]:=by unfold Z8.c;simp
theorem Z9J {cs:List AV} {X:Z8} (h:LV cs X) {E:Env} {vs:List Value} (hc:Zw E cs vs):Zw E (X.c (.vrows 70 X.L.length (Z6 X.L) X.L.length)) vs:=by
 rcases h with rfl|⟨h1,rfl⟩
 ·exact hc
 ·rw [Z8.c_eq] at*
  refine Zw.last (by intros;simp) rfl (fun c hc=> ?_) hc
  cases hc
  rw [h1]
  exact .vrowsNil _ _ _ _ rfl rfl
def U0 (X:Z8):AV:=.pview (X.c (.vrows 70 X.L.length (Z6 X.L) X.L.length)) 0
theorem Wq {cs:List AV} {X:Z8} (h:LV cs X) {E:Env} {r:Value} (hc:Zk E (.pview cs 0) r):Zk E (U0 X) r:=by
 cases hc with
 | pview cs inn a vs hc hi=>exact .pview _ 0 a vs (Z9J h hc) hi
theorem Z5J {cs:List AV} {X:Z8} (h:LV cs X) {E:Env} {r:Value} (hc:Zk E (.pview [.pview cs 0] 0) r):Zk E (.pview [U0 X] 0) r:=by
 cases hc with
 | pview cs inn a vs hc hi=>
  obtain ⟨c,w1,rfl,h0,h2,h3,hc⟩:=hc.cons_cell (by intros;simp)
  cases hc
  exact .pview _ 0 a _ (.one _ _ _ _ rfl h2 (Wq h h3) .nil) hi
end Go.Tk
end
section
namespace Go.Tk
open IntKind (i64 u8 u32 u64 wrap)
def jnP (k id:Nat) (pv:AV) (S1 Pn:St) (ok no:Prop):KE:=fun e s=>match e with
 | .exit x=>(match Nat.beq x id with|true=>Wk k S1 s ok|false=>False)
 | .panic v=>YD pv v (Wk k Pn s no)
 | _=>False
theorem Zg.withJX {G:Zg} (hG:G.Ok) {f:FuncId} {id N:Nat} {pv:AV} {S:Nat->St->KE->Prop} (hpv:pv.plain2=true) (h1:Z5A G.P f id=true)
  (h:∀k s X,S k s X->∃(S0 S1 Pn:St) (ok no:Prop),Vi k s S0/\Z6G G N f id k S0 (jnP k id pv S1 Pn ok no)/\(ok->X (.exit id) S1)/\(no->X (.panic pv) Pn)):(G.withL f id S).Ok where
 draw:=hG.draw
 psumm:=hG.psumm
 fsumm:=hG.fsumm
 lsumm:=fun f' id' S' fn c body hS hf hb hm k' s X hs=>by
  simp only [Zg.withL] at hS
  split at hS
  ·rename_i hq
   rw [Bool.and_eq_true] at hq
   have e1:=Nat.eq_of_beq_eq_true hq.1
   have e2:=Nat.eq_of_beq_eq_true hq.2
   subst e1 e2
   cases hS
   have hc:=Zb7 h1 hf hb hm
   obtain ⟨S0,S1,Pn,ok,no,hw,hE,hX,hX'⟩:=h _ _ _ hs
   unfold Z6G at hE
   rw [<-hc] at hE
   have hkN:=UX hG N f' none
   refine YI.weak ?_ hw
   intro E0 h0 w0 E a w n hk hs hev
   refine wpIn_mono (Z0Q (k:=k') (ro:=none) hG hkN.1 (fun _=>rfl) (fun _=>rfl) (fun _=>⟨fn,body,by rw [hkN.2.1];exact hf,hb,fun b hbm=>WR body id' _ hm b hbm⟩) hE E0 h0 w0 E a w n hk hs hev) ?_
   rintro e a' w' ⟨E',x,s',hx,hev',hs',he⟩
   unfold jnP at hx
   split at hx
   ·split at hx
    ·rename_i hi
     have:=Nat.eq_of_beq_eq_true hi
     subst this
     obtain ⟨hok,hw'⟩:=YV hx
     obtain ⟨E₂,hs₂,hev₂⟩:=hw' E0 h0 w0 E' a' w' hk hs' hev'
     cases he
     exact ⟨E₂,_,_,hX hok,hev₂,hs₂,.exit _⟩
    ·exact hx.elim
   ·obtain ⟨hv,hx2⟩:=Uq _ _ _ hx
    subst hv
    obtain ⟨hno,hw'⟩:=YV hx2
    obtain ⟨E₂,hs₂,hev₂⟩:=hw' E0 h0 w0 E' a' w' hk hs' hev'
    cases he with
    | panic v r hv=>exact ⟨E₂,_,_,hX' hno,hev₂,hs₂,.panic _ r (hv.plain2 hpv)⟩
   ·exact hx.elim
  ·exact hG.lsumm f' id' S' fn c body hS hf hb hm k' s X hs
theorem Zg.withGoX {G:Zg} (hG:G.Ok) {f:FuncId} {id N l:Nat} {pv:AV} {S:Nat->St->KE->Prop} (hpv:pv.plain2=true) (h1:XY G.P f id=true)
  (h:∀k s X,S k s X->∃(n:Nat) (I En Rn Jn Pn:Nat->St) (go ex re jm pa:Nat->Prop),Vi k s (I 0)/\(∀i,i<=n->(∀j,j<i->go j)->ZG G N f id k (I i) (rdP k id l pv (I (i+1)) (En i) (Rn i) (Jn i) (Pn i) (go i/\i<n) (ex i) (re i) (jm i) (pa i)))/\
   Zkg id n l pv go ex re jm pa En Rn Jn Pn X):(G.withL f id S).Ok:=by
 refine Zg.withL_okP hG h1 ?_
 intro k s X hl
 obtain ⟨n,I,En,Rn,Jn,Pn,go,ex,re,jm,pa,hw,hr,hX⟩:=h k s X hl
 refine ⟨{ t:Nat//t<=n/\∀j,j<t->go j},fun t=>n-t.1,fun t=>I t.1,⟨0,Nat.zero_le _,fun j hj=>by omega⟩,N,hw, ?_⟩
 rintro ⟨t,ht,hgo⟩
 refine ⟨_,hr t ht hgo, ?_⟩
 intro e s' hY
 unfold rdP at hY
 split at hY
 ·obtain ⟨⟨hg,hlt⟩,hw'⟩:=YV hY
  refine ⟨⟨t+1,hlt,fun j hj=> ?_⟩,by show n-(t+1)<n-t;omega,hw'⟩
  by_cases hjt:j=t
  ·rw [hjt];exact hg
  ·exact hgo j (by omega)
 ·split at hY
  ·rename_i hi
   have:=Nat.eq_of_beq_eq_true hi
   subst this
   obtain ⟨hex,hw'⟩:=YV hY
   exact ⟨_,hw',(hX t ht hgo).1 hex⟩
  ·exact hY.elim
 ·obtain ⟨hre,hw'⟩:=YV hY
  exact ⟨_,hw',(hX t ht hgo).2.1 hre⟩
 ·split at hY
  ·rename_i hi
   have:=Nat.eq_of_beq_eq_true hi
   subst this
   obtain ⟨hjm,hw'⟩:=YV hY
   exact ⟨_,hw',(hX t ht hgo).2.2.1 hjm⟩
  ·exact hY.elim
 ·obtain ⟨hv,hY2⟩:=Uq _ _ _ hY
  subst hv
  obtain ⟨hpa,hw'⟩:=YV hY2
  exact ⟨hpv,_,hw',(hX t ht hgo).2.2.2 hpa⟩
theorem Spec.evK {G:Zg} (hG:G.Ok) {n:Nat} {f:FuncId} {args:List AV} {h0:Za} {o:Out} {nx:Nat} {bs:List (Nat×Blk)} {K:KO} (h:evF G n f args h0 K) (hk:∀o' h',K o' h'->Y5 h0.next o nx bs o' h'):Spec G.P f args h0 o nx bs:=by
 intro E w rs he hl
 refine (QG hG h E w rs he hl).mono ?_
 rintro e w' ⟨E',o',h',hK0,hev,hor⟩
 have hK:=hk _ _ hK0
 unfold Y5 at hK
 cases o with
 | ret v=>
  cases hor with
  | ret u r hr=>
   obtain ⟨E₂,h1,h2⟩:=Z1Y rfl hK he hev hr
   exact ⟨E₂,h1,.ret _ _ h2⟩
  | panic u r hr=>exact hK.elim
 | panic v=>
  cases hor with
  | panic u r hr=>
   obtain ⟨E₂,h1,h2⟩:=Z1Y rfl hK he hev hr
   exact ⟨E₂,h1,.panic _ _ h2⟩
  | ret u r hr=>exact hK.elim
end Go.Tk
end
section
namespace Go.Tk
open IntKind (i64 u8 u32 u64 wrap)
def rdT (xs:List Int) (o:Nat):Option (Bool×Nat):=if o<xs.length/\xs.getD o 0<=1 then some (xs.getD o 0==1,o+1) else none
theorem Zmf (xs:List Int) (o n o' n':Nat) (b:Bool) (hn:o+n=xs.length) (h0:0<n) (h1:xs.getD o 0<=1) (hb:b=(xs.getD o 0==1)) (ho:o'=o+1) (hn':n'=n-1):
  evF G0 20 89 [.ptr (some ⟨0,0,0,0,0⟩)] ⟨2,[(0,.flat [.nslice ⟨1,0,0,0,o⟩ 1 n n,.bool true,.bool false]),(1,.ints .u8 xs)]⟩ (Y5 2 (.ret (.tuple [.bool b,.int .i64 0])) 2 [(0,.flat [.nslice ⟨1,0,0,0,o'⟩ 1 n' n',.bool true,.bool false]),(1,.ints .u8 xs)]):=by
 refine @Eq.mpr _ (let q1:=Z0 (decide (false=b)) False False;let q2:=decide (n<=n);let q3:=decide ((0:Int)<=1/\1<=(↑n:Int));let q4:=o+0+0;let q5:=List.getD xs q4 0;let q6:=Vp n (some 1);
 Z0 (!decide (1<=(↑n:Int))) q1 (Z0 q2 (Z0 q3 (Z0 q2 (Z0 q3 (Z0 (decide (q4<List.length xs)) (Z0 (!decide (q5<=1)) q1 (Z0 (decide ((q5==1)=b)) (Z0 (decide (o+1=o')) (Z0 (decide (q6=n')) (Z0 (decide (n'<=q6)) (xs=xs/\True) False) False) False) False)) False) False) False) False) False)) (by kernel_rfl) ?_
 conv=>zeta
 try simp only [Zj]
 try simp only [Zl]
 try simp only [Zi]
 try simp only [Zm]
 try simp only [Zn]
 try simp only [Zh]
 try simp only [Int.toNat_natCast,Nat.zero_add,true_and,and_true,Nat.le_refl]
 subst hb ho hn'
 have e:Vp n (some 1)=n-1:=rfl
 rw [e]
 refine ⟨fun h=>absurd h (by simp;omega),fun _=>⟨by omega,by omega,by omega,fun h=>absurd h (by rw [decide_eq_true (show xs.getD (o+0+0) 0<=1 from h1)];decide),fun _=>by simp⟩⟩
theorem Zmg (xs:List Int) (o n:Nat) (hn:o+n=xs.length) (h1:0<n->1<xs.getD o 0):
  evF G0 20 89 [.ptr (some ⟨0,0,0,0,0⟩)] ⟨2,[(0,.flat [.nslice ⟨1,0,0,0,o⟩ 1 n n,.bool true,.bool false]),(1,.ints .u8 xs)]⟩ (Y5 2 (.ret (.tuple [.bool false,.int .i64 140])) 2 [(0,.flat [.nslice ⟨1,0,0,0,o⟩ 1 n n,.bool true,.bool true]),(1,.ints .u8 xs)]):=by
 refine @Eq.mpr _ (let q1:=decide (n<=n);let q2:=Z0 (decide (o=o)) (Z0 (decide (n=n)) (Z0 q1 (xs=xs/\True) False) False) False;let q3:=decide ((0:Int)<=1/\1<=(↑n:Int));let q4:=o+0+0;let q5:=List.getD xs q4 0;
 Z0 (!decide (1<=(↑n:Int))) q2 (Z0 q1 (Z0 q3 (Z0 q1 (Z0 q3 (Z0 (decide (q4<List.length xs)) (Z0 (!decide (q5<=1)) q2 (Z0 (decide ((q5==1)=false)) False False)) False) False) False) False) False)) (by kernel_rfl) ?_
 conv=>zeta
 try simp only [Zj]
 try simp only [Zl]
 try simp only [Zi]
 try simp only [Zm]
 try simp only [Zn]
 try simp only [Zh]
 try simp only [Int.toNat_natCast,Nat.zero_add,true_and,and_true,Nat.le_refl]
 refine ⟨fun _=>by simp,fun h=>⟨by simp at h;omega,by simp at h;omega,by simp at h;omega,fun _=>by simp,fun h2=> ?_⟩⟩
 have:=h1 (by simp at h;omega)
 have h3:decide (xs.getD o 0<=1)=true:=by
  revert h2
  show (!decide (xs.getD o 0<=1))=false->_
  cases decide (xs.getD o 0<=1)<;>decide
 have h3:=of_decide_eq_true h3
 omega
def Zdo:Yf:=fun args h K=>match args with
 | [.ptr (some ⟨r,0,0,0,0⟩)]=>match h.get r with
  |some (.flat [.nslice ⟨b,0,0,0,_⟩ 1 _ _,.bool true,.bool false])=>frA [r,b] h 20 args fun Bs a=>match Bs,a with
   | [.flat [.nslice ⟨1,0,0,0,o⟩ 1 n n2,.bool true,.bool false],.ints .u8 xs],[.ptr (some ⟨0,0,0,0,0⟩)]=>
    Zx (n=xs.length-o/\o<=xs.length/\n2=xs.length-o) ((∀v o',rdT xs o=some (v,o')->(o<=o'/\o'<=xs.length)->
     K (.ret (.tuple [.bool v,.int .i64 0])) ⟨h.next,(r,.flat [.nslice ⟨b,0,0,0,o'⟩ 1 (xs.length-o') (xs.length-o'),.bool true,.bool false])::(b,.ints .u8 xs)::Yc (Yc h.bs r) b⟩)/\
     (rdT xs o=none->K (.ret (.tuple [.bool false,.int .i64 140])) ⟨h.next,(r,.flat [.nslice ⟨b,0,0,0,o⟩ 1 (xs.length-o) (xs.length-o),.bool true,.bool true])::(b,.ints .u8 xs)::Yc (Yc h.bs r) b⟩))
   | _,_=>False
  | _=>False
 | _=>False
theorem Zdp (args:List AV) (h:Za) (K:KO) (hl:Zdo args h K):Zp PP 89 args h K:=by
 unfold Zdo at hl
 split at hl
 ·split at hl
  ·refine Spec.fsumm hl fun Bs a hlen hK0=> ?_
   split at hK0
   ·rename_i o n n2 xs
    obtain ⟨⟨rfl,h1,rfl⟩,hK,hK'⟩:=Ze hK0
    by_cases hc:o<xs.length/\xs.getD o 0<=1
    ·exact ⟨_,_,_,_,_,.evM Zv (Zmf xs o (xs.length-o) (o+1) (xs.length-(o+1)) _ (by omega) (by omega) hc.2 rfl rfl (by omega)),by simp,.ret _ _ rfl,.cons _ _ _ _ _ _ rfl (.flat _ _ rfl) (.cons _ _ _ _ _ _ rfl (.ints _ _) .nil),hK _ (o+1) (by unfold rdT;rw [if_pos hc]) ⟨by omega,by omega⟩⟩
    ·exact ⟨_,_,_,_,_,.evM Zv (Zmg xs o _ (by omega) (fun h=>by omega)),by simp,.ret _ _ rfl,.cons _ _ _ _ _ _ rfl (.flat _ _ rfl) (.cons _ _ _ _ _ _ rfl (.ints _ _) .nil),hK' (by unfold rdT;rw [if_neg hc])⟩
   ·exact hK0.elim
  ·exact hl.elim
 ·exact hl.elim
def Z6V (b:Bool) (xs:List Int) (o:Nat):Option (List Int×Nat):=match b with|true=>rdH xs o|false=>some (Zf,o)
def Wr (F:List Int->Int×Int) (xs:List Int) (o:Nat):Option (Z7×Nat):=
 (rdT xs o).bind fun a=>(rdN F xs a.2 2147483647).bind fun b=>(rdN F xs b.2 1125899906842624).bind fun c=>(rdH xs c.2).bind fun d=>
 (rdN F xs d.2 2147483647).bind fun e=>(rdN F xs e.2 9).bind fun f=>(rdN F xs f.2 2).bind fun g=>(Z6V (g.1==1) xs g.2).bind fun s=>
 some (⟨a.1,b.1,c.1,d.1,e.1,f.1,g.1,s.1⟩,s.2)
noncomputable def Z5K (F:List Int->Int×Int) (H:List Int->List Int):Zg:=((((((G0.withF 39 (ZcV F)).withF 38 Z8o).withF 89 Zdo).withF 42 ZcX).withF 86 Z5z).withP 26 (Zj4 H))
def lrD:List Uc:=[.call 36 [.ptr (some ⟨0,0,0,0,0⟩),.ptr (some ⟨1,0,0,0,0⟩)]]
def lrT (l:Yd):Yd:=l++[(4,.ptr (some ⟨4,0,0,0,0⟩)),(3,.ptr (some ⟨1,0,0,0,0⟩)),(2,.ptr (some ⟨0,0,0,0,0⟩))]
def lrH (X:Z8) (l:AV) (xs:List Int) (o:Nat) (r:List (Nat×Blk)):List (Nat×Blk):=[(0,.flat [.ptr (some ⟨5,0,0,0,0⟩)]),(1,.flat [.int .i64 0]),(2,.ints .u8 xs),(3,.flat [.nslice ⟨2,0,0,0,o⟩ 1 (xs.length-o) (xs.length-o),.bool true,.bool false]),(4,.flat [.ptr (some ⟨3,0,0,0,0⟩)]),(5,.flat (X.c l))]++r
def lr0 (X:Z8) (xs:List Int) (o:Nat):St:=⟨120,lrT [(42,.int .i64 5),(41,.nslice ⟨6,0,0,0,0⟩ 1 5 5),(43,.int .i64 0)],⟨7,lrH X .nilslice xs o [(6,.flat [.ptr (some ⟨5,0,0,32,0⟩),.ptr (some ⟨5,0,0,33,0⟩),.ptr (some ⟨5,0,0,34,0⟩),.ptr (some ⟨5,0,0,35,0⟩),.ptr (some ⟨5,0,0,36,0⟩)])]⟩,lrD⟩
def lr1 (X:Z8) (xs:List Int) (o:Nat):St:=⟨120,lrT [],⟨6,lrH X .nilslice xs o []⟩,lrD⟩
def lrP:St:=⟨120,[(2,.ptr (some ⟨0,0,0,0,0⟩)),(3,.ptr (some ⟨1,0,0,0,0⟩))],⟨2,[(0,.flat [.top]),(1,.flat [.top])]⟩,lrD⟩
def pvL:AV:=.iface 31 (.int .i64 204)
end Go.Tk
end
