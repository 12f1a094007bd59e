/- G: part 4 of an engine (a symbolic evaluator, proved against the model) and of the walk by it. -/
import Derived.Test.YtjfekgpoodeinaaGreatG3
import Derived.Test.YtjfekgpoodeinaaGreatRows
import Derived.ChangeOld
set_option linter.unusedVariables false
set_option linter.unusedSimpArgs false
set_option maxRecDepth 100000
set_option maxHeartbeats 0
section
namespace Go.Tk
open IntKind (i64 u8 u32 u64 wrap)
variable {g g':Nat->List AV}
structure GoS where
 p:YA
 own:Bool
 id:Int
 amount:Int
 hash:LI
 expiry:Int
 stage:Int
 fin:Int
 secret:LI
 key:LI
 next:LI
 ham:Int
 hex:Int
 height:Int
def GoS.hc (g:GoS):List AV:=[.bool g.own,.int .i64 g.id,.int .i64 g.amount,.arr .u8 32 g.hash,.int .i64 g.expiry,.int .i64 g.stage,.int .i64 g.fin,.arr .u8 32 g.secret]
def GoS.oc (g:GoS):List AV:=[.arr .u8 32 g.key,.arr .u8 32 g.next,.int .i64 g.ham,.int .i64 g.hex]
structure GoS.I (g:GoS):Prop where
 a:I64 g.amount
 b:I64 g.expiry
 c:I64 g.ham
 d:I64 g.hex
 e:I64 g.height
def Vd (T:Int->Int->Int->Int×Int) (Pb:YA->Bool) (A:Int->Int->Int->Bool) (g:GoS):Int:=
 if ¬(Pb g.p=true/\(T g.p.base g.p.rate g.ham).2=0/\A g.amount (T g.p.base g.p.rate g.ham).1 g.ham=true) then 21 else if A g.expiry g.p.delta g.hex=false then 22 else if A g.hex (g.p.soon+1) g.height=false then 23 else if A g.expiry (g.p.far+1) g.height=true then 24 else 0
structure Z0n (T:Int->Int->Int->Int×Int):Prop where
 h:∀b r a,(T b r a).2=0->0<=(T b r a).1/\(T b r a).1<=1125899906842624
noncomputable def Z6y (T:Int->Int->Int->Int×Int) (Pb:YA->Bool) (A:Int->Int->Int->Bool):Zk:=((G0.withP 23 (Z2a T)).withP 11 (Z5m Pb)).withP 24 (abS A)
theorem Z5n:(Z6y (Yj Zx) WK abV).Ok:=Zk.withP_ok (Zk.withP_ok (Zk.withP_ok Yd Z2J) Z2K) Z61
noncomputable def Z5D (T:Int->Int->Int->Int×Int) (Pb:YA->Bool) (A:Int->Int->Int->Bool):Zk:=((G0.withP 28 (Z2a T)).withP 7 (Z2L Pb)).withP 29 (abS A)
theorem Z4F:(Z5D (Yj Zx) WK abV).Ok:=Zk.withP_ok (Zk.withP_ok (Zk.withP_ok Yd Z4D) Z18) Z5l
theorem Z4G {T:Int->Int->Int->Int×Int} {Pb:YA->Bool} {A:Int->Int->Int->Bool} {g:GoS} {z:Int} (hT:Z0n T) (hP:∀p,Pb p=true->p.Ok) (hI:g.I) (hz:z=Vd T Pb A g) (hp:Pb g.p=true):
  (((T g.p.base g.p.rate g.ham).snd !=0)=true->AV.int .i64 21=AV.int .i64 z)/\
    (((T g.p.base g.p.rate g.ham).snd !=0)=false->
     AbR g.amount (T g.p.base g.p.rate g.ham).fst g.ham/\
      ((!A g.amount (T g.p.base g.p.rate g.ham).fst g.ham)=true->AV.int .i64 21=AV.int .i64 z)/\
       ((!A g.amount (T g.p.base g.p.rate g.ham).fst g.ham)=false->
        AbR g.expiry g.p.delta g.hex/\
         ((!A g.expiry g.p.delta g.hex)=true->AV.int .i64 22=AV.int .i64 z)/\
          ((!A g.expiry g.p.delta g.hex)=false->
           AbR g.hex (i64.wrap (g.p.soon+1)) g.height/\
            ((!A g.hex (i64.wrap (g.p.soon+1)) g.height)=true->AV.int .i64 23=AV.int .i64 z)/\
             ((!A g.hex (i64.wrap (g.p.soon+1)) g.height)=false->
              AbR g.expiry (i64.wrap (g.p.far+1)) g.height/\
               (A g.expiry (i64.wrap (g.p.far+1)) g.height=true->AV.int .i64 24=AV.int .i64 z)/\
                (A g.expiry (i64.wrap (g.p.far+1)) g.height=false->AV.int .i64 0=AV.int .i64 z))))):=by
 have hO:=hP _ hp
 have o1:=hO.delta
 have o2:=hO.soon
 have o3:=hO.far
 have e1:i64.wrap (g.p.soon+1)=g.p.soon+1:=Vc (by omega) (by omega)
 have e2:i64.wrap (g.p.far+1)=g.p.far+1:=Vc (by omega) (by omega)
 rw [e1,e2]
 refine ⟨fun h=> ?_,fun h=> ?_⟩
 ·have h0:¬(T g.p.base g.p.rate g.ham).2=0:=by simpa using h
  rw [hz]
  unfold Vd
  rw [if_pos fun hh=>h0 hh.2.1]
 ·have h0:(T g.p.base g.p.rate g.ham).2=0:=by simpa using h
  refine ⟨⟨hI.a,hI.c,hT.h _ _ _ h0⟩,fun h1=> ?_,fun h1=> ?_⟩
  ·rw [hz]
   unfold Vd
   rw [if_pos fun hh=>by rw [hh.2.2] at h1;cases h1]
  ·have g1:A g.amount (T g.p.base g.p.rate g.ham).1 g.ham=true:=by simpa using h1
   have n1:¬ ¬(Pb g.p=true/\(T g.p.base g.p.rate g.ham).2=0/\A g.amount (T g.p.base g.p.rate g.ham).1 g.ham=true):=fun h=>h ⟨hp,h0,g1⟩
   rw [hz]
   unfold Vd
   rw [if_neg n1]
   refine ⟨⟨hI.b,hI.d,by omega,by omega⟩,fun h2=> ?_,fun h2=>⟨⟨hI.d,hI.e,by omega,by omega⟩,fun h3=> ?_,fun h3=>⟨⟨hI.b,hI.e,by omega,by omega⟩,fun h4=> ?_,fun h4=> ?_⟩⟩⟩
   all_goals simp_all
theorem Z6V (T:Int->Int->Int->Int×Int) (Pb:YA->Bool) (A:Int->Int->Int->Bool) (g:GoS) (z:Int) (hT:Z0n T) (hP:∀p,Pb p=true->p.Ok) (hI:g.I) (hz:z=Vd T Pb A g):
  evF (Z6y T Pb A) 40 8 [.agg g.p.c,.agg g.hc,.agg g.oc,.int .i64 g.height] ⟨0,[]⟩ (Xd (fun u=>u=.int .i64 z)):=by
 refine @Eq.mpr _ (let b:=g.p;let m:=b.base;let l:=b.rate;let i:=b.delta;let k:=b.soon;let j:=b.far;let a:=AV.int i64 z;let h:=AV.int i64 21=a;let f:=g.ham;let r:=T m l f;let q:=r.fst;let e:=g.expiry;let d:=g.hex;let o:=wrap i64 (k+1);let c:=g.height;let n:=wrap i64 (j+1);
 Z9 (Z3l (Pb (YA.mk m l i k j)) !=0) h (Z9 (r.snd !=0) h (AbR g.amount q f/\Z9 (!A g.amount q f) h (AbR e i d/\Z9 (!A e i d) (AV.int i64 22=a) (AbR d o c/\Z9 (!A d o c) (AV.int i64 23=a) (AbR e n c/\Z9 (A e n c) (AV.int i64 24=a) (AV.int i64 0=a))))))) (by kernel_rfl) ?_
 conv=>zeta
 try simp only [vcA]
 try simp only [vcB]
 try simp only [vcC]
 refine ⟨fun h=> ?_,fun h=> ?_⟩
 ·have hp:¬Pb g.p=true:=fun hp=>by
   rw [show (⟨g.p.base,g.p.rate,g.p.delta,g.p.soon,g.p.far⟩:YA)=g.p from rfl,hp] at h
   cases h
  rw [hz]
  unfold Vd
  rw [if_pos fun hh=>hp hh.1]
 ·have hp:Pb g.p=true:=by
   cases hb:Pb g.p with
   | true=>rfl
   | false=>
    rw [show (⟨g.p.base,g.p.rate,g.p.delta,g.p.soon,g.p.far⟩:YA)=g.p from rfl,hb] at h
    cases h
  exact Z4G hT hP hI hz hp
theorem Z6z (T:Int->Int->Int->Int×Int) (Pb:YA->Bool) (A:Int->Int->Int->Bool) (g:GoS) (z:Int) (hT:Z0n T) (hP:∀p,Pb p=true->p.Ok) (hI:g.I) (hz:z=Vd T Pb A g):
  evF (Z5D T Pb A) 40 9 [.agg g.p.c,.agg g.hc,.agg g.oc,.int .i64 g.height] ⟨0,[]⟩ (Xd (fun u=>u=.int .i64 z)):=by
 refine @Eq.mpr _ (let b:=g.p;let m:=b.base;let l:=b.rate;let i:=b.delta;let k:=b.soon;let j:=b.far;let a:=AV.int i64 z;let h:=AV.int i64 21=a;let f:=g.ham;let r:=T m l f;let q:=r.fst;let e:=g.expiry;let d:=g.hex;let o:=wrap i64 (k+1);let c:=g.height;let n:=wrap i64 (j+1);
 Z9 (!Pb (YA.mk m l i k j)) h (Z9 (r.snd !=0) h (AbR g.amount q f/\Z9 (!A g.amount q f) h (AbR e i d/\Z9 (!A e i d) (AV.int i64 22=a) (AbR d o c/\Z9 (!A d o c) (AV.int i64 23=a) (AbR e n c/\Z9 (A e n c) (AV.int i64 24=a) (AV.int i64 0=a))))))) (by kernel_rfl) ?_
 conv=>zeta
 try simp only [vcA]
 try simp only [vcB]
 try simp only [vcC]
 refine ⟨fun h=> ?_,fun h=> ?_⟩
 ·have hp:¬Pb g.p=true:=by simpa using h
  rw [hz]
  unfold Vd
  rw [if_pos fun hh=>hp hh.1]
 ·have hp:Pb g.p=true:=by simpa using h
  exact Z4G hT hP hI hz hp
theorem Z4H:Z0n (Yj Zx) where
 h b r a h:=by
  unfold Yj at h⊢
  split at h
  ·rename_i hc
   have:=Vx (a:=a) (r:=r) ⟨hc.2.2,hc.2.1⟩
   rw [if_pos hc]
   split at h
   ·cases h
   ·rename_i hh
    rw [if_neg hh]
    show 0<=b+Zx a r/\b+Zx a r<=_
    omega
  ·cases h
def goF (V:GoS->Int):Yy:=fun args h K=>match args with
 | [.agg [.int .i64 a,.int .i64 b,.int .i64 c,.int .i64 d,.int .i64 e],.agg [.bool o,.int .i64 i,.int .i64 am,.arr .u8 32 ha,.int .i64 ex,.int .i64 st,.int .i64 fi,.arr .u8 32 se],.agg [.arr .u8 32 ke,.arr .u8 32 ne,.int .i64 hm,.int .i64 hx],.int .i64 he]=>
  (⟨⟨a,b,c,d,e⟩,o,i,am,ha,ex,st,fi,se,ke,ne,hm,hx,he⟩:GoS).I/\K (.int .i64 (V ⟨⟨a,b,c,d,e⟩,o,i,am,ha,ex,st,fi,se,ke,ne,hm,hx,he⟩))
 | _=>False
def goZ:GoS->Int:=Vd (Yj Zx) WK abV
theorem Z63 (args:List AV) (h:Z1) (K:AV->Prop) (hl:goF goZ args h K):Zj PP 8 args h fun o h'=>∃v,o=.ret v/\h'=h/\K v:=by
 unfold goF at hl
 split at hl
 ·exact ZT Z5n rfl (Z6V _ _ _ ⟨⟨_,_,_,_,_⟩,_,_,_,_,_,_,_,_,_,_,_,_,_⟩ _ Z4H (fun _ h=>W2.1 h) hl.1 rfl) fun u hu=>hu▸hl.2
 ·exact hl.elim
theorem Z5o (args:List AV) (h:Z1) (K:AV->Prop) (hl:goF goZ args h K):Zj PP 9 args h fun o h'=>∃v,o=.ret v/\h'=h/\K v:=by
 unfold goF at hl
 split at hl
 ·exact ZT Z4F rfl (Z6z _ _ _ ⟨⟨_,_,_,_,_⟩,_,_,_,_,_,_,_,_,_,_,_,_,_⟩ _ Z4H (fun _ h=>W2.1 h) hl.1 rfl) fun u hu=>hu▸hl.2
 ·exact hl.elim
theorem Z6A (u:Unit) :
  evF G0 20 94 [.nilslice] ⟨0,[]⟩ (Xd (fun v=>v=.nilslice)):=by
 refine @Eq.mpr _ (AV.nilslice=AV.nilslice) (by kernel_rfl) ?_
 rfl
def Z2b:Qq:=fun args h K=>match args with
 | [.nilslice]=>K (.ret .nilslice) h
 | args=>Z2I args h K
theorem Z3m (args:List AV) (h:Z1) (K:KO) (hl:Z2b args h K):Zj PP 94 args h K:=by
 unfold Z2b at hl
 split at hl
 ·have:=ZT (h:=h) (K:=fun v=>K (.ret v) h) Yd rfl (Z6A ()) fun u hu=>hu▸hl
  intro E w rs he hr
  refine (this E w rs he hr).mono ?_
  rintro e w' ⟨E',o,h',⟨v,rfl,rfl,hK⟩,hev,hor⟩
  exact ⟨E',_,_,hK,hev,hor⟩
 ·exact Z27 args h K hl
noncomputable def Z6B:Zk:=G0.withF 94 Z2b
theorem Z5p:Z6B.Ok:=Zk.withF_ok Yd Z3m
theorem Z6C (u:Unit) :
  evF Z6B 40 12 [] ⟨0,[]⟩ (Xd (fun v=>v=.bool true)):=by
 refine @Eq.mpr _ (let e:=[(0:Int),0,0,0,0,0,0,0,0,0,0,0,0,0,0,0,0,0,0,0,0,0,0,0,0,0,0,0,0,0,0];let d:=(2:Int)::e;let a:=d=d;let c:=(1:Int)::e;let b:=c=c;
 a/\b/\a/\b/\a/\a/\b/\a/\a/\b/\a/\b/\a/\a/\a/\AV.bool true=AV.bool true) (by kernel_rfl) ?_
 conv=>zeta
 repeat' apply And.intro
 all_goals first|rfl|trivial
def Z4I:Yy:=fun args _ K=>match args with
 | []=>K (.bool true)
 | _=>False
theorem Z4J (args:List AV) (h:Z1) (K:AV->Prop) (hl:Z4I args h K):Zj PP 12 args h fun o h'=>∃v,o=.ret v/\h'=h/\K v:=by
 unfold Z4I at hl
 split at hl
 ·exact ZT Z5p rfl (Z6C ()) fun u hu=>hu▸hl
 ·exact hl.elim
noncomputable def Z5E (V:GoS->Int) (Pb:YA->Bool):Zk:=((((G0.withP 8 (goF V)).withP 9 (goF V)).withP 11 (Z5m Pb)).withP 7 (Z2L Pb)).withP 12 Z4I
theorem Z4K:(Z5E goZ WK).Ok:=Zk.withP_ok (Zk.withP_ok (Zk.withP_ok (Zk.withP_ok (Zk.withP_ok Yd Z63) Z5o) Z2K) Z18) Z4J
theorem Z6W (V:GoS->Int) (Pb:YA->Bool) (g:GoS) (hI:g.I):
  evF (Z5E V Pb) 40 3 [.agg g.p.c,.agg g.hc,.agg g.oc,.int .i64 g.height] ⟨0,[]⟩ (Xd (fun v=>v=.bool true)):=by
 refine @Eq.mpr _ (let a:=g.p;let k:=YA.mk a.base a.rate a.delta a.soon a.far;let j:=Pb k;let i:=GoS.mk k g.own g.id g.amount g.hash g.expiry g.stage g.fin g.secret g.key g.next g.ham g.hex g.height;let b:=GoS.I i;let h:=V i;let f:=h==h;let e:=Z3l j;let d:=AV.bool true;let l:=d=d;let c:=AV.bool false=d;
 Z9 j (b/\b/\Z9 f (Z9 (e==0) l c) c) (b/\b/\Z9 f (Z9 (e==2) l c) c)) (by kernel_rfl) ?_
 conv=>zeta
 try simp only [vcA]
 try simp only [vcB]
 try simp only [vcC]
 cases hb:Pb g.p with
 | true=>
  exact ⟨fun _=>⟨hI,hI,fun _=>⟨fun _=>trivial,fun h2=>absurd h2 (by decide)⟩,fun h2=>by simp at h2⟩,fun h=>absurd h (by decide)⟩
 | false=>
  exact ⟨fun h=>absurd h (by decide),fun _=>⟨hI,hI,fun _=>⟨fun _=>trivial,fun h2=>absurd h2 (by decide)⟩,fun h2=>by simp at h2⟩⟩
theorem and_mk {a b:Bool} (h1:a=true) (h2:b=true):(a&&b)=true:=by rw [h1,h2];rfl
theorem Z4L {E:Env} {w:World} {sz n:Nat} (hg:∀i,i<n->g' i=g i) (he:Emb E ⟨1,[(0,.rows sz n g')]⟩ w):Emb E ⟨1,[(0,.rows sz n g)]⟩ w:=by
 have hget:∀(f:Nat->List AV) x B,(Z1.mk 1 [(0,.rows sz n f)]).get x=some B->x=0/\B=.rows sz n f:=fun f x B hx=>by
  grind [Z1.get,Zm,J0]
 have h0:∀f:Nat->List AV,(Z1.mk 1 [(0,.rows sz n f)]).get 0=some (.rows sz n f):=fun f=>rfl
 refine ⟨he.fresh,fun x B hx=> ?_,fun x B hx=> ?_,fun x y B B' b N N' hx hy h1 h2=> ?_,he.imm,fun a c x B N hi hx hb=> ?_⟩
 ·grind
 ·obtain ⟨rfl,rfl⟩:=hget _ _ _ hx
  have:=he.own 0 _ (h0 g')
  cases this with
  | rows0 _ _ _ hn hb=>exact .rows0 _ _ _ hn hb
  | rows _ _ _ b cells elem fr gv hb hw hf hc hl hv=>exact .rows _ _ _ b cells elem fr gv hb hw hf (fun i hi=>hg i hi▸hc i hi) hl hv
 ·grind
 ·obtain ⟨rfl,rfl⟩:=hget _ _ _ hx
  exact he.sep a c 0 _ N hi (h0 g') hb
theorem Spec.rows {P:Program} {f:FuncId} {args:List AV} {sz n:Nat} {o:Out} {nx:Nat} {bs:List (Nat×Blk)} (hg:∀i,i<n->g' i=g i) (h:Spec P f args ⟨1,[(0,.rows sz n g)]⟩ o nx bs):Spec P f args ⟨1,[(0,.rows sz n g')]⟩ o nx bs:=by
 intro E w rs he hl
 have he':=Z4L hg he
 refine (h E w rs he' hl).mono ?_
 rintro e w' ⟨E',hev,ho⟩
 have own:∀b,Y5 E ⟨1,[(0,.rows sz n g)]⟩ b↔Y5 E ⟨1,[(0,.rows sz n g')]⟩ b:=fun b=>by
  grind [Y5,Z1.get,Zm]
 exact ⟨E',⟨hev.le,hev.emb,hev.size,hev.os,hev.tape,hev.output,fun b hb hn=>hev.keep b hb (fun h=>hn ((own b).1 h)),fun b hb=>(hev.own b hb).imp (own b).1 id,hev.imm⟩,ho⟩
end Go.Tk
end
section
namespace Go.Tk
open IntKind (i64 u8 u32 u64 wrap)
def polTy:List Ty:=[.int .i64,.int .i64,.int .i64,.int .i64,.int .i64]
def payTy:List Ty:=[.bool,.int .i64,.int .i64,.arr .u8 32,.int .i64,.int .i64,.int .i64,.arr .u8 32]
def hopTy:List Ty:=[.arr .u8 32,.arr .u8 32,.int .i64,.int .i64]
theorem Z4M {x:Int} (h:(Lit.int .i64 x).wf=true):I64 x:=by
 simp only [Lit.wf,IntKind.min,IntKind.max,IntKind.signed,IntKind.bits,J2,decide_eq_true_eq,if_true] at h
 exact ⟨by omega,by omega⟩
theorem Z4N {a:AV} (h:Q3 true polTy a):∃p:YA,a=.agg p.c:=by
 cases h with|agg _ u h=>
 unfold polTy at h
 cases h with|cons _ a1 _ u h1 h=>
 cases h with|cons _ a2 _ u h2 h=>
 cases h with|cons _ a3 _ u h3 h=>
 cases h with|cons _ a4 _ u h4 h=>
 cases h with|cons _ a5 _ u h5 h=>
 cases h;cases h1;cases h2;cases h3;cases h4;cases h5
 exact ⟨⟨_,_,_,_,_⟩,rfl⟩
theorem Z4O {a:AV} (h:Q3 true payTy a):∃(o:Bool) (i am:Int) (ha:LI) (ex st fi:Int) (se:LI),a=.agg [.bool o,.int .i64 i,.int .i64 am,.arr .u8 32 ha,.int .i64 ex,.int .i64 st,.int .i64 fi,.arr .u8 32 se]/\I64 am/\I64 ex:=by
 cases h with|agg _ u h=>
 unfold payTy at h
 cases h with|cons _ a1 _ u h1 h=>
 cases h with|cons _ a2 _ u h2 h=>
 cases h with|cons _ a3 _ u h3 h=>
 cases h with|cons _ a4 _ u h4 h=>
 cases h with|cons _ a5 _ u h5 h=>
 cases h with|cons _ a6 _ u h6 h=>
 cases h with|cons _ a7 _ u h7 h=>
 cases h with|cons _ a8 _ u h8 h=>
 cases h;cases h1;cases h2;cases h3;cases h4;cases h5;cases h6;cases h7;cases h8
 exact ⟨_,_,_,_,_,_,_,_,rfl,Z4M ‹(Lit.int .i64 _).wf=true›,Z4M ‹(Lit.int .i64 _).wf=true›⟩
theorem Z4P {a:AV} (h:Q3 true hopTy a):∃(ke ne:LI) (hm hx:Int),a=.agg [.arr .u8 32 ke,.arr .u8 32 ne,.int .i64 hm,.int .i64 hx]/\I64 hm/\I64 hx:=by
 cases h with|agg _ u h=>
 unfold hopTy at h
 cases h with|cons _ a1 _ u h1 h=>
 cases h with|cons _ a2 _ u h2 h=>
 cases h with|cons _ a3 _ u h3 h=>
 cases h with|cons _ a4 _ u h4 h=>
 cases h;cases h1;cases h2;cases h3;cases h4
 exact ⟨_,_,_,_,rfl,Z4M ‹(Lit.int .i64 _).wf=true›,Z4M ‹(Lit.int .i64 _).wf=true›⟩
theorem linksgoes_walk {us:List AV} (h:QE [(true,polTy),(true,payTy),(true,hopTy),(false,[.int .i64])] us):Zj PP 3 us ⟨0,[]⟩ fun o h'=>∃v,o=.ret v/\h'=⟨0,[]⟩/\v=.bool true:=by
 cases h with|cons _ _ a _ _ h1 h=>
 cases h with|cons _ _ b _ _ h2 h=>
 cases h with|cons _ _ c _ _ h3 h=>
 cases h with|cons _ _ d _ _ h4 h=>
 cases h
 obtain ⟨p,rfl⟩:=Z4N h1
 obtain ⟨o,i,am,ha,ex,st,fi,se,rfl,g1,g2⟩:=Z4O h2
 obtain ⟨ke,ne,hm,hx,rfl,g3,g4⟩:=Z4P h3
 cases h4 with|one _ _ h4=>
 cases h4
 rename_i he hw
 exact ZT Z4K rfl (Z6W goZ WK ⟨p,o,i,am,ha,ex,st,fi,se,ke,ne,hm,hx,he⟩ ⟨g1,g2,g3,g4,Z4M hw⟩) fun u hu=>hu
end Go.Tk
namespace Go.Proofs.YtjfekgpoodeinaaGreat.linksGoes
open Go.ChangeShapes Go.WideShapes Go.ChangeAt Go.RowKit
theorem own:ownKnob Tryz.prog.godebug=none:=by kernel_rfl
theorem laidOut:laidOutB Tryz.prog=true:=by kernel_rfl
theorem lifted (os:Os) (started:os.Started) (H:Type) (enc:TypeId×Value->H):
  ReturnsInHanded {} Tryz.checked os 3 .any (Rows.linksGoesSpec.pre6 enc Tryz.prog Tryz.f3 Rows.linksGoesRow.domain false) (Rows.linksGoesSpec.post enc Tryz.prog Tryz.f3 false true false false):=
 Go.Tk.lifted_gen (C:=Tryz.checked) (m:=8) (τs:=[(true,Go.Tk.polTy),(true,Go.Tk.payTy),(true,Go.Tk.hopTy),(false,[.int .i64])]) own laidOut started (by kernel_rfl) Tryz.func3
  (ChangeSpec.witness6 (enc:=enc) (C:=Tryz.checked) false ⟨#[], #[.agg #[.int .i64 0,.int .i64 0,.int .i64 0,.int .i64 0,.int .i64 0],.agg (#[.bool false,.int .i64 0,.int .i64 0]++Array.replicate 32 (.int .u8 0)++ #[.int .i64 0,.int .i64 0,.int .i64 0]++Array.replicate 32 (.int .u8 0)),.agg (Array.replicate 64 (.int .u8 0)++ #[.int .i64 0,.int .i64 0]),.int .i64 0],[]⟩ 8 (by kernel_rfl) (by kernel_rfl) (by kernel_rfl) (by kernel_rfl))
  rfl (tb:=4) rfl Tryz.underlying4 (by kernel_rfl) (by kernel_rfl) (fun ds h=>by
   match ds,h with
   | [a,b,c,d],_=>rfl) fun us h=>Go.Tk.linksgoes_walk h
theorem Z64:Tryz.pinned.checked.prog.funcNamed Rows.linksGoesRow.func=some 3:=by kernel_rfl
theorem closed:joinedFacts Tryz.pinned.checked.prog 3 Tryz.f3 Rows.linksGoesSpec Rows.linksGoesRow=true:=by
 unfold joinedFacts
 repeat' with_reducible refine Go.Tk.and_mk ?_ ?_
 all_goals as_aux_lemma=>kernel_rfl
theorem over:Rows.linksGoesRow.holds Tryz.pinned (OpenSpec.ofChange Rows.linksGoesSpec):=
 OpenClaim.holds_of_wide 3 Tryz.f3 rfl rfl rfl rfl rfl rfl rfl ⟨rfl,rfl,rfl,rfl,rfl⟩ rfl rfl rfl rfl rfl Z64 Tryz.func3 closed
  (of_decide_eq_true (by kernel_rfl)) (by unfold Func.isWrapper;first|(rw [if_pos (by decide+kernel)];kernel_rfl)|(rw [if_neg (by decide+kernel)];exact ⟨rfl,rfl⟩))
  (fun os started H enc _=>lifted os started H enc)
theorem proved:Rows.LinksGoesSaid:=over
end Go.Proofs.YtjfekgpoodeinaaGreat.linksGoes
end
