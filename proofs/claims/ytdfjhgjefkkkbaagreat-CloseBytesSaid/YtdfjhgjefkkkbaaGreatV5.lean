/- V: part 5 of an engine (a symbolic evaluator, proved against the model) and of the walk by it. -/
import Derived.Test.YtdfjhgjefkkkbaaGreatV4
set_option linter.unusedVariables false
set_option linter.unusedSimpArgs false
set_option maxRecDepth 100000
set_option maxHeartbeats 0
section
namespace Go.Tk
open IntKind (i64 u8 u32 u64 wrap)
def U32 (x:Int):Prop:=0≤x∧x<4294967296
theorem ZfU (x:Int):u32.wrap x=x%4294967296:=by
 unfold wrap
 simp [IntKind.bits,IntKind.signed]
theorem Uc {x:Int} (h:U32 x):u32.wrap x=x:=by rw [ZfU];unfold U32 at h;omega
theorem Zce (x y:Nat) (hx:x<4294967296) (hy:y<4294967296):bOr .u32 x y=((x|||y:Nat):Int):=by
 unfold bOr
 rw [Uc]
 ·show (((BitVec.ofInt 32 (x:Int)|||BitVec.ofInt 32 (y:Int)).toNat:Nat):Int)=_
  rw [BitVec.toNat_or,BitVec.ofInt_natCast,BitVec.ofInt_natCast,BitVec.toNat_ofNat,BitVec.toNat_ofNat,Nat.mod_eq_of_lt hx,Nat.mod_eq_of_lt hy]
 ·unfold U32
  have:=(BitVec.ofInt u32.bits x|||BitVec.ofInt u32.bits y).isLt
  simp only [IntKind.bits] at this
  simp only [IntKind.bits]
  omega
theorem U32.nat {x:Int} (h:U32 x):∃n:Nat,x=n∧n<4294967296:=⟨x.toNat,by unfold U32 at h;omega,by unfold U32 at h;omega⟩
theorem U32.of {n:Nat} (h:n<4294967296):U32 (n:Int):=by unfold U32;omega
theorem Z31 (bl:List Int) (t:Nat):Qu bl (t+1)=(Qu bl t).set t (if t<16 then Z8s bl t else Zeb (Qu bl t) t):=by rw [Qu]
theorem Z32 (bl:List Int) (s t:Nat) (hs:s<t):∀u,(Qu bl (t+u)).getD s 0=(Qu bl t).getD s 0
 | 0=>rfl
 | u+1=>by
  rw [←Nat.add_assoc,Z31,←Z32 bl s t hs u]
  simp only [List.getD_eq_getElem?_getD]
  rw [List.getElem?_set_ne (by omega)]
@[irreducible] def Zam (bl:List Int) (t:Nat):Int:=(Qu bl 64).getD t 0
theorem Zcf (bl:List Int) {s t:Nat} (hs:s<t) (ht:t≤64):(Qu bl t).getD s 0=Zam bl s:=by
 unfold Zam
 have:=Z32 bl s t hs (64-t)
 rw [show t+(64-t)=64 by omega] at this
 exact this.symm
theorem Zcg (bl:List Int) {t:Nat} (ht:t<64):Zam bl t=if t<16 then Z8s bl t else Zeb (Qu bl t) t:=by
 rw [←Zcf bl (Nat.lt_succ_self t) (by omega),Z31]
 simp only [List.getD_eq_getElem?_getD]
 rw [List.getElem?_set_self (by rw [Z51];omega)]
 rfl
theorem Zch (bl:List Int) {t:Nat} (ht:t<16):Zam bl t=Z8s bl t:=by rw [Zcg bl (by omega),if_pos ht]
def Ring (bl r:List Int) (t:Nat):Prop:=r.length=16∧∀s,s<max 16 t→max 16 t≤s+16→r.getD (s%16) 0=Zam bl s
def U8 (x:Int):Prop:=0≤x∧x<256
theorem Z0K (x n:Nat) (hn:n≤32) (h:x*2^n<4294967296):ZK .u32 x n=((x*2^n:Nat):Int):=by
 unfold ZK
 have:min (n:Int).toNat u32.bits=n:=by simp [IntKind.bits];omega
 rw [this,show (x:Int)*2^n=((x*2^n:Nat):Int) by push_cast;rfl]
 exact Uc (U32.of h)
theorem Z0L (x y:Nat) (hx:x<16777216) (hy:y<256):bOr .u32 (ZK .u32 x 8) y=((x*256+y:Nat):Int):=by
 have:=Z0K x 8 (by omega) (by omega)
 rw [show ((8:Nat):Int)=8 from rfl] at this
 rw [this,Zce _ _ (by omega) (by omega),←Nat.shiftLeft_eq,←Nat.shiftLeft_add_eq_or_of_lt (by omega),Nat.shiftLeft_eq]
theorem VT {P:Int→Prop} {l:List Int} (h:∀x∈l,P x) (h0:P 0) (i:Nat):P (l.getD i 0):=by
 rw [List.getD_eq_getElem?_getD]
 cases hg:l[i]? with
 | none=>exact h0
 | some x=>exact h x (List.mem_of_getElem? hg)
theorem U8.nat {x:Int} (h:U8 x):∃n:Nat,x=n∧n<256:=⟨x.toNat,by unfold U8 at h;omega,by unfold U8 at h;omega⟩
theorem Zci (bl:List Int) (hb:∀x∈bl,U8 x) (t:Nat):Xt bl (4*t)=Z8s bl t:=by
 unfold Xt Z8s
 obtain ⟨a,ea,ha⟩:=(VT (P:=U8) hb (by unfold U8;omega) (4*t)).nat
 obtain ⟨b,eb,hb'⟩:=(VT (P:=U8) hb (by unfold U8;omega) (4*t+1)).nat
 obtain ⟨c,ec,hc⟩:=(VT (P:=U8) hb (by unfold U8;omega) (4*t+2)).nat
 obtain ⟨d,ed,hd⟩:=(VT (P:=U8) hb (by unfold U8;omega) (4*t+3)).nat
 rw [ea,eb,ec,ed]
 rw [Uc (x:=(a:Int)) (U32.of (by omega)),Uc (x:=(b:Int)) (U32.of (by omega)),Uc (x:=(c:Int)) (U32.of (by omega)),Uc (x:=(d:Int)) (U32.of (by omega))]
 have z:=Z0L 0 a (by omega) ha
 have s0:ZK .u32 0 8=0:=by decide
 rw [show ZK .u32 ((0:Nat):Int) 8=0 from s0] at z
 rw [z,Z0L _ b (by omega) hb',Z0L _ c (by omega) hc,Z0L _ d (by omega) hd]
 have g1:=Z0K a 24 (by omega) (by omega)
 have g2:=Z0K b 16 (by omega) (by omega)
 have g3:=Z0K c 8 (by omega) (by omega)
 rw [show ((24:Nat):Int)=24 from rfl] at g1
 rw [show ((16:Nat):Int)=16 from rfl] at g2
 rw [show ((8:Nat):Int)=8 from rfl] at g3
 rw [g1,g2,g3]
 simp only [ZfU]
 omega
theorem Ring.first (bl:List Int) (hb:∀x∈bl,U8 x):Ring bl (Vg bl) 0:=by
 refine ⟨rfl,fun s h1 _=> ?_⟩
 have h16:s<16:=by omega
 rw [Zch bl h16,←Zci bl hb,Nat.mod_eq_of_lt h16]
 have:s=0∨s=1∨s=2∨s=3∨s=4∨s=5∨s=6∨s=7∨s=8∨s=9∨s=10∨s=11∨s=12∨s=13∨s=14∨s=15:=by omega
 rcases this with rfl|rfl|rfl|rfl|rfl|rfl|rfl|rfl|rfl|rfl|rfl|rfl|rfl|rfl|rfl|rfl<;>rfl
def ZfV (P:List Int→List Int→List Int):Nat→List Int→List Int→List Int
 | 0,st,_=>st
 | n+1,st,ms=>ZfV P n (P st (ms.take 64)) (ms.drop 64)
structure Rep (r:Zy) (ms:List Int):Prop where
 came:r.came=ms.length
 st:r.st=ZfV Z0e (ms.length/64) YM.st ms
 len:r.part.length=64
 part:r.part.take (ms.length%64)=ms.drop (64*(ms.length/64))
theorem Rep.ok {r:Zy} {ms:List Int} (h:Rep r ms) (h8:r.st.length=8):r.Ok:=⟨h8,h.len,by rw [h.came];omega⟩
end Go.Tk
end
section
namespace Go.Tk
open IntKind (i64 u8 u32 u64 wrap)
end Go.Tk
end
section
namespace Go.Tk
open IntKind (i64 u8 u32 u64 wrap)
end Go.Tk
end
section
namespace Go.Tk
open IntKind (i64 u8 u32 u64 wrap)
end Go.Tk
end
section
namespace Go.Tk
open IntKind (i64 u8 u32 u64 wrap)
theorem Bytes.u8 {xs:List Int} (h:Bytes xs):∀x∈xs,U8 x:=by
 intro x hx
 obtain ⟨i,hi,rfl⟩:=List.getElem_of_mem hx
 have:=h.h i
 rw [List.getD_eq_getElem?_getD,List.getElem?_eq_getElem hi] at this
 simp at this
 unfold U8
 omega
theorem Bytes.of {xs:List Int} (h:∀x∈xs,U8 x):Bytes xs:=⟨fun i=>by
 have:=VT (P:=U8) h (by unfold U8;omega) i
 unfold U8 at this
 omega⟩
end Go.Tk
end
section
namespace Go.Tk
open IntKind (i64 u8 u32 u64 wrap)
structure Zq where
 fund:List Int
 index:Int
 cap:Int
 dust:Int
 fee:Int
 delay:Int
 k0:List Int
 k1:List Int
def Zq.c (t:Zq):List AV:=[.arr .u8 32 t.fund,.int .i64 t.index,.int .i64 t.cap,.int .i64 t.dust,.int .i64 t.fee,.int .i64 t.delay,.arr .u8 32 t.k0,.arr .u8 32 t.k1]
structure Zq.Ok (t:Zq):Prop where
 k0:t.k0.length=32
 k1:t.k1.length=32
 b0:Bytes t.k0
 b1:Bytes t.k1
def YN (t:Zq):Bool:=decide (0≤t.index∧t.index≤23)&&decide (1000≤t.cap∧t.cap≤1125899906842624)&&decide (1≤t.dust∧t.dust≤500)&&decide (0≤t.fee∧t.fee≤400)&&decide (1≤t.delay∧t.delay≤1000)&&(t.k0 !=t.k1)
theorem Z52 (b:Bool) (x y:Prop):Z0 b x y=((b=true→x)∧(b=false→y)):=by cases b<;>simp [Z0]
theorem ZfW (n a b:Int) (r:Bool) (hr:r=decide (a≤n∧n≤b)):
  evF G0 20 86 [.int .i64 n,.int .i64 a,.int .i64 b] ⟨0,[]⟩ (Uh (fun v=>v=.bool r)):=by
 refine @Eq.mpr _ (Z0 (decide (a≤n)) (AV.bool (decide (n≤b))=AV.bool r) (AV.bool false=AV.bool r)) (by kernel_rfl) ?_
 simp only [Z52]
 subst hr
 by_cases h1:a≤n<;>by_cases h2:n≤b<;>simp [h1,h2]
def inQ:ZZ:=fun args _ K=>match args with
 | [.int .i64 n,.int .i64 a,.int .i64 b]=>K (.bool (decide (a≤n∧n≤b)))
 | _=>False
theorem Zan (args:List AV) (h:Z7) (K:AV→Prop) (hl:inQ args h K):Zg PP 86 args h fun o h'=>∃v,o=.ret v∧h'=h∧K v:=by
 unfold inQ at hl
 split at hl
 ·exact Ww Zu rfl (ZfW _ _ _ _ rfl) (fun u hu=>hu▸hl)
 ·exact hl.elim
noncomputable def E71:Ze:=G0.withP 86 inQ
theorem Zec:E71.Ok:=Ze.withP_ok Zu Zan
theorem ZfX (t:Zq) (e:Int) (ht:t.Ok) (he:e=if YN t=true then 0 else 2):
  evF E71 20 44 [.agg t.c] ⟨0,[]⟩ (Uh (fun v=>v=.int .i64 e)):=by
 refine @Eq.mpr _ (let q1:=AV.int i64 2=AV.int i64 e;
 Z0 (decide (List.length t.k0=32∧List.length t.k1=32)) (Z0 (false==decide (0≤t.index∧t.index≤23)) q1 (Z0 (false==decide (1000≤t.cap∧t.cap≤1125899906842624)) q1 (Z0 (false==decide (1≤t.dust∧t.dust≤500)) q1 (Z0 (false==decide (0≤t.fee∧t.fee≤400)) q1 (Z0 (false==decide (1≤t.delay∧t.delay≤1000)) q1 (Z0 (false== !t.k0==t.k1) q1 (AV.int i64 0=AV.int i64 e))))))) False) (by kernel_rfl) ?_
 conv=>zeta
 try simp only [Zc]
 try simp only [Zj]
 try simp only [Zd]
 try simp only [Zk]
 try simp only [Zl]
 try simp only [Zb]
 try simp only [Int.toNat_natCast,Nat.zero_add,true_and,and_true,Nat.le_refl]
 unfold YN at he
 refine ⟨⟨ht.k0,ht.k1⟩, ?_⟩
 generalize decide (0≤t.index∧t.index≤23)=c1 at*
 generalize decide (1000≤t.cap∧t.cap≤1125899906842624)=c2 at*
 generalize decide (1≤t.dust∧t.dust≤500)=c3 at*
 generalize decide (0≤t.fee∧t.fee≤400)=c4 at*
 generalize decide (1≤t.delay∧t.delay≤1000)=c5 at*
 have h6:(t.k0 !=t.k1)= !(t.k0==t.k1):=rfl
 rw [h6] at he
 generalize (t.k0==t.k1)=c6 at*
 cases c1<;>cases c2<;>cases c3<;>cases c4<;>cases c5<;>cases c6<;>simp_all
def Z53:ZZ:=fun args _ K=>match args with
 | [.agg [.arr .u8 32 fu,.int .i64 ix,.int .i64 ca,.int .i64 du,.int .i64 fe,.int .i64 de,.arr .u8 32 k0,.arr .u8 32 k1]]=>(Zq.Ok ⟨fu,ix,ca,du,fe,de,k0,k1⟩)∧K (.int .i64 (if YN ⟨fu,ix,ca,du,fe,de,k0,k1⟩=true then 0 else 2))
 | _=>False
theorem Z1X (args:List AV) (h:Z7) (K:AV→Prop) (hl:Z53 args h K):Zg PP 44 args h fun o h'=>∃v,o=.ret v∧h'=h∧K v:=by
 unfold Z53 at hl
 split at hl
 ·obtain ⟨ht,hK⟩:=hl
  exact Ww Zec rfl (ZfX ⟨_,_,_,_,_,_,_,_⟩ _ ht rfl) (fun u hu=>hu▸hK)
 ·exact hl.elim
end Go.Tk
end
section
namespace Go.Tk
open IntKind (i64 u8 u32 u64 wrap)
def Ui {α:Type} (lt:α→α→Bool) (x:α):List α→List α
 | []=>[x]
 | y::r=>match lt x y with
  | true=>x::y::r
  | false=>y::Ui lt x r
def Xr {α:Type} (lt:α→α→Bool):List α→List α→List α
 | acc,[]=>acc
 | acc,x::r=>Xr lt (Ui lt x acc) r
def Z1Y {α:Type} (lt:α→α→Bool) (l:List α):Prop:=l.Pairwise fun a b=>lt b a=false
structure WO {α:Type} (lt:α→α→Bool):Prop where
 asym:∀x y,lt x y=true→lt y x=false
 neg:∀x y z,lt x y=true→lt z y=false→lt x z=true
theorem Z54 {α:Type} {lt:α→α→Bool} {x z:α}:∀{l:List α},z∈Ui lt x l↔z=x∨z∈l
 | []=>by simp [Ui]
 | y::r=>by
  unfold Ui
  split
  ·simp
  ·simp only [List.mem_cons,Z54 (l:=r)]
   constructor<;>(intro h;rcases h with h|h|h<;>simp [h])
theorem Z33 {α:Type} {lt:α→α→Bool} {x:α}:∀{l:List α},(Ui lt x l).Perm (x::l)
 | []=>.refl _
 | y::r=>by
  unfold Ui
  split
  ·exact .refl _
  ·exact (List.Perm.cons y Z33).trans (List.Perm.swap x y r)
theorem Z55 {α:Type} {lt:α→α→Bool} (wo:WO lt) {x:α}:∀{l:List α},Z1Y lt l→Z1Y lt (Ui lt x l)
 | [],_=>by simp [Ui,Z1Y]
 | y::r,h=>by
  unfold Z1Y at h
  rw [List.pairwise_cons] at h
  unfold Ui
  split
  ·rename_i hx
   unfold Z1Y
   rw [List.pairwise_cons,List.pairwise_cons]
   refine ⟨fun z hz=> ?_,h.1,h.2⟩
   rcases List.mem_cons.1 hz with rfl|hz
   ·exact wo.asym _ _ hx
   ·cases hzx:lt z x with
    | false=>rfl
    | true=>
     have:=h.1 z hz
     -- z < x < y, so z < y
     have h2:=wo.neg z x y hzx (wo.asym _ _ hx)
     rw [h2] at this;cases this
  ·rename_i hx
   unfold Z1Y
   rw [List.pairwise_cons]
   refine ⟨fun z hz=> ?_,Z55 wo h.2⟩
   rcases Z54.1 hz with rfl|hz
   ·exact hx
   ·exact h.1 z hz
theorem Z7d {α:Type} {lt:α→α→Bool} (wo:WO lt) {x:α}:∀{l:List α} {j:Nat},Z1Y lt l→j≤l.length→(∀y∈l.drop j,lt x y=true)→(∀y,l[j-1]? =some y→0<j→lt x y=false)→
  l.take j++x::l.drop j=Ui lt x l
 | [],j,_,hj,_,_=>by simp at hj;simp [Ui]
 | y::r,0,_,_,h1,_=>by
  have:=h1 y (by simp)
  unfold Ui
  rw [this];simp
 | y::r,j+1,ho,hj,h1,h2=>by
  unfold Z1Y at ho
  rw [List.pairwise_cons] at ho
  have hy:lt x y=false:=by
   cases hxy:lt x y with
   | false=>rfl
   | true=>
    cases j with
    | zero=>rw [h2 y (by simp) (by omega)] at hxy;cases hxy
    | succ k=>
     simp at hj
     have hk:k<r.length:=by omega
     have h3:=h2 r[k] (by simp [hk]) (by omega)
     have h4:=ho.1 r[k] (List.getElem_mem hk)
     rw [wo.neg x y _ hxy h4] at h3;cases h3
  unfold Ui
  rw [hy]
  simp only [List.take_succ_cons,List.drop_succ_cons,List.cons_append,List.cons.injEq,true_and]
  refine Z7d wo ho.2 (by simpa using hj) (by simpa using h1) fun z hz hj'=>h2 z ?_ (by omega)
  cases j with
  | zero=>omega
  | succ k=>simpa using hz
theorem Z34 {α:Type} {lt:α→α→Bool} (wo:WO lt):∀{l acc:List α},Z1Y lt acc→Z1Y lt (Xr lt acc l)
 | [],_,h=>h
 | _::_,_,h=>by unfold Xr;exact Z34 wo (Z55 wo h)
theorem Vi {α:Type} {lt:α→α→Bool}:∀{l acc:List α},(Xr lt acc l).Perm (acc++l)
 | [],acc=>by simp [Xr]
 | x::r,acc=>by
  unfold Xr
  refine Vi.trans ?_
  refine (List.Perm.append_right r Z33).trans ?_
  rw [List.cons_append]
  exact List.perm_middle.symm
theorem Z35 {α:Type} {lt:α→α→Bool} {l acc:List α}:(Xr lt acc l).length=acc.length+l.length:=by
 rw [(Vi (lt:=lt)).length_eq,List.length_append]
theorem Z1Z {α:Type} {lt:α→α→Bool} {x:α}:∀{l acc:List α},Xr lt acc (l++[x])=Ui lt x (Xr lt acc l)
 | [],acc=>rfl
 | y::r,acc=>by
  simp only [List.cons_append,Xr]
  exact Z1Z
end Go.Tk
end
section
namespace Go.Tk
open IntKind (i64 u8 u32 u64 wrap)
def YX:List Int→Nat
 | []=>0
 | a::r=>(Vn a).toNat*256^r.length+YX r
theorem Z3S:∀(x:List Int),YX x<256^x.length
 | []=>by simp [YX]
 | a::r=>by
  have h1:=Z3S r
  have h2:=(Vn a).toNat_lt
  simp only [YX,List.length_cons,Nat.pow_succ]
  have h3:(Vn a).toNat*256^r.length≤255*256^r.length:=Nat.mul_le_mul_right _ (by omega)
  omega
theorem Z56:∀(x y:List Int),x.length=y.length→WC x y=if YX x<YX y then -1 else if YX y<YX x then 1 else 0
 | [],[],_=>by simp [WC,Lib.compareBytes,YX]
 | [],b::s,h=>by simp at h
 | a::r,[],h=>by simp at h
 | a::r,b::s,h=>by
  have h':r.length=s.length:=by simpa using h
  have ih:=Z56 r s h'
  have e1:YX (a::r)=(Vn a).toNat*256^r.length+YX r:=rfl
  have e2:YX (b::s)=(Vn b).toNat*256^r.length+YX s:=by rw [h'];rfl
  have e3:WC (a::r) (b::s)=if (Vn a).toNat<(Vn b).toNat then -1 else if (Vn b).toNat<(Vn a).toNat then 1 else WC r s:=by
   unfold WC;simp only [List.map_cons,Lib.compareBytes,UInt8.lt_iff_toNat_lt]
  have h1:=Z3S r
  have h2:=Z3S s
  rw [←h'] at h2
  rw [e3]
  generalize YX (a::r)=A at*
  generalize YX (b::s)=B at*
  generalize (Vn a).toNat=u at*
  generalize (Vn b).toNat=v at*
  generalize hM:256^r.length=M at*
  have hs:∀p q:Nat,p<q→p*M+M≤q*M:=fun p q hpq=>by
   have:(p+1)*M≤q*M:=Nat.mul_le_mul_right _ hpq
   rw [Nat.add_mul,Nat.one_mul] at this
   exact this
  by_cases c1:u<v
  ·have:=hs u v c1
   rw [if_pos c1,if_pos (by omega)]
  ·rw [if_neg c1]
   by_cases c2:v<u
   ·have:=hs v u c2
    rw [if_pos c2,if_neg (by omega),if_pos (by omega)]
   ·rw [if_neg c2,ih]
    have:u=v:=by omega
    subst this
    simp only [show (A<B)=(YX r<YX s) from propext (by omega),show (B<A)=(YX s<YX r) from propext (by omega)]
structure Zh where
 o:ZM
 id:Int
 what:Int
def Zh.c (m:Zh):List AV:=[.int .i64 m.o.kind,.int .i64 m.o.amount,.arr .u8 32 m.o.owner,.arr .u8 32 m.o.other,.arr .u8 32 m.o.point,.arr .u8 32 m.o.hash,.int .i64 m.o.delay,.int .i64 m.o.expiry,.int .i64 m.id,.int .i64 m.what]
structure Zh.Ok (m:Zh):Prop where
 owner:m.o.owner.length=32
 other:m.o.other.length=32
 point:m.o.point.length=32
 hash:m.o.hash.length=32
def Ym:Zh:=⟨⟨0,0,[],[],[],[],0,0⟩,0,0⟩
def VU (a b:Int):Int:=if a<b then -1 else if b<a then 1 else 0
def Z8t (a b:Zh):Int:=
 if VU a.o.amount b.o.amount≠0 then VU a.o.amount b.o.amount else
 if VU a.o.kind b.o.kind≠0 then VU a.o.kind b.o.kind else
 if VU a.o.expiry b.o.expiry≠0 then VU a.o.expiry b.o.expiry else
 if WC a.o.hash b.o.hash≠0 then WC a.o.hash b.o.hash else VU a.id b.id
def ltM (a b:Zh):Bool:=decide (a.o.amount<b.o.amount∨(a.o.amount=b.o.amount∧(a.o.kind<b.o.kind∨(a.o.kind=b.o.kind∧(a.o.expiry<b.o.expiry∨(a.o.expiry=b.o.expiry∧(YX a.o.hash<YX b.o.hash∨(YX a.o.hash=YX b.o.hash∧a.id<b.id))))))))
theorem V1 (a b:Int):(a<b∧VU a b= -1)∨(b<a∧VU a b=1)∨(a=b∧VU a b=0):=by unfold VU;omega
theorem Z8u {x y:List Int} (h:x.length=y.length):(YX x<YX y∧WC x y= -1)∨(YX y<YX x∧WC x y=1)∨(YX x=YX y∧WC x y=0):=by
 rw [Z56 x y h];omega
theorem Zcj {a b:Zh} (ha:a.Ok) (hb:b.Ok):decide (Z8t a b<0)=ltM a b:=by
 unfold Z8t ltM
 have h1:=V1 a.o.amount b.o.amount
 have h2:=V1 a.o.kind b.o.kind
 have h3:=V1 a.o.expiry b.o.expiry
 have h4:=Z8u (ha.hash.trans hb.hash.symm)
 have h5:=V1 a.id b.id
 rw [decide_eq_decide]
 generalize VU a.o.amount b.o.amount=c1 at*
 generalize VU a.o.kind b.o.kind=c2 at*
 generalize VU a.o.expiry b.o.expiry=c3 at*
 generalize WC a.o.hash b.o.hash=c4 at*
 generalize VU a.id b.id=c5 at*
 generalize YX a.o.hash=v1 at*
 generalize YX b.o.hash=v2 at*
 omega
theorem Zao:WO ltM where
 asym x y h:=by
  unfold ltM at*
  simp only [decide_eq_true_eq,decide_eq_false_iff_not] at*
  generalize YX x.o.hash=v1 at*
  generalize YX y.o.hash=v2 at*
  omega
 neg x y z h h2:=by
  unfold ltM at*
  simp only [decide_eq_true_eq,decide_eq_false_iff_not] at*
  generalize YX x.o.hash=v1 at*
  generalize YX y.o.hash=v2 at*
  generalize YX z.o.hash=v3 at*
  omega
def Y1 (l:List Zh):List Zh:=Xr ltM [] l
def Zt (l:List Zh) (i:Nat):List AV:=(l.getD i Ym).c
end Go.Tk
end
section
namespace Go.Tk
open IntKind (i64 u8 u32 u64 wrap)
def byL:List AV:=[.func (.func 170) [] [],.func (.func 172) [] [],.func (.func 174) [] [],.func (.func 175) [] [],.func (.func 176) [] []]
theorem Z7e {a b r c:Int} {P X Y:Prop} (hr:r=if VU a b≠0 then VU a b else c) (hP:r=c→P):
  Z0 (a !=a) X (Z0 (b !=b) Y (Z0 (decide (a<b)) (Z0 (decide (-1=r)) True False) (Z0 (decide (a>b)) (Z0 (decide (1=r)) True False) P))):=by
 rw [bne_self_eq_false,bne_self_eq_false]
 show Z0 (decide (a<b)) _ (Z0 (decide (a>b)) _ P)
 rcases V1 a b with ⟨h1,h2⟩|⟨h1,h2⟩|⟨h1,h2⟩
 ·rw [decide_eq_true h1,hr,h2];trivial
 ·rw [decide_eq_false (by omega:¬a<b),decide_eq_true (show a>b from h1),hr,h2];trivial
 ·rw [decide_eq_false (by omega:¬a<b),decide_eq_false (show ¬a>b by omega)]
  exact hP (by rw [hr,h2];rfl)
theorem ZfY (a b:Zh) (r:Int) (ha:a.Ok) (hb:b.Ok) (hr:r=Z8t a b):
  evF G0 20 241 [.agg a.c,.agg b.c,.pview [.vrows 1 5 (ZO byL 0 1) 5] 0] ⟨0,[]⟩ (Y2 0 (.ret (.int .i64 r)) 0 []):=by
 refine @Eq.mpr _ (let q1:=a.o;
 let q2:=q1.amount;
 let q3:=b.o;
 let q4:=q3.amount;
 let q5:=q4 !=q4;
 let q6:=q1.kind;
 let q7:=q3.kind;
 let q8:=q7 !=q7;
 let q9:=q1.expiry;
 let q10:=q3.expiry;
 let q11:=q10 !=q10;
 let q12:=q1.hash;
 let q13:=q3.hash;
 let q14:=WC q12 q13;
 let q15:=a.id;
 let q16:=b.id;
 let q17:=q16 !=q16;
 let q18:=Z0 (decide (0=r)) True False;
 let q19:=Z0 (decide (-1=r)) True False;
 let q20:=Z0 (decide (1=r)) True False;
 let q21:=Z0 (decide (u8=u8∧List.length q12=32)) (Z0 (decide (u8=u8∧List.length q13=32)) (Z0 (q14 !=0) (Z0 (decide (q14=r)) True False) (Z0 (q15 !=q15) (Z0 q17 q18 q19) (Z0 q17 q20 (Z0 (decide (q15<q16)) q19 (Z0 (decide (q15>q16)) q20 q18))))) False) False;
 let q22:=Z0 (q9 !=q9) (Z0 q11 q21 q19) (Z0 q11 q20 (Z0 (decide (q9<q10)) q19 (Z0 (decide (q9>q10)) q20 q21)));
 let q23:=Z0 (q6 !=q6) (Z0 q8 q22 q19) (Z0 q8 q20 (Z0 (decide (q6<q7)) q19 (Z0 (decide (q6>q7)) q20 q22)));
 Z0 (q2 !=q2) (Z0 q5 q23 q19) (Z0 q5 q20 (Z0 (decide (q2<q4)) q19 (Z0 (decide (q2>q4)) q20 q23)))) (by kernel_rfl) ?_
 conv=>zeta
 unfold Z8t at hr
 refine Z7e hr fun hr=>Z7e hr fun hr=>Z7e hr fun hr=> ?_
 rw [decide_eq_true (show u8=u8∧a.o.hash.length=32 from ⟨rfl,ha.hash⟩),decide_eq_true (show u8=u8∧b.o.hash.length=32 from ⟨rfl,hb.hash⟩)]
 show Z0 (WC a.o.hash b.o.hash !=0) _ _
 by_cases h:WC a.o.hash b.o.hash=0
 ·rw [h]
  rw [if_neg (by simp [h])] at hr
  refine Z7e (c:=0) ?_ fun hr=>by rw [hr];trivial
  rw [hr];split<;>simp_all
 ·rw [if_pos h] at hr
  rw [bne_iff_ne.2 h,hr,decide_eq_true rfl];trivial
def ZfZ:ZZ:=fun args h K=>ZL none h true 20 args fun a=>match a with
 | [.agg ca,.agg cb,.pview [.vrows 1 5 f 5] 0]=>∃a b,ca=Zh.c a∧cb=Zh.c b∧f=ZO byL 0 1∧(a.Ok∧b.Ok)∧K (.int .i64 (Z8t a b))
 | _=>False
theorem Zck (args:List AV) (h:Z7) (K:AV→Prop) (hl:ZfZ args h K):Zg PP 241 args h fun o h'=>∃v,o=.ret v∧h'=h∧K v:=by
 refine ZD.psumm (d:=20) (Zn _ _ _ _ _ hl fun a ha=> ?_)
 split at ha
 ·obtain ⟨a,b,rfl,rfl,rfl,⟨h1,h2⟩,hK⟩:=ha
  exact ⟨_,.evM Zu (ZfY a b _ h1 h2 rfl),fun _=>rfl,hK⟩
 ·exact ha.elim
end Go.Tk
end
section
namespace Go.Tk
open IntKind (i64 u8 u32 u64 wrap)
theorem and_mk {a b:Bool} (h1:a=true) (h2:b=true):(a&&b)=true:=by rw [h1,h2];rfl
theorem Zap {E:Env} {w:World} {sz n:Nat} {g g':Nat→List AV} (hg:∀i,i<n→g' i=g i) (he:Emb E ⟨1,[(0,.rows sz n g')]⟩ w):Emb E ⟨1,[(0,.rows sz n g)]⟩ w:=by
 have hget:∀(f:Nat→List AV) x B,(Z7.mk 1 [(0,.rows sz n f)]).get x=some B→x=0∧B=.rows sz n f:=fun f x B hx=>by
  simp only [Z7.get,ZH] at hx
  split at hx
  ·rename_i hb
   cases hx
   exact ⟨(Nat.eq_of_beq_eq_true hb).symm,rfl⟩
  ·cases hx
 have h0:∀f:Nat→List AV,(Z7.mk 1 [(0,.rows sz n f)]).get 0=some (.rows sz n f):=fun f=>rfl
 refine ⟨he.fresh,fun x B hx=> ?_,fun x B hx=> ?_,fun x y B B' b N N' hx hy h1 h2=> ?_,he.imm,fun a c x B N hi hx hb=> ?_⟩
 ·obtain ⟨rfl,rfl⟩:=hget _ _ _ hx;exact he.lt 0 _ (h0 _)
 ·obtain ⟨rfl,rfl⟩:=hget _ _ _ hx
  have:=he.own 0 _ (h0 g')
  cases this with
  | rows0 _ _ _ hn hb=>exact .rows0 _ _ _ hn hb
  | rows _ _ _ b cells elem fr gv hb hw hf hc hl hv=>exact .rows _ _ _ b cells elem fr gv hb hw hf (fun i hi=>hg i hi▸hc i hi) hl hv
 ·obtain ⟨rfl,rfl⟩:=hget _ _ _ hx
  obtain ⟨rfl,rfl⟩:=hget _ _ _ hy
  rfl
 ·obtain ⟨rfl,rfl⟩:=hget _ _ _ hx
  exact he.sep a c 0 _ N hi (h0 g') hb
theorem Spec.rows {P:Program} {f:FuncId} {args:List AV} {sz n:Nat} {g g':Nat→List AV} {o:Out} {nx:Nat} {bs:List (Nat×Blk)} (hg:∀i,i<n→g' i=g i) (h:Spec P f args ⟨1,[(0,.rows sz n g)]⟩ o nx bs):Spec P f args ⟨1,[(0,.rows sz n g')]⟩ o nx bs:=by
 intro E w rs he hl
 have he':=Zap hg he
 refine (h E w rs he' hl).mono ?_
 rintro e w' ⟨E',hev,ho⟩
 have own:∀b,YZ E ⟨1,[(0,.rows sz n g)]⟩ b↔YZ E ⟨1,[(0,.rows sz n g')]⟩ b:=fun b=>by
  unfold YZ
  constructor
  ·rintro ⟨x,B,N,hx,hb⟩
   simp only [Z7.get,ZH] at hx
   split at hx
   ·rename_i hq;have:=Nat.eq_of_beq_eq_true hq;subst this;exact ⟨0,_,N,rfl,hb⟩
   ·cases hx
  ·rintro ⟨x,B,N,hx,hb⟩
   simp only [Z7.get,ZH] at hx
   split at hx
   ·rename_i hq;have:=Nat.eq_of_beq_eq_true hq;subst this;exact ⟨0,_,N,rfl,hb⟩
   ·cases hx
 exact ⟨E',⟨hev.le,hev.emb,hev.size,hev.os,hev.tape,hev.output,fun b hb hn=>hev.keep b hb (fun h=>hn ((own b).1 h)),fun b hb=>(hev.own b hb).imp (own b).1 id,hev.imm⟩,ho⟩
end Go.Tk
end
section
namespace Go.Tk
open IntKind (i64 u8 u32 u64 wrap)
noncomputable def E82:Ze:=G0.withP 241 ZfZ
theorem Zaq:E82.Ok:=Ze.withP_ok Zu Zck
def Zcl:AV:=.func (.func 241) [] [.pview [.vrows 1 5 (ZO byL 0 1) 5] 0]
def isH (n:Nat) (L:List Zh):Z7:=⟨1,[(0,.rows 134 n (Zt L))]⟩
def isT (n lo:Nat) (A B:Int) (l:ZP):ZP:=l++[(2,.int .i64 B),(1,.int .i64 A),(3,Zcl),(0,.nslice ⟨0,0,134,0,0⟩ 134 n lo)]
def Z2i (n lo:Nat) (A B I:Int) (L:List Zh):St:=⟨53,isT n lo A B [(8,.int .i64 I)],isH n L,[]⟩
def Zcm (n lo:Nat) (A B I J:Int) (L:List Zh):St:=⟨53,isT n lo A B [(9,.int .i64 J),(8,.int .i64 I)],isH n L,[]⟩
theorem XK (L:List Zh) (i:Nat):plainC (Zt L i)=true:=rfl
theorem YE {k:Nat} {τ:Ren} {n:Nat} {L:List Zh} {f:Nat→List AV} (h:∀i,i<n→f i=Zt L i):Zz k τ n (Zt L) f:=
 QW h (fun i _=>XK L i) (fun i _ v hv=>by
  simp only [Zt,Zh.c,List.mem_cons,List.not_mem_nil,or_false] at hv
  rcases hv with rfl|rfl|rfl|rfl|rfl|rfl|rfl|rfl|rfl|rfl<;>first|exact .inl rfl|exact .inr ⟨_,_,_,rfl⟩)
theorem Z7f {L:List Zh} (h:∀m∈L,m.Ok) {i:Nat} (hi:i<L.length):(L.getD i Ym).Ok:=by
 rw [List.getD_eq_getElem?_getD,List.getElem?_eq_getElem hi]
 exact h _ (List.getElem_mem hi)
theorem Zar {f:Nat→List AV} {J J1 i:Nat} {x y:List AV} (hx:x=f J) (hy:y=f J1):Uy (Uy f J y) J1 x i=if i=J1 then f J else if i=J then f J1 else f i:=by
 rw [XV,XV]
 by_cases h1:i=J1
 ·subst h1;rw [Nat.beq_refl,if_pos rfl,hx]
 ·rw [Zw h1,if_neg h1]
  by_cases h2:i=J
  ·subst h2;rw [Nat.beq_refl,if_pos rfl,hy]
  ·rw [Zw h2,if_neg h2]
theorem Zhf (n lo A B I J:Nat) (L L1:List Zh) (Z1 Z2:Prop) (hn:n<900000000000) (hJ:J<n) (hL:L.length=n) (hok:∀m∈L,m.Ok) (hsw:A<J→∀i,i<n→Zt L1 i=if i=J-1 then Zt L J else if i=J then Zt L (J-1) else Zt L i) (h1:A<J→ltM (L.getD J Ym) (L.getD (J-1) Ym)=true→Z1) (h2:J≤A∨ltM (L.getD J Ym) (L.getD (J-1) Ym)=false→Z2):
  Yf E82 20 293 2 1 (Zcm n lo A B I J L) (rdM 1 2 9 (Zcm n lo A B I ((J-1:Nat):Int) L1) (Z2i n lo A B I L) (Z2i n lo A B I L) (Z2i n lo A B I L) Z1 Z2 False False):=by
 refine @Eq.mpr _ (let q1:=decide (0≤(↑J:Int)∧(↑J:Int)<(↑n:Int));
 let q2:=0+Int.toNat (↑J:Int);
 let q3:=wrap i64 ((↑J:Int)-1);
 let q4:=decide (0≤q3∧q3<(↑n:Int));
 let q5:=0+Int.toNat q3;
 let q6:=List.getD L q2 Ym;
 let q7:=q6.o;
 let q8:=[AV.int i64 q7.kind,AV.int i64 q7.amount,AV.arr u8 32 q7.owner,AV.arr u8 32 q7.other,AV.arr u8 32 q7.point,AV.arr u8 32 q7.hash,AV.int i64 q7.delay,AV.int i64 q7.expiry,AV.int i64 q6.id,AV.int i64 q6.what];
 let q9:=List.getD L q5 Ym;
 let q10:=q9.o;
 let q11:=[AV.int i64 q10.kind,AV.int i64 q10.amount,AV.arr u8 32 q10.owner,AV.arr u8 32 q10.other,AV.arr u8 32 q10.point,AV.arr u8 32 q10.hash,AV.int i64 q10.delay,AV.int i64 q10.expiry,AV.int i64 q9.id,AV.int i64 q9.what];
 let q12:=ZO byL 0 1;
 let q13:=decide ((↑I:Int)=(↑I:Int));
 let q14:=decide ((↑B:Int)=(↑B:Int));
 let q15:=decide ((↑A:Int)=(↑A:Int));
 let q16:=[AV.vrows 1 5 q12 5];
 let q17:=q16=q16;
 let q18:=decide (n=n);
 let q19:=decide (lo≤lo);
 let q20:=Zt L;
 let q21:=Z0 q13 (Z0 q14 (Z0 q15 (q17∧Z0 q18 (Z0 q19 (Z0 q18 (Zz 1 [] n q20 q20∧Z2) False) False) False) False) False) False;
 Z0 (decide ((↑J:Int)>(↑A:Int))) (Z0 q1 (Z0 (decide (q2<n)) (Z0 q4 (Z0 (decide (q5<n)) (∃(a:Zh),∃(b:Zh),q8=Zh.c a∧q11=Zh.c b∧q12=q12∧(Zh.Ok a∧Zh.Ok b)∧Z0 (decide (Z8t a b<0)) (Z0 q4 (Z0 (decide (q5<n)) (Z0 q1 (Z0 (decide (q2<n)) (Z0 q1 (Z0 (decide (q2<n)) (Z0 q4 (Z0 (decide (q5<n)) (Z0 (decide (q3=(↑(J-1):Int))) (Z0 q13 (Z0 q14 (Z0 q15 (q17∧Z0 q18 (Z0 q19 (Z0 q18 (Zz 1 [] n (Zt L1) (Uy (Uy q20 q2 q11) q5 q8)∧Z1) False) False) False) False) False) False) False) False) False) False) False) False) False) False) False) q21) False) False) False) False) q21) (by kernel_rfl) ?_
 conv=>zeta
 try simp only [Zc]
 try simp only [Zj]
 try simp only [Zd]
 try simp only [Zk]
 try simp only [Zl]
 try simp only [Zb]
 try simp only [Int.toNat_natCast,Nat.zero_add,true_and,and_true,Nat.le_refl]
 refine ⟨fun hc=> ?_,fun hc=>⟨YE fun _ _=>rfl,h2 (.inl (by omega))⟩⟩
 have key:i64.wrap ((J:Int)-1)=((J-1:Nat):Int):=by rw [w64 (by omega)];omega
 rw [key]
 simp only [Int.toNat_natCast]
 have o1:(L.getD J Ym).Ok:=Z7f hok (by omega)
 have o2:(L.getD (J-1) Ym).Ok:=Z7f hok (by omega)
 have hlt:=Zcj o1 o2
 refine ⟨by omega,by omega,by omega,by omega,L.getD J Ym,L.getD (J-1) Ym,rfl,rfl,⟨o1,o2⟩,fun hm=> ?_,fun hm=>⟨YE fun _ _=>rfl,h2 (.inr (by rw [←hlt];simpa using hm))⟩⟩
 refine ⟨by omega,by omega,by omega,by omega,by omega,by omega,by omega,by omega,trivial,YE fun i hi=> ?_,h1 (by omega) (by rw [←hlt];simpa using hm)⟩
 rw [hsw (by omega) i hi]
 exact Zar rfl rfl
def isL (a p:List Zh) (x:Zh) (r:List Zh) (m:Nat):List Zh:=a++(p.take (p.length-m)++x::(p.drop (p.length-m)++r))
theorem Zcn {a p r:List Zh} {x:Zh} {m:Nat}:(isL a p x r m).length=a.length+p.length+1+r.length:=by
 unfold isL
 simp only [List.length_append,List.length_cons,List.length_take,List.length_drop]
 omega
theorem Z7g {a p r:List Zh} {x:Zh} {m:Nat} {z:Zh}:z∈isL a p x r m↔z∈a∨z∈p∨z=x∨z∈r:=by
 unfold isL
 have e:z∈p↔z∈p.take (p.length-m)∨z∈p.drop (p.length-m):=by
  rw [←List.mem_append,List.take_append_drop]
 rw [e]
 simp only [List.mem_append,List.mem_cons]
 constructor
 ·rintro (h|h|h|h|h)<;>simp [h]
 ·rintro (h|(h|h)|h|h)<;>simp [h]
theorem Zas {a p r:List Zh} {x:Zh} {m:Nat} (hm:m≤p.length):(isL a p x r m).getD (a.length+p.length-m) Ym=x:=by
 unfold isL
 rw [List.getD_eq_getElem?_getD,List.getElem?_append_right (by omega),List.getElem?_append_right (by rw [List.length_take];omega)]
 have:a.length+p.length-m-a.length-(p.take (p.length-m)).length=0:=by rw [List.length_take];omega
 rw [this];rfl
theorem Zat {a p r:List Zh} {x:Zh} {m:Nat} (hm:m<p.length):(isL a p x r m).getD (a.length+p.length-m-1) Ym=p.getD (p.length-m-1) Ym:=by
 unfold isL
 rw [List.getD_eq_getElem?_getD,List.getElem?_append_right (by omega),List.getElem?_append_left (by rw [List.length_take];omega),List.getElem?_take,if_pos (by omega),←List.getD_eq_getElem?_getD]
 congr 1
 omega
theorem Zau {a p r:List Zh} {x:Zh} {m:Nat} (hm:m<p.length) (i:Nat):Zt (isL a p x r (m+1)) i=if i=a.length+p.length-m-1 then Zt (isL a p x r m) (a.length+p.length-m) else if i=a.length+p.length-m then Zt (isL a p x r m) (a.length+p.length-m-1) else Zt (isL a p x r m) i:=by
 unfold Zt
 rw [Zas (by omega),Zat hm]
 have hx:=Zas (a:=a) (p:=p) (r:=r) (x:=x) (m:=m+1) (by omega)
 by_cases h1:i=a.length+p.length-m-1
 ·rw [if_pos h1,h1,show a.length+p.length-m-1=a.length+p.length-(m+1) by omega,hx]
 ·rw [if_neg h1]
  have e:p.length-m=(p.length-(m+1))+1:=by omega
  have hd:p.drop (p.length-(m+1))=p.getD (p.length-m-1) Ym::p.drop (p.length-m):=by
   rw [List.drop_eq_getElem_cons (by omega),show p.length-(m+1)+1=p.length-m by omega]
   congr 1
   rw [List.getD_eq_getElem?_getD,List.getElem?_eq_getElem (by omega)]
   simp only [Option.getD_some]
   congr 1
  have ht:p.take (p.length-m)=p.take (p.length-(m+1))++[p.getD (p.length-m-1) Ym]:=by
   rw [e,List.take_succ_eq_append_getElem (by omega)]
   congr 2
   rw [List.getD_eq_getElem?_getD,List.getElem?_eq_getElem (by omega)]
   simp only [Option.getD_some]
   congr 1
  have l1:(p.take (p.length-(m+1))).length=p.length-(m+1):=by rw [List.length_take];omega
  generalize p.getD (p.length-m-1) Ym=y at*
  have hm1:isL a p x r (m+1)=(a++p.take (p.length-(m+1)))++(x::y::(p.drop (p.length-m)++r)):=by
   unfold isL;rw [hd];simp
  have hm0:isL a p x r m=(a++p.take (p.length-(m+1)))++(y::x::(p.drop (p.length-m)++r)):=by
   unfold isL;rw [ht];simp
  rw [hm1,hm0]
  have l2:(a++p.take (p.length-(m+1))).length=a.length+p.length-m-1:=by rw [List.length_append,l1];omega
  generalize a++p.take (p.length-(m+1))=U at*
  generalize p.drop (p.length-m)++r=V at*
  by_cases h2:i=a.length+p.length-m
  ·rw [if_pos h2,List.getD_eq_getElem?_getD,List.getElem?_append_right (by omega),show i-U.length=1 by omega]
   rfl
  ·rw [if_neg h2]
   rcases Nat.lt_or_ge i U.length with h3|h3
   ·rw [List.getD_eq_getElem?_getD,List.getD_eq_getElem?_getD,List.getElem?_append_left h3,List.getElem?_append_left h3]
   ·rw [List.getD_eq_getElem?_getD,List.getD_eq_getElem?_getD,List.getElem?_append_right h3,List.getElem?_append_right h3]
    obtain ⟨q,hq⟩:∃q,i-U.length=q+2:=⟨i-U.length-2,by omega⟩
    rw [hq];rfl
def isGo (p:List Zh) (x:Zh) (m:Nat):Prop:=m<p.length∧ltM x (p.getD (p.length-m-1) Ym)=true
def Zg0 (p:List Zh) (x:Zh) (m:Nat):Prop:=m=p.length∨(m<p.length∧ltM x (p.getD (p.length-m-1) Ym)=false)
theorem Zco {a p r:List Zh} {x:Zh} {m:Nat} (ho:Z1Y ltM p) (hm:m≤p.length) (hgo:∀j,j<m→isGo p x j) (hex:Zg0 p x m):isL a p x r m=a++(Ui ltM x p++r):=by
 have h:=Z7d Zao (x:=x) (l:=p) (j:=p.length-m) ho (by omega) (fun y hy=> ?_) (fun y hy hj=> ?_)
 ·unfold isL
  rw [←h];simp
 ·obtain ⟨q,hq⟩:=List.mem_iff_getElem?.1 hy
  rw [List.getElem?_drop] at hq
  obtain ⟨hlt,he⟩:=List.getElem?_eq_some_iff.1 hq
  have:=(hgo (p.length-1-(p.length-m+q)) (by omega)).2
  rw [List.getD_eq_getElem?_getD,show p.length-(p.length-1-(p.length-m+q))-1=p.length-m+q by omega,hq] at this
  exact this
 ·rcases hex with hex|⟨_,hex⟩
  ·omega
  ·rw [List.getD_eq_getElem?_getD,hy] at hex
   exact hex
structure IsQ where
 a:List Zh
 p:List Zh
 x:Zh
 r:List Zh
def IsQ.n (q:IsQ):Nat:=q.a.length+q.p.length+1+q.r.length
def IsQ.I (q:IsQ):Nat:=q.a.length+q.p.length
def IsQ.L (q:IsQ) (m:Nat):List Zh:=isL q.a q.p q.x q.r m
structure IsQ.Ok (q:IsQ) (n:Nat) (A:Nat):Prop where
 hn:q.n=n
 hA:q.a.length=A
 le:n<900000000000
 ok:∀m∈q.L 0,m.Ok
def IsQ.go (q:IsQ):Nat→Prop:=isGo q.p q.x
def IsQ.ex (q:IsQ):Nat→Prop:=Zg0 q.p q.x
def IsQ.len (q:IsQ):Nat:=q.p.length
noncomputable def Zed (n lo A B:Nat):Ze:=E82.withL 293 2 (Ze8 fun q:IsQ=>goM 1 (Zcm n lo A B q.I q.I (q.L 0)) (q.Ok n A) (WX 2 q.len 9 q.go q.ex (fun _=>False) (fun _=>False) (fun m=>Z2i n lo A B q.I (q.L m)) (fun m=>Z2i n lo A B q.I (q.L m)) (fun m=>Z2i n lo A B q.I (q.L m))))
theorem Zcp (n lo A B:Nat):(Zed n lo A B).Ok:=
 Ze.withL_ex Zaq fun q=>Ze.withGoM (N:=20) (S:=fun m=>Zcm n lo A B q.I ((q.I-m:Nat):Int) (q.L m)) Zaq (by kernel_rfl) fun hC=>⟨by simp,fun m hm hgo=>by
  obtain ⟨h1,h2,h3,h4⟩:=hC
  have l1:(q.L m).length=n:=by rw [←h1];exact Zcn
  have hI:q.I=q.a.length+q.p.length:=rfl
  have hm':m≤q.p.length:=hm
  have hnn:q.n=q.a.length+q.p.length+1+q.r.length:=rfl
  have hx:(q.L m).getD (q.I-m) Ym=q.x:=Zas hm'
  have hok:∀z∈q.L m,z.Ok:=fun z hz=>h4 z (Z7g.2 (Z7g.1 hz))
  have:=Zhf n lo A B q.I (q.I-m) (q.L m) (q.L (m+1)) (q.go m∧m<q.len) (q.ex m) h3 (by omega) l1 hok (fun hlt i hi=> ?_) (fun hlt hc=> ?_) (fun hc=> ?_)
  ·rw [show q.I-(m+1)=q.I-m-1 by omega]
   exact this
  ·have hmp:m<q.p.length:=by omega
   exact Zau hmp i
  ·have hmp:m<q.p.length:=by omega
   rw [hx,show (q.L m).getD (q.I-m-1) Ym=_ from Zat hmp] at hc
   exact ⟨⟨hmp,hc⟩,hmp⟩
  ·rcases Nat.lt_or_ge m q.p.length with hmp|hmp
   ·rcases hc with hc|hc
    ·omega
    ·rw [hx,show (q.L m).getD (q.I-m-1) Ym=_ from Zat hmp] at hc
     exact .inr ⟨hmp,hc⟩
   ·exact .inl (show m=q.p.length by omega)⟩
theorem Zhg (n lo A B I:Nat) (L L1:List Zh) (q:IsQ) (Z1 Z2:Prop) (hn:n<900000000000) (hI:I<900000000001) (hq:I<B→q.I=I∧q.L 0=L∧q.Ok n A) (hnext:I<B→∀m,m≤q.len→(∀j,j<m→q.go j)→q.ex m→L1=q.L m∧Z1) (h2:¬I<B→Z2):
  Yf (Zed n lo A B) 20 293 0 1 (Z2i n lo A B I L) (rdM 1 0 9 (Z2i n lo A B ((I+1:Nat):Int) L1) ⟨53,[],isH n L,[]⟩ ⟨53,[],isH n L,[]⟩ ⟨53,[],isH n L,[]⟩ Z1 Z2 False False):=by
 refine @Eq.mpr _ (let q1:=decide ((↑B:Int)=(↑B:Int));
 let q2:=decide ((↑A:Int)=(↑A:Int));
 let q3:=[AV.vrows 1 5 (ZO byL 0 1) 5];
 let q4:=q3=q3;
 let q5:=decide (n=n);
 let q6:=decide (lo≤lo);
 let q7:=Zt L;
 Z0 (decide ((↑I:Int)<(↑B:Int)))
 (∃(i:IsQ),
 let q15:=(↑(IsQ.I i):Int);
 let q16:=decide ((↑I:Int)=q15);
 Z0 q16
 (Z0 q16
 (Z0 q1
 (Z0 q2
 (q4∧
 Z0 q5
 (Z0 q6
 (Z0 q5
 (Zz 1 [] n (Zt (IsQ.L i 0)) q7∧
 IsQ.Ok i n A∧
 ∀(i_1:Nat),
 let q19:=Zt (IsQ.L i i_1);
 i_1≤IsQ.len i→(∀(j:Nat),j<i_1→IsQ.go i j)→(IsQ.ex i i_1→Z0 (decide (wrap i64 (q15+1)=(↑(I+1):Int))) (Z0 q1 (Z0 q2 (q4∧Z0 q5 (Z0 q6 (Z0 q5 (Zz 1 [] n (Zt L1) q19∧Z1) False) False) False) False) False) False)∧(False→Z0 q5 (Zz 1 [] n q7 q19∧False) False)∧(False→Z0 q5 (Zz 1 [] n q7 q19∧False) False))
 False)
 False)
 False)
 False)
 False)
 False)
 False)
 (Z0 q5 (Zz 1 [] n q7 q7∧Z2) False)) (by kernel_rfl) ?_
 conv=>zeta
 try simp only [Zc]
 try simp only [Zj]
 try simp only [Zd]
 try simp only [Zk]
 try simp only [Zl]
 try simp only [Zb]
 try simp only [Int.toNat_natCast,Nat.zero_add,true_and,and_true,Nat.le_refl]
 refine ⟨fun hc=> ?_,fun hc=>⟨YE fun _ _=>rfl,h2 (by omega)⟩⟩
 obtain ⟨e1,e2,e3⟩:=hq (by omega)
 refine ⟨q,by omega,by omega,YE (fun _ _=>by rw [e2]),e3,fun m hm hgo=>⟨fun hex=> ?_,fun h=>h.elim,fun h=>h.elim⟩⟩
 obtain ⟨e4,hZ⟩:=hnext (by omega) m hm hgo hex
 exact ⟨by rw [w64 (by omega)];omega,YE (fun _ _=>by rw [e4]),hZ⟩
structure IsP where
 a:List Zh
 M:List Zh
 c:List Zh
def IsP.L (q:IsP) (t:Nat):List Zh:=q.a++(Xr ltM [] (q.M.take (t+1))++(q.M.drop (t+1)++q.c))
def IsP.N (q:IsP):Nat:=q.M.length-1
def IsP.all (q:IsP):List Zh:=q.a++(q.M++q.c)
def IsP.done (q:IsP):List Zh:=q.a++(Y1 q.M++q.c)
structure IsP.Ok (q:IsP) (n A B:Nat):Prop where
 hn:q.a.length+q.M.length+q.c.length=n
 hA:q.a.length=A
 hB:q.a.length+q.M.length=B
 le:n<900000000000
 ok:∀m∈q.all,m.Ok
theorem IsP.L0 (q:IsP):q.L 0=q.all:=by
 unfold IsP.L IsP.all
 cases h:q.M with
 | nil=>rfl
 | cons x r=>rfl
theorem IsP.LN (q:IsP):q.L q.N=q.done:=by
 unfold IsP.L IsP.done IsP.N
 rw [List.take_of_length_le (by omega),List.drop_of_length_le (by omega)];rfl
theorem Z8v {l acc:List Zh} {z:Zh}:z∈Xr ltM acc l↔z∈acc∨z∈l:=by
 rw [(Vi (lt:=ltM)).mem_iff,List.mem_append]
noncomputable def Zg1 (q:IsP) (n lo A B:Nat):Ze:=(Zed n lo A B).withL 293 0 (goM 1 (Z2i n lo A B ((A+1:Nat):Int) (q.L 0)) (q.Ok n A B) (WX 0 q.N 9 (fun t=>t<q.N) (fun t=>t=q.N) (fun _=>False) (fun _=>False) (fun t=>⟨53,[],isH n (q.L t),[]⟩) (fun t=>⟨53,[],isH n (q.L t),[]⟩) (fun t=>⟨53,[],isH n (q.L t),[]⟩)))
theorem Zcq (q:IsP) (n lo A B:Nat):(Zg1 q n lo A B).Ok:=
 Ze.withGoM (N:=20) (S:=fun t=>Z2i n lo A B ((A+1+t:Nat):Int) (q.L t)) (Zcp n lo A B) (by kernel_rfl) fun hC=>⟨rfl,fun t ht hgo=>by
  obtain ⟨h1,h2,h3,h4,h5⟩:=hC
  have hN:q.N=q.M.length-1:=rfl
  have hMl:q.M.length≤n:=by omega
  have:=Zhg n lo A B (A+1+t) (q.L t) (q.L (t+1)) ⟨q.a,Xr ltM [] (q.M.take (t+1)),q.M.getD (t+1) Ym,q.M.drop (t+2)++q.c⟩ (t<q.N∧t<q.N) (t=q.N) h4 (by omega) (fun hlt=> ?_) (fun hlt m hm hg he=> ?_) (fun hc=>by omega)
  ·rw [show A+1+(t+1)=A+1+t+1 by omega];exact this
  ·have hl:(Xr ltM [] (q.M.take (t+1))).length=t+1:=by rw [Z35,List.length_take];simp;omega
   have e0:q.L t=isL q.a (Xr ltM [] (q.M.take (t+1))) (q.M.getD (t+1) Ym) (q.M.drop (t+2)++q.c) 0:=by
    unfold isL IsP.L
    rw [Nat.sub_zero,List.take_length,List.drop_length,List.drop_eq_getElem_cons (show t+1<q.M.length by omega),List.getD_eq_getElem?_getD,List.getElem?_eq_getElem (show t+1<q.M.length by omega)]
    rfl
   refine ⟨?_,e0.symm, ?_,h2,h4,fun z hz=> ?_⟩
   ·show q.a.length+(Xr ltM [] (q.M.take (t+1))).length=_
    rw [hl,h2];omega
   ·show q.a.length+(Xr ltM [] (q.M.take (t+1))).length+1+(q.M.drop (t+2)++q.c).length=n
    rw [hl,List.length_append,List.length_drop];omega
   ·have hz:z∈isL q.a (Xr ltM [] (q.M.take (t+1))) (q.M.getD (t+1) Ym) (q.M.drop (t+2)++q.c) 0:=hz
    refine h5 z ?_
    rw [←e0] at hz
    unfold IsP.L at hz
    unfold IsP.all
    rw [List.mem_append,List.mem_append,Z8v,List.mem_append] at hz
    rw [List.mem_append,List.mem_append]
    rcases hz with hz|(hz|hz)|hz|hz
    ·exact .inl hz
    ·simp at hz
    ·exact .inr (.inl (List.mem_of_mem_take hz))
    ·exact .inr (.inl (List.mem_of_mem_drop hz))
    ·exact .inr (.inr hz)
  ·refine ⟨?_,by omega⟩
   have:=Zco (a:=q.a) (r:=q.M.drop (t+2)++q.c) (x:=q.M.getD (t+1) Ym) (m:=m) (Z34 Zao (l:=q.M.take (t+1)) (acc:=[]) .nil) hm hg he
   show _=isL q.a _ _ _ m
   rw [this]
   unfold IsP.L
   have e2:q.M.take (t+1+1)=q.M.take (t+1)++[q.M.getD (t+1) Ym]:=by
    rw [List.take_succ_eq_append_getElem (by omega),List.getD_eq_getElem?_getD,List.getElem?_eq_getElem (show t+1<q.M.length by omega)]
    rfl
   rw [e2,Z1Z]⟩
theorem Zg2 (q:IsP) (n lo A B:Nat) (L0 L1:List Zh) (hq:q.Ok n A B) (hL:L0=q.all) (hL1:L1=q.done):
  evF (Zg1 q n lo A B) 20 293 [.nslice ⟨0,0,134,0,0⟩ 134 n lo,.int .i64 A,.int .i64 B,Zcl] (isH n L0) (Y2 1 (.ret (.tuple [])) 1 [(0,.rows 134 n (Zt L1))]):=by
 refine @Eq.mpr _ (let q1:=[AV.vrows 1 5 (ZO byL 0 1) 5];
 let q2:=decide (n=n);
 let q3:=IsP.N q;
 Z0 (decide (wrap i64 ((↑A:Int)+1)=(↑(A+1):Int)))
 (Z0 (decide ((↑B:Int)=(↑B:Int)))
 (Z0 (decide ((↑A:Int)=(↑A:Int)))
 (q1=q1∧
 Z0 q2
 (Z0 (decide (lo≤lo))
 (Z0 q2
 (Zz 1 [] n (Zt (IsP.L q 0)) (Zt L0)∧
 IsP.Ok q n A B∧
 ∀(i:Nat),
 let q7:=Z0 q2 (Zz 1 [] n (Zt L1) (Zt (IsP.L q i))∧True) False;
 i≤q3→(∀(j:Nat),j<i→(fun (t:Nat)=>t<q3) j)→(i=q3→q7)∧(False→q7)∧(False→False))
 False)
 False)
 False)
 False)
 False)
 False) (by kernel_rfl) ?_
 conv=>zeta
 try simp only [Zc]
 try simp only [Zj]
 try simp only [Zd]
 try simp only [Zk]
 try simp only [Zl]
 try simp only [Zb]
 try simp only [Int.toNat_natCast,Nat.zero_add,true_and,and_true,Nat.le_refl]
 refine ⟨by rw [w64 (by have:=hq.hn;have:=hq.hA;have:=hq.le;omega)];omega,YE (fun _ _=>by rw [hL,q.L0]),hq,fun i hi hg=>⟨fun he=> ?_,fun h=>h.elim,fun h=>h.elim⟩⟩
 subst he
 exact YE fun _ _=>by rw [hL1,q.LN]
def isF:ZQ:=fun args h K=>match args with
 | .nslice p esz len lo::r=>frA [p.blk] h 20 (.nslice p esz len lo::r) fun Bs a=>match Bs,a with
  | [.rows 134 m f],[.nslice ⟨0,0,134,0,0⟩ 134 n lo,.int .i64 A,.int .i64 B,.func (.func 241) [] [.pview [.vrows 1 5 g 5] 0]]=>∃(q:IsP) (a b:Nat),(m=n∧A=(a:Int)∧B=(b:Int))∧q.Ok n a b∧g=ZO byL 0 1∧f=Zt q.all∧K (.ret (.tuple [])) ⟨h.next,(p.blk,.rows 134 n (Zt q.done))::ZX h.bs p.blk⟩
  | _,_=>False
 | _=>False
theorem Zee (args:List AV) (h:Z7) (K:KO) (hl:isF args h K):Zg PP 293 args h K:=by
 unfold isF at hl
 split at hl
 ·rename_i p esz len lo r
  refine Spec.fsumm (σ:=[p.blk]) (d:=20) hl fun Bs a₀ hlen h0=> ?_
  split at h0
  ·obtain ⟨q,a,b,⟨rfl,rfl,rfl⟩,hq,rfl,rfl,hK⟩:=h0
   exact ⟨_,_,_,_,_,.evM (Zcq _ _ _ _ _) (Zg2 q _ _ a b _ _ hq rfl rfl),Nat.le_refl 1,.ret _ _ rfl,.cons 0 _ _ _ _ _ rfl (.rows _ _ _ fun i _=>XK _ i) .nil,hK⟩
  ·exact h0.elim
 ·exact hl.elim
def noF:ZQ:=fun _ _ _=>False
theorem Zef {f:FuncId} (args:List AV) (h:Z7) (K:KO) (hl:noF args h K):Zg PP f args h K:=hl.elim
noncomputable def Z6j:Ze:=(G0.withF 293 isF).withF 294 noF
theorem Z7h:Z6j.Ok:=Ze.withF_ok (Ze.withF_ok Zu Zee) Zef
def ssT (n lo:Nat) (l:ZP):ZP:=l++[(2,Zcl),(1,.int .i64 n),(0,.nslice ⟨0,0,134,0,0⟩ 134 n lo)]
def Zav (n lo:Nat) (L:List Zh):St:=⟨63,ssT n lo [(8,.int .i64 20),(7,.int .i64 0),(6,.int .i64 20)],isH n L,[]⟩
def Z3T (n lo:Nat) (L:List Zh):St:=⟨63,ssT n lo [(7,.int .i64 0),(6,.int .i64 20)],isH n L,[]⟩
def Zaw (n lo:Nat) (L:List Zh):St:=⟨63,ssT n lo [(6,.int .i64 20)],isH n L,[]⟩
def Z3U (n lo:Nat) (L:List Zh):St:=⟨63,[],isH n L,[]⟩
theorem Zhh (n lo:Nat) (L:List Zh) (Z:Prop) (hn:n<20) (hZ:Z):
  Yf Z6j 20 276 0 1 (Zav n lo L) (rdM 1 0 9 (Zav n lo L) (Z3T n lo L) (Z3T n lo L) (Z3T n lo L) False Z False False):=by
 refine @Eq.mpr _ (let q1:=ZO byL 0 1;
 let q2:=Zt L;
 let q3:=[AV.vrows 1 5 q1 5];
 let q4:=decide (n=n);
 Z0 (decide (20≤(↑n:Int))) ((∀(i:Nat),i<n→true=true)∧∃(q:IsP),∃(a:Nat),∃(b:Nat),(n=n∧0=(↑a:Int)∧20=(↑b:Int))∧IsP.Ok q n a b∧q1=q1∧q2=Zt (IsP.all q)∧False) (q3=q3∧Z0 (decide ((↑n:Int)=(↑n:Int))) (Z0 q4 (Z0 (decide (lo≤lo)) (Z0 q4 (Zz 1 [] n q2 q2∧Z) False) False) False) False)) (by kernel_rfl) ?_
 conv=>zeta
 try simp only [Zc]
 try simp only [Zj]
 try simp only [Zd]
 try simp only [Zk]
 try simp only [Zl]
 try simp only [Zb]
 try simp only [Int.toNat_natCast,Nat.zero_add,true_and,and_true,Nat.le_refl]
 exact ⟨fun h=>by omega,fun _=>⟨YE fun _ _=>rfl,hZ⟩⟩
theorem Zhi (n lo:Nat) (L:List Zh) (Z:Prop) (hn:n<20) (hZ:Z):
  Yf Z6j 20 276 2 1 (Zaw n lo L) (rdM 1 2 9 (Zaw n lo L) (Z3U n lo L) (Z3U n lo L) (Z3U n lo L) False Z False False):=by
 refine @Eq.mpr _ (Z0 (decide (20<(↑n:Int))) (Z0 (decide (40≤(↑n:Int))) False (Z0 (decide (20<(↑n:Int))) False False)) (Z0 (decide (n=n)) (Zz 1 [] n (Zt L) (Zt L)∧Z) False)) (by kernel_rfl) ?_
 try simp only [Zc]
 try simp only [Zj]
 try simp only [Zd]
 try simp only [Zk]
 try simp only [Zl]
 try simp only [Zb]
 try simp only [Int.toNat_natCast,Nat.zero_add,true_and,and_true,Nat.le_refl]
 exact ⟨fun h=>absurd h (by omega),fun _=>⟨YE fun _ _=>rfl,hZ⟩⟩
noncomputable def Zg3 (n lo:Nat) (L L1:List Zh):Ze:=(Z6j.withL 276 0 (goM 1 (Zav n lo L) (n<20) (WX 0 0 9 (fun _=>False) (fun _=>True) (fun _=>False) (fun _=>False) (fun _=>Z3T n lo L) (fun _=>Z3T n lo L) (fun _=>Z3T n lo L)))).withL 276 2 (goM 1 (Zaw n lo L1) (n<20) (WX 2 0 9 (fun _=>False) (fun _=>True) (fun _=>False) (fun _=>False) (fun _=>Z3U n lo L1) (fun _=>Z3U n lo L1) (fun _=>Z3U n lo L1)))
theorem Zcr (n lo:Nat) (L L1:List Zh):(Zg3 n lo L L1).Ok:=by
 have h0:(Z6j.withL 276 0 _).Ok:=Ze.withGoM (N:=20) (S:=fun _=>Zav n lo L) (S0:=Zav n lo L) (C:=n<20) (n:=0) (l:=9) (go:=fun _=>False) (ex:=fun _=>True) (re:=fun _=>False) (jm:=fun _=>False) (En:=fun _=>Z3T n lo L) (Rn:=fun _=>Z3T n lo L) (Jn:=fun _=>Z3T n lo L) Z7h (by kernel_rfl) fun hC=>⟨rfl,fun t _ _=>(by
  have:=Zhh n lo L True hC trivial
  simpa only [false_and] using this)⟩
 have h2:(Z6j.withL 276 2 _).Ok:=Ze.withGoM (N:=20) (S:=fun _=>Zaw n lo L1) (S0:=Zaw n lo L1) (C:=n<20) (n:=0) (l:=9) (go:=fun _=>False) (ex:=fun _=>True) (re:=fun _=>False) (jm:=fun _=>False) (En:=fun _=>Z3U n lo L1) (Rn:=fun _=>Z3U n lo L1) (Jn:=fun _=>Z3U n lo L1) Z7h (by kernel_rfl) fun hC=>⟨rfl,fun t _ _=>(by
  have:=Zhi n lo L1 True hC trivial
  simpa only [false_and] using this)⟩
 exact Ze.withL_join (H:=Z6j) h0 rfl h2
theorem Zhj (n lo:Nat) (L L1:List Zh) (hn:n<20) (hl:L.length=n) (hok:∀m∈L,m.Ok) (hL:L1=Y1 L):
  evF (Zg3 n lo L L1) 20 240 [.nslice ⟨0,0,134,0,0⟩ 134 n lo,Zcl] (isH n L) (Y2 1 (.ret (.tuple [])) 1 [(0,.rows 134 n (Zt L1))]):=by
 refine @Eq.mpr _ (let q1:=ZO byL 0 1;
 let q2:=[AV.vrows 1 5 q1 5];
 let q3:=q2=q2;
 let q4:=decide ((↑n:Int)=(↑n:Int));
 let q5:=decide (n=n);
 let q6:=decide (lo≤lo);
 let q7:=Zt L;
 let q8:=Zt L1;
 let q9:=Z0 q5 (Zz 1 [] n q8 q8∧True) False;
 q3∧Z0 q4 (Z0 q5 (Z0 q6 (Z0 q5 (Zz 1 [] n q7 q7∧n<20∧∀(i:Nat),i≤0→(∀(j:Nat),j<i→(fun (x:Nat)=>False) j)→(True→(∀(i:Nat),i<n→true=true)∧∃(q:IsP),∃(a:Nat),∃(b:Nat),(n=n∧0=(↑a:Int)∧(↑n:Int)=(↑b:Int))∧IsP.Ok q n a b∧q1=q1∧q7=Zt (IsP.all q)∧q3∧Z0 q4 (Z0 q5 (Z0 q6 (Z0 q5 (Zz 1 [] n q8 (Zt (IsP.done q))∧n<20∧∀(i:Nat),i≤0→(∀(j:Nat),j<i→(fun (x:Nat)=>False) j)→(True→q9)∧(False→q9)∧(False→False)) False) False) False) False)∧(False→Z0 q5 (Zz 1 [] n q8 q7∧True) False)∧(False→False)) False) False) False) False) (by kernel_rfl) ?_
 conv=>zeta
 try simp only [Zc]
 try simp only [Zj]
 try simp only [Zd]
 try simp only [Zk]
 try simp only [Zl]
 try simp only [Zb]
 try simp only [Int.toNat_natCast,Nat.zero_add,true_and,and_true,Nat.le_refl]
 refine ⟨YE fun _ _=>rfl,hn,fun i _ _=>⟨fun _=>⟨fun _ _=>trivial,⟨[],L,[]⟩,0,n,⟨rfl,rfl⟩,⟨by simp [hl],rfl,by simp [hl],by omega,fun m hm=>hok m (by simpa [IsP.all] using hm)⟩,by simp [IsP.all],YE fun _ _=>by simp [IsP.done,hL],hn,fun j _ _=>⟨fun _=>YE fun _ _=>rfl,fun h=>h.elim,fun h=>h.elim⟩⟩,fun h=>h.elim,fun h=>h.elim⟩⟩
def stF:ZQ:=fun args h K=>match args with
 | .nslice p esz len lo::r=>frA [p.blk] h 20 (.nslice p esz len lo::r) fun Bs a=>match Bs,a with
  | [.rows 134 m f],[.nslice ⟨0,0,134,0,0⟩ 134 n lo,.func (.func 241) [] [.pview [.vrows 1 5 g 5] 0]]=>∃(L:List Zh),(m=n∧n<20∧L.length=n)∧(∀m∈L,m.Ok)∧g=ZO byL 0 1∧f=Zt L∧K (.ret (.tuple [])) ⟨h.next,(p.blk,.rows 134 n (Zt (Y1 L)))::ZX h.bs p.blk⟩
  | _,_=>False
 | _=>False
theorem Zeg (args:List AV) (h:Z7) (K:KO) (hl:stF args h K):Zg PP 240 args h K:=by
 unfold stF at hl
 split at hl
 ·rename_i p esz len lo r
  refine Spec.fsumm (σ:=[p.blk]) (d:=20) hl fun Bs a₀ hlen h0=> ?_
  split at h0
  ·obtain ⟨L,⟨rfl,hn,hll⟩,hok,rfl,rfl,hK⟩:=h0
   exact ⟨_,_,_,_,_,.evM (Zcr _ _ _ _) (Zhj _ _ L _ hn hll hok rfl),Nat.le_refl 1,.ret _ _ rfl,.cons 0 _ _ _ _ _ rfl (.rows _ _ _ fun i _=>XK _ i) .nil,hK⟩
  ·exact h0.elim
 ·exact hl.elim
noncomputable def Zg4:Ze:=G0.withF 240 stF
theorem Zcs:Zg4.Ok:=Ze.withF_ok Zu Zeg
theorem Zg5 (n lo:Nat) (L L1:List Zh) (hn:n<20) (hl:L.length=n) (hok:∀m∈L,m.Ok) (hL:L1=Y1 L):
  evF Zg4 20 88 [.nslice ⟨0,0,134,0,0⟩ 134 n lo] (isH n L) (Y2 1 (.ret (.nslice ⟨0,0,134,0,0⟩ 134 n lo)) 1 [(0,.rows 134 n (Zt L1))]):=by
 refine @Eq.mpr _ (let q1:=decide (n=n);
 (∀(i:Nat),i<n→true=true)∧∃(L_1:List Zh),(n=n∧n<(20:Nat)∧List.length L_1=n)∧(∀(m:Zh),List.Mem m L_1→Zh.Ok m)∧ZO [AV.func (Fn.func (170:Nat)) [] [],AV.func (Fn.func (172:Nat)) [] [],AV.func (Fn.func (174:Nat)) [] [],AV.func (Fn.func (175:Nat)) [] [],AV.func (Fn.func (176:Nat)) [] []] (0:Nat) (1:Nat)=ZO byL (0:Nat) (1:Nat)∧Zt L=Zt L_1∧Z0 q1 (Z0 (decide (lo≤lo)) (Z0 q1 (Zz (1:Nat) [] n (Zt L1) (Zt (Y1 L_1))∧True) False) False) False) (by kernel_rfl) ?_
 conv=>zeta
 try simp only [Zc]
 try simp only [Zj]
 try simp only [Zd]
 try simp only [Zk]
 try simp only [Zl]
 try simp only [Zb]
 try simp only [Int.toNat_natCast,Nat.zero_add,true_and,and_true,Nat.le_refl]
 exact ⟨fun _ _=>trivial,L,⟨hn,hl⟩,hok,rfl,rfl,YE fun _ _=>by rw [hL]⟩
theorem Zhk (X:Nat) (hn:X=X):
  evF G0 20 88 [.nilslice] ⟨0,[]⟩ (Y2 0 (.ret .nilslice) 0 []):=by
 refine @Eq.mpr _ (True) (by kernel_rfl) ?_
 trivial
def orF:ZQ:=fun args h K=>match args with
 | [.nilslice]=>K (.ret .nilslice) h
 | [.nslice p esz len lo]=>frA [p.blk] h 20 [.nslice p esz len lo] fun Bs a=>match Bs,a with
  | [.rows 134 m f],[.nslice ⟨0,0,134,0,0⟩ 134 n lo]=>∃(L:List Zh),(m=n∧n<20∧L.length=n)∧(∀m∈L,m.Ok)∧(∀i,i<n→f i=Zt L i)∧K (.ret (.nslice ⟨p.blk,0,134,0,0⟩ 134 n lo)) ⟨h.next,(p.blk,.rows 134 n (Zt (Y1 L)))::ZX h.bs p.blk⟩
  | _,_=>False
 | _=>False
theorem Zeh (args:List AV) (h:Z7) (K:KO) (hl:orF args h K):Zg PP 88 args h K:=by
 unfold orF at hl
 split at hl
 ·exact (ZD.evM Zu (Zhk 0 rfl)).calls (fun E w rs he hr=>by
   cases hr with
   | cons v r vs rs h1 h2=>cases h2;exact .cons _ _ _ _ (h1.plain rfl) .nil) rfl trivial hl
 ·rename_i p esz len lo
  refine Spec.fsumm (σ:=[p.blk]) (d:=20) hl fun Bs a₀ hlen h0=> ?_
  split at h0
  ·obtain ⟨L,⟨rfl,hn,hll⟩,hok,hf,hK⟩:=h0
   exact ⟨_,_,_,_,_,.rows hf (.evM Zcs (Zg5 _ _ L _ hn hll hok rfl)),Nat.le_refl 1,.ret _ _ rfl,.cons 0 _ _ _ _ _ rfl (.rows _ _ _ fun i _=>XK _ i) .nil,hK⟩
  ·exact h0.elim
 ·exact hl.elim
end Go.Tk
end
section
namespace Go.Tk
open IntKind (i64 u8 u32 u64 wrap)
end Go.Tk
end
section
namespace Go.Tk
open IntKind (i64 u8 u32 u64 wrap)
theorem ZeM {O P:List Zh} {c i:Nat} (hc:O.length=c):ZE c (Zt O) (Zt P) i=Zt (O++P) i:=by
 unfold Zt
 rcases Nat.lt_or_ge i c with h|h
 ·rw [Z3O h,List.getD_eq_getElem?_getD,List.getD_eq_getElem?_getD,List.getElem?_append_left (by omega)]
 ·rw [Ub h,List.getD_eq_getElem?_getD,List.getD_eq_getElem?_getD,List.getElem?_append_right (by omega),hc]
theorem Z36 {f:Nat→List AV} {O:List Zh} {x:Zh} {c i:Nat} (hc:O.length=c) (hf:∀i,i<c→f i=Zt O i) (hi:i<c+1):ZE c f (ZO (Zh.c x) 0 134) i=Zt (O++[x]) i:=by
 rcases Nat.lt_or_ge i c with h|h
 ·rw [Z3O h,hf i h]
  unfold Zt
  rw [List.getD_eq_getElem?_getD,List.getD_eq_getElem?_getD,List.getElem?_append_left (by omega)]
 ·have e:i=c:=by omega
  subst e
  rw [Ub (Nat.le_refl _),Nat.sub_self]
  unfold Zt
  rw [List.getD_eq_getElem?_getD,List.getElem?_append_right (by omega),hc,Nat.sub_self]
  rfl
end Go.Tk
end
section
namespace Go.Tk
open IntKind (i64 u8 u32 u64 wrap)
def Z2j (t:Zq):InS:=⟨t.fund,t.index,1,Z5,Z5,Z5⟩
def YI (L:List Zh):Nat→ZM:=fun i=>(L.getD i Ym).o
def txZ:List AV:=[.int .i64 0,.nilslice,.nilslice]
def mxH (t:Zq) (num:Int) (L:List Zh) (i:Nat):Z7:=⟨4,[(0,.flat txZ),(1,.flat (InS.c (Z2j t))),(2,.flat [.int .i64 num,.nslice ⟨1,0,0,0,0⟩ 130 1 1,.nslice ⟨3,0,132,0,0⟩ 132 i i]),(3,.rows 132 i (Zi (YI L)))]⟩
def mxS (t:Zq) (num:Int) (L:List Zh) (n i:Nat):St:=⟨40,[(27,.int .i64 i),(26,.int .i64 n),(25,.vrows 134 n (Zt L) n),(8,.ptr (some ⟨2,0,0,0,0⟩)),(6,.ptr (some ⟨0,0,0,0,0⟩))],mxH t num L i,[]⟩
def mxE (t:Zq) (num:Int) (L:List Zh) (i:Nat):St:=⟨40,[(8,.ptr (some ⟨2,0,0,0,0⟩)),(6,.ptr (some ⟨0,0,0,0,0⟩))],mxH t num L i,[]⟩
theorem Z6k {L:List Zh} {i j:Nat} (hj:j<i+1):ZE i (Zi (YI L)) (ZO (ZM.c (L.getD i Ym).o) 0 132) j=(YI L j).c:=by
 rcases Nat.lt_or_ge j i with h|h
 ·rw [Z3O h];rfl
 ·have e:j=i:=by omega
  subst e
  rw [Ub (Nat.le_refl _),Nat.sub_self]
  rfl
theorem Zhl (t:Zq) (num:Int) (L:List Zh) (n i:Nat) (Z1 Z2:Prop) (hn:n<1000) (hi:i≤n) (h1:i<n→Z1) (h2:i=n→Z2):
  Yf G0 20 87 0 0 (mxS t num L n i) (rdM 0 0 9 (mxS t num L n (i+1)) (mxE t num L i) (mxE t num L i) (mxE t num L i) Z1 Z2 False False):=by
 refine @Eq.mpr _ (let q1:=decide (i=i);
 let q2:=i+1;
 let q3:=decide (n=n);
 let q4:=Z2j t;
 let q5:=q4.name;
 let q6:=q5=q5;
 let q7:=q4.index;
 let q8:=decide (q7=q7);
 let q9:=q4.tag;
 let q10:=q9=q9;
 let q11:=q4.also;
 let q12:=q11=q11;
 let q13:=q4.secret;
 let q14:=q13=q13;
 let q15:=decide (num=num);
 let q16:=decide (q2=q2);
 let q17:=[(1,1),(0,0),(2,2)];
 let q18:=Zi (YI L);
 let q19:=(List.getD L (Int.toNat (↑i:Int)) Ym).o;
 Z0 (decide ((↑i:Int)<(↑n:Int))) (Z0 (decide (0≤(↑i:Int)∧(↑i:Int)<(↑n:Int))) (Z0 q1 (Z0 (decide (q2*160≤140737488355328)) (Z0 (decide (wrap i64 ((↑i:Int)+1)=(↑q2:Int))) (Z0 (decide ((↑n:Int)=(↑n:Int))) (Z0 q3 (Zt L=Zt L∧Z0 q3 (q6∧Z0 q8 (q10∧q12∧q14∧Z0 q15 (Z0 q16 (Z0 (decide (q2≤q2)) (Z0 q16 (Zz 0 ((3,6)::q17) q2 q18 (ZE i q18 (ZO [AV.int i64 q19.kind,AV.int i64 q19.amount,AV.arr u8 32 q19.owner,AV.arr u8 32 q19.other,AV.arr u8 32 q19.point,AV.arr u8 32 q19.hash,AV.int i64 q19.delay,AV.int i64 q19.expiry] 0 132))∧Z1) False) False) False) False) False) False) False) False) False) False) False) False) (q6∧Z0 q8 (q10∧q12∧q14∧Z0 q15 (Z0 q1 (Z0 (decide (i≤i)) (Z0 q1 (Zz 0 ((3,3)::q17) i q18 q18∧Z2) False) False) False) False) False)) (by kernel_rfl) ?_
 conv=>zeta
 try simp only [Zc]
 try simp only [Zj]
 try simp only [Zd]
 try simp only [Zk]
 try simp only [Zl]
 try simp only [Zb]
 try simp only [Int.toNat_natCast,Nat.zero_add,true_and,and_true,Nat.le_refl]
 refine ⟨fun hc=> ?_,fun hc=>⟨Yn fun _ _=>rfl,h2 (by omega)⟩⟩
 exact ⟨by omega,by omega,by rw [w64 (by omega)];omega,Yn fun j hj=>Z6k hj,h1 (by omega)⟩
noncomputable def E85 (t:Zq) (num:Int) (L:List Zh) (n:Nat):Ze:=G0.withL 87 0 (goM 0 (mxS t num L n 0) (n<1000) (WX 0 n 9 (fun i=>i<n) (fun i=>i=n) (fun _=>False) (fun _=>False) (fun i=>mxE t num L i) (fun i=>mxE t num L i) (fun i=>mxE t num L i)))
theorem Zei (t:Zq) (num:Int) (L:List Zh) (n:Nat):(E85 t num L n).Ok:=
 Ze.withGoM (N:=20) (S:=fun i=>mxS t num L n i) Zu (by kernel_rfl) fun hC=>⟨rfl,fun i hi _=>Zhl t num L n i _ _ hC hi (fun h=>⟨h,h⟩) (fun h=>h)⟩
theorem Zhm (t:Zq) (num:Int) (L:List Zh) (n:Nat) (hn:n<1000) (h0:n≠0):
  evF (E85 t num L n) 20 87 [.agg t.c,.int .i64 num,.vrows 134 n (Zt L) n] ⟨0,[]⟩ (Y2 0 (.ret (.tuple [.agg [.int .i64 num,.nslice ⟨0,0,0,0,0⟩ 130 1 1,.nslice ⟨1,0,132,0,0⟩ 132 n n],.int .i64 0])) 2 [(0,.flat (InS.c (Z2j t))),(1,.rows 132 n (Zi (YI L)))]):=by
 refine @Eq.mpr _ (let q1:=decide (n=n);
 let q2:=Z2j t;
 let q3:=q2.name;
 let q4:=q2.index;
 let q5:=q2.tag;
 let q6:=q2.also;
 let q7:=q2.secret;
 let q8:=decide (num=num);
 let q9:=Zi (YI L);
 Z0 ((↑n:Int)==0) (Z0 (decide (0=num)) False False)
 (Z0 (decide ((↑n:Int)=(↑n:Int)))
 (Z0 q1
 (Zt L=Zt L∧
 Z0 q1
 (t.fund=q3∧
 Z0 (decide (t.index=q4))
 (Z5=q5∧
 Z5=q6∧
 Z5=q7∧
 Z0 q8
 (n<1000∧
 ∀(i:Nat),
 let q19:=decide (i=n);
 i≤n→(∀(j:Nat),j<i→(fun (i:Nat)=>i<n) j)→(i=n→Z0 q8 (Z0 q19 (Z0 (decide (n≤i)) (q3=q3∧Z0 (decide (q4=q4)) (q5=q5∧q6=q6∧q7=q7∧Z0 q19 (Zz 0 [(1,3),(0,1)] n q9 q9∧True) False) False) False) False) False)∧(False→False)∧(False→False))
 False)
 False)
 False)
 False)
 False)) (by kernel_rfl) ?_
 conv=>zeta
 try simp only [Zc]
 try simp only [Zj]
 try simp only [Zd]
 try simp only [Zk]
 try simp only [Zl]
 try simp only [Zb]
 try simp only [Int.toNat_natCast,Nat.zero_add,true_and,and_true,Nat.le_refl]
 refine ⟨fun h=> ?_,fun _=>⟨rfl,rfl,rfl,rfl,rfl,hn,fun i hi _=>⟨fun he=> ?_,fun h=>h.elim,fun h=>h.elim⟩⟩⟩
 ·have:(n:Int)=0:=by simpa using h
  omega
 ·subst he
  exact ⟨rfl,Nat.le_refl _,rfl,Yn fun _ _=>rfl⟩
theorem Zhn (t:Zq) (num:Int) :
  evF G0 20 87 [.agg t.c,.int .i64 num,.nilslice] ⟨0,[]⟩ (Y2 0 (.ret (.tuple [.agg txZ,.int .i64 180])) 0 []):=by
 refine @Eq.mpr _ (True) (by kernel_rfl) ?_
 trivial
def mxF:ZQ:=fun args h K=>ZL none h true 20 args fun a=>match a with
 | [.agg [.arr .u8 32 fu,.int .i64 ix,.int .i64 ca,.int .i64 du,.int .i64 fe,.int .i64 de,.arr .u8 32 k0,.arr .u8 32 k1],.int .i64 num,.nilslice]=>K (.ret (.tuple [.agg txZ,.int .i64 180])) h
 | [.agg [.arr .u8 32 fu,.int .i64 ix,.int .i64 ca,.int .i64 du,.int .i64 fe,.int .i64 de,.arr .u8 32 k0,.arr .u8 32 k1],.int .i64 num,.vrows 134 n f n']=>∃L,n'=n∧f=Zt L∧(n<1000∧n≠0)∧K (.ret (.tuple [.agg [.int .i64 num,.nslice ⟨h.next,0,0,0,0⟩ 130 1 1,.nslice ⟨h.next+1,0,132,0,0⟩ 132 n n],.int .i64 0])) ⟨h.next+2,(h.next,.flat (InS.c ⟨fu,ix,1,Z5,Z5,Z5⟩))::(h.next+1,.rows 132 n (Zi (YI L)))::h.bs⟩
 | _=>False
theorem Zg6 (args:List AV) (h:Z7) (K:KO) (hl:mxF args h K):Zg PP 87 args h K:=by
 refine ZD.fsumm (d:=20) (Zn _ _ _ _ _ hl fun a ha=> ?_)
 split at ha
 ·exact ⟨_,_,_,_,.evM Zu (Zhn ⟨_,_,_,_,_,_,_,_⟩ _),rfl,trivial,ha⟩
 ·obtain ⟨L,rfl,rfl,⟨h1,h2⟩,hK⟩:=ha
  exact ⟨_,_,_,_,.evM (Zei _ _ _ _) (Zhm ⟨_,_,_,_,_,_,_,_⟩ _ L _ h1 h2),rfl,⟨by decide,.flat _ rfl,by decide,.rows _ _ _ (fun i _=>(YI L i).plainC),trivial⟩,hK⟩
 ·exact ha.elim
end Go.Tk
end
section
namespace Go.Tk
open IntKind (i64 u8 u32 u64 wrap)
noncomputable def E86 (A:List Int→Int×Int):Ze:=((((G0.withP 44 Z53).withP 74 (Z79 A)).withP 86 inQ).withF 88 orF).withF 87 mxF
theorem Z6l:(E86 ZS).Ok:=Ze.withF_ok (Ze.withF_ok (Ze.withP_ok (Ze.withP_ok (Ze.withP_ok Zu Z1X) Z1R) Zan) Zeh) Zg6
def clL (t:Zq) (a b fee:Int):List Zh:=
 (if t.dust≤a-fee then [⟨⟨1,a-fee,t.k0,Z5,Z5,Z5,0,0⟩,0,0⟩] else [])++(if t.dust≤b then [⟨⟨1,b,t.k1,Z5,Z5,Z5,0,0⟩,1,0⟩] else [])
def clB (A:List Int→Int×Int) (t:Zq) (a b fee:Int):Bool:=YN t&&decide ((A [a,b]).2=0)&&decide ((A [a,b]).1=t.cap)&&decide (0≤fee∧fee≤a)
theorem Q1 {f:Nat→List AV} {L:List Zh} {n:Nat} (h:∀i,i<n→f i=Zt L i):∀i,i<n→plainC (f i)=true:=fun i hi=>by rw [h i hi];exact XK L i
theorem X7 {l:List Zh}:(Y1 l).length=l.length:=by unfold Y1;rw [Z35];simp
theorem Z3V (x:Zh) (i:Nat) (hi:i<1):ZE 0 (fun _=>[]) (ZO (Zh.c x) 0 134) i=Zt [x] i:=Z36 (O:=[]) rfl (fun k hk=>absurd hk (Nat.not_lt_zero k)) hi
theorem Zax (x y:Zh) (i:Nat) (hi:i<2):ZE 1 (ZE 0 (fun _=>[]) (ZO (Zh.c x) 0 134)) (ZO (Zh.c y) 0 134) i=Zt [x,y] i:=Z36 (O:=[x]) rfl (fun k hk=>Z3V x k hk) hi
theorem Z6m {c:Bool}:(((if c=true then (0:Int) else 2) !=0)=true↔c=false)∧(((if c=true then (0:Int) else 2) !=0)=false↔c=true):=by cases c<;>simp
theorem Ud {A:List Int→Int×Int} {t:Zq} {a b fee:Int}:clB A t a b fee=true↔YN t=true∧(A [a,b]).2=0∧(A [a,b]).1=t.cap∧(0≤fee∧fee≤a):=by
 unfold clB
 simp only [Bool.and_eq_true,decide_eq_true_eq,and_assoc]
theorem Zho (A:List Int→Int×Int) (t:Zq) (a b fee:Int) (ht:t.Ok) (hc:clB A t a b fee=false):
  evF (E86 A) 20 42 [.agg t.c,.agg [.arr .i64 2 [a,b]],.int .i64 fee] ⟨0,[]⟩ (Y2 0 (.ret (.tuple [.agg txZ,.int .i64 2])) 0 []):=by
 refine @Eq.mpr _ (let q1:=t.fund;
 let q2:=t.index;
 let q3:=t.cap;
 let q4:=t.dust;
 let q5:=t.fee;
 let q6:=t.delay;
 let q7:=t.k0;
 let q8:=t.k1;
 let q9:=Zq.mk q1 q2 q3 q4 q5 q6 q7 q8;
 let q10:=A [a,b];
 let q11:=wrap i64 (a-fee);
 let q12:=decide (b≥q4);
 let q13:=AV.int i64 (1:Int);
 let q14:=AV.arr u8 (32:Nat) Z5;
 let q15:=AV.int i64 (0:Int);
 let q16:=[q15];
 let q17:=ZO (q13::AV.int i64 q11::AV.arr u8 (32:Nat) q7::q14::q14::q14::q15::q15::q15::q16) (0:Nat) (134:Nat);
 let q18:=ZO (q13::AV.int i64 b::AV.arr u8 (32:Nat) q8::q14::q14::q14::q15::q15::q13::q16) (0:Nat) (134:Nat);
 let q19:=q1=q1;
 let q20:=decide (q2=q2);
 let q21:=decide (q3=q3);
 let q22:=decide (q4=q4);
 let q23:=decide (q5=q5);
 let q24:=decide (q6=q6);
 let q25:=q7=q7;
 let q26:=q8=q8;
 Zq.Ok q9∧
 Z0 ((if YN q9=true then (0:Int) else (2:Int)) !=(0:Int)) True
 (Z0 (q10.snd !=(0:Int)) True
 (Z0 (q10.fst !=q3) True
 (Z0 (!decide ((0:Int)≤fee∧fee≤a)) True
 (Z0 (decide (q11≥q4))
 (Z0 q12 ((∀(i:Nat),i<(2:Nat)→plainC (ZE (1:Nat) (ZE (0:Nat) (fun (x:Nat)=>[]) q17) q18 i)=true)∧∃(L:List Zh),((2:Nat)=(2:Nat)∧(2:Nat)<(20:Nat)∧List.length L=(2:Nat))∧(∀(m:Zh),List.Mem m L→Zh.Ok m)∧(∀(i:Nat),i<(2:Nat)→ZE (1:Nat) (ZE (0:Nat) (fun (x:Nat)=>[]) q17) q18 i=Zt L i)∧q19∧Z0 q20 (Z0 q21 (Z0 q22 (Z0 q23 (Z0 q24 (q25∧q26∧(∀(i:Nat),i<(2:Nat)→true=true)∧∃(L_1:List Zh),(2:Nat)=(2:Nat)∧Yp (0:Nat) (Zt (Y1 L))=Zt L_1∧((2:Nat)<(1000:Nat)∧(2:Nat)≠(0:Nat))∧False) False) False) False) False) False)
 ((∀(i:Nat),i<(1:Nat)→plainC (ZE (0:Nat) (fun (x:Nat)=>[]) q17 i)=true)∧∃(L:List Zh),((1:Nat)=(1:Nat)∧(1:Nat)<(20:Nat)∧List.length L=(1:Nat))∧(∀(m:Zh),List.Mem m L→Zh.Ok m)∧(∀(i:Nat),i<(1:Nat)→ZE (0:Nat) (fun (x:Nat)=>[]) q17 i=Zt L i)∧q19∧Z0 q20 (Z0 q21 (Z0 q22 (Z0 q23 (Z0 q24 (q25∧q26∧(∀(i:Nat),i<(1:Nat)→true=true)∧∃(L_1:List Zh),(1:Nat)=(1:Nat)∧Yp (0:Nat) (Zt (Y1 L))=Zt L_1∧((1:Nat)<(1000:Nat)∧(1:Nat)≠(0:Nat))∧False) False) False) False) False) False))
 (Z0 q12 ((∀(i:Nat),i<(1:Nat)→plainC (ZE (0:Nat) (fun (x:Nat)=>[]) q18 i)=true)∧∃(L:List Zh),((1:Nat)=(1:Nat)∧(1:Nat)<(20:Nat)∧List.length L=(1:Nat))∧(∀(m:Zh),List.Mem m L→Zh.Ok m)∧(∀(i:Nat),i<(1:Nat)→ZE (0:Nat) (fun (x:Nat)=>[]) q18 i=Zt L i)∧q19∧Z0 q20 (Z0 q21 (Z0 q22 (Z0 q23 (Z0 q24 (q25∧q26∧(∀(i:Nat),i<(1:Nat)→true=true)∧∃(L_1:List Zh),(1:Nat)=(1:Nat)∧Yp (0:Nat) (Zt (Y1 L))=Zt L_1∧((1:Nat)<(1000:Nat)∧(1:Nat)≠(0:Nat))∧False) False) False) False) False) False) (q19∧Z0 q20 (Z0 q21 (Z0 q22 (Z0 q23 (Z0 q24 (q25∧q26∧False) False) False) False) False) False))))))) (by kernel_rfl) ?_
 conv=>zeta
 try simp only [Zc]
 try simp only [Zj]
 try simp only [Zd]
 try simp only [Zk]
 try simp only [Zl]
 try simp only [Zb]
 try simp only [Int.toNat_natCast,Nat.zero_add,true_and,and_true,Nat.le_refl]
 have e0:(Zq.mk t.fund t.index t.cap t.dust t.fee t.delay t.k0 t.k1)=t:=rfl
 rw [e0]
 refine ⟨ht,fun _=>trivial,fun h1=>⟨fun _=>trivial,fun h2=>⟨fun _=>trivial,fun h3=>⟨fun _=>trivial,fun h4=> ?_⟩⟩⟩⟩
 exfalso
 have:clB A t a b fee=true:=Ud.2 ⟨Z6m.2.1 h1,by simpa using h2,by simpa using h3,by simpa using h4⟩
 rw [this] at hc;cases hc
theorem Zhp (A:List Int→Int×Int) (t:Zq) (a b fee:Int) (ht:t.Ok) (ha:a<9223372036854775808) (hc:clB A t a b fee=true) (hL:clL t a b fee=[]):
  evF (E86 A) 20 42 [.agg t.c,.agg [.arr .i64 2 [a,b]],.int .i64 fee] ⟨0,[]⟩ (Y2 0 (.ret (.tuple [.agg txZ,.int .i64 180])) 0 []):=by
 refine @Eq.mpr _ (let q1:=t.fund;
 let q2:=t.index;
 let q3:=t.cap;
 let q4:=t.dust;
 let q5:=t.fee;
 let q6:=t.delay;
 let q7:=t.k0;
 let q8:=t.k1;
 let q9:=Zq.mk q1 q2 q3 q4 q5 q6 q7 q8;
 let q10:=A [a,b];
 let q11:=wrap i64 (a-fee);
 let q12:=decide (b≥q4);
 let q13:=AV.int i64 (1:Int);
 let q14:=AV.arr u8 (32:Nat) Z5;
 let q15:=AV.int i64 (0:Int);
 let q16:=[q15];
 let q17:=ZO (q13::AV.int i64 q11::AV.arr u8 (32:Nat) q7::q14::q14::q14::q15::q15::q15::q16) (0:Nat) (134:Nat);
 let q18:=ZO (q13::AV.int i64 b::AV.arr u8 (32:Nat) q8::q14::q14::q14::q15::q15::q13::q16) (0:Nat) (134:Nat);
 let q19:=q1=q1;
 let q20:=decide (q2=q2);
 let q21:=decide (q3=q3);
 let q22:=decide (q4=q4);
 let q23:=decide (q5=q5);
 let q24:=decide (q6=q6);
 let q25:=q7=q7;
 let q26:=q8=q8;
 Zq.Ok q9∧
 Z0 ((if YN q9=true then (0:Int) else (2:Int)) !=(0:Int)) False
 (Z0 (q10.snd !=(0:Int)) False
 (Z0 (q10.fst !=q3) False
 (Z0 (!decide ((0:Int)≤fee∧fee≤a)) False
 (Z0 (decide (q11≥q4))
 (Z0 q12 ((∀(i:Nat),i<(2:Nat)→plainC (ZE (1:Nat) (ZE (0:Nat) (fun (x:Nat)=>[]) q17) q18 i)=true)∧∃(L:List Zh),((2:Nat)=(2:Nat)∧(2:Nat)<(20:Nat)∧List.length L=(2:Nat))∧(∀(m:Zh),List.Mem m L→Zh.Ok m)∧(∀(i:Nat),i<(2:Nat)→ZE (1:Nat) (ZE (0:Nat) (fun (x:Nat)=>[]) q17) q18 i=Zt L i)∧q19∧Z0 q20 (Z0 q21 (Z0 q22 (Z0 q23 (Z0 q24 (q25∧q26∧(∀(i:Nat),i<(2:Nat)→true=true)∧∃(L_1:List Zh),(2:Nat)=(2:Nat)∧Yp (0:Nat) (Zt (Y1 L))=Zt L_1∧((2:Nat)<(1000:Nat)∧(2:Nat)≠(0:Nat))∧False) False) False) False) False) False)
 ((∀(i:Nat),i<(1:Nat)→plainC (ZE (0:Nat) (fun (x:Nat)=>[]) q17 i)=true)∧∃(L:List Zh),((1:Nat)=(1:Nat)∧(1:Nat)<(20:Nat)∧List.length L=(1:Nat))∧(∀(m:Zh),List.Mem m L→Zh.Ok m)∧(∀(i:Nat),i<(1:Nat)→ZE (0:Nat) (fun (x:Nat)=>[]) q17 i=Zt L i)∧q19∧Z0 q20 (Z0 q21 (Z0 q22 (Z0 q23 (Z0 q24 (q25∧q26∧(∀(i:Nat),i<(1:Nat)→true=true)∧∃(L_1:List Zh),(1:Nat)=(1:Nat)∧Yp (0:Nat) (Zt (Y1 L))=Zt L_1∧((1:Nat)<(1000:Nat)∧(1:Nat)≠(0:Nat))∧False) False) False) False) False) False))
 (Z0 q12 ((∀(i:Nat),i<(1:Nat)→plainC (ZE (0:Nat) (fun (x:Nat)=>[]) q18 i)=true)∧∃(L:List Zh),((1:Nat)=(1:Nat)∧(1:Nat)<(20:Nat)∧List.length L=(1:Nat))∧(∀(m:Zh),List.Mem m L→Zh.Ok m)∧(∀(i:Nat),i<(1:Nat)→ZE (0:Nat) (fun (x:Nat)=>[]) q18 i=Zt L i)∧q19∧Z0 q20 (Z0 q21 (Z0 q22 (Z0 q23 (Z0 q24 (q25∧q26∧(∀(i:Nat),i<(1:Nat)→true=true)∧∃(L_1:List Zh),(1:Nat)=(1:Nat)∧Yp (0:Nat) (Zt (Y1 L))=Zt L_1∧((1:Nat)<(1000:Nat)∧(1:Nat)≠(0:Nat))∧False) False) False) False) False) False) (q19∧Z0 q20 (Z0 q21 (Z0 q22 (Z0 q23 (Z0 q24 (q25∧q26∧True) False) False) False) False) False))))))) (by kernel_rfl) ?_
 conv=>zeta
 try simp only [Zc]
 try simp only [Zj]
 try simp only [Zd]
 try simp only [Zk]
 try simp only [Zl]
 try simp only [Zb]
 try simp only [Int.toNat_natCast,Nat.zero_add,true_and,and_true,Nat.le_refl]
 have e0:(Zq.mk t.fund t.index t.cap t.dust t.fee t.delay t.k0 t.k1)=t:=rfl
 rw [e0]
 obtain ⟨c1,c2,c3,c4⟩:=Ud.1 hc
 have hw:i64.wrap (a-fee)=a-fee:=w64 (by omega)
 have hd:¬t.dust≤a-fee∧¬t.dust≤b:=by
  unfold clL at hL
  rw [List.append_eq_nil_iff] at hL
  constructor
  ·intro h;rw [if_pos h] at hL;simp at hL
  ·intro h;rw [if_pos h] at hL;simp at hL
 refine ⟨ht,Z6m.2.2 c1,by simp [c2],by simp [c3],by simp [c4], ?_⟩
 ·rw [hw]
  exact ⟨fun h=>absurd h hd.1,fun h=>⟨fun h=>absurd h hd.2,fun _=>trivial⟩⟩
theorem Zhq (A:List Int→Int×Int) (t:Zq) (a b fee:Int) (n:Nat) (L1:List Zh) (ht:t.Ok) (ha:a<9223372036854775808) (hc:clB A t a b fee=true) (hn:n≠0) (hL:L1=Y1 (clL t a b fee)) (hl:n=L1.length):
  evF (E86 A) 20 42 [.agg t.c,.agg [.arr .i64 2 [a,b]],.int .i64 fee] ⟨0,[]⟩ (Y2 0 (.ret (.tuple [.agg [.int .i64 2147483647,.nslice ⟨0,0,0,0,0⟩ 130 1 1,.nslice ⟨1,0,132,0,0⟩ 132 n n],.int .i64 0])) 2 [(0,.flat (InS.c (Z2j t))),(1,.rows 132 n (Zi (YI L1)))]):=by
 refine @Eq.mpr _ (let q1:=t.fund;
 let q2:=t.index;
 let q3:=t.cap;
 let q4:=t.dust;
 let q5:=t.fee;
 let q6:=t.delay;
 let q7:=t.k0;
 let q8:=t.k1;
 let q9:=Zq.mk q1 q2 q3 q4 q5 q6 q7 q8;
 let q10:=A [a,b];
 let q11:=wrap i64 (a-fee);
 let q12:=decide (b≥q4);
 let q13:=AV.int i64 (1:Int);
 let q14:=AV.arr u8 (32:Nat) Z5;
 let q15:=AV.int i64 (0:Int);
 let q16:=[q15];
 let q17:=ZO (q13::AV.int i64 q11::AV.arr u8 (32:Nat) q7::q14::q14::q14::q15::q15::q15::q16) (0:Nat) (134:Nat);
 let q18:=ZO (q13::AV.int i64 b::AV.arr u8 (32:Nat) q8::q14::q14::q14::q15::q15::q13::q16) (0:Nat) (134:Nat);
 let q19:=q1=q1;
 let q20:=decide (q2=q2);
 let q21:=decide (q3=q3);
 let q22:=decide (q4=q4);
 let q23:=decide (q5=q5);
 let q24:=decide (q6=q6);
 let q25:=q7=q7;
 let q26:=q8=q8;
 let q27:=decide ((2:Nat)=n);
 let q28:=InS.mk q1 q2 (1:Int) Z5 Z5 Z5;
 let q29:=Z2j t;
 let q30:=q28.name=q29.name;
 let q31:=decide (q28.index=q29.index);
 let q32:=q28.tag=q29.tag;
 let q33:=q28.also=q29.also;
 let q34:=q28.secret=q29.secret;
 let q35:=Zi (YI L1);
 let q36:=decide ((1:Nat)=n);
 Zq.Ok q9∧
 Z0 ((if YN q9=true then (0:Int) else (2:Int)) !=(0:Int)) False
 (Z0 (q10.snd !=(0:Int)) False
 (Z0 (q10.fst !=q3) False
 (Z0 (!decide ((0:Int)≤fee∧fee≤a)) False
 (Z0 (decide (q11≥q4))
 (Z0 q12 ((∀(i:Nat),i<(2:Nat)→plainC (ZE (1:Nat) (ZE (0:Nat) (fun (x:Nat)=>[]) q17) q18 i)=true)∧∃(L:List Zh),((2:Nat)=(2:Nat)∧(2:Nat)<(20:Nat)∧List.length L=(2:Nat))∧(∀(m:Zh),List.Mem m L→Zh.Ok m)∧(∀(i:Nat),i<(2:Nat)→ZE (1:Nat) (ZE (0:Nat) (fun (x:Nat)=>[]) q17) q18 i=Zt L i)∧q19∧Z0 q20 (Z0 q21 (Z0 q22 (Z0 q23 (Z0 q24 (q25∧q26∧(∀(i:Nat),i<(2:Nat)→true=true)∧∃(L_1:List Zh),(2:Nat)=(2:Nat)∧Yp (0:Nat) (Zt (Y1 L))=Zt L_1∧((2:Nat)<(1000:Nat)∧(2:Nat)≠(0:Nat))∧Z0 q27 (Z0 (decide (n≤(2:Nat))) (q30∧Z0 q31 (q32∧q33∧q34∧Z0 q27 (Zz (0:Nat) [((1:Nat),(8:Nat)),((0:Nat),(7:Nat))] n q35 (Zi (YI L_1))∧True) False) False) False) False) False) False) False) False) False)
 ((∀(i:Nat),i<(1:Nat)→plainC (ZE (0:Nat) (fun (x:Nat)=>[]) q17 i)=true)∧∃(L:List Zh),((1:Nat)=(1:Nat)∧(1:Nat)<(20:Nat)∧List.length L=(1:Nat))∧(∀(m:Zh),List.Mem m L→Zh.Ok m)∧(∀(i:Nat),i<(1:Nat)→ZE (0:Nat) (fun (x:Nat)=>[]) q17 i=Zt L i)∧q19∧Z0 q20 (Z0 q21 (Z0 q22 (Z0 q23 (Z0 q24 (q25∧q26∧(∀(i:Nat),i<(1:Nat)→true=true)∧∃(L_1:List Zh),(1:Nat)=(1:Nat)∧Yp (0:Nat) (Zt (Y1 L))=Zt L_1∧((1:Nat)<(1000:Nat)∧(1:Nat)≠(0:Nat))∧Z0 q36 (Z0 (decide (n≤(1:Nat))) (q30∧Z0 q31 (q32∧q33∧q34∧Z0 q36 (Zz (0:Nat) [((1:Nat),(6:Nat)),((0:Nat),(5:Nat))] n q35 (Zi (YI L_1))∧True) False) False) False) False) False) False) False) False) False))
 (Z0 q12 ((∀(i:Nat),i<(1:Nat)→plainC (ZE (0:Nat) (fun (x:Nat)=>[]) q18 i)=true)∧∃(L:List Zh),((1:Nat)=(1:Nat)∧(1:Nat)<(20:Nat)∧List.length L=(1:Nat))∧(∀(m:Zh),List.Mem m L→Zh.Ok m)∧(∀(i:Nat),i<(1:Nat)→ZE (0:Nat) (fun (x:Nat)=>[]) q18 i=Zt L i)∧q19∧Z0 q20 (Z0 q21 (Z0 q22 (Z0 q23 (Z0 q24 (q25∧q26∧(∀(i:Nat),i<(1:Nat)→true=true)∧∃(L_1:List Zh),(1:Nat)=(1:Nat)∧Yp (0:Nat) (Zt (Y1 L))=Zt L_1∧((1:Nat)<(1000:Nat)∧(1:Nat)≠(0:Nat))∧Z0 q36 (Z0 (decide (n≤(1:Nat))) (q30∧Z0 q31 (q32∧q33∧q34∧Z0 q36 (Zz (0:Nat) [((1:Nat),(6:Nat)),((0:Nat),(5:Nat))] n q35 (Zi (YI L_1))∧True) False) False) False) False) False) False) False) False) False) (q19∧Z0 q20 (Z0 q21 (Z0 q22 (Z0 q23 (Z0 q24 (q25∧q26∧False) False) False) False) False) False))))))) (by kernel_rfl) ?_
 conv=>zeta
 try simp only [Zc]
 try simp only [Zj]
 try simp only [Zd]
 try simp only [Zk]
 try simp only [Zl]
 try simp only [Zb]
 try simp only [Int.toNat_natCast,Nat.zero_add,true_and,and_true,Nat.le_refl]
 have e0:(Zq.mk t.fund t.index t.cap t.dust t.fee t.delay t.k0 t.k1)=t:=rfl
 rw [e0]
 obtain ⟨c1,c2,c3,c4⟩:=Ud.1 hc
 have hw:i64.wrap (a-fee)=a-fee:=w64 (by omega)
 refine ⟨ht,Z6m.2.2 c1,by simp [c2],by simp [c3],by simp [c4], ?_⟩
 ·rw [hw]
  have z32:Z5.length=32:=rfl
  refine ⟨fun h1=>⟨fun h2=> ?_,fun h2=> ?_⟩,fun h1=>⟨fun h2=> ?_,fun h2=> ?_⟩⟩
  ·have e:clL t a b fee=[⟨⟨1,a-fee,t.k0,Z5,Z5,Z5,0,0⟩,0,0⟩,⟨⟨1,b,t.k1,Z5,Z5,Z5,0,0⟩,1,0⟩]:=by unfold clL;rw [if_pos h1,if_pos h2];rfl
   have hn2:2=n:=by rw [hl,hL,e,X7];rfl
   have H:=Zax ⟨⟨1,a-fee,t.k0,Z5,Z5,Z5,0,0⟩,0,0⟩ ⟨⟨1,b,t.k1,Z5,Z5,Z5,0,0⟩,1,0⟩
   refine ⟨Q1 H,_,⟨by decide,rfl⟩,fun m hm=> ?_,H,fun _ _=>trivial,_,rfl,⟨by decide,by decide⟩,hn2,by omega,rfl,rfl,rfl,rfl,rfl,hn2,Yn fun _ _=>by rw [hL,e];rfl⟩
   have hm:m∈[_,_]:=hm
   rcases List.mem_cons.1 hm with rfl|hm
   ·exact ⟨ht.k0,z32,z32,z32⟩
   ·rcases List.mem_cons.1 hm with rfl|hm
    ·exact ⟨ht.k1,z32,z32,z32⟩
    ·cases hm
  ·have e:clL t a b fee=[⟨⟨1,a-fee,t.k0,Z5,Z5,Z5,0,0⟩,0,0⟩]:=by unfold clL;rw [if_pos h1,if_neg h2];rfl
   have hn2:1=n:=by rw [hl,hL,e,X7];rfl
   have H:=Z3V ⟨⟨1,a-fee,t.k0,Z5,Z5,Z5,0,0⟩,0,0⟩
   refine ⟨Q1 H,_,⟨by decide,rfl⟩,fun m hm=> ?_,H,fun _ _=>trivial,_,rfl,⟨by decide,by decide⟩,hn2,by omega,rfl,rfl,rfl,rfl,rfl,hn2,Yn fun _ _=>by rw [hL,e];rfl⟩
   have hm:m∈[_]:=hm
   rcases List.mem_cons.1 hm with rfl|hm
   ·exact ⟨ht.k0,z32,z32,z32⟩
   ·cases hm
  ·have e:clL t a b fee=[⟨⟨1,b,t.k1,Z5,Z5,Z5,0,0⟩,1,0⟩]:=by unfold clL;rw [if_neg h1,if_pos h2];rfl
   have hn2:1=n:=by rw [hl,hL,e,X7];rfl
   have H:=Z3V ⟨⟨1,b,t.k1,Z5,Z5,Z5,0,0⟩,1,0⟩
   refine ⟨Q1 H,_,⟨by decide,rfl⟩,fun m hm=> ?_,H,fun _ _=>trivial,_,rfl,⟨by decide,by decide⟩,hn2,by omega,rfl,rfl,rfl,rfl,rfl,hn2,Yn fun _ _=>by rw [hL,e];rfl⟩
   have hm:m∈[_]:=hm
   rcases List.mem_cons.1 hm with rfl|hm
   ·exact ⟨ht.k1,z32,z32,z32⟩
   ·cases hm
  ·have e:clL t a b fee=[]:=by unfold clL;rw [if_neg h1,if_neg h2];rfl
   rw [e] at hL
   rw [hl,hL] at hn
   exact hn rfl
def clF (A:List Int→Int×Int):ZQ:=fun args h K=>ZL none h true 20 args fun a=>match a with
 | [.agg [.arr .u8 32 fu,.int .i64 ix,.int .i64 ca,.int .i64 du,.int .i64 fe,.int .i64 de,.arr .u8 32 k0,.arr .u8 32 k1],.agg [.arr .i64 2 ab],.int .i64 fee]=>
  (Zq.Ok ⟨fu,ix,ca,du,fe,de,k0,k1⟩)∧∃a b,ab=[a,b]∧a<9223372036854775808∧(clB A ⟨fu,ix,ca,du,fe,de,k0,k1⟩ a b fee=false→K (.ret (.tuple [.agg txZ,.int .i64 2])) h)∧
  (clB A ⟨fu,ix,ca,du,fe,de,k0,k1⟩ a b fee=true→((clL ⟨fu,ix,ca,du,fe,de,k0,k1⟩ a b fee).length=0→K (.ret (.tuple [.agg txZ,.int .i64 180])) h)∧
   ∀n L,L=Y1 (clL ⟨fu,ix,ca,du,fe,de,k0,k1⟩ a b fee)→n=L.length→n≠0→K (.ret (.tuple [.agg [.int .i64 2147483647,.nslice ⟨h.next,0,0,0,0⟩ 130 1 1,.nslice ⟨h.next+1,0,132,0,0⟩ 132 n n],.int .i64 0])) ⟨h.next+2,(h.next,.flat (InS.c ⟨fu,ix,1,Z5,Z5,Z5⟩))::(h.next+1,.rows 132 n (Zi (YI L)))::h.bs⟩)
 | _=>False
theorem Z6n (args:List AV) (h:Z7) (K:KO) (hl:clF ZS args h K):Zg PP 42 args h K:=by
 refine ZD.fsumm (d:=20) (Zn _ _ _ _ _ hl fun a ha=> ?_)
 split at ha
 ·rename_i fu ix ca du fe de k0 k1 ab fee
  obtain ⟨ht,a,b,rfl,ha,h1,h2⟩:=ha
  cases hc:clB ZS ⟨fu,ix,ca,du,fe,de,k0,k1⟩ a b fee with
  | false=>exact ⟨_,_,_,_,.evM Z6l (Zho _ ⟨_,_,_,_,_,_,_,_⟩ a b fee ht hc),rfl,trivial,h1 hc⟩
  | true=>
   obtain ⟨h2,h3⟩:=h2 hc
   rcases Nat.eq_zero_or_pos (clL ⟨fu,ix,ca,du,fe,de,k0,k1⟩ a b fee).length with h0|h0
   ·exact ⟨_,_,_,_,.evM Z6l (Zhp _ ⟨_,_,_,_,_,_,_,_⟩ a b fee ht ha hc (List.length_eq_zero_iff.1 h0)),rfl,trivial,h2 h0⟩
   ·have hn:(Y1 (clL ⟨fu,ix,ca,du,fe,de,k0,k1⟩ a b fee)).length≠0:=by rw [X7];omega
    exact ⟨_,_,_,_,.evM Z6l (Zhq _ ⟨_,_,_,_,_,_,_,_⟩ a b fee _ _ ht ha hc hn rfl rfl),rfl,⟨by decide,.flat _ rfl,by decide,.rows _ _ _ (fun i _=>(YI _ i).plainC),trivial⟩,h3 _ _ rfl rfl hn⟩
 ·exact ha.elim
theorem Z6o:Bytes Z5:=⟨fun i=>by
 have h:Z5=List.replicate 32 0:=rfl
 rw [h,List.getD_eq_getElem?_getD,List.getElem?_replicate]
 split<;>simp⟩
theorem Zay {m a b:Int}:allIn m [a,b]=true↔(0≤a∧a≤m)∧(0≤b∧b≤m):=by
 unfold allIn Yk
 simp [List.range_succ,Vk]
theorem Ue {t:Zq} {a b fee:Int}:clB ZS t a b fee=true↔YN t=true∧((0≤a∧a≤1125899906842624)∧(0≤b∧b≤1125899906842624))∧a+b=t.cap∧(0≤fee∧fee≤a):=by
 rw [Ud]
 unfold ZS
 by_cases h:allIn 1125899906842624 [a,b]=true
 ·rw [if_pos h]
  have h':=Zay.1 h
  by_cases h2:[a,b].sum≤1125899906842624
  ·rw [if_pos h2];simp;omega
  ·rw [if_neg h2]
   simp at h2
   constructor
   ·rintro ⟨_,h3,_⟩;simp at h3
   ·rintro ⟨h3,_,h4,_⟩
    unfold YN at h3
    simp only [Bool.and_eq_true,decide_eq_true_eq] at h3
    omega
 ·rw [if_neg h]
  constructor
  ·rintro ⟨_,h3,_⟩;simp at h3
  ·rintro ⟨_,h3,_⟩;exact absurd (Zay.2 h3) h
end Go.Tk
end
section
namespace Go.Tk
open IntKind (i64 u8 u32 u64 wrap)
@[irreducible] def loH (a b:List Int):List Int:=if WC a b>0 then b else a
@[irreducible] def hiH (a b:List Int):List Int:=if WC a b>0 then a else b
theorem Zg7 (a b lo hi:List Int) (ha:a.length=32) (hb:b.length=32) (hl:lo=loH a b) (hh:hi=hiH a b):
  evF G0 20 45 [.agg [.arr .u8 32 a],.agg [.arr .u8 32 b]] ⟨0,[]⟩ (Uh (fun v=>v=.tuple [.agg [.arr .u8 32 lo],.agg [.arr .u8 32 hi]])):=by
 refine @Eq.mpr _ (let q1:=AV.agg [AV.arr u8 32 b];
 let q2:=AV.agg [AV.arr u8 32 a];
 let q3:=AV.tuple [AV.agg [AV.arr u8 32 lo],AV.agg [AV.arr u8 32 hi]];
 Z0 (decide (u8=u8∧List.length a=32)) (Z0 (decide (u8=u8∧List.length b=32)) (Z0 (decide (WC a b>0)) (a=a∧AV.tuple [q1,q2]=q3) (b=b∧AV.tuple [q2,q1]=q3)) False) False) (by kernel_rfl) ?_
 conv=>zeta
 try simp only [Zc]
 try simp only [Zj]
 try simp only [Zd]
 try simp only [Zk]
 try simp only [Zl]
 try simp only [Zb]
 try simp only [Int.toNat_natCast,Nat.zero_add,true_and,and_true,Nat.le_refl]
 subst hl hh
 unfold loH hiH
 refine ⟨ha,hb,fun h=> ?_,fun h=> ?_⟩
 ·rw [if_pos h,if_pos h]
 ·rw [if_neg h,if_neg h]
def Zej:ZZ:=fun args _ K=>match args with
 | [.agg [.arr .u8 32 a],.agg [.arr .u8 32 b]]=>(a.length=32∧b.length=32)∧K (.tuple [.agg [.arr .u8 32 (loH a b)],.agg [.arr .u8 32 (hiH a b)]])
 | _=>False
theorem Zct (args:List AV) (h:Z7) (K:AV→Prop) (hl:Zej args h K):Zg PP 45 args h fun o h'=>∃v,o=.ret v∧h'=h∧K v:=by
 unfold Zej at hl
 split at hl
 ·obtain ⟨⟨h1,h2⟩,hK⟩:=hl
  exact Ww Zu rfl (Zg7 _ _ _ _ h1 h2 rfl rfl) (fun u hu=>hu▸hK)
 ·exact hl.elim
theorem Zcu {a b:List Int} (ha:a.length=32) (hb:b.length=32):(loH a b).length=32:=by unfold loH;split<;>assumption
theorem Zcv {a b:List Int} (ha:a.length=32) (hb:b.length=32):(hiH a b).length=32:=by unfold hiH;split<;>assumption
theorem Zg8 (m:Nat) (g:Nat→InS) (hm:m<1000):
  evF G0 20 91 [.vrows 130 (m+1) (Zf g) (m+1)] ⟨0,[]⟩ (Y2 0 (.ret (.nslice ⟨0,0,130,0,0⟩ 130 (m+1) (m+1))) 1 [(0,.rows 130 (m+1) (Zf g))]):=by
 refine @Eq.mpr _ (let q1:=m+1;
 let q2:=0+q1;
 let q3:=decide (q2=q1);
 Z0 (decide (q2*144≤140737488355328)) (Z0 q3 (Z0 (decide (q1≤q2)) (Z0 q3 (Zz 0 [(0,0)] q1 (Zf g) (ZE 0 (fun (x:Nat)=>[]) (Zf g))∧True) False) False) False) False) (by kernel_rfl) ?_
 conv=>zeta
 try simp only [Zc]
 try simp only [Zj]
 try simp only [Zd]
 try simp only [Zk]
 try simp only [Zl]
 try simp only [Zb]
 try simp only [Int.toNat_natCast,Nat.zero_add,true_and,and_true,Nat.le_refl]
 exact ⟨by omega,Ys fun i _=>by rw [Ub (Nat.zero_le _)];rfl⟩
theorem Zg9 (g:Nat→InS) :
  evF G0 20 91 [.nilslice] ⟨0,[]⟩ (Y2 0 (.ret (.nslice ⟨0,0,130,0,0⟩ 130 0 0)) 1 [(0,.rows 130 0 (Zf g))]):=by
 refine @Eq.mpr _ (True) (by kernel_rfl) ?_
 trivial
theorem Zga (g:Nat→InS) :
  evF G0 20 91 [.fslice] ⟨0,[]⟩ (Y2 0 (.ret (.nslice ⟨0,0,130,0,0⟩ 130 0 0)) 1 [(0,.rows 130 0 (Zf g))]):=by
 refine @Eq.mpr _ (Zz 0 [(0,0)] 0 (Zf g) (ZE 0 (fun (x:Nat)=>[]) fun (x:Nat)=>[])∧True) (by kernel_rfl) ?_
 try simp only [Zc]
 try simp only [Zj]
 try simp only [Zd]
 try simp only [Zk]
 try simp only [Zl]
 try simp only [Zb]
 try simp only [Int.toNat_natCast,Nat.zero_add,true_and,and_true,Nat.le_refl]
 exact Ys fun i hi=>absurd hi (Nat.not_lt_zero i)
theorem Zaz (n:Nat) (g:Nat→InS) (hn:n<1000):ZD PP 91 [.vrows 130 n (Zf g) n] (.nslice ⟨0,0,130,0,0⟩ 130 n n) 1 [(0,.rows 130 n (Zf g))]:=by
 match n,hn with
 | 0,_=>exact ZD.vrows0 (.evM Zu (Zg9 g)) (.evM Zu (Zga g))
 | m+1,h=>exact .evM Zu (Zg8 m g (by omega))
def Zek:ZQ:=fun args h K=>ZL none h true 20 args fun a=>match a with
 | [v]=>∃N g,Z4U v N g∧N<1000∧K (.ret (.nslice ⟨h.next,0,130,0,0⟩ 130 N N)) ⟨h.next+1,(h.next,.rows 130 N (Zf g))::h.bs⟩
 | _=>False
theorem Zcw (args:List AV) (h:Z7) (K:KO) (hl:Zek args h K):Zg PP 91 args h K:=by
 refine ZD.fsumm (d:=20) (Zn _ _ _ _ _ hl fun a ha=> ?_)
 split at ha
 ·obtain ⟨N,g,h1,h2,hK⟩:=ha
  exact ⟨_,_,_,_,(Zaz N g h2).conv fun E r hr=>hr.head (fun _ hc=>h1.rel hc) (fun _ hc=>hc),rfl,⟨by decide,.rows _ _ _ (fun i _=>(g i).plainC),trivial⟩,hK⟩
 ·exact ha.elim
theorem Zgb (m:Nat) (g:Nat→ZM) (hm:m<1000):
  evF G0 20 92 [.vrows 132 (m+1) (Zi g) (m+1)] ⟨0,[]⟩ (Y2 0 (.ret (.nslice ⟨0,0,132,0,0⟩ 132 (m+1) (m+1))) 1 [(0,.rows 132 (m+1) (Zi g))]):=by
 refine @Eq.mpr _ (let q1:=m+1;
 let q2:=0+q1;
 let q3:=decide (q2=q1);
 Z0 (decide (q2*160≤140737488355328)) (Z0 q3 (Z0 (decide (q1≤q2)) (Z0 q3 (Zz 0 [(0,0)] q1 (Zi g) (ZE 0 (fun (x:Nat)=>[]) (Zi g))∧True) False) False) False) False) (by kernel_rfl) ?_
 conv=>zeta
 try simp only [Zc]
 try simp only [Zj]
 try simp only [Zd]
 try simp only [Zk]
 try simp only [Zl]
 try simp only [Zb]
 try simp only [Int.toNat_natCast,Nat.zero_add,true_and,and_true,Nat.le_refl]
 exact ⟨by omega,Yn fun i _=>by rw [Ub (Nat.zero_le _)];rfl⟩
theorem Zgc (g:Nat→ZM) :
  evF G0 20 92 [.nilslice] ⟨0,[]⟩ (Y2 0 (.ret (.nslice ⟨0,0,132,0,0⟩ 132 0 0)) 1 [(0,.rows 132 0 (Zi g))]):=by
 refine @Eq.mpr _ (True) (by kernel_rfl) ?_
 trivial
theorem Zgd (g:Nat→ZM) :
  evF G0 20 92 [.fslice] ⟨0,[]⟩ (Y2 0 (.ret (.nslice ⟨0,0,132,0,0⟩ 132 0 0)) 1 [(0,.rows 132 0 (Zi g))]):=by
 refine @Eq.mpr _ (Zz 0 [(0,0)] 0 (Zi g) (ZE 0 (fun (x:Nat)=>[]) fun (x:Nat)=>[])∧True) (by kernel_rfl) ?_
 try simp only [Zc]
 try simp only [Zj]
 try simp only [Zd]
 try simp only [Zk]
 try simp only [Zl]
 try simp only [Zb]
 try simp only [Int.toNat_natCast,Nat.zero_add,true_and,and_true,Nat.le_refl]
 exact Yn fun i hi=>absurd hi (Nat.not_lt_zero i)
theorem ZaA (n:Nat) (g:Nat→ZM) (hn:n<1000):ZD PP 92 [.vrows 132 n (Zi g) n] (.nslice ⟨0,0,132,0,0⟩ 132 n n) 1 [(0,.rows 132 n (Zi g))]:=by
 match n,hn with
 | 0,_=>exact ZD.vrows0 (.evM Zu (Zgc g)) (.evM Zu (Zgd g))
 | m+1,h=>exact .evM Zu (Zgb m g (by omega))
def Zel:ZQ:=fun args h K=>ZL none h true 20 args fun a=>match a with
 | [v]=>∃N g,Z0j v N g∧N<1000∧K (.ret (.nslice ⟨h.next,0,132,0,0⟩ 132 N N)) ⟨h.next+1,(h.next,.rows 132 N (Zi g))::h.bs⟩
 | _=>False
theorem Zcx (args:List AV) (h:Z7) (K:KO) (hl:Zel args h K):Zg PP 92 args h K:=by
 refine ZD.fsumm (d:=20) (Zn _ _ _ _ _ hl fun a ha=> ?_)
 split at ha
 ·obtain ⟨N,g,h1,h2,hK⟩:=ha
  exact ⟨_,_,_,_,(ZaA N g h2).conv fun E r hr=>hr.head (fun _ hc=>h1.rel hc) (fun _ hc=>hc),rfl,⟨by decide,.rows _ _ _ (fun i _=>(g i).plainC),trivial⟩,hK⟩
 ·exact ha.elim
end Go.Tk
end
section
namespace Go.Tk
open IntKind (i64 u8 u32 u64 wrap)
def Z6p (tl th ta:List Int) (x:InS):InS:=if x.way=1 then ⟨x.name,x.index,x.way,tl,th,x.secret⟩ else if x.way=4 then x else ⟨x.name,x.index,x.way,ta,x.also,x.secret⟩
def Zhr (t:TxS) (a b:List Int) (G:Nat→InS):Z7:=⟨7,[(0,.flat [.int .i64 t.num,.nslice ⟨5,0,130,0,0⟩ 130 t.N t.N,.nslice ⟨6,0,132,0,0⟩ 132 t.M t.M]),(1,.flat [.arr .u8 32 a]),(2,.flat [.arr .u8 32 b]),(3,.flat t.c),(4,.flat txZ),(5,.rows 130 t.N (Zf G)),(6,.rows 132 t.M (Zi t.outs))]⟩
def Zhs:ZP:=[(10,.ptr (some ⟨0,0,0,0,0⟩)),(4,.ptr (some ⟨1,0,0,0,0⟩)),(5,.ptr (some ⟨2,0,0,0,0⟩)),(9,.func (.func 90) [] [.ptr (some ⟨3,0,0,0,0⟩)]),(6,.ptr (some ⟨4,0,0,0,0⟩))]
def Zcy (t:TxS) (a b:List Int) (G:Nat→InS) (i:Nat):St:=⟨75,(34,.int .i64 i)::(33,.int .i64 t.N)::Zhs,Zhr t a b G,[]⟩
def Z8w (t:TxS) (G:Nat→InS):St:=⟨75,[(10,.ptr (some ⟨0,0,0,0,0⟩)),(6,.ptr (some ⟨1,0,0,0,0⟩))],⟨4,[(0,.flat [.int .i64 t.num,.nslice ⟨2,0,130,0,0⟩ 130 t.N t.N,.nslice ⟨3,0,132,0,0⟩ 132 t.M t.M]),(1,.flat txZ),(2,.rows 130 t.N (Zf G)),(3,.rows 132 t.M (Zi t.outs))]⟩,[]⟩
def Z6q (A:List Int→Int×Int) (Tg:List Int→TxS→List Int):ZZ:=fun args h K=>ZL none h true 20 args fun a=>match a with
 | [.agg l,.agg [.arr .u8 32 key]]=>∃t,Z3Q l t∧(t.Ok∧key.length=32∧Yt A t=true)∧K (.tuple [.agg [.arr .u8 32 (Tg key t)],.int .i64 0])
 | _=>False
theorem Z37 (args:List AV) (h:Z7) (K:AV→Prop) (hl:Z6q ZS Y0 args h K):Zg PP 83 args h fun o h'=>∃v,o=.ret v∧h'=h∧K v:=by
 refine Z8p args h K (Zn _ _ _ _ _ hl fun a ha=> ?_)
 split at ha
 ·obtain ⟨t,h1,⟨h2,h3,h4⟩,hK⟩:=ha
  refine ⟨t,h1,⟨h2,h3⟩, ?_⟩
  rw [h4];exact hK
 ·exact ha.elim
noncomputable def ZaB (A:List Int→Int×Int) (Tg:List Int→TxS→List Int):Ze:=(G0.withP 45 Zej).withP 83 (Z6q A Tg)
theorem Z7i:(ZaB ZS Y0).Ok:=Ze.withP_ok (Ze.withP_ok Zu Zct) Z37
theorem Zge (A:List Int→Int×Int) (Tg:List Int→TxS→List Int) (t:TxS) (a b tl th ta:List Int) (G G1:Nat→InS) (i:Nat) (Z1 Z2:Prop) (ht:t.Ok) (hN:t.N≤24) (hc:Yt A t=true) (ha:a.length=32) (hb:b.length=32) (htl:tl=Tg (loH a b) t) (hth:th=Tg (hiH a b) t) (hta:ta=Tg a t) (hi:i≤t.N) (hG:∀j,i≤j→G j=t.ins j) (hG1:i<t.N→∀j,j<t.N→G1 j=if j=i then Z6p tl th ta (t.ins i) else G j) (h1:i<t.N→Z1) (h2:i=t.N→Z2):
  Yf (ZaB A Tg) 20 43 0 0 (Zcy t a b G i) (rdM 0 0 9 (Zcy t a b G1 (i+1)) (Z8w t G) (Z8w t G) (Z8w t G) Z1 Z2 False False):=by
 refine @Eq.mpr _ (Z0 (decide ((↑i:Int)<(↑t.N:Int)))
 (Z0 (decide ((0:Int)≤(↑i:Int)∧(↑i:Int)<(↑t.N:Int)))
 (Z0 (decide ((0:Nat)+Int.toNat (↑i:Int)<t.N))
 (Z0 ((G ((0:Nat)+Int.toNat (↑i:Int))).way==(1:Int))
 ((List.length a=(32:Nat)∧List.length b=(32:Nat))∧
 ∃(t_1:TxS),
 (t_1.num=t.num∧((t.N=t.N∧t_1.N=t.N)∧∀(i:Nat),i<t.N→Zf t.ins i=InS.c (t_1.ins i))∧(t.M=t.M∧t_1.M=t.M)∧∀(i:Nat),i<t.M→Zi t.outs i=ZM.c (t_1.outs i))∧
 (TxS.Ok t_1∧List.length (loH a b)=(32:Nat)∧Yt A t_1=true)∧
 hiH a b=hiH a b∧
 ∃(t_2:TxS),
 (t_2.num=t.num∧((t.N=t.N∧t_2.N=t.N)∧∀(i:Nat),i<t.N→Zf t.ins i=InS.c (t_2.ins i))∧(t.M=t.M∧t_2.M=t.M)∧∀(i:Nat),i<t.M→Zi t.outs i=ZM.c (t_2.outs i))∧
 (TxS.Ok t_2∧List.length (hiH a b)=(32:Nat)∧Yt A t_2=true)∧
 Z0 (decide ((0:Nat)+Int.toNat (↑i:Int)<t.N))
 (Z0 (decide ((0:Nat)+Int.toNat (↑i:Int)<t.N))
 (Z0 (decide (wrap i64 ((↑i:Int)+(1:Int))=(↑(i+(1:Nat)):Int)))
 (Z0 (decide ((↑t.N:Int)=(↑t.N:Int)))
 (Z0 (decide (t.num=t.num))
 (Z0 (decide (t.N=t.N))
 (Z0 (decide (t.N≤t.N))
 (Z0 (decide (t.M=t.M))
 (Z0 (decide (t.M≤t.M))
 (a=a∧
 b=b∧
 Z0 (decide (t.num=t.num))
 (Z0 (decide (t.N=t.N))
 (Zf t.ins=Zf t.ins∧
 Z0 (decide (t.N=t.N))
 (Z0 (decide (t.M=t.M))
 (Zi t.outs=Zi t.outs∧
 Z0 (decide (t.M=t.M))
 (Z0 (decide (t.N=t.N))
 (Zz (0:Nat) [((6:Nat),(6:Nat)),((5:Nat),(5:Nat)),((4:Nat),(4:Nat)),((3:Nat),(3:Nat)),((2:Nat),(2:Nat)),((1:Nat),(1:Nat)),((0:Nat),(0:Nat))] t.N (Zf G1)
 (Uy (Uy (Zf G) ((0:Nat)+Int.toNat (↑i:Int)) [AV.arr u8 (32:Nat) (G ((0:Nat)+Int.toNat (↑i:Int))).name,AV.int i64 (G ((0:Nat)+Int.toNat (↑i:Int))).index,AV.int i64 (G ((0:Nat)+Int.toNat (↑i:Int))).way,AV.arr u8 (32:Nat) (Tg (loH a b) t_1),AV.arr u8 (32:Nat) (G ((0:Nat)+Int.toNat (↑i:Int))).also,AV.arr u8 (32:Nat) (G ((0:Nat)+Int.toNat (↑i:Int))).secret]) ((0:Nat)+Int.toNat (↑i:Int))
 [AV.arr u8 (32:Nat)
 (match Nat.beq ((0:Nat)+Int.toNat (↑i:Int)) ((0:Nat)+Int.toNat (↑i:Int)) with
 | true=>(G ((0:Nat)+Int.toNat (↑i:Int))).name
 | false=>(G ((0:Nat)+Int.toNat (↑i:Int))).name),
 AV.int i64
 (match Nat.beq ((0:Nat)+Int.toNat (↑i:Int)) ((0:Nat)+Int.toNat (↑i:Int)) with
 | true=>(G ((0:Nat)+Int.toNat (↑i:Int))).index
 | false=>(G ((0:Nat)+Int.toNat (↑i:Int))).index),
 AV.int i64
 (match Nat.beq ((0:Nat)+Int.toNat (↑i:Int)) ((0:Nat)+Int.toNat (↑i:Int)) with
 | true=>(G ((0:Nat)+Int.toNat (↑i:Int))).way
 | false=>(G ((0:Nat)+Int.toNat (↑i:Int))).way),
 AV.arr u8 (32:Nat)
 (match Nat.beq ((0:Nat)+Int.toNat (↑i:Int)) ((0:Nat)+Int.toNat (↑i:Int)) with
 | true=>Tg (loH a b) t_1
 | false=>(G ((0:Nat)+Int.toNat (↑i:Int))).tag),
 AV.arr u8 (32:Nat) (Tg (hiH a b) t_2),
 AV.arr u8 (32:Nat)
 (match Nat.beq ((0:Nat)+Int.toNat (↑i:Int)) ((0:Nat)+Int.toNat (↑i:Int)) with
 | true=>(G ((0:Nat)+Int.toNat (↑i:Int))).secret
 | false=>(G ((0:Nat)+Int.toNat (↑i:Int))).secret)])∧
 Z0 (decide (t.M=t.M)) (Zz (0:Nat) [((6:Nat),(6:Nat)),((5:Nat),(5:Nat)),((4:Nat),(4:Nat)),((3:Nat),(3:Nat)),((2:Nat),(2:Nat)),((1:Nat),(1:Nat)),((0:Nat),(0:Nat))] t.M (Zi t.outs) (Zi t.outs)∧Z1) False)
 False)
 False)
 False)
 False)
 False)
 False)
 False)
 False)
 False)
 False)
 False)
 False)
 False)
 False)
 False)
 (Z0 ((G ((0:Nat)+Int.toNat (↑i:Int))).way==(4:Int))
 (Z0 (decide (wrap i64 ((↑i:Int)+(1:Int))=(↑(i+(1:Nat)):Int)))
 (Z0 (decide ((↑t.N:Int)=(↑t.N:Int))) (Z0 (decide (t.num=t.num)) (Z0 (decide (t.N=t.N)) (Z0 (decide (t.N≤t.N)) (Z0 (decide (t.M=t.M)) (Z0 (decide (t.M≤t.M)) (a=a∧b=b∧Z0 (decide (t.num=t.num)) (Z0 (decide (t.N=t.N)) (Zf t.ins=Zf t.ins∧Z0 (decide (t.N=t.N)) (Z0 (decide (t.M=t.M)) (Zi t.outs=Zi t.outs∧Z0 (decide (t.M=t.M)) (Z0 (decide (t.N=t.N)) (Zz (0:Nat) [((6:Nat),(6:Nat)),((5:Nat),(5:Nat)),((4:Nat),(4:Nat)),((3:Nat),(3:Nat)),((2:Nat),(2:Nat)),((1:Nat),(1:Nat)),((0:Nat),(0:Nat))] t.N (Zf G1) (Zf G)∧Z0 (decide (t.M=t.M)) (Zz (0:Nat) [((6:Nat),(6:Nat)),((5:Nat),(5:Nat)),((4:Nat),(4:Nat)),((3:Nat),(3:Nat)),((2:Nat),(2:Nat)),((1:Nat),(1:Nat)),((0:Nat),(0:Nat))] t.M (Zi t.outs) (Zi t.outs)∧Z1) False) False) False) False) False) False) False) False) False) False) False) False) False) False)
 (∃(t_1:TxS),
 (t_1.num=t.num∧((t.N=t.N∧t_1.N=t.N)∧∀(i:Nat),i<t.N→Zf t.ins i=InS.c (t_1.ins i))∧(t.M=t.M∧t_1.M=t.M)∧∀(i:Nat),i<t.M→Zi t.outs i=ZM.c (t_1.outs i))∧
 (TxS.Ok t_1∧List.length a=(32:Nat)∧Yt A t_1=true)∧
 Z0 (decide ((0:Nat)+Int.toNat (↑i:Int)<t.N))
 (Z0 (decide (wrap i64 ((↑i:Int)+(1:Int))=(↑(i+(1:Nat)):Int)))
 (Z0 (decide ((↑t.N:Int)=(↑t.N:Int)))
 (Z0 (decide (t.num=t.num))
 (Z0 (decide (t.N=t.N))
 (Z0 (decide (t.N≤t.N))
 (Z0 (decide (t.M=t.M))
 (Z0 (decide (t.M≤t.M))
 (a=a∧
 b=b∧
 Z0 (decide (t.num=t.num))
 (Z0 (decide (t.N=t.N))
 (Zf t.ins=Zf t.ins∧
 Z0 (decide (t.N=t.N))
 (Z0 (decide (t.M=t.M))
 (Zi t.outs=Zi t.outs∧
 Z0 (decide (t.M=t.M)) (Z0 (decide (t.N=t.N)) (Zz (0:Nat) [((6:Nat),(6:Nat)),((5:Nat),(5:Nat)),((4:Nat),(4:Nat)),((3:Nat),(3:Nat)),((2:Nat),(2:Nat)),((1:Nat),(1:Nat)),((0:Nat),(0:Nat))] t.N (Zf G1) (Uy (Zf G) ((0:Nat)+Int.toNat (↑i:Int)) [AV.arr u8 (32:Nat) (G ((0:Nat)+Int.toNat (↑i:Int))).name,AV.int i64 (G ((0:Nat)+Int.toNat (↑i:Int))).index,AV.int i64 (G ((0:Nat)+Int.toNat (↑i:Int))).way,AV.arr u8 (32:Nat) (Tg a t_1),AV.arr u8 (32:Nat) (G ((0:Nat)+Int.toNat (↑i:Int))).also,AV.arr u8 (32:Nat) (G ((0:Nat)+Int.toNat (↑i:Int))).secret])∧Z0 (decide (t.M=t.M)) (Zz (0:Nat) [((6:Nat),(6:Nat)),((5:Nat),(5:Nat)),((4:Nat),(4:Nat)),((3:Nat),(3:Nat)),((2:Nat),(2:Nat)),((1:Nat),(1:Nat)),((0:Nat),(0:Nat))] t.M (Zi t.outs) (Zi t.outs)∧Z1) False) False) False)
 False)
 False)
 False)
 False)
 False)
 False)
 False)
 False)
 False)
 False)
 False)
 False)))
 False)
 False)
 (Z0 (decide (t.num=t.num)) (Z0 (decide (t.N=t.N)) (Z0 (decide (t.N≤t.N)) (Z0 (decide (t.M=t.M)) (Z0 (decide (t.M≤t.M)) (Z0 (decide (t.N=t.N)) (Zz (0:Nat) [((3:Nat),(6:Nat)),((2:Nat),(5:Nat)),((1:Nat),(4:Nat)),((0:Nat),(0:Nat))] t.N (Zf G) (Zf G)∧Z0 (decide (t.M=t.M)) (Zz (0:Nat) [((3:Nat),(6:Nat)),((2:Nat),(5:Nat)),((1:Nat),(4:Nat)),((0:Nat),(0:Nat))] t.M (Zi t.outs) (Zi t.outs)∧Z2) False) False) False) False) False) False) False)) (by kernel_rfl) ?_
 try simp only [Zc]
 try simp only [Zj]
 try simp only [Zd]
 try simp only [Zk]
 try simp only [Zl]
 try simp only [Zb]
 try simp only [Int.toNat_natCast,Nat.zero_add,true_and,and_true,Nat.le_refl]
 refine ⟨fun hlt'=> ?_,fun hge=>⟨Ys fun _ _=>rfl,Yn fun _ _=>rfl,h2 (by omega)⟩⟩
 have hlt:i<t.N:=by omega
 have hwr:i64.wrap ((i:Int)+1)=((i+1:Nat):Int):=by rw [w64 (by omega)];omega
 have hG1:=hG1 hlt
 have hZ:=h1 hlt
 have hO:∀τ,Zz 0 τ t.M (Zi t.outs) (Zi t.outs):=fun τ=>Yn fun _ _=>rfl
 have e1:=hG i (Nat.le_refl _)
 rw [e1]
 have hU:∀(A1:List AV) j,A1=(Z6p tl th ta (t.ins i)).c→j<t.N→Uy (Zf G) i A1 j=(G1 j).c:=fun A1 j hA hj=>by
  rw [XV,hG1 j hj]
  by_cases e:j=i
  ·subst e;rw [Nat.beq_refl,if_pos rfl];exact hA
  ·rw [Zw e,if_neg e];rfl
 have hU2:∀(A1 B1:List AV) j,B1=(Z6p tl th ta (t.ins i)).c→j<t.N→Uy (Uy (Zf G) i A1) i B1 j=(G1 j).c:=fun A1 B1 j hB hj=>by
  rw [XV,XV,hG1 j hj]
  by_cases e:j=i
  ·subst e;rw [Nat.beq_refl,if_pos rfl];exact hB
  ·rw [Zw e,if_neg e];rfl
 refine ⟨by omega,hlt,fun k1=>⟨⟨ha,hb⟩,t,⟨rfl,⟨rfl,fun _ _=>rfl⟩,rfl,fun _ _=>rfl⟩,⟨ht,Zcu ha hb,hc⟩,t,⟨rfl,⟨rfl,fun _ _=>rfl⟩,rfl,fun _ _=>rfl⟩,⟨ht,Zcv ha hb,hc⟩,hlt,hlt,hwr,Ys fun j hj=>hU2 _ _ j ?_ hj,hO _,hZ⟩,fun k1=>⟨fun k2=>⟨hwr,Ys fun j hj=> ?_,hO _,hZ⟩,fun k2=>⟨t,⟨rfl,⟨rfl,fun _ _=>rfl⟩,rfl,fun _ _=>rfl⟩,⟨ht,ha,hc⟩,hlt,hwr,Ys fun j hj=>hU _ j ?_ hj,hO _,hZ⟩⟩⟩
 ·have k1:(t.ins i).way=1:=by simpa using k1
  unfold Z6p
  rw [if_pos k1,←htl,←hth]
  simp only [Nat.beq_refl]
  rfl
 ·have k1:¬(t.ins i).way=1:=by simpa using k1
  have k2:(t.ins i).way=4:=by simpa using k2
  rw [hG1 j hj]
  split
  ·rename_i e
   subst e
   unfold Z6p
   rw [if_neg k1,if_pos k2,←e1];rfl
  ·rfl
 ·have k1:¬(t.ins i).way=1:=by simpa using k1
  have k2:¬(t.ins i).way=4:=by simpa using k2
  unfold Z6p
  rw [if_neg k1,if_neg k2,←hta]
  rfl
def Z57 (Tg:List Int→TxS→List Int) (t:TxS) (a b:List Int) (i j:Nat):InS:=if j<i then Z6p (Tg (loH a b) t) (Tg (hiH a b) t) (Tg a t) (t.ins j) else t.ins j
structure Zcz (A:List Int→Int×Int) (Tg:List Int→TxS→List Int) (t:TxS) (a b:List Int) (G:Nat→Nat→InS):Prop where
 ht:t.Ok
 hN:t.N≤24
 hc:Yt A t=true
 ha:a.length=32
 hb:b.length=32
 hG:G=Z57 Tg t a b
noncomputable def ZaC (A:List Int→Int×Int) (Tg:List Int→TxS→List Int) (t:TxS) (a b:List Int) (G:Nat→Nat→InS):Ze:=((((ZaB A Tg).withP 89 (ckS A)).withF 91 Zek).withF 92 Zel).withL 43 0 (goM 0 (Zcy t a b t.ins 0) (Zcz A Tg t a b G) (WX 0 t.N 9 (fun i=>i<t.N) (fun i=>i=t.N) (fun _=>False) (fun _=>False) (fun i=>Z8w t (G i)) (fun i=>Z8w t (G i)) (fun i=>Z8w t (G i))))
theorem Z58 (t:TxS) (a b:List Int) (G:Nat→Nat→InS):(ZaC ZS Y0 t a b G).Ok:=by
 have h0:((((ZaB ZS Y0).withP 89 (ckS ZS)).withF 91 Zek).withF 92 Zel).Ok:=Ze.withF_ok (Ze.withF_ok (Ze.withP_ok Z7i Za5) Zcw) Zcx
 refine Ze.withL_join (H:=ZaB ZS Y0) h0 rfl ?_
 exact Ze.withGoM (N:=20) (S:=fun i=>Zcy t a b (Z57 Y0 t a b i) i) Z7i (by kernel_rfl) fun hC=>by
  obtain ⟨c1,c2,c3,c4,c5,c6⟩:=hC
  subst c6
  refine ⟨?_,fun i hi _=>Zge ZS Y0 t a b _ _ _ _ _ i _ _ c1 c2 c3 c4 c5 rfl rfl rfl hi (fun j hj=>if_neg (by omega)) (fun hlt j hj=> ?_) (fun h=>⟨h,h⟩) (fun h=>h)⟩
  ·have e:Z57 Y0 t a b 0=t.ins:=funext fun j=>if_neg (Nat.not_lt_zero j)
   rw [e]
  ·unfold Z57
   by_cases e:j=i
   ·subst e;rw [if_pos (Nat.lt_succ_self _),if_pos rfl]
   ·rw [if_neg e]
    by_cases h:j<i
    ·rw [if_pos h,if_pos (by omega)]
    ·rw [if_neg h,if_neg (by omega)]
theorem Zgf (A:List Int→Int×Int) (Tg:List Int→TxS→List Int) (t:TxS) (a b:List Int) (G:Nat→Nat→InS) (ht:t.Ok) (hb:Yt A t=false):
  evF (ZaC A Tg t a b G) 20 43 [.agg t.c,.agg [.arr .u8 32 a],.agg [.arr .u8 32 b]] ⟨0,[]⟩ (Y2 0 (.ret (.tuple [.agg txZ,.int .i64 2])) 0 []):=by
 refine @Eq.mpr _ (let q1:=t.num;
 let q2:=t.N;
 let q3:=t.M;
 let q4:=decide (q3=q3);
 let q5:=Zi t.outs;
 let q6:=q5=q5;
 let q7:=decide (q1=q1);
 let q8:=decide (q2=q2);
 let q9:=Zf t.ins;
 let q10:=[(6,5),(5,4),(4,3),(3,0),(2,2),(1,1),(0,6)];
 ∃(t_1:TxS),
 (t_1.num=q1∧((q2=q2∧t_1.N=q2)∧∀(i:Nat),i<q2→q9 i=InS.c (t_1.ins i))∧(q3=q3∧t_1.M=q3)∧∀(i:Nat),i<q3→q5 i=ZM.c (t_1.outs i))∧
 TxS.Ok t_1∧
 Z0 (Yt A t_1)
 (∃(N:Nat),
 let q21:=decide (N=q2);
 ∃(g:Nat→InS),
 ((q2=q2∧N=q2)∧∀(i:Nat),i<q2→q9 i=InS.c (g i))∧
 N<1000∧
 Z0 q4
 (q6∧
 Z0 q4
 (Z0 q7
 (∃(N_1:Nat),
 let q23:=decide (N_1=q3);
 ∃(g_1:Nat→ZM),((q3=q3∧N_1=q3)∧∀(i:Nat),i<q3→q5 i=ZM.c (g_1 i))∧N_1<1000∧Z0 q7 (Z0 (decide ((↑N:Int)=(↑q2:Int))) (Z0 q7 (Z0 q21 (Z0 (decide (q2≤N)) (Z0 q23 (Z0 (decide (q3≤N_1)) (a=a∧b=b∧Z0 q7 (Z0 q8 (q9=q9∧Z0 q8 (Z0 q4 (q6∧Z0 q4 (Z0 q21 (Zz 0 q10 q2 q9 (Zf g)∧Z0 q23 (Zz 0 q10 q3 q5 (Zi g_1)∧Zcz A Tg t a b G∧∀(i:Nat),i≤q2→(∀(j:Nat),j<i→(fun (i:Nat)=>i<q2) j)→(i=q2→Z0 (decide (q1=0)) False False)∧(False→False)∧(False→False)) False) False) False) False) False) False) False) False) False) False) False) False) False) False)
 False)
 False)
 False)
 True) (by kernel_rfl) ?_
 conv=>zeta
 try simp only [Zc]
 try simp only [Zj]
 try simp only [Zd]
 try simp only [Zk]
 try simp only [Zl]
 try simp only [Zb]
 try simp only [Int.toNat_natCast,Nat.zero_add,true_and,and_true,Nat.le_refl]
 exact ⟨t,⟨rfl,⟨rfl,fun _ _=>rfl⟩,rfl,fun _ _=>rfl⟩,ht,fun k=>(by rw [hb] at k;cases k),fun _=>trivial⟩
theorem Zgg (A:List Int→Int×Int) (Tg:List Int→TxS→List Int) (t:TxS) (a b:List Int) (G:Nat→Nat→InS) (g:Nat→InS) (hC:Zcz A Tg t a b G) (hM:t.M≤24) (hg:g=G t.N):
  evF (ZaC A Tg t a b G) 20 43 [.agg t.c,.agg [.arr .u8 32 a],.agg [.arr .u8 32 b]] ⟨0,[]⟩ (Y2 0 (.ret (.tuple [.agg [.int .i64 t.num,.nslice ⟨0,0,130,0,0⟩ 130 t.N t.N,.nslice ⟨1,0,132,0,0⟩ 132 t.M t.M],.int .i64 0])) 2 [(0,.rows 130 t.N (Zf g)),(1,.rows 132 t.M (Zi t.outs))]):=by
 refine @Eq.mpr _ (let q1:=t.num;
 let q2:=t.N;
 let q3:=t.M;
 let q4:=decide (q3=q3);
 let q5:=Zi t.outs;
 let q6:=q5=q5;
 let q7:=decide (q1=q1);
 let q8:=decide (q2=q2);
 let q9:=Zf t.ins;
 let q10:=[(6,5),(5,4),(4,3),(3,0),(2,2),(1,1),(0,6)];
 let q11:=[(1,3),(0,2)];
 let q12:=decide (q2=0);
 let q13:=decide (q3=0);
 ∃(t_1:TxS),
 (t_1.num=q1∧((q2=q2∧t_1.N=q2)∧∀(i:Nat),i<q2→q9 i=InS.c (t_1.ins i))∧(q3=q3∧t_1.M=q3)∧∀(i:Nat),i<q3→q5 i=ZM.c (t_1.outs i))∧
 TxS.Ok t_1∧
 Z0 (Yt A t_1)
 (∃(N:Nat),
 let q27:=decide (N=q2);
 ∃(g_1:Nat→InS),
 ((q2=q2∧N=q2)∧∀(i:Nat),i<q2→q9 i=InS.c (g_1 i))∧
 N<1000∧
 Z0 q4
 (q6∧
 Z0 q4
 (Z0 q7
 (∃(N_1:Nat),
 let q29:=decide (N_1=q3);
 ∃(g_2:Nat→ZM),((q3=q3∧N_1=q3)∧∀(i:Nat),i<q3→q5 i=ZM.c (g_2 i))∧N_1<1000∧Z0 q7 (Z0 (decide ((↑N:Int)=(↑q2:Int))) (Z0 q7 (Z0 q27 (Z0 (decide (q2≤N)) (Z0 q29 (Z0 (decide (q3≤N_1)) (a=a∧b=b∧Z0 q7 (Z0 q8 (q9=q9∧Z0 q8 (Z0 q4 (q6∧Z0 q4 (Z0 q27 (Zz 0 q10 q2 q9 (Zf g_1)∧Z0 q29 (Zz 0 q10 q3 q5 (Zi g_2)∧Zcz A Tg t a b G∧∀(i:Nat),i≤q2→(∀(j:Nat),j<i→(fun (i:Nat)=>i<q2) j)→(i=q2→Z0 q7 (Z0 q8 (Z0 (decide (q2≤q2)) (Z0 q4 (Z0 (decide (q3≤q3)) (Z0 q8 (Zz 0 q11 q2 (Zf g) (Zf (G i))∧Z0 q4 (Zz 0 q11 q3 q5 q5∧True) False) False) False) False) False) False) False)∧(False→False)∧(False→False)) False) False) False) False) False) False) False) False) False) False) False) False) False) False)
 False)
 False)
 False)
 (Z0 (decide (0=q1)) (Z0 q12 (Z0 q12 (Z0 q13 (Z0 q13 False False) False) False) False) False)) (by kernel_rfl) ?_
 conv=>zeta
 try simp only [Zc]
 try simp only [Zj]
 try simp only [Zd]
 try simp only [Zk]
 try simp only [Zl]
 try simp only [Zb]
 try simp only [Int.toNat_natCast,Nat.zero_add,true_and,and_true,Nat.le_refl]
 have hN:=hC.hN
 refine ⟨t,⟨rfl,⟨rfl,fun _ _=>rfl⟩,rfl,fun _ _=>rfl⟩,hC.ht,fun _=>⟨t.N,t.ins,⟨rfl,fun _ _=>rfl⟩,by omega,t.M,t.outs,⟨rfl,fun _ _=>rfl⟩,by omega,rfl,rfl,Nat.le_refl _,rfl,Nat.le_refl _,rfl,Ys fun _ _=>rfl,rfl,Yn fun _ _=>rfl,hC,fun i hi _=>⟨fun he=>⟨Ys fun _ _=>by rw [he,hg];rfl,Yn fun _ _=>rfl⟩,fun h=>h,fun h=>h⟩⟩,fun k=> ?_⟩
 rw [hC.hc] at k;cases k
def Zdc (A:List Int→Int×Int) (Tg:List Int→TxS→List Int):ZQ:=fun args h K=>ZL none h true 20 args fun a=>match a with
 | [.agg l,.agg [.arr .u8 32 a],.agg [.arr .u8 32 b]]=>∃t,Z3Q l t∧(t.Ok∧a.length=32∧b.length=32)∧(Yt A t=false→K (.ret (.tuple [.agg txZ,.int .i64 2])) h)∧
  (Yt A t=true→K (.ret (.tuple [.agg [.int .i64 t.num,.nslice ⟨h.next,0,130,0,0⟩ 130 t.N t.N,.nslice ⟨h.next+1,0,132,0,0⟩ 132 t.M t.M],.int .i64 0])) ⟨h.next+2,(h.next,.rows 130 t.N (Zf (Z57 Tg t a b t.N)))::(h.next+1,.rows 132 t.M (Zi t.outs))::h.bs⟩)
 | _=>False
theorem ZaD (args:List AV) (h:Z7) (K:KO) (hl:Zdc ZS Y0 args h K):Zg PP 43 args h K:=by
 refine ZD.fsumm (d:=20) (Zn _ _ _ _ _ hl fun a ha=> ?_)
 split at ha
 ·obtain ⟨t,h1,⟨h2,h3,h4⟩,k1,k2⟩:=ha
  cases hc:Yt ZS t with
  | false=>exact ⟨_,_,_,_,(ZD.evM (Z58 t _ _ (fun _=>t.ins)) (Zgf _ _ t _ _ _ h2 hc)).conv (fun E r hr=>hr.head (fun _ hc=>h1.rel hc) (fun _ hc=>hc)),rfl,trivial,k1 hc⟩
  | true=>
   have hf:=V0 h2 hc
   exact ⟨_,_,_,_,(ZD.evM (Z58 t _ _ _) (Zgg _ _ t _ _ _ _ ⟨h2,hf.n,hc,h3,h4,rfl⟩ hf.m rfl)).conv (fun E r hr=>hr.head (fun _ hc=>h1.rel hc) (fun _ hc=>hc)),rfl,⟨by decide,.rows _ _ _ (fun i _=>(Z57 Y0 t _ _ t.N i).plainC),by decide,.rows _ _ _ (fun i _=>(t.outs i).plainC),trivial⟩,k2 hc⟩
 ·exact ha.elim
end Go.Tk
end
section
namespace Go.Tk
open IntKind (i64 u8 u32 u64 wrap)
end Go.Tk
end
section
namespace Go.Tk
open IntKind (i64 u8 u32 u64 wrap)
theorem Spec.evK {G:Ze} (hG:G.Ok) {n:Nat} {f:FuncId} {args:List AV} {h0:Z7} {o:Out} {nx:Nat} {bs:List (Nat×Blk)} {K:KO} (h:evF G n f args h0 K) (hk:∀o' h',K o' h'→Y2 h0.next o nx bs o' h'):Spec G.P f args h0 o nx bs:=by
 intro E w rs he hl
 refine (Yw hG h E w rs he hl).mono ?_
 rintro e w' ⟨E',o',h',hK0,hev,hor⟩
 have hK:=hk _ _ hK0
 unfold Y2 at hK
 cases o with
 | ret v=>
  cases hor with
  | ret u r hr=>
   obtain ⟨E₂,h1,h2⟩:=U7 rfl hK he hev hr
   exact ⟨E₂,h1,.ret _ _ h2⟩
  | panic u r hr=>exact hK.elim
 | panic v=>
  cases hor with
  | panic u r hr=>
   obtain ⟨E₂,h1,h2⟩:=U7 rfl hK he hev hr
   exact ⟨E₂,h1,.panic _ _ h2⟩
  | ret u r hr=>exact hK.elim
end Go.Tk
end
section
namespace Go.Tk
open IntKind (i64 u8 u32 u64 wrap)
def wrH (N:Nat) (xs:List Int):Z7:=⟨2,[(0,.flat [.nslice ⟨1,0,0,0,0⟩ 1 N N,.bool true]),(1,.ints .u8 xs)]⟩
theorem Zht (hh:List Int) (hq:hh.length=32):
  evF G0 20 55 [.ptr (some ⟨0,0,0,0,0⟩),.vrows 32 1 (fun _=>[.arr .u8 32 hh]) 1] ⟨1,[(0,.flat [.nilslice,.bool true])]⟩ (Y2 1 (.ret (.int .i64 0)) 2 [(0,.flat [.nslice ⟨1,0,0,0,0⟩ 1 32 32,.bool true]),(1,.ints .u8 hh)]):=by
 refine @Eq.mpr _ (let q1:=[]++hh;
 let q2:=List.length q1;
 Z0 (decide (u8=u8∧List.length hh=32)) (Z0 (decide (q2*1≤140737488355328)) (Z0 (decide (q2=32)) (Z0 (decide (32≤q2)) (q1=hh∧True) False) False) False) False) (by kernel_rfl) ?_
 conv=>zeta
 try simp only [Zc]
 try simp only [Zj]
 try simp only [Zd]
 try simp only [Zk]
 try simp only [Zl]
 try simp only [Zb]
 try simp only [Int.toNat_natCast,Nat.zero_add,true_and,and_true,Nat.le_refl]
 simp only [List.nil_append]
 repeat' apply And.intro
 all_goals first|trivial|omega|rfl|assumption
theorem Zhu (xs ys:List Int) (N L:Nat) (b:Bool) (hN:xs.length=N) (hB:N<80000000000000) (hy:ys=xs++[cond b 1 0]) (hL:L=ys.length):
  evF G0 20 56 [.ptr (some ⟨0,0,0,0,0⟩),.vrows 1 1 (fun _=>[.bool b]) 1] (wrH N xs) (Y2 2 (.ret (.int .i64 0)) 3 [(0,.flat [.nslice ⟨2,0,0,0,0⟩ 1 L L,.bool true]),(2,.ints .u8 ys)]):=by
 refine @Eq.mpr _ (let q1:=decide (u8=u8∧List.length xs=N);
 let q2:=xs++[(1:Int)];
 let q3:=List.length q2;
 let q4:=xs++[(0:Int)];
 let q5:=List.length q4;
 Z0 b (Z0 q1 (Z0 (decide (q3*1≤140737488355328)) (Z0 (decide (q3=L)) (Z0 (decide (L≤q3)) (q2=ys∧True) False) False) False) False) (Z0 q1 (Z0 (decide (q5*1≤140737488355328)) (Z0 (decide (q5=L)) (Z0 (decide (L≤q5)) (q4=ys∧True) False) False) False) False)) (by kernel_rfl) ?_
 conv=>zeta
 try simp only [Zc]
 try simp only [Zj]
 try simp only [Zd]
 try simp only [Zk]
 try simp only [Zl]
 try simp only [Zb]
 try simp only [Int.toNat_natCast,Nat.zero_add,true_and,and_true,Nat.le_refl]
 subst hN hy hL
 refine ⟨fun h=> ?_,fun h=> ?_⟩
 all_goals subst h
 all_goals repeat' apply And.intro
 all_goals first|omega|rfl|(simp only [List.length_append,List.length_cons,List.length_nil]<;>omega)
def ZaE (h:Z7) (w b:Nat) (ys:List Int):Z7:=⟨h.next+1,(w,.flat [.nslice ⟨h.next,0,0,0,0⟩ 1 ys.length ys.length,.bool true])::(h.next,.ints .u8 ys)::ZX (ZX h.bs w) b⟩
def Zem (W:Int→List Int) (T:Int) (B:Nat):ZQ:=fun args h K=>match args with
 | [.ptr (some ⟨w,0,0,0,0⟩),_]=>match h.get w with
  |some (.flat [.nslice ⟨b,0,0,0,0⟩ 1 _ _,.bool true])=>frA [w,b] h 20 args fun Bs a=>match Bs,a with
   | [.flat [.nslice ⟨1,0,0,0,0⟩ 1 N M,.bool true],.ints .u8 xs],[.ptr (some ⟨0,0,0,0,0⟩),.vints .i64 [x] 1]=>
    Zo (xs.length=N∧M=N∧N<B∧0≤x∧x≤T) (K (.ret (.int .i64 0)) (ZaE h w b (xs++W x)))
   | _,_=>False
  | _=>False
 | _=>False
theorem ZcA (args:List AV) (h:Z7) (K:KO) (hl:Zem ZB 4611686018427387904 80000000000000 args h K):Zg PP 54 args h K:=by
 unfold Zem at hl
 split at hl
 ·split at hl
  ·refine Spec.fsumm hl fun Bs a hlen hK0=> ?_
   split at hK0
   ·obtain ⟨⟨h1,rfl,h2,k0⟩,hK⟩:=Z9 hK0
    exact ⟨_,_,_,_,_,.evM Qr (Zab _ _ _ _ _ _ _ _ rfl h1 (by omega) k0 rfl rfl),by simp,.ret _ _ rfl,.cons _ _ _ _ _ _ rfl (.flat _ _ rfl) (.cons _ _ _ _ _ _ rfl (.ints _ _) .nil),hK⟩
   ·exact hK0.elim
  ·exact hl.elim
 ·exact hl.elim
def Zen (B:Nat):ZQ:=fun args h K=>match args with
 | [.ptr (some ⟨w,0,0,0,0⟩),_]=>match h.get w with
  |some (.flat [.nslice ⟨b,0,0,0,0⟩ 1 _ _,.bool true])=>frA [w,b] h 20 args fun Bs a=>match Bs,a with
   | [.flat [.nslice ⟨1,0,0,0,0⟩ 1 N M,.bool true],.ints .u8 xs],[.ptr (some ⟨0,0,0,0,0⟩),.vrows 32 1 f 1]=>match f 0 with
    | [.arr .u8 32 hh]=>Zo (xs.length=N∧M=N∧N<B∧hh.length=32) (K (.ret (.int .i64 0)) (ZaE h w b (xs++hh)))
    | _=>False
   | _,_=>False
  | some (.flat [.nilslice,.bool true])=>frA [w] h 20 args fun Bs a=>match Bs,a with
   | [.flat [.nilslice,.bool true]],[.ptr (some ⟨0,0,0,0,0⟩),.vrows 32 1 f 1]=>match f 0 with
    | [.arr .u8 32 hh]=>Zo (hh.length=32) (K (.ret (.int .i64 0)) ⟨h.next+1,(w,.flat [.nslice ⟨h.next,0,0,0,0⟩ 1 32 32,.bool true])::(h.next,.ints .u8 hh)::ZX h.bs w⟩)
    | _=>False
   | _,_=>False
  | _=>False
 | _=>False
theorem ZcB (args:List AV) (h:Z7) (K:KO) (hl:Zen 80000000000000 args h K):Zg PP 55 args h K:=by
 unfold Zen at hl
 split at hl
 ·split at hl
  ·refine Spec.fsumm hl fun Bs a hlen hK0=> ?_
   split at hK0
   ·split at hK0
    case h_2=>exact hK0.elim
    rename_i hh hf
    obtain ⟨⟨h1,rfl,h2,h3⟩,hK⟩:=Z9 hK0
    refine ⟨_,_,_,_,_,(Spec.evM Zu (Z7a _ hh _ _ _ _ h1 (by omega) h3 rfl rfl)).conv fun E r hr=>hr.head (fun _ hc=>hc) fun _ hc=>hc.head (fun _ hc=>hc.rowsC ?_) fun _ hc=>hc,by simp,.ret _ _ rfl,.cons _ _ _ _ _ _ rfl (.flat _ _ rfl) (.cons _ _ _ _ _ _ rfl (.ints _ _) .nil),hK⟩
    intro i hi
    have:i=0:=by omega
    subst this
    exact hf
   ·exact hK0.elim
  ·refine Spec.fsumm hl fun Bs a hlen hK0=> ?_
   split at hK0
   ·split at hK0
    case h_2=>exact hK0.elim
    rename_i hh hf
    obtain ⟨h3,hK⟩:=Z9 hK0
    refine ⟨_,_,_,_,_,(Spec.evM Zu (Zht hh h3)).conv fun E r hr=>hr.head (fun _ hc=>hc) fun _ hc=>hc.head (fun _ hc=>hc.rowsC ?_) fun _ hc=>hc,by simp,.ret _ _ rfl,.cons _ _ _ _ _ _ rfl (.flat _ _ rfl) (.cons _ _ _ _ _ _ rfl (.ints _ _) .nil),hK⟩
    intro i hi
    have:i=0:=by omega
    subst this
    exact hf
   ·exact hK0.elim
  ·exact hl.elim
 ·exact hl.elim
def wtG (B:Nat):ZQ:=fun args h K=>match args with
 | [.ptr (some ⟨w,0,0,0,0⟩),_]=>match h.get w with
  |some (.flat [.nslice ⟨b,0,0,0,0⟩ 1 _ _,.bool true])=>frA [w,b] h 20 args fun Bs a=>match Bs,a with
   | [.flat [.nslice ⟨1,0,0,0,0⟩ 1 N M,.bool true],.ints .u8 xs],[.ptr (some ⟨0,0,0,0,0⟩),.vrows 1 1 f 1]=>match f 0 with
    | [.bool t]=>Zo (xs.length=N∧M=N∧N<B) (K (.ret (.int .i64 0)) (ZaE h w b (xs++[cond t 1 0])))
    | _=>False
   | _,_=>False
  | _=>False
 | _=>False
theorem Zeo (args:List AV) (h:Z7) (K:KO) (hl:wtG 80000000000000 args h K):Zg PP 56 args h K:=by
 unfold wtG at hl
 split at hl
 ·split at hl
  ·refine Spec.fsumm hl fun Bs a hlen hK0=> ?_
   split at hK0
   ·split at hK0
    case h_2=>exact hK0.elim
    rename_i t hf
    obtain ⟨⟨h1,rfl,h2⟩,hK⟩:=Z9 hK0
    refine ⟨_,_,_,_,_,(Spec.evM Zu (Zhu _ _ _ _ t h1 h2 rfl rfl)).conv fun E r hr=>hr.head (fun _ hc=>hc) fun _ hc=>hc.head (fun _ hc=>hc.rowsC ?_) fun _ hc=>hc,by simp,.ret _ _ rfl,.cons _ _ _ _ _ _ rfl (.flat _ _ rfl) (.cons _ _ _ _ _ _ rfl (.ints _ _) .nil),hK⟩
    intro i hi
    have:i=0:=by omega
    subst this
    exact hf
   ·exact hK0.elim
  ·exact hl.elim
 ·exact hl.elim
end Go.Tk
end
section
namespace Go.Tk
open IntKind (i64 u8 u32 u64 wrap)
structure ClS where
 t:Zq
 side:Int
 a0:Int
 a1:Int
 least:Int
 most:Int
 offers:Bool
 last:Int
 agrees:Bool
 fee:Int
def ClS.c (k:ClS):List AV:=k.t.c++[.int .i64 k.side,.arr .i64 2 [k.a0,k.a1],.int .i64 k.least,.int .i64 k.most,.bool k.offers,.int .i64 k.last,.bool k.agrees,.int .i64 k.fee]
def nP:AV:=.ptr none
def ptA (x o i:Nat):AV:=.ptr (some ⟨x,0,0,o,i⟩)
def Zgh (x y:Nat):List (List AV):=[[nP,ptA x 0 0,nP],[ptA x 32 0,nP,nP],[ptA x 33 0,nP,nP],[ptA x 34 0,nP,nP],[ptA x 35 0,nP,nP],[ptA x 36 0,nP,nP],[nP,ptA x 37 0,nP],[nP,ptA x 69 0,nP],
 [ptA y 0 0,nP,nP],[ptA x 102 0,nP,nP],[ptA x 102 1,nP,nP],[ptA x 104 0,nP,nP],[ptA x 105 0,nP,nP],[nP,nP,ptA x 106 0],[ptA x 107 0,nP,nP],[nP,nP,ptA x 108 0],[ptA x 109 0,nP,nP]]
def PF (x y i:Nat):List AV:=(Zgh x y).getD i []
def clH (k:ClS) (s:Int):List (Nat×Blk):=[(0,.flat (k.c++[.bool true])),(1,.flat [.int .i64 s])]
theorem Zhv (k:ClS) (s:Int) :
  evF G0 20 53 [.ptr (some ⟨0,0,0,0,0⟩),.ptr (some ⟨1,0,0,0,0⟩)] ⟨2,clH k s⟩ (Y2 2 (.ret (.func (.func 115) [] [.ptr (some ⟨2,0,0,0,0⟩)])) 4 (clH k s++[(2,.flat [.nslice ⟨3,0,3,0,0⟩ 3 17 17]),(3,.rows 3 17 (PF 0 1))])):=by
 refine @Eq.mpr _ ((k.t.fund=k.t.fund∧
 Z0 (decide (k.t.index=k.t.index))
 (Z0 (decide (k.t.cap=k.t.cap))
 (Z0 (decide (k.t.dust=k.t.dust))
 (Z0 (decide (k.t.fee=k.t.fee))
 (Z0 (decide (k.t.delay=k.t.delay))
 (k.t.k0=k.t.k0∧
 k.t.k1=k.t.k1∧
 Z0 (decide (k.side=k.side))
 ([k.a0,k.a1]=[k.a0,k.a1]∧
 Z0 (decide (k.least=k.least))
 (Z0 (decide (k.most=k.most))
 (Z0 (decide (k.offers=k.offers))
 (Z0 (decide (k.last=k.last))
 (Z0 (decide (k.agrees=k.agrees))
 (Z0 (decide (k.fee=k.fee))
 (Z0 (decide (s=s))
 (Zz 2 [(3,31),(2,15)] 17 (PF 0 1)
 (ZE 13
 (ZE 8 (ZE 6 (ZE 1 (ZO [AV.ptr none,AV.ptr (some (Zs.mk 0 0 0 0 0)),AV.ptr none] 0 3) (Yp 0 (ZE 4 (ZE 3 (ZE 2 (ZE 1 (ZE 0 (fun (x:Nat)=>[]) (ZO [AV.ptr (some (Zs.mk 0 0 0 32 0)),AV.ptr none,AV.ptr none] 0 3)) (ZO [AV.ptr (some (Zs.mk 0 0 0 33 0)),AV.ptr none,AV.ptr none] 0 3)) (ZO [AV.ptr (some (Zs.mk 0 0 0 34 0)),AV.ptr none,AV.ptr none] 0 3)) (ZO [AV.ptr (some (Zs.mk 0 0 0 35 0)),AV.ptr none,AV.ptr none] 0 3)) (ZO [AV.ptr (some (Zs.mk 0 0 0 36 0)),AV.ptr none,AV.ptr none] 0 3)))) (ZO [AV.ptr none,AV.ptr (some (Zs.mk 0 0 0 37 0)),AV.ptr none,AV.ptr none,AV.ptr (some (Zs.mk 0 0 0 69 0)),AV.ptr none] 0 3))
 (Yp 0 (ZE 4 (ZE 3 (ZE 2 (ZE 1 (ZE 0 (fun (x:Nat)=>[]) (ZO [AV.ptr (some (Zs.mk 1 0 0 0 0)),AV.ptr none,AV.ptr none] 0 3)) (ZO [AV.ptr (some (Zs.mk 0 0 0 102 0)),AV.ptr none,AV.ptr none] 0 3)) (ZO [AV.ptr (some (Zs.mk 0 0 0 102 1)),AV.ptr none,AV.ptr none] 0 3)) (ZO [AV.ptr (some (Zs.mk 0 0 0 104 0)),AV.ptr none,AV.ptr none] 0 3)) (ZO [AV.ptr (some (Zs.mk 0 0 0 105 0)),AV.ptr none,AV.ptr none] 0 3))))
 (ZO [AV.ptr none,AV.ptr none,AV.ptr (some (Zs.mk 0 0 0 106 0)),AV.ptr (some (Zs.mk 0 0 0 107 0)),AV.ptr none,AV.ptr none,AV.ptr none,AV.ptr none,AV.ptr (some (Zs.mk 0 0 0 108 0)),AV.ptr (some (Zs.mk 0 0 0 109 0)),AV.ptr none,AV.ptr none] 0 3))∧
 True)
 False)
 False)
 False)
 False)
 False)
 False)
 False)
 False)
 False)
 False)
 False)
 False)
 False)∧
 (k.t.fund=k.t.fund∧
 Z0 (decide (k.t.index=k.t.index))
 (Z0 (decide (k.t.cap=k.t.cap))
 (Z0 (decide (k.t.dust=k.t.dust))
 (Z0 (decide (k.t.fee=k.t.fee))
 (Z0 (decide (k.t.delay=k.t.delay))
 (k.t.k0=k.t.k0∧
 k.t.k1=k.t.k1∧
 Z0 (decide (k.side=k.side))
 ([k.a0,k.a1]=[k.a0,k.a1]∧
 Z0 (decide (k.least=k.least))
 (Z0 (decide (k.most=k.most))
 (Z0 (decide (k.offers=k.offers))
 (Z0 (decide (k.last=k.last))
 (Z0 (decide (k.agrees=k.agrees))
 (Z0 (decide (k.fee=k.fee))
 (Z0 (decide (s=s))
 (Zz 2 [(3,31),(2,15)] 17 (PF 0 1)
 (ZE 13
 (ZE 8 (ZE 6 (ZE 1 (ZO [AV.ptr none,AV.ptr (some (Zs.mk 0 0 0 0 0)),AV.ptr none] 0 3) (Yp 0 (ZE 4 (ZE 3 (ZE 2 (ZE 1 (ZE 0 (fun (x:Nat)=>[]) (ZO [AV.ptr (some (Zs.mk 0 0 0 32 0)),AV.ptr none,AV.ptr none] 0 3)) (ZO [AV.ptr (some (Zs.mk 0 0 0 33 0)),AV.ptr none,AV.ptr none] 0 3)) (ZO [AV.ptr (some (Zs.mk 0 0 0 34 0)),AV.ptr none,AV.ptr none] 0 3)) (ZO [AV.ptr (some (Zs.mk 0 0 0 35 0)),AV.ptr none,AV.ptr none] 0 3)) (ZO [AV.ptr (some (Zs.mk 0 0 0 36 0)),AV.ptr none,AV.ptr none] 0 3)))) (ZO [AV.ptr none,AV.ptr (some (Zs.mk 0 0 0 37 0)),AV.ptr none,AV.ptr none,AV.ptr (some (Zs.mk 0 0 0 69 0)),AV.ptr none] 0 3))
 (Yp 0 (ZE 4 (ZE 3 (ZE 2 (ZE 1 (ZE 0 (fun (x:Nat)=>[]) (ZO [AV.ptr (some (Zs.mk 1 0 0 0 0)),AV.ptr none,AV.ptr none] 0 3)) (ZO [AV.ptr (some (Zs.mk 0 0 0 102 0)),AV.ptr none,AV.ptr none] 0 3)) (ZO [AV.ptr (some (Zs.mk 0 0 0 102 1)),AV.ptr none,AV.ptr none] 0 3)) (ZO [AV.ptr (some (Zs.mk 0 0 0 104 0)),AV.ptr none,AV.ptr none] 0 3)) (ZO [AV.ptr (some (Zs.mk 0 0 0 105 0)),AV.ptr none,AV.ptr none] 0 3))))
 (ZO [AV.ptr none,AV.ptr none,AV.ptr (some (Zs.mk 0 0 0 106 0)),AV.ptr (some (Zs.mk 0 0 0 107 0)),AV.ptr none,AV.ptr none,AV.ptr none,AV.ptr none,AV.ptr (some (Zs.mk 0 0 0 108 0)),AV.ptr (some (Zs.mk 0 0 0 109 0)),AV.ptr none,AV.ptr none] 0 3))∧
 True)
 False)
 False)
 False)
 False)
 False)
 False)
 False)
 False)
 False)
 False)
 False)
 False)
 False)∧
 k.t.fund=k.t.fund∧
 Z0 (decide (k.t.index=k.t.index))
 (Z0 (decide (k.t.cap=k.t.cap))
 (Z0 (decide (k.t.dust=k.t.dust))
 (Z0 (decide (k.t.fee=k.t.fee))
 (Z0 (decide (k.t.delay=k.t.delay))
 (k.t.k0=k.t.k0∧
 k.t.k1=k.t.k1∧
 Z0 (decide (k.side=k.side))
 ([k.a0,k.a1]=[k.a0,k.a1]∧
 Z0 (decide (k.least=k.least))
 (Z0 (decide (k.most=k.most))
 (Z0 (decide (k.offers=k.offers))
 (Z0 (decide (k.last=k.last))
 (Z0 (decide (k.agrees=k.agrees))
 (Z0 (decide (k.fee=k.fee))
 (Z0 (decide (s=s))
 (Zz 2 [(3,31),(2,15)] 17 (PF 0 1)
 (ZE 13
 (ZE 8 (ZE 6 (ZE 1 (ZO [AV.ptr none,AV.ptr (some (Zs.mk 0 0 0 0 0)),AV.ptr none] 0 3) (Yp 0 (ZE 4 (ZE 3 (ZE 2 (ZE 1 (ZE 0 (fun (x:Nat)=>[]) (ZO [AV.ptr (some (Zs.mk 0 0 0 32 0)),AV.ptr none,AV.ptr none] 0 3)) (ZO [AV.ptr (some (Zs.mk 0 0 0 33 0)),AV.ptr none,AV.ptr none] 0 3)) (ZO [AV.ptr (some (Zs.mk 0 0 0 34 0)),AV.ptr none,AV.ptr none] 0 3)) (ZO [AV.ptr (some (Zs.mk 0 0 0 35 0)),AV.ptr none,AV.ptr none] 0 3)) (ZO [AV.ptr (some (Zs.mk 0 0 0 36 0)),AV.ptr none,AV.ptr none] 0 3)))) (ZO [AV.ptr none,AV.ptr (some (Zs.mk 0 0 0 37 0)),AV.ptr none,AV.ptr none,AV.ptr (some (Zs.mk 0 0 0 69 0)),AV.ptr none] 0 3))
 (Yp 0 (ZE 4 (ZE 3 (ZE 2 (ZE 1 (ZE 0 (fun (x:Nat)=>[]) (ZO [AV.ptr (some (Zs.mk 1 0 0 0 0)),AV.ptr none,AV.ptr none] 0 3)) (ZO [AV.ptr (some (Zs.mk 0 0 0 102 0)),AV.ptr none,AV.ptr none] 0 3)) (ZO [AV.ptr (some (Zs.mk 0 0 0 102 1)),AV.ptr none,AV.ptr none] 0 3)) (ZO [AV.ptr (some (Zs.mk 0 0 0 104 0)),AV.ptr none,AV.ptr none] 0 3)) (ZO [AV.ptr (some (Zs.mk 0 0 0 105 0)),AV.ptr none,AV.ptr none] 0 3))))
 (ZO [AV.ptr none,AV.ptr none,AV.ptr (some (Zs.mk 0 0 0 106 0)),AV.ptr (some (Zs.mk 0 0 0 107 0)),AV.ptr none,AV.ptr none,AV.ptr none,AV.ptr none,AV.ptr (some (Zs.mk 0 0 0 108 0)),AV.ptr (some (Zs.mk 0 0 0 109 0)),AV.ptr none,AV.ptr none] 0 3))∧
 True)
 False)
 False)
 False)
 False)
 False)
 False)
 False)
 False)
 False)
 False)
 False)
 False)
 False) (by kernel_rfl) ?_
 try simp only [Zc]
 try simp only [Zj]
 try simp only [Zd]
 try simp only [Zk]
 try simp only [Zl]
 try simp only [Zb]
 try simp only [Int.toNat_natCast,Nat.zero_add,true_and,and_true,Nat.le_refl]
 repeat' apply And.intro
 all_goals first
  | rfl
  | trivial
  | exact .mk fun i hi=>by
      have h17:i=0∨i=1∨i=2∨i=3∨i=4∨i=5∨i=6∨i=7∨i=8∨i=9∨i=10∨i=11∨i=12∨i=13∨i=14∨i=15∨i=16:=by omega
      rcases h17 with h|h|h|h|h|h|h|h|h|h|h|h|h|h|h|h|h<;>subst h<;>(refine Eq.mpr (?_:_=True) trivial;kernel_rfl)
def Z20:ZQ:=fun args h K=>match args with
 | [.ptr (some ⟨x,0,0,0,0⟩),.ptr (some ⟨y,0,0,0,0⟩)]=>frA [x,y] h 20 args fun Bs a=>match Bs,a with
  | [.flat cs,.flat [.int .i64 s]],[.ptr (some ⟨0,0,0,0,0⟩),.ptr (some ⟨1,0,0,0,0⟩)]=>∃k:ClS,cs=k.c++[.bool true]∧
   K (.ret (.func (.func 115) [] [.ptr (some ⟨h.next,0,0,0,0⟩)])) ⟨h.next+2,(x,.flat (k.c++[.bool true]))::(y,.flat [.int .i64 s])::(h.next,.flat [.nslice ⟨h.next+1,0,3,0,0⟩ 3 17 17])::(h.next+1,.rows 3 17 (PF x y))::ZX (ZX h.bs x) y⟩
  | _,_=>False
 | _=>False
theorem Zgi (x y d i:Nat) (hi:i<17):mvC [x,y] d (PF 0 1 i)=some (PF x y i):=by
 have h17:i=0∨i=1∨i=2∨i=3∨i=4∨i=5∨i=6∨i=7∨i=8∨i=9∨i=10∨i=11∨i=12∨i=13∨i=14∨i=15∨i=16:=by omega
 rcases h17 with h|h|h|h|h|h|h|h|h|h|h|h|h|h|h|h|h<;>subst h<;>rfl
theorem Z38 (args:List AV) (h:Z7) (K:KO) (hl:Z20 args h K):Zg PP 53 args h K:=by
 unfold Z20 at hl
 split at hl
 ·refine Spec.fsumm hl fun Bs a hlen hK0=> ?_
  split at hK0
  ·rename_i cs s
   obtain ⟨k,rfl,hK⟩:=hK0
   exact ⟨_,_,_,_,_,.evM Zu (Zhv k s),by simp,.ret _ _ rfl,.cons _ _ _ _ _ _ rfl (.flat _ _ rfl) (.cons _ _ _ _ _ _ rfl (.flat _ _ rfl) (.cons _ _ _ _ _ _ rfl (.flat _ _ rfl) (.cons _ _ _ _ _ _ rfl (.rowsM _ _ _ _ fun i hi=>Zgi _ _ _ i hi) .nil))),hK⟩
  ·exact hK0.elim
 ·exact hl.elim
end Go.Tk
end
section
namespace Go.Tk
open IntKind (i64 u8 u32 u64 wrap)
def tru (b:Bool):List Int:=[cond b 1 0]
def Vl (W:Int→List Int) (k:ClS):List Int:=k.t.fund++W k.t.index++W k.t.cap++W k.t.dust++W k.t.fee++W k.t.delay++k.t.k0++k.t.k1++W k.side++W k.a0++W k.a1++W k.least++W k.most++tru k.offers++W k.last++tru k.agrees++W k.fee
noncomputable def Zgj (W:Int→List Int) (T:Int) (B:Nat):Ze:=((((G0.withF 53 Z20).withF 54 (Zem W T B)).withF 55 (Zen B)).withF 56 (wtG B)).withF 119 Qq
theorem ZcC:(Zgj ZB 4611686018427387904 80000000000000).Ok:=Ze.withF_ok (Ze.withF_ok (Ze.withF_ok (Ze.withF_ok (Ze.withF_ok Zu Z38) ZcA) ZcB) Zeo) UZ
structure ZaF (T:Int) (k:ClS):Prop where
 ix:0≤k.t.index∧k.t.index≤T
 ca:0≤k.t.cap∧k.t.cap≤T
 du:0≤k.t.dust∧k.t.dust≤T
 fe:0≤k.t.fee∧k.t.fee≤T
 de:0≤k.t.delay∧k.t.delay≤T
 sd:0≤k.side∧k.side≤T
 a0:0≤k.a0∧k.a0≤T
 a1:0≤k.a1∧k.a1≤T
 le:0≤k.least∧k.least≤T
 mo:0≤k.most∧k.most≤T
 la:0≤k.last∧k.last≤T
 fee:0≤k.fee∧k.fee≤T
theorem Zgk (W:Int→List Int) (T:Int) (B n:Nat) (k:ClS) (ys:List Int) (hk:ZaF T k) (hf:k.t.fund.length=32) (h0:k.t.k0.length=32) (h1:k.t.k1.length=32) (hy:ys=Vl W k) (hn:n=ys.length) (h9:∀v,(W v).length≤9) (hB:1000<B) (hB2:B<90000000000000):
  evF (Zgj W T B) 20 21 [.ptr (some ⟨0,0,0,0,0⟩)] ⟨1,[(0,.flat (k.c++[.bool true]))]⟩ (Y2 1 (.ret (.nslice ⟨1,0,0,0,0⟩ 1 n n)) 2 [(0,.flat (k.c++[.bool true])),(1,.ints .u8 ys)]):=by
 refine @Eq.mpr _ (let q1:=k.side;
 let q2:=decide (q1=q1);
 let q3:=k.t;
 let q4:=q3.fund;
 let q5:=q3.index;
 let q6:=q3.cap;
 let q7:=q3.dust;
 let q8:=q3.fee;
 let q9:=q3.delay;
 let q10:=q3.k0;
 let q11:=q3.k1;
 let q12:=[k.a0,k.a1];
 let q13:=[AV.bool true];
 Z0 q2
 (Z0 q2
 (Z0 q2
 (Z0 q2
 (∃(k_1:ClS),
 let q27:=k_1.t;
 let q28:=q27.fund;
 let q29:=q27.index;
 let q30:=q27.cap;
 let q31:=q27.dust;
 let q32:=q27.fee;
 let q33:=q27.delay;
 let q34:=q27.k0;
 let q35:=q27.k1;
 let q36:=k_1.a0;
 let q37:=k_1.a1;
 let q38:=[q36,q37];
 let q39:=k_1.least;
 let q40:=k_1.most;
 let q41:=k_1.offers;
 let q42:=k_1.last;
 let q43:=k_1.agrees;
 let q44:=k_1.fee;
 let q45:=q28++W q29;
 let q46:=List.length q45;
 let q47:=q45++W q30;
 let q48:=List.length q47;
 let q49:=q47++W q31;
 let q50:=List.length q49;
 let q51:=q49++W q32;
 let q52:=List.length q51;
 let q53:=q51++W q33;
 let q54:=List.length q53;
 let q55:=q53++q34;
 let q56:=List.length q55;
 let q57:=q55++q35;
 let q58:=List.length q57;
 let q59:=q57++W q1;
 let q60:=List.length q59;
 let q61:=q59++W q36;
 let q62:=List.length q61;
 let q63:=q61++W q37;
 let q64:=List.length q63;
 let q65:=q63++W q39;
 let q66:=List.length q65;
 let q67:=q65++W q40;
 let q68:=List.length q67;
 let q69:=q67++[bif q41 then 1 else 0];
 let q70:=List.length q69;
 let q71:=q69++W q42;
 let q72:=List.length q71;
 let q73:=q71++[bif q43 then 1 else 0];
 let q74:=List.length q73;
 let q75:=q73++W q44;
 let q76:=List.length q75;
 let q77:=List.take q76 (Yo 0 q75);
 AV.arr u8 32 q4::AV.int i64 q5::AV.int i64 q6::AV.int i64 q7::AV.int i64 q8::AV.int i64 q9::AV.arr u8 32 q10::AV.arr u8 32 q11::AV.int i64 q1::AV.arr i64 2 q12::AV.int i64 k.least::AV.int i64 k.most::AV.bool k.offers::AV.int i64 k.last::AV.bool k.agrees::AV.int i64 k.fee::q13=AV.arr u8 32 q28::AV.int i64 q29::AV.int i64 q30::AV.int i64 q31::AV.int i64 q32::AV.int i64 q33::AV.arr u8 32 q34::AV.arr u8 32 q35::AV.int i64 k_1.side::AV.arr i64 2 q38::AV.int i64 q39::AV.int i64 q40::AV.bool q41::AV.int i64 q42::AV.bool q43::AV.int i64 q44::q13∧
 Z0 (decide (List.length q28=32))
 (Z0 (decide (List.length q28=32∧(32:Nat)=32∧32<B∧0≤q29∧q29≤T))
 (Z0 (decide (q46=q46∧q46=q46∧q46<B∧0≤q30∧q30≤T))
 (Z0 (decide (q48=q48∧q48=q48∧q48<B∧0≤q31∧q31≤T))
 (Z0 (decide (q50=q50∧q50=q50∧q50<B∧0≤q32∧q32≤T))
 (Z0 (decide (q52=q52∧q52=q52∧q52<B∧0≤q33∧q33≤T))
 (Z0 (decide (q54=q54∧q54=q54∧q54<B∧List.length q34=32))
 (Z0 (decide (q56=q56∧q56=q56∧q56<B∧List.length q35=32))
 (Z0 (decide (q58=q58∧q58=q58∧q58<B∧0≤q1∧q1≤T))
 (Z0 (decide (q60=q60∧q60=q60∧q60<B∧0≤q36∧q36≤T))
 (Z0 (decide (q62=q62∧q62=q62∧q62<B∧0≤q37∧q37≤T))
 (Z0 (decide (q64=q64∧q64=q64∧q64<B∧0≤q39∧q39≤T))
 (Z0 (decide (q66=q66∧q66=q66∧q66<B∧0≤q40∧q40≤T)) (Z0 (decide (q68=q68∧q68=q68∧q68<B)) (Z0 (decide (q70=q70∧q70=q70∧q70<B∧0≤q42∧q42≤T)) (Z0 (decide (q72=q72∧q72=q72∧q72<B)) (Z0 (decide (q74=q74∧q74=q74∧q74<B∧0≤q44∧q44≤T)) (Z0 (decide (0+q76≤q76)) (Z0 (decide (List.length q77=q76∧q76<90000000000000)) (Z0 (decide (q76=n)) (Z0 (decide (n≤q76)) (q28=q4∧Z0 (decide (q29=q5)) (Z0 (decide (q30=q6)) (Z0 (decide (q31=q7)) (Z0 (decide (q32=q8)) (Z0 (decide (q33=q9)) (q34=q10∧q35=q11∧Z0 (decide (k_1.side=q1)) (q38=q12∧Z0 (decide (q39=k.least)) (Z0 (decide (q40=k.most)) (Z0 (decide (q41=k.offers)) (Z0 (decide (q42=k.last)) (Z0 (decide (q43=k.agrees)) (Z0 (decide (q44=k.fee)) (q77=ys∧True) False) False) False) False) False) False) False) False) False) False) False) False) False) False) False) False) False) False) False) False)
 False)
 False)
 False)
 False)
 False)
 False)
 False)
 False)
 False)
 False)
 False)
 False)
 False)
 False)
 False)
 False)
 False) (by kernel_rfl) ?_
 conv=>zeta
 try simp only [Zc]
 try simp only [Zj]
 try simp only [Zd]
 try simp only [Zk]
 try simp only [Zl]
 try simp only [Zb]
 try simp only [Int.toNat_natCast,Nat.zero_add,true_and,and_true,Nat.le_refl]
 obtain ⟨⟨a1,b1⟩,⟨a2,b2⟩,⟨a3,b3⟩,⟨a4,b4⟩,⟨a5,b5⟩,⟨a6,b6⟩,⟨a7,b7⟩,⟨a8,b8⟩,⟨a9,b9⟩,⟨a10,b10⟩,⟨a11,b11⟩,⟨a12,b12⟩⟩:=hk
 have l1:=h9 k.t.index
 have l2:=h9 k.t.cap
 have l3:=h9 k.t.dust
 have l4:=h9 k.t.fee
 have l5:=h9 k.t.delay
 have l6:=h9 k.side
 have l7:=h9 k.a0
 have l8:=h9 k.a1
 have l9:=h9 k.least
 have l10:=h9 k.most
 have l11:=h9 k.last
 have l12:=h9 k.fee
 have hz:∀l:List Int,List.take l.length (Yo 0 l)=l:=fun l=>by rw [Y6,List.drop_zero,List.take_length]
 simp only [hz]
 subst hy hn
 repeat' first
  | with_reducible rfl
  | exact True.intro
  | with_reducible assumption
  | with_reducible refine And.intro ?_ ?_
  | with_reducible refine Exists.intro k ?_
 all_goals first
  | ((try simp only [List.length_append,List.length_cons,List.length_nil,hf,h0,h1]);omega)
  | rfl
  | (show List.length (Vl W k)≤_;exact Nat.le_refl _)
end Go.Tk
end
section
namespace Go.Tk
open IntKind (i64 u8 u32 u64 wrap)
def Z0n (n c:Int):Int:=bOr .i64 (ZK .i64 n 8) c
theorem Zep:ZK .i64 0 8=0:=by decide
def goN:Nat→List Int→Nat→Int→Option Int
 | 0,_,_,n=>some n
 | m+1,xs,k,n=>if n>36028797018963968 then none else goN m xs (k+1) (Z0n n (i64.wrap (xs.getD k 0)))
def Xg (c:Int):Nat:=if c=253 then 2 else if c=254 then 4 else if c=255 then 8 else 0
@[irreducible] def ZY (W:Int→List Int) (xs:List Int):Int×Int:=
 if xs.length=0 then (0,0)
 else if Xg (xs.getD 0 0)=0 then (i64.wrap (xs.getD 0 0),1)
 else if xs.length≤Xg (xs.getD 0 0) then (0,0)
 else match goN (Xg (xs.getD 0 0)) (xs.drop 1) 0 0 with
  | none=>(0, -1)
  | some n=>if n>4611686018427387904 then (0, -1) else if (W n).length=1+Xg (xs.getD 0 0) then (n,1+Xg (xs.getD 0 0)) else (0, -1)
theorem Q2 {W:Int→List Int} {xs:List Int} (h:xs.length=0):ZY W xs=(0,0):=by unfold ZY;rw [if_pos h]
theorem Q3 {W:Int→List Int} {xs:List Int} (h:xs.length≠0) (hm:Xg (xs.getD 0 0)=0):ZY W xs=(i64.wrap (xs.getD 0 0),1):=by unfold ZY;rw [if_neg h,if_pos hm]
theorem X4 {W:Int→List Int} {xs:List Int} {m:Nat} (h:xs.length≠0) (hm:Xg (xs.getD 0 0)=m) (hm0:m≠0) (hl:xs.length≤m):ZY W xs=(0,0):=by unfold ZY;rw [if_neg h,if_neg (by omega),if_pos (by omega)]
theorem V2 {W:Int→List Int} {xs:List Int} {m:Nat} (h:xs.length≠0) (hm:Xg (xs.getD 0 0)=m) (hm0:m≠0) (hl:m<xs.length):ZY W xs=match goN m (xs.drop 1) 0 0 with
  | none=>(0, -1)
  | some n=>if n>4611686018427387904 then (0, -1) else if (W n).length=1+m then (n,1+m) else (0, -1):=by
 unfold ZY;rw [if_neg h,if_neg (by omega),if_neg (by omega),hm]
theorem Z7j {c:Int} (h:c=253):Xg c=2:=by unfold Xg;rw [if_pos h]
theorem Z7k {c:Int} (h:¬c=253) (h2:c=254):Xg c=4:=by unfold Xg;rw [if_neg h,if_pos h2]
theorem Z7l {c:Int} (h:¬c=253) (h2:¬c=254) (h3:c=255):Xg c=8:=by unfold Xg;rw [if_neg h,if_neg h2,if_pos h3]
theorem Zdd {c:Int} (h:¬c=253) (h2:¬c=254) (h3:¬c=255):Xg c=0:=by unfold Xg;rw [if_neg h,if_neg h2,if_neg h3]
theorem Zeq:¬((0:Int)>36028797018963968):=by decide
theorem ZcD (W:Int→List Int) (xs:List Int) (N:Nat) (F:Int×Int) (hN:xs.length=N) (hF:F=ZY W xs):
  evF (Zaa W) 20 271 [.vints .u8 xs N] ⟨0,[]⟩ (Y2 0 (.ret (.tuple [.int .i64 F.1,.int .i64 F.2])) 0 []):=by
 refine @Eq.mpr _ (let q1:=decide (0=F.fst);
 let q2:=Z0 q1 (Z0 (decide (0=F.snd)) True False) False;
 let q3:=decide ((0:Int)≤0∧0<(↑N:Int));
 let q4:=List.getD xs 0 0;
 let q5:=decide (N≤List.length xs);
 let q6:=(↑(List.length xs):Int);
 let q7:=Z0Y (some 1) xs;
 let q8:=bOr i64 0 (wrap i64 (List.getD q7 0 0));
 let q9:=decide (q8>36028797018963968);
 let q10:=Z0 q1 (Z0 (decide (-1=F.snd)) True False) False;
 let q11:=bOr i64 (ZK i64 q8 8) (wrap i64 (List.getD q7 1 0));
 let q12:=decide (q11>36028797018963968);
 let q13:=bOr i64 (ZK i64 q11 8) (wrap i64 (List.getD q7 2 0));
 let q14:=decide (q13>36028797018963968);
 let q15:=bOr i64 (ZK i64 q13 8) (wrap i64 (List.getD q7 3 0));
 let q16:=bOr i64 (ZK i64 q15 8) (wrap i64 (List.getD q7 4 0));
 let q17:=bOr i64 (ZK i64 q16 8) (wrap i64 (List.getD q7 5 0));
 let q18:=bOr i64 (ZK i64 q17 8) (wrap i64 (List.getD q7 6 0));
 let q19:=bOr i64 (ZK i64 q18 8) (wrap i64 (List.getD q7 7 0));
 Z0 ((↑N:Int)==0) q2
 (Z0 q3
 (Z0 (decide (q4=253)) (Z0 (decide ((↑N:Int)≤2)) q2 (Z0 q5 (Z0 (decide ((0:Int)≤1∧(1:Int)≤3∧3≤q6)) (Z0 q9 q10 (Z0 (decide (q11>4611686018427387904)) q10 (Z0 ((↑(List.length (W q11)):Int) !=3) q10 (Z0 (decide (q11=F.fst)) (Z0 (decide (3=F.snd)) True False) False)))) False) False))
 (Z0 (decide (q4=254)) (Z0 (decide ((↑N:Int)≤4)) q2 (Z0 q5 (Z0 (decide ((0:Int)≤1∧(1:Int)≤5∧5≤q6)) (Z0 q9 q10 (Z0 q12 q10 (Z0 q14 q10 (Z0 (decide (q15>4611686018427387904)) q10 (Z0 ((↑(List.length (W q15)):Int) !=5) q10 (Z0 (decide (q15=F.fst)) (Z0 (decide (5=F.snd)) True False) False)))))) False) False))
 (Z0 (decide (q4=255)) (Z0 (decide ((↑N:Int)≤8)) q2 (Z0 q5 (Z0 (decide ((0:Int)≤1∧(1:Int)≤9∧9≤q6)) (Z0 q9 q10 (Z0 q12 q10 (Z0 q14 q10 (Z0 (decide (q15>36028797018963968)) q10 (Z0 (decide (q16>36028797018963968)) q10 (Z0 (decide (q17>36028797018963968)) q10 (Z0 (decide (q18>36028797018963968)) q10 (Z0 (decide (q19>4611686018427387904)) q10 (Z0 ((↑(List.length (W q19)):Int) !=9) q10 (Z0 (decide (q19=F.fst)) (Z0 (decide (9=F.snd)) True False) False)))))))))) False) False)) (Z0 q3 (Z0 (decide (wrap i64 q4=F.fst)) (Z0 (decide (1=F.snd)) True False) False) False))))
 False)) (by kernel_rfl) ?_
 conv=>zeta
 try simp only [Zc]
 try simp only [Zj]
 try simp only [Zd]
 try simp only [Zk]
 try simp only [Zl]
 try simp only [Zb]
 try simp only [Int.toNat_natCast,Nat.zero_add,true_and,and_true,Nat.le_refl]
 subst hN
 refine ⟨fun h0=> ?_,fun h0=> ?_⟩
 ·rw [hF,Q2 (by simp at h0;simp [h0])];exact ⟨rfl,rfl⟩
 have h0:xs.length≠0:=by simp at h0;intro h;rw [List.length_eq_zero_iff] at h;exact h0 h
 have ed:Z0Y (some 1) xs=xs.drop 1:=rfl
 rw [ed]
 refine ⟨by omega,fun c1=>⟨fun l1=> ?_,fun l1=>⟨by omega, ?_⟩⟩,fun c1=>⟨fun c2=>⟨fun l1=> ?_,fun l1=>⟨by omega, ?_⟩⟩,fun c2=>⟨fun c3=>⟨fun l1=> ?_,fun l1=>⟨by omega, ?_⟩⟩,fun c3=> ?_⟩⟩⟩
 ·rw [hF,X4 h0 (Z7j c1) (by decide) (by omega)];exact ⟨rfl,rfl⟩
 ·rw [hF,V2 h0 (Z7j c1) (by decide) (by omega)]
  simp only [goN,Z0n,Zep,Zeq,if_false,Nat.zero_add,Nat.reduceAdd]
  repeat' (first|(refine And.intro ?_ ?_)|intro _)
  all_goals first|omega|(simp only [*,if_true,if_false];done)|(simp only [*,if_true,if_false];rfl)|skip
  all_goals rename_i hb
  all_goals first|rw [bne_iff_ne] at hb|rw [bne_eq_false_iff_eq] at hb
  all_goals simp only [*,if_false]
  all_goals first|rfl|(split<;>first|rfl|omega)
 ·rw [hF,X4 h0 (Z7k c1 c2) (by decide) (by omega)];exact ⟨rfl,rfl⟩
 ·rw [hF,V2 h0 (Z7k c1 c2) (by decide) (by omega)]
  simp only [goN,Z0n,Zep,Zeq,if_false,Nat.zero_add,Nat.reduceAdd]
  repeat' (first|(refine And.intro ?_ ?_)|intro _)
  all_goals first|omega|(simp only [*,if_true,if_false];done)|(simp only [*,if_true,if_false];rfl)|skip
  all_goals rename_i hb
  all_goals first|rw [bne_iff_ne] at hb|rw [bne_eq_false_iff_eq] at hb
  all_goals simp only [*,if_false]
  all_goals first|rfl|(split<;>first|rfl|omega)
 ·rw [hF,X4 h0 (Z7l c1 c2 c3) (by decide) (by omega)];exact ⟨rfl,rfl⟩
 ·rw [hF,V2 h0 (Z7l c1 c2 c3) (by decide) (by omega)]
  simp only [goN,Z0n,Zep,Zeq,if_false,Nat.zero_add,Nat.reduceAdd]
  repeat' (first|(refine And.intro ?_ ?_)|intro _)
  all_goals first|omega|(simp only [*,if_true,if_false];done)|(simp only [*,if_true,if_false];rfl)|skip
  all_goals rename_i hb
  all_goals first|rw [bne_iff_ne] at hb|rw [bne_eq_false_iff_eq] at hb
  all_goals simp only [*,if_false]
  all_goals first|rfl|(split<;>first|rfl|omega)
 ·rw [hF,Q3 h0 (Zdd c1 c2 c3)];exact ⟨by omega,rfl,rfl⟩
def ZaG (F:List Int→Int×Int):ZZ:=fun args h K=>ZL none h true 20 args fun a=>match a with
 | [.vints .u8 xs n]=>Zo (xs.length=n) (K (.tuple [.int .i64 (F xs).1,.int .i64 (F xs).2]))
 | _=>False
theorem Z8x (args:List AV) (h:Z7) (K:AV→Prop) (hl:ZaG (ZY ZB) args h K):Zg PP 271 args h fun o h'=>∃v,o=.ret v∧h'=h∧K v:=by
 refine ZD.psumm (d:=20) (Zn _ _ _ _ _ hl fun a ha=> ?_)
 split at ha
 ·obtain ⟨h1,hK⟩:=Z9 ha
  exact ⟨_,.evM Qr (ZcD _ _ _ _ h1 rfl),fun _=>rfl,hK⟩
 ·exact ha.elim
end Go.Tk
end
section
namespace Go.Tk
open IntKind (i64 u8 u32 u64 wrap)
noncomputable def E23 (F:List Int→Int×Int):Ze:=G0.withP 271 (ZaG F)
theorem ZaH:(E23 (ZY ZB)).Ok:=Ze.withP_ok Zu Z8x
theorem Zhw (xs:List Int) (o n:Nat) (h2:n=0):
  evF G0 20 66 [.ptr (some ⟨0,0,0,0,0⟩)] ⟨2,[(0,.flat [.nslice ⟨1,0,0,0,o⟩ 1 n n,.bool true,.bool false]),(1,.ints .u8 xs)]⟩ (Y2 2 (.ret (.int .i64 0)) 2 [(0,.flat [.nslice ⟨1,0,0,0,o⟩ 1 n n,.bool true,.bool false]),(1,.ints .u8 xs)]):=by
 refine @Eq.mpr _ (Z0 (!(↑n:Int)==0) False (Z0 (decide (o=o)) (Z0 (decide (n=n)) (Z0 (decide (n≤n)) (xs=xs∧True) False) False) False)) (by kernel_rfl) ?_
 try simp only [Zc]
 try simp only [Zj]
 try simp only [Zd]
 try simp only [Zk]
 try simp only [Zl]
 try simp only [Zb]
 try simp only [Int.toNat_natCast,Nat.zero_add,true_and,and_true,Nat.le_refl]
 subst h2
 simp
theorem Zhx (xs:List Int) (o n:Nat) (h2:n≠0):
  evF G0 20 66 [.ptr (some ⟨0,0,0,0,0⟩)] ⟨2,[(0,.flat [.nslice ⟨1,0,0,0,o⟩ 1 n n,.bool true,.bool false]),(1,.ints .u8 xs)]⟩ (Y2 2 (.ret (.int .i64 140)) 2 [(0,.flat [.nslice ⟨1,0,0,0,o⟩ 1 n n,.bool true,.bool true]),(1,.ints .u8 xs)]):=by
 refine @Eq.mpr _ (Z0 (!(↑n:Int)==0) (Z0 (decide (o=o)) (Z0 (decide (n=n)) (Z0 (decide (n≤n)) (xs=xs∧True) False) False) False) False) (by kernel_rfl) ?_
 try simp only [Zc]
 try simp only [Zj]
 try simp only [Zd]
 try simp only [Zk]
 try simp only [Zl]
 try simp only [Zb]
 try simp only [Int.toNat_natCast,Nat.zero_add,true_and,and_true,Nat.le_refl]
 simp
 omega
theorem Z8y (W:Int→List Int) (xs:List Int):(ZY W xs).2≤xs.length:=by
 by_cases h0:xs.length=0
 ·rw [Q2 h0];exact Int.natCast_nonneg _
 by_cases hm:Xg (xs.getD 0 0)=0
 ·rw [Q3 h0 hm];show (1:Int)≤_;omega
 by_cases hl:xs.length≤Xg (xs.getD 0 0)
 ·rw [X4 h0 rfl hm hl];exact Int.natCast_nonneg _
 rw [V2 h0 rfl hm (by omega)]
 split
 ·show (-1:Int)≤_;omega
 ·split
  ·show (-1:Int)≤_;omega
  ·split
   ·show (1:Int)+Xg (xs.getD 0 0)≤_;omega
   ·show (-1:Int)≤_;omega
def rdN (F:List Int→Int×Int) (xs:List Int) (o:Nat) (most:Int):Option (Int×Nat):=
 if 0<(F (xs.drop o)).2∧(F (xs.drop o)).1≤most then some ((F (xs.drop o)).1,o+(F (xs.drop o)).2.toNat) else none
def rdH (xs:List Int) (o:Nat):Option (List Int×Nat):=if o+32≤xs.length then some ((xs.drop o).take 32,o+32) else none
def Z7m:ZQ:=fun args h K=>match args with
 | [.ptr (some ⟨r,0,0,0,0⟩)]=>match h.get r with
  |some (.flat [.nslice ⟨b,0,0,0,_⟩ 1 _ _,.bool true,.bool false])=>frA [r,b] h 20 args fun Bs a=>match Bs,a with
   | [.flat [.nslice ⟨1,0,0,0,o⟩ 1 n n2,.bool true,.bool false],.ints .u8 xs],[.ptr (some ⟨0,0,0,0,0⟩)]=>
    Zo (n2=n) (Z0 (decide (n=0))
     (K (.ret (.int .i64 0)) ⟨h.next,(r,.flat [.nslice ⟨b,0,0,0,o⟩ 1 n n,.bool true,.bool false])::(b,.ints .u8 xs)::ZX (ZX h.bs r) b⟩)
     (K (.ret (.int .i64 140)) ⟨h.next,(r,.flat [.nslice ⟨b,0,0,0,o⟩ 1 n n,.bool true,.bool true])::(b,.ints .u8 xs)::ZX (ZX h.bs r) b⟩))
   | _,_=>False
  | _=>False
 | _=>False
theorem ZaI (args:List AV) (h:Z7) (K:KO) (hl:Z7m args h K):Zg PP 66 args h K:=by
 unfold Z7m at hl
 split at hl
 ·split at hl
  ·refine Spec.fsumm hl fun Bs a hlen hK0=> ?_
   split at hK0
   ·rename_i o n n2 xs
    obtain ⟨rfl,hK⟩:=Z9 hK0
    rw [Zd] at hK
    by_cases hc:n2=0
    ·exact ⟨_,_,_,_,_,.evM Zu (Zhw xs o _ hc),by simp,.ret _ _ rfl,.cons _ _ _ _ _ _ rfl (.flat _ _ rfl) (.cons _ _ _ _ _ _ rfl (.ints _ _) .nil),hK.1 hc⟩
    ·exact ⟨_,_,_,_,_,.evM Zu (Zhx xs o _ hc),by simp,.ret _ _ rfl,.cons _ _ _ _ _ _ rfl (.flat _ _ rfl) (.cons _ _ _ _ _ _ rfl (.ints _ _) .nil),hK.2 hc⟩
   ·exact hK0.elim
  ·exact hl.elim
 ·exact hl.elim
def rdT (xs:List Int) (o:Nat):Option (Bool×Nat):=if o<xs.length∧xs.getD o 0≤1 then some (xs.getD o 0==1,o+1) else none
theorem Zhy (xs:List Int) (o n o' n':Nat) (b:Bool) (hn:o+n=xs.length) (h0:0<n) (h1:xs.getD o 0≤1) (hb:b=(xs.getD o 0==1)) (ho:o'=o+1) (hn':n'=n-1):
  evF G0 20 130 [.ptr (some ⟨0,0,0,0,0⟩)] ⟨2,[(0,.flat [.nslice ⟨1,0,0,0,o⟩ 1 n n,.bool true,.bool false]),(1,.ints .u8 xs)]⟩ (Y2 2 (.ret (.tuple [.bool b,.int .i64 0])) 2 [(0,.flat [.nslice ⟨1,0,0,0,o'⟩ 1 n' n',.bool true,.bool false]),(1,.ints .u8 xs)]):=by
 refine @Eq.mpr _ (let q1:=Z0 (decide (false=b)) False False;
 let q2:=decide (n≤n);
 let q3:=decide ((0:Int)≤1∧1≤(↑n:Int));
 let q4:=o+0+0;
 let q5:=List.getD xs q4 0;
 let q6:=Vm n (some 1);
 Z0 (!decide (1≤(↑n:Int))) q1 (Z0 q2 (Z0 q3 (Z0 q2 (Z0 q3 (Z0 (decide (q4<List.length xs)) (Z0 (!decide (q5≤1)) q1 (Z0 (decide ((q5==1)=b)) (Z0 (decide (o+1=o')) (Z0 (decide (q6=n')) (Z0 (decide (n'≤q6)) (xs=xs∧True) False) False) False) False)) False) False) False) False) False)) (by kernel_rfl) ?_
 conv=>zeta
 try simp only [Zc]
 try simp only [Zj]
 try simp only [Zd]
 try simp only [Zk]
 try simp only [Zl]
 try simp only [Zb]
 try simp only [Int.toNat_natCast,Nat.zero_add,true_and,and_true,Nat.le_refl]
 subst hb ho hn'
 have e:Vm n (some 1)=n-1:=rfl
 rw [e]
 refine ⟨fun h=>absurd h (by simp;omega),fun _=>⟨by omega,by omega,by omega,fun h=>absurd h (by rw [decide_eq_true (show xs.getD (o+0+0) 0≤1 from h1)];decide),fun _=>by simp⟩⟩
theorem Zhz (xs:List Int) (o n:Nat) (hn:o+n=xs.length) (h1:0<n→1<xs.getD o 0):
  evF G0 20 130 [.ptr (some ⟨0,0,0,0,0⟩)] ⟨2,[(0,.flat [.nslice ⟨1,0,0,0,o⟩ 1 n n,.bool true,.bool false]),(1,.ints .u8 xs)]⟩ (Y2 2 (.ret (.tuple [.bool false,.int .i64 140])) 2 [(0,.flat [.nslice ⟨1,0,0,0,o⟩ 1 n n,.bool true,.bool true]),(1,.ints .u8 xs)]):=by
 refine @Eq.mpr _ (let q1:=decide (n≤n);
 let q2:=Z0 (decide (o=o)) (Z0 (decide (n=n)) (Z0 q1 (xs=xs∧True) False) False) False;
 let q3:=decide ((0:Int)≤1∧1≤(↑n:Int));
 let q4:=o+0+0;
 let q5:=List.getD xs q4 0;
 Z0 (!decide (1≤(↑n:Int))) q2 (Z0 q1 (Z0 q3 (Z0 q1 (Z0 q3 (Z0 (decide (q4<List.length xs)) (Z0 (!decide (q5≤1)) q2 (Z0 (decide ((q5==1)=false)) False False)) False) False) False) False) False)) (by kernel_rfl) ?_
 conv=>zeta
 try simp only [Zc]
 try simp only [Zj]
 try simp only [Zd]
 try simp only [Zk]
 try simp only [Zl]
 try simp only [Zb]
 try simp only [Int.toNat_natCast,Nat.zero_add,true_and,and_true,Nat.le_refl]
 refine ⟨fun _=>by simp,fun h=>⟨by simp at h;omega,by simp at h;omega,by simp at h;omega,fun _=>by simp,fun h2=> ?_⟩⟩
 have:=h1 (by simp at h;omega)
 have h3:decide (xs.getD o 0≤1)=true:=by
  revert h2
  show (!decide (xs.getD o 0≤1))=false→_
  cases decide (xs.getD o 0≤1)<;>decide
 have h3:=of_decide_eq_true h3
 omega
def Z7n:ZQ:=fun args h K=>match args with
 | [.ptr (some ⟨r,0,0,0,0⟩)]=>match h.get r with
  |some (.flat [.nslice ⟨b,0,0,0,_⟩ 1 _ _,.bool true,.bool false])=>frA [r,b] h 20 args fun Bs a=>match Bs,a with
   | [.flat [.nslice ⟨1,0,0,0,o⟩ 1 n n2,.bool true,.bool false],.ints .u8 xs],[.ptr (some ⟨0,0,0,0,0⟩)]=>
    Zo (n=xs.length-o∧o≤xs.length∧n2=xs.length-o) ((∀v o',rdT xs o=some (v,o')→(o≤o'∧o'≤xs.length)→
     K (.ret (.tuple [.bool v,.int .i64 0])) ⟨h.next,(r,.flat [.nslice ⟨b,0,0,0,o'⟩ 1 (xs.length-o') (xs.length-o'),.bool true,.bool false])::(b,.ints .u8 xs)::ZX (ZX h.bs r) b⟩)∧
     (rdT xs o=none→K (.ret (.tuple [.bool false,.int .i64 140])) ⟨h.next,(r,.flat [.nslice ⟨b,0,0,0,o⟩ 1 (xs.length-o) (xs.length-o),.bool true,.bool true])::(b,.ints .u8 xs)::ZX (ZX h.bs r) b⟩))
   | _,_=>False
  | _=>False
 | _=>False
theorem ZaJ (args:List AV) (h:Z7) (K:KO) (hl:Z7n args h K):Zg PP 130 args h K:=by
 unfold Z7n at hl
 split at hl
 ·split at hl
  ·refine Spec.fsumm hl fun Bs a hlen hK0=> ?_
   split at hK0
   ·rename_i o n n2 xs
    obtain ⟨⟨rfl,h1,rfl⟩,hK,hK'⟩:=Z9 hK0
    by_cases hc:o<xs.length∧xs.getD o 0≤1
    ·exact ⟨_,_,_,_,_,.evM Zu (Zhy xs o (xs.length-o) (o+1) (xs.length-(o+1)) _ (by omega) (by omega) hc.2 rfl rfl (by omega)),by simp,.ret _ _ rfl,.cons _ _ _ _ _ _ rfl (.flat _ _ rfl) (.cons _ _ _ _ _ _ rfl (.ints _ _) .nil),hK _ (o+1) (by unfold rdT;rw [if_pos hc]) ⟨by omega,by omega⟩⟩
    ·exact ⟨_,_,_,_,_,.evM Zu (Zhz xs o _ (by omega) (fun h=>by omega)),by simp,.ret _ _ rfl,.cons _ _ _ _ _ _ rfl (.flat _ _ rfl) (.cons _ _ _ _ _ _ rfl (.ints _ _) .nil),hK' (by unfold rdT;rw [if_neg hc])⟩
   ·exact hK0.elim
  ·exact hl.elim
 ·exact hl.elim
theorem Zgl (F:List Int→Int×Int) (xs:List Int) (o n o' n':Nat) (most v:Int) (hn:o+n=xs.length) (hm:0≤most) (h2:0<(F (xs.drop o)).2∧(F (xs.drop o)).2≤n) (h1:(F (xs.drop o)).1≤most) (hv:(F (xs.drop o)).1=v) (ho:o'=o+(F (xs.drop o)).2.toNat) (hn':n'=n-(F (xs.drop o)).2.toNat):
  evF (E23 F) 20 128 [.ptr (some ⟨0,0,0,0,0⟩),.int .i64 most] ⟨2,[(0,.flat [.nslice ⟨1,0,0,0,o⟩ 1 n n,.bool true,.bool false]),(1,.ints .u8 xs)]⟩ (Y2 2 (.ret (.tuple [.int .i64 v,.int .i64 0])) 2 [(0,.flat [.nslice ⟨1,0,0,0,o'⟩ 1 n' n',.bool true,.bool false]),(1,.ints .u8 xs)]):=by
 refine @Eq.mpr _ (let q1:=Z0 (decide (0=v)) False False;
 let q2:=Zs.tot (Zs.mk 1 0 0 0 o);
 let q3:=List.take n (Yo q2 xs);
 let q4:=F q3;
 let q5:=q4.snd;
 let q6:=q4.fst;
 let q7:=decide (n≤n);
 let q8:=decide (0≤q5∧q5≤ ↑n);
 let q9:=some (Int.toNat q5);
 let q10:=Vm n q9;
 Z0 (decide (most<0)) q1 (Z0 (decide (q2+n≤List.length xs)) (Z0 (decide (List.length q3=n)) (Z0 (decide (q5>0)) (Z0 (!decide (q6≤most)) q1 (Z0 (!decide (q5≤ ↑n)) q1 (Z0 q7 (Z0 q8 (Z0 q7 (Z0 q8 (Z0 (decide (q6=v)) (Z0 (decide (o+ZV q9=o')) (Z0 (decide (q10=n')) (Z0 (decide (n'≤q10)) (xs=xs∧True) False) False) False) False) False) False) False) False))) q1) False) False)) (by kernel_rfl) ?_
 conv=>zeta
 try simp only [Zc]
 try simp only [Zj]
 try simp only [Zd]
 try simp only [Zk]
 try simp only [Zl]
 try simp only [Zb]
 try simp only [Int.toNat_natCast,Nat.zero_add,true_and,and_true,Nat.le_refl]
 have ht:(Zs.mk 1 0 0 0 o).tot=o:=by simp [Zs.tot]
 have hd:List.take n (Yo o xs)=xs.drop o:=by rw [Y6,List.take_of_length_le (by rw [List.length_drop];omega)]
 have hl:(xs.drop o).length=n:=by rw [List.length_drop];omega
 simp only [ht,hd,hl]
 subst hv ho hn'
 generalize F (xs.drop o)=p at*
 have e1:(!decide (p.1≤most))=false:=by simp [h1]
 have e2:(!decide (p.2≤(n:Int)))=false:=by simp [h2.2]
 have e3:ZV (some p.2.toNat)=p.2.toNat:=rfl
 have e4:Vm n (some p.2.toNat)=n-p.2.toNat:=rfl
 simp only [e1,e2,e3,e4]
 repeat' (first|(refine And.intro ?_ ?_)|intro _)
 all_goals first|omega|rfl|trivial|(exfalso;omega)|(rename_i h;simp at h;done)|(rename_i h;simp at h;omega)|(rename_i h _;simp at h;omega)
theorem Zgm (F:List Int→Int×Int) (xs:List Int) (o n:Nat) (most:Int) (hn:o+n=xs.length) (hm:0≤most) (h2:0<(F (xs.drop o)).2→most<(F (xs.drop o)).1):
  evF (E23 F) 20 128 [.ptr (some ⟨0,0,0,0,0⟩),.int .i64 most] ⟨2,[(0,.flat [.nslice ⟨1,0,0,0,o⟩ 1 n n,.bool true,.bool false]),(1,.ints .u8 xs)]⟩ (Y2 2 (.ret (.tuple [.int .i64 0,.int .i64 140])) 2 [(0,.flat [.nslice ⟨1,0,0,0,o⟩ 1 n n,.bool true,.bool true]),(1,.ints .u8 xs)]):=by
 refine @Eq.mpr _ (let q1:=Zs.tot (Zs.mk 1 0 0 0 o);
 let q2:=List.take n (Yo q1 xs);
 let q3:=F q2;
 let q4:=q3.snd;
 let q5:=q3.fst;
 let q6:=decide (n≤n);
 let q7:=Z0 (decide (o=o)) (Z0 (decide (n=n)) (Z0 q6 (xs=xs∧True) False) False) False;
 let q8:=decide (0≤q4∧q4≤ ↑n);
 Z0 (decide (most<0)) False (Z0 (decide (q1+n≤List.length xs)) (Z0 (decide (List.length q2=n)) (Z0 (decide (q4>0)) (Z0 (!decide (q5≤most)) q7 (Z0 (!decide (q4≤ ↑n)) q7 (Z0 q6 (Z0 q8 (Z0 q6 (Z0 q8 (Z0 (decide (q5=0)) False False) False) False) False) False))) q7) False) False)) (by kernel_rfl) ?_
 conv=>zeta
 try simp only [Zc]
 try simp only [Zj]
 try simp only [Zd]
 try simp only [Zk]
 try simp only [Zl]
 try simp only [Zb]
 try simp only [Int.toNat_natCast,Nat.zero_add,true_and,and_true,Nat.le_refl]
 have ht:(Zs.mk 1 0 0 0 o).tot=o:=by simp [Zs.tot]
 have hd:List.take n (Yo o xs)=xs.drop o:=by rw [Y6,List.take_of_length_le (by rw [List.length_drop];omega)]
 have hl:(xs.drop o).length=n:=by rw [List.length_drop];omega
 simp only [ht,hd,hl]
 generalize F (xs.drop o)=p at*
 repeat' (first|(refine And.intro ?_ ?_)|intro _)
 all_goals first|omega|rfl|trivial|(exfalso;omega)|(rename_i h;simp at h;done)|(rename_i h;simp at h;omega)|(rename_i h _;simp at h;omega)
theorem Zgn (xs hh:List Int) (o n o' n':Nat) (hn:o+n=xs.length) (h2:32≤n) (hh':hh=(xs.drop o).take 32) (ho:o'=o+32) (hn':n'=n-32):
  evF G0 20 129 [.ptr (some ⟨0,0,0,0,0⟩)] ⟨2,[(0,.flat [.nslice ⟨1,0,0,0,o⟩ 1 n n,.bool true,.bool false]),(1,.ints .u8 xs)]⟩ (Y2 2 (.ret (.tuple [.agg [.arr .u8 32 hh],.int .i64 0])) 2 [(0,.flat [.nslice ⟨1,0,0,0,o'⟩ 1 n' n',.bool true,.bool false]),(1,.ints .u8 xs)]):=by
 refine @Eq.mpr _ (let q1:=decide (n≤n);
 let q2:=decide ((0:Int)≤32∧32≤(↑n:Int));
 let q3:=Zs.tot (Zs.mk 1 0 0 0 (o+0));
 let q4:=Vm n (some 32);
 Z0 (!decide (32≤(↑n:Int))) (Z5=hh∧False) (Z0 q1 (Z0 q2 (Z0 q1 (Z0 q2 (Z0 (decide (u8=u8∧q3+32≤List.length xs)) (spl Z5 0 (List.take 32 (List.take 32 (Yo q3 xs)))=hh∧Z0 (decide (o+32=o')) (Z0 (decide (q4=n')) (Z0 (decide (n'≤q4)) (xs=xs∧True) False) False) False) False) False) False) False) False)) (by kernel_rfl) ?_
 conv=>zeta
 try simp only [Zc]
 try simp only [Zj]
 try simp only [Zd]
 try simp only [Zk]
 try simp only [Zl]
 try simp only [Zb]
 try simp only [Int.toNat_natCast,Nat.zero_add,true_and,and_true,Nat.le_refl]
 have ht:(Zs.mk 1 0 0 0 (o+0)).tot=o:=by simp [Zs.tot]
 have e4:Vm n (some 32)=n-32:=rfl
 have hl:((xs.drop o).take 32).length=32:=by rw [List.length_take,List.length_drop];omega
 have hd:List.take 32 (List.take 32 (Yo o xs))=(xs.drop o).take 32:=by rw [Y6,List.take_take];rfl
 have hs:spl Z5 0 ((xs.drop o).take 32)=(xs.drop o).take 32:=by
  unfold spl
  rw [List.take_zero,List.nil_append,hl]
  simp [Z5]
 simp only [ht,e4,hd,hs]
 subst hh' ho hn'
 repeat' (first|(refine And.intro ?_ ?_)|intro _)
 all_goals first|omega|rfl|trivial|(exfalso;omega)|(rename_i h;simp at h;done)|(rename_i h;simp at h;omega)|(rename_i h _;simp at h;omega)
theorem Zgo (xs:List Int) (o n:Nat) (hn:o+n=xs.length) (h2:n<32):
  evF G0 20 129 [.ptr (some ⟨0,0,0,0,0⟩)] ⟨2,[(0,.flat [.nslice ⟨1,0,0,0,o⟩ 1 n n,.bool true,.bool false]),(1,.ints .u8 xs)]⟩ (Y2 2 (.ret (.tuple [.agg [.arr .u8 32 Z5],.int .i64 140])) 2 [(0,.flat [.nslice ⟨1,0,0,0,o⟩ 1 n n,.bool true,.bool true]),(1,.ints .u8 xs)]):=by
 refine @Eq.mpr _ (let q1:=decide (n≤n);
 let q2:=decide ((0:Int)≤32∧32≤(↑n:Int));
 let q3:=Zs.tot (Zs.mk 1 0 0 0 (o+0));
 Z0 (!decide (32≤(↑n:Int))) (Z5=Z5∧Z0 (decide (o=o)) (Z0 (decide (n=n)) (Z0 q1 (xs=xs∧True) False) False) False) (Z0 q1 (Z0 q2 (Z0 q1 (Z0 q2 (Z0 (decide (u8=u8∧q3+32≤List.length xs)) (spl Z5 0 (List.take 32 (List.take 32 (Yo q3 xs)))=Z5∧False) False) False) False) False) False)) (by kernel_rfl) ?_
 conv=>zeta
 try simp only [Zc]
 try simp only [Zj]
 try simp only [Zd]
 try simp only [Zk]
 try simp only [Zl]
 try simp only [Zb]
 try simp only [Int.toNat_natCast,Nat.zero_add,true_and,and_true,Nat.le_refl]
 refine ⟨fun _=>trivial,fun h=> ?_⟩
 simp at h
 omega
def Z7o (F:List Int→Int×Int):ZQ:=fun args h K=>match args with
 | [.ptr (some ⟨r,0,0,0,0⟩),.int .i64 _]=>match h.get r with
  |some (.flat [.nslice ⟨b,0,0,0,_⟩ 1 _ _,.bool true,.bool false])=>frA [r,b] h 20 args fun Bs a=>match Bs,a with
   | [.flat [.nslice ⟨1,0,0,0,o⟩ 1 n n2,.bool true,.bool false],.ints .u8 xs],[.ptr (some ⟨0,0,0,0,0⟩),.int .i64 most]=>
    Zo (n=xs.length-o∧o≤xs.length∧n2=xs.length-o∧0≤most) ((∀v o',rdN F xs o most=some (v,o')→(o≤o'∧o'≤xs.length∧v≤most)→
     K (.ret (.tuple [.int .i64 v,.int .i64 0])) ⟨h.next,(r,.flat [.nslice ⟨b,0,0,0,o'⟩ 1 (xs.length-o') (xs.length-o'),.bool true,.bool false])::(b,.ints .u8 xs)::ZX (ZX h.bs r) b⟩)∧
     (rdN F xs o most=none→K (.ret (.tuple [.int .i64 0,.int .i64 140])) ⟨h.next,(r,.flat [.nslice ⟨b,0,0,0,o⟩ 1 (xs.length-o) (xs.length-o),.bool true,.bool true])::(b,.ints .u8 xs)::ZX (ZX h.bs r) b⟩))
   | _,_=>False
  | _=>False
 | _=>False
theorem ZaK (args:List AV) (h:Z7) (K:KO) (hl:Z7o (ZY ZB) args h K):Zg PP 128 args h K:=by
 unfold Z7o at hl
 split at hl
 ·split at hl
  ·refine Spec.fsumm hl fun Bs a hlen hK0=> ?_
   split at hK0
   ·rename_i o n n2 xs most
    obtain ⟨⟨rfl,h1,rfl,h3⟩,hK,hK'⟩:=Z9 hK0
    have hle:=Z8y ZB (xs.drop o)
    rw [List.length_drop] at hle
    by_cases hc:0<(ZY ZB (xs.drop o)).2∧(ZY ZB (xs.drop o)).1≤most
    ·have f1:o≤o+(ZY ZB (xs.drop o)).2.toNat∧o+(ZY ZB (xs.drop o)).2.toNat≤xs.length∧(ZY ZB (xs.drop o)).1≤most:=⟨by omega,by omega,hc.2⟩
     exact ⟨_,_,_,_,_,.evM ZaH (Zgl _ xs o (xs.length-o) (o+(ZY ZB (xs.drop o)).2.toNat) (xs.length-(o+(ZY ZB (xs.drop o)).2.toNat)) most _ (by omega) h3 ⟨hc.1,by omega⟩ hc.2 rfl rfl (by omega)),by simp,.ret _ _ rfl,.cons _ _ _ _ _ _ rfl (.flat _ _ rfl) (.cons _ _ _ _ _ _ rfl (.ints _ _) .nil),hK _ _ (by unfold rdN;rw [if_pos hc]) f1⟩
    ·exact ⟨_,_,_,_,_,.evM ZaH (Zgm _ xs o _ most (by omega) h3 (fun h=>by omega)),by simp,.ret _ _ rfl,.cons _ _ _ _ _ _ rfl (.flat _ _ rfl) (.cons _ _ _ _ _ _ rfl (.ints _ _) .nil),hK' (by unfold rdN;rw [if_neg hc])⟩
   ·exact hK0.elim
  ·exact hl.elim
 ·exact hl.elim
def Z3W:ZQ:=fun args h K=>match args with
 | [.ptr (some ⟨r,0,0,0,0⟩)]=>match h.get r with
  |some (.flat [.nslice ⟨b,0,0,0,_⟩ 1 _ _,.bool true,.bool false])=>frA [r,b] h 20 args fun Bs a=>match Bs,a with
   | [.flat [.nslice ⟨1,0,0,0,o⟩ 1 n n2,.bool true,.bool false],.ints .u8 xs],[.ptr (some ⟨0,0,0,0,0⟩)]=>
    Zo (n=xs.length-o∧o≤xs.length∧n2=xs.length-o) ((∀hh o',rdH xs o=some (hh,o')→(o≤o'∧o'≤xs.length∧hh.length=32)→
     K (.ret (.tuple [.agg [.arr .u8 32 hh],.int .i64 0])) ⟨h.next,(r,.flat [.nslice ⟨b,0,0,0,o'⟩ 1 (xs.length-o') (xs.length-o'),.bool true,.bool false])::(b,.ints .u8 xs)::ZX (ZX h.bs r) b⟩)∧
     (rdH xs o=none→K (.ret (.tuple [.agg [.arr .u8 32 Z5],.int .i64 140])) ⟨h.next,(r,.flat [.nslice ⟨b,0,0,0,o⟩ 1 (xs.length-o) (xs.length-o),.bool true,.bool true])::(b,.ints .u8 xs)::ZX (ZX h.bs r) b⟩))
   | _,_=>False
  | _=>False
 | _=>False
theorem Z8z (args:List AV) (h:Z7) (K:KO) (hl:Z3W args h K):Zg PP 129 args h K:=by
 unfold Z3W at hl
 split at hl
 ·split at hl
  ·refine Spec.fsumm hl fun Bs a hlen hK0=> ?_
   split at hK0
   ·rename_i o n n2 xs
    obtain ⟨⟨rfl,h1,rfl⟩,hK,hK'⟩:=Z9 hK0
    by_cases hc:o+32≤xs.length
    ·have f1:o≤o+32∧o+32≤xs.length∧((xs.drop o).take 32).length=32:=⟨by omega,hc,by rw [List.length_take,List.length_drop];omega⟩
     exact ⟨_,_,_,_,_,.evM Zu (Zgn xs _ o (xs.length-o) (o+32) (xs.length-(o+32)) (by omega) (by omega) rfl rfl (by omega)),by simp,.ret _ _ rfl,.cons _ _ _ _ _ _ rfl (.flat _ _ rfl) (.cons _ _ _ _ _ _ rfl (.ints _ _) .nil),hK _ _ (by unfold rdH;rw [if_pos hc]) f1⟩
    ·exact ⟨_,_,_,_,_,.evM Zu (Zgo xs o _ (by omega) (by omega)),by simp,.ret _ _ rfl,.cons _ _ _ _ _ _ rfl (.flat _ _ rfl) (.cons _ _ _ _ _ _ rfl (.ints _ _) .nil),hK' (by unfold rdH;rw [if_neg hc])⟩
   ·exact hK0.elim
  ·exact hl.elim
 ·exact hl.elim
end Go.Tk
end
section
namespace Go.Tk
open IntKind (i64 u8 u32 u64 wrap)
theorem ZaL {n c:Int} (h0:0≤n) (h1:n<36028797018963968) (h2:0≤c) (h3:c≤255):Z0n n c=256*n+c:=by
 unfold Z0n bOr ZK
 have e1:(n*2^(min (8:Int).toNat i64.bits))=n*256:=by simp [IntKind.bits]
 rw [e1,w64 (x:=n*256) (by omega)]
 obtain ⟨a,rfl⟩:=Int.eq_ofNat_of_zero_le h0
 obtain ⟨b,rfl⟩:=Int.eq_ofNat_of_zero_le h2
 have e2:((BitVec.ofInt i64.bits ((a:Int)*256))|||(BitVec.ofInt i64.bits (b:Int))).toNat=256*a+b:=by
  have ea:BitVec.ofInt 64 ((a:Int)*256)=BitVec.ofNat 64 (a*256):=by
   rw [←BitVec.ofInt_natCast];rfl
  have eb:BitVec.ofInt 64 (b:Int)=BitVec.ofNat 64 b:=BitVec.ofInt_natCast 64 b
  show (BitVec.ofInt 64 ((a:Int)*256)|||BitVec.ofInt 64 (b:Int)).toNat=_
  rw [ea,eb,BitVec.toNat_or,BitVec.toNat_ofNat,BitVec.toNat_ofNat,Nat.mod_eq_of_lt (by omega),Nat.mod_eq_of_lt (by omega)]
  have:=Nat.shiftLeft_add_eq_or_of_lt (a:=a) (b:=b) (i:=8) (by omega)
  rw [Nat.shiftLeft_eq] at this
  rw [←this];omega
 rw [e2,w64 (by omega)]
 omega
theorem Z6r {c:Int} (h2:0≤c) (h3:c≤255):Z0n 36028797018963968 c<0:=by
 have h:∀b:Fin 256,Z0n 36028797018963968 (b.val:Int)<0:=by decide+kernel
 have:=h ⟨c.toNat,by omega⟩
 have e:((c.toNat:Nat):Int)=c:=Int.toNat_of_nonneg h2
 rw [show ((⟨c.toNat,by omega⟩:Fin 256).val:Int)=c from e] at this
 exact this
theorem Z7p:∀(m:Nat) (xs:List Int) (k:Nat) (n:Int),Bytes xs→0≤n→n*256^m≤Qt m xs k n
 | 0,xs,k,n,hb,hn=>by simp [Qt]
 | m+1,xs,k,n,hb,hn=>by
  have hc:=hb.h k
  have:=Z7p m xs (k+1) (256*n+xs.getD k 0) hb (by omega)
  unfold Qt
  refine Int.le_trans ?_ this
  rw [Int.pow_succ,Int.mul_comm (256^m) 256,←Int.mul_assoc]
  exact Int.mul_le_mul_of_nonneg_right (by omega) (Int.le_of_lt (Int.pow_pos (by decide)))
theorem ZaM {a b:Nat} (h:a≤b):(256:Int)^a≤256^b:=by
 have h1:=Nat.pow_le_pow_right (n:=256) (by decide) h
 have h2:((256^a:Nat):Int)≤((256^b:Nat):Int):=Int.ofNat_le.2 h1
 rw [Int.natCast_pow,Int.natCast_pow] at h2
 exact h2
theorem Zgp (m:Nat):(1:Int)≤256^m:=Int.pow_pos (by decide)
theorem Z7q:∀(m:Nat) (xs:List Int) (k:Nat) (n:Int),Bytes xs→0≤n→m≤8→n<256^(8-m)→
  (goN m xs k n=none∧Qt m xs k n>4611686018427387904)∨(∃v,goN m xs k n=some v∧((v=Qt m xs k n∧0≤v)∨(v<0∧Qt m xs k n>4611686018427387904)))
 | 0,xs,k,n,hb,hn,hm,hl=>.inr ⟨n,rfl,.inl ⟨rfl,hn⟩⟩
 | m+1,xs,k,n,hb,hn,hm,hl=>by
  have hc:=hb.h k
  have hge:=Z7p (m+1) xs k n hb hn
  by_cases h1:n>36028797018963968
  ·left
   refine ⟨by unfold goN;rw [if_pos h1], ?_⟩
   have:=Zgp m
   rw [Int.pow_succ] at hge
   have h2:n*(1*256)≤n*(256^m*256):=Int.mul_le_mul_of_nonneg_left (Int.mul_le_mul_of_nonneg_right this (by decide)) hn
   omega
  ·unfold goN Qt
   rw [if_neg h1]
   have hw:i64.wrap (xs.getD k 0)=xs.getD k 0:=w64 (by omega)
   rw [hw]
   by_cases h2:n=36028797018963968
   ·subst h2
    have hm0:m=0:=by
     have hq:(36028797018963968:Int)=256^6*128:=by decide
     rcases Nat.eq_zero_or_pos m with h|h
     ·exact h
     ·exfalso
      have hle:(256:Int)^(8-(m+1))≤256^6:=ZaM (by omega)
      have:(256:Int)^6=281474976710656:=by decide
      omega
    subst hm0
    right
    refine ⟨_,rfl,.inr ⟨Z6r hc.1 hc.2, ?_⟩⟩
    show 256*36028797018963968+xs.getD k 0>_
    omega
   ·rw [ZaL hn (by omega) hc.1 hc.2]
    refine Z7q m xs (k+1) _ hb (by omega) (by omega) ?_
    have e:8-m=(8-(m+1))+1:=by omega
    rw [e,Int.pow_succ]
    omega
theorem Z01 {xs:List Int} (hb:Bytes xs) {m:Nat} (h:xs.length≠0) (hm:Xg (xs.getD 0 0)=m) (hm0:m≠0) (h8:m≤8) (hl:m<xs.length):
  ZY ZB xs=if Qt m xs 1 0>4611686018427387904 then ((0:Int),(-1:Int)) else if (ZB (Qt m xs 1 0)).length=1+m then (Qt m xs 1 0,1+(m:Int)) else ((0:Int),(-1:Int)):=by
 rw [V2 h hm hm0 hl]
 have hv:∀(m k:Nat) (n:Int),Qt m (xs.drop 1) k n=Qt m xs (k+1) n:=by
  intro m
  induction m with
  | zero=>intro k n;rfl
  | succ m ih=>
   intro k n
   unfold Qt
   rw [ih]
   congr 2
   rw [List.getD_eq_getElem?_getD,List.getD_eq_getElem?_getD,List.getElem?_drop,Nat.add_comm]
 have hv:=hv m 0 0
 rcases Z7q m (xs.drop 1) 0 0 (hb.drop 1) (by decide) h8 (Zgp _) with ⟨h1,h2⟩|⟨v,h1,h2⟩
 ·rw [h1,if_pos (by rw [←hv];exact h2)]
 ·rw [h1]
  rcases h2 with ⟨rfl,h0⟩|⟨h0,h2⟩
  ·rw [hv]
  ·show (if v>4611686018427387904 then ((0:Int),(-1:Int)) else if (ZB v).length=1+m then (v,1+(m:Int)) else (0, -1))=_
   rw [if_neg (by omega),if_neg,if_pos (by rw [←hv];exact h2)]
   rw [Z1T (by omega)]
   simp
   omega
end Go.Tk
end
section
namespace Go.Tk
open IntKind (i64 u8 u32 u64 wrap)
theorem Zgq (x:Int):u8.wrap x=x%256:=by
 have h:=ZfT x
 unfold wrap at*
 simp only [IntKind.signed,IntKind.bits] at*
 first|rfl|omega|simp
theorem Wx {n:Int} {k:Nat} (hk:k≤56):b8 n k=(n/2^k)%256:=by
 unfold b8 ZC
 have e:(2:Int)^(min ((k:Int)).toNat (IntKind.bits .i64))=2^k:=by
  have:min ((k:Int)).toNat (IntKind.bits .i64)=k:=by
   rw [Int.toNat_natCast]
   show min k 64=k
   omega
  rw [this]
 rw [e,Int.fdiv_eq_ediv_of_nonneg _ (Int.le_of_lt (Int.pow_pos (by decide)))]
 exact Zgq _
theorem Z6s {n:Int} (h:(ZB n).length=3):¬n<253∧n<65536:=by
 by_cases c1:n<253
 ·rw [Z1T c1] at h;simp at h
 ·by_cases c2:n<65536
  ·exact ⟨c1,c2⟩
  ·by_cases c3:n<4294967296
   ·rw [Z4W c1 c2 c3] at h;simp at h
   ·rw [Z4X c1 c2 c3] at h;simp at h
theorem Z8A {n:Int} (h:(ZB n).length=5):¬n<253∧¬n<65536∧n<4294967296:=by
 by_cases c1:n<253
 ·rw [Z1T c1] at h;simp at h
 ·by_cases c2:n<65536
  ·rw [Z4V c1 c2] at h;simp at h
  ·by_cases c3:n<4294967296
   ·exact ⟨c1,c2,c3⟩
   ·rw [Z4X c1 c2 c3] at h;simp at h
theorem Z8B {n:Int} (h:(ZB n).length=9):¬n<253∧¬n<65536∧¬n<4294967296:=by
 by_cases c1:n<253
 ·rw [Z1T c1] at h;simp at h
 ·by_cases c2:n<65536
  ·rw [Z4V c1 c2] at h;simp at h
  ·by_cases c3:n<4294967296
   ·rw [Z4W c1 c2 c3] at h;simp at h
   ·exact ⟨c1,c2,c3⟩
theorem ZaN {v a b:Int} (ha:0≤a∧a≤255) (hb:0≤b∧b≤255) (hv:v=256*(256*0+a)+b):[253,b8 v 8,b8 v 0]=[253,a,b]:=by
 rw [show b8 v 8=(v/2^8)%256 from Wx (k:=8) (by decide),show b8 v 0=(v/2^0)%256 from Wx (k:=0) (by decide)]
 congr 2
 ·omega
 ·congr 1;omega
theorem ZaO {v a b c d:Int} (ha:0≤a∧a≤255) (hb:0≤b∧b≤255) (hc:0≤c∧c≤255) (hd:0≤d∧d≤255) (hv:v=256*(256*(256*(256*0+a)+b)+c)+d):[254,b8 v 24,b8 v 16,b8 v 8,b8 v 0]=[254,a,b,c,d]:=by
 rw [show b8 v 24=(v/2^24)%256 from Wx (k:=24) (by decide),show b8 v 16=(v/2^16)%256 from Wx (k:=16) (by decide),show b8 v 8=(v/2^8)%256 from Wx (k:=8) (by decide),show b8 v 0=(v/2^0)%256 from Wx (k:=0) (by decide)]
 have e1:(v/2^24)%256=a:=by omega
 have e2:(v/2^16)%256=b:=by omega
 have e3:(v/2^8)%256=c:=by omega
 have e4:(v/2^0)%256=d:=by omega
 rw [e1,e2,e3,e4]
theorem ZaP {v a b c d e f g h:Int} (ha:0≤a∧a≤255) (hb:0≤b∧b≤255) (hc:0≤c∧c≤255) (hd:0≤d∧d≤255) (he:0≤e∧e≤255) (hf:0≤f∧f≤255) (hg:0≤g∧g≤255) (hh:0≤h∧h≤255) (hv:v=256*(256*(256*(256*(256*(256*(256*(256*0+a)+b)+c)+d)+e)+f)+g)+h):[255,b8 v 56,b8 v 48,b8 v 40,b8 v 32,b8 v 24,b8 v 16,b8 v 8,b8 v 0]=[255,a,b,c,d,e,f,g,h]:=by
 rw [show b8 v 56=(v/2^56)%256 from Wx (k:=56) (by decide),show b8 v 48=(v/2^48)%256 from Wx (k:=48) (by decide),show b8 v 40=(v/2^40)%256 from Wx (k:=40) (by decide),show b8 v 32=(v/2^32)%256 from Wx (k:=32) (by decide),show b8 v 24=(v/2^24)%256 from Wx (k:=24) (by decide),show b8 v 16=(v/2^16)%256 from Wx (k:=16) (by decide),show b8 v 8=(v/2^8)%256 from Wx (k:=8) (by decide),show b8 v 0=(v/2^0)%256 from Wx (k:=0) (by decide)]
 have e1:(v/2^56)%256=a:=by omega
 have e2:(v/2^48)%256=b:=by omega
 have e3:(v/2^40)%256=c:=by omega
 have e4:(v/2^32)%256=d:=by omega
 have e5:(v/2^24)%256=e:=by omega
 have e6:(v/2^16)%256=f:=by omega
 have e7:(v/2^8)%256=g:=by omega
 have e8:(v/2^0)%256=h:=by omega
 rw [e1,e2,e3,e4,e5,e6,e7,e8]
theorem Z59 {xs:List Int} {v k:Int} (hb:Bytes xs) (h:ZY ZB xs=(v,k)) (hk:0<k):xs.take k.toNat=ZB v∧0≤v:=by
 by_cases h0:xs.length=0
 ·rw [Q2 h0] at h;cases h;omega
 obtain ⟨c,r,rfl⟩:=List.exists_cons_of_ne_nil (l:=xs) (by intro e;rw [e] at h0;exact h0 rfl)
 have hc:0≤c∧c≤255:=hb.h 0
 have g (i:Nat):0≤r.getD i 0∧r.getD i 0≤255:=hb.h (i+1)
 by_cases c1:c=253
 ·by_cases hl:(c::r).length≤2
  ·rw [X4 h0 (Z7j c1) (by decide) hl] at h;cases h;omega
  rw [Z01 hb h0 (Z7j c1) (by decide) (by decide) (by omega)] at h
  split at h
  ·cases h;omega
  split at h
  case isFalse=>cases h;omega
  rename_i hn
  cases h
  have q:=Z6s hn
  match r,hl,g with
  | a::b::r,_,g=>
   refine ⟨?_,by have:=q.1;omega⟩
   rw [Z4V q.1 q.2,c1]
   exact (ZaN (g 0) (g 1) rfl).symm
  | [a],hl,_=>exact absurd (by simp) hl
  | [],hl,_=>exact absurd (by simp) hl
 by_cases c2:c=254
 ·by_cases hl:(c::r).length≤4
  ·rw [X4 h0 (Z7k c1 c2) (by decide) hl] at h;cases h;omega
  rw [Z01 hb h0 (Z7k c1 c2) (by decide) (by decide) (by omega)] at h
  split at h
  ·cases h;omega
  split at h
  case isFalse=>cases h;omega
  rename_i hn
  cases h
  have q:=Z8A hn
  match r,hl,g with
  | a::b::c'::d::r,_,g=>
   refine ⟨?_,by have:=q.1;omega⟩
   rw [Z4W q.1 q.2.1 q.2.2,c2]
   exact (ZaO (g 0) (g 1) (g 2) (g 3) rfl).symm
  | [a,b,c'],hl,_=>exact absurd (by simp) hl
  | [a,b],hl,_=>exact absurd (by simp) hl
  | [a],hl,_=>exact absurd (by simp) hl
  | [],hl,_=>exact absurd (by simp) hl
 by_cases c3:c=255
 ·by_cases hl:(c::r).length≤8
  ·rw [X4 h0 (Z7l c1 c2 c3) (by decide) hl] at h;cases h;omega
  rw [Z01 hb h0 (Z7l c1 c2 c3) (by decide) (by decide) (by omega)] at h
  split at h
  ·cases h;omega
  split at h
  case isFalse=>cases h;omega
  rename_i hn
  cases h
  have q:=Z8B hn
  match r,hl,g with
  | a::b::c'::d::e::f::g'::h::r,_,g=>
   refine ⟨?_,by have:=q.1;omega⟩
   rw [Z4X q.1 q.2.1 q.2.2,c3]
   exact (ZaP (g 0) (g 1) (g 2) (g 3) (g 4) (g 5) (g 6) (g 7) rfl).symm
  | [a,b,c',d,e,f,g'],hl,_=>exact absurd (by simp) hl
  | [a,b,c',d,e,f],hl,_=>exact absurd (by simp) hl
  | [a,b,c',d,e],hl,_=>exact absurd (by simp) hl
  | [a,b,c',d],hl,_=>exact absurd (by simp) hl
  | [a,b,c'],hl,_=>exact absurd (by simp) hl
  | [a,b],hl,_=>exact absurd (by simp) hl
  | [a],hl,_=>exact absurd (by simp) hl
  | [],hl,_=>exact absurd (by simp) hl
 ·have h2:(c::r).getD 0 0=c:=rfl
  rw [Q3 h0 (by rw [h2];exact Zdd c1 c2 c3),h2,w64 (by omega)] at h
  have e1:c=v:=congrArg Prod.fst h
  have e2:1=k:=congrArg Prod.snd h
  subst e1 e2
  have hlt:c<253:=by omega
  refine ⟨?_,hc.1⟩
  rw [Z1T hlt,Zgq]
  show [c]=[c%256]
  congr 1
  omega
theorem YS {xs:List Int} {v most:Int} {o p:Nat} (hb:Bytes xs) (h:rdN (ZY ZB) xs o most=some (v,p)):xs.drop o=ZB v++xs.drop p∧0≤v:=by
 unfold rdN at h
 split at h
 case isFalse=>cases h
 rename_i hc
 simp only [Option.some.injEq,Prod.mk.injEq] at h
 have hq:=Z59 (v:=(ZY ZB (xs.drop o)).1) (k:=(ZY ZB (xs.drop o)).2) (hb.drop o) rfl hc.1
 rw [h.1] at hq
 refine ⟨?_,hq.2⟩
 rw [←hq.1,←h.2,←List.drop_drop,List.take_append_drop]
theorem Z21 {xs hh:List Int} {o p:Nat} (h:rdH xs o=some (hh,p)):xs.drop o=hh++xs.drop p:=by
 unfold rdH at h
 split at h
 ·cases h
  rw [←List.drop_drop,List.take_append_drop]
 ·cases h
theorem Z5a {xs:List Int} {b:Bool} {o p:Nat} (hb:Bytes xs) (h:rdT xs o=some (b,p)):xs.drop o=[cond b 1 0]++xs.drop p:=by
 unfold rdT at h
 split at h
 case isFalse=>cases h
 rename_i hc
 cases h
 have hx:=hb.h o
 rw [List.getD_eq_getElem?_getD,List.getElem?_eq_getElem hc.1] at*
 rw [List.drop_eq_getElem_cons hc.1]
 show xs[o]::xs.drop (o+1)=[cond (xs[o]==1) 1 0]++xs.drop (o+1)
 have hx:0≤xs[o]∧xs[o]≤255:=hx
 have h1:xs[o]≤1:=hc.2
 by_cases hz:xs[o]=1
 ·rw [hz];rfl
 ·have:xs[o]=0:=by omega
  rw [this];rfl
end Go.Tk
end
section
namespace Go.Tk
open IntKind (i64 u8 u32 u64 wrap)
def amM (l:List Zh):Int:=(l.map fun m=>m.o.amount).sum
theorem Z22 (l:List Zh):(Y1 l).Perm l:=by
 have:=Vi (lt:=ltM) (l:=l) (acc:=[])
 rwa [List.nil_append] at this
theorem ZaQ {l m:List Int} (h:l.Perm m):l.sum=m.sum:=by
 induction h with
 | nil=>rfl
 | cons x _ ih=>simp [ih]
 | swap x y l=>simp;omega
 | trans _ _ h1 h2=>exact h1.trans h2
theorem ZaR (l:List Zh):amM (Y1 l)=amM l:=by
 unfold amM
 exact ZaQ ((Z22 l).map _)
theorem Z8C (L:List Zh):amL (YI L) L.length=L.map fun m=>m.o.amount:=by
 unfold amL YI
 refine List.ext_getElem (by simp) fun k h1 h2=> ?_
 simp at h1 h2
 simp [List.getD_eq_getElem?_getD,h1]
theorem Z8D {t:TxS} (h1:0≤t.num∧t.num≤2147483647) (h2:1≤t.N∧t.N≤24) (h3:1≤t.M∧t.M≤24) (h4:∀i,i<t.N→Ya (t.ins i)=true) (h5:∀i j,i<t.N→j<i→(t.ins j).index≠(t.ins i).index) (h6:∀i,i<t.M→Yb (t.outs i)=true) (h7:Zea t t.M≤1125899906842624):Yt ZS t=true:=by
 rw [←Z8r]
 unfold Z6i
 simp only [Bool.and_eq_true,decide_eq_true_eq,List.all_eq_true,List.mem_range]
 refine ⟨⟨⟨⟨⟨h1,h2⟩,h3⟩,fun i hi=> ?_⟩,h6⟩,h7⟩
 unfold okI
 rw [h4 i hi,Bool.true_and]
 simp only [Bool.not_eq_true',List.any_eq_false,List.mem_range]
 intro j hj hs
 exact h5 i j hi hj (Q0.1 hs).2
structure Zq.All (t:Zq):Prop where
 ok:t.Ok
 fl:t.fund.length=32
 fb:Bytes t.fund
def txC (t:Zq) (a b fee:Int):TxS:=⟨2147483647,1,fun _=>Z2j t,(Y1 (clL t a b fee)).length,YI (Y1 (clL t a b fee))⟩
def ZW (t:Zq) (a b fee:Int):Int:=if clB ZS t a b fee=true then (if (clL t a b fee).length=0 then 180 else 0) else 2
theorem ZaS {t:Zq} {a b fee:Int} (h:ZW t a b fee=0):clB ZS t a b fee=true∧(clL t a b fee).length≠0:=by
 unfold ZW at h
 split at h
 ·rename_i h1
  split at h
  ·cases h
  ·exact ⟨h1,by assumption⟩
 ·cases h
theorem Z7r {t:Zq} {a b fee:Int} (h1:clB ZS t a b fee=true) (h2:(clL t a b fee).length≠0):ZW t a b fee=0:=by
 unfold ZW;rw [if_pos h1,if_neg h2]
theorem Qv {t:Zq} (h:YN t=true):(0≤t.index∧t.index≤23)∧(1000≤t.cap∧t.cap≤1125899906842624)∧(1≤t.dust∧t.dust≤500)∧(0≤t.fee∧t.fee≤400)∧(1≤t.delay∧t.delay≤1000)∧t.k0≠t.k1:=by
 unfold YN at h
 simp only [Bool.and_eq_true,decide_eq_true_eq,bne_iff_ne,ne_eq] at h
 obtain ⟨⟨⟨⟨⟨h1,h2⟩,h3⟩,h4⟩,h5⟩,h6⟩:=h
 exact ⟨h1,h2,h3,h4,h5,h6⟩
theorem Z7s {t:Zq} {a b fee:Int} {m:Zh} (h:m∈clL t a b fee):(t.dust≤a-fee∧m=⟨⟨1,a-fee,t.k0,Z5,Z5,Z5,0,0⟩,0,0⟩)∨(t.dust≤b∧m=⟨⟨1,b,t.k1,Z5,Z5,Z5,0,0⟩,1,0⟩):=by
 unfold clL at h
 rw [List.mem_append] at h
 rcases h with h|h<;>split at h<;>simp at h
 ·exact .inl ⟨by assumption,h⟩
 ·exact .inr ⟨by assumption,h⟩
theorem Z3X {t:Zq} {a b fee:Int}:(clL t a b fee).length≤2:=by
 unfold clL
 rw [List.length_append]
 split<;>split<;>simp
theorem ZcE {t:Zq} {a b fee:Int} (h:clB ZS t a b fee=true):amM (clL t a b fee)≤t.cap:=by
 obtain ⟨k1,⟨⟨k2,_⟩,⟨k3,_⟩⟩,k4,k5⟩:=Ue.1 h
 unfold clL amM
 split<;>split<;>simp<;>omega
theorem ZaT {L:List Zh} {i:Nat} (h:i<L.length):∃m∈L,YI L i=m.o:=⟨L[i],List.getElem_mem h,by
 show (L.getD i Ym).o=_
 rw [List.getD_eq_getElem?_getD,List.getElem?_eq_getElem h];rfl⟩
theorem Z7t {t:Zq} {a b fee:Int} {i:Nat} (h:i<(txC t a b fee).M):∃m∈clL t a b fee,(txC t a b fee).outs i=m.o:=by
 obtain ⟨m,hm,e⟩:=ZaT (L:=Y1 (clL t a b fee)) h
 exact ⟨m,(Z22 _).mem_iff.1 hm,e⟩
theorem Z23 {t:Zq} {a b fee:Int} (ht:t.Ok) (hf:t.fund.length=32):(txC t a b fee).Ok:=by
 have hl:(Y1 (clL t a b fee)).length≤2:=by rw [X7];exact Z3X
 refine ⟨by show (1:Nat)<_;decide,by show (Y1 _).length<_;omega,fun i _=>⟨hf,rfl,rfl,rfl⟩,fun i hi=> ?_⟩
 obtain ⟨m,hm,e⟩:=Z7t hi
 rw [e]
 rcases Z7s hm with ⟨_,rfl⟩|⟨_,rfl⟩
 ·exact ⟨ht.k0,rfl,rfl,rfl⟩
 ·exact ⟨ht.k1,rfl,rfl,rfl⟩
theorem Z24 {t:Zq} {a b fee:Int} (h:ZW t a b fee=0):Yt ZS (txC t a b fee)=true:=by
 obtain ⟨hb,hn⟩:=ZaS h
 obtain ⟨kt,⟨⟨k2,k2'⟩,⟨k3,k3'⟩⟩,k4,k5⟩:=Ue.1 hb
 have kd:=Qv kt
 have hl:(Y1 (clL t a b fee)).length=(clL t a b fee).length:=X7
 have hl2:=Z3X (t:=t) (a:=a) (b:=b) (fee:=fee)
 refine Z8D ⟨by show (0:Int)≤2147483647;decide,by show (2147483647:Int)≤2147483647;decide⟩ ⟨Nat.le_refl _,by show (1:Nat)≤24;decide⟩ ⟨by show 1≤(Y1 (clL t a b fee)).length;omega,by show (Y1 (clL t a b fee)).length≤24;omega⟩ (fun i hi=> ?_) (fun i j hi hj=> ?_) (fun i hi=> ?_) ?_
 ·show Ya (Z2j t)=true
  unfold Ya Z2j
  simp
  omega
 ·have hi:i<1:=hi
  omega
 ·obtain ⟨m,hm,e⟩:=Z7t hi
  rw [e]
  rcases Z7s hm with ⟨_,rfl⟩|⟨_,rfl⟩
  ·unfold Yb;simp;omega
  ·unfold Yb;simp;omega
 ·show (amL (YI (Y1 (clL t a b fee))) (Y1 (clL t a b fee)).length).sum≤_
  rw [Z8C]
  have e:amM (Y1 (clL t a b fee))=((Y1 (clL t a b fee)).map fun m=>m.o.amount).sum:=rfl
  have:=ZcE hb
  rw [←e,ZaR]
  omega
def ZaU (t:Zq) (side:Int):List Int:=if side=0 then t.k0 else t.k1
def Z39 (n least most:Int):Int:=max least (min most n)
structure ZaV (k:ClS):Prop where
 t:YN k.t=true
 side:k.side=0∨k.side=1
 a0:0≤k.a0
 a1:0≤k.a1
 sum:k.a0+k.a1=k.t.cap
 lo:0≤k.least
 lm:k.least≤k.most
 hi:k.most≤k.a0
structure Xc (k:ClS):Prop where
 made:ZaV k
 off:k.offers=true→k.least≤k.last∧k.last≤k.most
 nof:k.offers=false→k.last=0
 agr:k.agrees=true→k.offers=true∧k.fee=k.last∧ZW k.t k.a0 k.a1 k.fee=0
 nag:k.agrees=false→k.fee=0
theorem Xc.fee_le {k:ClS} (h:Xc k):(0≤k.last∧k.last≤k.a0)∧(0≤k.fee∧k.fee≤k.a0):=by
 obtain ⟨⟨h1,h2,h3,h4,h5,h6,h7,h8⟩,ho,hn,ha,hg⟩:=h
 have q1:0≤k.last∧k.last≤k.a0:=by
  cases e:k.offers
  ·have:=hn e;omega
  ·have:=ho e;omega
 refine ⟨q1, ?_⟩
 cases e:k.agrees
 ·have:=hg e;omega
 ·have:=ha e;omega
theorem Xc.num {k:ClS} (h:Xc k):ZaF 4611686018427387904 k:=by
 have hf:=h.fee_le
 obtain ⟨h1,h2,h3,h4,h5,h6,h7,h8⟩:=h.made
 have hd:=Qv h1
 refine ⟨?_, ?_, ?_, ?_, ?_, ?_, ?_, ?_, ?_, ?_, ?_, ?_⟩<;>omega
end Go.Tk
end
section
namespace Go.Tk
open IntKind (i64 u8 u32 u64 wrap)
theorem ZD.evV {G:Ze} (hG:G.Ok) {n:Nat} {f:FuncId} {args:List AV} {v:AV} (h:evF G n f args ⟨0,[]⟩ (Uh fun u=>u=v)):ZD G.P f args v 0 []:=by
 intro E w rs he hr
 refine (Yw hG h E w rs he hr).mono ?_
 rintro e w' ⟨E₁,o,h',hK0,hev,hor⟩
 cases hor with
 | panic u r hr=>exact hK0.elim
 | ret u r hr=>
  unfold Uh at hK0
  simp only at hK0
  split at hK0
  ·rename_i hu
   subst hK0
   refine ⟨E,r,rfl,⟨.refl E,⟨he.fresh,fun x B hx=>by simp [Z7.get,ZH] at hx,fun x B hx=>by simp [Z7.get,ZH] at hx,fun x y B B' b N N' hx=>by simp [Z7.get,ZH] at hx,fun a c hi=>hev.emb.imm a c (hev.le.imm a c hi),fun a c x B N _ hx=>by simp [Z7.get,ZH] at hx⟩,hev.size,hev.os,hev.tape,hev.output,hev.keep,fun b hb=> ?_,fun _ _ h=>h⟩,Za.vplain (E:=E₁) (E':=E) (fun a c hi=>hev.imm a c hi) _ _ hu hr⟩
   obtain ⟨x,B,N,hx,_⟩:=hb
   simp [Z7.get,ZH] at hx
  ·exact hK0.elim
def YO (A:List Int→Int×Int) (k:ClS):Bool:=YN k.t&&decide (0≤k.side∧k.side≤1)&&decide ((A [k.a0,k.a1]).2=0)&&decide ((A [k.a0,k.a1]).1=k.t.cap)&&decide (0≤k.least∧k.least≤k.most)&&decide (k.most≤k.a0)
theorem V3 {k:ClS}:YO ZS k=true↔ZaV k:=by
 unfold YO
 simp only [Bool.and_eq_true,decide_eq_true_eq]
 constructor
 ·rintro ⟨⟨⟨⟨⟨h1,h2⟩,h3⟩,h4⟩,h5⟩,h6⟩
  have:=Ue.1 (Ud.2 ⟨h1,h3,h4,(⟨Int.le_refl 0,by omega⟩:(0:Int)≤0∧0≤k.a0)⟩)
  exact ⟨h1,by omega,this.2.1.1.1,this.2.1.2.1,this.2.2.1,h5.1,h5.2,h6⟩
 ·rintro ⟨h1,h2,h3,h4,h5,h6,h7,h8⟩
  have hd:=Qv h1
  have:=Ud.1 (Ue.2 ⟨h1,⟨⟨h3,by omega⟩,h4,by omega⟩,h5,(⟨Int.le_refl 0,h3⟩:(0:Int)≤0∧0≤k.a0)⟩)
  exact ⟨⟨⟨⟨⟨h1,by omega⟩,this.2.1⟩,this.2.2.1⟩,⟨h6,h7⟩⟩,h8⟩
noncomputable def Zgr (A:List Int→Int×Int):Ze:=(G0.withP 44 Z53).withP 74 (Z79 A)
theorem ZcF:(Zgr ZS).Ok:=Ze.withP_ok (Ze.withP_ok Zu Z1X) Z1R
theorem Zgs (A:List Int→Int×Int) (k:ClS) (b:Bool) (ht:k.t.Ok) (hb:b=YO A k):
  evF (Zgr A) 20 30 [.agg k.c] ⟨0,[]⟩ (Uh fun v=>v=.bool b):=by
 refine @Eq.mpr _ (let q1:=k.t;
 let q2:=q1.cap;
 let q3:=Zq.mk q1.fund q1.index q2 q1.dust q1.fee q1.delay q1.k0 q1.k1;
 let q4:=A [k.a0,k.a1];
 let q5:=AV.bool false=AV.bool b;
 Zq.Ok q3∧Z0 ((if YN q3=true then (0:Int) else (2:Int))==(0:Int)) (Z0 (decide ((0:Int)≤k.side)) (Z0 (decide (k.side≤(1:Int))) (Z0 (q4.snd==(0:Int)) (Z0 (q4.fst==q2) (Z0 (decide ((0:Int)≤k.least)) (Z0 (decide (k.least≤k.most)) (AV.bool (decide (k.most≤k.a0))=AV.bool b) q5) q5) q5) q5) q5) q5) q5) (by kernel_rfl) ?_
 conv=>zeta
 try simp only [Zc]
 try simp only [Zj]
 try simp only [Zd]
 try simp only [Zk]
 try simp only [Zl]
 try simp only [Zb]
 try simp only [Int.toNat_natCast,Nat.zero_add,true_and,and_true,Nat.le_refl]
 have e0:Zq.mk k.t.fund k.t.index k.t.cap k.t.dust k.t.fee k.t.delay k.t.k0 k.t.k1=k.t:=rfl
 simp only [e0]
 subst hb
 refine ⟨ht, ?_⟩
 unfold YO
 cases YN k.t<;>by_cases c1:0≤k.side<;>by_cases c2:k.side≤1<;>by_cases c3:(A [k.a0,k.a1]).2=0<;>by_cases c4:(A [k.a0,k.a1]).1=k.t.cap<;>by_cases c5:0≤k.least<;>by_cases c6:k.least≤k.most<;>simp [c1,c2,c3,c4,c5,c6]
end Go.Tk
end
section
namespace Go.Tk
open IntKind (i64 u8 u32 u64 wrap)
end Go.Tk
end
section
namespace Go.Tk
open IntKind (i64 u8 u32 u64 wrap)
theorem Bytes.takeB {xs:List Int} (h:Bytes xs) (n:Nat):Bytes (xs.take n):=⟨fun i=>by
 by_cases hi:i<n
 ·have:=h.h i
  rwa [List.getD_eq_getElem?_getD,List.getElem?_take_of_lt hi,←List.getD_eq_getElem?_getD]
 ·rw [List.getD_eq_getElem?_getD,List.getElem?_eq_none (by rw [List.length_take];omega)]
  exact ⟨Int.le_refl 0,by decide⟩⟩
def Xs (F:List Int→Int×Int) (xs:List Int):Option (ClS×Nat):=
 (rdH xs 0).bind fun v0=>
 (rdN F xs v0.2 1125899906842624).bind fun v1=>
 (rdN F xs v1.2 1125899906842624).bind fun v2=>
 (rdN F xs v2.2 1125899906842624).bind fun v3=>
 (rdN F xs v3.2 1125899906842624).bind fun v4=>
 (rdN F xs v4.2 1125899906842624).bind fun v5=>
 (rdH xs v5.2).bind fun v6=>
 (rdH xs v6.2).bind fun v7=>
 (rdN F xs v7.2 1125899906842624).bind fun v8=>
 (rdN F xs v8.2 1125899906842624).bind fun v9=>
 (rdN F xs v9.2 1125899906842624).bind fun v10=>
 (rdN F xs v10.2 1125899906842624).bind fun v11=>
 (rdN F xs v11.2 1125899906842624).bind fun v12=>
 (rdT xs v12.2).bind fun v13=>
 (rdN F xs v13.2 1125899906842624).bind fun v14=>
 (rdT xs v14.2).bind fun v15=>
 (rdN F xs v15.2 1125899906842624).bind fun v16=>
 some (⟨⟨v0.1,v1.1,v2.1,v3.1,v4.1,v5.1,v6.1,v7.1⟩,v8.1,v9.1,v10.1,v11.1,v12.1,v13.1,v14.1,v15.1,v16.1⟩,v16.2)
theorem Z5b {F:List Int→Int×Int} {xs:List Int} {k:ClS} {p:Nat} (h:Xs F xs=some (k,p)):∃o0 o1 o2 o3 o4 o5 o6 o7 o8 o9 o10 o11 o12 o13 o14 o15 o16,rdH xs 0=some (k.t.fund,o0)∧rdN F xs o0 1125899906842624=some (k.t.index,o1)∧rdN F xs o1 1125899906842624=some (k.t.cap,o2)∧rdN F xs o2 1125899906842624=some (k.t.dust,o3)∧rdN F xs o3 1125899906842624=some (k.t.fee,o4)∧rdN F xs o4 1125899906842624=some (k.t.delay,o5)∧rdH xs o5=some (k.t.k0,o6)∧rdH xs o6=some (k.t.k1,o7)∧rdN F xs o7 1125899906842624=some (k.side,o8)∧rdN F xs o8 1125899906842624=some (k.a0,o9)∧rdN F xs o9 1125899906842624=some (k.a1,o10)∧rdN F xs o10 1125899906842624=some (k.least,o11)∧rdN F xs o11 1125899906842624=some (k.most,o12)∧rdT xs o12=some (k.offers,o13)∧rdN F xs o13 1125899906842624=some (k.last,o14)∧rdT xs o14=some (k.agrees,o15)∧rdN F xs o15 1125899906842624=some (k.fee,o16)∧o16=p:=by
 unfold Xs at h
 simp only [Option.bind_eq_some_iff] at h
 obtain ⟨⟨v0,o0⟩,h0,⟨v1,o1⟩,h1,⟨v2,o2⟩,h2,⟨v3,o3⟩,h3,⟨v4,o4⟩,h4,⟨v5,o5⟩,h5,⟨v6,o6⟩,h6,⟨v7,o7⟩,h7,⟨v8,o8⟩,h8,⟨v9,o9⟩,h9,⟨v10,o10⟩,h10,⟨v11,o11⟩,h11,⟨v12,o12⟩,h12,⟨v13,o13⟩,h13,⟨v14,o14⟩,h14,⟨v15,o15⟩,h15,⟨v16,o16⟩,h16,he⟩:=h
 cases he
 exact ⟨o0,o1,o2,o3,o4,o5,o6,o7,o8,o9,o10,o11,o12,o13,o14,o15,o16,h0,h1,h2,h3,h4,h5,h6,h7,h8,h9,h10,h11,h12,h13,h14,h15,h16,rfl⟩
theorem ZaW {xs:List Int} {k:ClS} (hb:Bytes xs) (h:Xs (ZY ZB) xs=some (k,xs.length)):Vl ZB k=xs:=by
 obtain ⟨o0,o1,o2,o3,o4,o5,o6,o7,o8,o9,o10,o11,o12,o13,o14,o15,o16,r0,r1,r2,r3,r4,r5,r6,r7,r8,r9,r10,r11,r12,r13,r14,r15,r16,he⟩:=Z5b h
 have q0:=Z21 r0
 have q1:=(YS hb r1).1
 have q2:=(YS hb r2).1
 have q3:=(YS hb r3).1
 have q4:=(YS hb r4).1
 have q5:=(YS hb r5).1
 have q6:=Z21 r6
 have q7:=Z21 r7
 have q8:=(YS hb r8).1
 have q9:=(YS hb r9).1
 have q10:=(YS hb r10).1
 have q11:=(YS hb r11).1
 have q12:=(YS hb r12).1
 have q13:=Z5a hb r13
 have q14:=(YS hb r14).1
 have q15:=Z5a hb r15
 have q16:=(YS hb r16).1
 have hd0:xs.drop o16=[]:=by rw [he,List.drop_length]
 rw [List.drop_zero] at q0
 unfold Vl tru
 rw [hd0,List.append_nil] at q16
 simp only [List.append_assoc]
 rw [←q16,←q15,←q14,←q13,←q12,←q11,←q10,←q9,←q8,←q7,←q6,←q5,←q4,←q3,←q2,←q1,←q0]
theorem Z6t {xs v:List Int} {o p:Nat} (hb:Bytes xs) (h:rdH xs o=some (v,p)):v.length=32∧Bytes v:=by
 unfold rdH at h
 split at h
 ·cases h
  exact ⟨by rw [List.length_take,List.length_drop];omega,(hb.drop o).takeB 32⟩
 ·cases h
theorem Z5c {xs:List Int} {k:ClS} {p:Nat} (hb:Bytes xs) (h:Xs (ZY ZB) xs=some (k,p)):k.t.All:=by
 obtain ⟨o0,o1,o2,o3,o4,o5,o6,o7,o8,o9,o10,o11,o12,o13,o14,o15,o16,r0,r1,r2,r3,r4,r5,r6,r7,r8,r9,r10,r11,r12,r13,r14,r15,r16,he⟩:=Z5b h
 have a:=Z6t hb r0
 have b:=Z6t hb r6
 have c:=Z6t hb r7
 exact ⟨⟨b.1,c.1,b.2,c.2⟩,a.1,a.2⟩
end Go.Tk
end
section
namespace Go.Tk
open IntKind (i64 u8 u32 u64 wrap)
inductive Qw (cs:List AV) (k:ClS):Prop
 | mk:cs=k.c→Qw cs k
def ZcG (A:List Int→Int×Int):ZZ:=fun args h K=>ZL none h true 20 args fun a=>match a with
 | [.agg cs]=>∃k,Qw cs k∧k.t.Ok∧K (.bool (YO A k))
 | _=>False
theorem Z7u (args:List AV) (h:Z7) (K:AV→Prop) (hl:ZcG ZS args h K):Zg PP 30 args h fun o h'=>∃v,o=.ret v∧h'=h∧K v:=by
 refine ZD.psumm (d:=20) (Zn _ _ _ _ _ hl fun a ha=> ?_)
 split at ha
 ·obtain ⟨k,⟨rfl⟩,ht,hK⟩:=ha
  exact ⟨_,ZD.evV ZcF (Zgs _ k _ ht rfl),fun _=>rfl,hK⟩
 ·exact ha.elim
theorem Zgt (A:List Int→Int×Int) (k:ClS) (fee e:Int) (hA:A=ZS) (ht:k.t.Ok) (ha:k.a0<9223372036854775808) (he:e=ZW k.t k.a0 k.a1 fee):
  evF (G0.withF 42 (clF A)) 20 38 [.agg k.c,.int .i64 fee] ⟨0,[]⟩ (Y2 0 (.ret (.tuple [.top,.int .i64 e])) 0 []):=by
 refine @Eq.mpr _ (let q1:=k.t;
 let q2:=Zq.mk q1.fund q1.index q1.cap q1.dust q1.fee q1.delay q1.k0 q1.k1;
 Zq.Ok q2∧
 ∃(a:Int),
 ∃(b:Int),
 let q5:=clB A q2 a b fee;
 let q6:=clL q2 a b fee;
 [k.a0,k.a1]=[a,b]∧a<9223372036854775808∧(q5=false→Z0 (decide (2=e)) True False)∧(q5=true→(List.length q6=0→Z0 (decide (180=e)) True False)∧∀(n:Nat) (L:List Zh),L=Y1 q6→n=List.length L→n≠0→Z0 (decide (0=e)) True False)) (by kernel_rfl) ?_
 conv=>zeta
 try simp only [Zc]
 try simp only [Zj]
 try simp only [Zd]
 try simp only [Zk]
 try simp only [Zl]
 try simp only [Zb]
 try simp only [Int.toNat_natCast,Nat.zero_add,true_and,and_true,Nat.le_refl]
 subst hA he
 refine ⟨ht,k.a0,k.a1,rfl,ha,fun h=> ?_,fun h=>⟨fun h2=> ?_,fun n L hL hn hn0=> ?_⟩⟩
 ·have h:clB ZS k.t k.a0 k.a1 fee=false:=h
  unfold ZW
  rw [h];rfl
 ·unfold ZW
  rw [if_pos h,if_pos h2]
 ·refine (Z7r h ?_).symm
  subst hn hL
  rw [X7] at hn0
  exact hn0
def Zgu:ZQ:=fun args h K=>ZL none h true 20 args fun a=>match a with
 | [.agg cs,.int .i64 fee]=>∃k,Qw cs k∧(k.t.Ok∧k.a0<9223372036854775808)∧K (.ret (.tuple [.top,.int .i64 (ZW k.t k.a0 k.a1 fee)])) h
 | _=>False
theorem ZcH (args:List AV) (h:Z7) (K:KO) (hl:Zgu args h K):Zg PP 38 args h K:=by
 refine ZD.fsumm (d:=20) (Zn _ _ _ _ _ hl fun a ha=> ?_)
 split at ha
 ·obtain ⟨k,⟨rfl⟩,⟨ht,ha⟩,hK⟩:=ha
  exact ⟨_,_,_,_,.evM (Ze.withF_ok Zu Z6n) (Zgt _ k _ _ rfl ht ha rfl),rfl,trivial,hK⟩
 ·exact ha.elim
def clK (ok:Bool) (k:ClS):KO:=fun o h=>match o with
 | .ret (.tuple [.ptr none,.int .i64 _])=>Z0 ok False (Y2 0 (.ret (.tuple [.ptr none,.int .i64 253])) 0 [] o h)
 | .ret (.tuple [.ptr (some _),.int .i64 _])=>Z0 ok (Y2 0 (.ret (.tuple [.ptr (some ⟨0,0,0,0,0⟩),.int .i64 0])) 1 [(0,.flat (k.c++[.bool true]))] o h) False
 | _=>False
end Go.Tk
end
section
namespace Go.Tk
open IntKind (i64 u8 u32 u64 wrap)
def Xj (Tg:List Int→TxS→List Int) (k:ClS) (fee sd:Int):List Int:=if ZW k.t k.a0 k.a1 fee=0 then Tg (ZaU k.t sd) (txC k.t k.a0 k.a1 fee) else Z5
theorem Z3Y {Tg:List Int→TxS→List Int} {k:ClS} {fee sd:Int} (h:ZW k.t k.a0 k.a1 fee=0):Xj Tg k fee sd=Tg (ZaU k.t sd) (txC k.t k.a0 k.a1 fee):=if_pos h
theorem Z3Z {k:ClS} {fee:Int} (h:clB ZS k.t k.a0 k.a1 fee=false):ZW k.t k.a0 k.a1 fee=2:=by unfold ZW;rw [h];rfl
theorem Qx {k:ClS} {fee:Int} (h:clB ZS k.t k.a0 k.a1 fee=true) (h2:(clL k.t k.a0 k.a1 fee).length=0):ZW k.t k.a0 k.a1 fee=180:=by unfold ZW;rw [if_pos h,if_pos h2]
theorem Qy {k:ClS} {fee:Int} {n:Nat} {L:List Zh} (h:clB ZS k.t k.a0 k.a1 fee=true) (hL:L=Y1 (clL k.t k.a0 k.a1 fee)) (hn:n=L.length) (h0:n≠0):ZW k.t k.a0 k.a1 fee=0:=Z7r h (by subst hn hL;rw [X7] at h0;exact h0)
theorem Z25 (t:Zq) (i:Nat) (hi:i<1):ZO [AV.arr u8 32 t.fund,AV.int i64 t.index,AV.int i64 1,AV.arr u8 32 Z5,AV.arr u8 32 Z5,AV.arr u8 32 Z5] 0 130 i=InS.c (Z2j t):=by
 have:i=0:=by omega
 subst this;rfl
def clZ:ClS:=⟨⟨Z5,0,0,0,0,0,Z5,Z5⟩,0,0,0,0,0,false,0,false,0⟩
end Go.Tk
end
section
namespace Go.Tk
open IntKind (i64 u8 u32 u64 wrap)
theorem Z7v:∀(n a b:Nat),a<2^n→b<2^n→2*(a&&&b)+(a^^^b)=a+b
 | 0,a,b,ha,hb=>by
  have:a=0:=by simpa using ha
  have:b=0:=by simpa using hb
  subst_vars;rfl
 | n+1,a,b,ha,hb=>by
  have ih:=Z7v n (a/2) (b/2) (by rw [Nat.pow_succ] at ha;omega) (by rw [Nat.pow_succ] at hb;omega)
  have h1:(a&&&b)/2=(a/2)&&&(b/2):=Nat.and_div_two
  have h2:(a^^^b)/2=(a/2)^^^(b/2):=Nat.xor_div_two
  rw [←h1,←h2] at ih
  have h3:(a^^^b)%2^1=(a%2^1)^^^(b%2^1):=Nat.xor_mod_two_pow
  rw [Nat.pow_one] at h3
  have h6:(a%2)^^^(b%2)=(a%2+b%2)%2:=by
   rcases Nat.mod_two_eq_zero_or_one a with e|e<;>rcases Nat.mod_two_eq_zero_or_one b with f|f<;>rw [e,f]<;>rfl
  rw [h6] at h3
  have h4:(a&&&b)%2=1↔a%2=1∧b%2=1:=Nat.and_mod_two_eq_one
  have h5:(a&&&b)%2<2:=Nat.mod_lt _ (by decide)
  omega
theorem Zer {a b:Int} (ha:0≤a∧a≤1125899906842624) (hb:0≤b∧b≤1125899906842624):i64.wrap (Z0r .i64 a b+ZC .i64 (XG .i64 a b) 1)=(a+b).tdiv 2:=by
 obtain ⟨x,rfl⟩:=Int.eq_ofNat_of_zero_le ha.1
 obtain ⟨y,rfl⟩:=Int.eq_ofNat_of_zero_le hb.1
 have hx:x<2^51:=by have:=ha.2;omega
 have hy:y<2^51:=by have:=hb.2;omega
 have hm:=Z7v 51 x y hx hy
 have hand:x&&&y<2^51:=Nat.and_lt_two_pow x hy
 have hxor:x^^^y<2^51:=Nat.xor_lt_two_pow hx hy
 have e1:Z0r .i64 (x:Int) (y:Int)=((x&&&y:Nat):Int):=by
  unfold Z0r
  show i64.wrap (((BitVec.ofInt 64 (x:Int)&&&BitVec.ofInt 64 (y:Int)).toNat:Nat):Int)=_
  rw [BitVec.ofInt_natCast,BitVec.ofInt_natCast,BitVec.toNat_and,BitVec.toNat_ofNat,BitVec.toNat_ofNat,Nat.mod_eq_of_lt (by omega),Nat.mod_eq_of_lt (by omega)]
  rw [w64 (by omega)]
 have e2:XG .i64 (x:Int) (y:Int)=((x^^^y:Nat):Int):=by
  unfold XG
  show i64.wrap (((BitVec.ofInt 64 (x:Int)^^^BitVec.ofInt 64 (y:Int)).toNat:Nat):Int)=_
  rw [BitVec.ofInt_natCast,BitVec.ofInt_natCast,BitVec.toNat_xor,BitVec.toNat_ofNat,BitVec.toNat_ofNat,Nat.mod_eq_of_lt (by omega),Nat.mod_eq_of_lt (by omega)]
  rw [w64 (by omega)]
 have e3:ZC .i64 ((x^^^y:Nat):Int) 1=((x^^^y:Nat):Int)/2:=by
  unfold ZC
  show Int.fdiv _ (2^1)=_
  rw [Int.fdiv_eq_ediv_of_nonneg _ (by decide)]
  rfl
 rw [e1,e2,e3,Int.tdiv_eq_ediv_of_nonneg (by omega),w64 (by omega)]
 omega
def Uj (a b:Int):Int:=(a+b).tdiv 2
theorem ZcI {a b m:Int} (ha:0≤a∧a≤m) (hb:0≤b∧b≤m):0≤Uj a b∧Uj a b≤m:=by
 unfold Uj
 rw [Int.tdiv_eq_ediv_of_nonneg (by omega)]
 omega
theorem Zgv (M:Int→Int→Int) (a b:Int) (hM:M=Uj) (ha:0≤a∧a≤1125899906842624) (hb:0≤b∧b≤1125899906842624):
  evF G0 30 84 [.int .i64 a,.int .i64 b] ⟨0,[]⟩ (Uh fun v=>v=.tuple [.int .i64 (M a b),.int .i64 0]):=by
 refine @Eq.mpr _ (let q1:=wrap i64 (Z0r i64 a b+ZC i64 (XG i64 a b) 1);
 let q2:=AV.int i64 (wrap i64 (q1*0));
 let q3:=[AV.int i64 2];
 let q4:=[AV.int i64 0];
 let q5:=AV.tuple (AV.int i64 (M a b)::q4);
 let q6:=AV.tuple (q2::q3)=q5;
 let q7:=AV.tuple (q2::q4)=q5;
 let q8:=AV.int i64 (wrap i64 (q1*1));
 let q9:=AV.tuple (q8::q3)=q5;
 Z0 (decide (a<0)) (Z0 (decide (a<0)) q6 (Z0 (decide (a>1125899906842624)) q6 (Z0 (decide (b<0)) q6 (Z0 (decide (b>1125899906842624)) q6 q7)))) (Z0 (decide (a>1125899906842624)) (Z0 (decide (a<0)) q6 (Z0 (decide (a>1125899906842624)) q6 (Z0 (decide (b<0)) q6 (Z0 (decide (b>1125899906842624)) q6 q7)))) (Z0 (decide (b<0)) (Z0 (decide (a<0)) q6 (Z0 (decide (a>1125899906842624)) q6 (Z0 (decide (b<0)) q6 (Z0 (decide (b>1125899906842624)) q6 q7)))) (Z0 (decide (b>1125899906842624)) (Z0 (decide (a<0)) q6 (Z0 (decide (a>1125899906842624)) q6 (Z0 (decide (b<0)) q6 (Z0 (decide (b>1125899906842624)) q6 q7)))) (Z0 (decide (a<0)) q9 (Z0 (decide (a>1125899906842624)) q9 (Z0 (decide (b<0)) q9 (Z0 (decide (b>1125899906842624)) q9 (AV.tuple (q8::q4)=q5))))))))) (by kernel_rfl) ?_
 conv=>zeta
 try simp only [Zc]
 try simp only [Zj]
 try simp only [Zd]
 try simp only [Zk]
 try simp only [Zl]
 try simp only [Zb]
 try simp only [Int.toNat_natCast,Nat.zero_add,true_and,and_true,Nat.le_refl]
 subst hM
 have hm:=Zer ha hb
 have hq:0≤Uj a b∧Uj a b≤1125899906842624:=ZcI ha hb
 have hw:i64.wrap (Uj a b)=Uj a b:=w64 (by omega)
 have hm:i64.wrap (Z0r i64 a b+ZC i64 (XG i64 a b) 1)=Uj a b:=hm
 simp only [hm,Int.mul_one,hw]
 repeat' (first|(refine And.intro ?_ ?_)|intro _)
 all_goals first|exact True.intro|rfl|(exfalso;omega)
def Zes (M:Int→Int→Int):ZZ:=fun args _ K=>match args with
 | [.int .i64 a,.int .i64 b]=>((0≤a∧a≤1125899906842624)∧(0≤b∧b≤1125899906842624))∧K (.tuple [.int .i64 (M a b),.int .i64 0])
 | _=>False
theorem ZcJ (args:List AV) (h:Z7) (K:AV→Prop) (hl:Zes Uj args h K):Zg PP 84 args h fun o h'=>∃v,o=.ret v∧h'=h∧K v:=by
 unfold Zes at hl
 split at hl
 ·obtain ⟨⟨h1,h2⟩,hK⟩:=hl
  exact Ww Zu rfl (Zgv _ _ _ rfl h1 h2) (fun u hu=>hu▸hK)
 ·exact hl.elim
def X8 (M:Int→Int→Int) (k:ClS) (x:Int):Int:=Z39 (match k.offers with|true=>M k.last x|false=>x) k.least k.most
theorem ZhA (M:Int→Int→Int) (k:ClS) (x r:Int) (hl:0≤k.last∧k.last≤1125899906842624) (hx:0≤x∧x≤1125899906842624) (hr:r=X8 M k x):
  evF (G0.withP 84 (Zes M)) 20 41 [.agg k.c,.int .i64 x] ⟨0,[]⟩ (Uh fun v=>v=.int .i64 r):=by
 refine @Eq.mpr _ (let q1:=k.last;
 let q2:=M q1 x;
 let q3:=k.most;
 let q4:=if q2<q3 then q2 else q3;
 let q5:=k.least;
 let q6:=if x<q3 then x else q3;
 Z0 k.offers (((0≤q1∧q1≤1125899906842624)∧0≤x∧x≤1125899906842624)∧AV.int i64 (if q4>q5 then q4 else q5)=AV.int i64 r) (AV.int i64 (if q6>q5 then q6 else q5)=AV.int i64 r)) (by kernel_rfl) ?_
 conv=>zeta
 try simp only [Zc]
 try simp only [Zj]
 try simp only [Zd]
 try simp only [Zk]
 try simp only [Zl]
 try simp only [Zb]
 try simp only [Int.toNat_natCast,Nat.zero_add,true_and,and_true,Nat.le_refl]
 subst hr
 have hz:∀y:Int,(if (if y<k.most then y else k.most)>k.least then (if y<k.most then y else k.most) else k.least)=Z39 y k.least k.most:=fun y=>by
  unfold Z39
  rw [Int.max_def,Int.min_def]
  split<;>split<;>(try split)<;>(try split)<;>omega
 simp only [hz]
 unfold X8
 cases k.offers
 ·exact ⟨(fun h=>nomatch h),fun _=>rfl⟩
 ·exact ⟨fun _=>⟨⟨hl,hx⟩,rfl⟩,(fun h=>nomatch h)⟩
def nxS (M:Int→Int→Int):ZZ:=fun args h K=>ZL none h true 20 args fun a=>match a with
 | [.agg cs,.int .i64 x]=>∃k,Qw cs k∧((0≤k.last∧k.last≤1125899906842624)∧(0≤x∧x≤1125899906842624))∧K (.int .i64 (X8 M k x))
 | _=>False
theorem Zet (args:List AV) (h:Z7) (K:AV→Prop) (hl:nxS Uj args h K):Zg PP 41 args h fun o h'=>∃v,o=.ret v∧h'=h∧K v:=by
 refine ZD.psumm (d:=20) (Zn _ _ _ _ _ hl fun a ha=> ?_)
 split at ha
 ·obtain ⟨k,⟨rfl⟩,⟨h1,h2⟩,hK⟩:=ha
  exact ⟨_,ZD.evV (Ze.withP_ok Zu ZcJ) (ZhA _ k _ _ h1 h2 rfl),fun _=>rfl,hK⟩
 ·exact ha.elim
theorem ZhB (n a b:Int) (r:Bool) (hr:r=decide (a≤n∧n≤b)):
  evF G0 20 40 [.int .i64 n,.int .i64 a,.int .i64 b] ⟨0,[]⟩ (Uh (fun v=>v=.bool r)):=by
 refine @Eq.mpr _ (Z0 (decide (a≤n)) (AV.bool (decide (n≤b))=AV.bool r) (AV.bool false=AV.bool r)) (by kernel_rfl) ?_
 simp only [Z52]
 subst hr
 by_cases h1:a≤n<;>by_cases h2:n≤b<;>simp [h1,h2]
theorem ZaX (args:List AV) (h:Z7) (K:AV→Prop) (hl:inQ args h K):Zg PP 40 args h fun o h'=>∃v,o=.ret v∧h'=h∧K v:=by
 unfold inQ at hl
 split at hl
 ·exact Ww Zu rfl (ZhB _ _ _ _ rfl) (fun u hu=>hu▸hl)
 ·exact hl.elim
end Go.Tk
end
section
namespace Go.Tk
open IntKind (i64 u8 u32 u64 wrap)
structure Zv where
 kind:Int
 t:Zq
 reserve:Int
 amount:Int
 point:List Int
 nxt:List Int
 key:List Int
 hash:List Int
 tag:List Int
 secret:List Int
 id:Int
 number:Int
 index:Int
 expiry:Int
 code:Int
 route:ByteArray
def Zv.r (s:Zv):List AV:=[.arr .u8 32 s.t.fund,.int .i64 s.t.index,.int .i64 s.t.cap,.int .i64 s.t.dust,.int .i64 s.t.fee,.int .i64 s.t.delay,.arr .u8 32 s.t.k0,.arr .u8 32 s.t.k1,.int .i64 s.reserve,.int .i64 s.amount,.arr .u8 32 s.point,.arr .u8 32 s.nxt,.arr .u8 32 s.key,.arr .u8 32 s.hash,.arr .u8 32 s.tag,.arr .u8 32 s.secret,.int .i64 s.id,.int .i64 s.number,.int .i64 s.index,.int .i64 s.expiry,.int .i64 s.code,.str s.route]
def Zv.c (s:Zv):List AV:=.int .i64 s.kind::s.r
structure Zv.Len (s:Zv):Prop where
 h0:s.t.fund.length=32
 h1:s.t.k0.length=32
 h2:s.t.k1.length=32
 h3:s.point.length=32
 h4:s.nxt.length=32
 h5:s.key.length=32
 h6:s.hash.length=32
 h7:s.tag.length=32
 h8:s.secret.length=32
 hb:Bytes s.t.k0
def okF (m:List Nat) (i:Nat) (z:Bool):Bool:=Z5O i m||z
def Zgw (m:List Nat) (s:Zv):Bool:=
 true&&(okF m 0 (s.t.fund==Z5)&&(okF m 1 (s.t.index==0)&&(okF m 2 (s.t.cap==0)&&(okF m 3 (s.t.dust==0)&&(okF m 4 (s.t.fee==0)&&(okF m 5 (s.t.delay==0)&&(okF m 6 (s.t.k0==Z5)&&okF m 7 (s.t.k1==Z5))))))))&&(okF m 8 (s.reserve==0)&&(okF m 9 (s.amount==0)&&(okF m 10 (s.point==Z5)&&(okF m 11 (s.nxt==Z5)&&(okF m 12 (s.key==Z5)&&(okF m 13 (s.hash==Z5)&&(okF m 14 (s.tag==Z5)&&(okF m 15 (s.secret==Z5)&&(okF m 16 (s.id==0)&&(okF m 17 (s.number==0)&&(okF m 18 (s.index==0)&&(okF m 19 (s.expiry==0)&&(okF m 20 (s.code==0)&&okF m 21 (ByteArray.toList s.route==ByteArray.toList ByteArray.empty))))))))))))))
def nmd:Int→List Nat
 | 1=>[2,3,4,5,6,8,9,10,11]
 | 2=>[12,10,11]
 | 3=>[13,18,14]
 | 4=>[14]
 | 5=>[]
 | 6=>[16,9,13,19,21]
 | 7=>[16,15]
 | 8=>[16,20]
 | 9=>[17,14]
 | 10=>[17,15,11]
 | 11=>[17,16]
 | 12=>[]
 | 13=>[9,14]
 | 14=>[20]
 | _=>[]
structure Zeu (s:Zv):Prop where
 a:0≤s.id
 b:s.id≤2147483647
 c:0≤s.number
 d:s.number≤2147483647
 e:0≤s.index
 f:s.index≤2147483647
 g:0≤s.expiry
 h:s.expiry≤2147483647
 i:0≤s.amount
 j:s.amount≤1125899906842624
def VV (t:Zq):Zq:={ t with k1:=t.k0.set 0 (wrap .u8 (t.k0.getD 0 0+1))}
structure Z6u (s:Zv):Prop where
 t:YN (VV s.t)=true
 lo:0≤s.reserve
 hi:s.reserve≤s.t.cap.tdiv 10
 am:s.amount≤s.t.cap-s.t.fee-s.reserve
def kindOk (s:Zv):Int→Prop
 | 1=>Z6u s
 | 2=>True
 | 3=>s.index<24
 | 4=>True
 | 5=>True
 | 6=>0<s.amount∧0<s.expiry∧s.route.size≤512
 | 7=>True
 | 8=>1≤s.code∧s.code≤999
 | 9=>True
 | 10=>True
 | 11=>True
 | 12=>True
 | 13=>True
 | 14=>1≤s.code∧s.code≤999
 | _=>False
structure ZG (s:Zv) (k:Int):Prop where
 w:Zeu s
 r:Zgw (nmd k) s=true
 k:kindOk s k
def chK (ok:Bool):KO:=fun o _=>match o with
 | .ret (.int .i64 0)=>ok=true
 | .ret (.int .i64 2)=>ok=false
 | _=>False
noncomputable def Q4:Ze:=G0.withP 44 Z53
end Go.Tk
end
section
namespace Go.Tk
open IntKind (i64 u8 u32 u64 wrap)
def sdN (kd am:Int) (tg:List Int):Zv:=⟨kd,⟨Z5,0,0,0,0,0,Z5,Z5⟩,0,am,Z5,Z5,Z5,Z5,tg,Z5,0,0,0,0,0,ByteArray.empty⟩
def clO (k:ClS) (of:Bool) (la:Int) (ag:Bool) (fe:Int):ClS:=⟨k.t,k.side,k.a0,k.a1,k.least,k.most,of,la,ag,fe⟩
def clD (k:ClS) (s:Int):ClS:=⟨k.t,s,k.a0,k.a1,k.least,k.most,k.offers,k.last,k.agrees,k.fee⟩
theorem V4 {k:ClS} {s:Int} (h:k.side=s):clD k s=k:=by subst h;rfl
noncomputable def ZaY (A:List Int→Int×Int) (Tg:List Int→TxS→List Int):Ze:=(G0.withF 42 (clF A)).withP 83 (Z6q A Tg)
theorem Uf:(ZaY ZS Y0).Ok:=Ze.withP_ok (Ze.withF_ok Zu Z6n) Z37
structure OfR (Tg:List Int→TxS→List Int) (k:ClS) (s fee e kd am la:Int) (tg:List Int) (of:Bool):Prop where
 he:e=ZW k.t k.a0 k.a1 fee
 go:e=0→kd=13∧am=fee∧tg=Tg (ZaU k.t s) (txC k.t k.a0 k.a1 fee)∧of=true∧la=fee
 no:e≠0→kd=0∧am=0∧tg=Z5∧of=k.offers∧la=k.last
theorem Zde (A:List Int→Int×Int) (Tg:List Int→TxS→List Int) (k:ClS) (fee e kd am la:Int) (tg:List Int) (of:Bool) (hA:A=ZS) (ht:k.t.All) (ha:k.a0<9223372036854775808) (hr:OfR Tg k 0 fee e kd am la tg of):
  evF (ZaY A Tg) 20 32 [.ptr (some ⟨0,0,0,0,0⟩),.int .i64 fee] ⟨1,[(0,.flat ((clD k 0).c++[.bool true]))]⟩ (Y2 1 (.ret (.tuple [.agg (sdN kd am tg).c,.int .i64 e])) 1 [(0,.flat ((clO (clD k 0) of la k.agrees k.fee).c++[.bool true]))]):=by
 refine @Eq.mpr _ (let q1:=clD k 0;
 let q2:=q1.t;
 let q3:=q2.fund;
 let q4:=q2.index;
 let q5:=q2.cap;
 let q6:=q2.dust;
 let q7:=q2.fee;
 let q8:=q2.delay;
 let q9:=q2.k0;
 let q10:=q2.k1;
 let q11:=Zq.mk q3 q4 q5 q6 q7 q8 q9 q10;
 let q12:=[q1.a0,q1.a1];
 let q13:=sdN kd am tg;
 let q14:=q13.kind;
 let q15:=decide (0=q14);
 let q16:=q13.t;
 let q17:=Z5=q16.fund;
 let q18:=Z5=q16.k0;
 let q19:=Z5=q16.k1;
 let q20:=q13.amount;
 let q21:=decide (0=q20);
 let q22:=Z5=q13.point;
 let q23:=Z5=q13.nxt;
 let q24:=Z5=q13.key;
 let q25:=Z5=q13.hash;
 let q26:=q13.tag;
 let q27:=Z5=q26;
 let q28:=Z5=q13.secret;
 let q29:=ByteArray.empty=q13.route;
 let q30:=clO q1 of la k.agrees k.fee;
 let q31:=q30.t;
 let q32:=q3=q31.fund;
 let q33:=decide (q4=q31.index);
 let q34:=decide (q5=q31.cap);
 let q35:=decide (q6=q31.dust);
 let q36:=decide (q7=q31.fee);
 let q37:=decide (q8=q31.delay);
 let q38:=q9=q31.k0;
 let q39:=q10=q31.k1;
 let q40:=q12=[q30.a0,q30.a1];
 let q41:=decide (q1.least=q30.least);
 let q42:=decide (q1.most=q30.most);
 let q43:=q30.offers;
 let q44:=q30.last;
 let q45:=Z0 (decide (q1.agrees=q30.agrees)) (Z0 (decide (q1.fee=q30.fee)) True False) False;
 let q46:=q32∧Z0 q33 (Z0 q34 (Z0 q35 (Z0 q36 (Z0 q37 (q38∧q39∧q40∧Z0 q41 (Z0 q42 (Z0 (decide (q1.offers=q43)) (Z0 (decide (q1.last=q44)) q45 False) False) False) False) False) False) False) False) False;
 let q47:=InS.mk q3 q4 1 Z5 Z5 Z5;
 Zq.Ok q11∧
 ∃(a:Int),
 ∃(b:Int),
 let q95:=clB A q11 a b fee;
 let q96:=clL q11 a b fee;
 q12=[a,b]∧
 a<9223372036854775808∧
 (q95=false→Z0 q15 (q17∧q18∧q19∧Z0 q21 (q22∧q23∧q24∧q25∧q27∧q28∧q29∧Z0 (decide (2=e)) q46 False) False) False)∧
 (q95=true→
 (List.length q96=0→Z0 q15 (q17∧q18∧q19∧Z0 q21 (q22∧q23∧q24∧q25∧q27∧q28∧q29∧Z0 (decide (180=e)) q46 False) False) False)∧
 ∀(n:Nat) (L:List Zh),
 L=Y1 q96→
 n=List.length L→
 n≠0→
 Z0 (decide (0+n≤n))
 ((∀(i:Nat),i<n→true=true)∧
 ∃(t:TxS),
 (t.num=2147483647∧
 (((1:Nat)=1∧t.N=1)∧∀(i:Nat),i<1→ZO [AV.arr u8 32 q47.name,AV.int i64 q47.index,AV.int i64 q47.way,AV.arr u8 32 q47.tag,AV.arr u8 32 q47.also,AV.arr u8 32 q47.secret] 0 130 i=InS.c (t.ins i))∧
 (n=n∧t.M=n)∧
 ∀(i:Nat),
 let q99:=YI L i;
 i<n→[AV.int i64 q99.kind,AV.int i64 q99.amount,AV.arr u8 32 q99.owner,AV.arr u8 32 q99.other,AV.arr u8 32 q99.point,AV.arr u8 32 q99.hash,AV.int i64 q99.delay,AV.int i64 q99.expiry]=ZM.c (t.outs i))∧
 (TxS.Ok t∧List.length q9=32∧Yt A t=true)∧Z0 (decide (13=q14)) (q17∧q18∧q19∧Z0 (decide (fee=q20)) (q22∧q23∧q24∧q25∧Tg q9 t=q26∧q28∧q29∧Z0 (decide (0=e)) (q32∧Z0 q33 (Z0 q34 (Z0 q35 (Z0 q36 (Z0 q37 (q38∧q39∧q40∧Z0 q41 (Z0 q42 (Z0 (decide (true=q43)) (Z0 (decide (fee=q44)) q45 False) False) False) False) False) False) False) False) False) False) False) False)
 False)) (by kernel_rfl) ?_
 conv=>zeta
 try simp only [Zc]
 try simp only [Zj]
 try simp only [Zd]
 try simp only [Zk]
 try simp only [Zl]
 try simp only [Zb]
 try simp only [Int.toNat_natCast,Nat.zero_add,true_and,and_true,Nat.le_refl]
 subst hA
 obtain ⟨he,go,no⟩:=hr
 refine ⟨ht.ok,k.a0,k.a1,rfl,ha,fun h1=> ?_,fun h1=>⟨fun h2=> ?_,fun n L hL hn hn0=> ?_⟩⟩
 ·have e2:e=2:=he.trans (Z3Z (k:=k) h1)
  obtain ⟨rfl,rfl,rfl,rfl,rfl⟩:=no (by rw [e2];decide)
  and_intros<;>first|rfl|exact e2.symm
 ·have e2:e=180:=he.trans (Qx (k:=k) h1 h2)
  obtain ⟨rfl,rfl,rfl,rfl,rfl⟩:=no (by rw [e2];decide)
  and_intros<;>first|rfl|exact e2.symm
 ·have e1:=Qy (k:=k) h1 hL hn hn0
  have e2:e=0:=he.trans e1
  obtain ⟨rfl,rfl,rfl,rfl,rfl⟩:=go e2
  subst hn hL
  refine ⟨fun _ _=>trivial,txC k.t k.a0 k.a1 _,⟨rfl,⟨rfl,fun i hi=>Z25 _ i hi⟩,rfl,fun _ _=>rfl⟩,⟨Z23 ht.ok ht.fl,ht.ok.k0,Z24 e1⟩, ?_⟩
  and_intros<;>first|rfl|exact e2.symm
theorem Zdf (A:List Int→Int×Int) (Tg:List Int→TxS→List Int) (k:ClS) (fee e kd am la:Int) (tg:List Int) (of:Bool) (hA:A=ZS) (ht:k.t.All) (ha:k.a0<9223372036854775808) (hr:OfR Tg k 1 fee e kd am la tg of):
  evF (ZaY A Tg) 20 32 [.ptr (some ⟨0,0,0,0,0⟩),.int .i64 fee] ⟨1,[(0,.flat ((clD k 1).c++[.bool true]))]⟩ (Y2 1 (.ret (.tuple [.agg (sdN kd am tg).c,.int .i64 e])) 1 [(0,.flat ((clO (clD k 1) of la k.agrees k.fee).c++[.bool true]))]):=by
 refine @Eq.mpr _ (let q1:=clD k 1;
 let q2:=q1.t;
 let q3:=q2.fund;
 let q4:=q2.index;
 let q5:=q2.cap;
 let q6:=q2.dust;
 let q7:=q2.fee;
 let q8:=q2.delay;
 let q9:=q2.k0;
 let q10:=q2.k1;
 let q11:=Zq.mk q3 q4 q5 q6 q7 q8 q9 q10;
 let q12:=[q1.a0,q1.a1];
 let q13:=sdN kd am tg;
 let q14:=q13.kind;
 let q15:=decide (0=q14);
 let q16:=q13.t;
 let q17:=Z5=q16.fund;
 let q18:=Z5=q16.k0;
 let q19:=Z5=q16.k1;
 let q20:=q13.amount;
 let q21:=decide (0=q20);
 let q22:=Z5=q13.point;
 let q23:=Z5=q13.nxt;
 let q24:=Z5=q13.key;
 let q25:=Z5=q13.hash;
 let q26:=q13.tag;
 let q27:=Z5=q26;
 let q28:=Z5=q13.secret;
 let q29:=ByteArray.empty=q13.route;
 let q30:=clO q1 of la k.agrees k.fee;
 let q31:=q30.t;
 let q32:=q3=q31.fund;
 let q33:=decide (q4=q31.index);
 let q34:=decide (q5=q31.cap);
 let q35:=decide (q6=q31.dust);
 let q36:=decide (q7=q31.fee);
 let q37:=decide (q8=q31.delay);
 let q38:=q9=q31.k0;
 let q39:=q10=q31.k1;
 let q40:=q12=[q30.a0,q30.a1];
 let q41:=decide (q1.least=q30.least);
 let q42:=decide (q1.most=q30.most);
 let q43:=q30.offers;
 let q44:=q30.last;
 let q45:=Z0 (decide (q1.agrees=q30.agrees)) (Z0 (decide (q1.fee=q30.fee)) True False) False;
 let q46:=q32∧Z0 q33 (Z0 q34 (Z0 q35 (Z0 q36 (Z0 q37 (q38∧q39∧q40∧Z0 q41 (Z0 q42 (Z0 (decide (q1.offers=q43)) (Z0 (decide (q1.last=q44)) q45 False) False) False) False) False) False) False) False) False;
 let q47:=InS.mk q3 q4 1 Z5 Z5 Z5;
 Zq.Ok q11∧
 ∃(a:Int),
 ∃(b:Int),
 let q95:=clB A q11 a b fee;
 let q96:=clL q11 a b fee;
 q12=[a,b]∧
 a<9223372036854775808∧
 (q95=false→Z0 q15 (q17∧q18∧q19∧Z0 q21 (q22∧q23∧q24∧q25∧q27∧q28∧q29∧Z0 (decide (2=e)) q46 False) False) False)∧
 (q95=true→
 (List.length q96=0→Z0 q15 (q17∧q18∧q19∧Z0 q21 (q22∧q23∧q24∧q25∧q27∧q28∧q29∧Z0 (decide (180=e)) q46 False) False) False)∧
 ∀(n:Nat) (L:List Zh),
 L=Y1 q96→
 n=List.length L→
 n≠0→
 Z0 (decide (0+n≤n))
 ((∀(i:Nat),i<n→true=true)∧
 ∃(t:TxS),
 (t.num=2147483647∧
 (((1:Nat)=1∧t.N=1)∧∀(i:Nat),i<1→ZO [AV.arr u8 32 q47.name,AV.int i64 q47.index,AV.int i64 q47.way,AV.arr u8 32 q47.tag,AV.arr u8 32 q47.also,AV.arr u8 32 q47.secret] 0 130 i=InS.c (t.ins i))∧
 (n=n∧t.M=n)∧
 ∀(i:Nat),
 let q99:=YI L i;
 i<n→[AV.int i64 q99.kind,AV.int i64 q99.amount,AV.arr u8 32 q99.owner,AV.arr u8 32 q99.other,AV.arr u8 32 q99.point,AV.arr u8 32 q99.hash,AV.int i64 q99.delay,AV.int i64 q99.expiry]=ZM.c (t.outs i))∧
 (TxS.Ok t∧List.length q10=32∧Yt A t=true)∧Z0 (decide (13=q14)) (q17∧q18∧q19∧Z0 (decide (fee=q20)) (q22∧q23∧q24∧q25∧Tg q10 t=q26∧q28∧q29∧Z0 (decide (0=e)) (q32∧Z0 q33 (Z0 q34 (Z0 q35 (Z0 q36 (Z0 q37 (q38∧q39∧q40∧Z0 q41 (Z0 q42 (Z0 (decide (true=q43)) (Z0 (decide (fee=q44)) q45 False) False) False) False) False) False) False) False) False) False) False) False)
 False)) (by kernel_rfl) ?_
 conv=>zeta
 try simp only [Zc]
 try simp only [Zj]
 try simp only [Zd]
 try simp only [Zk]
 try simp only [Zl]
 try simp only [Zb]
 try simp only [Int.toNat_natCast,Nat.zero_add,true_and,and_true,Nat.le_refl]
 subst hA
 obtain ⟨he,go,no⟩:=hr
 refine ⟨ht.ok,k.a0,k.a1,rfl,ha,fun h1=> ?_,fun h1=>⟨fun h2=> ?_,fun n L hL hn hn0=> ?_⟩⟩
 ·have e2:e=2:=he.trans (Z3Z (k:=k) h1)
  obtain ⟨rfl,rfl,rfl,rfl,rfl⟩:=no (by rw [e2];decide)
  and_intros<;>first|rfl|exact e2.symm
 ·have e2:e=180:=he.trans (Qx (k:=k) h1 h2)
  obtain ⟨rfl,rfl,rfl,rfl,rfl⟩:=no (by rw [e2];decide)
  and_intros<;>first|rfl|exact e2.symm
 ·have e1:=Qy (k:=k) h1 hL hn hn0
  have e2:e=0:=he.trans e1
  obtain ⟨rfl,rfl,rfl,rfl,rfl⟩:=go e2
  subst hn hL
  refine ⟨fun _ _=>trivial,txC k.t k.a0 k.a1 _,⟨rfl,⟨rfl,fun i hi=>Z25 _ i hi⟩,rfl,fun _ _=>rfl⟩,⟨Z23 ht.ok ht.fl,ht.ok.k1,Z24 e1⟩, ?_⟩
  and_intros<;>first|rfl|exact e2.symm
inductive Wi (cs:List AV) (k:ClS):Prop
 | mk:cs=k.c++[.bool true]→Wi cs k
structure WF (k:ClS):Prop where
 t:k.t.All
 a:k.a0<9223372036854775808
 s:k.side=0∨k.side=1
theorem ZaZ {k:ClS} (hk:WF k) (fee:Int):(ZW k.t k.a0 k.a1 fee=0→Spec PP 32 [.ptr (some ⟨0,0,0,0,0⟩),.int .i64 fee] ⟨1,[(0,.flat (k.c++[.bool true]))]⟩ (.ret (.tuple [.agg (sdN 13 fee (Xj Y0 k fee k.side)).c,.int .i64 0])) 1 [(0,.flat ((clO k true fee k.agrees k.fee).c++[.bool true]))])∧
  (ZW k.t k.a0 k.a1 fee≠0→Spec PP 32 [.ptr (some ⟨0,0,0,0,0⟩),.int .i64 fee] ⟨1,[(0,.flat (k.c++[.bool true]))]⟩ (.ret (.tuple [.agg (sdN 0 0 Z5).c,.int .i64 (ZW k.t k.a0 k.a1 fee)])) 1 [(0,.flat (k.c++[.bool true]))]):=by
 obtain ⟨ht,ha,hs⟩:=hk
 refine ⟨fun he=> ?_,fun he=> ?_⟩
 ·rw [Z3Y he]
  rcases hs with hs|hs
  ·have hv:=Zde ZS Y0 k fee 0 13 fee fee (Y0 (ZaU k.t 0) (txC k.t k.a0 k.a1 fee)) true rfl ht ha ⟨he.symm,fun _=>⟨rfl,rfl,rfl,rfl,rfl⟩,fun h=>absurd rfl h⟩
   rw [V4 hs] at hv
   rw [hs]
   exact .evM Uf hv
  ·have hv:=Zdf ZS Y0 k fee 0 13 fee fee (Y0 (ZaU k.t 1) (txC k.t k.a0 k.a1 fee)) true rfl ht ha ⟨he.symm,fun _=>⟨rfl,rfl,rfl,rfl,rfl⟩,fun h=>absurd rfl h⟩
   rw [V4 hs] at hv
   rw [hs]
   exact .evM Uf hv
 ·rcases hs with hs|hs
  ·have hv:=Zde ZS Y0 k fee (ZW k.t k.a0 k.a1 fee) 0 0 k.last Z5 k.offers rfl ht ha ⟨rfl,fun h=>absurd h he,fun _=>⟨rfl,rfl,rfl,rfl,rfl⟩⟩
   rw [V4 hs] at hv
   exact .evM Uf hv
  ·have hv:=Zdf ZS Y0 k fee (ZW k.t k.a0 k.a1 fee) 0 0 k.last Z5 k.offers rfl ht ha ⟨rfl,fun h=>absurd h he,fun _=>⟨rfl,rfl,rfl,rfl,rfl⟩⟩
   rw [V4 hs] at hv
   exact .evM Uf hv
end Go.Tk
end
section
namespace Go.Tk
open IntKind (i64 u8 u32 u64 wrap)
inductive Z0B (cs:List AV) (s:Zv):Prop
 | mk:cs=s.c→Z0B cs s
open Classical in
noncomputable def Z2k (s:Zv):Bool:=decide (ZG s s.kind)
theorem Qz {s:Zv}:Z2k s=true↔ZG s s.kind:=by unfold Z2k;simp
def ZcK (SB:Zv→Bool):ZZ:=fun args _ K=>match args with
 | [.agg cs]=>∃s,Z0B cs s∧s.Len∧(SB s=true→K (.int .i64 0))∧(SB s=false→K (.int .i64 2))
 | _=>False
structure HR where
 e:Int
 kd:Int
 am:Int
 tg:List Int
 sy:Bool
 of:Bool
 la:Int
 ag:Bool
 fe:Int
def noR (k:ClS) (e:Int):HR:=⟨e,0,0,Z5,false,k.offers,k.last,k.agrees,k.fee⟩
def XL (SB:Zv→Bool) (M:Int→Int→Int) (Tg:List Int→TxS→List Int) (k:ClS) (s:Zv):HR:=
 if SB s=false then noR k 2 else if s.kind≠13 then noR k 210 else if k.agrees=true then noR k 250
 else if ZW k.t k.a0 k.a1 s.amount≠0 then noR k (ZW k.t k.a0 k.a1 s.amount)
 else if Xj Tg k s.amount (1-k.side)≠s.tag then noR k 221
 else if k.offers=true∧k.last=s.amount then ⟨0,0,0,Z5,false,k.offers,k.last,true,s.amount⟩
 else if k.least≤s.amount∧s.amount≤k.most then ⟨0,13,s.amount,Xj Tg k s.amount k.side,true,true,s.amount,true,s.amount⟩
 else if k.offers=true∧X8 M k s.amount=k.last then noR k 252
 else if ZW k.t k.a0 k.a1 (X8 M k s.amount)≠0 then noR k (ZW k.t k.a0 k.a1 (X8 M k s.amount))
 else ⟨0,13,X8 M k s.amount,Xj Tg k (X8 M k s.amount) k.side,true,true,X8 M k s.amount,k.agrees,k.fee⟩
def h2E (Tg:List Int→TxS→List Int) (k:ClS) (s:Zv):Int:=if ZW k.t k.a0 k.a1 s.amount=0 then (if Xj Tg k s.amount (1-k.side)=s.tag then 0 else 221) else ZW k.t k.a0 k.a1 s.amount
theorem Z02 {Tg:List Int→TxS→List Int} {k:ClS} {s:Zv} {m:Int} (h:ZW k.t k.a0 k.a1 s.amount=m) (hm:m≠0):h2E Tg k s=m:=by
 unfold h2E
 rw [h,if_neg hm]
theorem Z6v {Tg:List Int→TxS→List Int} {k:ClS} {s:Zv} (h:ZW k.t k.a0 k.a1 s.amount=0):h2E Tg k s=if Xj Tg k s.amount (1-k.side)=s.tag then 0 else 221:=by
 unfold h2E
 rw [if_pos h]
theorem ZhC (A:List Int→Int×Int) (Tg:List Int→TxS→List Int) (k:ClS) (s:Zv) (e:Int) (hA:A=ZS) (ht:k.t.All) (ha:k.a0<9223372036854775808) (hl:s.Len) (hT:∀a t,(Tg a t).length=32) (he:e=h2E Tg (clD k 0) s):
  evF (ZaY A Tg) 20 37 [.ptr (some ⟨1,0,0,0,0⟩),.ptr (some ⟨2,0,0,0,0⟩)] ⟨3,[(0,.flat ((clD k 0).c++[.bool true])),(1,.flat [.ptr (some ⟨0,0,0,0,0⟩)]),(2,.flat s.c)]⟩ (Y2 3 (.ret (.int .i64 e)) 3 [(0,.flat ((clD k 0).c++[.bool true])),(1,.flat [.ptr (some ⟨0,0,0,0,0⟩)]),(2,.flat s.c)]):=by
 refine @Eq.mpr _ (let q1:=clD k 0;
 let q2:=q1.t;
 let q3:=q2.fund;
 let q4:=q2.index;
 let q5:=q2.cap;
 let q6:=q2.dust;
 let q7:=q2.fee;
 let q8:=q2.delay;
 let q9:=q2.k0;
 let q10:=q2.k1;
 let q11:=Zq.mk q3 q4 q5 q6 q7 q8 q9 q10;
 let q12:=[q1.a0,q1.a1];
 let q13:=s.amount;
 let q14:=q1.least;
 let q15:=q1.most;
 let q16:=q1.offers;
 let q17:=q1.last;
 let q18:=q1.agrees;
 let q19:=q1.fee;
 let q20:=s.t;
 let q21:=q20.fund;
 let q22:=q20.index;
 let q23:=q20.cap;
 let q24:=q20.dust;
 let q25:=q20.fee;
 let q26:=q20.delay;
 let q27:=q20.k0;
 let q28:=q20.k1;
 let q29:=s.reserve;
 let q30:=s.tag;
 let q31:=q30=q30;
 let q32:=( q3=q3∧
 Z0 (decide (q4=q4))
 (Z0 (decide (q5=q5))
 (Z0 (decide (q6=q6)) (Z0 (decide (q7=q7)) (Z0 (decide (q8=q8)) (q9=q9∧q10=q10∧q12=q12∧Z0 (decide (q14=q14)) (Z0 (decide (q15=q15)) (Z0 (decide (q16=q16)) (Z0 (decide (q17=q17)) (Z0 (decide (q18=q18)) (Z0 (decide (q19=q19)) (Z0 (decide (s.kind=s.kind)) (q21=q21∧Z0 (decide (q22=q22)) (Z0 (decide (q23=q23)) (Z0 (decide (q24=q24)) (Z0 (decide (q25=q25)) (Z0 (decide (q26=q26)) (q27=q27∧q28=q28∧Z0 (decide (q29=q29)) (Z0 (decide (q13=q13)) (s.point=s.point∧s.nxt=s.nxt∧s.key=s.key∧s.hash=s.hash∧q31∧s.secret=s.secret∧Z0 (decide (s.id=s.id)) (Z0 (decide (s.number=s.number)) (Z0 (decide (s.index=s.index)) (Z0 (decide (s.expiry=s.expiry)) (Z0 (decide (s.code=s.code)) (s.route=s.route∧True) False) False) False) False) False) False) False) False) False) False) False) False) False) False) False) False) False) False) False) False) False) False) False)
 False);
 let q33:=InS.mk q3 q4 1 Z5 Z5 Z5;
 Zq.Ok q11∧
 ∃(a:Int),
 ∃(b:Int),
 let q67:=clB A q11 a b q13;
 let q68:=clL q11 a b q13;
 q12=[a,b]∧
 a<9223372036854775808∧
 (q67=false→Z0 (decide (2=e)) q32 False)∧
 (q67=true→
 (List.length q68=0→Z0 (decide (180=e)) q32 False)∧
 ∀(n:Nat) (L:List Zh),
 L=Y1 q68→
 n=List.length L→
 n≠0→
 Z0 (decide (0+n≤n))
 ((∀(i:Nat),i<n→true=true)∧
 ∃(t:TxS),
 (t.num=2147483647∧
 (((1:Nat)=1∧t.N=1)∧∀(i:Nat),i<1→ZO [AV.arr u8 32 q33.name,AV.int i64 q33.index,AV.int i64 q33.way,AV.arr u8 32 q33.tag,AV.arr u8 32 q33.also,AV.arr u8 32 q33.secret] 0 130 i=InS.c (t.ins i))∧
 (n=n∧t.M=n)∧
 ∀(i:Nat),
 let q71:=YI L i;
 i<n→[AV.int i64 q71.kind,AV.int i64 q71.amount,AV.arr u8 32 q71.owner,AV.arr u8 32 q71.other,AV.arr u8 32 q71.point,AV.arr u8 32 q71.hash,AV.int i64 q71.delay,AV.int i64 q71.expiry]=ZM.c (t.outs i))∧
 (TxS.Ok t∧List.length q10=32∧Yt A t=true)∧q31∧Z0 (decide (List.length (Tg q10 t)=32∧List.length q30=32)) (Z0 (Tg q10 t==q30) (Z0 (decide (0=e)) q32 False) (Z0 (decide (221=e)) q32 False)) False)
 False)) (by kernel_rfl) ?_
 conv=>zeta
 try simp only [Zc]
 try simp only [Zj]
 try simp only [Zd]
 try simp only [Zk]
 try simp only [Zl]
 try simp only [Zb]
 try simp only [Int.toNat_natCast,Nat.zero_add,true_and,and_true,Nat.le_refl]
 subst hA
 have hg:=fun (m:Int) (hm:h2E Tg (clD k 0) s=m)=>he.trans hm
 refine ⟨ht.ok,k.a0,k.a1,rfl,ha,fun h1=> ?_,fun h1=>⟨fun h2=> ?_,fun n L hL hn hn0=> ?_⟩⟩
 ·have e1:=Z3Z (k:=k) h1
  have e2:=hg 2 (Z02 (k:=clD k 0) e1 (by decide))
  and_intros<;>first|rfl|exact e2.symm
 ·have e1:=Qx (k:=k) h1 h2
  have e2:=hg 180 (Z02 (k:=clD k 0) e1 (by decide))
  and_intros<;>first|rfl|exact e2.symm
 ·have e1:=Qy (k:=k) h1 hL hn hn0
  subst hn hL
  have hv:Xj Tg (clD k 0) s.amount (1-(clD k 0).side)=Tg k.t.k1 (txC k.t k.a0 k.a1 s.amount):=Z3Y (k:=k) (sd:=1) e1
  refine ⟨fun _ _=>trivial,txC k.t k.a0 k.a1 s.amount,⟨rfl,⟨rfl,fun i hi=>Z25 _ i hi⟩,rfl,fun _ _=>rfl⟩,⟨Z23 ht.ok ht.fl,ht.ok.k1,Z24 e1⟩, ?_⟩
  have e2:=he.trans (Z6v (Tg:=Tg) (k:=clD k 0) e1)
  rw [hv] at e2
  refine ⟨⟨hT _ _,hl.h7⟩,fun h=> ?_,fun h=> ?_⟩
  ·have h:Tg k.t.k1 (txC k.t k.a0 k.a1 s.amount)=s.tag:=beq_iff_eq.1 h
   rw [if_pos h] at e2
   and_intros<;>first|rfl|exact e2.symm
  ·have h:¬Tg k.t.k1 (txC k.t k.a0 k.a1 s.amount)=s.tag:=beq_eq_false_iff_ne.1 h
   rw [if_neg h] at e2
   and_intros<;>first|rfl|exact e2.symm
theorem ZhD (A:List Int→Int×Int) (Tg:List Int→TxS→List Int) (k:ClS) (s:Zv) (e:Int) (hA:A=ZS) (ht:k.t.All) (ha:k.a0<9223372036854775808) (hl:s.Len) (hT:∀a t,(Tg a t).length=32) (he:e=h2E Tg (clD k 1) s):
  evF (ZaY A Tg) 20 37 [.ptr (some ⟨1,0,0,0,0⟩),.ptr (some ⟨2,0,0,0,0⟩)] ⟨3,[(0,.flat ((clD k 1).c++[.bool true])),(1,.flat [.ptr (some ⟨0,0,0,0,0⟩)]),(2,.flat s.c)]⟩ (Y2 3 (.ret (.int .i64 e)) 3 [(0,.flat ((clD k 1).c++[.bool true])),(1,.flat [.ptr (some ⟨0,0,0,0,0⟩)]),(2,.flat s.c)]):=by
 refine @Eq.mpr _ (let q1:=clD k 1;
 let q2:=q1.t;
 let q3:=q2.fund;
 let q4:=q2.index;
 let q5:=q2.cap;
 let q6:=q2.dust;
 let q7:=q2.fee;
 let q8:=q2.delay;
 let q9:=q2.k0;
 let q10:=q2.k1;
 let q11:=Zq.mk q3 q4 q5 q6 q7 q8 q9 q10;
 let q12:=[q1.a0,q1.a1];
 let q13:=s.amount;
 let q14:=q1.least;
 let q15:=q1.most;
 let q16:=q1.offers;
 let q17:=q1.last;
 let q18:=q1.agrees;
 let q19:=q1.fee;
 let q20:=s.t;
 let q21:=q20.fund;
 let q22:=q20.index;
 let q23:=q20.cap;
 let q24:=q20.dust;
 let q25:=q20.fee;
 let q26:=q20.delay;
 let q27:=q20.k0;
 let q28:=q20.k1;
 let q29:=s.reserve;
 let q30:=s.tag;
 let q31:=q30=q30;
 let q32:=( q3=q3∧
 Z0 (decide (q4=q4))
 (Z0 (decide (q5=q5))
 (Z0 (decide (q6=q6)) (Z0 (decide (q7=q7)) (Z0 (decide (q8=q8)) (q9=q9∧q10=q10∧q12=q12∧Z0 (decide (q14=q14)) (Z0 (decide (q15=q15)) (Z0 (decide (q16=q16)) (Z0 (decide (q17=q17)) (Z0 (decide (q18=q18)) (Z0 (decide (q19=q19)) (Z0 (decide (s.kind=s.kind)) (q21=q21∧Z0 (decide (q22=q22)) (Z0 (decide (q23=q23)) (Z0 (decide (q24=q24)) (Z0 (decide (q25=q25)) (Z0 (decide (q26=q26)) (q27=q27∧q28=q28∧Z0 (decide (q29=q29)) (Z0 (decide (q13=q13)) (s.point=s.point∧s.nxt=s.nxt∧s.key=s.key∧s.hash=s.hash∧q31∧s.secret=s.secret∧Z0 (decide (s.id=s.id)) (Z0 (decide (s.number=s.number)) (Z0 (decide (s.index=s.index)) (Z0 (decide (s.expiry=s.expiry)) (Z0 (decide (s.code=s.code)) (s.route=s.route∧True) False) False) False) False) False) False) False) False) False) False) False) False) False) False) False) False) False) False) False) False) False) False) False)
 False);
 let q33:=InS.mk q3 q4 1 Z5 Z5 Z5;
 Zq.Ok q11∧
 ∃(a:Int),
 ∃(b:Int),
 let q67:=clB A q11 a b q13;
 let q68:=clL q11 a b q13;
 q12=[a,b]∧
 a<9223372036854775808∧
 (q67=false→Z0 (decide (2=e)) q32 False)∧
 (q67=true→
 (List.length q68=0→Z0 (decide (180=e)) q32 False)∧
 ∀(n:Nat) (L:List Zh),
 L=Y1 q68→
 n=List.length L→
 n≠0→
 Z0 (decide (0+n≤n))
 ((∀(i:Nat),i<n→true=true)∧
 ∃(t:TxS),
 (t.num=2147483647∧
 (((1:Nat)=1∧t.N=1)∧∀(i:Nat),i<1→ZO [AV.arr u8 32 q33.name,AV.int i64 q33.index,AV.int i64 q33.way,AV.arr u8 32 q33.tag,AV.arr u8 32 q33.also,AV.arr u8 32 q33.secret] 0 130 i=InS.c (t.ins i))∧
 (n=n∧t.M=n)∧
 ∀(i:Nat),
 let q71:=YI L i;
 i<n→[AV.int i64 q71.kind,AV.int i64 q71.amount,AV.arr u8 32 q71.owner,AV.arr u8 32 q71.other,AV.arr u8 32 q71.point,AV.arr u8 32 q71.hash,AV.int i64 q71.delay,AV.int i64 q71.expiry]=ZM.c (t.outs i))∧
 (TxS.Ok t∧List.length q9=32∧Yt A t=true)∧q31∧Z0 (decide (List.length (Tg q9 t)=32∧List.length q30=32)) (Z0 (Tg q9 t==q30) (Z0 (decide (0=e)) q32 False) (Z0 (decide (221=e)) q32 False)) False)
 False)) (by kernel_rfl) ?_
 conv=>zeta
 try simp only [Zc]
 try simp only [Zj]
 try simp only [Zd]
 try simp only [Zk]
 try simp only [Zl]
 try simp only [Zb]
 try simp only [Int.toNat_natCast,Nat.zero_add,true_and,and_true,Nat.le_refl]
 subst hA
 have hg:=fun (m:Int) (hm:h2E Tg (clD k 1) s=m)=>he.trans hm
 refine ⟨ht.ok,k.a0,k.a1,rfl,ha,fun h1=> ?_,fun h1=>⟨fun h2=> ?_,fun n L hL hn hn0=> ?_⟩⟩
 ·have e1:=Z3Z (k:=k) h1
  have e2:=hg 2 (Z02 (k:=clD k 1) e1 (by decide))
  and_intros<;>first|rfl|exact e2.symm
 ·have e1:=Qx (k:=k) h1 h2
  have e2:=hg 180 (Z02 (k:=clD k 1) e1 (by decide))
  and_intros<;>first|rfl|exact e2.symm
 ·have e1:=Qy (k:=k) h1 hL hn hn0
  subst hn hL
  have hv:Xj Tg (clD k 1) s.amount (1-(clD k 1).side)=Tg k.t.k0 (txC k.t k.a0 k.a1 s.amount):=Z3Y (k:=k) (sd:=0) e1
  refine ⟨fun _ _=>trivial,txC k.t k.a0 k.a1 s.amount,⟨rfl,⟨rfl,fun i hi=>Z25 _ i hi⟩,rfl,fun _ _=>rfl⟩,⟨Z23 ht.ok ht.fl,ht.ok.k0,Z24 e1⟩, ?_⟩
  have e2:=he.trans (Z6v (Tg:=Tg) (k:=clD k 1) e1)
  rw [hv] at e2
  refine ⟨⟨hT _ _,hl.h7⟩,fun h=> ?_,fun h=> ?_⟩
  ·have h:Tg k.t.k0 (txC k.t k.a0 k.a1 s.amount)=s.tag:=beq_iff_eq.1 h
   rw [if_pos h] at e2
   and_intros<;>first|rfl|exact e2.symm
  ·have h:¬Tg k.t.k0 (txC k.t k.a0 k.a1 s.amount)=s.tag:=beq_eq_false_iff_ne.1 h
   rw [if_neg h] at e2
   and_intros<;>first|rfl|exact e2.symm
def h2S (Tg:List Int→TxS→List Int):ZQ:=fun args h K=>match args with
 | [.ptr (some ⟨a,0,0,0,0⟩),.ptr (some ⟨b,0,0,0,0⟩)]=>match h.get a with
  | some (.flat [.ptr (some ⟨x,0,0,0,0⟩)])=>frA [x,a,b] h 40 args fun Bs aa=>match Bs,aa with
   | [.flat cs,.flat [.ptr (some ⟨0,0,0,0,0⟩)],.flat ss],[.ptr (some ⟨1,0,0,0,0⟩),.ptr (some ⟨2,0,0,0,0⟩)]=>∃k s,Wi cs k∧Z0B ss s∧WF k∧s.Len∧
    (ZW k.t k.a0 k.a1 s.amount=2→K (.ret (.int .i64 2)) ⟨h.next,(x,.flat cs)::(a,.flat [.ptr (some ⟨x,0,0,0,0⟩)])::(b,.flat ss)::ZX (ZX (ZX h.bs x) a) b⟩)∧
    (ZW k.t k.a0 k.a1 s.amount=180→K (.ret (.int .i64 180)) ⟨h.next,(x,.flat cs)::(a,.flat [.ptr (some ⟨x,0,0,0,0⟩)])::(b,.flat ss)::ZX (ZX (ZX h.bs x) a) b⟩)∧
    (ZW k.t k.a0 k.a1 s.amount=0→(Xj Tg k s.amount (1-k.side)≠s.tag→K (.ret (.int .i64 221)) ⟨h.next,(x,.flat cs)::(a,.flat [.ptr (some ⟨x,0,0,0,0⟩)])::(b,.flat ss)::ZX (ZX (ZX h.bs x) a) b⟩)∧
     (Xj Tg k s.amount (1-k.side)=s.tag→K (.ret (.int .i64 0)) ⟨h.next,(x,.flat cs)::(a,.flat [.ptr (some ⟨x,0,0,0,0⟩)])::(b,.flat ss)::ZX (ZX (ZX h.bs x) a) b⟩))
   | _,_=>False
  | _=>False
 | _=>False
theorem Z7w (t:Zq) (a b fee:Int):ZW t a b fee=2∨ZW t a b fee=180∨ZW t a b fee=0:=by
 unfold ZW
 split
 ·split
  ·exact .inr (.inl rfl)
  ·exact .inr (.inr rfl)
 ·exact .inl rfl
theorem ZcL {k:ClS} {s:Zv} (hk:WF k) (hl:s.Len):Spec PP 37 [.ptr (some ⟨1,0,0,0,0⟩),.ptr (some ⟨2,0,0,0,0⟩)] ⟨3,[(0,.flat (k.c++[.bool true])),(1,.flat [.ptr (some ⟨0,0,0,0,0⟩)]),(2,.flat s.c)]⟩ (.ret (.int .i64 (h2E Y0 k s))) 3 [(0,.flat (k.c++[.bool true])),(1,.flat [.ptr (some ⟨0,0,0,0,0⟩)]),(2,.flat s.c)]:=by
 obtain ⟨ht,ha,hs|hs⟩:=hk
 ·have hv:=ZhC ZS Y0 k s _ rfl ht ha hl Z2W rfl
  rw [V4 hs] at hv
  exact .evM Uf hv
 ·have hv:=ZhD ZS Y0 k s _ rfl ht ha hl Z2W rfl
  rw [V4 hs] at hv
  exact .evM Uf hv
theorem Zev (args:List AV) (h:Z7) (K:KO) (hl:h2S Y0 args h K):Zg PP 37 args h K:=by
 unfold h2S at hl
 split at hl
 ·split at hl
  ·refine Spec.fsumm hl fun Bs a hlen hK0=> ?_
   split at hK0
   ·obtain ⟨k,s,⟨rfl⟩,⟨rfl⟩,hk,hs,k1,k2,k3⟩:=hK0
    refine ⟨_,_,_,_,_,ZcL hk hs,by simp,.ret _ _ rfl,.cons _ _ _ _ _ _ rfl (.flat _ _ rfl) (.cons _ _ _ _ _ _ rfl (.flat _ _ rfl) (.cons _ _ _ _ _ _ rfl (.flat _ _ rfl) .nil)), ?_⟩
    rcases Z7w k.t k.a0 k.a1 s.amount with e|e|e
    ·rw [Z02 e (by decide)];exact k1 e
    ·rw [Z02 e (by decide)];exact k2 e
    ·rw [Z6v e]
     split
     ·exact (k3 e).2 (by assumption)
     ·exact (k3 e).1 (by assumption)
   ·exact hK0.elim
  ·exact hl.elim
 ·exact hl.elim
def sdC (kd am:Int) (tg:List Int):List AV:=[.int .i64 kd,.arr .u8 32 Z5,.int .i64 0,.int .i64 0,.int .i64 0,.int .i64 0,.int .i64 0,.arr .u8 32 Z5,.arr .u8 32 Z5,.int .i64 0,.int .i64 am,.arr .u8 32 Z5,.arr .u8 32 Z5,.arr .u8 32 Z5,.arr .u8 32 Z5,.arr .u8 32 tg,.arr .u8 32 Z5,.int .i64 0,.int .i64 0,.int .i64 0,.int .i64 0,.int .i64 0,.str ByteArray.empty]
def Zgx (cs:List AV) (fee:Int):List AV:=match cs with
 | [a,b,c,d,e,f,g,h,i,j,k,l,_,_,o,p,q]=>[a,b,c,d,e,f,g,h,i,j,k,l,.bool true,.int .i64 fee,o,p,q]
 | _=>[]
def ZcM (Tg:List Int→TxS→List Int):ZQ:=fun args h K=>match args with
 | [.ptr (some ⟨x,0,0,0,0⟩),_]=>frA [x] h 20 args fun Bs a=>match Bs,a with
  | [.flat cs],[.ptr (some ⟨0,0,0,0,0⟩),.int .i64 fee]=>∃k,Wi cs k∧WF k∧
   (ZW k.t k.a0 k.a1 fee=0→K (.ret (.tuple [.agg (sdC 13 fee (Xj Tg k fee k.side)),.int .i64 0])) ⟨h.next,(x,.flat (Zgx cs fee))::ZX h.bs x⟩)∧
   (ZW k.t k.a0 k.a1 fee=2→K (.ret (.tuple [.agg (sdC 0 0 Z5),.int .i64 2])) ⟨h.next,(x,.flat cs)::ZX h.bs x⟩)∧
   (ZW k.t k.a0 k.a1 fee=180→K (.ret (.tuple [.agg (sdC 0 0 Z5),.int .i64 180])) ⟨h.next,(x,.flat cs)::ZX h.bs x⟩)
  | _,_=>False
 | _=>False
theorem Z7x (args:List AV) (h:Z7) (K:KO) (hl:ZcM Y0 args h K):Zg PP 32 args h K:=by
 unfold ZcM at hl
 split at hl
 ·refine Spec.fsumm hl fun Bs a hlen hK0=> ?_
  split at hK0
  ·rename_i cs fee
   obtain ⟨k,⟨rfl⟩,hk,h1,h2,h3⟩:=hK0
   have hs:=ZaZ hk fee
   rcases Z7w k.t k.a0 k.a1 fee with e|e|e
   ·exact ⟨_,_,_,_,_,(hs.2 (by rw [e];decide)),by simp,.ret _ _ rfl,.cons _ _ _ _ _ _ rfl (.flat _ _ rfl) .nil,e▸h2 e⟩
   ·exact ⟨_,_,_,_,_,(hs.2 (by rw [e];decide)),by simp,.ret _ _ rfl,.cons _ _ _ _ _ _ rfl (.flat _ _ rfl) .nil,e▸h3 e⟩
   ·exact ⟨_,_,_,_,_,hs.1 e,by simp,.ret _ _ rfl,.cons _ _ _ _ _ _ rfl (.flat _ _ rfl) .nil,h1 e⟩
  ·exact hK0.elim
 ·exact hl.elim
end Go.Tk
end
