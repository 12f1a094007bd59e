/- V: part 4 of an engine (a symbolic evaluator, proved against the model) and of the walk by it. -/
import Derived.Test.YtdddfmkkbeihbaaGreatV3
import Derived.OpenShut
import Derived.WideShapes
import Derived.ChangeSlices
import Derived.WalkKit
import Derived.ProofKit
import Derived.Below
import Derived.Handed
import Derived.Carry
set_option linter.unusedVariables false
set_option linter.unusedSimpArgs false
set_option maxRecDepth 100000
set_option maxHeartbeats 0
section
namespace Go.Tk
open IntKind (i64 u8 u32 u64 wrap)
variable {E E':Env} {σ:List Nat} {B:Blk} {v:AV} {args:List AV} {K0:List Blk->List AV->Prop} {nx:Nat} {K:KO}
structure InS where
 name:LI
 index:Int
 way:Int
 tag:LI
 also:LI
 secret:LI
structure ZR where
 kind:Int
 amount:Int
 owner:LI
 other:LI
 point:LI
 hash:LI
 delay:Int
 expiry:Int
def InS.c (x:InS):List AV:=[.arr .u8 32 x.name,.int .i64 x.index,.int .i64 x.way,.arr .u8 32 x.tag,.arr .u8 32 x.also,.arr .u8 32 x.secret]
def ZR.c (o:ZR):List AV:=[.int .i64 o.kind,.int .i64 o.amount,.arr .u8 32 o.owner,.arr .u8 32 o.other,.arr .u8 32 o.point,.arr .u8 32 o.hash,.int .i64 o.delay,.int .i64 o.expiry]
structure InS.Ok (x:InS):Prop where
 name:x.name.length=32
 tag:x.tag.length=32
 also:x.also.length=32
 secret:x.secret.length=32
structure ZR.Ok (o:ZR):Prop where
 owner:o.owner.length=32
 other:o.other.length=32
 point:o.point.length=32
 hash:o.hash.length=32
def Z7:LI:=List.replicate 32 0
theorem QM (b:Bool) (x y:Prop):Z6 b x y=((b=true->x)/\(b=false->y)):=by
 cases b<;>simp [Z6]
@[irreducible] def ZY (x:InS):Bool:=
 (decide (1<=x.way/\x.way<=6)&&(decide (x.way≠4)||x.tag==Z7)&&(decide (x.way=1)||x.also==Z7)&&(decide (x.way=4)||decide (x.way=5)||x.secret==Z7))&&decide (0<=x.index/\x.index<=23)
theorem Zdu (x:InS) (b:Bool) (hx:x.Ok) (hb:b=ZY x):
  evF G0 20 69 [.agg x.c] ⟨0,[]⟩ (Y8 0 [] (.bool b) 0 []):=by
 refine @Eq.mpr _ (let a:=x.way;let i:=x.name;let h:=decide (i.length=32/\i.length=32);let n:=decide (x.secret.length=32/\(32:Nat)=32);let g:=i==i;let f:=x.index;let e:=f==f;let d:=a==a;let m:=x.secret==Z7;let c:=Z6 (decide (false=b)) True False;let j:=Z6 (decide (0<=f)) (Z6 (decide (decide (f<=23)=b)) True False) c;let l:=decide (x.also.length=32/\(32:Nat)=32);let p:=x.also==Z7;let k:=Z6 h (Z6 l (Z6 n (Z6 (g&&(e&&(d&&(true&&(p&&m))))) j c) False) False) False;let o:=p&&true;
 Z6 (decide (a=a)) (Z6 (decide (a=1)) (Z6 h (Z6 n (Z6 (g&&(e&&(d&&(true&&(true&&m))))) j c) False) False) (Z6 (decide (a=2)) k (Z6 (decide (a=3)) k (Z6 (decide (a=4)) (Z6 h (Z6 (decide (x.tag.length=32/\(32:Nat)=32)) (Z6 l (Z6 (g&&(e&&(d&&(x.tag==Z7&&o)))) j c) False) False) False) (Z6 (decide (a=5)) (Z6 h (Z6 l (Z6 (g&&(e&&(d&&(true&&o)))) j c) False) False) (Z6 (decide (a=6)) k c)))))) False) (by kernel_rfl) ?_
 conv=>zeta
 obtain ⟨h1,h2,h3,h4⟩:=hx
 subst hb
 simp only [QM]
 unfold ZY
 generalize (x.secret==Z7)=bs
 generalize (x.also==Z7)=ba
 by_cases w1:x.way=1
 ·cases bs<;>simp [w1,h3]<;>omega
 by_cases w2:x.way=2
 ·cases bs<;>cases ba<;>simp [w2,h3]<;>omega
 by_cases w3:x.way=3
 ·cases bs<;>cases ba<;>simp [w3,h3]<;>omega
 grind
def inS (R:InS->Bool):ZM:=fun args _ K=>match args with
 | [.agg [.arr .u8 32 n,.int .i64 i,.int .i64 w,.arr .u8 32 t,.arr .u8 32 a,.arr .u8 32 s]]=>Z5 (n.length=32/\t.length=32/\a.length=32/\s.length=32) (K (.bool (R ⟨n,i,w,t,a,s⟩)))
 | _=>False
theorem Za.aggPlain {cs:List AV} {r:Value} (h:Za E (.agg cs) r) (hp:plainC cs=true):Za E' (.agg cs) r:=by
 cases h with
 | agg cs vs hc=>exact .agg _ _ (hc.plain hp)
theorem ZfR (args:List AV) (h:Z8) (K:AV->Prop) (hl:inS ZY args h K):Zf PP 69 args h fun o h'=>∃v,o=.ret v/\h'=h/\K v:=by
 unfold inS at hl
 split at hl
 ·rename_i n i w t a s
  obtain ⟨⟨h1,h2,h3,h4⟩,hK⟩:=Zc hl
  refine (Zv.ev Zt (Zdu ⟨n,i,w,t,a,s⟩ _ ⟨h1,h2,h3,h4⟩ rfl)).calls (v':=.bool (ZY ⟨n,i,w,t,a,s⟩)) (fun E w rs he hr=> ?_) rfl trivial ⟨_,rfl,rfl,hK⟩
  cases hr with
  | cons v r1 vs rs1 h1 hr=>
   cases hr
   exact .cons _ _ _ _ (h1.aggPlain rfl) .nil
 simp_all
@[irreducible] def Zu (o:ZR):Bool:=
 decide (1<=o.kind/\o.kind<=5)&&(decide (o.kind=2)||decide (o.kind=4)||decide (o.kind=5)||o.other==Z7)&&(decide (3<=o.kind)||o.point==Z7)&&(decide (4<=o.kind)||o.hash==Z7)&&
 (decide (3<=o.kind)||decide (o.delay=0))&&(decide (4<=o.kind)||decide (o.expiry=0))&&
 (decide (o.kind≠2)||decide (Z0Q o.owner o.other<=0))&&decide (0<o.amount/\o.amount<=1125899906842624)&&decide (0<=o.delay/\o.delay<=2147483647)&&decide (0<=o.expiry/\o.expiry<=2147483647)
theorem Zbw (o:ZR) (b:Bool) (ho:o.Ok) (hb:b=Zu o):
  evF G0 20 75 [.agg o.c] ⟨0,[]⟩ (Y8 0 [] (.bool b) 0 []):=by
 refine @Eq.mpr _ (let f:=o.kind;let j:=f !=2;let q:=o.other;let p:=decide (q.length=32/\(32:Nat)=32);let n:=decide (o.point.length=32/\(32:Nat)=32);let g:=decide (o.hash.length=32/\(32:Nat)=32);let m:=f==f;let c:=o.amount;let l:=c==c;let A:=q==Z7;let z:=o.hash==Z7;let t:=o.delay;let s:=o.expiry;let y:=s==0;let x:=o.point==Z7&&(z&&(t==0&&y));let w:=m&&(l&&(true&&(A&&x)));let e:=decide (c>0);let a:=Z6 (decide (false=b)) True False;let d:=Z6 (decide (0<=t)) (Z6 (decide (t<=2147483647)) (Z6 (decide (0<=s)) (Z6 (decide (decide (s<=2147483647)=b)) True False) a) a) a;let i:=decide (u8=u8/\o.owner.length=32);let h:=decide (u8=u8/\q.length=32);let k:=decide (Z0Q o.owner q<=0);let v:=m&&(l&&(true&&(true&&x)));let u:=m&&(l&&(true&&(A&&(true&&(z&&(true&&y))))));let r:=m&&(l&&true);
 Z6 (decide (f=f))
 (Z6 (decide (f=1)) (Z6 j (Z6 p (Z6 n (Z6 g (Z6 w (Z6 e (Z6 (decide (c<0)) a (Z6 (decide (c>1125899906842624)) a d)) a) a) False) False) False) (Z6 i (Z6 h (Z6 k (Z6 p (Z6 n (Z6 g (Z6 w (Z6 e (Z6 (decide (c<0)) a (Z6 (decide (c>1125899906842624)) a d)) a) a) False) False) False) a) False) False))
 (Z6 (decide (f=2)) (Z6 j (Z6 n (Z6 g (Z6 v (Z6 e (Z6 (decide (c<0)) a (Z6 (decide (c>1125899906842624)) a d)) a) a) False) False) (Z6 i (Z6 h (Z6 k (Z6 n (Z6 g (Z6 v (Z6 e (Z6 (decide (c<0)) a (Z6 (decide (c>1125899906842624)) a d)) a) a) False) False) a) False) False))
 (Z6 (decide (f=3)) (Z6 j (Z6 p (Z6 g (Z6 u (Z6 e (Z6 (decide (c<0)) a (Z6 (decide (c>1125899906842624)) a d)) a) a) False) False) (Z6 i (Z6 h (Z6 k (Z6 p (Z6 g (Z6 u (Z6 e (Z6 (decide (c<0)) a (Z6 (decide (c>1125899906842624)) a d)) a) a) False) False) a) False) False))
 (Z6 (decide (f=4)) (Z6 j (Z6 r (Z6 e (Z6 (decide (c<0)) a (Z6 (decide (c>1125899906842624)) a d)) a) a) (Z6 i (Z6 h (Z6 k (Z6 r (Z6 e (Z6 (decide (c<0)) a (Z6 (decide (c>1125899906842624)) a d)) a) a) a) False) False)) (Z6 (decide (f=5)) (Z6 j (Z6 r (Z6 e (Z6 (decide (c<0)) a (Z6 (decide (c>1125899906842624)) a d)) a) a) (Z6 i (Z6 h (Z6 k (Z6 r (Z6 e (Z6 (decide (c<0)) a (Z6 (decide (c>1125899906842624)) a d)) a) a) a) False) False)) (Z6 j a (Z6 i (Z6 h a False) False)))))))
 False) (by kernel_rfl) ?_
 conv=>zeta
 obtain ⟨h1,h2,h3,h4⟩:=ho
 subst hb
 have hz:[(0:Int),0,0,0,0,0,0,0,0,0,0,0,0,0,0,0,0,0,0,0,0,0,0,0,0,0,0,0,0,0,0,0]=Z7:=rfl
 have hg:List.getD [o.amount] 0 0=o.amount:=rfl
 simp only [hz,hg,QM]
 unfold Zu
 generalize (o.other==Z7)=bo
 generalize (o.point==Z7)=bp
 generalize (o.hash==Z7)=bh
 generalize Z0Q o.owner o.other=cc
 by_cases k1:o.kind=1
 ·cases bo<;>cases bp<;>cases bh<;>simp [k1,h3]<;>first|grind
 by_cases k2:o.kind=2
 ·cases bp<;>cases bh<;>simp [k2,h3]<;>first|grind
 by_cases k3:o.kind=3
 ·cases bo<;>cases bh<;>simp [h3]<;>first|grind
 by_cases k4:o.kind=4
 ·simp [h3]<;>first|grind
 grind
def ZfS (R:ZR->Bool):ZM:=fun args _ K=>match args with
 | [.agg [.int .i64 kd,.int .i64 am,.arr .u8 32 ow,.arr .u8 32 ot,.arr .u8 32 po,.arr .u8 32 ha,.int .i64 de,.int .i64 ex]]=>Z5 (ow.length=32/\ot.length=32/\po.length=32/\ha.length=32) (K (.bool (R ⟨kd,am,ow,ot,po,ha,de,ex⟩)))
 | _=>False
theorem Zdv (args:List AV) (h:Z8) (K:AV->Prop) (hl:ZfS Zu args h K):Zf PP 75 args h fun o h'=>∃v,o=.ret v/\h'=h/\K v:=by
 unfold ZfS at hl
 split at hl
 ·rename_i kd am ow ot po ha de ex
  obtain ⟨⟨h1,h2,h3,h4⟩,hK⟩:=Zc hl
  refine (Zv.ev Zt (Zbw ⟨kd,am,ow,ot,po,ha,de,ex⟩ _ ⟨h1,h2,h3,h4⟩ rfl)).calls (v':=.bool (Zu ⟨kd,am,ow,ot,po,ha,de,ex⟩)) (fun E w rs he hr=> ?_) rfl trivial ⟨_,rfl,rfl,hK⟩
  cases hr with
  | cons v r1 vs rs1 h1 hr=>
   cases hr
   exact .cons _ _ _ _ (h1.aggPlain rfl) .nil
 simp_all
def X2:List Nat->Nat->Option Nat
 | [],_=>none
 | x::_,0=>some x
 | _::r,n+1=>X2 r n
def Xk:List Nat->Nat->Option Nat
 | [],_=>none
 | y::r,x=>match Nat.beq y x with
  | true=>some 0
  | false=>match Xk r x with|some i=>some (i+1)|none=>none
theorem Vb:∀{σ:List Nat} {x i:Nat},Xk σ x=some i->X2 σ i=some x
 | [],_,_,h=>by simp [Xk] at h
 | y::r,x,i,h=>by
  unfold Xk at h
  split at h
  ·grind [J0,X2]
  ·split at h
   ·rename_i j hj
    cases h
    exact (Vb (σ:=r) hj:X2 r _=some x)
   ·cases h
theorem Z0g:∀{σ:List Nat} {x:Nat},Xk σ x=none->x∉σ
 | [],_,_=>by simp
 | y::r,x,h=>by
  unfold Xk at h
  split at h
  ·cases h
  ·rename_i hb
   split at h
   ·cases h
   ·rename_i hj
    intro hm
    rcases J6.1 hm with rfl|hm
    ·simp [Jf] at hb
    ·exact Z0g hj hm
theorem Xe:∀{σ:List Nat} {i x:Nat},X2 σ i=some x->x∈σ
 | [],_,_,h=>by simp [X2] at h
 | y::r,0,x,h=>by simp [X2] at h;simp [h]
 | y::r,i+1,x,h=>Jj _ (Xe (σ:=r) h)
theorem Z8l:∀{σ:List Nat} {i:Nat},σ.length<=i->X2 σ i=none
 | [],_,_=>by simp [X2]
 | y::r,0,h=>by simp at h
 | y::r,i+1,h=>by simp at h;exact Z8l (σ:=r) h
def Env.borL (E:Env) (σ:List Nat) (w:World) (t:Bool):Env:=
 ⟨fun y=>match t with|true=>(match X2 σ y with|some x=>E.blk x|none=>none)|false=>none,fun a c=>w.cell? a=some c/\∀x,x∈σ->∀N,E.blk x=some (a.block,N)->False⟩
mutual
def vwV (σ:List Nat) (h:Z8) (t:Bool):Nat->AV->(AV->Prop)->Prop
 | 0,_,_=>False
 | d+1,v,K=>match v with
  | .top=>K .top
  | .bool b=>K (.bool b)
  | .int k n=>K (.int k n)
  | .str s=>K (.str s)
  | .ptr none=>K (.ptr none)
  | .eslice=>K .eslice
  | .fslice=>K .fslice
  | .nilslice=>K .nilslice
  | .map none=>K (.map none)
  | .nilFunc=>K .nilFunc
  | .nilIface=>K .nilIface
  | .pview cs inn=>K (.pview cs inn)
  | .vints k xs len=>K (.vints k xs len)
  | .vrows esz n f len=>K (.vrows esz n f len)
  | .ptr (some p)=>match Xk σ p.blk with
   | some i=>match t with|false=>False|true=>K (.ptr (some ⟨i,p.row,p.sz,p.off,p.inn⟩))
   | none=>match h.get p.blk with
    | some (.flat cs)=>match p.row,Ym p.off cs with
     | 0,some rest=>vwC σ h false d rest fun rest'=>K (.pview rest' p.inn)
     | _,_=>False
    | some (.rows sz n f)=>match Nat.beq sz p.sz with
     | true=>Z5 (p.row<n) (match Ym p.off (f p.row) with
      | some rest=>vwC σ h false d rest fun rest'=>K (.pview rest' p.inn)
      | none=>False)
     | false=>False
    | _=>False
  | .map (some x)=>match Xk σ x,t with
   | some i,true=>K (.map (some i))
   | _,_=>False
  | .nslice p esz len lo=>match Xk σ p.blk with
   | some i=>match t with|false=>False|true=>K (.nslice ⟨i,p.row,p.sz,p.off,p.inn⟩ esz len lo)
   | none=>match h.get p.blk with
    | some (.ints k xs)=>match Nat.beq esz 1 with
     | true=>Z5 (p.tot+len<=xs.length) (K (.vints k ((ZP p.tot xs).take len) len))
     | false=>False
    | some (.rows sz n f)=>match Nat.beq sz esz&&Nat.beq p.off 0&&Nat.beq p.inn 0&&(Nat.beq p.sz esz||Nat.beq p.row 0) with
     | true=>Z5 (p.row+len<=n) ((∀i,i<len->plainC (Wf p.row f i)=true)/\K (.vrows esz len (Wf p.row f) len))
     | false=>False
    | some (.flat cs)=>match p.row,Ym p.off cs with
     | 0,some rest=>match Z8f rest&&Nat.beq esz 1 with
      | true=>match rest with
       | .arr k n xs::_=>match Nat.beq esz 1,Nat.beq p.inn 0&&Nat.beq len n with
        | true,true=>Z5 (xs.length=n) (K (.vints k xs len))
        | true,false=>Z5 (xs.length=n/\p.inn+len<=n) (K (.vints k ((ZP p.inn xs).take len) len))
        | false,_=>False
       | _=>False
      | false=>match Nat.beq p.inn 0,takeC (len*esz) rest with
       | true,some part=>vwC σ h false d part fun part'=>match UR part' 0 esz len with
        | true=>K (.vrows esz len (Z0M part' 0 esz) len)
        | false=>False
       | _,_=>False
     | _,_=>False
    | _=>False
  | .func (.func g) fs cs=>vwL σ h t d fs fun fs'=>vwL σ h t d cs fun cs'=>K (.func (.func g) fs' cs')
  | .iface T u=>vwV σ h t d u fun u'=>K (.iface T u')
  | .agg cs=>vwC σ h t d cs fun cs'=>K (.agg cs')
  | .tuple vs=>vwL σ h t d vs fun vs'=>K (.tuple vs')
  | _=>False
def vwC (σ:List Nat) (h:Z8) (t:Bool):Nat->List AV->(List AV->Prop)->Prop
 | 0,_,_=>False
 | d+1,l,K=>match l with
  | []=>K []
  | .arr k n xs::r=>vwC σ h t d r fun r'=>K (.arr k n xs::r')
  | v::r=>vwV σ h t d v fun v'=>match v'.isCell with
   | true=>vwC σ h t d r fun r'=>K (v'::r')
   | false=>False
def vwL (σ:List Nat) (h:Z8) (t:Bool):Nat->List AV->(List AV->Prop)->Prop
 | 0,_,_=>False
 | d+1,l,K=>match l with
  | []=>K []
  | v::r=>vwV σ h t d v fun v'=>vwL σ h t d r fun r'=>K (v'::r')
end
theorem Z2h {w:World} {t:Bool} {h:Z8} (he:Emb E h w) (hm:∀x,x∈σ->∃B,h.get x=some B):E.views.le (E.borL σ w t).views:=
 ⟨fun _ _ hq=>by simp [Env.views] at hq,fun a c hi=>⟨he.imm a c hi,fun x hx N hb=>let ⟨B,hB⟩:=hm x hx;he.sep a c x B N hi hB hb⟩⟩
theorem Z2i {w:World} {t:Bool} {h:Z8} (he:Emb E h w) (hm:∀x,x∈σ->∃B,h.get x=some B) {a:Addr} {c:Value} (hi:E.imm a c):(E.borL σ w t).imm a c:=
 ⟨he.imm a c hi,fun x hx N hb=>let ⟨B,hB⟩:=hm x hx;he.sep a c x B N hi hB hb⟩
theorem Xw {w:World} {t:Bool} {h:Z8} (he:Emb E h w) (hm:∀x,x∈σ->∃B,h.get x=some B) {y b N o:Nat} (hy:h.get y=some B) (hb:E.blk y=some (b,N)) (hn:Xk σ y=none) {c:Value}
  (hc:w.cell? ⟨b,o,none⟩=some c):(E.borL σ w t).imm ⟨b,o,none⟩ c:=
 ⟨hc,fun x hx N' hbx=>by
  obtain ⟨C,hC⟩:=hm x hx
  have:=he.disj x y C B b N' N hC hy hbx hb
  subst this
  exact Z0g hn hx⟩
theorem X3 {w:World} {x i:Nat} (h:Xk σ x=some i):(E.borL σ w true).blk i=E.blk x:=by
 show (match X2 σ i with|some x=>E.blk x|none=>none)=_
 rw [Vb h]
set_option maxHeartbeats 2000000 in
mutual
theorem Z7f {σ:List Nat} {h:Z8} (hm:∀x,x∈σ->∃B,h.get x=some B):∀(d:Nat) (t:Bool) (v:AV) (K:AV->Prop),vwV σ h t d v K->∃v₀,K v₀/\∀(E:Env) (w:World) (r:Value),Emb E h w->Za E v r->Za (E.borL σ w t) v₀ r
 | 0,t,v,K,hl=>by unfold vwV at hl;simp_all
 | d+1,t,v,K,hl=>by
  unfold vwV at hl
  split at hl
  ·exact ⟨_,hl,fun E w r he hv=>.top r⟩
  ·exact ⟨_,hl,fun E w r he hv=>hv.plain rfl⟩
  ·exact ⟨_,hl,fun E w r he hv=>hv.plain rfl⟩
  ·exact ⟨_,hl,fun E w r he hv=>hv.plain rfl⟩
  ·exact ⟨_,hl,fun E w r he hv=>hv.plain rfl⟩
  ·exact ⟨_,hl,fun E w r he hv=>hv.plain rfl⟩
  ·exact ⟨_,hl,fun E w r he hv=>hv.plain rfl⟩
  ·exact ⟨_,hl,fun E w r he hv=>hv.plain rfl⟩
  ·exact ⟨_,hl,fun E w r he hv=>hv.plain rfl⟩
  ·exact ⟨_,hl,fun E w r he hv=>hv.plain rfl⟩
  ·exact ⟨_,hl,fun E w r he hv=>hv.plain rfl⟩
  ·refine ⟨_,hl,fun E w r he hv=> ?_⟩
   cases hv with
   | pview cs inn a vs hc hi=>exact .pview _ _ a vs (hc.mono (Z2h he hm)) (fun j c hj=>Z2i he hm (hi j c hj))
  ·refine ⟨_,hl,fun E w r he hv=> ?_⟩
   cases hv with
   | vintsNil k xs len h1 h2=>exact .vintsNil _ _ _ h1 h2
   | vints k xs len a cap h1 h2 hi=>exact .vints _ _ _ a cap h1 h2 (fun i hi'=>Z2i he hm (hi i hi'))
  ·refine ⟨_,hl,fun E w r he hv=> ?_⟩
   cases hv with
   | vrowsNil esz n f len h1 h2=>exact .vrowsNil _ _ _ _ h1 h2
   | vrows esz n f len a cap g h1 h2 hc hl' hi=>exact .vrows _ _ _ _ a cap g h1 h2 (fun i hi'=>(hc i hi').mono (Z2h he hm)) hl' (fun i j c hi' hj=>Z2i he hm (hi i j c hi' hj))
  ·rename_i p
   split at hl
   ·rename_i ix hmv
    split at hl
    ·simp_all
    ·refine ⟨_,hl,fun E w r he hv=> ?_⟩
     cases hv with
     | ptr p b N hb=>exact .ptr ⟨ix,p.row,p.sz,p.off,p.inn⟩ b N (by rw [X3 hmv];exact hb)
   ·rename_i hmv
    split at hl
    ·rename_i cs hg
     split at hl
     ·rename_i rest hrow hrest
      obtain ⟨rest',hK,hr⟩:=Qa hm d false rest _ hl
      refine ⟨_,hK,fun E w r he hv=> ?_⟩
      cases hv with
      | ptr p b N hb=>
       cases he.own _ _ hg with
       | flat0 cs h0 hn=>rw [hn] at hb;cases hb
       | flat cs b' cells elem fr vs hb' hw hf hc hvs=>
        rw [hb] at hb'
        cases hb'
        have hd:=(ZQ _ _ _ _ hrest hc).1
        have e:(⟨b,p.tot,none⟩:Addr)=(⟨b,p.off,none⟩:Addr).add p.inn:=by rw [addr_add];simp [ZS.tot,hrow]
        rw [e]
        refine .pview _ _ ⟨b,p.off,none⟩ _ (hr E w _ he hd) (fun j c hj=> ?_)
        rw [addr_add]
        grind [Xw,Z1a]
     simp_all
    ·rename_i sz n f hg
     split at hl
     ·rename_i hsz
      have hsz:=J0 hsz
      obtain ⟨hrow,hl⟩:=Zc hl
      split at hl
      ·rename_i rest hrest
       obtain ⟨rest',hK,hr⟩:=Qa hm d false rest _ hl
       refine ⟨_,hK,fun E w r he hv=> ?_⟩
       cases hv with
       | ptr p b N hb=>
        cases he.own _ _ hg with
        | rows0 sz n f h0 hn=>omega
        | rows sz n f b' cells elem fr g hb' hw hf hc hlg hvs=>
         rw [hb] at hb'
         cases hb'
         have hd:=(ZQ _ _ _ _ hrest (hc _ hrow)).1
         have e:(⟨b,p.tot,none⟩:Addr)=(⟨b,p.row*sz+p.off,none⟩:Addr).add p.inn:=by rw [addr_add];simp [ZS.tot,hsz]
         rw [e]
         refine .pview _ _ ⟨b,p.row*sz+p.off,none⟩ _ (hr E w _ he hd) (fun j c hj=> ?_)
         rw [addr_add]
         grind [Xw,cell_of_heap]
      simp_all
     simp_all
    simp_all
  ·rename_i x
   split at hl
   ·rename_i ix hmv
    refine ⟨_,hl,fun E w r he hv=> ?_⟩
    cases hv with
    | map x b N hb=>exact .map ix b N (by rw [X3 hmv];exact hb)
   ·exact hl.elim
  ·rename_i p esz len lo
   split at hl
   ·rename_i ix hmv
    split at hl
    ·simp_all
    ·refine ⟨_,hl,fun E w r he hv=> ?_⟩
     cases hv with
     | nslice0 p esz len lo a h1 h2=>exact .nslice0 _ _ _ _ a h1 h2
     | nslice p esz len lo b N cap hb h1 h2 h3=>exact .nslice ⟨ix,p.row,p.sz,p.off,p.inn⟩ _ _ _ b N cap (by rw [X3 hmv];exact hb) h1 h2 h3
   ·rename_i hmv
    split at hl
    ·rename_i k xs hg
     split at hl
     ·rename_i hes
      have hes:=J0 hes
      subst hes
      obtain ⟨hle,hK⟩:=Zc hl
      have hlen:((ZP p.tot xs).take len).length=len:=by rw [Y0,Jo,Je];omega
      refine ⟨_,hK,fun E w r he hv=> ?_⟩
      cases hv with
      | nslice0 p esz len lo a h1 h2=>
       subst h1
       cases a with
       | none=>exact .vintsNil _ _ _ (by simp) rfl
       | some a=>exact .vints _ _ _ a 0 (by simp) (by simp) (fun i hi=>by simp at hi)
      | nslice p esz len lo b N cap hb h1 h2 h3=>
       refine .vints _ _ _ _ cap (by omega) (by omega) (fun i hi=> ?_)
       rw [hlen] at hi
       rw [addr_add]
       refine Xw he hm hg hb hmv ?_
       cases he.own _ _ hg with
       | ints0 k xs h0 hn=>rw [hn] at hb;cases hb
       | ints k xs b' cells elem fr hb' hw hf hvs=>
        rw [hb] at hb'
        cases hb'
        rw [cell_of_heap hw,hvs _ (by omega)]
        congr 2
        rw [Y0]
        simp_all
     simp_all
    ·rename_i sz n f hg
     split at hl
     ·rename_i hb
      simp only [J1,JL] at hb
      obtain ⟨⟨⟨q1,q2⟩,q3⟩,q4⟩:=hb
      have q1:=J0 q1
      have q2:=J0 q2
      have q3:=J0 q3
      obtain ⟨hle,hpl,hK⟩:=Zc hl
      refine ⟨_,hK,fun E w r he hv=> ?_⟩
      have htot:p.tot=p.row*sz:=by
       grind [J0,ZS.tot]
      cases hv with
      | nslice0 p esz len lo a h1 h2=>
       subst h1
       cases a with
       | none=>exact .vrowsNil _ _ _ _ rfl rfl
       | some a=>exact .vrows _ _ _ _ a 0 (fun _=>[]) (by omega) (by omega) (fun i hi=>by omega) (fun i hi=>by omega) (fun i j c hi=>by omega)
      | nslice p esz len lo b N cap hb h1 h2 h3=>
       cases he.own _ _ hg with
       | rows0 sz n f h0 hn=>rw [hn] at hb;cases hb
       | rows sz n f b' cells elem fr g hb' hw hf hc hlg hvs=>
        rw [hb] at hb'
        cases hb'
        refine .vrows _ _ _ _ _ cap (fun i=>g (p.row+i)) (by omega) h1 (fun i hi=> ?_) (fun i hi=>by rw [<-q1];grind) (fun i j c hi hj=> ?_)
        ·have:=hc (p.row+i) (by omega)
         have hp:=hpl i hi
         rw [V0] at hp⊢
         exact this.plain hp
        ·rw [addr_add]
         refine Xw he hm hg hb hmv ?_
         rw [cell_of_heap hw,htot,<-q1]
         have:=hvs (p.row+i) j c (by omega) hj
         rw [Kb] at this
         rw [show p.row*sz+(i*sz+j)=p.row*sz+i*sz+j by omega]
         exact this
     simp_all
    ·rename_i cs hg
     split at hl
     ·rename_i rest hrow hrest
      have hbase:∀(E:Env) (w:World) (b N:Nat),Emb E h w->E.blk p.blk=some (b,N)->∃vs,Zl E rest vs/\∀j c,vs[j]? =some c->w.cell? ⟨b,p.off+j,none⟩=some c:=by
       intro E w b N he hb
       cases he.own _ _ hg with
       | flat0 cs h0 hn=>rw [hn] at hb;cases hb
       | flat cs b' cells elem fr vs hb' hw hf hc hvs=>
        rw [hb] at hb'
        cases hb'
        refine ⟨_,(ZQ _ _ _ _ hrest hc).1,fun j c hj=> ?_⟩
        rw [JG] at hj
        exact Z1a hvs hw hj
      split at hl
      ·split at hl
       ·rename_i k n xs rest2 harr
        split at hl
        ·rename_i hes hbb
         have hes:=J0 hes
         subst hes
         rw [J1] at hbb
         have e1:=J0 hbb.1
         have e2:=J0 hbb.2
         obtain ⟨hxl,hK⟩:=Zc hl
         refine ⟨_,hK,fun E w r he hv=> ?_⟩
         cases hv with
         | nslice0 p esz len lo a h1 h2=>
          have hx0:xs=[]:=by
           grind
          subst hx0
          subst h1
          cases a with
          | none=>exact .vintsNil _ _ _ rfl rfl
          | some a=>exact .vints _ _ _ a 0 (by simp) (by simp) (fun i hi=>by simp at hi)
         | nslice p esz len lo b N cap hb h1 h2 h3=>
          obtain ⟨vs,hcr,hcell⟩:=hbase E w b N he hb
          obtain ⟨ws,rfl,_⟩:=Zl.cons_arr hcr
          refine .vints _ _ _ _ cap (by omega) (by omega) (fun i hi=> ?_)
          rw [addr_add]
          refine Xw he hm hg hb hmv ?_
          have:=hcell i (.int k (xs.getD i 0)) (by
           rw [J7 (by rw [Z9];omega),Zh (by omega)])
          rw [show p.tot+i=p.off+i by simp [ZS.tot,hrow,e1]]
          exact this
        ·rename_i hes hbb
         have hes:=J0 hes
         subst hes
         obtain ⟨⟨hxl,hle⟩,hK⟩:=Zc hl
         have hlen:((ZP p.inn xs).take len).length=len:=by rw [Y0,Jo,Je];omega
         refine ⟨_,hK,fun E w r he hv=> ?_⟩
         cases hv with
         | nslice0 p esz len lo a h1 h2=>
          subst h1
          cases a with
          | none=>exact .vintsNil _ _ _ (by simp) rfl
          | some a=>exact .vints _ _ _ a 0 (by simp) (by simp) (fun i hi=>by simp at hi)
         | nslice p esz len lo b N cap hb h1 h2 h3=>
          obtain ⟨vs,hcr,hcell⟩:=hbase E w b N he hb
          obtain ⟨ws,rfl,_⟩:=Zl.cons_arr hcr
          refine .vints _ _ _ _ cap (by omega) (by omega) (fun i hi=> ?_)
          rw [hlen] at hi
          rw [addr_add]
          refine Xw he hm hg hb hmv ?_
          have:=hcell (p.inn+i) (.int k (xs.getD (p.inn+i) 0)) (by
           rw [J7 (by rw [Z9];omega),Zh (by omega)])
          rw [show p.tot+i=p.off+(p.inn+i) by simp [ZS.tot,hrow];omega]
          rw [this]
          congr 2
          rw [Y0]
          simp_all
        simp_all
       simp_all
      ·split at hl
       ·rename_i part hinn hpart
        have hinn:=J0 hinn
        obtain ⟨part',hK,hr⟩:=Qa hm d false part _ hl
        split at hK
        ·rename_i hrows
         refine ⟨_,hK,fun E w r he hv=> ?_⟩
         cases hv with
         | nslice0 p esz len lo a h1 h2=>
          subst h1
          cases a with
          | none=>exact .vrowsNil _ _ _ _ rfl rfl
          | some a=>exact .vrows _ _ _ _ a 0 (fun _=>[]) (by omega) (by omega) (fun i hi=>by omega) (fun i hi=>by omega) (fun i j c hi=>by omega)
         | nslice p esz len lo b N cap hb h1 h2 h3=>
          obtain ⟨vs,hcr,hcell⟩:=hbase E w b N he hb
          have hpr:=(WY _ _ _ _ hpart hcr).1
          have hpr':=hr E w _ he hpr
          refine .vrows _ _ _ _ _ cap (fun i=>((vs.take (len*esz)).drop (0+i*esz)).take esz) (by omega) h1 (fun i hi=>(X5 (YD hrows i hi) hpr').1) (fun i hi=>(X5 (YD hrows i hi) hpr').2) (fun i j c hi hj=> ?_)
          rw [addr_add]
          grind [Xw,ZS.tot]
        simp_all
       simp_all
     simp_all
    simp_all
  ·obtain ⟨fs',hl,h1⟩:=Z2j hm d t _ _ hl
   obtain ⟨cs',hl,h2⟩:=Z2j hm d t _ _ hl
   refine ⟨_,hl,fun E w r he hv=> ?_⟩
   cases hv with
   | func fn first captured fs cs ha hb=>exact .func _ _ _ _ _ (h1 E w _ he ha) (h2 E w _ he hb)
  ·obtain ⟨u',hl,h1⟩:=Z7f hm d t _ _ hl
   refine ⟨_,hl,fun E w r he hv=> ?_⟩
   cases hv with
   | iface T v x hx=>exact .iface _ _ _ (h1 E w _ he hx)
  ·obtain ⟨cs',hl,h1⟩:=Qa hm d t _ _ hl
   refine ⟨_,hl,fun E w r he hv=> ?_⟩
   cases hv with
   | agg cs vs hc=>exact .agg _ _ (h1 E w _ he hc)
  ·obtain ⟨vs',hl,h1⟩:=Z2j hm d t _ _ hl
   refine ⟨_,hl,fun E w r he hv=> ?_⟩
   cases hv with
   | tuple vs rs hc=>exact .tuple _ _ (h1 E w _ he hc)
  simp_all
theorem Qa {σ:List Nat} {h:Z8} (hm:∀x,x∈σ->∃B,h.get x=some B):∀(d:Nat) (t:Bool) (l:List AV) (K:List AV->Prop),vwC σ h t d l K->∃l₀,K l₀/\∀(E:Env) (w:World) (r:List Value),Emb E h w->Zl E l r->Zl (E.borL σ w t) l₀ r
 | 0,t,l,K,hl=>by unfold vwC at hl;simp_all
 | d+1,t,l,K,hl=>by
  unfold vwC at hl
  split at hl
  ·exact ⟨_,hl,fun E w r he hv=>by cases hv;exact .nil⟩
  ·obtain ⟨r',hl,h1⟩:=Qa hm d t _ _ hl
   refine ⟨_,hl,fun E w r he hv=> ?_⟩
   obtain ⟨ws,rfl,ht⟩:=Zl.cons_arr hv
   exact .arr _ _ _ _ _ (h1 E w _ he ht)
  ·rename_i v r hna
   obtain ⟨v',hl,h1⟩:=Z7f hm d t _ _ hl
   split at hl
   ·rename_i hcell
    obtain ⟨r',hl,h2⟩:=Qa hm d t _ _ hl
    refine ⟨_,hl,fun E w q he hv=> ?_⟩
    obtain ⟨c,ws,rfl,q1,q2,q3,q4⟩:=Zl.cons_cell hv (fun k m xs e=>hna k m xs e)
    exact .one _ _ _ _ hcell q2 (h1 E w _ he q3) (h2 E w _ he q4)
   ·exact hl.elim
theorem Z2j {σ:List Nat} {h:Z8} (hm:∀x,x∈σ->∃B,h.get x=some B):∀(d:Nat) (t:Bool) (l:List AV) (K:List AV->Prop),vwL σ h t d l K->∃l₀,K l₀/\∀(E:Env) (w:World) (r:List Value),Emb E h w->Zs E l r->Zs (E.borL σ w t) l₀ r
 | 0,t,l,K,hl=>by unfold vwL at hl;simp_all
 | d+1,t,l,K,hl=>by
  unfold vwL at hl
  split at hl
  ·exact ⟨_,hl,fun E w r he hv=>by cases hv;exact .nil⟩
  ·obtain ⟨v',hl,h1⟩:=Z7f hm d t _ _ hl
   obtain ⟨r',hl,h2⟩:=Z2j hm d t _ _ hl
   refine ⟨_,hl,fun E w q he hv=> ?_⟩
   cases hv with
   | cons v c vs cs ha hb=>exact .cons _ _ _ _ (h1 E w _ he ha) (h2 E w _ he hb)
end
def plainW:AV->Bool
 | .agg cs=>plainC cs
 | v=>v.plain
theorem Za.plainW {r:Value} (h:Za E v r) (hp:plainW v=true):Za E' v r:=by
 cases v with
 | agg cs=>cases h with|agg _ vs hc=>exact .agg _ vs (hc.plain hp)
 | _=>exact h.plain hp
def vwB (σ:List Nat) (h:Z8) (d:Nat) (B:Blk) (K:Blk->Prop):Prop:=
 match B with
 | .ints k xs=>K (.ints k xs)
 | .flat cs=>vwC σ h true d cs fun cs'=>match Nat.beq (csz cs') (csz cs) with|true=>K (.flat cs')|false=>False
 | .rows sz n f=>(∀i,i<n->plainC (f i)=true)/\K (.rows sz n f)
 | .fmap n kf vf=>(∀i,i<n->plainW (kf i)=true/\plainW (vf i)=true)/\K (.fmap n kf vf)
 | _=>False
theorem ZfT {h:Z8} (hm:∀x,x∈σ->∃B,h.get x=some B) {d:Nat} {K:Blk->Prop} (hl:vwB σ h d B K):
  ∃B₀,K B₀/\∀(E:Env) (w:World) (x i:Nat),Emb E h w->Xk σ x=some i->ZZ E w x B->ZZ (E.borL σ w true) w i B₀:=by
 unfold vwB at hl
 split at hl
 ·refine ⟨_,hl,fun E w x i he hi hb=> ?_⟩
  have hq:=X3 (E:=E) (w:=w) hi
  cases hb with
  | ints0 k xs h0 hn=>exact .ints0 _ _ h0 (hq.trans hn)
  | ints k xs b cells elem fr hb hw hf hv=>exact .ints _ _ b cells elem fr (hq.trans hb) hw hf hv
 ·obtain ⟨cs',hl,hr⟩:=Qa hm _ _ _ _ hl
  split at hl
  ·rename_i hz
   have hz:=J0 hz
   refine ⟨_,hl,fun E w x i he hi hb=> ?_⟩
   have hq:=X3 (E:=E) (w:=w) hi
   cases hb with
   | flat0 cs h0 hn=>exact .flat0 _ (hz.trans h0) (hq.trans hn)
   | flat cs b cells elem fr vs hb hw hf hc hv=>exact .flat _ b cells elem fr vs (hq.trans hb) hw hf (hr E w vs he hc) hv
  simp_all
 ·obtain ⟨hp,hl⟩:=hl
  refine ⟨_,hl,fun E w x i he hi hb=> ?_⟩
  have hq:=X3 (E:=E) (w:=w) hi
  cases hb with
  | rows0 sz n f h0 hn=>exact .rows0 _ _ _ h0 (hq.trans hn)
  | rows sz n f b cells elem fr g hb hw hf hc hl hv=>exact .rows _ _ _ b cells elem fr g (hq.trans hb) hw hf (fun i hi=>(hc i hi).plain (hp i hi)) hl hv
 ·obtain ⟨hp,hl⟩:=hl
  refine ⟨_,hl,fun E w x i he hi hb=> ?_⟩
  have hq:=X3 (E:=E) (w:=w) hi
  cases hb with
  | fmap n kf vf b ents clock hb hw hll hk hv hbn=>exact .fmap _ _ _ b ents clock (hq.trans hb) hw hll (fun i e he=>(hk i e he).plainW (hp i (hll▸(J9.1 he).1)).1) (fun i e he=>(hv i e he).plainW (hp i (hll▸(J9.1 he).1)).2) hbn
 simp_all
def Zdw (σ:List Nat) (h:Z8) (d:Nat):List Nat->(List Blk->Prop)->Prop
 | [],K=>K []
 | x::r,K=>match h.get x with
  | some B=>vwB σ h d B fun B'=>Zdw σ h d r fun Bs=>K (B'::Bs)
  | none=>False
theorem Z8m {σ:List Nat} {h:Z8} (hm:∀x,x∈σ->∃B,h.get x=some B) {d:Nat}:∀(r:List Nat) (K:List Blk->Prop),Zdw σ h d r K->
  ∃Bs,K Bs/\Bs.length=r.length/\∀(i x:Nat) (B:Blk),r[i]? =some x->Bs[i]? =some B->∃B',h.get x=some B'/\∀(E:Env) (w:World) (j:Nat),Emb E h w->Xk σ x=some j->ZZ E w x B'->ZZ (E.borL σ w true) w j B
 | [],K,hl=>⟨[],hl,rfl,fun i x B h=>by simp at h⟩
 | y::r,K,hl=>by
  unfold Zdw at hl
  split at hl
  ·rename_i B' hB'
   obtain ⟨B₀,hl,hr⟩:=ZfT hm hl
   obtain ⟨Bs,hK,hlen,hall⟩:=Z8m hm r _ hl
   refine ⟨B₀::Bs,hK,by simp [hlen],fun i x B h1 h2=> ?_⟩
   match i with
   | 0=>simp at h1 h2;subst h1;subst h2;exact ⟨B',hB',fun E w j he hj hb=>hr E w _ j he hj hb⟩
   | i+1=>exact hall i x B (by simpa using h1) (by simpa using h2)
  ·exact hl.elim
def hasB (h:Z8):List Nat->Bool
 | []=>true
 | x::r=>match h.get x with|some _=>hasB h r|none=>false
theorem Z8n {h:Z8}:∀{σ:List Nat},hasB h σ=true->∀x,x∈σ->∃B,h.get x=some B
 | [],_,x,hx=>by simp at hx
 | y::r,hl,x,hx=>by
  unfold hasB at hl
  split at hl
  ·rename_i B hB
   rcases J6.1 hx with rfl|hx
   ·exact ⟨B,hB⟩
   ·exact Z8n hl x hx
  ·cases hl
def Z3z:List Nat->Bool
 | []=>true
 | x::r=>match Xk r x with|some _=>false|none=>Z3z r
theorem U3:∀{σ:List Nat},Z3z σ=true->∀(i x:Nat),X2 σ i=some x->Xk σ x=some i
 | [],_,i,x,h=>by simp [X2] at h
 | y::r,hd,0,x,h=>by simp_all [X2,Xk]
 | y::r,hd,i+1,x,h=>by
  unfold Z3z at hd
  split at hd
  ·cases hd
  ·rename_i hn
   have h1:X2 r i=some x:=h
   have h2:=U3 hd i x h1
   have hne:y≠x:=fun e=>Z0g hn (e▸Xe h1)
   simp [Xk,Zq hne,h2]
def frA (σ:List Nat) (h:Z8) (d:Nat) (args:List AV) (K0:List Blk->List AV->Prop):Prop:=
 match hasB h σ&&Z3z σ with
 | true=>Zdw σ h d σ fun Bs=>vwL σ h true d args fun a=>K0 Bs a
 | false=>False
theorem Z2k:∀{σ:List Nat} {i:Nat},X2 σ i=σ[i]?
 | [],_=>by simp [X2]
 | x::r,0=>by simp [X2]
 | x::r,i+1=>by simp [X2,Z2k (σ:=r)]
theorem ZfU {h:Z8} {d:Nat} (hl:frA σ h d args K0):
  (∀x,x∈σ->∃B,h.get x=some B)/\Z3z σ=true/\∃Bs a,K0 Bs a/\Bs.length=σ.length/\
   (∀(i x:Nat) (B:Blk),X2 σ i=some x->Bs[i]? =some B->∃B',h.get x=some B'/\∀(E:Env) (w:World),Emb E h w->ZZ E w x B'->ZZ (E.borL σ w true) w i B)/\
   ∀(E:Env) (w:World) (r:List Value),Emb E h w->Zs E args r->Zs (E.borL σ w true) a r:=by
 unfold frA at hl
 split at hl
 ·rename_i hc
  rw [J1] at hc
  have hm:=Z8n hc.1
  grind [Z8m,Z2j,Z2k,U3]
 simp_all
def Spec (P:Program) (f:FuncId) (args:List AV) (h0:Z8) (o:Out) (nx:Nat) (bs:List (Nat×Blk)):Prop:=
 ∀(E:Env) (w:World) (rs:List Value),Emb E h0 w->Zs E args rs->Calls P f rs.toArray w fun e w'=>∃E',Evo E h0 w E' ⟨nx,bs⟩ w'/\UW E' o e
theorem Z8o {k:Nat} {τ:Ren} {u:AV} {bs:List (Nat×Blk)} {h0 h:Z8} (hk:k=h0.next) (hl:ZO k τ ⟨1,[(0,v)],⟨nx,bs⟩,[]⟩ ⟨1,[(0,u)],h,[]⟩ True) {E0:Env} {w0 w:World} {r:Value}
  (he0:Emb E0 h0 w0) (hev:Evo E0 h0 w0 E h w) (hr:Za E u r):∃E',Evo E0 h0 w0 E' ⟨nx,bs⟩ w/\Za E' v r:=by
 obtain ⟨_,hw⟩:=ZU hl
 have hs:WT E ⟨1,[(0,u)],h,[]⟩ { tmps:= #[r],defers:=[]} w:=by
  refine ⟨hev.emb,⟨rfl,fun x v' hx=> ?_⟩,.nil⟩
  simp only [ZE] at hx
  split at hx
  all_goals simp_all
 obtain ⟨E₂,hs2,hev2⟩:=hw E0 h0 w0 E _ w (fun x hx=>he0.fresh x (hk▸hx)) hs hev
 refine ⟨E₂,hev2, ?_⟩
 have:=hs2.tmps.get 0 v (by simp [ZE])
 simp_all
def mvN:List Nat->Nat->Nat->Nat
 | [],d,y=>d+y
 | x::_,_,0=>x
 | _::r,d,y+1=>mvN r d y
theorem Z7g:∀{σ:List Nat} {d y x:Nat},X2 σ y=some x->mvN σ d y=x
 | [],_,_,_,h=>by simp [X2] at h
 | x::r,d,0,_,h=>by simpa [X2,mvN] using h
 | x::r,d,y+1,_,h=>Z7g (σ:=r) h
theorem Z7h:∀{σ:List Nat} {d y:Nat},σ.length<=y->mvN σ d y=d+(y-σ.length)
 | [],d,y,_=>by simp [mvN]
 | x::r,d,0,h=>by simp at h
 | x::r,d,y+1,h=>by
  simp at h
  have:=Z7h (σ:=r) (d:=d) h
  simp [mvN,this]
theorem Qb:∀{σ:List Nat} {y:Nat},y<σ.length->∃x,X2 σ y=some x
 | [],_,h=>by simp at h
 | x::r,0,_=>⟨x,rfl⟩
 | x::r,y+1,h=>Qb (σ:=r) (by simp_all)
mutual
/-- Names moved. -/
def mvV (σ:List Nat) (d:Nat):AV->Option AV
 | .top=>some .top
 | .bool b=>some (.bool b)
 | .int k n=>some (.int k n)
 | .str s=>some (.str s)
 | .ptr none=>some (.ptr none)
 | .ptr (some p)=>some (.ptr (some ⟨mvN σ d p.blk,p.row,p.sz,p.off,p.inn⟩))
 | .nslice p esz len lo=>some (.nslice ⟨mvN σ d p.blk,p.row,p.sz,p.off,p.inn⟩ esz len lo)
 | .eslice=>some .eslice
 | .fslice=>some .fslice
 | .nilslice=>some .nilslice
 | .map none=>some (.map none)
 | .map (some x)=>some (.map (some (mvN σ d x)))
 | .nilFunc=>some .nilFunc
 | .nilIface=>some .nilIface
 | .func (.func g) fs cs=>match mvL σ d fs,mvL σ d cs with
  | some fs',some cs'=>some (.func (.func g) fs' cs')
  | _,_=>none
 | .iface t v=>match mvV σ d v with|some v'=>some (.iface t v')|none=>none
 | .agg cs=>match mvC σ d cs with|some cs'=>some (.agg cs')|none=>none
 | .tuple vs=>match mvL σ d vs with|some vs'=>some (.tuple vs')|none=>none
 | _=>none
def mvC (σ:List Nat) (d:Nat):List AV->Option (List AV)
 | []=>some []
 | .arr k n xs::r=>match mvC σ d r with|some r'=>some (.arr k n xs::r')|none=>none
 | v::r=>match mvV σ d v,mvC σ d r with
  | some v',some r'=>match v'.isCell with|true=>some (v'::r')|false=>none
  | _,_=>none
def mvL (σ:List Nat) (d:Nat):List AV->Option (List AV)
 | []=>some []
 | v::r=>match mvV σ d v,mvL σ d r with
  | some v',some r'=>some (v'::r')
  | _,_=>none
end
theorem Z0h (h:v.isCell=true) (r:List AV):csz (v::r)=1+csz r:=by
 cases v<;>simp_all [AV.isCell,csz]
set_option maxHeartbeats 1000000 in
mutual
theorem Z2l {σ:List Nat} {d:Nat} {E E':Env} (hb:∀x r,E.blk x=some r->E'.blk (mvN σ d x)=some r):∀(v v':AV) (r:Value),mvV σ d v=some v'->Za E v r->Za E' v' r:=by
 intro v v' r h hv
 unfold mvV at h
 split at h
 ·cases h;exact .top r
 ·cases h;exact hv.plain rfl
 ·cases h;exact hv.plain rfl
 ·cases h;exact hv.plain rfl
 ·cases h;exact hv.plain rfl
 ·cases h
  cases hv with
  | ptr p b N hq=>exact .ptr ⟨mvN σ d _,_,_,_,_⟩ b N (hb _ _ hq)
 ·cases h
  cases hv with
  | nslice0 p esz len lo a h1 h2=>exact .nslice0 _ _ _ _ a h1 h2
  | nslice p esz len lo b N cap hq h1 h2 h3=>exact .nslice ⟨mvN σ d _,_,_,_,_⟩ _ _ _ b N cap (hb _ _ hq) h1 h2 h3
 ·cases h;exact hv.plain rfl
 ·cases h;exact hv.plain rfl
 ·cases h;exact hv.plain rfl
 ·cases h;exact hv.plain rfl
 ·cases h
  cases hv with
  | map x b N hq=>exact .map _ b N (hb _ _ hq)
 ·cases h;exact hv.plain rfl
 ·cases h;exact hv.plain rfl
 ·split at h
  ·rename_i fs' cs' h1 h2
   cases h
   cases hv with
   | func fn first captured fs cs ha hc=>exact .func _ _ _ _ _ (Z0i hb _ _ _ h1 ha) (Z0i hb _ _ _ h2 hc)
  ·cases h
 ·split at h
  ·rename_i v1 h1
   cases h
   cases hv with
   | iface t v x hx=>exact .iface _ _ _ (Z2l hb _ _ _ h1 hx)
  ·cases h
 ·split at h
  ·rename_i cs' h1
   cases h
   cases hv with
   | agg cs vs hc=>exact .agg _ _ (Z2m hb _ _ _ h1 hc).1
  ·cases h
 ·split at h
  ·rename_i vs' h1
   cases h
   cases hv with
   | tuple vs rs hc=>exact .tuple _ _ (Z0i hb _ _ _ h1 hc)
  ·cases h
 ·cases h
theorem Z2m {σ:List Nat} {d:Nat} {E E':Env} (hb:∀x r,E.blk x=some r->E'.blk (mvN σ d x)=some r):∀(l l':List AV) (r:List Value),mvC σ d l=some l'->Zl E l r->Zl E' l' r/\csz l'=csz l:=by
 intro l l' r h hv
 unfold mvC at h
 split at h
 ·cases h;cases hv;exact ⟨.nil,rfl⟩
 ·split at h
  ·rename_i r' h1
   cases h
   obtain ⟨ws,rfl,ht⟩:=Zl.cons_arr hv
   have:=Z2m hb _ _ _ h1 ht
   exact ⟨.arr _ _ _ _ _ this.1,by simp [csz,this.2]⟩
  ·cases h
 ·rename_i v r2 hna
  split at h
  ·rename_i v1 r1 h1 h2
   split at h
   ·rename_i hcell
    cases h
    obtain ⟨c,ws,rfl,q1,q2,q3,q4⟩:=Zl.cons_cell hv (fun k m xs e=>hna k m xs e)
    have:=Z2m hb _ _ _ h2 q4
    exact ⟨.one _ _ _ _ hcell q2 (Z2l hb _ _ _ h1 q3) this.1,by rw [Z0h hcell,Z0h q1,this.2]⟩
   ·cases h
  ·cases h
theorem Z0i {σ:List Nat} {d:Nat} {E E':Env} (hb:∀x r,E.blk x=some r->E'.blk (mvN σ d x)=some r):∀(l l':List AV) (r:List Value),mvL σ d l=some l'->Zs E l r->Zs E' l' r:=by
 intro l l' r h hv
 unfold mvL at h
 split at h
 ·cases h;cases hv;exact .nil
 ·split at h
  ·rename_i v1 r1 h1 h2
   cases h
   cases hv with
   | cons v c vs cs ha hc=>exact .cons _ _ _ _ (Z2l hb _ _ _ h1 ha) (Z0i hb _ _ _ h2 hc)
  ·cases h
end
theorem Zdx {d:Nat}:∀(l l':List AV),mvC σ d l=some l'->csz l'=csz l:=by
 intro l
 induction l with
 | nil=>intro l' h;unfold mvC at h;simp_all
 | cons v r ih=>
  intro l' h
  unfold mvC at h
  grind [csz,Z0h]
inductive MvB (σ:List Nat) (d:Nat):Blk->Blk->Prop
 | ints (k:IntKind) (xs:LI):MvB σ d (.ints k xs) (.ints k xs)
 | flat (cs cs':List AV) (h:mvC σ d cs=some cs'):MvB σ d (.flat cs) (.flat cs')
 | rows (sz n:Nat) (f:Nat->List AV) (h:∀i,i<n->plainC (f i)=true):MvB σ d (.rows sz n f) (.rows sz n f)
 | rowsM (sz n:Nat) (f f':Nat->List AV) (h:∀i,i<n->mvC σ d (f i)=some (f' i)):MvB σ d (.rows sz n f) (.rows sz n f')
 | pmap (es es':List (AV×AV)) (h1:mvL σ d (es.map (·.1))=some (es'.map (·.1))) (h2:mvL σ d (es.map (·.2))=some (es'.map (·.2))):MvB σ d (.pmap es) (.pmap es')
 | fmap (n:Nat) (kf vf:Nat->AV) (h:∀i,i<n->plainW (kf i)=true/\plainW (vf i)=true):MvB σ d (.fmap n kf vf) (.fmap n kf vf)
inductive Z7i (σ:List Nat) (d:Nat):List (Nat×Blk)->List (Nat×Blk)->Prop
 | nil:Z7i σ d [] []
 | cons (y x:Nat) (B B':Blk) (r r':List (Nat×Blk)) (hx:mvN σ d y=x) (h:MvB σ d B B') (t:Z7i σ d r r'):Z7i σ d ((y,B)::r) ((x,B')::r')
inductive MvO (σ:List Nat) (d:Nat):Out->Out->Prop
 | ret (v v':AV) (h:mvV σ d v=some v'):MvO σ d (.ret v) (.ret v')
 | panic (v v':AV) (h:mvV σ d v=some v'):MvO σ d (.panic v) (.panic v')
theorem Z7i.get {d:Nat}:∀{bs bs':List (Nat×Blk)},Z7i σ d bs bs'->∀x B',ZF bs' x=some B'->∃y B,mvN σ d y=x/\ZF bs y=some B/\MvB σ d B B'
 | _,_,.nil,x,B',h=>by simp [ZF] at h
 | _,_,.cons y x0 B B0 r r' hx hm t,x,B',h=>by
  unfold ZF at h
  split at h
  ·grind [J0,ZF,Jf]
  ·obtain ⟨z,C,h1,h2,h3⟩:=t.get x B' h
   grind [Jf,ZF,Zq]
theorem MvB.move {d:Nat} {B':Blk} (hm:MvB σ d B B') {w:World} {y:Nat} (hb:∀x r,E.blk x=some r->E'.blk (mvN σ d x)=some r) (hn:E.blk y=none->E'.blk (mvN σ d y)=none) (h:ZZ E w y B):ZZ E' w (mvN σ d y) B':=by
 cases hm with
 | ints k xs=>cases h with
  | ints0 k xs h0 hq=>exact .ints0 _ _ h0 (hn hq)
  | ints k xs b cells elem fr hq hw hf hv=>exact .ints _ _ b cells elem fr (hb _ _ hq) hw hf hv
 | flat cs cs' hc=>cases h with
  | flat0 cs h0 hq=>exact .flat0 _ ((Zdx _ _ hc).trans h0) (hn hq)
  | flat cs b cells elem fr vs hq hw hf hcr hv=>exact .flat _ b cells elem fr vs (hb _ _ hq) hw hf (Z2m hb _ _ _ hc hcr).1 hv
 | rows sz n f hp=>cases h with
  | rows0 sz n f h0 hq=>exact .rows0 _ _ _ h0 (hn hq)
  | rows sz n f b cells elem fr g hq hw hf hcr hl hv=>exact .rows _ _ _ b cells elem fr g (hb _ _ hq) hw hf (fun i hi=>(hcr i hi).plain (hp i hi)) hl hv
 | rowsM sz n f f' hp=>cases h with
  | rows0 sz n f h0 hq=>exact .rows0 _ _ _ h0 (hn hq)
  | rows sz n f b cells elem fr g hq hw hf hcr hl hv=>exact .rows _ _ _ b cells elem fr g (hb _ _ hq) hw hf (fun i hi=>(Z2m hb _ _ _ (hp i hi) (hcr i hi)).1) hl hv
 | pmap es es' h1 h2=>cases h with
  | pmap es b k ents ents' clock hq hw hpp hnn hi hk hv=>exact .pmap _ b k ents ents' clock (hb _ _ hq) hw hpp hnn hi (Z0i hb _ _ _ h1 hk) (Z0i hb _ _ _ h2 hv)
 | fmap n kf vf hp=>cases h with
  | fmap n kf vf b ents clock hq hw hll hk hv hbn=>exact .fmap _ _ _ b ents clock (hb _ _ hq) hw hll (fun i e he=>(hk i e he).plainW (hp i (hll▸(J9.1 he).1)).1) (fun i e he=>(hv i e he).plainW (hp i (hll▸(J9.1 he).1)).2) hbn
def Uq (σ:List Nat) (bs:List (Nat×Blk)):List (Nat×Blk):=match σ with
 | []=>bs
 | x::r=>Uq r (WM bs x)
theorem Z0G:∀{σ:List Nat} {bs:List (Nat×Blk)} {x:Nat} {B:Blk},ZF (Uq σ bs) x=some B->ZF bs x=some B/\x∉σ
 | [],bs,x,B,h=>⟨h,by simp⟩
 | y::r,bs,x,B,h=>by
  obtain ⟨h1,h2⟩:=Z0G (σ:=r) h
  by_cases hn:y=x
  all_goals simp_all [Uy,Wc,Ne.symm]
theorem Spec.calls {P:Program} {f:FuncId} {args₀:List AV} {Bs:List Blk} {o o':Out} {bs bs':List (Nat×Blk)} {h:Z8} (hc:Spec P f args₀ ⟨σ.length,XX 0 σ Bs⟩ o nx bs)
  (hlen:Bs.length=σ.length) (hm:∀x,x∈σ->∃B,h.get x=some B) (hd:Z3z σ=true)
  (hx:∀(i x:Nat) (B:Blk),X2 σ i=some x->Bs[i]? =some B->∃B',h.get x=some B'/\∀(E:Env) (w:World),Emb E h w->ZZ E w x B'->ZZ (E.borL σ w true) w i B)
  (ha:∀(E:Env) (w:World) (r:List Value),Emb E h w->Zs E args r->Zs (E.borL σ w true) args₀ r)
  (hnx:σ.length<=nx) (ho:MvO σ h.next o o') (hb:Z7i σ h.next bs bs') (hK:K o' ⟨h.next+(nx-σ.length),VZ bs' (Uq σ h.bs)⟩):Zf P f args h K:=by
 intro E w rs he hr
 let E0:=E.borL σ w true
 have hsub:∀i x,X2 σ i=some x->E0.blk i=E.blk x:=fun i x hi=>by
  show (match X2 σ i with|some x=>E.blk x|none=>none)=_
  rw [hi]
 have hnone:∀i,σ.length<=i->E0.blk i=none:=fun i hi=>by
  show (match X2 σ i with|some x=>E.blk x|none=>none)=_
  rw [Z8l hi]
 have hσlt:∀x,x∈σ->x<h.next:=fun x hx=>let ⟨B,hB⟩:=hm x hx;he.lt x B hB
 have hsb:∀y B,ZF (XX 0 σ Bs) y=some B->∃x,X2 σ y=some x/\Bs[y]? =some B:=fun y B hy=>by
  obtain ⟨i,x,rfl,h1,h2⟩:=Xt σ Bs 0 y B hy
  rw [Jq]
  exact ⟨x,by rw [Z2k];exact h1,h2⟩
 have hinj:∀y z x,X2 σ y=some x->X2 σ z=some x->y=z:=fun y z x h1 h2=>by
  have a:=U3 hd y x h1
  have b:=U3 hd z x h2
  rw [a] at b
  simp_all
 have hemb:Emb E0 ⟨σ.length,XX 0 σ Bs⟩ w:=by
  refine ⟨hnone, ?_, ?_, ?_,fun _ _ h=>h.1, ?_⟩
  ·intro y B hy
   obtain ⟨x,h1,_⟩:=hsb y B hy
   grind
  ·intro y B hy
   obtain ⟨x,h1,h2⟩:=hsb y B hy
   obtain ⟨B',hB',hq⟩:=hx y x B h1 h2
   exact hq E w he (he.own x B' hB')
  ·intro y z B C b N N' hy hz hby hbz
   obtain ⟨x,h1,h2⟩:=hsb y B hy
   obtain ⟨x',h3,h4⟩:=hsb z C hz
   rw [hsub y x h1] at hby
   rw [hsub z x' h3] at hbz
   obtain ⟨B',hB'⟩:=hm x (Xe h1)
   obtain ⟨C',hC'⟩:=hm x' (Xe h3)
   have:=he.disj x x' B' C' b N N' hB' hC' hby hbz
   grind
  ·intro a c y B N hi hy hbb
   obtain ⟨x,h1,_⟩:=hsb y B hy
   rw [hsub y x h1] at hbb
   exact hi.2 x (Xe h1) N hbb
 refine (hc E0 w rs hemb (ha E w rs he hr)).mono ?_
 rintro e w' ⟨E₁,hev,hor⟩
 let E':Env:=⟨fun x=>match Xk σ x with
  | some i=>E₁.blk i
  | none=>if x<h.next then E.blk x else E₁.blk (x-h.next+σ.length),E.imm⟩
 have hρ:∀y,E'.blk (mvN σ h.next y)=E₁.blk y:=fun y=>by
  rcases Jk y σ.length with hlt|hge
  ·obtain ⟨x,hx'⟩:=Qb hlt
   rw [Z7g hx']
   show (match Xk σ x with|some i=>_|none=>_)=_
   rw [U3 hd y x hx']
  ·rw [Z7h hge]
   have hn:Xk σ (h.next+(y-σ.length))=none:=by
    cases hq:Xk σ (h.next+(y-σ.length)) with
    | none=>rfl
    | some i=>have:=hσlt _ (Xe (Vb hq));omega
   grind
 have hold:∀x,x<h.next->Xk σ x=none->E'.blk x=E.blk x:=fun x hx hn=>by
  grind
 have hfresh:∀x,E.blk x≠none->x<h.next:=fun x hx=>by
  rcases Jk x h.next with hl|hg
  ·exact hl
  ·exact absurd (he.fresh x hg) hx
 have hle:E.le E':=⟨fun x q hq=>by
  cases hi:Xk σ x with
  | some i=>
   show (match Xk σ x with|some i=>_|none=>_)=_
   rw [hi]
   exact hev.le.blk i q ((hsub i x (Vb hi)).trans hq)
  | none=>rw [hold x (hfresh x (by rw [hq];simp)) hi];exact hq,fun _ _ h=>h⟩
 have hown0:∀b,YM E0 ⟨σ.length,XX 0 σ Bs⟩ b->∃x N,x∈σ/\E.blk x=some (b,N):=fun b ⟨y,B,N,hy,hbb⟩=>by
  obtain ⟨x,h1,_⟩:=hsb y B hy
  grind [Xe]
 have hkeep:∀b,b<w.heap.size->(∀x N,x∈σ->E.blk x=some (b,N)->False)->w'.heap[b]? =w.heap[b]?:=fun b hb hn=>hev.keep b hb (fun ho=>let ⟨x,N,h1,h2⟩:=hown0 b ho;hn x N h1 h2)
 have hget:∀x B',Z8.get ⟨h.next+(nx-σ.length),VZ bs' (Uq σ h.bs)⟩ x=some B'->
   (∃y B,mvN σ h.next y=x/\ZF bs y=some B/\MvB σ h.next B B')\/(x<h.next/\x∉σ/\h.get x=some B'):=fun x B' hx=>by
  simp only [Z8.get,Z3p] at hx
  split at hx
  ·rename_i B0 hq
   cases hx
   exact .inl (hb.get x _ hq)
  ·obtain ⟨h1,h2⟩:=Z0G hx
   exact .inr ⟨he.lt x B' h1,h2,h1⟩
 have hni:∀x,x∉σ->Xk σ x=none:=fun x hx=>by
  cases hq:Xk σ x with
  | none=>rfl
  | some i=>exact absurd (Xe (Vb hq)) hx
 have hmix:∀y B z C b N N',ZF bs y=some B->E₁.blk y=some (b,N)->z∉σ->h.get z=some C->E.blk z=some (b,N')->False:=fun y B z C b N N' hy hby hz hz' hbz=>by
  rcases hev.own b ⟨y,B,N,hy,hby⟩ with ho|hs
  ·obtain ⟨x,M,h1,h2⟩:=hown0 b ho
   obtain ⟨D,hD⟩:=hm x h1
   have:=he.disj x z D C b M N' hD hz' h2 hbz
   subst this
   exact hz h1
  ·have:=(he.own z C hz').lt hbz
   omega
 have himm0:∀a c,E.imm a c->E0.imm a c:=fun a c hi=>⟨he.imm a c hi,fun x hx N hbb=>let ⟨B,hB⟩:=hm x hx;he.sep a c x B N hi hB hbb⟩
 have hemb':Emb E' ⟨h.next+(nx-σ.length),VZ bs' (Uq σ h.bs)⟩ w':=by
  refine ⟨?_, ?_, ?_, ?_, ?_, ?_⟩
  ·intro x hx
   have hx':h.next+(nx-σ.length)<=x:=hx
   have hn:Xk σ x=none:=hni x (fun hq=>by have:=hσlt x hq;omega)
   show (match Xk σ x with|some i=>_|none=>_)=_
   rw [hn]
   show (if _ then _ else _)=_
   rw [if_neg (by omega)]
   exact hev.emb.fresh _ (by show nx<=_;omega)
  ·intro x B hx
   show x<h.next+(nx-σ.length)
   rcases hget x B hx with ⟨y,B0,rfl,hy,_⟩|⟨hlt,_,_⟩
   ·have hyn:y<nx:=hev.emb.lt y B0 hy
    rcases Jk y σ.length with hlt|hge
    ·obtain ⟨x,hx'⟩:=Qb hlt
     rw [Z7g hx']
     have:=hσlt x (Xe hx')
     omega
    ·rw [Z7h hge]
     omega
   ·omega
  ·intro x B hx
   rcases hget x B hx with ⟨y,B0,rfl,hy,hmv⟩|⟨hlt,hnσ,hx'⟩
   ·exact hmv.move (E:=E₁) (fun x r hq=>by rw [hρ];exact hq) (fun hq=>by rw [hρ];exact hq) (hev.emb.own y B0 hy)
   ·have h1:=(he.own x B hx').mono hle (fun hn=>by rw [hold x hlt (hni x hnσ)];exact hn)
    refine h1.congr fun b N hbb=> ?_
    rw [hold x hlt (hni x hnσ)] at hbb
    refine hkeep b ((he.own x B hx').lt hbb) fun z M hz hbz=> ?_
    obtain ⟨D,hD⟩:=hm z hz
    have:=he.disj x z B D b N M hx' hD hbb hbz
    subst this
    exact hnσ hz
  ·intro x z B C b N N' hx hz hbx hbz
   rcases hget x B hx with ⟨y,B0,rfl,hy,hmv⟩|⟨hlt,hnσ,hx'⟩<;>rcases hget z C hz with ⟨y',C0,rfl,hy',hmv'⟩|⟨hlt',hnσ',hz'⟩
   ·rw [hρ] at hbx hbz
    rw [hev.emb.disj y y' B0 C0 b N N' hy hy' hbx hbz]
   ·rw [hρ] at hbx
    rw [hold z hlt' (hni z hnσ')] at hbz
    exact (hmix y B0 z C b N N' hy hbx hnσ' hz' hbz).elim
   ·rw [hρ] at hbz
    rw [hold x hlt (hni x hnσ)] at hbx
    exact (hmix y' C0 x B b N' N hy' hbz hnσ hx' hbx).elim
   ·rw [hold x hlt (hni x hnσ)] at hbx
    rw [hold z hlt' (hni z hnσ')] at hbz
    exact he.disj x z B C b N N' hx' hz' hbx hbz
  ·intro a c hi
   exact hev.emb.imm a c (hev.le.imm a c (himm0 a c hi))
  ·intro a c x B N hi hx hbx
   rcases hget x B hx with ⟨y,B0,rfl,hy,hmv⟩|⟨hlt,hnσ,hx'⟩
   ·rw [hρ] at hbx
    exact hev.emb.sep a c y B0 N (hev.le.imm a c (himm0 a c hi)) hy hbx
   ·rw [hold x hlt (hni x hnσ)] at hbx
    exact he.sep a c x B N hi hx' hbx
 refine ⟨E',o',_,hK,⟨hle,hemb',hev.size,hev.os,hev.tape,hev.output,fun b hb' hno=>hkeep b hb' (fun x N hx hbx=> ?_), ?_,fun _ _ h=>h⟩, ?_⟩
 ·obtain ⟨B,hB⟩:=hm x hx
  exact hno ⟨x,B,N,hB,hbx⟩
 ·rintro b ⟨x,B,N,hx,hbx⟩
  rcases hget x B hx with ⟨y,B0,rfl,hy,hmv⟩|⟨hlt,hnσ,hx'⟩
  ·rw [hρ] at hbx
   rcases hev.own b ⟨y,B0,N,hy,hbx⟩ with ho|hs
   ·obtain ⟨z,M,h1,h2⟩:=hown0 b ho
    obtain ⟨D,hD⟩:=hm z h1
    exact .inl ⟨z,D,M,hD,h2⟩
   ·exact .inr hs
  ·rw [hold x hlt (hni x hnσ)] at hbx
   exact .inl ⟨x,B,N,hx',hbx⟩
 ·cases ho with
  | ret v v' hv=>cases hor with
   | ret v r hr=>exact .ret _ _ (Z2l (fun x q hq=>by rw [hρ];exact hq) _ _ _ hv hr)
  | panic v v' hv=>cases hor with
   | panic v r hr=>exact .panic _ _ (Z2l (fun x q hq=>by rw [hρ];exact hq) _ _ _ hv hr)
theorem Spec.fsumm {P:Program} {f:FuncId} {h:Z8} {d:Nat} (hl:frA σ h d args K0)
  (hK:∀Bs a₀,Bs.length=σ.length->K0 Bs a₀->∃o nx bs o' bs',Spec P f a₀ ⟨σ.length,XX 0 σ Bs⟩ o nx bs/\σ.length<=nx/\MvO σ h.next o o'/\Z7i σ h.next bs bs'/\K o' ⟨h.next+(nx-σ.length),VZ bs' (Uq σ h.bs)⟩):Zf P f args h K:=by
 obtain ⟨hm,hd,Bs,a,hK0,hlen,hx,ha⟩:=ZfU hl
 grind [Spec.calls]
end Go.Tk
end
section
namespace Go.Tk
open IntKind (i64 u8 u32 u64 wrap)
def goL (k:Nat) (τ:Ren) (S0:St) (C:Prop) (ends:KE->Prop):Nat->St->KE->Prop:=fun k' s X=>match Nat.beq k' k with
 | true=>ZO k τ S0 s (C/\ends X)
 | false=>False
def Z0H (id n:Nat) (go ex re:Nat->Prop) (En Rn:Nat->St):KE->Prop:=fun X=>
 ∀i,i<=n->(∀j,j<i->go j)->(ex i->X (.exit id) (En i))/\(re i->X .ret (Rn i))
theorem Zd.withGo {G:Zd} (hG:G.Ok) {f:FuncId} {id k N n:Nat} {τ0 τ1 τ2 τ3:Ren} {S En Rn:Nat->St} {S0:St} {C:Prop} {go ex re:Nat->Prop} (h1:Wm G.P f id=true) (hC:C->S 0=S0/\
   ∀i,i<=n->(∀j,j<i->go j)->Zz G N f id k (S i) fun e s=>match e with
    | .normal=>ZO k τ1 (S (i+1)) s (go i/\i<n)
    | .exit x=>(match Nat.beq x id with|true=>ZO k τ2 (En i) s (ex i)|false=>False)
    | .ret=>ZO k τ3 (Rn i) s (re i)
    | _=>False):
  (G.withL f id (goL k τ0 S0 C (Z0H id n go ex re En Rn))).Ok:=by
 refine Zd.withL_ok hG h1 ?_
 intro k' s X hl
 unfold goL at hl
 split at hl
 ·rename_i hk
  have:=J0 hk
  subst this
  obtain ⟨⟨hc,hX⟩,hw⟩:=ZU hl
  obtain ⟨e0,hr⟩:=hC hc
  refine ⟨{ t:Nat//t<=n/\∀j,j<t->go j},fun t=>n-t.1,fun t=>S t.1,⟨0,JI _,fun j hj=>by omega⟩,N,by simp_all, ?_⟩
  rintro ⟨t,ht,hgo⟩
  refine ⟨_,hr t ht hgo, ?_⟩
  intro e s' hY
  split at hY
  ·obtain ⟨⟨hg,hlt⟩,hw'⟩:=ZU hY
   refine ⟨⟨t+1,hlt,fun j hj=> ?_⟩,by show n-(t+1)<n-t;omega,hw'⟩
   grind
  ·split at hY
   ·rename_i hi
    have:=J0 hi
    subst this
    obtain ⟨hex,hw'⟩:=ZU hY
    exact ⟨_,hw',(hX t ht hgo).1 hex⟩
   simp_all
  ·obtain ⟨hre,hw'⟩:=ZU hY
   exact ⟨_,hw',(hX t ht hgo).2 hre⟩
  simp_all
 simp_all
def Y9 (id n l:Nat) (go ex re jm:Nat->Prop) (En Rn Jn:Nat->St):KE->Prop:=fun X=>
 ∀i,i<=n->(∀j,j<i->go j)->(ex i->X (.exit id) (En i))/\(re i->X .ret (Rn i))/\(jm i->X (.goto l) (Jn i))
theorem Zd.withGoJ {G:Zd} (hG:G.Ok) {f:FuncId} {id k N n l:Nat} {τ0 τ1 τ2 τ3 τ4:Ren} {S En Rn Jn:Nat->St} {S0:St} {C:Prop} {go ex re jm:Nat->Prop} (h1:Wm G.P f id=true) (hC:C->S 0=S0/\
   ∀i,i<=n->(∀j,j<i->go j)->Zz G N f id k (S i) fun e s=>match e with
    | .normal=>ZO k τ1 (S (i+1)) s (go i/\i<n)
    | .exit x=>(match Nat.beq x id with|true=>ZO k τ2 (En i) s (ex i)|false=>False)
    | .ret=>ZO k τ3 (Rn i) s (re i)
    | .goto x=>(match Nat.beq x l with|true=>ZO k τ4 (Jn i) s (jm i)|false=>False)
    | _=>False):
  (G.withL f id (goL k τ0 S0 C (Y9 id n l go ex re jm En Rn Jn))).Ok:=by
 refine Zd.withL_ok hG h1 ?_
 intro k' s X hl
 unfold goL at hl
 split at hl
 ·rename_i hk
  have:=J0 hk
  subst this
  obtain ⟨⟨hc,hX⟩,hw⟩:=ZU hl
  obtain ⟨e0,hr⟩:=hC hc
  refine ⟨{ t:Nat//t<=n/\∀j,j<t->go j},fun t=>n-t.1,fun t=>S t.1,⟨0,JI _,fun j hj=>by omega⟩,N,by simp_all, ?_⟩
  rintro ⟨t,ht,hgo⟩
  refine ⟨_,hr t ht hgo, ?_⟩
  intro e s' hY
  split at hY
  ·obtain ⟨⟨hg,hlt⟩,hw'⟩:=ZU hY
   refine ⟨⟨t+1,hlt,fun j hj=> ?_⟩,by show n-(t+1)<n-t;omega,hw'⟩
   grind
  ·split at hY
   ·rename_i hi
    have:=J0 hi
    subst this
    obtain ⟨hex,hw'⟩:=ZU hY
    exact ⟨_,hw',(hX t ht hgo).1 hex⟩
   simp_all
  ·obtain ⟨hre,hw'⟩:=ZU hY
   exact ⟨_,hw',(hX t ht hgo).2.1 hre⟩
  ·split at hY
   ·rename_i hi
    have:=J0 hi
    subst this
    obtain ⟨hjm,hw'⟩:=ZU hY
    exact ⟨_,hw',(hX t ht hgo).2.2 hjm⟩
   simp_all
  simp_all
 simp_all
theorem W3 {p x:Prop} [Decidable p]:Z6 (decide p) x False=(p/\x):=by
 by_cases h:p
 all_goals simp_all [Z6]
theorem Zdy {p x:Prop} [Decidable p]:Z6 (decide p) False x=(¬p/\x):=by
 by_cases h:p
 all_goals simp_all [Z6]
theorem Z4H {p x y:Prop} [Decidable p]:Z6 (decide p) x y=((p->x)/\(¬p->y)):=by
 by_cases h:p
 all_goals simp_all [Z6]
theorem Z8p {b:Bool} {x:Prop}:Z6 b x False=(b=true/\x):=by cases b<;>simp [Z6]
theorem Zdz {b:Bool} {x:Prop}:Z6 b False x=(b=false/\x):=by cases b<;>simp [Z6]
theorem Z1c {b:Bool} {x y:Prop}:Z6 b x y=((b=true->x)/\(b=false->y)):=by cases b<;>simp [Z6]
def Z0 (b:Bool) (x:Prop):Prop:=Z6 b x False
theorem vcA:(∀(p x:Prop) [Decidable p],Z6 (decide p) x False=(p/\x))/\(∀(p x:Prop) [Decidable p],Z5 p x=(p/\x))/\(∀(p x:Prop) [Decidable p],Z0 (decide p) x=(p/\x))/\∀(p x:Prop) [Decidable p],Z6 (decide p) False x=(¬p/\x):=
 ⟨fun _ _ _=>W3,fun _ _ _=>W3,fun _ _ _=>W3,fun _ _ _=>Zdy⟩
theorem vcB:(∀(p x y:Prop) [Decidable p],Z6 (decide p) x y=((p->x)/\(¬p->y)))/\(∀(b:Bool) (x:Prop),Z6 b x False=(b=true/\x))/\(∀(b:Bool) (x:Prop),Z0 b x=(b=true/\x))/\∀(b:Bool) (x:Prop),Z6 b False x=(b=false/\x):=
 ⟨fun _ _ _ _=>Z4H,fun _ _=>Z8p,fun _ _=>Z8p,fun _ _=>Zdz⟩
theorem W4:(∀(p x:Prop) [Decidable p],Z6 (decide p) x False=(p/\x))/\(∀(p x:Prop) [Decidable p],Z5 p x=(p/\x))/\(∀(p x:Prop) [Decidable p],Z0 (decide p) x=(p/\x))/\(∀(b:Bool) (x:Prop),Z0 b x=Z6 b x False):=
 ⟨fun _ _ _=>W3,fun _ _ _=>W3,fun _ _ _=>W3,fun _ _=>rfl⟩
theorem W5:∀(p x y:Prop) [Decidable p],Z6 (decide p) x y=((p->x)/\(¬p->y)):=fun _ _ _ _=>Z4H
theorem vcC:(∀(b:Bool) (x y:Prop),Z6 b x y=((b=true->x)/\(b=false->y)))/\(∀n:Nat,((n:Int)).toNat=n)/\(∀n:Nat,0+n=n)/\(∀p:Prop,(True/\p)=p)/\(∀p:Prop,(p/\True)=p)/\∀n:Nat,(n<=n)=True:=
 ⟨fun _ _ _=>Z1c,JK,Jq,true_and,and_true,fun n=>eq_true (J2 n)⟩
theorem Z9H {k:Nat} {τ:Ren} {v:AV} (hp:v.plain=true) (hc:v.isCell=true) {Z:Prop} (hZ:Z):eqV k τ v v Z:=by
 cases v with
 | ptr p=>cases p<;>simp_all [AV.plain,eqV]
 | map r=>cases r<;>simp_all [AV.plain,eqV]
 | _=>simp_all [AV.plain,eqV,Uc,AV.isCell]
theorem Z0j {k:Nat} {τ:Ren}:∀{l:List AV},plainC l=true->∀{Z:Prop},Z->(∀v∈l,v.isCell=true\/∃k n xs,v=.arr k n xs)->eqC k τ l l Z
 | [],_,Z,hZ,_=>by simp [eqC,hZ]
 | v::r,hp,Z,hZ,hc=>by
  simp only [plainC,J1] at hp
  have hr:=Z0j (k:=k) (τ:=τ) hp.2 hZ (fun u hu=>hc u (Jj _ hu))
  rcases hc v (by simp) with hv|⟨kk,n,xs,rfl⟩
  ·have hna:∀a b c,v≠.arr a b c:=fun a b c e=>by subst e;simp [AV.isCell] at hv
   simp_all [eqC,Z9H]
  ·unfold eqC
   simp_all
theorem Wa {k:Nat} {τ:Ren} {n:Nat} {f f':Nat->List AV} (h:∀i,i<n->f' i=f i) (hp:∀i,i<n->plainC (f i)=true) (hc:∀i,i<n->∀v∈f i,v.isCell=true\/∃k n xs,v=.arr k n xs):ZD k τ n f f':=
 ⟨fun i hi=>by rw [h i hi];exact Z0j (hp i hi) trivial (hc i hi)⟩
theorem Z4I {a b:Nat} (h:a<b):Nat.blt a b=true:=by rw [Nat.blt_eq];exact h
theorem Z7j {a b:Nat} (h:Nat.blt a b=true):a<b:=by rw [Nat.blt_eq] at h;exact h
theorem ZdA {n i:Nat} {f g:Nat->List AV} (h:i<n):Vy n f g i=f i:=by unfold Vy;rw [Z4I h]
theorem Z4J {n i:Nat} {f g:Nat->List AV} (h:n<=i):Vy n f g i=g (i-n):=by
 unfold Vy
 have:Nat.blt i n=false:=by
  cases hq:Nat.blt i n with
  | false=>rfl
  | true=>have:=Z7j hq;omega
 rw [this]
theorem Zv.vrows0 {P:Program} {f:FuncId} {esz:Nat} {g:Nat->List AV} {v:AV} {nx:Nat} {bs:List (Nat×Blk)} (h1:Zv P f [.nilslice] v nx bs) (h2:Zv P f [.fslice] v nx bs):Zv P f [.vrows esz 0 g 0] v nx bs:=by
 intro E w rs he hr
 cases hr with
 | cons v r vs rs hv ht=>cases ht with
  | nil=>cases hv with
   | vrowsNil esz n f len _ _=>exact h1 E w _ he (.cons _ _ _ _ .nilslice .nil)
   | vrows esz n f len a cap g _ _ _ _ _=>exact h2 E w _ he (.cons _ _ _ _ (.fslice a cap) .nil)
theorem Zv.vints0 {P:Program} {f:FuncId} {k:IntKind} {v:AV} {nx:Nat} {bs:List (Nat×Blk)} (h1:Zv P f [.nilslice] v nx bs) (h2:Zv P f [.fslice] v nx bs):Zv P f [.vints k [] 0] v nx bs:=by
 intro E w rs he hr
 cases hr with
 | cons v r vs rs hv ht=>cases ht with
  | nil=>cases hv with
   | vintsNil k xs len _ _=>exact h1 E w _ he (.cons _ _ _ _ .nilslice .nil)
   | vints k xs len a cap _ _ _=>exact h2 E w _ he (.cons _ _ _ _ (.fslice a cap) .nil)
end Go.Tk
namespace Go.Tk
open IntKind (i64 u8 u32 u64 wrap)
mutual
theorem Qc {mv:Option Nat} {h:Z8}:∀(d:Nat) (t:Bool) (v:AV) (K K':AV->Prop),VY mv h t d v K->(∀a,K a->K' a)->VY mv h t d v K'
 | 0,t,v,K,K',hl,hK=>by unfold VY at hl;simp_all
 | d+1,t,v,K,K',hl,hK=>by
  unfold VY at hl⊢
  split at hl
  all_goals try exact hK _ hl
  all_goals try exact hl.elim
  ·split at hl
   ·split at hl
    ·exact hl.elim
    ·exact hK _ hl
   ·split at hl
    ·split at hl
     ·exact Xx _ _ _ _ _ hl fun _ h=>hK _ h
     ·exact hl.elim
    ·split at hl
     ·obtain ⟨h1,h2⟩:=Zc hl
      refine Uc h1 ?_
      split at h2
      ·exact Xx _ _ _ _ _ h2 fun _ h=>hK _ h
      ·exact h2.elim
     ·exact hl.elim
    ·exact hl.elim
  ·split at hl
   ·split at hl
    ·exact hl.elim
    ·exact hK _ hl
   ·split at hl
    ·split at hl
     ·obtain ⟨h1,h2⟩:=Zc hl
      exact Uc h1 (hK _ h2)
     ·exact hl.elim
    ·split at hl
     ·obtain ⟨h1,h2,h3⟩:=Zc hl
      exact Uc h1 ⟨h2,hK _ h3⟩
     ·exact hl.elim
    ·split at hl
     ·split at hl
      ·split at hl
       ·split at hl
        ·obtain ⟨h1,h2⟩:=Zc hl
         exact Uc h1 (hK _ h2)
        ·obtain ⟨h1,h2⟩:=Zc hl
         exact Uc h1 (hK _ h2)
        ·exact hl.elim
       ·exact hl.elim
      ·split at hl
       ·refine Xx _ _ _ _ _ hl fun _ h=> ?_
        split at h
        ·exact hK _ h
        ·exact h.elim
       ·exact hl.elim
     ·exact hl.elim
    ·exact hl.elim
  ·exact Zi _ _ _ _ _ hl fun _ h=>Zi _ _ _ _ _ h fun _ h=>hK _ h
  ·exact Qc _ _ _ _ _ hl fun _ h=>hK _ h
  ·exact Xx _ _ _ _ _ hl fun _ h=>hK _ h
  ·exact Zi _ _ _ _ _ hl fun _ h=>hK _ h
theorem Xx {mv:Option Nat} {h:Z8}:∀(d:Nat) (t:Bool) (l:List AV) (K K':List AV->Prop),V8 mv h t d l K->(∀a,K a->K' a)->V8 mv h t d l K'
 | 0,t,l,K,K',hl,hK=>by unfold V8 at hl;simp_all
 | d+1,t,l,K,K',hl,hK=>by
  unfold V8 at hl⊢
  split at hl
  ·exact hK _ hl
  ·exact Xx _ _ _ _ _ hl fun _ h=>hK _ h
  ·refine Qc _ _ _ _ _ hl fun _ h=> ?_
   split at h
   ·exact Xx _ _ _ _ _ h fun _ h=>hK _ h
   ·exact h.elim
theorem Zi {mv:Option Nat} {h:Z8}:∀(d:Nat) (t:Bool) (l:List AV) (K K':List AV->Prop),ZL mv h t d l K->(∀a,K a->K' a)->ZL mv h t d l K'
 | 0,t,l,K,K',hl,hK=>by unfold ZL at hl;simp_all
 | d+1,t,l,K,K',hl,hK=>by
  unfold ZL at hl⊢
  split at hl
  ·exact hK _ hl
  ·exact Qc _ _ _ _ _ hl fun _ h=>Zi _ _ _ _ _ h fun _ h=>hK _ h
end
end Go.Tk
end
section
namespace Go.Tk
open IntKind (i64 u8 u32 u64 wrap)
variable {g:Nat->InS} {xs:LI} {E:Env} {esz:Nat} {v:AV}
def Zg (g:Nat->InS):Nat->List AV:=fun q=>(g q).c
def ZA (g:Nat->ZR):Nat->List AV:=fun q=>(g q).c
theorem InS.plainC (x:InS):plainC x.c=true:=rfl
theorem InS.cells (x:InS):∀v∈x.c,v.isCell=true\/∃k n xs,v=.arr k n xs:=by simp [InS.c,AV.isCell]
theorem ZR.cells (x:ZR):∀v∈x.c,v.isCell=true\/∃k n xs,v=.arr k n xs:=by simp [ZR.c,AV.isCell]
theorem Vc {k:Nat} {τ:Ren} {n:Nat} {f:Nat->List AV} (h:∀i,i<n->f i=(g i).c):ZD k τ n (Zg g) f:=Wa h (fun i _=>(g i).plainC) (fun i _=>(g i).cells)
theorem ZdB (N:Nat) (g:Nat->InS) (hN:N+1<900000000000):
  evF G0 20 93 [.vrows 130 (N+1) (Zg g) (N+1)] ⟨0,[]⟩ (Y8 0 [(0,0)] (.nslice ⟨0,0,130,0,0⟩ 130 (N+1) (N+1)) 1 [(0,.rows 130 (N+1) (Zg g))]):=by
 refine @Eq.mpr _ (let a:=N+1;let b:=0+a;let c:=decide (b=a);
 Z6 (decide (b*144<=140737488355328)) (Z6 c (Z6 (decide (a<=b)) (Z6 c (ZD 0 [(0,0)] a (Zg g) (Vy 0 (fun (x:Nat)=>[]) (Zg g))/\True) False) False) False) False) (by kernel_rfl) ?_
 conv=>zeta
 refine nd (by omega) (nd (by omega) (nd (by omega) (nd (by omega) ⟨Vc fun i hi=> ?_,trivial⟩)))
 rfl
theorem ZdC (g:Nat->InS) :
  evF G0 20 93 [.nilslice] ⟨0,[]⟩ (Y8 0 [] (.nslice ⟨0,0,130,0,0⟩ 130 0 0) 1 [(0,.rows 130 0 (Zg g))]):=by
 refine @Eq.mpr _ (True) (by kernel_rfl) ?_
 trivial
theorem ZdD (g:Nat->InS) :
  evF G0 20 93 [.fslice] ⟨0,[]⟩ (Y8 0 [(0,0)] (.nslice ⟨0,0,130,0,0⟩ 130 0 0) 1 [(0,.rows 130 0 (Zg g))]):=by
 refine @Eq.mpr _ (ZD 0 [(0,0)] 0 (Zg g) (Vy 0 (fun (x:Nat)=>[]) fun (x:Nat)=>[])/\True) (by kernel_rfl) ?_
 simp_all [Vc]
theorem Z7k (N:Nat) (g:Nat->InS) (hN:N<900000000000):Zv PP 93 [.vrows 130 N (Zg g) N] (.nslice ⟨0,0,130,0,0⟩ 130 N N) 1 [(0,.rows 130 N (Zg g))]:=by
 cases N with
 | zero=>exact Zv.vrows0 (.ev Zt (ZdC g)) (.ev Zt (ZdD g))
 | succ n=>exact .ev Zt (ZdB n g hN)
def Zbx (N:Nat) (g:Nat->InS) (Z:Prop):YA:=fun args h K=>ZL none h true 20 args fun a=>match a with
 | [.vrows 130 n f m]=>Z5 (n=N) (Z5 (m=N) (f=Zg g/\Z/\K (.ret (.nslice ⟨h.next,0,130,0,0⟩ 130 N N)) ⟨h.next+1,(h.next,.rows 130 N (Zg g))::h.bs⟩))
 | _=>False
theorem Z9I (N:Nat) (g:Nat->InS) (args:List AV) (h:Z8) (K:KO) (hl:Zbx N g (N<900000000000) args h K):Zf PP 93 args h K:=by
 refine Zv.fsumm (d:=20) (Zi _ _ _ _ _ hl fun a ha=> ?_)
 split at ha
 ·obtain ⟨rfl,ha⟩:=Zc ha
  obtain ⟨rfl,rfl,hN,hK⟩:=Zc ha
  exact ⟨_,_,_,_,Z7k _ _ hN,rfl,⟨Jx,.rows _ _ _ (fun i _=>(g i).plainC),trivial⟩,hK⟩
 simp_all
def Vd (N:Nat) (g:Nat->InS) (t:Nat):Nat->InS:=fun q=>if q<t\/N<q+t+1 then g (N-1-q) else g q
def Qd (N:Nat) (g:Nat->InS):Nat->InS:=fun q=>g (N-1-q)
def Z7l (N:Nat) (g:Nat->InS) (t:Nat):St:=⟨28,[(0,.nslice ⟨0,0,130,0,0⟩ 130 N N),(3,.int .i64 ((N:Int)-1-t)),(2,.int .i64 t)],⟨1,[(0,.rows 130 N (Zg (Vd N g t)))]⟩,[]⟩
theorem Zh8 (N:Nat) (g:Nat->InS) (t:Nat) (hN:N<900000000000) (ht:t<=N) (hgo:∀j:Nat,j<t->(j:Int)<(N:Int)-1-j):
  Zz G0 20 106 0 1 (Z7l N g t) (fun e s=>match e with|.normal=>ZO 1 [] (Z7l N g (t+1)) s (((t:Int)<(N:Int)-1-t)/\t<N)|.exit x=>(match Nat.beq x 0 with|true=>ZO 1 [] (Z7l N g t) s (¬(t:Int)<(N:Int)-1-t)|false=>False)|.ret=>ZO 1 [] (Z7l N g t) s False|_=>False):=by
 refine @Eq.mpr _ (let m:=(↑N:Int)-1;let a:=m-(↑t:Int);let l:=decide (0<=a/\a<(↑N:Int));let f:=0+Int.toNat a;let k:=decide (0<=(↑t:Int)/\(↑t:Int)<(↑N:Int));let e:=0+Int.toNat (↑t:Int);let d:=decide (N=N);let j:=decide (N<=N);let i:=(↑(t+1):Int);let h:=Zg (Vd N g t);let c:=Vd N g t f;let b:=Vd N g t e;
 Z6 (decide ((↑t:Int)<a)) (Z6 l (Z6 (decide (f<N)) (Z6 k (Z6 (decide (e<N)) (Z6 k (Z6 (decide (e<N)) (Z6 l (Z6 (decide (f<N)) (Z6 d (Z6 j (Z6 (decide (wrap i64 (a-1)=m-i)) (Z6 (decide (wrap i64 ((↑t:Int)+1)=i)) (Z6 d (ZD 1 [] N (Zg (Vd N g (t+1))) (Zar (Zar h e [AV.arr u8 32 c.name,AV.int i64 c.index,AV.int i64 c.way,AV.arr u8 32 c.tag,AV.arr u8 32 c.also,AV.arr u8 32 c.secret]) f [AV.arr u8 32 b.name,AV.int i64 b.index,AV.int i64 b.way,AV.arr u8 32 b.tag,AV.arr u8 32 b.also,AV.arr u8 32 b.secret])/\(↑t:Int)<a/\t<N) False) False) False) False) False) False) False) False) False) False) False) False) False)
 (Z6 d (Z6 j (Z6 (decide (a=a)) (Z6 (decide ((↑t:Int)=(↑t:Int))) (Z6 d (ZD 1 [] N h h/\((↑t:Int)<a->False)) False) False) False) False) False)) (by kernel_rfl) ?_
 conv=>zeta
 simp only [W3]
 simp only [Z4H]
 have hrows:ZD 1 [] N (Zg (Vd N g t)) (Zg (Vd N g t)):=Vc fun _ _=>rfl
 refine ⟨fun h1=> ?_,fun h1=>by simp_all⟩
 have hw1:i64.wrap ((t:Int)+1)=(t:Int)+1:=w64 (by omega)
 have hw2:i64.wrap ((N:Int)-1-t-1)=(N:Int)-1-t-1:=w64 (by omega)
 have e1:0+((N:Int)-1-t).toNat=N-1-t:=by omega
 have e2:0+(t:Int).toNat=t:=by omega
 simp only [e1,e2,hw1]
 refine ⟨by omega,by omega,by omega,by omega,by omega,by omega,by omega,by omega,trivial,by omega,by omega,by omega,trivial,Vc fun q hq=> ?_,h1,by omega⟩
 rw [Z42,Z42]
 have g1:Vd N g t (N-1-t)=g (N-1-t):=by unfold Vd;rw [if_neg (by omega)]
 have g2:Vd N g t t=g t:=by unfold Vd;rw [if_neg (by omega)]
 rw [g1,g2]
 by_cases q1:q=N-1-t
 ·subst q1
  rw [Jf]
  show (g t).c=_
  unfold Vd
  grind
 ·rw [Zq q1]
  by_cases q2:q=t
  ·subst q2
   rw [Jf]
   show (g (N-1-q)).c=_
   unfold Vd
   rw [if_pos (by omega)]
  ·rw [Zq q2]
   show (Vd N g t q).c=_
   unfold Vd
   grind
noncomputable def E10 (N:Nat) (g:Nat->InS):Zd:=(G0.withL 106 0 (goL 1 [] (Z7l N g 0) (N<900000000000) (Z0H 0 N (fun t=>(t:Int)<(N:Int)-1-t) (fun t=>¬(t:Int)<(N:Int)-1-t) (fun _=>False) (Z7l N g) (Z7l N g)))).withF 93 (Zbx N g (N<900000000000))
theorem ZfV (N:Nat) (g:Nat->InS):(E10 N g).Ok:=
 Zd.withF_ok (Zd.withGo (τ1:=[]) (τ2:=[]) (τ3:=[]) (N:=20) Zt (by kernel_rfl) fun hC=>⟨rfl,fun i hi hgo=>Zh8 N g i hC hi hgo⟩) (Z9I N g)
theorem Z7m (N:Nat) (g:Nat->InS) (hN:N<900000000000):
  evF (E10 N g) 20 67 [.vrows 130 N (Zg g) N] ⟨0,[]⟩ (Y8 0 [(0,0)] (.nslice ⟨0,0,130,0,0⟩ 130 N N) 1 [(0,.rows 130 N (Zg (Qd N g)))]):=by
 refine @Eq.mpr _ (let a:=decide (N=N);let c:=Zg g;let e:=decide (N<=N);let b:=(↑N:Int)-1;
 Z6 a
 (Z6 a
 (c=c/\
 N<900000000000/\
 Z6 a
 (Z6 e
 (Z6 (decide (wrap i64 b=b-0))
 (Z6 a
 (ZD 1 [] N (Zg (Vd N g 0)) c/\
 N<900000000000/\
 ∀(i:Nat),
 let d:=Z6 a (Z6 e (Z6 a (ZD 0 [(0,0)] N (Zg (Qd N g)) (Zg (Vd N g i))/\True) False) False) False;
 i<=N->(∀(j:Nat),j<i->(fun (t:Nat)=>(↑t:Int)<b-(↑t:Int)) j)->(¬(↑i:Int)<b-(↑i:Int)->d)/\(False->d))
 False)
 False)
 False)
 False)
 False)
 False) (by kernel_rfl) ?_
 conv=>zeta
 simp only [W3,true_and,and_true]
 refine ⟨hN,by omega,by rw [w64 (by omega)];omega,Vc fun i hi=> ?_,hN,fun i hi hgo=>⟨fun hex=>⟨by omega,Vc fun q hq=> ?_⟩,fun h=>h.elim⟩⟩
 ·show (g i).c=_
  unfold Vd
  rw [if_neg (by omega)]
 ·show (Vd N g i q).c=_
  unfold Vd Qd
  grind
theorem Z2W (N:Nat) (g:Nat->InS) (hN:N<900000000000):Zv PP 67 [.vrows 130 N (Zg g) N] (.nslice ⟨0,0,130,0,0⟩ 130 N N) 1 [(0,.rows 130 N (Zg (Qd N g)))]:=.ev (ZfV N g) (Z7m N g hN)
def Yg (p:Nat->Bool) (n:Nat):Int:=match (List.range n).find? p with|some i=>i|none=> -1
theorem Wo {p:Nat->Bool} {n i:Nat} (hi:i<n) (hgo:∀j,j<i->p j=false) (hp:p i=true):Yg p n=i:=by
 unfold Yg
 have:(List.range n).find? p=some i:=by
  simp_all
 rw [this]
theorem Wp {p:Nat->Bool} {n:Nat} (hgo:∀j,j<n->p j=false):Yg p n= -1:=by
 unfold Yg
 have:(List.range n).find? p=none:=by
  simp_all
 rw [this]
theorem WF (p:Nat->Bool) (n:Nat):(Yg p n= -1/\∀j,j<n->p j=false)\/∃i,i<n/\Yg p n=(i:Nat)/\p i=true/\∀j,j<i->p j=false:=by
 unfold Yg
 cases h:(List.range n).find? p with
 | none=>
  simp_all
 | some i=>
  rw [List.find?_range_eq_some] at h
  grind
theorem Z5R (p:Nat->Bool) (n:Nat): -1<=Yg p n/\Yg p n<n+1:=by
 rcases WF p n with ⟨h,_⟩|⟨i,hi,h,_⟩<;>omega
def U4 (x y:InS):Bool:=(y.name==x.name)&&(y.index==x.index)
theorem ZfW (x y:InS) (hx:x.Ok) (hy:y.Ok):
  evF G0 20 65 [.agg y.c,.pview x.c 0] ⟨0,[]⟩ (Y8 0 [] (.bool (U4 x y)) 0 []):=by
 refine @Eq.mpr _ (Z5 (y.name.length=32/\x.name.length=32) (Z6 (y.name==x.name) (Z5 ((y.index==x.index)=U4 x y) True) (Z5 (false=U4 x y) True))) (by kernel_rfl) ?_
 try simp only [W4]
 try simp only [W5]
 try simp only [vcC]
 unfold U4
 refine ⟨⟨hy.name,hx.name⟩,fun h=> ?_,fun h=> ?_⟩<;>simp [h]
def Zfc:ZM:=fun args h K=>ZL none h true 20 args fun a=>match a with
 | [.agg cs,.pview ds 0]=>∃x y,cs=InS.c y/\ds=InS.c x/\(x.Ok/\y.Ok)/\K (.bool (U4 x y))
 | _=>False
theorem Zby (args:List AV) (h:Z8) (K:AV->Prop) (hl:Zfc args h K):Zf PP 65 args h fun o h'=>∃v,o=.ret v/\h'=h/\K v:=by
 refine Zv.psumm (d:=20) (Zi _ _ _ _ _ hl fun a ha=> ?_)
 split at ha
 ·obtain ⟨x,y,rfl,rfl,⟨h1,h2⟩,hK⟩:=ha
  exact ⟨_,.ev Zt (ZfW x y h1 h2),fun _=>rfl,hK⟩
 simp_all
noncomputable def ZfX:Zd:=G0.withP 65 Zfc
theorem ZdE:ZfX.Ok:=Zd.withP_ok Zt Zby
def ixS (N:Nat) (g:Nat->InS) (x:InS) (i:Nat):St:=⟨19,[(1,.func (Fn.func 65) [] [.pview (InS.c x) 0]),(0,.vrows 130 N (Zg g) N),(7,.int .i64 N),(8,.int .i64 i)],⟨0,[]⟩,[]⟩
def ixR (i:Nat):St:=⟨19,[(4,.int .i64 i)],⟨0,[]⟩,[]⟩
def ixE (_:Nat):St:=⟨19,[],⟨0,[]⟩,[]⟩
theorem ZiU (N:Nat) (g:Nat->InS) (x:InS) (i:Nat) (Z1 Z2 Z3:Prop) (hN:N<900000000000) (hx:x.Ok) (hg:∀i,i<N->(g i).Ok) (hi:i<=N) (h1:i<N->U4 x (g i)=false->Z1) (h2:i=N->Z2) (h3:i<N->U4 x (g i)=true->Z3):
  Zz ZfX 20 66 0 0 (ixS N g x i) (fun e s=>match e with|.normal=>ZO 0 [] (ixS N g x (i+1)) s Z1|.exit x=>(match Nat.beq x 0 with|true=>ZO 0 [] (ixE i) s Z2|false=>False)|.ret=>ZO 0 [] (ixR i) s Z3|_=>False):=by
 refine @Eq.mpr _ (let a:=g (Int.toNat (↑i:Int));let b:=InS.c x;let d:=decide (N=N);
 Z6 (decide ((↑i:Int)<(↑N:Int))) (Z5 (0<=(↑i:Int)/\(↑i:Int)<(↑N:Int)) (∃(x:InS),∃(y:InS),[AV.arr u8 32 a.name,AV.int i64 a.index,AV.int i64 a.way,AV.arr u8 32 a.tag,AV.arr u8 32 a.also,AV.arr u8 32 a.secret]=InS.c y/\b=InS.c x/\(InS.Ok x/\InS.Ok y)/\Z6 (U4 x y) (Z5 ((↑i:Int)=(↑i:Int)) Z3) (b=b/\Z0 d (Zg g=Zg g/\Z0 d (Z5 ((↑N:Int)=(↑N:Int)) (Z5 (wrap i64 ((↑i:Int)+1)=(↑(i+1):Int)) Z1)))))) Z2) (by kernel_rfl) ?_
 conv=>zeta
 try simp only [W4]
 try simp only [W5]
 try simp only [vcC]
 refine ⟨fun hlt=>⟨by omega,x,g i,rfl,rfl,⟨hx,hg i (by omega)⟩,fun h=>h3 (by omega) h,fun h=>⟨w64 (by omega),h1 (by omega) h⟩⟩,fun hge=>h2 (by omega)⟩
def sameAt (g:Nat->InS) (x:InS):Nat->Bool:=fun j=>U4 x (g j)
noncomputable def Zh9 (N:Nat) (g:Nat->InS) (x:InS):Zd:=ZfX.withL 66 0 (goL 0 [] (ixS N g x 0) (N<900000000000/\x.Ok/\∀i,i<N->(g i).Ok) (Z0H 0 N (fun i=>sameAt g x i=false) (fun i=>i=N) (fun i=>i<N/\sameAt g x i=true) ixE ixR))
theorem ZdF (N:Nat) (g:Nat->InS) (x:InS):(Zh9 N g x).Ok:=
 Zd.withGo (τ1:=[]) (τ2:=[]) (τ3:=[]) (N:=20) ZdE (by kernel_rfl) fun hC=>⟨rfl,fun i hi _=>ZiU N g x i _ _ _ hC.1 hC.2.1 hC.2.2 hi (fun h1 h2=>⟨h2,h1⟩) (fun h=>h) (fun h1 h2=>⟨h1,h2⟩)⟩
theorem ZdG (N:Nat) (g:Nat->InS) (x:InS) (F:Int) (hN:N<900000000000) (hx:x.Ok) (hg:∀i,i<N->(g i).Ok) (hF:F=Yg (sameAt g x) N):
  evF (Zh9 N g x) 20 66 [.vrows 130 N (Zg g) N,.func (.func 65) [] [.pview x.c 0]] ⟨0,[]⟩ (Y8 0 [] (.int .i64 F) 0 []):=by
 refine @Eq.mpr _ (let a:=decide (N=N);
 InS.c x=InS.c x/\Z0 a (Zg g=Zg g/\Z0 a (Z5 ((↑N:Int)=(↑N:Int)) ((N<900000000000/\InS.Ok x/\∀(i:Nat),i<N->InS.Ok (g i))/\∀(i:Nat),i<=N->(∀(j:Nat),j<i->(fun (i:Nat)=>sameAt g x i=false) j)->(i=N->Z5 (-1=F) True)/\(i<N/\sameAt g x i=true->Z5 ((↑i:Int)=F) True))))) (by kernel_rfl) ?_
 conv=>zeta
 try simp only [W4]
 try simp only [W5]
 try simp only [vcC]
 subst hF
 exact ⟨⟨hN,hx,hg⟩,fun i hi hgo=>⟨fun h=>by subst h;exact (Wp hgo).symm,fun h=>(Wo h.1 hgo h.2).symm⟩⟩
theorem Z7n (N:Nat) (g:Nat->InS) (x:InS) (hN:N<900000000000) (hx:x.Ok) (hg:∀i,i<N->(g i).Ok):Zv PP 66 [.vrows 130 N (Zg g) N,.func (.func 65) [] [.pview x.c 0]] (.int .i64 (Yg (sameAt g x) N)) 0 []:=.ev (ZdF N g x) (ZdG N g x _ hN hx hg rfl)
def Zbz:ZM:=fun args h K=>ZL none h true 20 args fun a=>match a with
 | [.vrows 130 n f m,.func (.func 65) [] [.pview cs 0]]=>∃g x,f=Zg g/\cs=InS.c x/\(m=n/\n<900000000000/\x.Ok/\∀i,i<n->(g i).Ok)/\K (.int .i64 (Yg (sameAt g x) n))
 | _=>False
theorem Z9J (args:List AV) (h:Z8) (K:AV->Prop) (hl:Zbz args h K):Zf PP 66 args h fun o h'=>∃v,o=.ret v/\h'=h/\K v:=by
 refine Zv.psumm (d:=20) (Zi _ _ _ _ _ hl fun a ha=> ?_)
 split at ha
 ·obtain ⟨g,x,rfl,rfl,⟨rfl,h1,h2,h3⟩,hK⟩:=ha
  exact ⟨_,Z7n _ g x h1 h2 h3,fun _=>rfl,hK⟩
 simp_all
def Z3A:YA:=fun args h K=>ZL none h true 20 args fun a=>match a with
 | [.vrows 130 n f m]=>∃g,f=Zg g/\(m=n/\n<900000000000)/\K (.ret (.nslice ⟨h.next,0,130,0,0⟩ 130 n n)) ⟨h.next+1,(h.next,.rows 130 n (Zg (Qd n g)))::h.bs⟩
 | _=>False
theorem Z4K (args:List AV) (h:Z8) (K:KO) (hl:Z3A args h K):Zf PP 67 args h K:=by
 refine Zv.fsumm (d:=20) (Zi _ _ _ _ _ hl fun a ha=> ?_)
 split at ha
 ·obtain ⟨g,rfl,⟨rfl,hN⟩,hK⟩:=ha
  exact ⟨_,_,_,_,Z2W _ _ hN,rfl,⟨Jx,.rows _ _ _ (fun i _=>(Qd _ g i).plainC),trivial⟩,hK⟩
 simp_all
noncomputable def Zha:Zd:=(G0.withP 66 Zbz).withF 67 Z3A
theorem ZdH:Zha.Ok:=Zd.withF_ok (Zd.withP_ok Zt Z9J) Z4K
@[irreducible] def U5 (N:Nat) (g:Nat->InS) (x:InS):Bool:=Yg (sameAt g x) N !=(N:Int)-1-Yg (sameAt (Qd N g) x) N
theorem ZdI (N:Nat) (g:Nat->InS) (x:InS) (num:Int) (outs:AV) (F:Bool) (hN:N<900000000000) (hx:x.Ok) (hg:∀i,i<N->(g i).Ok) (hF:F=U5 N g x):
  evF Zha 20 64 [.agg x.c,.pview [.int .i64 num,.vrows 130 N (Zg g) N,outs] 0] ⟨0,[]⟩ (Y8 0 [] (.bool F) 0 []):=by
 refine @Eq.mpr _ (let a:=Zg g;let d:=decide (N=N);
 ∃(g:Nat->InS),
 ∃(x_1:InS),
 let b:=[AV.arr u8 32 x.name,AV.int i64 x.index,AV.int i64 x.way,AV.arr u8 32 x.tag,AV.arr u8 32 x.also,AV.arr u8 32 x.secret];
 a=Zg g/\b=InS.c x_1/\(N=N/\N<900000000000/\InS.Ok x_1/\∀(i:Nat),i<N->InS.Ok (g i))/\∃(g_1:Nat->InS),a=Zg g_1/\(N=N/\N<900000000000)/\Z5 ((↑N:Int)=(↑N:Int)) (Z0 d (a=a/\Z0 d (Z5 (0+N<=N) ((∀(i:Nat),i<N->true=true)/\∃(g_2:Nat->InS),∃(x:InS),Wf 0 (Zg (Qd N g_1))=Zg g_2/\b=InS.c x/\(N=N/\N<900000000000/\InS.Ok x/\∀(i:Nat),i<N->InS.Ok (g_2 i))/\Z5 ((Yg (sameAt g x_1) N !=wrap i64 (wrap i64 ((↑N:Int)-1)-Yg (sameAt g_2 x) N))=F) True))))) (by kernel_rfl) ?_
 conv=>zeta
 try simp only [W4]
 try simp only [W5]
 try simp only [vcC]
 subst hF
 have hr:∀i,i<N->(Qd N g i).Ok:=fun i hi=>hg _ (by omega)
 refine ⟨g,x,rfl,rfl,⟨hN,hx,hg⟩,g,rfl,hN,fun _ _=>trivial,Qd N g,x,rfl,rfl,⟨hN,hx,hr⟩, ?_⟩
 have hb:=Z5R (sameAt (Qd N g) x) N
 rw [w64 (x:=(N:Int)-1) (by omega),w64 (by omega)]
 unfold U5
 rfl
theorem Z7o (N:Nat) (g:Nat->InS) (x:InS) (num:Int) (outs:AV) (hN:N<900000000000) (hx:x.Ok) (hg:∀i,i<N->(g i).Ok):Zv PP 64 [.agg x.c,.pview [.int .i64 num,.vrows 130 N (Zg g) N,outs] 0] (.bool (U5 N g x)) 0 []:=.ev ZdH (ZdI N g x num outs _ hN hx hg rfl)
def ZbA:ZM:=fun args h K=>ZL none h true 20 args fun a=>match a with
 | [.agg cs,.pview [.int .i64 num,.vrows 130 n f m,outs] 0]=>∃g x,f=Zg g/\cs=InS.c x/\(m=n/\n<900000000000/\x.Ok/\∀i,i<n->(g i).Ok)/\K (.bool (U5 n g x))
 | _=>False
theorem Z9K (args:List AV) (h:Z8) (K:AV->Prop) (hl:ZbA args h K):Zf PP 64 args h fun o h'=>∃v,o=.ret v/\h'=h/\K v:=by
 refine Zv.psumm (d:=20) (Zi _ _ _ _ _ hl fun a ha=> ?_)
 split at ha
 ·obtain ⟨g,x,rfl,rfl,⟨rfl,h1,h2,h3⟩,hK⟩:=ha
  exact ⟨_,Z7o _ g x _ _ h1 h2 h3,fun _=>rfl,hK⟩
 simp_all
def Vt (N:Nat) (g:Nat->InS) (y:InS):Bool:= !ZY y||U5 N g y
noncomputable def Zhb:Zd:=(G0.withP 64 ZbA).withP 69 (inS ZY)
theorem ZdJ:Zhb.Ok:=Zd.withP_ok (Zd.withP_ok Zt Z9K) ZfR
theorem ZdK (N:Nat) (g:Nat->InS) (y:InS) (num:Int) (outs:AV) (F:Bool) (hN:N<900000000000) (hy:y.Ok) (hg:∀i,i<N->(g i).Ok) (hF:F=Vt N g y):
  evF Zhb 20 68 [.agg y.c,.pview [.func (.func 64) [] [.pview [.int .i64 num,.vrows 130 N (Zg g) N,outs] 0]] 0] ⟨0,[]⟩ (Y8 0 [] (.bool F) 0 []):=by
 refine @Eq.mpr _ (let e:=y.name;let d:=y.tag;let b:=y.also;let a:=y.secret;
 Z5 (e.length=32/\d.length=32/\b.length=32/\a.length=32) (Z6 (!ZY (InS.mk e y.index y.way d b a)) (Z5 (true=F) True) (∃(g_1:Nat->InS),∃(x:InS),Zg g=Zg g_1/\[AV.arr u8 32 e,AV.int i64 y.index,AV.int i64 y.way,AV.arr u8 32 d,AV.arr u8 32 b,AV.arr u8 32 a]=InS.c x/\(N=N/\N<900000000000/\InS.Ok x/\∀(i:Nat),i<N->InS.Ok (g_1 i))/\Z5 (U5 N g_1 x=F) True))) (by kernel_rfl) ?_
 conv=>zeta
 try simp only [W4]
 try simp only [W5]
 try simp only [vcC]
 subst hF
 refine ⟨⟨hy.name,hy.tag,hy.also,hy.secret⟩, ?_, ?_⟩
 ·intro h
  have h':ZY y=false:=by simpa using h
  unfold Vt
  rw [h']
  rfl
 ·intro h
  refine ⟨g,y,rfl,rfl,⟨hN,hy,hg⟩, ?_⟩
  have h':ZY y=true:=by simpa using h
  unfold Vt
  rw [h']
  rfl
def ZbB:ZM:=fun args h K=>ZL none h true 20 args fun a=>match a with
 | [.agg cs,.pview [.func (.func 64) [] [.pview [.int .i64 num,.vrows 130 n f m,outs] 0]] 0]=>∃g y,f=Zg g/\cs=InS.c y/\(m=n/\n<900000000000/\y.Ok/\∀i,i<n->(g i).Ok)/\K (.bool (Vt n g y))
 | _=>False
theorem Z9L (args:List AV) (h:Z8) (K:AV->Prop) (hl:ZbB args h K):Zf PP 68 args h fun o h'=>∃v,o=.ret v/\h'=h/\K v:=by
 refine Zv.psumm (d:=20) (Zi _ _ _ _ _ hl fun a ha=> ?_)
 split at ha
 ·obtain ⟨g,x,rfl,rfl,⟨rfl,h1,h2,h3⟩,hK⟩:=ha
  exact ⟨_,.ev ZdJ (ZdK _ g x _ _ _ h1 h2 h3 rfl),fun _=>rfl,hK⟩
 simp_all
noncomputable def ZfY:Zd:=G0.withP 68 ZbB
theorem ZdL:ZfY.Ok:=Zd.withP_ok Zt Z9L
def Yt (N:Nat) (g:Nat->InS):Nat->Bool:=fun j=>Vt N g (g j)
def ZfZ (N:Nat) (g:Nat->InS) (num:Int) (outs:AV) (i:Nat):St:=⟨19,[(1,.func (.func 68) [] [.pview [.func (.func 64) [] [.pview [.int .i64 num,.vrows 130 N (Zg g) N,outs] 0]] 0]),(0,.vrows 130 N (Zg g) N),(7,.int .i64 N),(8,.int .i64 i)],⟨0,[]⟩,[]⟩
def Zhc (i:Nat):St:=⟨19,[(4,.int .i64 i)],⟨0,[]⟩,[]⟩
def Zhd (_:Nat):St:=⟨19,[],⟨0,[]⟩,[]⟩
theorem Zhe (N:Nat) (g:Nat->InS) (num:Int) (outs:AV) (i:Nat) (Z1 Z2 Z3:Prop) (hC:N<900000000000/\∀i,i<N->(g i).Ok) (hi:i<=N) (h1:i<N->Yt N g i=false->Z1) (h2:i=N->Z2) (h3:i<N->Yt N g i=true->Z3):
  Zz ZfY 20 66 0 0 (ZfZ N g num outs i) (fun e s=>match e with|.normal=>ZO 0 [] (ZfZ N g num outs (i+1)) s Z1|.exit x=>(match Nat.beq x 0 with|true=>ZO 0 [] (Zhd i) s Z2|false=>False)|.ret=>ZO 0 [] (Zhc i) s Z3|_=>False):=by
 refine @Eq.mpr _ (let b:=Zg g;let a:=g (Int.toNat (↑i:Int));let e:=[AV.func (Fn.func 64) [] [AV.pview [AV.int i64 num,AV.vrows 130 N b N,outs] 0]];let d:=decide (N=N);
 Z6 (decide ((↑i:Int)<(↑N:Int))) (Z5 (0<=(↑i:Int)/\(↑i:Int)<(↑N:Int)) (∃(g:Nat->InS),∃(y:InS),b=Zg g/\[AV.arr u8 32 a.name,AV.int i64 a.index,AV.int i64 a.way,AV.arr u8 32 a.tag,AV.arr u8 32 a.also,AV.arr u8 32 a.secret]=InS.c y/\(N=N/\N<900000000000/\InS.Ok y/\∀(i:Nat),i<N->InS.Ok (g i))/\Z6 (Vt N g y) (Z5 ((↑i:Int)=(↑i:Int)) Z3) (e=e/\Z0 d (b=b/\Z0 d (Z5 ((↑N:Int)=(↑N:Int)) (Z5 (wrap i64 ((↑i:Int)+1)=(↑(i+1):Int)) Z1)))))) Z2) (by kernel_rfl) ?_
 conv=>zeta
 try simp only [W4]
 try simp only [W5]
 try simp only [vcC]
 refine ⟨fun hlt=>⟨by omega,g,g i,rfl,rfl,⟨hC.1,hC.2 i (by omega),hC.2⟩,fun h=>h3 (by omega) h,fun h=>⟨w64 (by omega),h1 (by omega) h⟩⟩,fun hge=>h2 (by omega)⟩
noncomputable def Zhf (N:Nat) (g:Nat->InS) (num:Int) (outs:AV):Zd:=ZfY.withL 66 0 (goL 0 [] (ZfZ N g num outs 0) (N<900000000000/\∀i,i<N->(g i).Ok) (Z0H 0 N (fun i=>Yt N g i=false) (fun i=>i=N) (fun i=>i<N/\Yt N g i=true) Zhd Zhc))
theorem ZdM (N:Nat) (g:Nat->InS) (num:Int) (outs:AV):(Zhf N g num outs).Ok:=
 Zd.withGo (τ1:=[]) (τ2:=[]) (τ3:=[]) (N:=20) ZdL (by kernel_rfl) fun hC=>⟨rfl,fun i hi _=>Zhe N g num outs i _ _ _ hC hi (fun h1 h2=>⟨h2,h1⟩) (fun h=>h) (fun h1 h2=>⟨h1,h2⟩)⟩
theorem Zhg (N:Nat) (g:Nat->InS) (num:Int) (outs:AV) (F:Int) (hC:N<900000000000/\∀i,i<N->(g i).Ok) (hF:F=Yg (Yt N g) N):
  evF (Zhf N g num outs) 20 66 [.vrows 130 N (Zg g) N,.func (.func 68) [] [.pview [.func (.func 64) [] [.pview [.int .i64 num,.vrows 130 N (Zg g) N,outs] 0]] 0]] ⟨0,[]⟩ (Y8 0 [] (.int .i64 F) 0 []):=by
 refine @Eq.mpr _ (let a:=Zg g;let c:=[AV.func (Fn.func 64) [] [AV.pview [AV.int i64 num,AV.vrows 130 N a N,outs] 0]];let b:=decide (N=N);
 c=c/\Z0 b (a=a/\Z0 b (Z5 ((↑N:Int)=(↑N:Int)) ((N<900000000000/\∀(i:Nat),i<N->InS.Ok (g i))/\∀(i:Nat),i<=N->(∀(j:Nat),j<i->(fun (i:Nat)=>Yt N g i=false) j)->(i=N->Z5 (-1=F) True)/\(i<N/\Yt N g i=true->Z5 ((↑i:Int)=F) True))))) (by kernel_rfl) ?_
 conv=>zeta
 try simp only [W4]
 try simp only [W5]
 try simp only [vcC]
 subst hF
 exact ⟨hC,fun i hi hgo=>⟨fun h=>by subst h;exact (Wp hgo).symm,fun h=>(Wo h.1 hgo h.2).symm⟩⟩
theorem ZbC (N:Nat) (g:Nat->InS) (num:Int) (outs:AV) (hC:N<900000000000/\∀i,i<N->(g i).Ok):Zv PP 66 [.vrows 130 N (Zg g) N,.func (.func 68) [] [.pview [.func (.func 64) [] [.pview [.int .i64 num,.vrows 130 N (Zg g) N,outs] 0]] 0]] (.int .i64 (Yg (Yt N g) N)) 0 []:=.ev (ZdM N g num outs) (Zhg N g num outs _ hC rfl)
theorem Ve (p:Nat->Bool) (n:Nat):decide (0<=Yg p n)=(List.range n).any p:=by
 grind [WF]
def Zhh:ZM:=fun args h K=>ZL none h true 20 args fun a=>match a with
 | [.vrows 130 n f m,.func (.func 68) [] [.pview [.func (.func 64) [] [.pview [.int .i64 num,.vrows 130 n' f' m',outs] 0]] 0]]=>∃g,f=Zg g/\f'=Zg g/\(m=n/\n'=n/\m'=n/\n<900000000000/\∀i,i<n->(g i).Ok)/\K (.int .i64 (Yg (Yt n g) n))
 | _=>False
theorem ZdN (args:List AV) (h:Z8) (K:AV->Prop) (hl:Zhh args h K):Zf PP 66 args h fun o h'=>∃v,o=.ret v/\h'=h/\K v:=by
 refine Zv.psumm (d:=20) (Zi _ _ _ _ _ hl fun a ha=> ?_)
 split at ha
 ·obtain ⟨g,rfl,rfl,⟨rfl,rfl,rfl,h1,h2⟩,hK⟩:=ha
  exact ⟨_,ZbC _ g _ _ ⟨h1,h2⟩,fun _=>rfl,hK⟩
 simp_all
noncomputable def Zhi:Zd:=G0.withP 75 (ZfS Zu)
theorem ZdO:Zhi.Ok:=Zd.withP_ok Zt Zdv
def Qe (o:ZR):Bool:= !Zu o
theorem ZbD (o:ZR) (F:Bool) (ho:o.Ok) (hF:F=Qe o):
  evF Zhi 20 74 [.agg o.c] ⟨0,[]⟩ (Y8 0 [] (.bool F) 0 []):=by
 refine @Eq.mpr _ (Z5 (o.owner.length=32/\o.other.length=32/\o.point.length=32/\o.hash.length=32) (Z5 ((!Zu (ZR.mk o.kind o.amount o.owner o.other o.point o.hash o.delay o.expiry))=F) True)) (by kernel_rfl) ?_
 try simp only [W4]
 try simp only [W5]
 try simp only [vcC]
 subst hF
 exact ⟨⟨ho.owner,ho.other,ho.point,ho.hash⟩,rfl⟩
def Z8q:ZM:=fun args h K=>ZL none h true 20 args fun a=>match a with
 | [.agg cs]=>∃o,cs=ZR.c o/\o.Ok/\K (.bool (Qe o))
 | _=>False
theorem Z7p (args:List AV) (h:Z8) (K:AV->Prop) (hl:Z8q args h K):Zf PP 74 args h fun o h'=>∃v,o=.ret v/\h'=h/\K v:=by
 refine Zv.psumm (d:=20) (Zi _ _ _ _ _ hl fun a ha=> ?_)
 split at ha
 ·obtain ⟨x,rfl,h1,hK⟩:=ha
  exact ⟨_,.ev ZdO (ZbD x _ h1 rfl),fun _=>rfl,hK⟩
 simp_all
noncomputable def Zg0:Zd:=G0.withP 74 Z8q
theorem ZdP:Zg0.Ok:=Zd.withP_ok Zt Z7p
def Ya (g:Nat->ZR):Nat->Bool:=fun j=>Qe (g j)
def Zg1 (N:Nat) (g:Nat->ZR) (i:Nat):St:=⟨19,[(1,.func (.func 74) [] []),(0,.vrows 132 N (ZA g) N),(7,.int .i64 N),(8,.int .i64 i)],⟨0,[]⟩,[]⟩
def Zhj (i:Nat):St:=⟨19,[(4,.int .i64 i)],⟨0,[]⟩,[]⟩
def Zhk (_:Nat):St:=⟨19,[],⟨0,[]⟩,[]⟩
theorem Zhl (N:Nat) (g:Nat->ZR) (i:Nat) (Z1 Z2 Z3:Prop) (hC:N<900000000000/\∀i,i<N->(g i).Ok) (hi:i<=N) (h1:i<N->Ya g i=false->Z1) (h2:i=N->Z2) (h3:i<N->Ya g i=true->Z3):
  Zz Zg0 20 108 0 0 (Zg1 N g i) (fun e s=>match e with|.normal=>ZO 0 [] (Zg1 N g (i+1)) s Z1|.exit x=>(match Nat.beq x 0 with|true=>ZO 0 [] (Zhk i) s Z2|false=>False)|.ret=>ZO 0 [] (Zhj i) s Z3|_=>False):=by
 refine @Eq.mpr _ (let a:=g (Int.toNat (↑i:Int));let b:=decide (N=N);
 Z6 (decide ((↑i:Int)<(↑N:Int))) (Z5 (0<=(↑i:Int)/\(↑i:Int)<(↑N:Int)) (∃(o:ZR),[AV.int i64 a.kind,AV.int i64 a.amount,AV.arr u8 32 a.owner,AV.arr u8 32 a.other,AV.arr u8 32 a.point,AV.arr u8 32 a.hash,AV.int i64 a.delay,AV.int i64 a.expiry]=ZR.c o/\ZR.Ok o/\Z6 (Qe o) (Z5 ((↑i:Int)=(↑i:Int)) Z3) (Z0 b (ZA g=ZA g/\Z0 b (Z5 ((↑N:Int)=(↑N:Int)) (Z5 (wrap i64 ((↑i:Int)+1)=(↑(i+1):Int)) Z1)))))) Z2) (by kernel_rfl) ?_
 conv=>zeta
 try simp only [W4]
 try simp only [W5]
 try simp only [vcC]
 refine ⟨fun hlt=>⟨by omega,g i,rfl,hC.2 i (by omega),fun h=>h3 (by omega) h,fun h=>⟨w64 (by omega),h1 (by omega) h⟩⟩,fun hge=>h2 (by omega)⟩
noncomputable def Zhm (N:Nat) (g:Nat->ZR):Zd:=Zg0.withL 108 0 (goL 0 [] (Zg1 N g 0) (N<900000000000/\∀i,i<N->(g i).Ok) (Z0H 0 N (fun i=>Ya g i=false) (fun i=>i=N) (fun i=>i<N/\Ya g i=true) Zhk Zhj))
theorem ZdQ (N:Nat) (g:Nat->ZR):(Zhm N g).Ok:=
 Zd.withGo (τ1:=[]) (τ2:=[]) (τ3:=[]) (N:=20) ZdP (by kernel_rfl) fun hC=>⟨rfl,fun i hi _=>Zhl N g i _ _ _ hC hi (fun h1 h2=>⟨h2,h1⟩) (fun h=>h) (fun h1 h2=>⟨h1,h2⟩)⟩
theorem Zhn (N:Nat) (g:Nat->ZR) (F:Int) (hC:N<900000000000/\∀i,i<N->(g i).Ok) (hF:F=Yg (Ya g) N):
  evF (Zhm N g) 20 108 [.vrows 132 N (ZA g) N,.func (.func 74) [] []] ⟨0,[]⟩ (Y8 0 [] (.int .i64 F) 0 []):=by
 refine @Eq.mpr _ (let a:=decide (N=N);
 Z0 a (ZA g=ZA g/\Z0 a (Z5 ((↑N:Int)=(↑N:Int)) ((N<900000000000/\∀(i:Nat),i<N->ZR.Ok (g i))/\∀(i:Nat),i<=N->(∀(j:Nat),j<i->(fun (i:Nat)=>Ya g i=false) j)->(i=N->Z5 (-1=F) True)/\(i<N/\Ya g i=true->Z5 ((↑i:Int)=F) True))))) (by kernel_rfl) ?_
 conv=>zeta
 try simp only [W4]
 try simp only [W5]
 try simp only [vcC]
 subst hF
 exact ⟨hC,fun i hi hgo=>⟨fun h=>by subst h;exact (Wp hgo).symm,fun h=>(Wo h.1 hgo h.2).symm⟩⟩
theorem ZbE (N:Nat) (g:Nat->ZR) (hC:N<900000000000/\∀i,i<N->(g i).Ok):Zv PP 108 [.vrows 132 N (ZA g) N,.func (.func 74) [] []] (.int .i64 (Yg (Ya g) N)) 0 []:=.ev (ZdQ N g) (Zhn N g _ hC rfl)
def Zho:ZM:=fun args h K=>ZL none h true 20 args fun a=>match a with
 | [.vrows 132 n f m,.func (.func 74) [] []]=>∃g,f=ZA g/\(m=n/\n<900000000000/\∀i,i<n->(g i).Ok)/\K (.int .i64 (Yg (Ya g) n))
 | _=>False
theorem ZdR (args:List AV) (h:Z8) (K:AV->Prop) (hl:Zho args h K):Zf PP 108 args h fun o h'=>∃v,o=.ret v/\h'=h/\K v:=by
 refine Zv.psumm (d:=20) (Zi _ _ _ _ _ hl fun a ha=> ?_)
 split at ha
 ·obtain ⟨g,rfl,⟨rfl,h1,h2⟩,hK⟩:=ha
  exact ⟨_,ZbE _ g ⟨h1,h2⟩,fun _=>rfl,hK⟩
 simp_all
def Vw (m x:Int):Bool:=decide (x<0\/x>m)
theorem Zg2 (m x:Int) (F:Bool) (hF:F=Vw m x):
  evF G0 20 170 [.int .i64 x,.pview [.int .i64 m] 0] ⟨0,[]⟩ (Y8 0 [] (.bool F) 0 []):=by
 refine @Eq.mpr _ (Z6 (decide (x<0)) (Z5 (true=F) True) (Z5 (decide (x>m)=F) True)) (by kernel_rfl) ?_
 try simp only [W4]
 try simp only [W5]
 try simp only [vcC]
 subst hF
 unfold Vw
 refine ⟨fun h=> ?_,fun h=> ?_⟩<;>simp [h]
theorem ZdS (x:Int) (F:Bool) (hF:F=Vw 4611686018427387904 x):
  evF G0 20 82 [.int .i64 x] ⟨0,[]⟩ (Y8 0 [] (.bool F) 0 []):=by
 refine @Eq.mpr _ (Z6 (decide (x<0)) (Z5 (true=F) True) (Z5 (decide (x>4611686018427387904)=F) True)) (by kernel_rfl) ?_
 try simp only [W4]
 try simp only [W5]
 try simp only [vcC]
 subst hF
 unfold Vw
 refine ⟨fun h=> ?_,fun h=> ?_⟩<;>simp [h]
def Zfd:ZM:=fun args h K=>ZL none h true 20 args fun a=>match a with
 | [.int .i64 x,.pview [.int .i64 m] 0]=>K (.bool (Vw m x))
 | _=>False
theorem ZbF (args:List AV) (h:Z8) (K:AV->Prop) (hl:Zfd args h K):Zf PP 170 args h fun o h'=>∃v,o=.ret v/\h'=h/\K v:=by
 refine Zv.psumm (d:=20) (Zi _ _ _ _ _ hl fun a ha=> ?_)
 split at ha
 ·exact ⟨_,.ev Zt (Zg2 _ _ _ rfl),fun _=>rfl,ha⟩
 simp_all
def ZbG (T:Int):ZM:=fun args h K=>ZL none h true 20 args fun a=>match a with
 | [.int .i64 x]=>K (.bool (Vw T x))
 | _=>False
theorem Z9M (args:List AV) (h:Z8) (K:AV->Prop) (hl:ZbG 4611686018427387904 args h K):Zf PP 82 args h fun o h'=>∃v,o=.ret v/\h'=h/\K v:=by
 refine Zv.psumm (d:=20) (Zi _ _ _ _ _ hl fun a ha=> ?_)
 split at ha
 ·exact ⟨_,.ev Zt (ZdS _ _ rfl),fun _=>rfl,ha⟩
 simp_all
noncomputable def Zhp (T:Int):Zd:=(G0.withP 170 Zfd).withP 82 (ZbG T)
theorem ZdT:(Zhp 4611686018427387904).Ok:=Zd.withP_ok (Zd.withP_ok Zt ZbF) Z9M
def Yf (m:Int) (xs:LI):Nat->Bool:=fun j=>Vw m (xs.getD j 0)
noncomputable def ZbH:Zd:=Zhp 4611686018427387904
theorem Z8r:ZbH.Ok:=ZdT
def Zg3 (xs:LI) (N:Nat) (m:Int) (i:Nat):St:=⟨19,[(1,.func (.func 170) [] [.pview [.int .i64 m] 0]),(0,.vints .i64 xs N),(7,.int .i64 N),(8,.int .i64 i)],⟨0,[]⟩,[]⟩
def Zhq (i:Nat):St:=⟨19,[(4,.int .i64 i)],⟨0,[]⟩,[]⟩
def Zhr (_:Nat):St:=⟨19,[],⟨0,[]⟩,[]⟩
theorem Zhs (xs:LI) (N:Nat) (m:Int) (i:Nat) (Z1 Z2 Z3:Prop) (hC:N<900000000000/\xs.length=N) (hi:i<=N) (h1:i<N->Yf m xs i=false->Z1) (h2:i=N->Z2) (h3:i<N->Yf m xs i=true->Z3):
  Zz ZbH 20 113 0 0 (Zg3 xs N m i) (fun e s=>match e with|.normal=>ZO 0 [] (Zg3 xs N m (i+1)) s Z1|.exit x=>(match Nat.beq x 0 with|true=>ZO 0 [] (Zhr i) s Z2|false=>False)|.ret=>ZO 0 [] (Zhq i) s Z3|_=>False):=by
 refine @Eq.mpr _ (let a:=[AV.int i64 m];
 Z6 (decide ((↑i:Int)<(↑N:Int))) (Z5 (0<=(↑i:Int)/\(↑i:Int)<(↑N:Int)) (Z6 (Vw m (List.getD xs (Int.toNat (↑i:Int)) 0)) (Z5 ((↑i:Int)=(↑i:Int)) Z3) (a=a/\xs=xs/\Z5 (N=N) (Z5 ((↑N:Int)=(↑N:Int)) (Z5 (wrap i64 ((↑i:Int)+1)=(↑(i+1):Int)) Z1))))) Z2) (by kernel_rfl) ?_
 conv=>zeta
 try simp only [W4]
 try simp only [W5]
 try simp only [vcC]
 refine ⟨fun hlt=>⟨by omega,fun h=>h3 (by omega) h,fun h=>⟨w64 (by omega),h1 (by omega) h⟩⟩,fun hge=>h2 (by omega)⟩
noncomputable def Zht (xs:LI) (N:Nat) (m:Int):Zd:=ZbH.withL 113 0 (goL 0 [] (Zg3 xs N m 0) (N<900000000000/\xs.length=N) (Z0H 0 N (fun i=>Yf m xs i=false) (fun i=>i=N) (fun i=>i<N/\Yf m xs i=true) Zhr Zhq))
theorem ZdU (xs:LI) (N:Nat) (m:Int):(Zht xs N m).Ok:=
 Zd.withGo (τ1:=[]) (τ2:=[]) (τ3:=[]) (N:=20) Z8r (by kernel_rfl) fun hC=>⟨rfl,fun i hi _=>Zhs xs N m i _ _ _ hC hi (fun h1 h2=>⟨h2,h1⟩) (fun h=>h) (fun h1 h2=>⟨h1,h2⟩)⟩
theorem Zhu (xs:LI) (N:Nat) (m:Int) (F:Int) (hC:N<900000000000/\xs.length=N) (hF:F=Yg (Yf m xs) N):
  evF (Zht xs N m) 20 113 [.vints .i64 xs N,.func (.func 170) [] [.pview [.int .i64 m] 0]] ⟨0,[]⟩ (Y8 0 [] (.int .i64 F) 0 []):=by
 refine @Eq.mpr _ (let a:=[AV.int i64 m];
 a=a/\xs=xs/\Z5 (N=N) (Z5 ((↑N:Int)=(↑N:Int)) ((N<900000000000/\xs.length=N)/\∀(i:Nat),i<=N->(∀(j:Nat),j<i->(fun (i:Nat)=>Yf m xs i=false) j)->(i=N->Z5 (-1=F) True)/\(i<N/\Yf m xs i=true->Z5 ((↑i:Int)=F) True)))) (by kernel_rfl) ?_
 conv=>zeta
 try simp only [W4]
 try simp only [W5]
 try simp only [vcC]
 subst hF
 exact ⟨hC,fun i hi hgo=>⟨fun h=>by subst h;exact (Wp hgo).symm,fun h=>(Wo h.1 hgo h.2).symm⟩⟩
theorem ZbI (xs:LI) (N:Nat) (m:Int) (hC:N<900000000000/\xs.length=N):Zv PP 113 [.vints .i64 xs N,.func (.func 170) [] [.pview [.int .i64 m] 0]] (.int .i64 (Yg (Yf m xs) N)) 0 []:=.ev (ZdU xs N m) (Zhu xs N m _ hC rfl)
def Zg4 (xs:LI) (N:Nat) (i:Nat):St:=⟨19,[(1,.func (.func 82) [] []),(0,.vints .i64 xs N),(7,.int .i64 N),(8,.int .i64 i)],⟨0,[]⟩,[]⟩
def Zhv (i:Nat):St:=⟨19,[(4,.int .i64 i)],⟨0,[]⟩,[]⟩
def Zhw (_:Nat):St:=⟨19,[],⟨0,[]⟩,[]⟩
theorem Zhx (xs:LI) (N:Nat) (i:Nat) (Z1 Z2 Z3:Prop) (hC:N<900000000000/\xs.length=N) (hi:i<=N) (h1:i<N->Yf 4611686018427387904 xs i=false->Z1) (h2:i=N->Z2) (h3:i<N->Yf 4611686018427387904 xs i=true->Z3):
  Zz ZbH 20 113 0 0 (Zg4 xs N i) (fun e s=>match e with|.normal=>ZO 0 [] (Zg4 xs N (i+1)) s Z1|.exit x=>(match Nat.beq x 0 with|true=>ZO 0 [] (Zhw i) s Z2|false=>False)|.ret=>ZO 0 [] (Zhv i) s Z3|_=>False):=by
 refine @Eq.mpr _ (Z6 (decide ((↑i:Int)<(↑N:Int))) (Z5 (0<=(↑i:Int)/\(↑i:Int)<(↑N:Int)) (Z6 (Vw 4611686018427387904 (List.getD xs (Int.toNat (↑i:Int)) 0)) (Z5 ((↑i:Int)=(↑i:Int)) Z3) (xs=xs/\Z5 (N=N) (Z5 ((↑N:Int)=(↑N:Int)) (Z5 (wrap i64 ((↑i:Int)+1)=(↑(i+1):Int)) Z1))))) Z2) (by kernel_rfl) ?_
 try simp only [W4]
 try simp only [W5]
 try simp only [vcC]
 refine ⟨fun hlt=>⟨by omega,fun h=>h3 (by omega) h,fun h=>⟨w64 (by omega),h1 (by omega) h⟩⟩,fun hge=>h2 (by omega)⟩
noncomputable def Zhy (xs:LI) (N:Nat):Zd:=ZbH.withL 113 0 (goL 0 [] (Zg4 xs N 0) (N<900000000000/\xs.length=N) (Z0H 0 N (fun i=>Yf 4611686018427387904 xs i=false) (fun i=>i=N) (fun i=>i<N/\Yf 4611686018427387904 xs i=true) Zhw Zhv))
theorem ZdV (xs:LI) (N:Nat):(Zhy xs N).Ok:=
 Zd.withGo (τ1:=[]) (τ2:=[]) (τ3:=[]) (N:=20) Z8r (by kernel_rfl) fun hC=>⟨rfl,fun i hi _=>Zhx xs N i _ _ _ hC hi (fun h1 h2=>⟨h2,h1⟩) (fun h=>h) (fun h1 h2=>⟨h1,h2⟩)⟩
theorem Zhz (xs:LI) (N:Nat) (F:Int) (hC:N<900000000000/\xs.length=N) (hF:F=Yg (Yf 4611686018427387904 xs) N):
  evF (Zhy xs N) 20 113 [.vints .i64 xs N,.func (.func 82) [] []] ⟨0,[]⟩ (Y8 0 [] (.int .i64 F) 0 []):=by
 refine @Eq.mpr _ (xs=xs/\Z5 (N=N) (Z5 ((↑N:Int)=(↑N:Int)) ((N<900000000000/\xs.length=N)/\∀(i:Nat),i<=N->(∀(j:Nat),j<i->(fun (i:Nat)=>Yf 4611686018427387904 xs i=false) j)->(i=N->Z5 (-1=F) True)/\(i<N/\Yf 4611686018427387904 xs i=true->Z5 ((↑i:Int)=F) True)))) (by kernel_rfl) ?_
 try simp only [W4]
 try simp only [W5]
 try simp only [vcC]
 subst hF
 exact ⟨hC,fun i hi hgo=>⟨fun h=>by subst h;exact (Wp hgo).symm,fun h=>(Wo h.1 hgo h.2).symm⟩⟩
theorem ZbJ (xs:LI) (N:Nat) (hC:N<900000000000/\xs.length=N):Zv PP 113 [.vints .i64 xs N,.func (.func 82) [] []] (.int .i64 (Yg (Yf 4611686018427387904 xs) N)) 0 []:=.ev (ZdV xs N) (Zhz xs N _ hC rfl)
def ZhA (T:Int):ZM:=fun args h K=>ZL none h true 20 args fun a=>match a with
 | [.vints .i64 xs n,.func (.func 170) [] [.pview [.int .i64 m] 0]]=>Z5 (xs.length=n/\n<900000000000) (K (.int .i64 (Yg (Yf m xs) n)))
 | [.vints .i64 xs n,.func (.func 82) [] []]=>Z5 (xs.length=n/\n<900000000000) (K (.int .i64 (Yg (Yf T xs) n)))
 | _=>False
theorem ZdW (args:List AV) (h:Z8) (K:AV->Prop) (hl:ZhA 4611686018427387904 args h K):Zf PP 113 args h fun o h'=>∃v,o=.ret v/\h'=h/\K v:=by
 refine Zv.psumm (d:=20) (Zi _ _ _ _ _ hl fun a ha=> ?_)
 split at ha
 ·obtain ⟨⟨h1,h2⟩,hK⟩:=Zc ha
  exact ⟨_,ZbI _ _ _ ⟨h2,h1⟩,fun _=>rfl,hK⟩
 ·obtain ⟨⟨h1,h2⟩,hK⟩:=Zc ha
  exact ⟨_,ZbJ _ _ ⟨h2,h1⟩,fun _=>rfl,hK⟩
 simp_all
noncomputable def ZhB (T:Int):Zd:=G0.withP 113 (ZhA T)
theorem ZdX:(ZhB 4611686018427387904).Ok:=Zd.withP_ok Zt ZdW
@[irreducible] def allIn (m:Int) (xs:LI):Bool:= !((List.range xs.length).any (Yf m xs))
theorem ZdY (T:Int) (xs:LI) (N:Nat) (F:Int) (hC:N<900000000000/\xs.length=N) (hF:F=if allIn 1125899906842624 xs then 0 else 2):
  evF (ZhB T) 20 111 [.vints .i64 xs N] ⟨0,[]⟩ (Y8 0 [] (.int .i64 F) 0 []):=by
 refine @Eq.mpr _ (Z5 (xs.length=N/\N<900000000000) (Z6 (!!decide (Yg (Yf 1125899906842624 xs) N>=0)) (Z5 (2=F) True) (Z5 (0=F) True))) (by kernel_rfl) ?_
 try simp only [W4]
 try simp only [W5]
 try simp only [vcC]
 obtain ⟨h1,h2⟩:=hC
 subst h2
 have hb:=Ve (Yf 1125899906842624 xs) xs.length
 refine ⟨⟨rfl,h1⟩,fun h=> ?_,fun h=> ?_⟩
 ·rw [hF]
  unfold allIn
  rw [<-hb]
  simp at h
  simp [h]
 ·rw [hF]
  unfold allIn
  rw [<-hb]
  simp at h
  simp [h]
def ZbK (m:Int):ZM:=fun args h K=>ZL none h true 20 args fun a=>match a with
 | [.vints .i64 xs n]=>Z5 (xs.length=n/\n<900000000000) (Z6 (allIn m xs) (K (.int .i64 0)) (K (.int .i64 2)))
 | _=>False
theorem Z9N (args:List AV) (h:Z8) (K:AV->Prop) (hl:ZbK 1125899906842624 args h K):Zf PP 111 args h fun o h'=>∃v,o=.ret v/\h'=h/\K v:=by
 refine Zv.psumm (d:=20) (Zi _ _ _ _ _ hl fun a ha=> ?_)
 split at ha
 ·obtain ⟨⟨h1,h2⟩,hK⟩:=Zc ha
  refine ⟨_,.ev (ZdX) (ZdY _ _ _ _ ⟨h2,h1⟩ rfl),fun _=>rfl, ?_⟩
  rw [Z1c] at hK
  grind
 simp_all
def XL (xs:LI) (i:Nat):Int:=(xs.take i).sum
theorem Z0k {i:Nat} (h:i<xs.length):XL xs (i+1)=XL xs i+xs.getD i 0:=by
 grind [XL,List.take_succ_eq_append_getElem]
theorem Z0l {m:Int} (h:allIn m xs=true) {i:Nat} (hi:i<xs.length):0<=xs.getD i 0/\xs.getD i 0<=m:=by
 simp_all [allIn,Yf,Vw]
theorem Z5S {m:Int} {xs:LI} (h:allIn m xs=true):∀{i:Nat},i<=xs.length->0<=XL xs i
 | 0,_=>by simp [XL]
 | i+1,hi=>by
  rw [Z0k (by omega)]
  have:=Z0l h (i:=i) (by omega)
  have:=Z5S h (i:=i) (by omega)
  omega
theorem Z3B {m:Int} {xs:LI} (h:allIn m xs=true):∀(d i:Nat),i+d<=xs.length->XL xs i<=XL xs (i+d)
 | 0,i,_=>Int.le_refl _
 | d+1,i,hi=>by
  have h1:=Z3B h d i (by omega)
  rw [<-Nat.add_assoc,Z0k (by omega)]
  have:=Z0l h (i:=i+d) (by omega)
  omega
def adS (xs:LI) (i:Nat):St:=⟨24,[(10,.vints .i64 xs xs.length),(3,.int .i64 150),(11,.int .i64 xs.length),(12,.int .i64 i),(2,.int .i64 (XL xs i))],⟨0,[]⟩,[]⟩
def adE (xs:LI) (i:Nat):St:=⟨24,[(3,.int .i64 150),(2,.int .i64 (XL xs i))],⟨0,[]⟩,[]⟩
def adJ (_:Nat):St:=⟨24,[(3,.int .i64 150)],⟨0,[]⟩,[]⟩
theorem ZhC (xs:LI) (i:Nat) (Z1 Z2 Z4:Prop) (M:Int) (hM:M=1125899906842624) (hn:xs.length<900000000000) (hall:allIn M xs=true) (hi:i<=xs.length) (hgo:∀j,j<i->XL xs (j+1)<=M) (h1:i<xs.length->XL xs (i+1)<=M->Z1) (h2:i=xs.length->Z2) (h4:i<xs.length->M<XL xs (i+1)->Z4):
  Zz G0 20 112 0 0 (adS xs i) (fun e s=>match e with|.normal=>ZO 0 [] (adS xs (i+1)) s Z1|.exit x=>(match Nat.beq x 0 with|true=>ZO 0 [] (adE xs i) s Z2|false=>False)|.ret=>ZO 0 [] (adJ i) s False|.goto x=>(match Nat.beq x 0 with|true=>ZO 0 [] (adJ i) s Z4|false=>False)|_=>False):=by
 refine @Eq.mpr _ (let c:=xs.length;let a:=(↑c:Int);let b:=XL xs i;let d:=wrap i64 (b+List.getD xs (Int.toNat (↑i:Int)) 0);
 Z6 (decide ((↑i:Int)<a)) (Z5 (0<=(↑i:Int)/\(↑i:Int)<a) (Z6 (decide (d>1125899906842624)) Z4 (xs=xs/\Z5 (c=c) (Z5 (a=a) (Z5 (wrap i64 ((↑i:Int)+1)=(↑(i+1):Int)) (Z5 (d=XL xs (i+1)) Z1)))))) (Z5 (b=b) Z2)) (by kernel_rfl) ?_
 conv=>zeta
 try simp only [W4]
 try simp only [W5]
 try simp only [vcC]
 subst hM
 refine ⟨fun hlt=>⟨by omega, ?_⟩,fun hge=>h2 (by omega)⟩
 have hs:=Z0k (xs:=xs) (i:=i) (by omega)
 have hx:=Z0l hall (i:=i) (by omega)
 have hp:=Z5S hall hi
 have hq:XL xs i<=1125899906842624:=by
  cases i with
  | zero=>simp [XL]
  | succ j=>exact hgo j (by omega)
 have hw:i64.wrap (XL xs i+xs.getD i 0)=XL xs (i+1):=by rw [w64 (by omega)];exact hs.symm
 rw [hw]
 have hw2:i64.wrap ((i:Int)+1)=((i+1:Nat):Int):=w64 (by omega)
 refine ⟨fun h=>h4 (by omega) (by omega),fun h=> ?_⟩
 rw [hw2]
 simp [h1 (by omega) (by omega)]
noncomputable def ZhD (m M:Int) (xs:LI):Zd:=(G0.withL 112 0 (goL 0 [] (adS xs 0) (allIn M xs=true/\xs.length<900000000000) (Y9 0 xs.length 0 (fun i=>XL xs (i+1)<=M) (fun i=>i=xs.length) (fun _=>False) (fun i=>i<xs.length/\M<XL xs (i+1)) (adE xs) adJ adJ))).withP 111 (ZbK m)
theorem ZdZ (xs:LI):(ZhD 1125899906842624 1125899906842624 xs).Ok:=
 Zd.withP_ok (Zd.withGoJ (τ1:=[]) (τ2:=[]) (τ3:=[]) (τ4:=[]) (N:=20) Zt (by kernel_rfl) fun hC=>⟨rfl,fun i hi hgo=>ZhC xs i _ _ _ _ rfl hC.2 hC.1 hi hgo (fun h1 h2=>⟨h2,h1⟩) (fun h=>h) (fun h1 h2=>⟨h1,h2⟩)⟩) Z9N
@[irreducible] def Yd (xs:LI):Int×Int:=if allIn 1125899906842624 xs=true then (if xs.sum<=1125899906842624 then (xs.sum,0) else (0,150)) else (0,2)
theorem ZhE (xs:LI) (m M:Int) (F:Int×Int) (hm:m=1125899906842624) (hM:M=1125899906842624) (hn:xs.length<900000000000) (hF:F=Yd xs):
  evF (ZhD m M xs) 20 112 [.vints .i64 xs xs.length] ⟨0,[]⟩ (Y8 0 [] (.tuple [.int .i64 F.1,.int .i64 F.2]) 0 []):=by
 refine @Eq.mpr _ (let a:=xs.length;let c:=(↑a:Int);let b:=decide (0=F.fst);
 Z5 (a=a/\a<900000000000) (Z6 (allIn m xs) (xs=xs/\Z5 (a=a) (Z5 (c=c) ((allIn M xs=true/\a<900000000000)/\∀(i:Nat),i<=a->(∀(j:Nat),j<i->(fun (i:Nat)=>XL xs (i+1)<=M) j)->(i=a->Z5 (XL xs i=F.fst) (Z5 (0=F.snd) True))/\(False->False)/\(i<a/\M<XL xs (i+1)->Z0 b (Z5 (150=F.snd) True))))) (Z0 b (Z5 (2=F.snd) True)))) (by kernel_rfl) ?_
 conv=>zeta
 try simp only [W4]
 try simp only [W5]
 try simp only [vcC]
 subst hm hM hF
 have ht:XL xs xs.length=xs.sum:=by simp [XL]
 refine ⟨hn,fun hall=>⟨⟨hall,hn⟩,fun i hi hgo=>⟨fun he=> ?_,fun h=>h.elim,fun he=> ?_⟩⟩,fun hall=> ?_⟩
 ·subst he
  have hle:xs.sum<=1125899906842624:=by
   rw [<-ht]
   rcases JH xs.length with h0|h0
   ·rw [h0];simp [XL]
   ·have:=hgo (xs.length-1) (by omega)
    rw [Nat.sub_add_cancel h0] at this
    exact this
  unfold Yd
  rw [if_pos hall,if_pos hle]
  exact ⟨ht,rfl⟩
 ·have hmono:=Z3B hall (xs.length-(i+1)) (i+1) (by omega)
  rw [show i+1+(xs.length-(i+1))=xs.length by omega,ht] at hmono
  unfold Yd
  rw [if_pos hall,if_neg (by omega)]
  exact ⟨rfl,rfl⟩
 ·unfold Yd
  rw [if_neg (by simp [hall])]
  exact ⟨rfl,rfl⟩
def Zfe (A:LI->Int×Int):ZM:=fun args h K=>ZL none h true 20 args fun a=>match a with
 | [.vints .i64 xs n]=>Z5 (n=xs.length/\n<900000000000) (K (.tuple [.int .i64 (A xs).1,.int .i64 (A xs).2]))
 | _=>False
theorem ZbL (args:List AV) (h:Z8) (K:AV->Prop) (hl:Zfe Yd args h K):Zf PP 112 args h fun o h'=>∃v,o=.ret v/\h'=h/\K v:=by
 refine Zv.psumm (d:=20) (Zi _ _ _ _ _ hl fun a ha=> ?_)
 split at ha
 ·obtain ⟨⟨rfl,h1⟩,hK⟩:=Zc ha
  exact ⟨_,.ev (ZdZ _) (ZhE _ _ _ _ rfl rfl h1 rfl),fun _=>rfl,hK⟩
 simp_all
def amL (g:Nat->ZR) (n:Nat):LI:=(List.range n).map fun j=>(g j).amount
theorem Z2n (g:Nat->ZR) (n:Nat):amL g (n+1)=amL g n++[(g n).amount]:=by simp [amL,List.range_succ]
theorem QN (g:Nat->ZR) (n:Nat):(amL g n).length=n:=by simp [amL]
def suS (M:Nat) (g:Nat->ZR) (i:Nat):St:=⟨24,[(8,.vrows 132 M (ZA g) M),(9,.int .i64 M),(10,.int .i64 i),(4,.nslice ⟨0,0,0,0,0⟩ 1 i i)],⟨1,[(0,.ints .i64 (amL g i))]⟩,[]⟩
def suE (g:Nat->ZR) (i:Nat):St:=⟨24,[(4,.nslice ⟨0,0,0,0,0⟩ 1 i i)],⟨1,[(0,.ints .i64 (amL g i))]⟩,[]⟩
theorem ZhF (M i:Nat) (g:Nat->ZR) (Z1 Z2:Prop) (hn:M<900000000000) (hi:i<=M) (h1:i<M->Z1) (h2:i=M->Z2):
  Zz G0 20 76 0 0 (suS M g i) (fun e s=>match e with|.normal=>ZO 0 [(0,3)] (suS M g (i+1)) s Z1|.exit x=>(match Nat.beq x 0 with|true=>ZO 0 [(0,0)] (suE g i) s Z2|false=>False)|.ret=>ZO 0 [] (suE g i) s False|_=>False):=by
 refine @Eq.mpr _ (let b:=amL g i;let e:=b++[(g (Int.toNat (↑i:Int))).amount];let c:=e.length;let d:=decide (M=M);let a:=i+1;
 Z6 (decide ((↑i:Int)<(↑M:Int))) (Z5 (0<=(↑i:Int)/\(↑i:Int)<(↑M:Int)) (Z5 (i64=i64/\b.length=i) (Z5 (c*8<=140737488355328) (Z0 d (ZA g=ZA g/\Z0 d (Z5 ((↑M:Int)=(↑M:Int)) (Z5 (wrap i64 ((↑i:Int)+1)=(↑a:Int)) (Z5 (c=a) (Z5 (a<=c) (e=amL g a/\Z1)))))))))) (Z5 (i=i) (Z5 (i<=i) (b=b/\Z2)))) (by kernel_rfl) ?_
 conv=>zeta
 try simp only [W4]
 try simp only [W5]
 try simp only [vcC]
 refine ⟨fun hlt=>⟨by omega,QN g i, ?_⟩,fun hge=>h2 (by omega)⟩
 rw [<-Z2n,QN]
 exact ⟨by omega,w64 (by omega),rfl,J2 _,rfl,h1 (by omega)⟩
noncomputable def ZhG (A:LI->Int×Int) (M:Nat) (g:Nat->ZR):Zd:=(G0.withL 76 0 (goL 0 [] (suS M g 0) (M<900000000000) (Z0H 0 M (fun i=>i<M) (fun i=>i=M) (fun _=>False) (suE g) (suE g)))).withP 112 (Zfe A)
theorem Ze0 (M:Nat) (g:Nat->ZR):(ZhG Yd M g).Ok:=
 Zd.withP_ok (Zd.withGo (τ1:=[(0,3)]) (τ2:=[(0,0)]) (τ3:=[]) (N:=20) Zt (by kernel_rfl) fun hC=>⟨rfl,fun i hi hgo=>ZhF M i g _ _ hC hi (fun h=>⟨h,h⟩) (fun h=>h)⟩) ZbL
theorem ZhH (A:LI->Int×Int) (M N:Nat) (f:Nat->InS) (g:Nat->ZR) (num:Int) (F:Int×Int) (hn:M<900000000000) (hF:F=A (amL g M)):
  evF (ZhG A M g) 20 76 [.agg [.int .i64 num,.vrows 130 N (Zg f) N,.vrows 132 M (ZA g) M]] ⟨0,[]⟩ (Y8 0 [] (.tuple [.int .i64 F.1,.int .i64 F.2]) 0 []):=by
 refine @Eq.mpr _ (let c:=decide (M=M);
 Z0 c (ZA g=ZA g/\
 Z0 c (Z5 ((↑M:Int)=(↑M:Int)) (amL g 0=[]/\
 M<900000000000/\
 ∀(i:Nat),
 let b:=List.take i (ZP 0 (amL g i));let a:=A b;
 i<=M->(∀(j:Nat),j<i->(fun (i:Nat)=>i<M) j)->(i=M->Z5 (0+i<=List.length (amL g i)) (Z5 (i=b.length/\i<900000000000) (Z5 (a.fst=F.fst) (Z5 (a.snd=F.snd) True))))/\(False->False))))) (by kernel_rfl) ?_
 conv=>zeta
 try simp only [W4]
 try simp only [W5]
 try simp only [vcC]
 subst hF
 refine ⟨rfl,hn,fun i hi hgo=>⟨fun he=> ?_,fun h=>h.elim⟩⟩
 subst he
 rw [Y0,JU,K2 (by rw [QN];exact J2 _),QN]
 exact ⟨J2 _,⟨rfl,hn⟩,rfl,rfl⟩
def Z7q (A:LI->Int×Int):ZM:=fun args h K=>ZL none h true 20 args fun a=>match a with
 | [.agg [.int .i64 num,.vrows 130 N f n,.vrows 132 M f' m]]=>∃g g',f=Zg g/\f'=ZA g'/\(n=N/\m=M/\M<900000000000)/\K (.tuple [.int .i64 (A (amL g' M)).1,.int .i64 (A (amL g' M)).2])
 | _=>False
theorem Z3C (args:List AV) (h:Z8) (K:AV->Prop) (hl:Z7q Yd args h K):Zf PP 76 args h fun o h'=>∃v,o=.ret v/\h'=h/\K v:=by
 refine Zv.psumm (d:=20) (Zi _ _ _ _ _ hl fun a ha=> ?_)
 split at ha
 ·obtain ⟨g,g',rfl,rfl,⟨rfl,rfl,h1⟩,hK⟩:=ha
  exact ⟨_,.ev (Ze0 _ g') (ZhH _ _ _ g g' _ _ h1 rfl),fun _=>rfl,hK⟩
 simp_all
def Z7r (v:AV) (N:Nat) (g:Nat->InS):Prop:=match v with
 | .vrows 130 n f m=>(m=n/\N=n)/\∀i,i<n->f i=(g i).c
 | .nilslice=>N=0
 | .eslice=>N=0
 | .fslice=>N=0
 | _=>False
def Z2o (v:AV) (N:Nat) (g:Nat->ZR):Prop:=match v with
 | .vrows 132 n f m=>(m=n/\N=n)/\∀i,i<n->f i=(g i).c
 | .nilslice=>N=0
 | .eslice=>N=0
 | .fslice=>N=0
 | _=>False
theorem Za.rows0 {f:Nat->List AV} {r:Value} {a:Option Addr} {c:Nat} (h:r=.slice a 0 c) (hc:a=none->c=0):Za E (.vrows esz 0 f 0) r:=by
 subst h
 cases a with
 | none=>rw [hc rfl];exact .vrowsNil _ _ _ _ rfl rfl
 | some a=>exact .vrows _ _ _ _ a c (fun _=>[]) (J2 _) (JI _) (fun i h=>by omega) (fun i h=>by omega) (fun i j c h=>by omega)
theorem Za.rowsC {n:Nat} {f f':Nat->List AV} {r:Value} (h:Za E (.vrows esz n f n) r) (hf:∀i,i<n->f i=f' i):Za E (.vrows esz n f' n) r:=by
 cases h with
 | vrowsNil esz n f len h1 h2=>exact .vrowsNil _ _ _ _ h1 h2
 | vrows esz n f len a cap g h1 h2 hc hl hi=>exact .vrows _ _ _ _ a cap g h1 h2 (fun i h=>by simp_all) hl hi
theorem Z7r.rel {N:Nat} (h:Z7r v N g) {r:Value} (hv:Za E v r):Za E (.vrows 130 N (Zg g) N) r:=by
 unfold Z7r at h
 split at h
 ·obtain ⟨⟨rfl,rfl⟩,hf⟩:=h
  exact hv.rowsC hf
 ·subst h;cases hv;exact .rows0 rfl (fun _=>rfl)
 ·subst h;cases hv with|eslice a=>exact .rows0 rfl (fun _=>rfl)
 ·subst h;cases hv with|fslice a c=>exact .rows0 rfl (fun h=>by cases h)
 simp_all
theorem Z2o.rel {N:Nat} {g:Nat->ZR} (h:Z2o v N g) {r:Value} (hv:Za E v r):Za E (.vrows 132 N (ZA g) N) r:=by
 unfold Z2o at h
 split at h
 ·obtain ⟨⟨rfl,rfl⟩,hf⟩:=h
  exact hv.rowsC hf
 ·subst h;cases hv;exact .rows0 rfl (fun _=>rfl)
 ·subst h;cases hv with|eslice a=>exact .rows0 rfl (fun _=>rfl)
 ·subst h;cases hv with|fslice a c=>exact .rows0 rfl (fun h=>by cases h)
 simp_all
theorem Z7r.cell {N:Nat} (h:Z7r v N g):v.isCell=true/\∀k n xs,v≠.arr k n xs:=by
 unfold Z7r at h;split at h<;>simp_all [AV.isCell]
theorem Z2o.cell {N:Nat} {g:Nat->ZR} (h:Z2o v N g):v.isCell=true/\∀k n xs,v≠.arr k n xs:=by
 unfold Z2o at h;split at h<;>simp_all [AV.isCell]
structure TxS where
 num:Int
 N:Nat
 ins:Nat->InS
 M:Nat
 outs:Nat->ZR
def TxS.c (t:TxS):List AV:=[.int .i64 t.num,.vrows 130 t.N (Zg t.ins) t.N,.vrows 132 t.M (ZA t.outs) t.M]
structure TxS.Ok (t:TxS):Prop where
 n:t.N<900000000000
 m:t.M<900000000000
 ins:∀i,i<t.N->(t.ins i).Ok
 outs:∀i,i<t.M->(t.outs i).Ok
def Z0V (l:List AV) (t:TxS):Prop:=match l with
 | [.int .i64 num,a,b]=>t.num=num/\Z7r a t.N t.ins/\Z2o b t.M t.outs
 | _=>False
theorem Z0V.rel {l:List AV} {t:TxS} (h:Z0V l t) {r:Value} (hv:Za E (.agg l) r):Za E (.agg t.c) r:=by
 unfold Z0V at h
 split at h
 ·obtain ⟨h0,h1,h2⟩:=h
  cases hv with
  | agg cs vs hc=>
   obtain ⟨c1,ws,rfl,_,q1,p1,hc⟩:=Zl.cons_cell hc (fun _ _ _ h=>by cases h)
   obtain ⟨c2,ws,rfl,_,q2,p2,hc⟩:=Zl.cons_cell hc h1.cell.2
   obtain ⟨c3,ws,rfl,_,q3,p3,hc⟩:=Zl.cons_cell hc h2.cell.2
   cases hc
   refine .agg _ _ (.one _ _ _ _ rfl q1 (by rw [h0];exact p1) (.one _ _ _ _ rfl q2 (h1.rel p2) (.one _ _ _ _ rfl q3 (h2.rel p3) .nil)))
 simp_all
theorem Zv.conv {P:Program} {f:FuncId} {args args₀:List AV} {nx:Nat} {bs:List (Nat×Blk)} (h:Zv P f args₀ v nx bs) (hc:∀E r,Zs E args r->Zs E args₀ r):Zv P f args v nx bs:=
 fun E w rs he hr=>h E w rs he (hc E rs hr)
theorem Zs.head {v':AV} {r l:List AV} {rs:List Value} (h:Zs E (v::l) rs) (hv:∀c,Za E v c->Za E v' c) (ht:∀cs,Zs E l cs->Zs E r cs):Zs E (v'::r) rs:=by
 cases h with
 | cons v c vs cs h t=>exact .cons _ _ _ _ (hv c h) (ht cs t)
@[irreducible] def Yh (A:LI->Int×Int) (t:TxS):Bool:=
 decide (0<=t.num/\t.num<=2147483647)&&decide (1<=t.N/\t.N<=24)&&decide (1<=t.M/\t.M<=24)&& !((List.range t.N).any (Yt t.N t.ins))&& !((List.range t.M).any (Ya t.outs))&&((A (amL t.outs t.M)).2==0)
noncomputable def ZhI (A:LI->Int×Int):Zd:=((G0.withP 66 Zhh).withP 108 Zho).withP 76 (Z7q A)
theorem Ze1:(ZhI Yd).Ok:=Zd.withP_ok (Zd.withP_ok (Zd.withP_ok Zt ZdN) ZdR) Z3C
theorem ZiV (A:LI->Int×Int) (t:TxS) (F:Int) (ht:t.Ok) (hF:F=if Yh A t=true then 0 else 2):
  evF (ZhI A) 20 26 [.agg t.c] ⟨0,[]⟩ (Y8 0 [] (.int .i64 F) 0 []):=by
 refine @Eq.mpr _ (let a:=Z5 (2=F) True;let c:=t.N;let k:=(↑c:Int);let b:=t.M;let j:=(↑b:Int);let h:=Zg t.ins;let d:=c=c;let f:=b=b;let e:=b<900000000000;
 Z6 (decide (0<=t.num)) (Z6 (!decide (t.num<=2147483647)) a (Z6 (decide (1<=k)) (Z6 (!decide (k<=24)) a (Z6 (decide (1<=j)) (Z6 (!decide (j<=24)) a (∃(g:Nat->InS),
 let m:=h=Zg g;
 m/\
 m/\
 (d/\d/\d/\c<900000000000/\∀(i:Nat),i<c->InS.Ok (g i))/\
 Z6 (decide (Yg (Yt c g) c>=0)) a (∃(g:Nat->ZR),
 let l:=ZA t.outs;
 l=ZA g/\(f/\e/\∀(i:Nat),i<b->ZR.Ok (g i))/\Z6 (decide (Yg (Ya g) b>=0)) a (∃(g:Nat->InS),∃(g':Nat->ZR),h=Zg g/\l=ZA g'/\(d/\f/\e)/\Z6 ((A (amL g' b)).snd !=0) a (Z5 (0=F) True))))) a)) a)) a) (by kernel_rfl) ?_
 conv=>zeta
 try simp only [W4]
 try simp only [W5]
 try simp only [vcC]
 have h2:Yh A t=false->2=F:=fun h=>by rw [hF,h];rfl
 have h0:Yh A t=true->0=F:=fun h=>by rw [hF,h];rfl
 clear hF
 refine ⟨fun a1=>⟨fun a2=>h2 ?_,fun a2=>⟨fun a3=>⟨fun a4=>h2 ?_,fun a4=>⟨fun a5=>⟨fun a6=>h2 ?_,fun a6=> ?_⟩,fun a5=>h2 ?_⟩⟩,fun a3=>h2 ?_⟩⟩,fun a1=>h2 ?_⟩
 ·unfold Yh;rw [decide_eq_false (p:=0<=t.num/\_) (by simp at a2;omega)];simp
 ·unfold Yh;rw [decide_eq_false (p:=1<=t.N/\_) (by simp at a4;omega)];simp
 ·unfold Yh;rw [decide_eq_false (p:=1<=t.M/\_) (by simp at a6;omega)];simp
 ·refine ⟨t.ins,rfl,rfl,⟨ht.n,ht.ins⟩,fun b1=>h2 ?_,fun b1=>⟨t.outs,rfl,⟨ht.m,ht.outs⟩,fun b2=>h2 ?_,fun b2=>⟨t.ins,t.outs,rfl,rfl,ht.m,fun b3=>h2 ?_,fun b3=>h0 ?_⟩⟩⟩
  ·have:=Ve (Yt t.N t.ins) t.N
   rw [decide_eq_true b1] at this
   unfold Yh;rw [<-this];simp
  ·have:=Ve (Ya t.outs) t.M
   rw [decide_eq_true b2] at this
   unfold Yh;rw [<-this];simp
  ·unfold Yh;simp at b3;simp [b3]
  ·have e1:=Ve (Yt t.N t.ins) t.N
   rw [decide_eq_false b1] at e1
   have e2:=Ve (Ya t.outs) t.M
   rw [decide_eq_false b2] at e2
   unfold Yh
   rw [<-e1,<-e2]
   simp at a2 a4 a6 b3
   simp [b3]
   omega
 ·unfold Yh;rw [decide_eq_false (p:=1<=t.M/\_) (by omega)];simp
 ·unfold Yh;rw [decide_eq_false (p:=1<=t.N/\_) (by omega)];simp
 ·unfold Yh;rw [decide_eq_false (p:=0<=t.num/\_) (by omega)];simp
def ckS (A:LI->Int×Int):ZM:=fun args h K=>ZL none h true 20 args fun a=>match a with
 | [.agg l]=>∃t,Z0V l t/\t.Ok/\Z6 (Yh A t) (K (.int .i64 0)) (K (.int .i64 2))
 | _=>False
theorem Z7s (args:List AV) (h:Z8) (K:AV->Prop) (hl:ckS Yd args h K):Zf PP 26 args h fun o h'=>∃v,o=.ret v/\h'=h/\K v:=by
 refine Zv.psumm (d:=20) (Zi _ _ _ _ _ hl fun a ha=> ?_)
 split at ha
 ·obtain ⟨t,h1,h2,hK⟩:=ha
  refine ⟨_,(Zv.ev Ze1 (ZiV _ t _ h2 rfl)).conv fun E r hr=>hr.head (fun _ hc=>h1.rel hc) (fun _ hc=>hc),fun _=>rfl, ?_⟩
  rw [Z1c] at hK
  grind
 simp_all
end Go.Tk
end
section
namespace Go.Tk
open IntKind (i64 u8 u32 u64 wrap)
def Z5T (k:Nat) (τ:Ren) (y x:Nat):Ren:=match Nat.blt y k with
 | true=>τ
 | false=>match Z73 τ y with
  | some _=>τ
  | none=>(y,x)::τ
mutual
def Zg5 (k:Nat) (τ:Ren):AV->AV->Ren
 | .ptr (some q),v=>match v with|.ptr (some p)=>Z5T k τ q.blk p.blk|_=>τ
 | .nslice q _ _ _,v=>match v with|.nslice p _ _ _=>Z5T k τ q.blk p.blk|_=>τ
 | .map (some y),v=>match v with|.map (some x)=>Z5T k τ y x|_=>τ
 | .yield y,v=>match v with|.yield x=>Z5T k τ y x|_=>τ
 | .func _ fs cs,v=>match v with|.func _ fs' cs'=>Z0m k (Z0m k τ fs fs') cs cs'|_=>τ
 | .iface _ u,v=>match v with|.iface _ u'=>Zg5 k τ u u'|_=>τ
 | .agg cs,v=>match v with|.agg cs'=>Z0m k τ cs cs'|_=>τ
 | .tuple cs,v=>match v with|.tuple cs'=>Z0m k τ cs cs'|_=>τ
 | _,_=>τ
def Z0m (k:Nat) (τ:Ren):List AV->List AV->Ren
 | [],_=>τ
 | v::r,l=>match l with|v'::r'=>Z0m k (Zg5 k τ v v') r r'|[]=>τ
end
def ZiW (k:Nat) (τ:Ren):Blk->Blk->Ren
 | .flat cs,B=>match B with|.flat cs'=>Z0m k τ cs cs'|_=>τ
 | .map es,B=>match B with|.map es'=>Z0m k (Z0m k τ (es.map (·.1)) (es'.map (·.1))) (es.map (·.2)) (es'.map (·.2))|_=>τ
 | .pmap es,B=>match B with|.pmap es'=>Z0m k (Z0m k τ (es.map (·.1)) (es'.map (·.1))) (es.map (·.2)) (es'.map (·.2))|_=>τ
 | .git m y _,B=>match B with|.git m' y' _=>Z5T k (Z5T k τ m m') y y'|_=>τ
 | .froz C y,B=>match B with|.froz C' y'=>Z5T k (infZ C C') y y'|_=>τ
 | _,_=>τ
where infZ (C C':Blk):Ren:=match C with
 | .map es=>match C' with|.map es'=>Z0m k (Z0m k τ (es.map (·.1)) (es'.map (·.1))) (es.map (·.2)) (es'.map (·.2))|_=>τ
 | _=>τ
def ZhJ (k:Nat) (t:ZT):ZT->Ren->Ren
 | [],τ=>τ
 | (x,v)::r,τ=>ZhJ k t r (match ZE t x with|some u=>Zg5 k τ v u|none=>τ)
def Zg6 (k:Nat):List VL->List VL->Ren->Ren
 | .call _ a::r,l,τ=>match l with|.call _ b::r'=>Zg6 k r r' (Z0m k τ a b)|_=>τ
 | .mark y::r,l,τ=>match l with|.mark x::r'=>Zg6 k r r' (Z5T k τ y x)|_=>τ
 | [],_,τ=>τ
def Ze2 (k:Nat) (bs:List (Nat×Blk)):List (Nat×Blk)->Ren->Ren
 | [],τ=>τ
 | (y,B)::r,τ=>Ze2 k bs r (match rn k τ y with
  | some x=>match ZF bs x with|some C=>ZiW k τ B C|none=>τ
  | none=>τ)
def ZiX (k:Nat) (s₂ s:St):Ren:=Ze2 k s.h.bs s₂.h.bs (Ze2 k s.h.bs s₂.h.bs (Ze2 k s.h.bs s₂.h.bs (Zg6 k s₂.d s.d (ZhJ k s.t s₂.t []))))
def UI (k:Nat) (s₂ s:St) (Z:Prop):Prop:=ZO k (ZiX k s₂ s) s₂ s Z
theorem XM {k:Nat} {s₂ s:St} {Z:Prop} (hl:UI k s₂ s Z):Z/\Z5I k s s₂:=ZU hl
def YU (k:Nat) (o:Out) (nx:Nat) (bs:List (Nat×Blk)):KO:=fun o' h=>match o with
 | .ret v=>match o' with
  | .ret u=>UI k ⟨1,[(0,v)],⟨nx,bs⟩,[]⟩ ⟨1,[(0,u)],h,[]⟩ True
  | .panic _=>False
 | .panic v=>match o' with
  | .panic u=>UI k ⟨1,[(0,v)],⟨nx,bs⟩,[]⟩ ⟨1,[(0,u)],h,[]⟩ True
  | .ret _=>False
theorem Spec.evM {G:Zd} (hG:G.Ok) {n:Nat} {f:FuncId} {args:List AV} {h0:Z8} {o:Out} {nx:Nat} {bs:List (Nat×Blk)} (h:evF G n f args h0 (YU h0.next o nx bs)):Spec G.P f args h0 o nx bs:=by
 intro E w rs he hl
 refine (UY hG h E w rs he hl).mono ?_
 rintro e w' ⟨E',o',h',hK,hev,hor⟩
 unfold YU at hK
 cases o with
 | ret v=>
  cases hor with
  | ret u r hr=>
   obtain ⟨E₂,h1,h2⟩:=Z8o rfl hK he hev hr
   exact ⟨E₂,h1,.ret _ _ h2⟩
  | panic u r hr=>simp_all
 | panic v=>
  cases hor with
  | panic u r hr=>
   obtain ⟨E₂,h1,h2⟩:=Z8o rfl hK he hev hr
   exact ⟨E₂,h1,.panic _ _ h2⟩
  | ret u r hr=>simp_all
theorem Spec.pure {P:Program} {f:FuncId} {args:List AV} {v:AV} {nx:Nat} {bs:List (Nat×Blk)} (h:Spec P f args ⟨0,[]⟩ (.ret v) nx bs):Zv P f args v nx bs:=by
 intro E w rs he hl
 refine (h E w rs he hl).mono ?_
 rintro e w' ⟨E',hev,hor⟩
 cases hor with
 | ret v r hr=>grind
theorem Zv.evM {G:Zd} (hG:G.Ok) {n:Nat} {f:FuncId} {args:List AV} {v:AV} {nx:Nat} {bs:List (Nat×Blk)} (h:evF G n f args ⟨0,[]⟩ (YU 0 (.ret v) nx bs)):Zv G.P f args v nx bs:=(Spec.evM hG h).pure
def goM (k:Nat) (S0:St) (C:Prop) (ends:KE->Prop):Nat->St->KE->Prop:=fun k' s X=>match Nat.beq k' k with
 | true=>UI k S0 s (C/\ends X)
 | false=>False
def rdM (k id l:Nat) (S1 En Rn Jn:St) (go ex re jm:Prop):KE:=fun e s=>match e with
 | .normal=>UI k S1 s go
 | .exit x=>(match Nat.beq x id with|true=>UI k En s ex|false=>False)
 | .ret=>UI k Rn s re
 | .goto x=>(match Nat.beq x l with|true=>UI k Jn s jm|false=>False)
 | .panic _=>False
theorem Zd.withGoM {G:Zd} (hG:G.Ok) {f:FuncId} {id k N n l:Nat} {S En Rn Jn:Nat->St} {S0:St} {C:Prop} {go ex re jm:Nat->Prop} (h1:Wm G.P f id=true) (hC:C->S 0=S0/\
   ∀i,i<=n->(∀j,j<i->go j)->Zz G N f id k (S i) (rdM k id l (S (i+1)) (En i) (Rn i) (Jn i) (go i/\i<n) (ex i) (re i) (jm i))):
  (G.withL f id (goM k S0 C (Y9 id n l go ex re jm En Rn Jn))).Ok:=by
 refine Zd.withL_ok hG h1 ?_
 intro k' s X hl
 unfold goM at hl
 split at hl
 ·rename_i hk
  have:=J0 hk
  subst this
  obtain ⟨⟨hc,hX⟩,hw⟩:=XM hl
  obtain ⟨e0,hr⟩:=hC hc
  refine ⟨{ t:Nat//t<=n/\∀j,j<t->go j},fun t=>n-t.1,fun t=>S t.1,⟨0,JI _,fun j hj=>by omega⟩,N,by simp_all, ?_⟩
  rintro ⟨t,ht,hgo⟩
  refine ⟨_,hr t ht hgo, ?_⟩
  intro e s' hY
  unfold rdM at hY
  split at hY
  ·obtain ⟨⟨hg,hlt⟩,hw'⟩:=XM hY
   refine ⟨⟨t+1,hlt,fun j hj=> ?_⟩,by show n-(t+1)<n-t;omega,hw'⟩
   grind
  ·split at hY
   ·rename_i hi
    have:=J0 hi
    subst this
    obtain ⟨hex,hw'⟩:=XM hY
    exact ⟨_,hw',(hX t ht hgo).1 hex⟩
   simp_all
  ·obtain ⟨hre,hw'⟩:=XM hY
   exact ⟨_,hw',(hX t ht hgo).2.1 hre⟩
  ·split at hY
   ·rename_i hi
    have:=J0 hi
    subst this
    obtain ⟨hjm,hw'⟩:=XM hY
    exact ⟨_,hw',(hX t ht hgo).2.2 hjm⟩
   ·exact hY.elim
  ·exact hY.elim
 ·exact hl.elim
end Go.Tk
namespace Go.Tk
open IntKind (i64 u8 u32 u64 wrap)
theorem Zd.withL_join {G H:Zd} (hG:G.Ok) (hP:G.P=H.P) {f:FuncId} {id:Nat} {S:Nat->St->KE->Prop} (h:(H.withL f id S).Ok):(G.withL f id S).Ok where
 draw:=hG.draw
 psumm:=hG.psumm
 fsumm:=hG.fsumm
 lsumm:=fun f' id' S' fn c body hS hf hb hm k s X hs=>by
  simp only [Zd.withL] at hS
  split at hS
  ·have:=h.lsumm f' id' S' fn c body
   simp_all [Zd.withL]
  ·exact hG.lsumm f' id' S' fn c body hS hf hb hm k s X hs
end Go.Tk
end
section
namespace Go.Tk
open IntKind (i64 u8 u32 u64 wrap)
variable {args:List AV} {K R:AV->Prop}
def b8 (n k:Int):Int:=u8.wrap (Zm .i64 n k)
@[irreducible] def Zk (n:Int):LI:=
 if n<253 then [u8.wrap n] else if n<65536 then [253,b8 n 8,b8 n 0] else if n<4294967296 then [254,b8 n 24,b8 n 16,b8 n 8,b8 n 0]
 else [255,b8 n 56,b8 n 48,b8 n 40,b8 n 32,b8 n 24,b8 n 16,b8 n 8,b8 n 0]
theorem Zp (n:Int):1<=(Zk n).length/\(Zk n).length<=9:=by
 unfold Zk
 split
 ·simp
 ·split
  ·simp
  ·split<;>simp
theorem ZbM {n:Int} (h:n<253):Zk n=[u8.wrap n]:=by unfold Zk;rw [if_pos h]
theorem ZbN {n:Int} (h:¬n<253) (h2:n<65536):Zk n=[253,b8 n 8,b8 n 0]:=by unfold Zk;rw [if_neg h,if_pos h2]
theorem ZbO {n:Int} (h:¬n<253) (h2:¬n<65536) (h3:n<4294967296):Zk n=[254,b8 n 24,b8 n 16,b8 n 8,b8 n 0]:=by unfold Zk;rw [if_neg h,if_neg h2,if_pos h3]
theorem ZbP {n:Int} (h:¬n<253) (h2:¬n<65536) (h3:¬n<4294967296):Zk n=[255,b8 n 56,b8 n 48,b8 n 40,b8 n 32,b8 n 24,b8 n 16,b8 n 8,b8 n 0]:=by unfold Zk;rw [if_neg h,if_neg h2,if_neg h3]
theorem ZhK (xs ys:LI) (N L s lo:Nat) (n:Int) (hN:xs.length=N) (hB:N<90000000000000) (hy:ys=Zk n) (hL:L=(xs++ys).length):
  evF G0 20 83 [.nslice ⟨0,0,s,0,0⟩ 1 N lo,.int .i64 n] ⟨1,[(0,.ints .u8 xs)]⟩ (YU 1 (.ret (.nslice ⟨1,0,0,0,0⟩ 1 L L)) 2 [(1,.ints .u8 (xs++ys))]):=by
 refine @Eq.mpr _ (let b:=decide (u8=u8/\xs.length=N);let K:=xs++[wrap u8 n];let m:=K.length;let a:=xs++ys;let y:=xs++[(253:Int)];let e:=y.length;let d:=[wrap u8 (Zm i64 n 8)];let x:=y++d;let c:=x.length;let w:=[wrap u8 (Zm i64 n 0)];let S:=x++w;let v:=S.length;let R:=xs++[(254:Int)];let u:=R.length;let Q:=[wrap u8 (Zm i64 n 24)];let P:=R++Q;let t:=P.length;let O:=[wrap u8 (Zm i64 n 16)];let M:=P++O;let s:=M.length;let J:=M++d;let r:=J.length;let I:=J++w;let q:=I.length;let H:=xs++[(255:Int)];let p:=H.length;let G:=H++[wrap u8 (Zm i64 n 56)];let o:=G.length;let F:=G++[wrap u8 (Zm i64 n 48)];let l:=F.length;let E:=F++[wrap u8 (Zm i64 n 40)];let k:=E.length;let D:=E++[wrap u8 (Zm i64 n 32)];let j:=D.length;let C:=D++Q;let i:=C.length;let B:=C++O;let h:=B.length;let A:=B++d;let g:=A.length;let z:=A++w;let f:=z.length;
 Z6 (decide (n<253)) (Z0 b (Z5 (m*1<=140737488355328) (Z5 (m=L) (Z5 (L<=m) (K=a/\True))))) (Z6 (decide (n<65536)) (Z0 b (Z5 (e*1<=140737488355328) (Z5 (u8=u8/\e=e) (Z5 (c*1<=140737488355328) (Z5 (u8=u8/\c=c) (Z5 (v*1<=140737488355328) (Z5 (v=L) (Z5 (L<=v) (S=a/\True))))))))) (Z6 (decide (n<4294967296)) (Z0 b (Z5 (u*1<=140737488355328) (Z5 (u8=u8/\u=u) (Z5 (t*1<=140737488355328) (Z5 (u8=u8/\t=t) (Z5 (s*1<=140737488355328) (Z5 (u8=u8/\s=s) (Z5 (r*1<=140737488355328) (Z5 (u8=u8/\r=r) (Z5 (q*1<=140737488355328) (Z5 (q=L) (Z5 (L<=q) (I=a/\True))))))))))))) (Z0 b (Z5 (p*1<=140737488355328) (Z5 (u8=u8/\p=p) (Z5 (o*1<=140737488355328) (Z5 (u8=u8/\o=o) (Z5 (l*1<=140737488355328) (Z5 (u8=u8/\l=l) (Z5 (k*1<=140737488355328) (Z5 (u8=u8/\k=k) (Z5 (j*1<=140737488355328) (Z5 (u8=u8/\j=j) (Z5 (i*1<=140737488355328) (Z5 (u8=u8/\i=i) (Z5 (h*1<=140737488355328) (Z5 (u8=u8/\h=h) (Z5 (g*1<=140737488355328) (Z5 (u8=u8/\g=g) (Z5 (f*1<=140737488355328) (Z5 (f=L) (Z5 (L<=f) (z=a/\True)))))))))))))))))))))))) (by kernel_rfl) ?_
 conv=>zeta
 try simp only [W4]
 try simp only [W5]
 try simp only [vcC]
 subst hy hL hN
 refine ⟨fun h1=> ?_,fun h1=>⟨fun h2=> ?_,fun h2=>⟨fun h3=> ?_,fun h3=> ?_⟩⟩⟩
 ·rw [ZbM h1]
  simp only [J5,Jh,JD]
  and_intros<;>first|trivial|omega
 ·rw [ZbN h1 h2]
  simp only [J5,Jh,JD]
  and_intros<;>first|trivial|omega|simp [b8]
 ·rw [ZbO h1 h2 h3]
  simp only [J5,Jh,JD]
  and_intros<;>first|trivial|omega|simp [b8]
 ·rw [ZbP h1 h2 h3]
  simp only [J5,Jh,JD]
  and_intros<;>first|trivial|omega|simp [b8]
theorem ZhL (ys:LI) (L:Nat) (n:Int) (hy:ys=Zk n) (hL:L=ys.length):
  evF G0 20 83 [.nilslice,.int .i64 n] ⟨0,[]⟩ (YU 0 (.ret (.nslice ⟨0,0,0,0,0⟩ 1 L L)) 1 [(0,.ints .u8 ys)]):=by
 refine @Eq.mpr _ (let b:=[wrap u8 (Zm i64 n 8),wrap u8 (Zm i64 n 0)];let a:=wrap u8 (Zm i64 n 24)::wrap u8 (Zm i64 n 16)::b;
 Z6 (decide (n<253)) (Z5 (1=L) (Z5 (L<=1) ([wrap u8 n]=ys/\True))) (Z6 (decide (n<65536)) (Z5 (3=L) (Z5 (L<=3) ((253:Int)::b=ys/\True))) (Z6 (decide (n<4294967296)) (Z5 (5=L) (Z5 (L<=5) ((254:Int)::a=ys/\True))) (Z5 (9=L) (Z5 (L<=9) ((255:Int)::wrap u8 (Zm i64 n 56)::wrap u8 (Zm i64 n 48)::wrap u8 (Zm i64 n 40)::wrap u8 (Zm i64 n 32)::a=ys/\True)))))) (by kernel_rfl) ?_
 conv=>zeta
 try simp only [W4]
 try simp only [W5]
 try simp only [vcC]
 subst hy hL
 refine ⟨fun h1=> ?_,fun h1=>⟨fun h2=> ?_,fun h2=>⟨fun h3=> ?_,fun h3=> ?_⟩⟩⟩
 ·rw [ZbM h1];simp
 ·rw [ZbN h1 h2];simp [b8]
 ·rw [ZbO h1 h2 h3];simp [b8]
 ·rw [ZbP h1 h2 h3];simp [b8]
def Zg7 (W:Int->LI):YA:=fun args h K=>match args with
 | [.nslice ⟨b,0,_,0,0⟩ 1 _ _,.int .i64 _]=>frA [b] h 20 args fun Bs a=>match Bs,a with
  | [.ints .u8 xs],[.nslice ⟨0,0,_,0,0⟩ 1 len _,.int .i64 n]=>Z5 (xs.length=len/\len<90000000000000) (K (.ret (.nslice ⟨h.next,0,0,0,0⟩ 1 (xs++W n).length (xs++W n).length)) ⟨h.next+1,(h.next,.ints .u8 (xs++W n))::WM h.bs b⟩)
  | _,_=>False
 | [.nilslice,.int .i64 n]=>K (.ret (.nslice ⟨h.next,0,0,0,0⟩ 1 (W n).length (W n).length)) ⟨h.next+1,(h.next,.ints .u8 (W n))::h.bs⟩
 | _=>False
theorem Ze3 (args:List AV) (h:Z8) (K:KO) (hl:Zg7 Zk args h K):Zf PP 83 args h K:=by
 unfold Zg7 at hl
 split at hl
 ·refine Spec.fsumm hl fun Bs a hlen hK0=> ?_
  split at hK0
  ·obtain ⟨⟨h1,h2⟩,hK⟩:=Zc hK0
   exact ⟨_,_,_,_,_,.evM Zt (ZhK _ _ _ _ _ _ _ h1 h2 rfl rfl),by simp,.ret _ _ rfl,.cons _ _ _ _ _ _ rfl (.ints _ _) .nil,hK⟩
  simp_all
 ·exact (Zv.evM Zt (ZhL _ _ _ rfl rfl)).calls (fun E w rs he hr=>by
   cases hr with
   | cons v r vs rs h1 h2=>cases h2 with
    | cons v r vs rs h2 h3=>cases h3;exact .cons _ _ _ _ (h1.plain rfl) (.cons _ _ _ _ (h2.plain rfl) .nil)) rfl ⟨Jx,.ints _ _,trivial⟩ hl
 simp_all
theorem ZbQ (x:Int) (xs:LI) (N:Nat) (hN:(x::xs).length=N) (hB:N<90000000000000):
  evF G0 20 86 [.vints .u8 (x::xs) N] ⟨0,[]⟩ (YU 0 (.ret (.nslice ⟨0,0,0,0,0⟩ 1 N N)) 1 [(0,.ints .u8 (x::xs))]):=by
 refine @Eq.mpr _ (let b:=[]++List.take N (x::xs);let a:=b.length;
 Z5 (a*1<=140737488355328) (Z5 (a=N) (Z5 (N<=a) (b=x::xs/\True)))) (by kernel_rfl) ?_
 conv=>zeta
 try simp only [vcA]
 try simp only [vcB]
 try simp only [vcC]
 subst hN
 simp only [JE,Js]
 and_intros<;>first|trivial|omega
theorem ZbR (u:Unit) :
  evF G0 20 86 [.nilslice] ⟨0,[]⟩ (YU 0 (.ret (.nslice ⟨0,0,0,0,0⟩ 1 0 0)) 1 [(0,.ints .u8 [])]):=by
 refine @Eq.mpr _ (([]:LI)=[]/\True) (by kernel_rfl) ?_
 trivial
theorem ZbS (u:Unit) :
  evF G0 20 86 [.fslice] ⟨0,[]⟩ (YU 0 (.ret (.nslice ⟨0,0,0,0,0⟩ 1 0 0)) 1 [(0,.ints .u8 [])]):=by
 refine @Eq.mpr _ (([]:LI)=[]/\True) (by kernel_rfl) ?_
 trivial
theorem Z5U (xs:LI) (N:Nat) (hN:xs.length=N) (hB:N<90000000000000):Zv PP 86 [.vints .u8 xs N] (.nslice ⟨0,0,0,0,0⟩ 1 N N) 1 [(0,.ints .u8 xs)]:=by
 cases xs with
 | nil=>subst hN;exact Zv.vints0 (.evM Zt (ZbR ())) (.evM Zt (ZbS ()))
 | cons x r=>exact .evM Zt (ZbQ x r N hN hB)
def Z4L:YA:=fun args h K=>ZL none h true 20 args fun a=>match a with
 | [.vints .u8 xs n]=>Z5 (xs.length=n/\n<90000000000000) (K (.ret (.nslice ⟨h.next,0,0,0,0⟩ 1 n n)) ⟨h.next+1,(h.next,.ints .u8 xs)::h.bs⟩)
 | _=>False
theorem Qf (args:List AV) (h:Z8) (K:KO) (hl:Z4L args h K):Zf PP 86 args h K:=by
 refine Zv.fsumm (d:=20) (Zi _ _ _ _ _ hl fun a ha=> ?_)
 split at ha
 ·obtain ⟨⟨h1,h2⟩,hK⟩:=Zc ha
  exact ⟨_,_,_,_,Z5U _ _ h1 h2,rfl,⟨Jx,.ints _ _,trivial⟩,hK⟩
 simp_all
theorem Spec.conv {P:Program} {f:FuncId} {args₀:List AV} {h0:Z8} {o:Out} {nx:Nat} {bs:List (Nat×Blk)} (h:Spec P f args₀ h0 o nx bs) (hc:∀E r,Zs E args r->Zs E args₀ r):Spec P f args h0 o nx bs:=
 fun E w rs he hr=>h E w rs he (hc E rs hr)
noncomputable def Ze4 (W:Int->LI):Zd:=G0.withF 83 (Zg7 W)
theorem Z4M:(Ze4 Zk).Ok:=Zd.withF_ok Zt Ze3
theorem Zg8 (W:Int->LI) (T:Int) (xs ys:LI) (N L lo:Nat) (n:Int) (hT:T=4611686018427387904) (hN:xs.length=N) (hB:N<90000000000000) (hn:0<=n/\n<=T) (hy:ys=xs++W n) (hL:L=ys.length):
  evF (Ze4 W) 20 33 [.ptr (some ⟨0,0,0,0,0⟩),.vints .i64 [n] 1] ⟨2,[(0,.flat [.nslice ⟨1,0,0,0,0⟩ 1 N lo,.bool true]),(1,.ints .u8 xs)]⟩ (YU 2 (.ret (.int .i64 0)) 3 [(0,.flat [.nslice ⟨2,0,0,0,0⟩ 1 L L,.bool true]),(2,.ints .u8 ys)]):=by
 refine @Eq.mpr _ (let b:=xs++W n;let a:=b.length;
 Z6 (decide (n<0)) False (Z6 (decide (n>4611686018427387904)) False (Z5 (xs.length=N/\N<90000000000000) (Z5 (a=L) (Z5 (L<=a) (b=ys/\True)))))) (by kernel_rfl) ?_
 conv=>zeta
 try simp only [vcA]
 try simp only [vcB]
 try simp only [vcC]
 subst hT hN hy hL
 exact ⟨by omega,by omega,⟨rfl,hB⟩,rfl,J2 _,rfl⟩
theorem Zg9 (W:Int->LI) (T:Int) (xs ys:LI) (N L lo:Nat) (n m:Int) (hT:T=4611686018427387904) (hW:W=Zk) (hN:xs.length=N) (hB:N<80000000000000) (hn:0<=n/\n<=T) (hm:0<=m/\m<=T) (hy:ys=xs++W n++W m) (hL:L=ys.length):
  evF (Ze4 W) 20 33 [.ptr (some ⟨0,0,0,0,0⟩),.vints .i64 [n,m] 2] ⟨2,[(0,.flat [.nslice ⟨1,0,0,0,0⟩ 1 N lo,.bool true]),(1,.ints .u8 xs)]⟩ (YU 2 (.ret (.int .i64 0)) 3 [(0,.flat [.nslice ⟨2,0,0,0,0⟩ 1 L L,.bool true]),(2,.ints .u8 ys)]):=by
 refine @Eq.mpr _ (let d:=xs++W n;let a:=d.length;let c:=d++W m;let b:=c.length;
 Z6 (decide (n<0)) False (Z6 (decide (n>4611686018427387904)) False (Z6 (decide (m<0)) False (Z6 (decide (m>4611686018427387904)) False (Z5 (xs.length=N/\N<90000000000000) (Z5 (a=a/\a<90000000000000) (Z5 (b=L) (Z5 (L<=b) (c=ys/\True))))))))) (by kernel_rfl) ?_
 conv=>zeta
 try simp only [vcA]
 try simp only [vcB]
 try simp only [vcC]
 subst hT hN hy hL hW
 have:=Zp n
 refine ⟨by omega,by omega,by omega,by omega,⟨rfl,by omega⟩, ?_⟩
 simp only [J5]
 and_intros<;>first|trivial|omega
theorem Zga (W:Int->LI) (T:Int) (ys:LI) (L:Nat) (n m:Int) (hT:T=4611686018427387904) (hW:W=Zk) (hn:0<=n/\n<=T) (hm:0<=m/\m<=T) (hy:ys=W n++W m) (hL:L=ys.length):
  evF (Ze4 W) 20 33 [.ptr (some ⟨0,0,0,0,0⟩),.vints .i64 [n,m] 2] ⟨1,[(0,.flat [.nilslice,.bool true])]⟩ (YU 1 (.ret (.int .i64 0)) 2 [(0,.flat [.nslice ⟨1,0,0,0,0⟩ 1 L L,.bool true]),(1,.ints .u8 ys)]):=by
 refine @Eq.mpr _ (let a:=List.length (W n);let c:=W n++W m;let b:=c.length;
 Z6 (decide (n<0)) False (Z6 (decide (n>4611686018427387904)) False (Z6 (decide (m<0)) False (Z6 (decide (m>4611686018427387904)) False (Z5 (a=a/\a<90000000000000) (Z5 (b=L) (Z5 (L<=b) (c=ys/\True)))))))) (by kernel_rfl) ?_
 conv=>zeta
 try simp only [vcA]
 try simp only [vcB]
 try simp only [vcC]
 subst hT hy hL hW
 have:=Zp n
 refine ⟨by omega,by omega,by omega,by omega, ?_⟩
 simp only [J5]
 and_intros<;>first|trivial|omega
theorem Ze5 (xs hh ys:LI) (N L lo:Nat) (hN:xs.length=N) (hB:N<90000000000000) (hq:hh.length=32) (hy:ys=xs++hh) (hL:L=ys.length):
  evF G0 20 32 [.ptr (some ⟨0,0,0,0,0⟩),.vrows 32 1 (fun _=>[.arr .u8 32 hh]) 1] ⟨2,[(0,.flat [.nslice ⟨1,0,0,0,0⟩ 1 N lo,.bool true]),(1,.ints .u8 xs)]⟩ (YU 2 (.ret (.int .i64 0)) 3 [(0,.flat [.nslice ⟨2,0,0,0,0⟩ 1 L L,.bool true]),(2,.ints .u8 ys)]):=by
 refine @Eq.mpr _ (let b:=xs++hh;let a:=b.length;
 Z5 (u8=u8/\hh.length=32) (Z5 (u8=u8/\xs.length=N) (Z5 (a*1<=140737488355328) (Z5 (a=L) (Z5 (L<=a) (b=ys/\True)))))) (by kernel_rfl) ?_
 conv=>zeta
 try simp only [vcA]
 try simp only [vcB]
 try simp only [vcC]
 subst hN hy hL
 refine ⟨hq,rfl, ?_⟩
 simp only [J5]
 and_intros<;>first|trivial|omega
def Z8s (W:Int->LI) (T:Int):YA:=fun args h K=>match args with
 | [.ptr (some ⟨w,0,0,0,0⟩),_]=>match h.get w with
  |some (.flat [.nslice ⟨b,0,0,0,0⟩ 1 _ _,.bool true])=>frA [w,b] h 20 args fun Bs a=>match Bs,a with
   | [.flat [.nslice ⟨1,0,0,0,0⟩ 1 N _,.bool true],.ints .u8 xs],[.ptr (some ⟨0,0,0,0,0⟩),.vints .i64 [n] 1]=>
    Z5 (xs.length=N/\N<80000000000000/\0<=n/\n<=T) (K (.ret (.int .i64 0)) ⟨h.next+1,(w,.flat [.nslice ⟨h.next,0,0,0,0⟩ 1 (xs++W n).length (xs++W n).length,.bool true])::(h.next,.ints .u8 (xs++W n))::WM (WM h.bs w) b⟩)
   | [.flat [.nslice ⟨1,0,0,0,0⟩ 1 N _,.bool true],.ints .u8 xs],[.ptr (some ⟨0,0,0,0,0⟩),.vints .i64 [n,m] 2]=>
    Z5 (xs.length=N/\N<80000000000000/\(0<=n/\n<=T)/\0<=m/\m<=T) (K (.ret (.int .i64 0)) ⟨h.next+1,(w,.flat [.nslice ⟨h.next,0,0,0,0⟩ 1 (xs++W n++W m).length (xs++W n++W m).length,.bool true])::(h.next,.ints .u8 (xs++W n++W m))::WM (WM h.bs w) b⟩)
   | _,_=>False
  | some (.flat [.nilslice,.bool true])=>frA [w] h 20 args fun Bs a=>match Bs,a with
   | [.flat [.nilslice,.bool true]],[.ptr (some ⟨0,0,0,0,0⟩),.vints .i64 [n,m] 2]=>
    Z5 ((0<=n/\n<=T)/\0<=m/\m<=T) (K (.ret (.int .i64 0)) ⟨h.next+1,(w,.flat [.nslice ⟨h.next,0,0,0,0⟩ 1 (W n++W m).length (W n++W m).length,.bool true])::(h.next,.ints .u8 (W n++W m))::WM h.bs w⟩)
   | _,_=>False
  | _=>False
 | _=>False
theorem Z2p (args:List AV) (h:Z8) (K:KO) (hl:Z8s Zk 4611686018427387904 args h K):Zf PP 33 args h K:=by
 unfold Z8s at hl
 split at hl
 ·split at hl
  ·refine Spec.fsumm hl fun Bs a hlen hK0=> ?_
   split at hK0
   ·obtain ⟨⟨h1,h2,h3⟩,hK⟩:=Zc hK0
    exact ⟨_,_,_,_,_,.evM Z4M (Zg8 _ _ _ _ _ _ _ _ rfl h1 (by omega) h3 rfl rfl),by simp,.ret _ _ rfl,.cons _ _ _ _ _ _ rfl (.flat _ _ rfl) (.cons _ _ _ _ _ _ rfl (.ints _ _) .nil),hK⟩
   ·obtain ⟨⟨h1,h2,h3,h4⟩,hK⟩:=Zc hK0
    exact ⟨_,_,_,_,_,.evM Z4M (Zg9 _ _ _ _ _ _ _ _ _ rfl rfl h1 h2 h3 h4 rfl rfl),by simp,.ret _ _ rfl,.cons _ _ _ _ _ _ rfl (.flat _ _ rfl) (.cons _ _ _ _ _ _ rfl (.ints _ _) .nil),hK⟩
   simp_all
  ·refine Spec.fsumm hl fun Bs a hlen hK0=> ?_
   split at hK0
   ·obtain ⟨⟨h3,h4⟩,hK⟩:=Zc hK0
    exact ⟨_,_,_,_,_,.evM Z4M (Zga _ _ _ _ _ _ rfl rfl h3 h4 rfl rfl),by simp,.ret _ _ rfl,.cons _ _ _ _ _ _ rfl (.flat _ _ rfl) (.cons _ _ _ _ _ _ rfl (.ints _ _) .nil),hK⟩
   simp_all
  simp_all
 simp_all
def Z4N:YA:=fun args h K=>match args with
 | [.ptr (some ⟨w,0,0,0,0⟩),_]=>match h.get w with
  |some (.flat [.nslice ⟨b,0,0,0,0⟩ 1 _ _,.bool true])=>frA [w,b] h 20 args fun Bs a=>match Bs,a with
   | [.flat [.nslice ⟨1,0,0,0,0⟩ 1 N _,.bool true],.ints .u8 xs],[.ptr (some ⟨0,0,0,0,0⟩),.vrows 32 1 f 1]=>match f 0 with
    | [.arr .u8 32 hh]=>Z5 (xs.length=N/\N<80000000000000/\hh.length=32) (K (.ret (.int .i64 0)) ⟨h.next+1,(w,.flat [.nslice ⟨h.next,0,0,0,0⟩ 1 (xs++hh).length (xs++hh).length,.bool true])::(h.next,.ints .u8 (xs++hh))::WM (WM h.bs w) b⟩)
    | _=>False
   | _,_=>False
  | _=>False
 | _=>False
theorem Z3D (args:List AV) (h:Z8) (K:KO) (hl:Z4N args h K):Zf PP 32 args h K:=by
 unfold Z4N at hl
 split at hl
 ·split at hl
  ·refine Spec.fsumm hl fun Bs a hlen hK0=> ?_
   split at hK0
   ·split at hK0
    case h_2=>simp_all
    rename_i hh hf
    obtain ⟨⟨h1,h2,h3⟩,hK⟩:=Zc hK0
    refine ⟨_,_,_,_,_,(Spec.evM Zt (Ze5 _ hh _ _ _ _ h1 (by omega) h3 rfl rfl)).conv fun E r hr=>hr.head (fun _ hc=>hc) fun _ hc=>hc.head (fun _ hc=>hc.rowsC ?_) fun _ hc=>hc,by simp,.ret _ _ rfl,.cons _ _ _ _ _ _ rfl (.flat _ _ rfl) (.cons _ _ _ _ _ _ rfl (.ints _ _) .nil),hK⟩
    simp_all
   simp_all
  simp_all
 simp_all
theorem WG {x:InS} (h:ZY x=true):(1<=x.way/\x.way<=6)/\0<=x.index/\x.index<=23:=by
 simp_all [ZY]
noncomputable def Z7t (W:Int->LI) (T:Int):Zd:=(G0.withF 33 (Z8s W T)).withF 32 Z4N
theorem Z8t:(Z7t Zk 4611686018427387904).Ok:=Zd.withF_ok (Zd.withF_ok Zt Z2p) Z3D
def inW (W:Int->LI) (core:Bool) (x:InS):LI:=x.name++W x.index++(match core with
 | true=>[]
 | false=>W x.way++((if x.way=4 then [] else x.tag)++(if x.way=1 then x.also else [])++(if x.way=4\/x.way=5 then x.secret else [])))
def Z2q (W:Int->LI) (o:ZR):LI:=W o.kind++W o.amount++o.owner++(if o.kind=2\/o.kind=4\/o.kind=5 then o.other else [])++(if 3<=o.kind then o.point else [])++(if 4<=o.kind then o.hash else [])
 ++(if 3<=o.kind then W o.delay else [])++(if 4<=o.kind then W o.expiry else [])
def Z9O (t:TxS) (core:Bool) (i:Nat) (xs:LI) (n:Nat):St:=⟨120,[(26,.int .i64 i),(25,.int .i64 t.N),(2,.ptr (some ⟨0,0,0,0,0⟩)),(5,.ptr (some ⟨1,0,0,0,0⟩)),(1,.bool core)],⟨3,[(0,.flat t.c),(1,.flat [.nslice ⟨2,0,0,0,0⟩ 1 n n,.bool true]),(2,.ints .u8 xs)]⟩,[]⟩
def VA (t:TxS) (xs:LI) (n:Nat):St:=⟨120,[(2,.ptr (some ⟨0,0,0,0,0⟩)),(5,.ptr (some ⟨1,0,0,0,0⟩))],⟨3,[(0,.flat t.c),(1,.flat [.nslice ⟨2,0,0,0,0⟩ 1 n n,.bool true]),(2,.ints .u8 xs)]⟩,[]⟩
theorem Zgb (W:Int->LI) (T:Int) (t:TxS) (i:Nat) (xs ys:LI) (n m:Nat) (Z1 Z2:Prop) (hT:T=4611686018427387904) (ht:t.Ok) (hi:i<=t.N) (hr:∀j,j<t.N->ZY (t.ins j)=true) (hW:W=Zk) (hn:xs.length=n) (hs:n<10000000000000) (hy:ys=xs++inW W true (t.ins i)) (hm:ys.length=m) (h1:i<t.N->Z1) (h2:i=t.N->Z2):
  Zz (Z7t W T) 20 84 0 0 (Z9O t true i xs n) (rdM 0 0 9 (Z9O t true (i+1) ys m) (VA t xs n) (VA t xs n) (VA t xs n) Z1 Z2 False False):=by
 refine @Eq.mpr _ (let f:=t.N;let b:=(↑f:Int);let k:=t.ins (Int.toNat (↑i:Int));let j:=k.name;let h:=xs++j;let e:=h.length;let d:=k.index;let g:=decide (t.num=t.num);let a:=decide (f=f);let s:=Zg t.ins;let r:=s=s;let c:=decide (t.M=t.M);let q:=ZA t.outs;let p:=q=q;let o:=h++W d;let l:=o.length;
 Z6 (decide ((↑i:Int)<b)) (Z5 (0<=(↑i:Int)/\(↑i:Int)<b) (Z5 (xs.length=n/\n<80000000000000/\j.length=32) (Z5 (e=e/\e<80000000000000/\0<=d/\d<=T) (Z5 (wrap i64 ((↑i:Int)+1)=(↑(i+1):Int)) (Z5 (b=b) (Z0 g (Z0 a (r/\Z0 a (Z0 c (p/\Z0 c (Z5 (l=m) (Z5 (m<=l) (o=ys/\Z1))))))))))))) (Z0 g (Z0 a (r/\Z0 a (Z0 c (p/\Z0 c (Z5 (n=n) (Z5 (n<=n) (xs=xs/\Z2))))))))) (by kernel_rfl) ?_
 conv=>zeta
 try simp only [vcA]
 try simp only [vcB]
 try simp only [vcC]
 refine ⟨fun hlt=> ?_,fun hge=>h2 (by omega)⟩
 obtain ⟨⟨w1,w2⟩,w3,w4⟩:=WG (hr i (by omega))
 obtain ⟨l1,l2,l3,l4⟩:=ht.ins i (by omega)
 have hw:=h1 (by omega)
 have hnn:=ht.n
 have hwr:i64.wrap ((i:Int)+1)=((i+1:Nat):Int):=w64 (by omega)
 have u1:=Zp (t.ins i).index
 have u2:=Zp (t.ins i).way
 subst hW hT
 rw [hwr]
 unfold inW at hy
 generalize t.ins i=x at*
 simp only [J5]
 repeat' (first|(refine Ju ?_ ?_)|intro _)
 all_goals first|omega|assumption|trivial|skip
 all_goals first|(rw [hy];simp [*];done)|(rw [<-hm,hy];simp [*];try omega;done)|skip
theorem Zgc (W:Int->LI) (T:Int) (t:TxS) (i:Nat) (xs ys:LI) (n m:Nat) (Z1 Z2:Prop) (hT:T=4611686018427387904) (ht:t.Ok) (hi:i<=t.N) (hr:∀j,j<t.N->ZY (t.ins j)=true) (hW:W=Zk) (hn:xs.length=n) (hs:n<10000000000000) (hy:ys=xs++inW W false (t.ins i)) (hm:ys.length=m) (h1:i<t.N->Z1) (h2:i=t.N->Z2):
  Zz (Z7t W T) 20 84 0 0 (Z9O t false i xs n) (rdM 0 0 9 (Z9O t false (i+1) ys m) (VA t xs n) (VA t xs n) (VA t xs n) Z1 Z2 False False):=by
 refine @Eq.mpr _ (let y:=t.N;let p:=(↑y:Int);let f:=t.ins (Int.toNat (↑i:Int));let B:=f.name;let A:=xs++B;let v:=A.length;let u:=f.index;let z:=A++W u;let s:=z.length;let c:=f.way;let r:=z++W c;let e:=r.length;let L:=f.tag;let x:=decide (e=e/\e<80000000000000/\L.length=32);let q:=r++L;let d:=q.length;let K:=f.also;let l:=decide (wrap i64 ((↑i:Int)+1)=(↑(i+1):Int));let k:=decide (p=p);let j:=decide (t.num=t.num);let b:=decide (y=y);let J:=Zg t.ins;let h:=J=J;let a:=decide (t.M=t.M);let I:=ZA t.outs;let g:=I=I;let H:=q++K;let G:=H.length;let w:=Z0 x (Z0 l (Z0 k (Z0 j (Z0 b (h/\Z0 b (Z0 a (g/\Z0 a (Z5 (d=m) (Z5 (m<=d) (q=ys/\Z1))))))))));let o:=f.secret;let F:=r++o;let E:=F.length;let D:=q++o;let C:=D.length;
 Z6 (decide ((↑i:Int)<p)) (Z5 (0<=(↑i:Int)/\(↑i:Int)<p) (Z5 (xs.length=n/\n<80000000000000/\B.length=32) (Z5 (v=v/\v<80000000000000/\0<=u/\u<=T) (Z5 (s=s/\s<80000000000000/\0<=c/\c<=T) (Z5 (c=c) (Z6 (decide (c=1)) (Z0 x (Z5 (d=d/\d<80000000000000/\K.length=32) (Z0 l (Z0 k (Z0 j (Z0 b (h/\Z0 b (Z0 a (g/\Z0 a (Z5 (G=m) (Z5 (m<=G) (H=ys/\Z1)))))))))))) (Z6 (decide (c=2)) w (Z6 (decide (c=3)) w (Z6 (decide (c=4)) (Z5 (e=e/\e<80000000000000/\o.length=32) (Z0 l (Z0 k (Z0 j (Z0 b (h/\Z0 b (Z0 a (g/\Z0 a (Z5 (E=m) (Z5 (m<=E) (F=ys/\Z1))))))))))) (Z6 (decide (c=5)) (Z0 x (Z5 (d=d/\d<80000000000000/\o.length=32) (Z0 l (Z0 k (Z0 j (Z0 b (h/\Z0 b (Z0 a (g/\Z0 a (Z5 (C=m) (Z5 (m<=C) (D=ys/\Z1)))))))))))) (Z6 (decide (c=6)) w (Z0 l (Z0 k (Z0 j (Z0 b (h/\Z0 b (Z0 a (g/\Z0 a (Z5 (e=m) (Z5 (m<=e) (r=ys/\Z1))))))))))))))))))))) (Z0 j (Z0 b (h/\Z0 b (Z0 a (g/\Z0 a (Z5 (n=n) (Z5 (n<=n) (xs=xs/\Z2))))))))) (by kernel_rfl) ?_
 conv=>zeta
 try simp only [vcA]
 try simp only [vcB]
 try simp only [vcC]
 refine ⟨fun hlt=> ?_,fun hge=>h2 (by omega)⟩
 obtain ⟨⟨w1,w2⟩,w3,w4⟩:=WG (hr i (by omega))
 obtain ⟨l1,l2,l3,l4⟩:=ht.ins i (by omega)
 have hw:=h1 (by omega)
 have hnn:=ht.n
 have hwr:i64.wrap ((i:Int)+1)=((i+1:Nat):Int):=w64 (by omega)
 have u1:=Zp (t.ins i).index
 have u2:=Zp (t.ins i).way
 subst hW hT
 rw [hwr]
 unfold inW at hy
 generalize t.ins i=x at*
 simp only [J5]
 repeat' (first|(refine Ju ?_ ?_)|intro _)
 all_goals first|omega|assumption|trivial|skip
 all_goals first|(rw [hy];simp [*];done)|(rw [<-hm,hy];simp [*];try omega;done)|skip
theorem Yj {o:ZR} (h:Zu o=true):(1<=o.kind/\o.kind<=5)/\(0<o.amount/\o.amount<=1125899906842624)/\(0<=o.delay/\o.delay<=2147483647)/\0<=o.expiry/\o.expiry<=2147483647:=by
 simp_all [Zu]
def Z5V (t:TxS) (i:Nat) (xs:LI) (n:Nat):St:=⟨120,[(82,.int .i64 i),(81,.int .i64 t.M),(2,.ptr (some ⟨0,0,0,0,0⟩)),(5,.ptr (some ⟨1,0,0,0,0⟩))],⟨3,[(0,.flat t.c),(1,.flat [.nslice ⟨2,0,0,0,0⟩ 1 n n,.bool true]),(2,.ints .u8 xs)]⟩,[]⟩
theorem Zgd (W:Int->LI) (T:Int) (t:TxS) (i:Nat) (xs ys:LI) (n m:Nat) (Z1 Z2:Prop) (hT:T=4611686018427387904) (ht:t.Ok) (hi:i<=t.M) (hr:∀j,j<t.M->Zu (t.outs j)=true) (hW:W=Zk) (hn:xs.length=n) (hs:n<10000000000000) (hy:ys=xs++Z2q W (t.outs i)) (hm:ys.length=m) (h1:i<t.M->Z1) (h2:i=t.M->Z2):
  Zz (Z7t W T) 20 84 4 0 (Z5V t i xs n) (rdM 0 4 9 (Z5V t (i+1) ys m) (VA t xs n) (VA t xs n) (VA t xs n) Z1 Z2 False False):=by
 refine @Eq.mpr _ (let D:=t.M;let s:=(↑D:Int);let d:=t.outs (Int.toNat (↑i:Int));let c:=d.kind;let w:=d.amount;let v:=xs++W c++W w;let j:=v.length;let E:=d.owner;let q:=decide (j=j/\j<80000000000000/\E.length=32);let p:=decide (wrap i64 ((↑i:Int)+1)=(↑(i+1):Int));let o:=decide (s=s);let h:=decide (t.num=t.num);let b:=decide (t.N=t.N);let X:=Zg t.ins;let g:=X=X;let a:=decide (D=D);let V:=ZA t.outs;let f:=V=V;let u:=v++E;let e:=u.length;let U:=d.other;let S:=decide (e=e/\e<80000000000000/\U.length=32);let C:=u++U;let l:=C.length;let r:=d.point;let R:=u++r;let B:=R.length;let k:=d.delay;let Q:=W k;let P:=R++Q;let O:=P.length;let L:=C++r;let A:=L.length;let K:=d.hash;let J:=L++K;let z:=J.length;let I:=J++Q;let y:=I.length;let x:=d.expiry;let H:=I++W x;let G:=H.length;let F:=Z0 q (Z0 S (Z5 (l=l/\l<80000000000000/\r.length=32) (Z5 (A=A/\A<80000000000000/\K.length=32) (Z5 (z=z/\z<80000000000000/\0<=k/\k<=T) (Z5 (y=y/\y<80000000000000/\0<=x/\x<=T) (Z0 p (Z0 o (Z0 h (Z0 b (g/\Z0 b (Z0 a (f/\Z0 a (Z5 (G=m) (Z5 (m<=G) (H=ys/\Z1)))))))))))))));
 Z6 (decide ((↑i:Int)<s)) (Z5 (0<=(↑i:Int)/\(↑i:Int)<s) (Z5 (xs.length=n/\n<80000000000000/\(0<=c/\c<=T)/\0<=w/\w<=T) (Z5 (c=c) (Z6 (decide (c=1)) (Z0 q (Z0 p (Z0 o (Z0 h (Z0 b (g/\Z0 b (Z0 a (f/\Z0 a (Z5 (e=m) (Z5 (m<=e) (u=ys/\Z1))))))))))) (Z6 (decide (c=2)) (Z0 q (Z0 S (Z0 p (Z0 o (Z0 h (Z0 b (g/\Z0 b (Z0 a (f/\Z0 a (Z5 (l=m) (Z5 (m<=l) (C=ys/\Z1)))))))))))) (Z6 (decide (c=3)) (Z0 q (Z5 (e=e/\e<80000000000000/\r.length=32) (Z5 (B=B/\B<80000000000000/\0<=k/\k<=T) (Z0 p (Z0 o (Z0 h (Z0 b (g/\Z0 b (Z0 a (f/\Z0 a (Z5 (O=m) (Z5 (m<=O) (P=ys/\Z1))))))))))))) (Z6 (decide (c=4)) F (Z6 (decide (c=5)) F (Z0 p (Z0 o (Z0 h (Z0 b (g/\Z0 b (Z0 a (f/\Z0 a (Z5 (j=m) (Z5 (m<=j) (v=ys/\Z1)))))))))))))))))) (Z0 h (Z0 b (g/\Z0 b (Z0 a (f/\Z0 a (Z5 (n=n) (Z5 (n<=n) (xs=xs/\Z2))))))))) (by kernel_rfl) ?_
 conv=>zeta
 try simp only [vcA]
 try simp only [vcB]
 try simp only [vcC]
 refine ⟨fun hlt=> ?_,fun hge=>h2 (by omega)⟩
 obtain ⟨⟨w1,w2⟩,⟨w3,w4⟩,⟨w5,w6⟩,w7,w8⟩:=Yj (hr i (by omega))
 obtain ⟨l1,l2,l3,l4⟩:=ht.outs i (by omega)
 have hw:=h1 (by omega)
 have hnn:=ht.m
 have hwr:i64.wrap ((i:Int)+1)=((i+1:Nat):Int):=w64 (by omega)
 have u1:=Zp (t.outs i).kind
 have u2:=Zp (t.outs i).amount
 have u3:=Zp (t.outs i).delay
 have u4:=Zp (t.outs i).expiry
 subst hW hT
 rw [hwr]
 unfold Z2q at hy
 generalize t.outs i=x at*
 simp only [J5]
 repeat' (first|(refine Ju ?_ ?_)|intro _)
 all_goals first|omega|assumption|trivial|skip
 all_goals first|(rw [hy];simp [*];done)|(rw [<-hm,hy];simp [*];try omega;done)|skip
def W6 (f:Nat->LI):Nat->LI
 | 0=>[]
 | n+1=>W6 f n++f n
@[irreducible] def Yn (W:Int->LI) (t:TxS) (core:Bool) (i:Nat):LI:=W t.num++W t.N++W6 (fun j=>inW W core (t.ins j)) i
@[irreducible] def Y7 (W:Int->LI) (t:TxS) (core:Bool) (i:Nat):LI:=Yn W t core t.N++W t.M++W6 (fun j=>Z2q W (t.outs j)) i
def Ws (W:Int->LI) (t:TxS) (core:Bool):LI:=Y7 W t core t.M
theorem Ur (W:Int->LI) (t:TxS) (core:Bool) (i:Nat):Yn W t core (i+1)=Yn W t core i++inW W core (t.ins i):=by unfold Yn;simp [W6]
theorem Z3E (W:Int->LI) (t:TxS) (core:Bool) (i:Nat):Y7 W t core (i+1)=Y7 W t core i++Z2q W (t.outs i):=by unfold Y7;simp [W6]
structure TxS.Fine (t:TxS):Prop where
 ok:t.Ok
 num:0<=t.num/\t.num<=2147483647
 n:t.N<=24
 m:t.M<=24
 ins:∀j,j<t.N->ZY (t.ins j)=true
 outs:∀j,j<t.M->Zu (t.outs j)=true
theorem Z0n {f:Nat->LI} {b:Nat}:∀n,(∀i,i<n->(f i).length<=b)->(W6 f n).length<=n*b
 | 0,_=>by simp [W6]
 | n+1,h=>by
  have:=Z0n n (fun i hi=>h i (by omega))
  grind [W6]
theorem Ze6 {core:Bool} {x:InS} (h:x.Ok):(inW Zk core x).length<=200:=by
 obtain ⟨l1,l2,l3,l4⟩:=h
 have u1:=Zp x.index
 have u2:=Zp x.way
 unfold inW
 grind
theorem ZbT {x:ZR} (h:x.Ok):(Z2q Zk x).length<=200:=by
 obtain ⟨l1,l2,l3,l4⟩:=h
 have u1:=Zp x.kind
 have u2:=Zp x.amount
 have u3:=Zp x.delay
 have u4:=Zp x.expiry
 unfold Z2q
 simp only [J5]
 grind
theorem Vf {t:TxS} (h:t.Fine) (core:Bool) {i:Nat} (hi:i<=t.N):(Yn Zk t core i).length<=10000:=by
 have h1:=Zp t.num
 have h2:=Zp t.N
 have h3:=Z0n (f:=fun j=>inW Zk core (t.ins j)) (b:=200) i (fun j hj=>Ze6 (h.ok.ins j (by omega)))
 have:=h.n
 grind [Yn]
theorem XN {t:TxS} (h:t.Fine) (core:Bool) {i:Nat} (hi:i<=t.M):(Y7 Zk t core i).length<=20000:=by
 have h1:=Vf h core (J2 t.N)
 have h2:=Zp t.M
 have h3:=Z0n (f:=fun j=>Z2q Zk (t.outs j)) (b:=200) i (fun j hj=>ZbT (h.ok.outs j (by omega)))
 have:=h.m
 grind [Y7]
noncomputable def Zge (W:Int->LI) (T:Int) (t:TxS) (core:Bool):Zd:=
 (Z7t W T).withL 84 0 (goM 0 (Z9O t core 0 (Yn W t core 0) (Yn W t core 0).length) t.Fine (Y9 0 t.N 9 (fun i=>i<t.N) (fun i=>i=t.N) (fun _=>False) (fun _=>False) (fun i=>VA t (Yn W t core i) (Yn W t core i).length) (fun i=>VA t (Yn W t core i) (Yn W t core i).length) (fun i=>VA t (Yn W t core i) (Yn W t core i).length)))
noncomputable def ZiY (W:Int->LI) (T:Int) (t:TxS) (core:Bool):Zd:=
 (Z7t W T).withL 84 4 (goM 0 (Z5V t 0 (Y7 W t core 0) (Y7 W t core 0).length) t.Fine (Y9 4 t.M 9 (fun i=>i<t.M) (fun i=>i=t.M) (fun _=>False) (fun _=>False) (fun i=>VA t (Y7 W t core i) (Y7 W t core i).length) (fun i=>VA t (Y7 W t core i) (Y7 W t core i).length) (fun i=>VA t (Y7 W t core i) (Y7 W t core i).length)))
theorem Ze7 (t:TxS) (core:Bool) (T:Int) (hT:T=4611686018427387904):(Zge Zk T t core).Ok:=by
 refine Zd.withGoM (N:=20) (S:=fun i=>Z9O t core i (Yn Zk t core i) (Yn Zk t core i).length) (by subst hT;exact Z8t) (by kernel_rfl) fun hC=>⟨rfl,fun i hi hgo=> ?_⟩
 have h1:=Vf hC core hi
 cases core
 ·exact Zgc Zk T t i (Yn Zk t false i) (Yn Zk t false (i+1)) _ _ _ _ hT hC.ok hi hC.ins rfl rfl (by omega) (Ur _ _ _ _) rfl (fun h=>⟨h,h⟩) (fun h=>h)
 ·exact Zgb Zk T t i (Yn Zk t true i) (Yn Zk t true (i+1)) _ _ _ _ hT hC.ok hi hC.ins rfl rfl (by omega) (Ur _ _ _ _) rfl (fun h=>⟨h,h⟩) (fun h=>h)
theorem Ze8 (t:TxS) (core:Bool) (T:Int) (hT:T=4611686018427387904):(ZiY Zk T t core).Ok:=by
 refine Zd.withGoM (N:=20) (S:=fun i=>Z5V t i (Y7 Zk t core i) (Y7 Zk t core i).length) (by subst hT;exact Z8t) (by kernel_rfl) fun hC=>⟨rfl,fun i hi hgo=> ?_⟩
 have h1:=XN hC core hi
 exact Zgd Zk T t i (Y7 Zk t core i) (Y7 Zk t core (i+1)) _ _ _ _ hT hC.ok hi hC.outs rfl rfl (by omega) (Z3E _ _ _ _) rfl (fun h=>⟨h,h⟩) (fun h=>h)
noncomputable def ZhM (W:Int->LI) (T:Int) (t:TxS) (core:Bool):Zd:=
 ((Zge W T t core).withL 84 4 (goM 0 (Z5V t 0 (Y7 W t core 0) (Y7 W t core 0).length) t.Fine (Y9 4 t.M 9 (fun i=>i<t.M) (fun i=>i=t.M) (fun _=>False) (fun _=>False) (fun i=>VA t (Y7 W t core i) (Y7 W t core i).length) (fun i=>VA t (Y7 W t core i) (Y7 W t core i).length) (fun i=>VA t (Y7 W t core i) (Y7 W t core i).length)))).withF 86 Z4L
theorem ZhN (W:Int->LI) (T:Int) (t:TxS) (core:Bool) (ys:LI) (L:Nat) (hT:T=4611686018427387904) (hW:W=Zk) (ht:t.Fine) (hy:ys=Ws W t core) (hL:L=ys.length):
  evF (ZhM W T t core) 20 84 [.agg t.c,.bool core] ⟨0,[]⟩ (YU 0 (.ret (.nslice ⟨0,0,0,0,0⟩ 1 L L)) 1 [(0,.ints .u8 ys)]):=by
 refine @Eq.mpr _ (let f:=t.num;let c:=t.N;let d:=↑c;let r:=decide (f=f);let h:=decide (c=c);let m:=Zg t.ins;let l:=m=m;let b:=t.M;let g:=decide (b=b);let C:=ZA t.outs;let B:=C=C;let A:=W f++W d;let z:=A.length;let y:=Yn W t core 0;let x:=y.length;let e:=↑b;let w:=Y7 W t core 0;let v:=w.length;let u:=(False->False)/\(False->False);
 Z5 ((0<=f/\f<=T)/\0<=d/\d<=T) (Z5 (d=d) (Z5 (core=core) (Z0 r (Z0 h (l/\
 Z0 h (Z0 g (B/\
 Z0 g (Z5 (z=x) (Z5 (x<=z) (A=y/\
 TxS.Fine t/\
 ∀(i:Nat),
 let s:=Yn W t core i;let k:=s.length;let q:=s++W e;let p:=q.length;
 i<=c->
 (∀(j:Nat),j<i->(fun (i:Nat)=>i<c) j)->
 (i=c->
 Z5 (k=k/\k<80000000000000/\0<=e/\e<=T) (Z5 (e=e) (Z0 r (Z0 h (l/\
 Z0 h (Z0 g (B/\
 Z0 g (Z5 (p=v) (Z5 (v<=p) (q=w/\
 TxS.Fine t/\
 ∀(i:Nat),
 let o:=Y7 W t core i;let a:=o.length;let n:=List.take a (ZP 0 o);
 i<=b->(∀(j:Nat),j<i->(fun (i:Nat)=>i<b) j)->(i=b->Z5 (0+a<=a) (Z5 (n.length=a/\a<90000000000000) (Z5 (a=L) (Z5 (L<=a) (n=ys/\True)))))/\u))))))))))/\
 u))))))))))) (by kernel_rfl) ?_
 conv=>zeta
 try simp only [vcA]
 try simp only [vcB]
 try simp only [vcC]
 subst hT hW hy hL
 have e1:Zk t.num++Zk ↑t.N=Yn Zk t core 0:=by unfold Yn;simp [W6]
 have e2:Yn Zk t core t.N++Zk ↑t.M=Y7 Zk t core 0:=by unfold Y7;simp [W6]
 have b1:=Vf ht core (J2 t.N)
 have b2:=XN ht core (J2 t.M)
 have hN:=ht.n
 have hM:=ht.m
 have hq:=ht.num
 rw [e1]
 refine ⟨⟨⟨by omega,by omega⟩,by omega,by omega⟩,rfl,J2 _,rfl,ht,fun i hi _=>⟨fun he=> ?_,fun h=>h.elim,fun h=>h.elim⟩⟩
 subst he
 rw [e2]
 refine ⟨⟨by omega,by omega,by omega⟩,rfl,J2 _,rfl,ht,fun i hi _=>⟨fun he=> ?_,fun h=>h.elim,fun h=>h.elim⟩⟩
 subst he
 rw [Y0,JU,Js]
 exact ⟨⟨rfl,by omega⟩,rfl,J2 _,rfl⟩
theorem Ze9 (t:TxS) (core:Bool) (T:Int) (hT:T=4611686018427387904):(ZhM Zk T t core).Ok:=by
 exact Zd.withF_ok (Zd.withL_join (G:=Zge Zk T t core) (H:=Z7t Zk T) (Ze7 t core T hT) rfl (Ze8 t core T hT)) Qf
theorem ZbU (t:TxS) (core:Bool) (ht:t.Fine):Zv PP 84 [.agg t.c,.bool core] (.nslice ⟨0,0,0,0,0⟩ 1 (Ws Zk t core).length (Ws Zk t core).length) 1 [(0,.ints .u8 (Ws Zk t core))]  :=.evM (Ze9 t core _ rfl) (ZhN _ _ t core _ _ rfl rfl ht rfl rfl)
def ZbV (R:TxS->Bool->LI):YA:=fun args h K=>ZL none h true 20 args fun a=>match a with
 | [.agg l,.bool core]=>∃t,Z0V l t/\t.Fine/\K (.ret (.nslice ⟨h.next,0,0,0,0⟩ 1 (R t core).length (R t core).length)) ⟨h.next+1,(h.next,.ints .u8 (R t core))::h.bs⟩
 | _=>False
theorem Zea (args:List AV) (h:Z8) (K:KO) (hl:ZbV (Ws Zk) args h K):Zf PP 84 args h K:=by
 refine Zv.fsumm (d:=20) (Zi _ _ _ _ _ hl fun a ha=> ?_)
 split at ha
 ·obtain ⟨t,h1,h2,hK⟩:=ha
  exact ⟨_,_,_,_,(ZbU t _ h2).conv fun E r hr=>hr.head (fun _ hc=>h1.rel hc) (fun _ hc=>hc),rfl,⟨Jx,.ints _ _,trivial⟩,hK⟩
 simp_all
theorem Us {t:TxS} (ht:t.Ok) (h:Yh Yd t=true):t.Fine:=by
 unfold Yh at h
 simp only [J1,decide_eq_true_eq,Jl] at h
 obtain ⟨⟨⟨⟨⟨h1,h2⟩,h3⟩,h4⟩,h5⟩,_⟩:=h
 refine ⟨ht,h1,by omega,by omega,fun j hj=> ?_,fun j hj=> ?_⟩
 all_goals simp_all [Yt,Vt,Ya,Qe]
noncomputable def E19 (A:LI->Int×Int) (H:LI->LI) (T2:LI->LI->LI) (R:TxS->Bool->LI) (B:Nat):Zd:=
 ((((G0.withP 26 (ckS A)).withF 84 (ZbV R)).withP 35 (Z8k H B)).withP 206 (Zh7 T2)).withP 76 (Z7q A)
theorem ZbW (B:Nat) (hB:B<100000000000) (h32:32<=B):(E19 Yd Xn Z5Q (Ws Zk) B).Ok:=
 Zd.withP_ok (Zd.withP_ok (Zd.withP_ok (Zd.withF_ok (Zd.withP_ok Zt Z7s) Zea) (Z2f B hB h32)) Zdt) Z3C
theorem Zgf (A:LI->Int×Int) (H:LI->LI) (T2:LI->LI->LI) (R:TxS->Bool->LI) (B:Nat) (t:TxS) (hh:LI) (ht:t.Ok) (hc:Yh A t=true) (hA:A=Yd) (hR:R=Ws Zk) (hB:20000<=B) (hHl:∀x,(H x).length=32) (hH:hh=H (R t true)):
  evF (E19 A H T2 R B) 20 34 [.agg t.c] ⟨0,[]⟩ (YU 0 (.ret (.tuple [.agg [.arr .u8 32 hh],.int .i64 0])) 0 []):=by
 refine @Eq.mpr _ (let b:=t.N;let a:=t.M;
 ∃(t_1:TxS),
 (t_1.num=t.num/\((b=b/\t_1.N=b)/\∀(i:Nat),i<b->Zg t.ins i=InS.c (t_1.ins i))/\(a=a/\t_1.M=a)/\∀(i:Nat),i<a->ZA t.outs i=ZR.c (t_1.outs i))/\
 TxS.Ok t_1/\
 Z6 (Yh A t_1) (∃(t_2:TxS),
 let d:=List.length (R t_2 true);let f:=List.take d (ZP 0 (R t_2 true));let e:=f.length;
 (t_2.num=t.num/\((b=b/\t_2.N=b)/\∀(i:Nat),i<b->Zg t.ins i=InS.c (t_2.ins i))/\(a=a/\t_2.M=a)/\∀(i:Nat),i<a->ZA t.outs i=ZR.c (t_2.outs i))/\TxS.Fine t_2/\Z5 (0+d<=d) (Z5 (d=e) (Z5 (e<=B) (H f=hh/\True)))) (Z7=hh/\False)) (by kernel_rfl) ?_
 conv=>zeta
 try simp only [vcA]
 try simp only [vcB]
 try simp only [vcC]
 refine ⟨t,⟨rfl,⟨rfl,fun _ _=>rfl⟩,rfl,fun _ _=>rfl⟩,ht,fun h=>⟨t,⟨rfl,⟨rfl,fun _ _=>rfl⟩,rfl,fun _ _=>rfl⟩,Us ht (by subst hA;exact hc), ?_⟩,fun h=>(by rw [hc] at h;cases h)⟩
 subst hR hA hH
 have hb:=XN (Us ht hc) true (J2 t.M)
 have hb':(Ws Zk t true).length<=20000:=hb
 rw [Y0,JU,Js]
 and_intros<;>first|trivial|rfl|omega
theorem Zgg (A:LI->Int×Int) (H:LI->LI) (T2:LI->LI->LI) (R:TxS->Bool->LI) (B:Nat) (t:TxS) (ht:t.Ok) (hc:Yh A t=false):
  evF (E19 A H T2 R B) 20 34 [.agg t.c] ⟨0,[]⟩ (YU 0 (.ret (.tuple [.agg [.arr .u8 32 Z7],.int .i64 2])) 0 []):=by
 refine @Eq.mpr _ (let b:=t.N;let a:=t.M;
 ∃(t_1:TxS),
 (t_1.num=t.num/\((b=b/\t_1.N=b)/\∀(i:Nat),i<b->Zg t.ins i=InS.c (t_1.ins i))/\(a=a/\t_1.M=a)/\∀(i:Nat),i<a->ZA t.outs i=ZR.c (t_1.outs i))/\
 TxS.Ok t_1/\
 Z6 (Yh A t_1) (∃(t_2:TxS),
 let d:=List.length (R t_2 true);let f:=List.take d (ZP 0 (R t_2 true));let e:=f.length;
 (t_2.num=t.num/\((b=b/\t_2.N=b)/\∀(i:Nat),i<b->Zg t.ins i=InS.c (t_2.ins i))/\(a=a/\t_2.M=a)/\∀(i:Nat),i<a->ZA t.outs i=ZR.c (t_2.outs i))/\TxS.Fine t_2/\Z5 (0+d<=d) (Z5 (d=e) (Z5 (e<=B) (H f=Z7/\False)))) (Z7=Z7/\True)) (by kernel_rfl) ?_
 conv=>zeta
 try simp only [vcA]
 try simp only [vcB]
 try simp only [vcC]
 exact ⟨t,⟨rfl,⟨rfl,fun _ _=>rfl⟩,rfl,fun _ _=>rfl⟩,ht,fun h=>(by rw [hc] at h;cases h),fun h=>(by first|trivial|exact ⟨rfl,trivial⟩|rfl)⟩
def Zff (A:LI->Int×Int) (Nm:TxS->LI):ZM:=fun args h K=>ZL none h true 20 args fun a=>match a with
 | [.agg l]=>∃t,Z0V l t/\t.Ok/\Z6 (Yh A t) (K (.tuple [.agg [.arr .u8 32 (Nm t)],.int .i64 0])) (K (.tuple [.agg [.arr .u8 32 Z7],.int .i64 2]))
 | _=>False
@[irreducible] def X7 (t:TxS):LI:=Xn (Ws Zk t true)
theorem Ut (t:TxS):(X7 t).length=32:=by unfold X7;exact Up _
theorem ZbX (args:List AV) (h:Z8) (K:AV->Prop) (hl:Zff Yd X7 args h K):Zf PP 34 args h fun o h'=>∃v,o=.ret v/\h'=h/\K v:=by
 refine Zv.psumm (d:=20) (Zi _ _ _ _ _ hl fun a ha=> ?_)
 split at ha
 ·obtain ⟨t,h1,h2,hK⟩:=ha
  rw [Z1c] at hK
  cases hc:Yh Yd t with
  | true=>exact ⟨_,(Zv.evM (ZbW 20000 (by decide) (by decide)) (Zgf _ _ _ _ _ t _ h2 hc rfl rfl (by decide) Up rfl)).conv fun E r hr=>hr.head (fun _ hc=>h1.rel hc) (fun _ hc=>hc),fun _=>rfl,by have:=hK.1 hc;unfold X7 at this;exact this⟩
  | false=>exact ⟨_,(Zv.evM (ZbW 20000 (by decide) (by decide)) (Zgg _ _ _ _ _ t h2 hc)).conv fun E r hr=>hr.head (fun _ hc=>h1.rel hc) (fun _ hc=>hc),fun _=>rfl,hK.2 hc⟩
 simp_all
mutual
/-- Without names; views may be. -/
def AV.vplain:AV->Bool
 | .top|.bool _|.int _ _|.str _|.ptr none|.eslice|.fslice|.nilslice|.map none|.nilFunc|.nilIface|.arr _ _ _=>true
 | .vints _ _ _|.vrows _ _ _ _|.pview _ _=>true
 | .agg cs=>XB cs
 | .tuple cs=>XB cs
 | .iface _ v=>v.vplain
 | _=>false
def XB:List AV->Bool
 | []=>true
 | v::r=>v.vplain&&XB r
end
mutual
theorem Za.vplain {E E':Env} (hi:∀a c,E.imm a c->E'.imm a c):∀(v:AV) (r:Value),v.vplain=true->Za E v r->Za E' v r
 | .top,r,_,_=>.top r
 | .bool b,r,_,h=>h.plain rfl
 | .int k n,r,_,h=>h.plain rfl
 | .str s,r,_,h=>h.plain rfl
 | .ptr none,r,_,h=>h.plain rfl
 | .eslice,r,_,h=>h.plain rfl
 | .fslice,r,_,h=>h.plain rfl
 | .nilslice,r,_,h=>h.plain rfl
 | .map none,r,_,h=>h.plain rfl
 | .nilFunc,r,_,h=>h.plain rfl
 | .nilIface,r,_,h=>h.plain rfl
 | .arr k n xs,r,_,h=>h.plain rfl
 | .ptr (some p),r,hp,_=>by simp [AV.vplain] at hp
 | .nslice p a b c,r,hp,_=>by simp [AV.vplain] at hp
 | .map (some x),r,hp,_=>by simp [AV.vplain] at hp
 | .func a b c,r,hp,_=>by simp [AV.vplain] at hp
 | .yield x,r,hp,_=>by simp [AV.vplain] at hp
 | .stamp x,r,hp,_=>by simp [AV.vplain] at hp
 | .pview cs inn,r,_,h=>by
  cases h with
  | pview cs inn a vs hc hq=>exact .pview cs inn a vs (Zl.mono (⟨fun _ _ h=>by simp [Env.views] at h,hi⟩:E.views.le E'.views) hc) (fun j c h=>hi _ _ (hq j c h))
 | .vints k xs len,r,_,h=>by
  cases h with
  | vintsNil k xs len h1 h2=>exact .vintsNil k xs len h1 h2
  | vints k xs len a cap h1 h2 hq=>exact .vints k xs len a cap h1 h2 (fun i h=>hi _ _ (hq i h))
 | .vrows esz n f len,r,_,h=>by
  cases h with
  | vrowsNil esz n f len h1 h2=>exact .vrowsNil esz n f len h1 h2
  | vrows esz n f len a cap g h1 h2 hc hl hq=>exact .vrows esz n f len a cap g h1 h2 (fun i h=>Zl.mono (⟨fun _ _ h=>by simp [Env.views] at h,hi⟩:E.views.le E'.views) (hc i h)) hl (fun i j c h h'=>hi _ _ (hq i j c h h'))
 | .iface t v,r,hp,h=>by
  cases h with
  | iface t v x hx=>exact .iface t v x (Za.vplain hi v x (by simpa [AV.vplain] using hp) hx)
 | .agg cs,r,hp,h=>by
  cases h with
  | agg cs vs hc=>exact .agg cs vs (Zl.vplain hi cs vs (by simpa [AV.vplain] using hp) hc)
 | .tuple cs,r,hp,h=>by
  cases h with
  | tuple _ rs hc=>exact .tuple _ rs (Zs.vplain hi cs rs (by simpa [AV.vplain] using hp) hc)
theorem Zl.vplain {E E':Env} (hi:∀a c,E.imm a c->E'.imm a c):∀(l:List AV) (r:List Value),XB l=true->Zl E l r->Zl E' l r
 | [],r,_,h=>by cases h;exact .nil
 | v::l,r,hp,h=>by
  simp only [XB,J1] at hp
  cases h with
  | one v c vs cs h0 h1 hv t=>exact .one v c _ cs h0 h1 (Za.vplain hi v c hp.1 hv) (Zl.vplain hi l cs hp.2 t)
  | arr k n xs vs cs t=>exact .arr k n xs _ cs (Zl.vplain hi l cs hp.2 t)
theorem Zs.vplain {E E':Env} (hi:∀a c,E.imm a c->E'.imm a c):∀(l:List AV) (r:List Value),XB l=true->Zs E l r->Zs E' l r
 | [],r,_,h=>by cases h;exact .nil
 | v::l,r,hp,h=>by
  simp only [XB,J1] at hp
  cases h with
  | cons v c vs cs hv t=>exact .cons v c _ cs (Za.vplain hi v c hp.1 hv) (Zs.vplain hi l cs hp.2 t)
end
def Xf (R:AV->Prop):KO:=fun o _=>match o with
 | .ret u=>(match u.vplain with|true=>R u|false=>False)
 | .panic _=>False
theorem Z7u {P:Program} {f:FuncId} {h:Z8} (hp:XB args=true) (hc:Zf P f args ⟨0,[]⟩ (Xf R)) (hK:∀u,R u->K u):
  Zf P f args h fun o h'=>∃v,o=.ret v/\h'=h/\K v:=by
 intro E w rs he hr
 have hemb:Emb E.views ⟨0,[]⟩ w:=
  ⟨fun x _=>rfl,fun x B h=>by simp [Z8.get,ZF] at h,fun x B h=>by simp [Z8.get,ZF] at h,fun x y B B' b N N' h=>by simp [Z8.get,ZF] at h,he.imm,fun a c x B N _ h=>by simp [Z8.get,ZF] at h⟩
 refine (hc E.views w rs hemb (Zs.vplain (E:=E) (E':=E.views) (fun _ _ h=>h) _ _ hp hr)).mono ?_
 rintro e w' ⟨E₁,o,h',hK0,hev,hor⟩
 cases hor with
 | panic u r hr=>exact hK0.elim
 | ret u r hr=>
  unfold Xf at hK0
  simp only at hK0
  split at hK0
  ·rename_i hu
   have hkeep:∀b,b<w.heap.size->w'.heap[b]? =w.heap[b]?:=fun b hb=>hev.keep b hb (fun ⟨x,B,N,hx,_⟩=>by simp [Z8.get,ZF] at hx)
   have hemb':Emb E h w':=by
    refine ⟨he.fresh,he.lt,fun x B hx=>(he.own x B hx).congr fun b N hb=>hkeep b ((he.own x B hx).lt hb),he.disj,fun a c hi=> ?_,he.sep⟩
    have hcc:=he.imm a c hi
    grind [World.cell?]
   exact ⟨E,.ret u,h,⟨u,rfl,rfl,hK u hK0⟩,⟨.refl E,hemb',hev.size,hev.os,hev.tape,hev.output,fun b hb _=>hkeep b hb,fun b ho=>.inl ho,fun _ _ h=>h⟩,.ret _ _ (Za.vplain (E:=E₁) (E':=E) (fun a c hi=>hev.imm a c hi) _ _ hu hr)⟩
  simp_all
theorem W7 {G:Zd} (hG:G.Ok) {n:Nat} {f:FuncId} {h:Z8} (hp:XB args=true) (hc:evF G n f args ⟨0,[]⟩ (Xf R)) (hK:∀u,R u->K u):
  Zf G.P f args h fun o h'=>∃v,o=.ret v/\h'=h/\K v:=Z7u hp (UY hG hc) hK
end Go.Tk
end
section
namespace Go.Tk
open IntKind (i64 u8 u32 u64 wrap)
inductive Ty where
 | bool
 | int (k:IntKind)
 | str
 | arr (k:IntKind) (n:Nat)
 | ints (k:IntKind)
 | rows (esz:Nat) (ts:List Ty)
def ZbY (P:Program) (r:TypeId->Option (List Ty)) (sz:Nat):Nat->List Field->Option (List Ty)
 | o,[]=>if o=sz then some [] else none
 | o,f::fs=>if f.offset=o then (r f.type).bind fun a=>(ZbY P r sz (o+P.cellsOf f.type) fs).bind fun b=>some (a++b) else none
def Z0W (P:Program):Nat->TypeId->Option (List Ty)
 | 0,_=>none
 | m+1,t=>match P.underlying t with
  | some .bool=>some [.bool]
  | some (.int k)=>some [.int k]
  | some .string=>some [.str]
  | some (.array n e)=>match P.underlying e with
   | some (.int k)=>if P.cellsOf t=n/\P.cellsOf e=1 then some [.arr k n] else none
   | _=>(Z0W P m e).bind fun ts=>if P.cellsOf t=n*P.cellsOf e then some (List.replicate n ts).flatten else none
  | some (.slice e)=>match P.underlying e with
   | some (.int k)=>if P.cellsOf e=1 then some [.ints k] else none
   | _=>(Z0W P m e).bind fun ts=>some [.rows (P.cellsOf e) ts]
  | some (.struct fs)=>ZbY P (Z0W P m) (P.cellsOf t) 0 fs.toList
  | _=>none
mutual
inductive Z0I:Ty->AV->Prop
 | bool (b:Bool):Z0I .bool (.bool b)
 | int (k:IntKind) (n:Int) (h:(Lit.int k n).wf=true):Z0I (.int k) (.int k n)
 | str (s:ByteArray) (h:s.size<=maxLen):Z0I .str (.str s)
 | arr (k:IntKind) (n:Nat) (xs:LI) (h:xs.length=n) (hw:∀i,i<n->(Lit.int k (xs.getD i 0)).wf=true):Z0I (.arr k n) (.arr k n xs)
 | ints (k:IntKind) (xs:LI) (n:Nat) (h:xs.length=n) (hm:n<=maxLen) (hw:∀i,i<n->(Lit.int k (xs.getD i 0)).wf=true):Z0I (.ints k) (.vints k xs n)
 | rows (esz:Nat) (ts:List Ty) (n:Nat) (f:Nat->List AV) (hm:n<=maxLen) (h:∀i,i<n->Fits ts (f i)):Z0I (.rows esz ts) (.vrows esz n f n)
inductive Fits:List Ty->List AV->Prop
 | nil:Fits [] []
 | cons (t:Ty) (a:AV) (ts:List Ty) (vz:List AV) (h:Z0I t a) (r:Fits ts vz):Fits (t::ts) (a::vz)
end
theorem Fits.append:∀{ts wz:List Ty} {vz bs:List AV},Fits ts vz->Fits wz bs->Fits (ts++wz) (vz++bs)
 | _,_,_,_,.nil,h=>h
 | _,_,_,_,.cons t a ts vz h r,k=>.cons t a _ _ h (Fits.append r k)
def tE (w:World):Env:=⟨fun _=>none,fun a c=>w.cell? a=some c⟩
section
variable {H:Type} {enc:TypeId×Value->H} {P:Program} {w:World} {sp:Nat->Bool} {held:Bool}
theorem UJ {k:IntKind} {n:Nat} {cs:List Value} (hl:cs.length=n) (h:∀i,i<n->∃z,cs[i]? =some (.int k z)/\(Lit.int k z).wf=true):
  ∃xs:LI,xs.length=n/\(∀i,i<n->(Lit.int k (xs.getD i 0)).wf=true)/\∀i,i<n->cs[i]? =some (.int k (xs.getD i 0)):=by
 refine ⟨cs.map fun v=>match v with|.int _ z=>z|_=>0,by simp [hl],fun i hi=> ?_,fun i hi=> ?_⟩
 all_goals grind
theorem Zeb {α β:Type} {n:Nat} {p:Nat->α->β->Prop} [Inhabited α] [Inhabited β] (h:∀i,i<n->∃a b,p i a b):∃(f:Nat->α) (g:Nat->β),∀i,i<n->p i (f i) (g i):=
 ⟨fun i=>if hi:i<n then Classical.choose (h i hi) else default,fun i=>if hi:i<n then Classical.choose (Classical.choose_spec (h i hi)) else default,fun i hi=>by
  grind⟩
theorem Z1d:∀(m:Nat) (t:TypeId) (ts:List Ty),Z0W P m t=some ts->∀(fuel:Nat) (cs:List Value) (x:DataW H×List MemPlace),DataW.trod enc P w 0 sp held fuel t cs=some x->∃vz,Fits ts vz/\Zl (tE w) vz cs
 | 0,_,_,ht=>by simp [Z0W] at ht
 | m+1,t,ts,ht=>by
  intro fuel cs x hx
  unfold Z0W at ht
  split at ht
  ·rename_i hu
   cases ht
   obtain ⟨b,rfl,_⟩:=DataW.trod_bool hu hx
   exact ⟨[.bool b],.cons _ _ _ _ (.bool b) .nil,.one _ _ _ _ rfl rfl (.bool b) .nil⟩
  ·rename_i k hu
   cases ht
   obtain ⟨n,rfl,_,hw⟩:=DataW.trod_int hu hx
   exact ⟨[.int k n],.cons _ _ _ _ (.int k n hw) .nil,.one _ _ _ _ rfl rfl (.int k n) .nil⟩
  ·rename_i hu
   cases ht
   obtain ⟨s,rfl,_,hw⟩:=DataW.trod_string hu hx
   exact ⟨[.str s],.cons _ _ _ _ (.str s hw) .nil,.one _ _ _ _ rfl rfl (.str s) .nil⟩
  ·rename_i n e hu
   split at ht
   ·rename_i k he
    split at ht
    ·rename_i hc
     obtain ⟨hc,h1⟩:=hc
     cases ht
     obtain ⟨xs,q,rfl,rfl,hl,hn,hi⟩:=DataW.trod_array hu hx
     rw [hc] at hl
     obtain ⟨zs,z1,z2,z3⟩:=UJ (k:=k) hl fun i hlt=>by
      have:=hi i hlt
      rw [J8 (by omega),h1] at this
      obtain ⟨z,e1,_,e2⟩:=DataW.trod_int he this
      refine ⟨z, ?_,e2⟩
      rw [JB] at e1
      have:=congrArg (fun l=>l[0]?) e1
      grind
     refine ⟨[.arr k n zs],.cons _ _ _ _ (.arr k n zs z1 z2) .nil, ?_⟩
     have:cs=intCells k n zs++[]:=by
      rw [Jw]
      refine Kc fun i=> ?_
      grind [intCells]
     rw [this]
     exact .arr _ _ _ _ _ .nil
    ·cases ht
   ·obtain ⟨es,e1,e2⟩:=Jp.1 ht
    split at e2
    ·rename_i hc
     cases e2
     obtain ⟨xs,q,rfl,rfl,hl,hn,hi⟩:=DataW.trod_array hu hx
     rw [hc] at hl
     have key:∀j,j<=n->∃vz,Fits (List.replicate j es).flatten vz/\Zl (tE w) vz (cs.take (j*P.cellsOf e)):=by
      intro j
      induction j with
      | zero=>intro _;exact ⟨[],.nil,by simp;exact .nil⟩
      | succ j ih=>
       intro hj
       obtain ⟨vz,f1,f2⟩:=ih (by omega)
       have:=hi j (by omega)
       rw [J8 (by omega)] at this
       obtain ⟨bs,p1,p2⟩:=Z1d m _ _ e1 _ _ _ this
       refine ⟨vz++bs, ?_, ?_⟩
       ·rw [List.replicate_succ',List.flatten_append,List.flatten_singleton]
        exact f1.append p1
       ·rw [Nat.succ_mul,List.take_add]
        exact f2.append p2
     obtain ⟨vz,f1,f2⟩:=key n (J2 _)
     rw [K2 (by omega)] at f2
     grind
    ·cases e2
  ·rename_i e hu
   split at ht
   ·rename_i k he
    split at ht
    ·rename_i hc
     cases ht
     rcases DataW.trod_slice hu hx with ⟨rfl,_⟩|⟨a,len,cap,elems,rest,n,rfl,rfl,_,_,hl,hm,hlen,hi,_,_⟩
     ·exact ⟨[.vints k [] 0],.cons _ _ _ _ (.ints k [] 0 rfl (JI _) fun i hi=>absurd hi (JM i)) .nil,.one _ _ _ _ rfl rfl (.vintsNil _ _ _ rfl rfl) .nil⟩
     ·obtain ⟨zs,z1,z2,z3⟩:=UJ (k:=k) (n:=len) (cs:=(List.range len).map fun i=>(w.cell? (a.add i)).getD undef) (by simp) fun i hlt=>by
       have:=hi i hlt
       rw [J8 (by omega),hc,JB] at this
       obtain ⟨cs',h1,h2⟩:=Jp.1 this
       grind [DataW.trod_int,Go.ChangeShapes.cell_of_cells?_one]
      refine ⟨[.vints k zs len],.cons _ _ _ _ (.ints k zs len z1 (by omega) z2) .nil,.one _ _ _ _ rfl rfl (.vints k zs len a cap (by omega) (by omega) fun i hlt=> ?_) .nil⟩
      rw [z1] at hlt
      have:=hi i hlt
      rw [J8 (by omega),hc,JB] at this
      obtain ⟨cs',h1,h2⟩:=Jp.1 this
      obtain ⟨z,rfl,_,e2⟩:=DataW.trod_int he h2
      have h3:=z3 i hlt
      have h4:=Go.ChangeShapes.cell_of_cells?_one h1
      simp [hlt,h4] at h3
      show w.cell? (a.add i)=_
      rw [h4,h3,Jb]
    ·cases ht
   ·obtain ⟨es,h1,h2⟩:=Jp.1 ht
    cases h2
    rcases DataW.trod_slice hu hx with ⟨rfl,_⟩|⟨a,len,cap,elems,rest,n,rfl,rfl,_,_,hl,hm,hlen,hi,_,_⟩
    ·exact ⟨[.vrows (P.cellsOf e) 0 (fun _=>[]) 0],.cons _ _ _ _ (.rows _ _ 0 _ (JI _) fun i hi=>absurd hi (JM i)) .nil,.one _ _ _ _ rfl rfl (.vrowsNil _ _ _ _ rfl rfl) .nil⟩
    ·obtain ⟨f,g,hfg⟩:=Zeb (n:=len) (p:=fun i (vz:List AV) (vs:List Value)=>Fits es vz/\Zl (tE w) vz vs/\w.cells? 0 (a.add (i*P.cellsOf e)) (P.cellsOf e)=some vs) fun i hlt=>by
      have:=hi i hlt
      rw [J8 (by omega)] at this
      obtain ⟨cs',k1,k2⟩:=Jp.1 this
      obtain ⟨vz,f1,f2⟩:=Z1d m _ _ h1 _ _ _ k2
      exact ⟨vz,cs',f1,f2,k1⟩
     refine ⟨[.vrows (P.cellsOf e) len f len],.cons _ _ _ _ (.rows _ _ len f (by omega) fun i hlt=>(hfg i hlt).1) .nil,.one _ _ _ _ rfl rfl (.vrows _ _ _ _ a cap g (J2 _) hl (fun i hlt=>(hfg i hlt).2.1) (fun i hlt=>(World.cells?_some (hfg i hlt).2.2).2.1) fun i j c hlt hj=> ?_) .nil⟩
     obtain ⟨_,hl',hc'⟩:=World.cells?_some (hfg i hlt).2.2
     have hj':j<P.cellsOf e:=by
      grind
     have:=hc' j hj'
     rw [hj] at this
     show w.cell? (a.add (i*P.cellsOf e+j))=some c
     rw [<-this]
     rw [Addr.add_add]
  ·rename_i fs hu
   obtain ⟨xs,n,rfl,rfl,hl,hn,hf⟩:=DataW.trod_struct hu hx
   have key:∀(l:List Field) (o:Nat) (ts:List Ty) (i0:Nat),ZbY P (Z0W P m) (P.cellsOf t) o l=some ts->(∀i f,l[i]? =some f->fs[i0+i]? =some f)->∃vz,Fits ts vz/\Zl (tE w) vz (cs.drop o):=by
    intro l
    induction l with
    | nil=>
     intro o ts i0 h _
     unfold ZbY at h
     split at h
     ·cases h
      exact ⟨[],.nil,by rw [K3 (by omega)];exact .nil⟩
     ·cases h
    | cons f l ih=>
     intro o ts i0 h hl'
     unfold ZbY at h
     split at h
     ·rename_i ho
      obtain ⟨a,h1,h2⟩:=Jp.1 h
      obtain ⟨b,h3,h4⟩:=Jp.1 h2
      cases h4
      have h0:fs[i0]? =some f:=hl' 0 f rfl
      have hlt:i0<fs.size:=by
       grind
      have k:=hf i0 f h0
      rw [J8 (by omega),ho] at k
      obtain ⟨vz,p1,p2⟩:=Z1d m _ _ h1 _ _ _ k
      obtain ⟨bs,q1,q2⟩:=ih (o+P.cellsOf f.type) b (i0+1) h3 fun i g hg=>by
       have:=hl' (i+1) g hg
       grind
      refine ⟨vz++bs,p1.append q1, ?_⟩
      have e:cs.drop o=(cs.drop o).take (P.cellsOf f.type)++cs.drop (o+P.cellsOf f.type):=by
       rw [<-List.drop_drop,List.take_append_drop]
      rw [e]
      exact p2.append q2
     ·cases h
   obtain ⟨vz,h1,h2⟩:=key fs.toList 0 ts 0 ht fun i f h=>by simp_all
   grind
  ·cases ht
def isAgg (P:Program) (t:TypeId):Bool:=match P.underlying t with
 | some (.struct _)|some (.array _ _)=>true
 | _=>false
inductive Z3F:Bool->List Ty->AV->Prop
 | agg (ts:List Ty) (vz:List AV) (h:Fits ts vz):Z3F true ts (.agg vz)
 | one (t:Ty) (a:AV) (h:Z0I t a):Z3F false [t] a
theorem ZbZ {m:Nat} {t:TypeId} {ts:List Ty} (ht:Z0W P m t=some ts) (hg:isAgg P t=false) {v:Value} {r:Reach} {b:Nat} (hv:Value.okWide P w r b t v):
  v.cells.toList=[v]/\∃τ,ts=[τ]/\∀k n,τ≠.arr k n:=by
 cases m with
 | zero=>simp [Z0W] at ht
 | succ m=>
  unfold Z0W at ht
  unfold isAgg at hg
  split at ht
  ·rename_i hu;cases ht;obtain ⟨b,rfl⟩:=Go.WideShapes.okWide_bool hu hv;exact ⟨rfl,_,rfl,fun _ _ h=>by cases h⟩
  ·rename_i hu;cases ht;obtain ⟨b,rfl⟩:=Go.WideShapes.okWide_int hu hv;exact ⟨rfl,_,rfl,fun _ _ h=>by cases h⟩
  ·rename_i hu;cases ht;obtain ⟨b,rfl⟩:=Go.WideShapes.okWide_string hu hv;exact ⟨rfl,_,rfl,fun _ _ h=>by cases h⟩
  ·simp_all
  ·rename_i hu
   obtain ⟨a,l,c,rfl⟩:=Go.WideShapes.okWide_slice hu hv
   split at ht
   ·split at ht
    ·cases ht;exact ⟨rfl,_,rfl,fun _ _ h=>by cases h⟩
    ·cases ht
   ·obtain ⟨es,h1,h2⟩:=Jp.1 ht
    cases h2;exact ⟨rfl,_,rfl,fun _ _ h=>by cases h⟩
  all_goals simp_all
theorem Zc0 {m:Nat} {t:TypeId} {ts:List Ty} {g:Bool} (ht:Z0W P m t=some ts) (hg:isAgg P t=g) {v:Value} {r:Reach} {b:Nat} (hv:Value.okWide P w r b t v) {d:DataW H} {ps:List MemPlace} (h:DataW.Trod enc P w 0 sp held t v d ps):
  ∃a,Z3F g ts a/\Za (tE w) a v:=by
 obtain ⟨fuel,hf⟩:=h
 obtain ⟨vz,f1,f2⟩:=Z1d m _ _ ht _ _ _ hf
 cases g with
 | true=>
  have:∃cs,v=.agg cs:=by
   grind [isAgg,Value.okWide]
  obtain ⟨cs,rfl⟩:=this
  refine ⟨.agg vz,.agg _ _ f1, ?_⟩
  exact .agg _ _ f2
 | false=>
  obtain ⟨h1,τ,rfl,h2⟩:=ZbZ ht hg hv
  rw [h1] at f2
  cases f1 with
  | cons _ a _ vz f r=>
   generalize hL:[v]=L at f2
   cases f2 with
   | one _ _ _ _ h0 h1 h t=>cases hL;exact ⟨_,.one _ _ f,h⟩
   | arr k n xs _ cs t=>cases f;simp_all
end
end Go.Tk
end
section
namespace Go.Tk
open IntKind (i64 u8 u32 u64 wrap)
open Go.ChangeShapes Go.WideShapes Go.RowKit
theorem Zgh (w:World):Emb (tE w) ⟨0,[]⟩ w where
 fresh:=fun _ _=>rfl
 lt:=fun x B h=>by simp [Z8.get,ZF] at h
 own:=fun x B h=>by simp [Z8.get,ZF] at h
 disj:=fun x y B B' b N N' h=>absurd h (by simp [Z8.get,ZF])
 imm:=fun _ _ h=>h
 sep:=fun a c x B N _ h=>absurd h (by simp [Z8.get,ZF])
theorem Zf.topT {P:Program} {f:FuncId} {args:List AV} (h:Zf P f args ⟨0,[]⟩ fun o h'=>∃v,o=.ret v/\h'=⟨0,[]⟩/\v=.bool true) {w:World} {rs:List Value} (hl:Zs (tE w) args rs):
  Calls P f rs.toArray w fun e w'=>e=.returned (.bool true)/\Go.RowKit.Below w.heap.size w w':=by
 refine (h (tE w) w rs (Zgh w) hl).mono ?_
 rintro e w' ⟨E',o,h',⟨v,rfl,rfl,hv⟩,hev,hor⟩
 obtain rfl:=hv
 cases hor with
 | ret v r hr=>
  cases hr
  refine ⟨rfl,hev.os,hev.tape,hev.output.1,hev.size,fun k hk=>hev.keep k hk ?_⟩
  rintro ⟨x,B,N,hx,_⟩
  exact absurd hx (by simp [Z8.get,ZF])
def Z7v (P:Program) (m:Nat):List TypeId->Option (List (Bool×List Ty))
 | []=>some []
 | t::r=>(Z0W P m t).bind fun a=>(Z7v P m r).bind fun b=>some ((isAgg P t,a)::b)
inductive Z3G:List (Bool×List Ty)->List AV->Prop
 | nil:Z3G [] []
 | cons (g:Bool) (ts:List Ty) (a:AV) (r:List (Bool×List Ty)) (vz:List AV) (h:Z3F g ts a) (k:Z3G r vz):Z3G ((g,ts)::r) (a::vz)
section
variable {H:Type} {enc:TypeId×Value->H} {P:Program} {w:World}
theorem Z3H {m:Nat} {r:Reach} {b:Nat}:∀{ts:List TypeId} {τs:List (Bool×List Ty)} {vs:List Value} {ds:List (DataW H)} {ps:List MemPlace},Z7v P m ts=some τs->(∀(j:Nat) t v,ts[j]? =some t->vs[j]? =some v->Value.okWide P w r b t v)->
  DataW.TrodAll enc P w 0 (fun _=>true) true ts vs ds ps->∃vz,Z3G τs vz/\Zs (tE w) vz vs
 | [],τs,vs,ds,ps,ha,_,h=>by
  cases ha
  obtain ⟨rfl,_,_⟩:=trodAll_nil h
  exact ⟨[],.nil,.nil⟩
 | t::ts,τs,vs,ds,ps,ha,hv,h=>by
  obtain ⟨a,h1,h2⟩:=Jp.1 ha
  obtain ⟨c,h3,h4⟩:=Jp.1 h2
  cases h4
  obtain ⟨v,vs',d,ds',p,q,rfl,rfl,rfl,k1,k2⟩:=trodAll_cons h
  obtain ⟨x,f1,f2⟩:=Zc0 h1 rfl (hv 0 t v rfl rfl) k1
  obtain ⟨vz,g1,g2⟩:=Z3H h3 (fun j t' v' e1 e2=>hv (j+1) t' v' e1 e2) k2
  exact ⟨x::vz,.cons _ _ _ _ _ f1 g1,.cons _ _ _ _ f2 g2⟩
theorem Z0J {sp:Nat->Bool} {held:Bool}:∀{ts:List TypeId} {vs:List Value} {ds:List (DataW H)} {ps:List MemPlace},DataW.TrodAll enc P w 0 sp held ts vs ds ps->ds.length=ts.length
 | [],_,_,_,h=>by obtain ⟨_,rfl,_⟩:=trodAll_nil h;rfl
 | t::ts,_,_,_,h=>by
  obtain ⟨v,vs',d,ds',p,q,rfl,rfl,rfl,k1,k2⟩:=trodAll_cons h
  simp [Z0J k2]
theorem Z3I {W':World} (laid:laidOutB P=true) (hb:Below w.heap.size w W'):∀{ts:List TypeId} {vs:List Value} {ds:List (DataW H)} {ps:List MemPlace},ts.all (fun t=>P.readableRec t&&decide (t<P.types.size))=true->
  DataW.TrodAll enc P w 0 (fun _=>true) true ts vs ds ps->DataW.TrodAll enc P W' 0 (fun b=>decide (b<w.heap.size)) true ts vs ds ps
 | [],_,_,_,_,h=>by obtain ⟨rfl,rfl,rfl⟩:=trodAll_nil h;exact trodAll_mk0
 | t::ts,_,_,_,hr,h=>by
  obtain ⟨v,vs',d,ds',p,q,rfl,rfl,rfl,k1,k2⟩:=trodAll_cons h
  simp only [List.all_cons,J1,decide_eq_true_eq] at hr
  have lt:∀x∈p,x.block<w.heap.size:=by obtain ⟨m,hm⟩:=k1;exact DataW.trod_lt m _ _ _ hm
  exact trodAll_cons_mk (Below.trod laid hr.1.1 hr.1.2 k1 hb lt) (Z3I laid hb hr.2 k2)
end
theorem lifted_gen {H:Type} {enc:TypeId×Value->H} {C:Checked} {os:Os} {f:FuncId} {fn:Func} {s:ChangeSpec} {conds:List PathCond} {tb:TypeId} {m:Nat} {τs:List (Bool×List Ty)}
  (own:ownKnob C.prog.godebug=none) (laid:laidOutB C.prog=true) (started:os.Started) (noInit:C.prog.inits.idxOf? f=none) (hfn:C.prog.funcs[f]? =some fn)
  (witness:∃(w:World) (tape:Tape) (i:Input),w.os=os/\(w.forCall tape i).Shaped C.prog/\i.vars=[]/\Input.okWide C.prog (w.forCall tape i) .any w.heap.size f i/\
   s.pre6 enc C.prog fn conds false (w.forCall tape i).memory i.args/\({}:Assume).holds C.prog (lone (Frame.enter C.prog f i.args .normal) [] (w.forCall tape i)))
  (hvars:s.vars=[]) (hr:fn.resultTypes= #[tb]) (hb:C.prog.underlying tb=some .bool) (hread:fn.params.toList.all (fun t=>C.prog.readableRec t&&decide (t<C.prog.types.size))=true) (hτ:Z7v C.prog m fn.params.toList=some τs)
  (hs:∀ds:List (DataW H),ds.length=fn.params.toList.length->s.fn H ds={ results:=[.lit (.bool true)],args:=ds})
  (walk:∀vz,Z3G τs vz->Zf C.prog f vz ⟨0,[]⟩ fun o h'=>∃v,o=.ret v/\h'=⟨0,[]⟩/\v=.bool true):
  ReturnsInHanded {} C os f .any (s.pre6 enc C.prog fn conds false) (s.post enc C.prog fn false true false false):=by
 refine returnsInHanded_of_change own started noInit hfn witness ?_
 intro W base args ds gs before hval hW _ _
 have hW':=hW
 obtain ⟨p,q,hA,hV,rfl,hfz,hnd⟩:=hW
 rw [hvars] at hV
 obtain ⟨rfl,rfl⟩:=trodVars_none hV
 obtain ⟨vz,f1,f2⟩:=Z3H hτ (fun j t v e1 e2=>hval j t v (by simp_all) (by simp_all)) hA
 have key:=(walk vz f1).topT f2
 refine key.mono fun e W' ⟨he,bel⟩=> ?_
 subst he
 have hfn':=hs ds (Z0J hA)
 refine ⟨_,rfl,ds,[],_,[],p,[],hW', ?_, ?_, ?_,bel.frame _,fun h=>by cases h⟩
 ·rw [Jw,hfn',hr]
  exact trodAll_mk1 (shut_bool hb _)
 ·rw [Jw,hfn']
  exact Z3I laid bel hread hA
 ·rw [Jw,hfn',hvars]
  rfl
end Go.Tk
end
section
namespace Go.Tk
open IntKind (i64 u8 u32 u64 wrap)
variable {g:Nat->InS}
theorem w8m (x:Int) (h:0<=x):u8.wrap (Int.tmod x 256)=u8.wrap x:=by
 rw [tm h]
 simp_all [wrap,IntKind.bits]
theorem Zec {n k:Int} (h:0<=n):0<=Zm .i64 n k:=by
 unfold Zm
 rw [Int.fdiv_eq_ediv_of_nonneg _ (by grind)]
 exact Int.ediv_nonneg h (by grind)
theorem b8m {n k:Int} (h:0<=n):u8.wrap (Int.tmod (Zm .i64 n k) 256)=b8 n k:=w8m _ (Zec h)
theorem Zgi (n:Int) (ys:LI) (L:Nat) (hn:0<=n) (hy:ys=Zk n) (hL:L=ys.length):
  evF G0 20 38 [.int .i64 n] ⟨0,[]⟩ (YU 0 (.ret (.nslice ⟨0,0,0,0,0⟩ 1 L L)) 1 [(0,.ints .u8 ys)]):=by
 refine @Eq.mpr _ (let b:=[wrap u8 (Int.tmod (Zm i64 n 8) 256),wrap u8 (Int.tmod (Zm i64 n 0) 256)];let a:=wrap u8 (Int.tmod (Zm i64 n 24) 256)::wrap u8 (Int.tmod (Zm i64 n 16) 256)::b;
 Z6 (decide (n<253)) (Z5 (1=L) (Z5 (L<=1) ([wrap u8 n]=ys/\True))) (Z6 (decide (n<65536)) (Z5 (3=L) (Z5 (L<=3) ((253:Int)::b=ys/\True))) (Z6 (decide (n<4294967296)) (Z5 (5=L) (Z5 (L<=5) ((254:Int)::a=ys/\True))) (Z5 (9=L) (Z5 (L<=9) ((255:Int)::wrap u8 (Int.tmod (Zm i64 n 56) 256)::wrap u8 (Int.tmod (Zm i64 n 48) 256)::wrap u8 (Int.tmod (Zm i64 n 40) 256)::wrap u8 (Int.tmod (Zm i64 n 32) 256)::a=ys/\True)))))) (by kernel_rfl) ?_
 conv=>zeta
 try simp only [vcA]
 try simp only [vcB]
 try simp only [vcC]
 subst hy hL
 refine ⟨fun h1=> ?_,fun h1=>⟨fun h2=> ?_,fun h2=>⟨fun h3=> ?_,fun h3=> ?_⟩⟩⟩
 ·rw [ZbM h1];simp
 ·rw [ZbN h1 h2];simp [b8m hn]
 ·rw [ZbO h1 h2 h3];simp [b8m hn]
 ·rw [ZbP h1 h2 h3];simp [b8m hn]
def Z8u (W:Int->LI):YA:=fun args h K=>match args with
 | [.int .i64 n]=>Z5 (0<=n) (K (.ret (.nslice ⟨h.next,0,0,0,0⟩ 1 (W n).length (W n).length)) ⟨h.next+1,(h.next,.ints .u8 (W n))::h.bs⟩)
 | _=>False
theorem Z5W (args:List AV) (h:Z8) (K:KO) (hl:Z8u Zk args h K):Zf PP 38 args h K:=by
 unfold Z8u at hl
 split at hl
 ·obtain ⟨hn,hK⟩:=Zc hl
  exact (Zv.evM Zt (Zgi _ _ _ hn rfl rfl)).calls (fun E w rs he hr=>by
   cases hr with
   | cons v r vs rs h1 h2=>cases h2;exact .cons _ _ _ _ (h1.plain rfl) .nil) rfl ⟨Jx,.ints _ _,trivial⟩ hK
 simp_all
structure Bytes (xs:LI):Prop where
 h:∀i:Nat,0<=xs.getD i 0/\xs.getD i 0<=255
def inZ:InS:=⟨Z7,0,0,Z7,Z7,Z7⟩
def ZhO:ZR:=⟨0,0,Z7,Z7,Z7,Z7,0,0⟩
theorem ZhP (x:InS) (b:Bool) (hx:x.Ok) (hb:b=ZY x):
  evF G0 20 88 [.agg x.c] ⟨0,[]⟩ (Xf (fun v=>v=.bool b)):=by
 refine @Eq.mpr _ (let j:=x.way;let L:=j==1;let r:=j==4;let e:=decide (j>=1);let d:=decide (j<=6);let o:=x.name;let c:=decide (o.length=32/\o.length=32);let k:=x.tag;let n:=decide (k.length=32/\k.length=32);let m:=x.also;let z:=decide (m.length=32/\m.length=32);let l:=x.secret;let y:=decide (l.length=32/\l.length=32);let i:=o==o;let w:=x.index;let h:=w==w;let g:=j==j;let v:=k==k;let M:=m==m;let K:=l==l;let J:=M&&K;let a:=AV.bool false=AV.bool b;let f:=Z6 (decide (w>=0)) (AV.bool (decide (w<24))=AV.bool b) a;let I:=Z6 e (Z6 d (Z6 c (Z6 n (Z6 z (Z6 y (Z6 (i&&(h&&(g&&(v&&J)))) f a) False) False) False) False) a) a;let u:=j==5;let t:=decide (l.length=32/\(32:Nat)=32);let H:=l==Z7;let G:=M&&H;let s:=decide (m.length=32/\(32:Nat)=32);let F:=m==Z7;let E:=F&&K;let D:=Z6 e (Z6 d (Z6 c (Z6 n (Z6 s (Z6 y (Z6 (i&&(h&&(g&&(v&&E)))) f a) False) False) False) False) a) a;let C:=F&&H;let q:=decide (k.length=32/\(32:Nat)=32);let p:=k==Z7;let B:=Z6 e (Z6 d (Z6 c (Z6 q (Z6 z (Z6 y (Z6 (i&&(h&&(g&&(p&&J)))) f a) False) False) False) False) a) a;let A:=Z6 e (Z6 d (Z6 c (Z6 q (Z6 s (Z6 y (Z6 (i&&(h&&(g&&(p&&E)))) f a) False) False) False) False) a) a;
 Z6 (j !=4) (Z6 L (Z6 r I (Z6 u I (Z6 e (Z6 d (Z6 c (Z6 n (Z6 z (Z6 t (Z6 (i&&(h&&(g&&(v&&G)))) f a) False) False) False) False) a) a))) (Z6 r D (Z6 u D (Z6 e (Z6 d (Z6 c (Z6 n (Z6 s (Z6 t (Z6 (i&&(h&&(g&&(v&&C)))) f a) False) False) False) False) a) a)))) (Z6 L (Z6 r B (Z6 u B (Z6 e (Z6 d (Z6 c (Z6 q (Z6 z (Z6 t (Z6 (i&&(h&&(g&&(p&&G)))) f a) False) False) False) False) a) a))) (Z6 r A (Z6 u A (Z6 e (Z6 d (Z6 c (Z6 q (Z6 s (Z6 t (Z6 (i&&(h&&(g&&(p&&C)))) f a) False) False) False) False) a) a))))) (by kernel_rfl) ?_
 conv=>zeta
 obtain ⟨h1,h2,h3,h4⟩:=hx
 subst hb
 have hz:[(0:Int),0,0,0,0,0,0,0,0,0,0,0,0,0,0,0,0,0,0,0,0,0,0,0,0,0,0,0,0,0,0,0]=Z7:=rfl
 simp only [hz,QM]
 unfold ZY
 generalize (x.secret==Z7)=bs
 generalize (x.also==Z7)=ba
 generalize (x.tag==Z7)=bt
 by_cases w1:x.way=1
 ·cases bs<;>simp [w1,h1,h2,h3,h4]<;>first|omega|grind
 by_cases w2:x.way=2
 ·cases bs<;>cases ba<;>simp [w2,h1,h2,h3,h4]<;>first|omega|grind
 by_cases w3:x.way=3
 ·cases bs<;>cases ba<;>simp [w3,h1,h2,h3,h4]<;>first|omega|grind
 by_cases w4:x.way=4
 ·cases bt<;>cases ba<;>simp [w4,h1,h3]<;>first|grind
 by_cases w5:x.way=5
 ·cases ba<;>simp [h3]<;>first|grind
 by_cases w6:x.way=6
 ·cases bs<;>cases ba<;>simp [h3]<;>first|grind
 cases bs<;>cases ba<;>simp [h3]<;>first|omega
theorem Z8v {a b:Int} (ha:0<=a/\a<256) (hb:0<=b/\b<256):(Z0P a=Z0P b↔a=b)/\(Z0P a<Z0P b↔a<b):=by
 grind [Z0P,UInt8.lt_iff_toNat_lt,UInt8.toNat_ofNat']
theorem Bytes.getD {xs:LI} (h:Bytes xs) (i:Nat):0<=xs.getD i 0/\xs.getD i 0<256:=by
 have:=h.h i
 omega
theorem Zgj {x y:LI} {b:Bool} {i:Nat} {P:Prop} (hx:i<x.length) (hy:i<y.length) (bx:Bytes x) (yb:Bytes y) (hb:b=decide (Z0Q (x.drop i) (y.drop i)>0)) (hP:b=decide (Z0Q (x.drop (i+1)) (y.drop (i+1))>0)->P):
  Z6 (x.getD i 0 !=y.getD i 0) (AV.bool (decide (x.getD i 0>y.getD i 0))=AV.bool b) P:=by
 have e1:x.drop i=x.getD i 0::x.drop (i+1):=by simp_all
 have e2:y.drop i=y.getD i 0::y.drop (i+1):=by rw [List.drop_eq_getElem_cons hy];grind
 rw [e1,e2] at hb
 have k1:=Z8v (bx.getD i) (yb.getD i)
 have k2:=Z8v (yb.getD i) (bx.getD i)
 generalize x.getD i 0=u at*
 generalize y.getD i 0=v at*
 simp only [Z0Q,JN,Lib.compareBytes,k1.2,k2.2] at hb
 rw [QM]
 constructor
 ·rw [hb]
  by_cases h1:u<v
  ·simp [h1];omega
  grind
 ·intro h
  have h:u=v:=by simp_all
  subst h
  simp only [Int.lt_irrefl] at hb
  exact hP hb
theorem ZhQ (x y:LI) (b:Bool) (hx:x.length=32) (hy:y.length=32) (bx:Bytes x) (yb:Bytes y) (hb:b=decide (Z0Q (x.drop 0) (y.drop 0)>0)):
  evF G0 20 79 [.agg [.arr .u8 32 x],.agg [.arr .u8 32 y]] ⟨0,[]⟩ (Xf (fun v=>v=.bool b)):=by
 refine @Eq.mpr _ (let a:=AV.bool b;
 Z6 (List.getD x 0 0 !=List.getD y 0 0) (AV.bool (decide (List.getD x 0 0>List.getD y 0 0))=a)
 (Z6 (List.getD x 1 0 !=List.getD y 1 0) (AV.bool (decide (List.getD x 1 0>List.getD y 1 0))=a)
 (Z6 (List.getD x 2 0 !=List.getD y 2 0) (AV.bool (decide (List.getD x 2 0>List.getD y 2 0))=a)
 (Z6 (List.getD x 3 0 !=List.getD y 3 0) (AV.bool (decide (List.getD x 3 0>List.getD y 3 0))=a)
 (Z6 (List.getD x 4 0 !=List.getD y 4 0) (AV.bool (decide (List.getD x 4 0>List.getD y 4 0))=a)
 (Z6 (List.getD x 5 0 !=List.getD y 5 0) (AV.bool (decide (List.getD x 5 0>List.getD y 5 0))=a)
 (Z6 (List.getD x 6 0 !=List.getD y 6 0) (AV.bool (decide (List.getD x 6 0>List.getD y 6 0))=a)
 (Z6 (List.getD x 7 0 !=List.getD y 7 0) (AV.bool (decide (List.getD x 7 0>List.getD y 7 0))=a)
 (Z6 (List.getD x 8 0 !=List.getD y 8 0) (AV.bool (decide (List.getD x 8 0>List.getD y 8 0))=a)
 (Z6 (List.getD x 9 0 !=List.getD y 9 0) (AV.bool (decide (List.getD x 9 0>List.getD y 9 0))=a)
 (Z6 (List.getD x 10 0 !=List.getD y 10 0) (AV.bool (decide (List.getD x 10 0>List.getD y 10 0))=a)
 (Z6 (List.getD x 11 0 !=List.getD y 11 0) (AV.bool (decide (List.getD x 11 0>List.getD y 11 0))=a)
 (Z6 (List.getD x 12 0 !=List.getD y 12 0) (AV.bool (decide (List.getD x 12 0>List.getD y 12 0))=a)
 (Z6 (List.getD x 13 0 !=List.getD y 13 0) (AV.bool (decide (List.getD x 13 0>List.getD y 13 0))=a)
 (Z6 (List.getD x 14 0 !=List.getD y 14 0) (AV.bool (decide (List.getD x 14 0>List.getD y 14 0))=a)
 (Z6 (List.getD x 15 0 !=List.getD y 15 0) (AV.bool (decide (List.getD x 15 0>List.getD y 15 0))=a)
 (Z6 (List.getD x 16 0 !=List.getD y 16 0) (AV.bool (decide (List.getD x 16 0>List.getD y 16 0))=a)
 (Z6 (List.getD x 17 0 !=List.getD y 17 0) (AV.bool (decide (List.getD x 17 0>List.getD y 17 0))=a)
 (Z6 (List.getD x 18 0 !=List.getD y 18 0) (AV.bool (decide (List.getD x 18 0>List.getD y 18 0))=a)
 (Z6 (List.getD x 19 0 !=List.getD y 19 0) (AV.bool (decide (List.getD x 19 0>List.getD y 19 0))=a)
 (Z6 (List.getD x 20 0 !=List.getD y 20 0) (AV.bool (decide (List.getD x 20 0>List.getD y 20 0))=a)
 (Z6 (List.getD x 21 0 !=List.getD y 21 0) (AV.bool (decide (List.getD x 21 0>List.getD y 21 0))=a)
 (Z6 (List.getD x 22 0 !=List.getD y 22 0) (AV.bool (decide (List.getD x 22 0>List.getD y 22 0))=a)
 (Z6 (List.getD x 23 0 !=List.getD y 23 0) (AV.bool (decide (List.getD x 23 0>List.getD y 23 0))=a)
 (Z6 (List.getD x 24 0 !=List.getD y 24 0) (AV.bool (decide (List.getD x 24 0>List.getD y 24 0))=a) (Z6 (List.getD x 25 0 !=List.getD y 25 0) (AV.bool (decide (List.getD x 25 0>List.getD y 25 0))=a) (Z6 (List.getD x 26 0 !=List.getD y 26 0) (AV.bool (decide (List.getD x 26 0>List.getD y 26 0))=a) (Z6 (List.getD x 27 0 !=List.getD y 27 0) (AV.bool (decide (List.getD x 27 0>List.getD y 27 0))=a) (Z6 (List.getD x 28 0 !=List.getD y 28 0) (AV.bool (decide (List.getD x 28 0>List.getD y 28 0))=a) (Z6 (List.getD x 29 0 !=List.getD y 29 0) (AV.bool (decide (List.getD x 29 0>List.getD y 29 0))=a) (Z6 (List.getD x 30 0 !=List.getD y 30 0) (AV.bool (decide (List.getD x 30 0>List.getD y 30 0))=a) (Z6 (List.getD x 31 0 !=List.getD y 31 0) (AV.bool (decide (List.getD x 31 0>List.getD y 31 0))=a) (AV.bool false=a))))))))))))))))))))))))))))))))) (by kernel_rfl) ?_
 conv=>zeta
 iterate 32 refine Zgj (by omega) (by omega) bx yb hb fun hb=> ?_
 rw [K3 (by omega),K3 (by omega)] at hb
 have h0:Z0Q [] []=0:=rfl
 simp_all
theorem Zed (args:List AV) (h:Z8) (K:AV->Prop) (hl:inS ZY args h K):Zf PP 88 args h fun o h'=>∃v,o=.ret v/\h'=h/\K v:=by
 unfold inS at hl
 split at hl
 ·rename_i n i w t a s
  obtain ⟨⟨h1,h2,h3,h4⟩,hK⟩:=Zc hl
  exact W7 Zt rfl (ZhP ⟨n,i,w,t,a,s⟩ _ ⟨h1,h2,h3,h4⟩ rfl) (fun u hu=>hu▸hK)
 simp_all
def Zgk:ZM:=fun args _ K=>match args with
 | [.agg [.arr .u8 32 x],.agg [.arr .u8 32 y]]=>(x.length=32/\y.length=32)/\Bytes x/\Bytes y/\K (.bool (decide (Z0Q x y>0)))
 | _=>False
noncomputable def ZhR:Zd:=G0.withP 79 Zgk
theorem Zgl (o:ZR) (b:Bool) (ho:o.Ok) (b1:Bytes o.owner) (b2:Bytes o.other) (hb:b=Zu o):
  evF ZhR 20 29 [.agg o.c] ⟨0,[]⟩ (Xf (fun v=>v=.bool b)):=by
 refine @Eq.mpr _ (let d:=o.kind;let S:=d==2;let M:=decide (d>=3);let m:=o.delay;let E:=decide (m=m);let t:=decide (d>=4);let l:=o.expiry;let s:=decide (l=l);let e:=decide (d>=1);let k:=decide (d<=5);let n:=o.owner;let j:=decide (n.length=32/\n.length=32);let c:=o.other;let B:=decide (c.length=32/\c.length=32);let q:=o.point;let A:=decide (q.length=32/\q.length=32);let p:=o.hash;let z:=decide (p.length=32/\p.length=32);let i:=d==d;let r:=o.amount;let h:=r==r;let g:=n==n;let y:=c==c;let R:=q==q;let Q:=p==p;let P:=m==m;let O:=l==l;let N:=R&&(Q&&(P&&O));let D:=AV.bool b;let a:=AV.bool false=D;let f:=Z6 (decide (r>0)) (Z6 (decide (r>=0)) (Z6 (decide (r<=1125899906842624)) (Z6 (decide (m>=0)) (Z6 (decide (m<=2147483647)) (Z6 (decide (l>=0)) (Z6 (decide (l<=2147483647)) (Z6 S ((n.length=32/\c.length=32)/\Bytes n/\Bytes c/\(AV.bool !decide (Z0Q n c>0))=D) (AV.bool true=D)) a) a) a) a) a) a) a;let x:=decide (p.length=32/\(32:Nat)=32);let L:=p==Z7;let K:=l==0;let J:=R&&(L&&(P&&K));let w:=decide (q.length=32/\(32:Nat)=32);let I:=q==Z7;let H:=m==0;let G:=I&&(Q&&(H&&O));let F:=I&&(L&&(H&&K));let C:=Z6 M (Z6 E (Z6 t (Z6 s (Z6 e (Z6 k (Z6 j (Z6 B (Z6 A (Z6 z (Z6 (i&&(h&&(g&&(y&&N)))) f a) False) False) False) False) a) a) False) (Z6 e (Z6 k (Z6 j (Z6 B (Z6 A (Z6 x (Z6 (i&&(h&&(g&&(y&&J)))) f a) False) False) False) False) a) a)) False) (Z6 t (Z6 s (Z6 e (Z6 k (Z6 j (Z6 B (Z6 w (Z6 z (Z6 (i&&(h&&(g&&(y&&G)))) f a) False) False) False) False) a) a) False) (Z6 e (Z6 k (Z6 j (Z6 B (Z6 w (Z6 x (Z6 (i&&(h&&(g&&(y&&F)))) f a) False) False) False) False) a) a));let v:=decide (c.length=32/\(32:Nat)=32);let u:=c==Z7;
 Z6 S C (Z6 (d==4) C (Z6 (d==5) C (Z6 M (Z6 E (Z6 t (Z6 s (Z6 e (Z6 k (Z6 j (Z6 v (Z6 A (Z6 z (Z6 (i&&(h&&(g&&(u&&N)))) f a) False) False) False) False) a) a) False) (Z6 e (Z6 k (Z6 j (Z6 v (Z6 A (Z6 x (Z6 (i&&(h&&(g&&(u&&J)))) f a) False) False) False) False) a) a)) False) (Z6 t (Z6 s (Z6 e (Z6 k (Z6 j (Z6 v (Z6 w (Z6 z (Z6 (i&&(h&&(g&&(u&&G)))) f a) False) False) False) False) a) a) False) (Z6 e (Z6 k (Z6 j (Z6 v (Z6 w (Z6 x (Z6 (i&&(h&&(g&&(u&&F)))) f a) False) False) False) False) a) a)))))) (by kernel_rfl) ?_
 conv=>zeta
 obtain ⟨h1,h2,h3,h4⟩:=ho
 subst hb
 have hz:[(0:Int),0,0,0,0,0,0,0,0,0,0,0,0,0,0,0,0,0,0,0,0,0,0,0,0,0,0,0,0,0,0,0]=Z7:=rfl
 simp only [hz,QM,W3]
 unfold Zu
 generalize (o.other==Z7)=bo
 generalize (o.point==Z7)=bp
 generalize (o.hash==Z7)=bh
 generalize Z0Q o.owner o.other=cc
 by_cases k1:o.kind=1
 ·cases bo<;>cases bp<;>cases bh<;>simp [k1,h1,h2,h3,h4,b1,b2]<;>first|omega|grind
 by_cases k2:o.kind=2
 ·cases bp<;>cases bh<;>simp [k2,h1,h2,h3,h4,b1,b2]<;>first|omega|grind
 by_cases k3:o.kind=3
 ·cases bo<;>cases bh<;>simp [k3,h1,h2,h3,h4,b1,b2]<;>first|omega|grind
 by_cases k4:o.kind=4
 ·simp [k4,h1,h2,h3,b1]<;>first|omega
 by_cases k5:o.kind=5
 ·simp [b1]<;>first|omega
 cases bo<;>cases bp<;>cases bh<;>simp [b1]<;>first|omega
theorem Zc1 (args:List AV) (h:Z8) (K:AV->Prop) (hl:Zgk args h K):Zf PP 79 args h fun o h'=>∃v,o=.ret v/\h'=h/\K v:=by
 unfold Zgk at hl
 split at hl
 ·obtain ⟨⟨h1,h2⟩,b1,b2,hK⟩:=hl
  exact W7 Zt rfl (ZhQ _ _ _ h1 h2 b1 b2 rfl) (fun u hu=>hu▸hK)
 simp_all
theorem Zee:ZhR.Ok:=Zd.withP_ok Zt Zc1
def Z4O (R:ZR->Bool):ZM:=fun args _ K=>match args with
 | [.agg [.int .i64 kd,.int .i64 am,.arr .u8 32 ow,.arr .u8 32 ot,.arr .u8 32 po,.arr .u8 32 ha,.int .i64 de,.int .i64 ex]]=>Z5 (ow.length=32/\ot.length=32/\po.length=32/\ha.length=32) ((Bytes ow/\Bytes ot)/\K (.bool (R ⟨kd,am,ow,ot,po,ha,de,ex⟩)))
 | _=>False
theorem Z5X (args:List AV) (h:Z8) (K:AV->Prop) (hl:Z4O Zu args h K):Zf PP 29 args h fun o h'=>∃v,o=.ret v/\h'=h/\K v:=by
 unfold Z4O at hl
 split at hl
 ·rename_i kd am ow ot po ha de ex
  obtain ⟨⟨h1,h2,h3,h4⟩,⟨b1,b2⟩,hK⟩:=Zc hl
  exact W7 Zee rfl (Zgl ⟨kd,am,ow,ot,po,ha,de,ex⟩ _ ⟨h1,h2,h3,h4⟩ b1 b2 rfl) (fun u hu=>hu▸hK)
 simp_all
noncomputable def E35:Zd:=(G0.withP 88 (inS ZY)).withP 29 (Z4O Zu)
theorem Z7w:E35.Ok:=Zd.withP_ok (Zd.withP_ok Zt Zed) Z5X
def Zgm {ι:Type} (S:ι->Nat->St->KE->Prop):Nat->St->KE->Prop:=fun k s X=>∃i,S i k s X
theorem Zd.withL_ex {ι:Type} {G:Zd} (hG:G.Ok) {f:FuncId} {id:Nat} {S:ι->Nat->St->KE->Prop} (h1:∀i,(G.withL f id (S i)).Ok):(G.withL f id (Zgm S)).Ok where
 draw:=hG.draw
 psumm:=hG.psumm
 fsumm:=hG.fsumm
 lsumm:=fun f' id' S' fn c body hS hf hb hm k s X hs=>by
  simp only [Zd.withL] at hS
  split at hS
  ·cases hS
   obtain ⟨i,hs⟩:=hs
   have a1:=(h1 i).lsumm f' id' (S i) fn c body
   simp_all [Zd.withL]
  ·exact hG.lsumm f' id' S' fn c body hS hf hb hm k s X hs
def rgH (t:TxS):Z8:=⟨1,[(0,.flat t.c)]⟩
def rgP:AV:=.ptr (some ⟨0,0,0,0,0⟩)
def Z9P (t:TxS) (i:Nat):St:=⟨106,[(3,.int .i64 i),(1,rgP)],rgH t,[]⟩
def Zgn (t:TxS) (i k:Nat):St:=⟨106,[(4,.int .i64 k),(3,.int .i64 i),(1,rgP)],rgH t,[]⟩
def rgR (t:TxS):St:=⟨106,[(2,.bool false),(1,rgP)],rgH t,[]⟩
def ZhS (t:TxS):St:=⟨106,[(1,rgP)],rgH t,[]⟩
def Z7x (t:TxS) (i:Nat) (n:Int):St:=⟨106,[(6,.int .i64 i),(5,.int .i64 n),(1,rgP)],rgH t,[]⟩
def ZhT (t:TxS) (n:Int):St:=⟨106,[(5,.int .i64 n),(1,rgP)],rgH t,[]⟩
theorem ZiZ (t:TxS) (i k:Nat) (Z1 Z2 Z3:Prop) (hi:i<t.N) (hN:t.N<=24) (hk:k<=i) (ht:t.Ok) (h1:k<i->sameAt t.ins (t.ins i) k=false->Z1) (h2:k=i->Z2) (h3:k<i->sameAt t.ins (t.ins i) k=true->Z3):
  Zz E35 20 39 2 0 (Zgn t i k) (rdM 0 2 9 (Zgn t i (k+1)) (Z9P t i) (rgR t) (rgR t) Z1 Z2 Z3 False):=by
 refine @Eq.mpr _ (let f:=t.N;let o:=(↑f:Int);let n:=decide (0<=(↑k:Int)/\(↑k:Int)<o);let m:=decide (0<=(↑i:Int)/\(↑i:Int)<o);let l:=t.ins (Int.toNat (↑k:Int));let j:=l.name;let h:=t.ins (Int.toNat (↑i:Int));let g:=h.name;let c:=decide (t.num=t.num);let b:=decide (f=f);let s:=Zg t.ins;let e:=s=s;let a:=decide (t.M=t.M);let r:=ZA t.outs;let d:=r=r;let q:=decide ((↑i:Int)=(↑i:Int));let p:=Z5 (wrap i64 ((↑k:Int)+1)=(↑(k+1):Int)) (Z0 q (Z0 c (Z0 b (e/\Z0 b (Z0 a (d/\Z0 a Z1))))));
 Z6 (decide ((↑k:Int)<(↑i:Int))) (Z0 n (Z0 m (Z5 (j.length=32/\g.length=32) (Z6 (j==g) (Z0 n (Z0 m (Z6 (l.index==h.index) (Z0 c (Z0 b (e/\Z0 b (Z0 a (d/\Z0 a Z3))))) p))) p)))) (Z0 q (Z0 c (Z0 b (e/\Z0 b (Z0 a (d/\Z0 a Z2))))))) (by kernel_rfl) ?_
 conv=>zeta
 try simp only [vcA]
 try simp only [vcB]
 try simp only [vcC]
 have e1:=(ht.ins i hi).name
 have e2:k<t.N->(t.ins k).name.length=32:=fun h=>(ht.ins k h).name
 have hw:i64.wrap ((k:Int)+1)=((k+1:Nat):Int):=w64 (by omega)
 rw [hw]
 unfold sameAt U4 at h1 h3
 refine ⟨fun hlt=> ?_,fun hge=> ?_⟩
 ·have hlt:k<i:=by omega
  have h1:=h1 hlt
  have h3:=h3 hlt
  have e2:=e2 (by omega)
  refine ⟨by omega,by omega,⟨e2,e1⟩,fun q1=>⟨by omega,by omega,fun q2=>h3 (by rw [q1,q2];rfl),fun q2=>⟨rfl,h1 (by rw [q2,Bool.and_false])⟩⟩,fun q1=>⟨rfl,h1 (by rw [q1,Bool.false_and])⟩⟩
 ·simp [h2 (by omega)]
theorem Zj0 (t:TxS) (i:Nat) (n:Int) (Z1 Z2 Z3:Prop) (hM:t.M<=24) (hi:i<=t.M) (ht:t.Ok) (hn:0<=n/\n<=i*1125899906842624) (hB:i<t.M->Bytes (t.outs i).owner/\Bytes (t.outs i).other) (h1:i<t.M->Zu (t.outs i)=true->Z1) (h2:i=t.M->Z2) (h3:i<t.M->Zu (t.outs i)=false->Z3):
  Zz E35 20 39 4 0 (Z7x t i n) (rdM 0 4 9 (Z7x t (i+1) (n+(t.outs i).amount)) (ZhT t n) (rgR t) (rgR t) Z1 Z2 Z3 False):=by
 refine @Eq.mpr _ (let d:=t.M;let o:=decide (0<=(↑i:Int)/\(↑i:Int)<(↑d:Int));let a:=t.outs (Int.toNat (↑i:Int));let g:=a.owner;let f:=a.other;let m:=a.point;let l:=a.hash;let k:=a.amount;let e:=decide (t.num=t.num);let c:=decide (t.N=t.N);let q:=Zg t.ins;let j:=q=q;let b:=decide (d=d);let p:=ZA t.outs;let h:=p=p;
 Z6 (decide ((↑i:Int)<(↑d:Int))) (Z0 o (Z5 (g.length=32/\f.length=32/\m.length=32/\l.length=32) ((Bytes g/\Bytes f)/\Z6 (!Zu (ZR.mk a.kind k g f m l a.delay a.expiry)) (Z0 e (Z0 c (j/\Z0 c (Z0 b (h/\Z0 b Z3))))) (Z0 o (Z5 (wrap i64 ((↑i:Int)+1)=(↑(i+1):Int)) (Z5 (wrap i64 (n+k)=n+(t.outs i).amount) (Z0 e (Z0 c (j/\Z0 c (Z0 b (h/\Z0 b Z1))))))))))) (Z5 (n=n) (Z0 e (Z0 c (j/\Z0 c (Z0 b (h/\Z0 b Z2))))))) (by kernel_rfl) ?_
 conv=>zeta
 try simp only [vcA]
 try simp only [vcB]
 try simp only [vcC]
 have hw:i64.wrap ((i:Int)+1)=((i+1:Nat):Int):=w64 (by omega)
 rw [hw]
 refine ⟨fun hlt=> ?_,fun hge=> ?_⟩
 ·have hlt:i<t.M:=by omega
  obtain ⟨e1,e2,e3,e4⟩:=ht.outs i hlt
  obtain ⟨b1,b2⟩:=hB hlt
  have h1:=h1 hlt
  have h3:=h3 hlt
  have hw2:Zu (t.outs i)=true->i64.wrap (n+(t.outs i).amount)=n+(t.outs i).amount:=fun h=>by
   have:=(Yj h).2
   exact w64 (by omega)
  refine ⟨by omega,⟨e1,e2,e3,e4⟩,⟨b1,b2⟩,fun q=>h3 (by simpa using q),fun q=>⟨by omega,rfl,hw2 (by simpa using q),h1 (by simpa using q)⟩⟩
 ·simp [h2 (by omega)]
noncomputable def Zef (t:TxS):Zd:=E35.withL 39 2 (Zgm fun i:Nat=>goM 0 (Zgn t i 0) (i<t.N/\t.N<=24/\t.Ok) (Y9 2 i 9 (fun k=>sameAt t.ins (t.ins i) k=false) (fun k=>k=i) (fun k=>k<i/\sameAt t.ins (t.ins i) k=true) (fun _=>False) (fun _=>Z9P t i) (fun _=>rgR t) (fun _=>rgR t)))
theorem Zeg (t:TxS):(Zef t).Ok:=
 Zd.withL_ex Z7w fun i=>Zd.withGoM (N:=20) Z7w (by kernel_rfl) fun hC=>⟨rfl,fun k hk hgo=>ZiZ t i k _ _ _ hC.1 hC.2.1 hk hC.2.2 (fun h1 h2=>⟨h2,h1⟩) (fun h=>h) (fun h1 h2=>⟨h1,h2⟩)⟩
def okI (t:TxS) (i:Nat):Bool:=ZY (t.ins i)&& !((List.range i).any (sameAt t.ins (t.ins i)))
theorem Zj1 (t:TxS) (i:Nat) (Z1 Z2 Z3:Prop) (hi:i<=t.N) (hN:t.N<=24) (ht:t.Ok) (h1:i<t.N->okI t i=true->Z1) (h2:i=t.N->Z2) (h3:i<t.N->okI t i=false->Z3):
  Zz (Zef t) 20 39 0 0 (Z9P t i) (rdM 0 0 9 (Z9P t (i+1)) (ZhS t) (rgR t) (rgR t) Z1 Z2 Z3 False):=by
 refine @Eq.mpr _ (let d:=t.N;let c:=t.ins (Int.toNat (↑i:Int));let o:=c.name;let n:=c.tag;let m:=c.also;let l:=c.secret;let f:=decide (t.num=t.num);let a:=decide (d=d);let e:=t.ins;let r:=Zg e;let h:=r=r;let b:=decide (t.M=t.M);let q:=ZA t.outs;let g:=q=q;let p:=Z0 f (Z0 a (h/\Z0 a (Z0 b (g/\Z0 b Z3))));
 Z6 (decide ((↑i:Int)<(↑d:Int))) (Z5 (0<=(↑i:Int)/\(↑i:Int)<(↑d:Int)) (Z5 (o.length=32/\n.length=32/\m.length=32/\l.length=32) (Z6 (!ZY (InS.mk o c.index c.way n m l)) p (∃(i_1:Nat),Z5 ((↑i:Int)=(↑i_1:Int)) (Z0 f (Z0 a (h/\Z0 a (Z0 b (g/\Z0 b ((i_1<d/\d<=24/\TxS.Ok t)/\∀(i_2:Nat),i_2<=i_1->(∀(j:Nat),j<i_2->(fun (k:Nat)=>sameAt e (e i_1) k=false) j)->(i_2=i_1->Z5 (wrap i64 ((↑i_1:Int)+1)=(↑(i+1):Int)) (Z0 f (Z0 a (h/\Z0 a (Z0 b (g/\Z0 b Z1))))))/\(i_2<i_1/\sameAt e (e i_1) i_2=true->p)/\(False->Z0 f (Z0 a (h/\Z0 a (Z0 b (g/\Z6 b False False))))))))))))))) (Z0 f (Z0 a (h/\Z0 a (Z0 b (g/\Z0 b Z2)))))) (by kernel_rfl) ?_
 conv=>zeta
 try simp only [vcA]
 try simp only [vcB]
 try simp only [vcC]
 unfold okI at h1 h3
 refine ⟨fun hlt=> ?_,fun hge=>h2 (by omega)⟩
 have hlt:i<t.N:=by omega
 obtain ⟨e1,e2,e3,e4⟩:=ht.ins i hlt
 have h1:=h1 hlt
 have h3:=h3 hlt
 refine ⟨by omega,⟨e1,e2,e3,e4⟩,fun q=>h3 ?_,fun q=>⟨i,rfl,⟨hlt,hN,ht⟩,fun m hm hgo=>⟨fun hq=>⟨w64 (by omega),h1 ?_⟩,fun hq=>h3 ?_,fun h=>h⟩⟩⟩
 ·have q:ZY (t.ins i)=false:=by simpa using q
  rw [q,Bool.false_and]
 ·subst hq
  have q:ZY (t.ins m)=true:=by simpa using q
  rw [q,Bool.true_and]
  simp only [Jg,JY,Jl]
  intro j hj
  rw [hgo j hj]
  decide
 ·have:(List.range i).any (sameAt t.ins (t.ins i))=true:=by
   rw [JP]
   exact ⟨m,by simpa using hq.1,hq.2⟩
  rw [this,Bool.not_true,Bool.and_false]
def VB (t:TxS) (i:Nat):Int:=(amL t.outs i).sum
structure TxB (t:TxS):Prop where
 h:∀i,i<t.M->Bytes (t.outs i).owner/\Bytes (t.outs i).other
theorem Z4P {t:TxS}:∀i,(∀j,j<i->Zu (t.outs j)=true)->0<=VB t i/\VB t i<=i*1125899906842624
 | 0,_=>by simp [VB,amL]
 | i+1,h=>by
  have h1:=Z4P i (fun j hj=>h j (by omega))
  have h2:=(Yj (h i (by omega))).2.1
  grind [VB,Z2n]
theorem Z9Q (t:TxS) (i:Nat):VB t (i+1)=VB t i+(t.outs i).amount:=by unfold VB;rw [Z2n];simp
def ZhU (t:TxS):Nat->St->KE->Prop:=goM 0 (Z9P t 0) (t.N<=24/\t.Ok) (Y9 0 t.N 9 (fun i=>okI t i=true) (fun i=>i=t.N) (fun i=>i<t.N/\okI t i=false) (fun _=>False) (fun _=>ZhS t) (fun _=>rgR t) (fun _=>rgR t))
def ZhV (t:TxS):Nat->St->KE->Prop:=goM 0 (Z7x t 0 0) (t.M<=24/\t.Ok/\TxB t) (Y9 4 t.M 9 (fun i=>Zu (t.outs i)=true) (fun i=>i=t.M) (fun i=>i<t.M/\Zu (t.outs i)=false) (fun _=>False) (fun i=>ZhT t (VB t i)) (fun _=>rgR t) (fun _=>rgR t))
noncomputable def ZhW (t:TxS):Zd:=((Zef t).withL 39 0 (ZhU t)).withL 39 4
 (ZhV t)
theorem Zeh (t:TxS):(ZhW t).Ok:=by
 have h1:((Zef t).withL 39 0 (ZhU t)).Ok:=
  Zd.withGoM (N:=20) (S:=Z9P t) (Zeg t) (by kernel_rfl) fun hC=>⟨rfl,fun i hi hgo=>Zj1 t i _ _ _ hi hC.1 hC.2 (fun h1 h2=>⟨h2,h1⟩) (fun h=>h) (fun h1 h2=>⟨h1,h2⟩)⟩
 have h2:(E35.withL 39 4 (ZhV t)).Ok:=by
  refine Zd.withGoM (N:=20) (S:=fun i=>Z7x t i (VB t i)) Z7w (by kernel_rfl) fun hC=>⟨by show Z7x t 0 (VB t 0)=_;unfold VB amL;rfl,fun i hi hgo=> ?_⟩
  show Zz E35 20 39 4 0 (Z7x t i (VB t i)) (rdM 0 4 9 (Z7x t (i+1) (VB t (i+1))) _ _ _ _ _ _ _)
  rw [Z9Q]
  exact Zj0 t i (VB t i) _ _ _ hC.1 hi hC.2.1 (Z4P i hgo) (fun h=>hC.2.2.h i h) (fun h1 h2=>⟨h2,h1⟩) (fun h=>h) (fun h1 h2=>⟨h1,h2⟩)
 exact Zd.withL_join (H:=E35) h1 rfl h2
def Xg (t:TxS):Bool:=decide (0<=t.num/\t.num<=2147483647)&&decide (1<=t.N/\t.N<=24)&&decide (1<=t.M/\t.M<=24)&&(List.range t.N).all (okI t)&&(List.range t.M).all (fun i=>Zu (t.outs i))&&decide (VB t t.M<=1125899906842624)
theorem Zj2 (t:TxS) (b:Bool) (ht:t.Ok) (hb:TxB t) (h:b=Xg t):
  evF (ZhW t) 20 39 [.agg t.c] ⟨0,[]⟩ (Y8 0 [] (.bool b) 0 []):=by
 refine @Eq.mpr _ (let g:=t.num;let a:=Z5 (false=b) True;let d:=t.N;let m:=(↑d:Int);let c:=t.M;let l:=(↑c:Int);let k:=decide (g=g);let e:=decide (d=d);let h:=Zg t.ins;let p:=h=h;let f:=decide (c=c);let o:=ZA t.outs;let n:=o=o;
 Z6 (decide (g>=0)) (Z6 (!decide (g<=2147483647)) a (Z6 (decide (m<1)) a (Z6 (decide (m>24)) a (Z6 (decide (l<1)) a (Z6 (decide (l>24)) a (Z0 k (Z0 e (p/\Z0 e (Z0 f (n/\Z0 f ((d<=24/\TxS.Ok t)/\∀(i:Nat),i<=d->(∀(j:Nat),j<i->(fun (i:Nat)=>okI t i=true) j)->(i=d->Z0 k (Z0 e (p/\Z0 e (Z0 f (n/\Z0 f ((c<=24/\TxS.Ok t/\TxB t)/\∀(i:Nat),i<=c->(∀(j:Nat),j<i->(fun (i:Nat)=>Zu (t.outs i)=true) j)->(i=c->Z6 (decide (VB t i>=0)) (Z5 (decide (VB t i<=1125899906842624)=b) True) a)/\(i<c/\Zu (t.outs i)=false->a)/\(False->False)))))))/\(i<d/\okI t i=false->a)/\(False->False)))))))))))) a) (by kernel_rfl) ?_
 conv=>zeta
 try simp only [vcA]
 try simp only [vcB]
 try simp only [vcC]
 subst h
 have hF:Xg t=false->false=Xg t:=fun h=>by rw [h]
 refine ⟨fun a1=>⟨fun a2=>hF ?_,fun a2=>⟨fun a3=>hF ?_,fun a3=>⟨fun a4=>hF ?_,fun a4=>⟨fun a5=>hF ?_,fun a5=>⟨fun a6=>hF ?_,fun a6=>⟨⟨by omega,ht⟩,fun i hi hgo=>⟨fun hq=>⟨⟨by omega,ht,hb⟩,fun m hm hgm=>⟨fun hr=>⟨fun a7=> ?_,fun a7=> ?_⟩,fun hr=>hF ?_,fun h=>h⟩⟩,fun hq=>hF ?_,fun h=>h⟩⟩⟩⟩⟩⟩⟩,fun a1=>hF ?_⟩
 ·unfold Xg;rw [decide_eq_false (p:=0<=t.num/\_) (by simp at a2;omega)];simp
 ·unfold Xg;rw [decide_eq_false (p:=1<=t.N/\_) (by omega)];simp
 ·unfold Xg;rw [decide_eq_false (p:=1<=t.N/\_) (by omega)];simp
 ·unfold Xg;rw [decide_eq_false (p:=1<=t.M/\_) (by omega)];simp
 ·unfold Xg;rw [decide_eq_false (p:=1<=t.M/\_) (by omega)];simp
 ·subst hq hr
  have e1:(List.range t.N).all (okI t)=true:=by
   rw [JO];intro j hj;exact hgo j (by simpa using hj)
  have e2:(List.range t.M).all (fun i=>Zu (t.outs i))=true:=by
   rw [JO];intro j hj;exact hgm j (by simpa using hj)
  unfold Xg
  rw [e1,e2,decide_eq_true (p:=0<=t.num/\_) (by simp at a2;omega),decide_eq_true (p:=1<=t.N/\_) (by omega),decide_eq_true (p:=1<=t.M/\_) (by omega)]
  simp
 ·exact absurd (Z4P m hgm).1 a7
 ·unfold Xg
  have:(List.range t.M).all (fun i=>Zu (t.outs i))=false:=by
   rw [List.all_eq_false];exact ⟨m,by simpa using hr.1,by simp [hr.2]⟩
  rw [this];simp
 ·unfold Xg
  have:(List.range t.N).all (okI t)=false:=by
   rw [List.all_eq_false];exact ⟨i,by simpa using hq.1,by simp [hq.2]⟩
  rw [this];simp
 ·unfold Xg;rw [decide_eq_false (p:=0<=t.num/\_) (by omega)];simp
theorem Z2r {x:InS} {j:Nat}:sameAt g x j=true↔(g j).name=x.name/\(g j).index=x.index:=by
 unfold sameAt U4;simp
theorem Z2s {N:Nat} {i:Nat} (hi:i<N):U5 N g (g i)=true↔∃j,j<N/\j≠i/\sameAt g (g i) j=true:=by
 have hself:sameAt g (g i) i=true:=Z2r.2 ⟨rfl,rfl⟩
 unfold U5
 rcases WF (sameAt g (g i)) N with ⟨_,hn⟩|⟨f,hf,ef,pf,hb⟩
 ·rw [hn i hi] at hself;cases hself
 rcases WF (sameAt (Qd N g) (g i)) N with ⟨_,hn⟩|⟨l,hl,el,pl,hb'⟩
 ·have:=hn (N-1-i) (by omega)
  have e:sameAt (Qd N g) (g i) (N-1-i)=sameAt g (g i) i:=by unfold sameAt Qd;grind
  rw [e,hself] at this;cases this
 have er:∀q,q<N->sameAt (Qd N g) (g i) q=sameAt g (g i) (N-1-q):=fun q _=>rfl
 rw [ef,el,bne_iff_ne]
 have hfi:f<=i:=by
  grind
 have hli:i<=N-1-l:=by
  rcases Jk (N-1-i) l with h|h
  all_goals grind
 constructor
 ·grind
 ·rintro ⟨j,hj,hne,pj⟩ h
  rcases Jk j f with h1|h1
  ·rw [hb j h1] at pj;cases pj
  ·have:=hb' (N-1-j) (by omega)
   rw [er _ (by omega),show N-1-(N-1-j)=j by omega,pj] at this;cases this
theorem Z3J {t:TxS} (h:∀j,j<t.M->Zu (t.outs j)=true):allIn 1125899906842624 (amL t.outs t.M)=true:=by
 unfold allIn
 rw [Jg,JY]
 intro j hj
 have hj:j<t.M:=by simpa [QN] using hj
 have:=(Yj (h j hj)).2.1
 grind [amL,Yf,Vw]
theorem Z9R (t:TxS):Xg t=Yh Yd t:=by
 rw [JX]
 unfold Xg Yh
 simp only [J1,decide_eq_true_eq,JO,Jl,Jg,JY]
 constructor
 ·rintro ⟨⟨⟨⟨⟨h1,h2⟩,h3⟩,h4⟩,h5⟩,h6⟩
  refine ⟨⟨⟨⟨⟨h1,h2⟩,h3⟩,fun i hi=> ?_⟩,fun i hi=> ?_⟩, ?_⟩
  ·have h:=h4 i hi
   unfold okI at h
   simp only [J1,JY] at h
   unfold Yt Vt
   rw [h.1,Bool.not_true,Bool.false_or]
   intro hq
   obtain ⟨j,hj,hne,hs⟩:=(Z2s hi).1 hq
   rcases Nat.lt_or_gt_of_ne hne with h0|h0
   ·simp_all
   ·have h':=h4 j hj
    unfold okI at h'
    simp only [J1,Jg,JY,Jl] at h'
    grind [Z2r]
  all_goals simp_all [Ya,Qe,Yd,VB,Z3J]
 ·rintro ⟨⟨⟨⟨⟨h1,h2⟩,h3⟩,h4⟩,h5⟩,h6⟩
  have h5':∀j,j<t.M->Zu (t.outs j)=true:=fun j hj=>by
   simp_all [Ya,Qe]
  refine ⟨⟨⟨⟨⟨h1,h2⟩,h3⟩,fun i hi=> ?_⟩,h5'⟩, ?_⟩
  ·have h:=h4 i hi
   unfold Yt Vt at h
   unfold okI
   grind [Z2s]
  ·unfold Yd at h6
   rw [if_pos (Z3J h5')] at h6
   split at h6
   ·assumption
   ·cases h6
def Zc2 (A:LI->Int×Int):ZM:=fun args h K=>ZL none h true 20 args fun a=>match a with
 | [.agg l]=>∃t,Z0V l t/\t.Ok/\TxB t/\K (.bool (Yh A t))
 | _=>False
theorem Z9S (args:List AV) (h:Z8) (K:AV->Prop) (hl:Zc2 Yd args h K):Zf PP 39 args h fun o h'=>∃v,o=.ret v/\h'=h/\K v:=by
 refine Zv.psumm (d:=20) (Zi _ _ _ _ _ hl fun a ha=> ?_)
 split at ha
 ·obtain ⟨t,h1,h2,h3,hK⟩:=ha
  refine ⟨_,(Zv.ev (Zeh t) (Zj2 t _ h2 h3 rfl)).conv fun E r hr=>hr.head (fun _ hc=>h1.rel hc) (fun _ hc=>hc),fun _=>rfl, ?_⟩
  rw [Z9R]
  exact hK
 simp_all
end Go.Tk
end
