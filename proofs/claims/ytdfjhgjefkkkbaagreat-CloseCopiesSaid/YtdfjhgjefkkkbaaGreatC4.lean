/- C: part 4 of an engine (a symbolic evaluator, proved against the model) and of the walk by it. -/
import Derived.Test.YtdfjhgjefkkkbaaGreatC3
import Derived.OpenShut
import Derived.WideShapes
import Derived.ChangeSlices
import Derived.WalkKit
import Derived.ProofKit
import Derived.Below
import Derived.Handed
import Derived.Carry
set_option linter.unusedVariables false
set_option linter.unusedSimpArgs false
set_option maxRecDepth 100000
set_option maxHeartbeats 0
section
namespace Go.Tk
open IntKind (i64 u8 u32 u64 wrap)
variable {σ:List Nat} {B:Blk} {args:List AV} {K0:List Blk->List AV->Prop} {v:AV} {nx:Nat}
def XA:List Nat->Nat->Option Nat
 | [],_=>none
 | x::_,0=>some x
 | _::r,n+1=>XA r n
def Wa:List Nat->Nat->Option Nat
 | [],_=>none
 | y::r,x=>match Nat.beq y x with
  | true=>some 0
  | false=>match Wa r x with|some i=>some (i+1)|none=>none
theorem U2:∀{σ:List Nat} {x i:Nat},Wa σ x=some i->XA σ i=some x
 | [],_,_,h=>by simp [Wa] at h
 | y::r,x,i,h=>by
  unfold Wa at h
  split at h
  ·grind [J0,XA]
  ·split at h
   ·rename_i j hj
    cases h
    exact (U2 (σ:=r) hj:XA r _=some x)
   ·cases h
theorem Z1n:∀{σ:List Nat} {x:Nat},Wa σ x=none->x∉σ
 | [],_,_=>by simp
 | y::r,x,h=>by
  unfold Wa at h
  split at h
  ·cases h
  ·rename_i hb
   split at h
   ·cases h
   ·rename_i hj
    intro hm
    rcases Jc.1 hm with rfl|hm
    ·simp [Jl] at hb
    ·exact Z1n hj hm
theorem XT:∀{σ:List Nat} {i x:Nat},XA σ i=some x->x∈σ
 | [],_,_,h=>by simp [XA] at h
 | y::r,0,x,h=>by simp [XA] at h;simp [h]
 | y::r,i+1,x,h=>Jp _ (XT (σ:=r) h)
theorem Zg8:∀{σ:List Nat} {i x:Nat},XA σ i=some x->i<σ.length
 | [],_,_,h=>by simp [XA] at h
 | y::r,0,x,h=>by simp
 | y::r,i+1,x,h=>by have:=Zg8 (σ:=r) h;simp;omega
theorem Za2:∀{σ:List Nat} {i:Nat},σ.length<=i->XA σ i=none
 | [],_,_=>by simp [XA]
 | y::r,0,h=>by simp at h
 | y::r,i+1,h=>by simp at h;exact Za2 (σ:=r) h
def Env.borL (E:Env) (σ:List Nat) (w:World) (t:Bool):Env:=
 ⟨fun y=>match t with|true=>(match XA σ y with|some x=>E.blk x|none=>none)|false=>none,fun a c=>w.cell? a=some c/\∀x,x∈σ->∀N,E.blk x=some (a.block,N)->False⟩
mutual
def vwV (σ:List Nat) (h:Z8) (t:Bool):Nat->AV->(AV->Prop)->Prop
 | 0,_,_=>False
 | d+1,v,K=>match v with
  | .top=>K .top
  | .bool b=>K (.bool b)
  | .int k n=>K (.int k n)
  | .str s=>K (.str s)
  | .ptr none=>K (.ptr none)
  | .eslice=>K .eslice
  | .fslice=>K .fslice
  | .nilslice=>K .nilslice
  | .map none=>K (.map none)
  | .nilFunc=>K .nilFunc
  | .nilIface=>K .nilIface
  | .pview cs inn=>K (.pview cs inn)
  | .vints k xs len=>K (.vints k xs len)
  | .vrows esz n f len=>K (.vrows esz n f len)
  | .ptr (some p)=>match Wa σ p.blk with
   | some i=>match t with|false=>False|true=>K (.ptr (some ⟨i,p.row,p.sz,p.off,p.inn⟩))
   | none=>match h.get p.blk with
    | some (.flat cs)=>match p.row,YN p.off cs with
     | 0,some rest=>vwC σ h false d rest fun rest'=>K (.pview rest' p.inn)
     | _,_=>False
    | some (.rows sz n f)=>match Nat.beq sz p.sz with
     | true=>Z7 (p.row<n) (match YN p.off (f p.row) with
      | some rest=>vwC σ h false d rest fun rest'=>K (.pview rest' p.inn)
      | none=>False)
     | false=>False
    | _=>False
  | .nslice p esz len lo=>match Wa σ p.blk with
   | some i=>match t with|false=>False|true=>K (.nslice ⟨i,p.row,p.sz,p.off,p.inn⟩ esz len lo)
   | none=>match h.get p.blk with
    | some (.ints k xs)=>match Nat.beq esz 1 with
     | true=>Z7 (p.tot+len<=xs.length) (K (.vints k ((ZX p.tot xs).take len) len))
     | false=>False
    | some (.rows sz n f)=>match Nat.beq sz esz&&Nat.beq p.off 0&&Nat.beq p.inn 0&&(Nat.beq p.sz esz||Nat.beq p.row 0) with
     | true=>Z7 (p.row+len<=n) ((∀i,i<len->plainC (Yu p.row f i)=true)/\K (.vrows esz len (Yu p.row f) len))
     | false=>False
    | some (.flat cs)=>match p.row,YN p.off cs with
     | 0,some rest=>match Z9Y rest&&Nat.beq esz 1 with
      | true=>match rest with
       | .arr k n xs::_=>match Nat.beq esz 1,Nat.beq p.inn 0&&Nat.beq len n with
        | true,true=>Z7 (xs.length=n) (K (.vints k xs len))
        | true,false=>Z7 (xs.length=n/\p.inn+len<=n) (K (.vints k ((ZX p.inn xs).take len) len))
        | false,_=>False
       | _=>False
      | false=>match Nat.beq p.inn 0,takeC (len*esz) rest with
       | true,some part=>vwC σ h false d part fun part'=>match QY part' 0 esz len with
        | true=>K (.vrows esz len (Ye part' 0 esz) len)
        | false=>False
       | _,_=>False
     | _,_=>False
    | _=>False
  | .func (.func g) fs cs=>vwL σ h t d fs fun fs'=>vwL σ h t d cs fun cs'=>K (.func (.func g) fs' cs')
  | .iface T u=>vwV σ h t d u fun u'=>K (.iface T u')
  | .agg cs=>vwC σ h t d cs fun cs'=>K (.agg cs')
  | .tuple vs=>vwL σ h t d vs fun vs'=>K (.tuple vs')
  | _=>False
def vwC (σ:List Nat) (h:Z8) (t:Bool):Nat->List AV->(List AV->Prop)->Prop
 | 0,_,_=>False
 | d+1,l,K=>match l with
  | []=>K []
  | .arr k n xs::r=>vwC σ h t d r fun r'=>K (.arr k n xs::r')
  | v::r=>vwV σ h t d v fun v'=>match v'.isCell with
   | true=>vwC σ h t d r fun r'=>K (v'::r')
   | false=>False
def vwL (σ:List Nat) (h:Z8) (t:Bool):Nat->List AV->(List AV->Prop)->Prop
 | 0,_,_=>False
 | d+1,l,K=>match l with
  | []=>K []
  | v::r=>vwV σ h t d v fun v'=>vwL σ h t d r fun r'=>K (v'::r')
end
theorem Z3k {E:Env} {w:World} {t:Bool} {h:Z8} (he:Emb E h w) (hm:∀x,x∈σ->∃B,h.get x=some B):E.views.le (E.borL σ w t).views:=
 ⟨fun _ _ hq=>by simp [Env.views] at hq,fun a c hi=>⟨he.imm a c hi,fun x hx N hb=>let ⟨B,hB⟩:=hm x hx;he.sep a c x B N hi hB hb⟩⟩
theorem Z3l {E:Env} {w:World} {t:Bool} {h:Z8} (he:Emb E h w) (hm:∀x,x∈σ->∃B,h.get x=some B) {a:Addr} {c:Value} (hi:E.imm a c):(E.borL σ w t).imm a c:=
 ⟨he.imm a c hi,fun x hx N hb=>let ⟨B,hB⟩:=hm x hx;he.sep a c x B N hi hB hb⟩
theorem Wb {E:Env} {w:World} {t:Bool} {h:Z8} (he:Emb E h w) (hm:∀x,x∈σ->∃B,h.get x=some B) {y b N o:Nat} (hy:h.get y=some B) (hb:E.blk y=some (b,N)) (hn:Wa σ y=none) {c:Value}
  (hc:w.cell? ⟨b,o,none⟩=some c):(E.borL σ w t).imm ⟨b,o,none⟩ c:=
 ⟨hc,fun x hx N' hbx=>by
  obtain ⟨C,hC⟩:=hm x hx
  have:=he.disj x y C B b N' N hC hy hbx hb
  subst this
  exact Z1n hn hx⟩
theorem V8 {E:Env} {w:World} {x i:Nat} (h:Wa σ x=some i):(E.borL σ w true).blk i=E.blk x:=by
 show (match XA σ i with|some x=>E.blk x|none=>none)=_
 rw [U2 h]
set_option maxHeartbeats 2000000 in
mutual
theorem Z8K {σ:List Nat} {h:Z8} (hm:∀x,x∈σ->∃B,h.get x=some B):∀(d:Nat) (t:Bool) (v:AV) (K:AV->Prop),vwV σ h t d v K->∃v₀,K v₀/\∀(E:Env) (w:World) (r:Value),Emb E h w->Zh E v r->Zh (E.borL σ w t) v₀ r
 | 0,t,v,K,hl=>by unfold vwV at hl;simp_all
 | d+1,t,v,K,hl=>by
  unfold vwV at hl
  split at hl
  ·exact ⟨_,hl,fun E w r he hv=>.top r⟩
  ·exact ⟨_,hl,fun E w r he hv=>hv.plain rfl⟩
  ·exact ⟨_,hl,fun E w r he hv=>hv.plain rfl⟩
  ·exact ⟨_,hl,fun E w r he hv=>hv.plain rfl⟩
  ·exact ⟨_,hl,fun E w r he hv=>hv.plain rfl⟩
  ·exact ⟨_,hl,fun E w r he hv=>hv.plain rfl⟩
  ·exact ⟨_,hl,fun E w r he hv=>hv.plain rfl⟩
  ·exact ⟨_,hl,fun E w r he hv=>hv.plain rfl⟩
  ·exact ⟨_,hl,fun E w r he hv=>hv.plain rfl⟩
  ·exact ⟨_,hl,fun E w r he hv=>hv.plain rfl⟩
  ·exact ⟨_,hl,fun E w r he hv=>hv.plain rfl⟩
  ·refine ⟨_,hl,fun E w r he hv=> ?_⟩
   cases hv with
   | pview cs inn a vs hc hi=>exact .pview _ _ a vs (hc.mono (Z3k he hm)) (fun j c hj=>Z3l he hm (hi j c hj))
  ·refine ⟨_,hl,fun E w r he hv=> ?_⟩
   cases hv with
   | vintsNil k xs len h1 h2=>exact .vintsNil _ _ _ h1 h2
   | vints k xs len a cap h1 h2 hi=>exact .vints _ _ _ a cap h1 h2 (fun i hi'=>Z3l he hm (hi i hi'))
  ·refine ⟨_,hl,fun E w r he hv=> ?_⟩
   cases hv with
   | vrowsNil esz n f len h1 h2=>exact .vrowsNil _ _ _ _ h1 h2
   | vrows esz n f len a cap g h1 h2 hc hl' hi=>exact .vrows _ _ _ _ a cap g h1 h2 (fun i hi'=>(hc i hi').mono (Z3k he hm)) hl' (fun i j c hi' hj=>Z3l he hm (hi i j c hi' hj))
  ·rename_i p
   split at hl
   ·rename_i ix hmv
    split at hl
    ·simp_all
    ·refine ⟨_,hl,fun E w r he hv=> ?_⟩
     cases hv with
     | ptr p b N hb=>exact .ptr ⟨ix,p.row,p.sz,p.off,p.inn⟩ b N (by rw [V8 hmv];exact hb)
   ·rename_i hmv
    split at hl
    ·rename_i cs hg
     split at hl
     ·rename_i rest hrow hrest
      obtain ⟨rest',hK,hr⟩:=Z0e hm d false rest _ hl
      refine ⟨_,hK,fun E w r he hv=> ?_⟩
      cases hv with
      | ptr p b N hb=>
       cases he.own _ _ hg with
       | flat0 cs h0 hn=>rw [hn] at hb;cases hb
       | flat cs b' cells elem fr vs hb' hw hf hc hvs=>
        rw [hb] at hb'
        cases hb'
        have hd:=(Y8 _ _ _ _ hrest hc).1
        have e:(⟨b,p.tot,none⟩:Addr)=(⟨b,p.off,none⟩:Addr).add p.inn:=by rw [addr_add];simp [ZK.tot,hrow]
        rw [e]
        refine .pview _ _ ⟨b,p.off,none⟩ _ (hr E w _ he hd) (fun j c hj=> ?_)
        rw [addr_add]
        grind [Wb,Z2a]
     simp_all
    ·rename_i sz n f hg
     split at hl
     ·rename_i hsz
      have hsz:=J0 hsz
      obtain ⟨hrow,hl⟩:=Zd hl
      split at hl
      ·rename_i rest hrest
       obtain ⟨rest',hK,hr⟩:=Z0e hm d false rest _ hl
       refine ⟨_,hK,fun E w r he hv=> ?_⟩
       cases hv with
       | ptr p b N hb=>
        cases he.own _ _ hg with
        | rows0 sz n f h0 hn=>omega
        | rows sz n f b' cells elem fr g hb' hw hf hc hlg hvs=>
         rw [hb] at hb'
         cases hb'
         have hd:=(Y8 _ _ _ _ hrest (hc _ hrow)).1
         have e:(⟨b,p.tot,none⟩:Addr)=(⟨b,p.row*sz+p.off,none⟩:Addr).add p.inn:=by rw [addr_add];simp [ZK.tot,hsz]
         rw [e]
         refine .pview _ _ ⟨b,p.row*sz+p.off,none⟩ _ (hr E w _ he hd) (fun j c hj=> ?_)
         rw [addr_add]
         grind [Wb,cell_of_heap]
      simp_all
     simp_all
    simp_all
  ·rename_i p esz len lo
   split at hl
   ·rename_i ix hmv
    split at hl
    ·simp_all
    ·refine ⟨_,hl,fun E w r he hv=> ?_⟩
     cases hv with
     | nslice0 p esz len lo a h1 h2=>exact .nslice0 _ _ _ _ a h1 h2
     | nslice p esz len lo b N cap hb h1 h2 h3=>exact .nslice ⟨ix,p.row,p.sz,p.off,p.inn⟩ _ _ _ b N cap (by rw [V8 hmv];exact hb) h1 h2 h3
   ·rename_i hmv
    split at hl
    ·rename_i k xs hg
     split at hl
     ·rename_i hes
      have hes:=J0 hes
      subst hes
      obtain ⟨hle,hK⟩:=Zd hl
      have hlen:((ZX p.tot xs).take len).length=len:=by rw [Yb,Ji,Jg];omega
      refine ⟨_,hK,fun E w r he hv=> ?_⟩
      cases hv with
      | nslice0 p esz len lo a h1 h2=>
       subst h1
       cases a with
       | none=>exact .vintsNil _ _ _ (by simp) rfl
       | some a=>exact .vints _ _ _ a 0 (by simp) (by simp) (fun i hi=>by simp at hi)
      | nslice p esz len lo b N cap hb h1 h2 h3=>
       refine .vints _ _ _ _ cap (by omega) (by omega) (fun i hi=> ?_)
       rw [hlen] at hi
       rw [addr_add]
       refine Wb he hm hg hb hmv ?_
       cases he.own _ _ hg with
       | ints0 k xs h0 hn=>rw [hn] at hb;cases hb
       | ints k xs b' cells elem fr hb' hw hf hvs=>
        rw [hb] at hb'
        cases hb'
        rw [cell_of_heap hw,hvs _ (by omega)]
        congr 2
        rw [Yb]
        simp_all
     simp_all
    ·rename_i sz n f hg
     split at hl
     ·rename_i hb
      simp only [J2,JX] at hb
      obtain ⟨⟨⟨q1,q2⟩,q3⟩,q4⟩:=hb
      have q1:=J0 q1
      have q2:=J0 q2
      have q3:=J0 q3
      obtain ⟨hle,hpl,hK⟩:=Zd hl
      refine ⟨_,hK,fun E w r he hv=> ?_⟩
      have htot:p.tot=p.row*sz:=by
       grind [J0,ZK.tot]
      cases hv with
      | nslice0 p esz len lo a h1 h2=>
       subst h1
       cases a with
       | none=>exact .vrowsNil _ _ _ _ rfl rfl
       | some a=>exact .vrows _ _ _ _ a 0 (fun _=>[]) (by omega) (by omega) (fun i hi=>by omega) (fun i hi=>by omega) (fun i j c hi=>by omega)
      | nslice p esz len lo b N cap hb h1 h2 h3=>
       cases he.own _ _ hg with
       | rows0 sz n f h0 hn=>rw [hn] at hb;cases hb
       | rows sz n f b' cells elem fr g hb' hw hf hc hlg hvs=>
        rw [hb] at hb'
        cases hb'
        refine .vrows _ _ _ _ _ cap (fun i=>g (p.row+i)) (by omega) h1 (fun i hi=> ?_) (fun i hi=>by rw [<-q1];grind) (fun i j c hi hj=> ?_)
        ·have:=hc (p.row+i) (by omega)
         have hp:=hpl i hi
         rw [Z15] at hp⊢
         exact this.plain hp
        ·rw [addr_add]
         refine Wb he hm hg hb hmv ?_
         rw [cell_of_heap hw,htot,<-q1]
         have:=hvs (p.row+i) j c (by omega) hj
         rw [K1] at this
         rw [show p.row*sz+(i*sz+j)=p.row*sz+i*sz+j by omega]
         exact this
     simp_all
    ·rename_i cs hg
     split at hl
     ·rename_i rest hrow hrest
      have hbase:∀(E:Env) (w:World) (b N:Nat),Emb E h w->E.blk p.blk=some (b,N)->∃vs,Zt E rest vs/\∀j c,vs[j]? =some c->w.cell? ⟨b,p.off+j,none⟩=some c:=by
       intro E w b N he hb
       cases he.own _ _ hg with
       | flat0 cs h0 hn=>rw [hn] at hb;cases hb
       | flat cs b' cells elem fr vs hb' hw hf hc hvs=>
        rw [hb] at hb'
        cases hb'
        refine ⟨_,(Y8 _ _ _ _ hrest hc).1,fun j c hj=> ?_⟩
        rw [JD] at hj
        exact Z2a hvs hw hj
      split at hl
      ·split at hl
       ·rename_i k n xs rest2 harr
        split at hl
        ·rename_i hes hbb
         have hes:=J0 hes
         subst hes
         rw [J2] at hbb
         have e1:=J0 hbb.1
         have e2:=J0 hbb.2
         obtain ⟨hxl,hK⟩:=Zd hl
         refine ⟨_,hK,fun E w r he hv=> ?_⟩
         cases hv with
         | nslice0 p esz len lo a h1 h2=>
          have hx0:xs=[]:=by
           grind
          subst hx0
          subst h1
          cases a with
          | none=>exact .vintsNil _ _ _ rfl rfl
          | some a=>exact .vints _ _ _ a 0 (by simp) (by simp) (fun i hi=>by simp at hi)
         | nslice p esz len lo b N cap hb h1 h2 h3=>
          obtain ⟨vs,hcr,hcell⟩:=hbase E w b N he hb
          obtain ⟨ws,rfl,_⟩:=Zt.cons_arr hcr
          refine .vints _ _ _ _ cap (by omega) (by omega) (fun i hi=> ?_)
          rw [addr_add]
          refine Wb he hm hg hb hmv ?_
          have:=hcell i (.int k (xs.getD i 0)) (by
           rw [Jd (by rw [Za];omega),Zq (by omega)])
          rw [show p.tot+i=p.off+i by simp [ZK.tot,hrow,e1]]
          exact this
        ·rename_i hes hbb
         have hes:=J0 hes
         subst hes
         obtain ⟨⟨hxl,hle⟩,hK⟩:=Zd hl
         have hlen:((ZX p.inn xs).take len).length=len:=by rw [Yb,Ji,Jg];omega
         refine ⟨_,hK,fun E w r he hv=> ?_⟩
         cases hv with
         | nslice0 p esz len lo a h1 h2=>
          subst h1
          cases a with
          | none=>exact .vintsNil _ _ _ (by simp) rfl
          | some a=>exact .vints _ _ _ a 0 (by simp) (by simp) (fun i hi=>by simp at hi)
         | nslice p esz len lo b N cap hb h1 h2 h3=>
          obtain ⟨vs,hcr,hcell⟩:=hbase E w b N he hb
          obtain ⟨ws,rfl,_⟩:=Zt.cons_arr hcr
          refine .vints _ _ _ _ cap (by omega) (by omega) (fun i hi=> ?_)
          rw [hlen] at hi
          rw [addr_add]
          refine Wb he hm hg hb hmv ?_
          have:=hcell (p.inn+i) (.int k (xs.getD (p.inn+i) 0)) (by
           rw [Jd (by rw [Za];omega),Zq (by omega)])
          rw [show p.tot+i=p.off+(p.inn+i) by simp [ZK.tot,hrow];omega]
          rw [this]
          congr 2
          rw [Yb]
          simp_all
        simp_all
       simp_all
      ·split at hl
       ·rename_i part hinn hpart
        have hinn:=J0 hinn
        obtain ⟨part',hK,hr⟩:=Z0e hm d false part _ hl
        split at hK
        ·rename_i hrows
         refine ⟨_,hK,fun E w r he hv=> ?_⟩
         cases hv with
         | nslice0 p esz len lo a h1 h2=>
          subst h1
          cases a with
          | none=>exact .vrowsNil _ _ _ _ rfl rfl
          | some a=>exact .vrows _ _ _ _ a 0 (fun _=>[]) (by omega) (by omega) (fun i hi=>by omega) (fun i hi=>by omega) (fun i j c hi=>by omega)
         | nslice p esz len lo b N cap hb h1 h2 h3=>
          obtain ⟨vs,hcr,hcell⟩:=hbase E w b N he hb
          have hpr:=(VO _ _ _ _ hpart hcr).1
          have hpr':=hr E w _ he hpr
          refine .vrows _ _ _ _ _ cap (fun i=>((vs.take (len*esz)).drop (0+i*esz)).take esz) (by omega) h1 (fun i hi=>(XK (X5 hrows i hi) hpr').1) (fun i hi=>(XK (X5 hrows i hi) hpr').2) (fun i j c hi hj=> ?_)
          rw [addr_add]
          grind [Wb,ZK.tot]
        simp_all
       simp_all
     simp_all
    simp_all
  ·obtain ⟨fs',hl,h1⟩:=Z3m hm d t _ _ hl
   obtain ⟨cs',hl,h2⟩:=Z3m hm d t _ _ hl
   refine ⟨_,hl,fun E w r he hv=> ?_⟩
   cases hv with
   | func fn first captured fs cs ha hb=>exact .func _ _ _ _ _ (h1 E w _ he ha) (h2 E w _ he hb)
  ·obtain ⟨u',hl,h1⟩:=Z8K hm d t _ _ hl
   refine ⟨_,hl,fun E w r he hv=> ?_⟩
   cases hv with
   | iface T v x hx=>exact .iface _ _ _ (h1 E w _ he hx)
  ·obtain ⟨cs',hl,h1⟩:=Z0e hm d t _ _ hl
   refine ⟨_,hl,fun E w r he hv=> ?_⟩
   cases hv with
   | agg cs vs hc=>exact .agg _ _ (h1 E w _ he hc)
  ·obtain ⟨vs',hl,h1⟩:=Z3m hm d t _ _ hl
   refine ⟨_,hl,fun E w r he hv=> ?_⟩
   cases hv with
   | tuple vs rs hc=>exact .tuple _ _ (h1 E w _ he hc)
  simp_all
theorem Z0e {σ:List Nat} {h:Z8} (hm:∀x,x∈σ->∃B,h.get x=some B):∀(d:Nat) (t:Bool) (l:List AV) (K:List AV->Prop),vwC σ h t d l K->∃l₀,K l₀/\∀(E:Env) (w:World) (r:List Value),Emb E h w->Zt E l r->Zt (E.borL σ w t) l₀ r
 | 0,t,l,K,hl=>by unfold vwC at hl;simp_all
 | d+1,t,l,K,hl=>by
  unfold vwC at hl
  split at hl
  ·exact ⟨_,hl,fun E w r he hv=>by cases hv;exact .nil⟩
  ·obtain ⟨r',hl,h1⟩:=Z0e hm d t _ _ hl
   refine ⟨_,hl,fun E w r he hv=> ?_⟩
   obtain ⟨ws,rfl,ht⟩:=Zt.cons_arr hv
   exact .arr _ _ _ _ _ (h1 E w _ he ht)
  ·rename_i v r hna
   obtain ⟨v',hl,h1⟩:=Z8K hm d t _ _ hl
   split at hl
   ·rename_i hcell
    obtain ⟨r',hl,h2⟩:=Z0e hm d t _ _ hl
    refine ⟨_,hl,fun E w q he hv=> ?_⟩
    obtain ⟨c,ws,rfl,q1,q2,q3,q4⟩:=Zt.cons_cell hv (fun k m xs e=>hna k m xs e)
    exact .one _ _ _ _ hcell q2 (h1 E w _ he q3) (h2 E w _ he q4)
   ·exact hl.elim
theorem Z3m {σ:List Nat} {h:Z8} (hm:∀x,x∈σ->∃B,h.get x=some B):∀(d:Nat) (t:Bool) (l:List AV) (K:List AV->Prop),vwL σ h t d l K->∃l₀,K l₀/\∀(E:Env) (w:World) (r:List Value),Emb E h w->ZB E l r->ZB (E.borL σ w t) l₀ r
 | 0,t,l,K,hl=>by unfold vwL at hl;simp_all
 | d+1,t,l,K,hl=>by
  unfold vwL at hl
  split at hl
  ·exact ⟨_,hl,fun E w r he hv=>by cases hv;exact .nil⟩
  ·obtain ⟨v',hl,h1⟩:=Z8K hm d t _ _ hl
   obtain ⟨r',hl,h2⟩:=Z3m hm d t _ _ hl
   refine ⟨_,hl,fun E w q he hv=> ?_⟩
   cases hv with
   | cons v c vs cs ha hb=>exact .cons _ _ _ _ (h1 E w _ he ha) (h2 E w _ he hb)
end
def vwB (σ:List Nat) (h:Z8) (d:Nat) (B:Blk) (K:Blk->Prop):Prop:=
 match B with
 | .ints k xs=>K (.ints k xs)
 | .flat cs=>vwC σ h true d cs fun cs'=>match Nat.beq (csz cs') (csz cs) with|true=>K (.flat cs')|false=>False
 | .rows sz n f=>(∀i,i<n->plainC (f i)=true)/\K (.rows sz n f)
 | _=>False
theorem Zj7 {h:Z8} (hm:∀x,x∈σ->∃B,h.get x=some B) {d:Nat} {K:Blk->Prop} (hl:vwB σ h d B K):
  ∃B₀,K B₀/\∀(E:Env) (w:World) (x i:Nat),Emb E h w->Wa σ x=some i->YF E w x B->YF (E.borL σ w true) w i B₀:=by
 unfold vwB at hl
 split at hl
 ·refine ⟨_,hl,fun E w x i he hi hb=> ?_⟩
  have hq:=V8 (E:=E) (w:=w) hi
  cases hb with
  | ints0 k xs h0 hn=>exact .ints0 _ _ h0 (hq.trans hn)
  | ints k xs b cells elem fr hb hw hf hv=>exact .ints _ _ b cells elem fr (hq.trans hb) hw hf hv
 ·obtain ⟨cs',hl,hr⟩:=Z0e hm _ _ _ _ hl
  split at hl
  ·rename_i hz
   have hz:=J0 hz
   refine ⟨_,hl,fun E w x i he hi hb=> ?_⟩
   have hq:=V8 (E:=E) (w:=w) hi
   cases hb with
   | flat0 cs h0 hn=>exact .flat0 _ (hz.trans h0) (hq.trans hn)
   | flat cs b cells elem fr vs hb hw hf hc hv=>exact .flat _ b cells elem fr vs (hq.trans hb) hw hf (hr E w vs he hc) hv
  simp_all
 ·obtain ⟨hp,hl⟩:=hl
  refine ⟨_,hl,fun E w x i he hi hb=> ?_⟩
  have hq:=V8 (E:=E) (w:=w) hi
  cases hb with
  | rows0 sz n f h0 hn=>exact .rows0 _ _ _ h0 (hq.trans hn)
  | rows sz n f b cells elem fr g hb hw hf hc hl hv=>exact .rows _ _ _ b cells elem fr g (hq.trans hb) hw hf (fun i hi=>(hc i hi).plain (hp i hi)) hl hv
 simp_all
def Zg9 (σ:List Nat) (h:Z8) (d:Nat):List Nat->(List Blk->Prop)->Prop
 | [],K=>K []
 | x::r,K=>match h.get x with
  | some B=>vwB σ h d B fun B'=>Zg9 σ h d r fun Bs=>K (B'::Bs)
  | none=>False
theorem Za3 {σ:List Nat} {h:Z8} (hm:∀x,x∈σ->∃B,h.get x=some B) {d:Nat}:∀(r:List Nat) (K:List Blk->Prop),Zg9 σ h d r K->
  ∃Bs,K Bs/\Bs.length=r.length/\∀(i x:Nat) (B:Blk),r[i]? =some x->Bs[i]? =some B->∃B',h.get x=some B'/\∀(E:Env) (w:World) (j:Nat),Emb E h w->Wa σ x=some j->YF E w x B'->YF (E.borL σ w true) w j B
 | [],K,hl=>⟨[],hl,rfl,fun i x B h=>by simp at h⟩
 | y::r,K,hl=>by
  unfold Zg9 at hl
  split at hl
  ·rename_i B' hB'
   obtain ⟨B₀,hl,hr⟩:=Zj7 hm hl
   obtain ⟨Bs,hK,hlen,hall⟩:=Za3 hm r _ hl
   refine ⟨B₀::Bs,hK,by simp [hlen],fun i x B h1 h2=> ?_⟩
   match i with
   | 0=>simp at h1 h2;subst h1;subst h2;exact ⟨B',hB',fun E w j he hj hb=>hr E w _ j he hj hb⟩
   | i+1=>exact hall i x B (by simpa using h1) (by simpa using h2)
  ·exact hl.elim
def hasB (h:Z8):List Nat->Bool
 | []=>true
 | x::r=>match h.get x with|some _=>hasB h r|none=>false
theorem Za4 {h:Z8}:∀{σ:List Nat},hasB h σ=true->∀x,x∈σ->∃B,h.get x=some B
 | [],_,x,hx=>by simp at hx
 | y::r,hl,x,hx=>by
  unfold hasB at hl
  split at hl
  ·rename_i B hB
   rcases Jc.1 hx with rfl|hx
   ·exact ⟨B,hB⟩
   ·exact Za4 hl x hx
  ·cases hl
def Z4M:List Nat->Bool
 | []=>true
 | x::r=>match Wa r x with|some _=>false|none=>Z4M r
theorem Q4:∀{σ:List Nat},Z4M σ=true->∀(i x:Nat),XA σ i=some x->Wa σ x=some i
 | [],_,i,x,h=>by simp [XA] at h
 | y::r,hd,0,x,h=>by simp_all [XA,Wa]
 | y::r,hd,i+1,x,h=>by
  unfold Z4M at hd
  split at hd
  ·cases hd
  ·rename_i hn
   have h1:XA r i=some x:=h
   have h2:=Q4 hd i x h1
   have hne:y≠x:=fun e=>Z1n hn (e▸XT h1)
   simp [Wa,Zw hne,h2]
def frA (σ:List Nat) (h:Z8) (d:Nat) (args:List AV) (K0:List Blk->List AV->Prop):Prop:=
 match hasB h σ&&Z4M σ with
 | true=>Zg9 σ h d σ fun Bs=>vwL σ h true d args fun a=>K0 Bs a
 | false=>False
theorem Z3n:∀{σ:List Nat} {i:Nat},XA σ i=σ[i]?
 | [],_=>by simp [XA]
 | x::r,0=>by simp [XA]
 | x::r,i+1=>by simp [XA,Z3n (σ:=r)]
theorem Zj8 {h:Z8} {d:Nat} (hl:frA σ h d args K0):
  (∀x,x∈σ->∃B,h.get x=some B)/\Z4M σ=true/\∃Bs a,K0 Bs a/\Bs.length=σ.length/\
   (∀(i x:Nat) (B:Blk),XA σ i=some x->Bs[i]? =some B->∃B',h.get x=some B'/\∀(E:Env) (w:World),Emb E h w->YF E w x B'->YF (E.borL σ w true) w i B)/\
   ∀(E:Env) (w:World) (r:List Value),Emb E h w->ZB E args r->ZB (E.borL σ w true) a r:=by
 unfold frA at hl
 split at hl
 ·rename_i hc
  rw [J2] at hc
  have hm:=Za4 hc.1
  grind [Za3,Z3m,Z3n,Q4]
 simp_all
def Spec (P:Program) (f:FuncId) (args:List AV) (h0:Z8) (o:Out) (nx:Nat) (bs:List (Nat×Blk)):Prop:=
 ∀(E:Env) (w:World) (rs:List Value),Emb E h0 w->ZB E args rs->Calls P f rs.toArray w fun e w'=>∃E',Evo E h0 w E' ⟨nx,bs⟩ w'/\Z02 E' o e
theorem Z2c {k:Nat} {τ:Ren} {u:AV} {bs:List (Nat×Blk)} {h0 h:Z8} (hk:k=h0.next) (hl:Y6 k τ ⟨1,[(0,v)],⟨nx,bs⟩,[]⟩ ⟨1,[(0,u)],h,[]⟩ True) {E0 E:Env} {w0 w:World} {r:Value}
  (he0:Emb E0 h0 w0) (hev:Evo E0 h0 w0 E h w) (hr:Zh E u r):∃E',Evo E0 h0 w0 E' ⟨nx,bs⟩ w/\Zh E' v r:=by
 obtain ⟨_,hw⟩:=Yf hl
 have hs:VG E ⟨1,[(0,u)],h,[]⟩ { tmps:= #[r],defers:=[]} w:=by
  refine ⟨hev.emb,⟨rfl,fun x v' hx=> ?_⟩,.nil⟩
  simp only [ZQ] at hx
  split at hx
  all_goals simp_all
 obtain ⟨E₂,hs2,hev2⟩:=hw E0 h0 w0 E _ w (fun x hx=>he0.fresh x (hk▸hx)) hs hev
 refine ⟨E₂,hev2, ?_⟩
 have:=hs2.tmps.get 0 v (by simp [ZQ])
 simp_all
def mvN:List Nat->Nat->Nat->Nat
 | [],d,y=>d+y
 | x::_,_,0=>x
 | _::r,d,y+1=>mvN r d y
theorem Z8L:∀{σ:List Nat} {d y x:Nat},XA σ y=some x->mvN σ d y=x
 | [],_,_,_,h=>by simp [XA] at h
 | x::r,d,0,_,h=>by simpa [XA,mvN] using h
 | x::r,d,y+1,_,h=>Z8L (σ:=r) h
theorem Z8M:∀{σ:List Nat} {d y:Nat},σ.length<=y->mvN σ d y=d+(y-σ.length)
 | [],d,y,_=>by simp [mvN]
 | x::r,d,0,h=>by simp at h
 | x::r,d,y+1,h=>by
  simp at h
  have:=Z8M (σ:=r) (d:=d) h
  simp [mvN,this]
theorem Z0f:∀{σ:List Nat} {y:Nat},y<σ.length->∃x,XA σ y=some x
 | [],_,h=>by simp at h
 | x::r,0,_=>⟨x,rfl⟩
 | x::r,y+1,h=>Z0f (σ:=r) (by simp_all)
mutual
/-- Names moved. -/
def mvV (σ:List Nat) (d:Nat):AV->Option AV
 | .top=>some .top
 | .bool b=>some (.bool b)
 | .int k n=>some (.int k n)
 | .str s=>some (.str s)
 | .ptr none=>some (.ptr none)
 | .ptr (some p)=>some (.ptr (some ⟨mvN σ d p.blk,p.row,p.sz,p.off,p.inn⟩))
 | .nslice p esz len lo=>some (.nslice ⟨mvN σ d p.blk,p.row,p.sz,p.off,p.inn⟩ esz len lo)
 | .eslice=>some .eslice
 | .fslice=>some .fslice
 | .nilslice=>some .nilslice
 | .map none=>some (.map none)
 | .map (some x)=>some (.map (some (mvN σ d x)))
 | .nilFunc=>some .nilFunc
 | .nilIface=>some .nilIface
 | .func (.func g) fs cs=>match mvL σ d fs,mvL σ d cs with
  | some fs',some cs'=>some (.func (.func g) fs' cs')
  | _,_=>none
 | .iface t v=>match mvV σ d v with|some v'=>some (.iface t v')|none=>none
 | .agg cs=>match mvC σ d cs with|some cs'=>some (.agg cs')|none=>none
 | .tuple vs=>match mvL σ d vs with|some vs'=>some (.tuple vs')|none=>none
 | _=>none
def mvC (σ:List Nat) (d:Nat):List AV->Option (List AV)
 | []=>some []
 | .arr k n xs::r=>match mvC σ d r with|some r'=>some (.arr k n xs::r')|none=>none
 | v::r=>match mvV σ d v,mvC σ d r with
  | some v',some r'=>match v'.isCell with|true=>some (v'::r')|false=>none
  | _,_=>none
def mvL (σ:List Nat) (d:Nat):List AV->Option (List AV)
 | []=>some []
 | v::r=>match mvV σ d v,mvL σ d r with
  | some v',some r'=>some (v'::r')
  | _,_=>none
end
theorem Z1o (h:v.isCell=true) (r:List AV):csz (v::r)=1+csz r:=by
 cases v<;>simp_all [AV.isCell,csz]
set_option maxHeartbeats 1000000 in
mutual
theorem Z3o {σ:List Nat} {d:Nat} {E E':Env} (hb:∀x r,E.blk x=some r->E'.blk (mvN σ d x)=some r):∀(v v':AV) (r:Value),mvV σ d v=some v'->Zh E v r->Zh E' v' r:=by
 intro v v' r h hv
 unfold mvV at h
 split at h
 ·cases h;exact .top r
 ·cases h;exact hv.plain rfl
 ·cases h;exact hv.plain rfl
 ·cases h;exact hv.plain rfl
 ·cases h;exact hv.plain rfl
 ·cases h
  cases hv with
  | ptr p b N hq=>exact .ptr ⟨mvN σ d _,_,_,_,_⟩ b N (hb _ _ hq)
 ·cases h
  cases hv with
  | nslice0 p esz len lo a h1 h2=>exact .nslice0 _ _ _ _ a h1 h2
  | nslice p esz len lo b N cap hq h1 h2 h3=>exact .nslice ⟨mvN σ d _,_,_,_,_⟩ _ _ _ b N cap (hb _ _ hq) h1 h2 h3
 ·cases h;exact hv.plain rfl
 ·cases h;exact hv.plain rfl
 ·cases h;exact hv.plain rfl
 ·cases h;exact hv.plain rfl
 ·cases h
  cases hv with
  | map x b N hq=>exact .map _ b N (hb _ _ hq)
 ·cases h;exact hv.plain rfl
 ·cases h;exact hv.plain rfl
 ·split at h
  ·rename_i fs' cs' h1 h2
   cases h
   cases hv with
   | func fn first captured fs cs ha hc=>exact .func _ _ _ _ _ (Z1p hb _ _ _ h1 ha) (Z1p hb _ _ _ h2 hc)
  ·cases h
 ·split at h
  ·rename_i v1 h1
   cases h
   cases hv with
   | iface t v x hx=>exact .iface _ _ _ (Z3o hb _ _ _ h1 hx)
  ·cases h
 ·split at h
  ·rename_i cs' h1
   cases h
   cases hv with
   | agg cs vs hc=>exact .agg _ _ (Z3p hb _ _ _ h1 hc).1
  ·cases h
 ·split at h
  ·rename_i vs' h1
   cases h
   cases hv with
   | tuple vs rs hc=>exact .tuple _ _ (Z1p hb _ _ _ h1 hc)
  ·cases h
 ·cases h
theorem Z3p {σ:List Nat} {d:Nat} {E E':Env} (hb:∀x r,E.blk x=some r->E'.blk (mvN σ d x)=some r):∀(l l':List AV) (r:List Value),mvC σ d l=some l'->Zt E l r->Zt E' l' r/\csz l'=csz l:=by
 intro l l' r h hv
 unfold mvC at h
 split at h
 ·cases h;cases hv;exact ⟨.nil,rfl⟩
 ·split at h
  ·rename_i r' h1
   cases h
   obtain ⟨ws,rfl,ht⟩:=Zt.cons_arr hv
   have:=Z3p hb _ _ _ h1 ht
   exact ⟨.arr _ _ _ _ _ this.1,by simp [csz,this.2]⟩
  ·cases h
 ·rename_i v r2 hna
  split at h
  ·rename_i v1 r1 h1 h2
   split at h
   ·rename_i hcell
    cases h
    obtain ⟨c,ws,rfl,q1,q2,q3,q4⟩:=Zt.cons_cell hv (fun k m xs e=>hna k m xs e)
    have:=Z3p hb _ _ _ h2 q4
    exact ⟨.one _ _ _ _ hcell q2 (Z3o hb _ _ _ h1 q3) this.1,by rw [Z1o hcell,Z1o q1,this.2]⟩
   ·cases h
  ·cases h
theorem Z1p {σ:List Nat} {d:Nat} {E E':Env} (hb:∀x r,E.blk x=some r->E'.blk (mvN σ d x)=some r):∀(l l':List AV) (r:List Value),mvL σ d l=some l'->ZB E l r->ZB E' l' r:=by
 intro l l' r h hv
 unfold mvL at h
 split at h
 ·cases h;cases hv;exact .nil
 ·split at h
  ·rename_i v1 r1 h1 h2
   cases h
   cases hv with
   | cons v c vs cs ha hc=>exact .cons _ _ _ _ (Z3o hb _ _ _ h1 ha) (Z1p hb _ _ _ h2 hc)
  ·cases h
end
theorem Zga {d:Nat}:∀(l l':List AV),mvC σ d l=some l'->csz l'=csz l:=by
 intro l
 induction l with
 | nil=>intro l' h;unfold mvC at h;simp_all
 | cons v r ih=>
  intro l' h
  unfold mvC at h
  grind [csz,Z1o]
inductive MvB (σ:List Nat) (d:Nat):Blk->Blk->Prop
 | ints (k:IntKind) (xs:LI):MvB σ d (.ints k xs) (.ints k xs)
 | flat (cs cs':List AV) (h:mvC σ d cs=some cs'):MvB σ d (.flat cs) (.flat cs')
 | rows (sz n:Nat) (f:Nat->List AV) (h:∀i,i<n->plainC (f i)=true):MvB σ d (.rows sz n f) (.rows sz n f)
 | rowsM (sz n:Nat) (f f':Nat->List AV) (h:∀i,i<n->mvC σ d (f i)=some (f' i)):MvB σ d (.rows sz n f) (.rows sz n f')
 | pmap (es es':List (AV×AV)) (h1:mvL σ d (es.map (·.1))=some (es'.map (·.1))) (h2:mvL σ d (es.map (·.2))=some (es'.map (·.2))):MvB σ d (.pmap es) (.pmap es')
inductive Z8N (σ:List Nat) (d:Nat):List (Nat×Blk)->List (Nat×Blk)->Prop
 | nil:Z8N σ d [] []
 | cons (y x:Nat) (B B':Blk) (r r':List (Nat×Blk)) (hx:mvN σ d y=x) (h:MvB σ d B B') (t:Z8N σ d r r'):Z8N σ d ((y,B)::r) ((x,B')::r')
inductive MvO (σ:List Nat) (d:Nat):Out->Out->Prop
 | ret (v v':AV) (h:mvV σ d v=some v'):MvO σ d (.ret v) (.ret v')
 | panic (v v':AV) (h:mvV σ d v=some v'):MvO σ d (.panic v) (.panic v')
theorem Z8N.get {d:Nat}:∀{bs bs':List (Nat×Blk)},Z8N σ d bs bs'->∀x B',ZW bs' x=some B'->∃y B,mvN σ d y=x/\ZW bs y=some B/\MvB σ d B B'
 | _,_,.nil,x,B',h=>by simp [ZW] at h
 | _,_,.cons y x0 B B0 r r' hx hm t,x,B',h=>by
  unfold ZW at h
  split at h
  ·grind [J0,ZW,Jl]
  ·obtain ⟨z,C,h1,h2,h3⟩:=t.get x B' h
   grind [Jl,ZW,Zw]
theorem MvB.move {d:Nat} {B':Blk} (hm:MvB σ d B B') {E E':Env} {w:World} {y:Nat} (hb:∀x r,E.blk x=some r->E'.blk (mvN σ d x)=some r) (hn:E.blk y=none->E'.blk (mvN σ d y)=none) (h:YF E w y B):YF E' w (mvN σ d y) B':=by
 cases hm with
 | ints k xs=>cases h with
  | ints0 k xs h0 hq=>exact .ints0 _ _ h0 (hn hq)
  | ints k xs b cells elem fr hq hw hf hv=>exact .ints _ _ b cells elem fr (hb _ _ hq) hw hf hv
 | flat cs cs' hc=>cases h with
  | flat0 cs h0 hq=>exact .flat0 _ ((Zga _ _ hc).trans h0) (hn hq)
  | flat cs b cells elem fr vs hq hw hf hcr hv=>exact .flat _ b cells elem fr vs (hb _ _ hq) hw hf (Z3p hb _ _ _ hc hcr).1 hv
 | rows sz n f hp=>cases h with
  | rows0 sz n f h0 hq=>exact .rows0 _ _ _ h0 (hn hq)
  | rows sz n f b cells elem fr g hq hw hf hcr hl hv=>exact .rows _ _ _ b cells elem fr g (hb _ _ hq) hw hf (fun i hi=>(hcr i hi).plain (hp i hi)) hl hv
 | rowsM sz n f f' hp=>cases h with
  | rows0 sz n f h0 hq=>exact .rows0 _ _ _ h0 (hn hq)
  | rows sz n f b cells elem fr g hq hw hf hcr hl hv=>exact .rows _ _ _ b cells elem fr g (hb _ _ hq) hw hf (fun i hi=>(Z3p hb _ _ _ (hp i hi) (hcr i hi)).1) hl hv
 | pmap es es' h1 h2=>cases h with
  | pmap es b k ents ents' clock hq hw hpp hnn hi hk hv=>exact .pmap _ b k ents ents' clock (hb _ _ hq) hw hpp hnn hi (Z1p hb _ _ _ h1 hk) (Z1p hb _ _ _ h2 hv)
def Qu (σ:List Nat) (bs:List (Nat×Blk)):List (Nat×Blk):=match σ with
 | []=>bs
 | x::r=>Qu r (Ya bs x)
theorem Z1M:∀{σ:List Nat} {bs:List (Nat×Blk)} {x:Nat} {B:Blk},ZW (Qu σ bs) x=some B->ZW bs x=some B/\x∉σ
 | [],bs,x,B,h=>⟨h,by simp⟩
 | y::r,bs,x,B,h=>by
  obtain ⟨h1,h2⟩:=Z1M (σ:=r) h
  by_cases hn:y=x
  all_goals simp_all [QF,WU,Ne.symm]
theorem Spec.calls {P:Program} {f:FuncId} {args₀:List AV} {Bs:List Blk} {o o':Out} {bs bs':List (Nat×Blk)} {h:Z8} {K:KO} (hc:Spec P f args₀ ⟨σ.length,WF 0 σ Bs⟩ o nx bs)
  (hlen:Bs.length=σ.length) (hm:∀x,x∈σ->∃B,h.get x=some B) (hd:Z4M σ=true)
  (hx:∀(i x:Nat) (B:Blk),XA σ i=some x->Bs[i]? =some B->∃B',h.get x=some B'/\∀(E:Env) (w:World),Emb E h w->YF E w x B'->YF (E.borL σ w true) w i B)
  (ha:∀(E:Env) (w:World) (r:List Value),Emb E h w->ZB E args r->ZB (E.borL σ w true) args₀ r)
  (hnx:σ.length<=nx) (ho:MvO σ h.next o o') (hb:Z8N σ h.next bs bs') (hK:K o' ⟨h.next+(nx-σ.length),UZ bs' (Qu σ h.bs)⟩):Ze P f args h K:=by
 intro E w rs he hr
 let E0:=E.borL σ w true
 have hsub:∀i x,XA σ i=some x->E0.blk i=E.blk x:=fun i x hi=>by
  show (match XA σ i with|some x=>E.blk x|none=>none)=_
  rw [hi]
 have hnone:∀i,σ.length<=i->E0.blk i=none:=fun i hi=>by
  show (match XA σ i with|some x=>E.blk x|none=>none)=_
  rw [Za2 hi]
 have hσlt:∀x,x∈σ->x<h.next:=fun x hx=>let ⟨B,hB⟩:=hm x hx;he.lt x B hB
 have hsb:∀y B,ZW (WF 0 σ Bs) y=some B->∃x,XA σ y=some x/\Bs[y]? =some B:=fun y B hy=>by
  obtain ⟨i,x,rfl,h1,h2⟩:=W6 σ Bs 0 y B hy
  rw [Jx]
  exact ⟨x,by rw [Z3n];exact h1,h2⟩
 have hinj:∀y z x,XA σ y=some x->XA σ z=some x->y=z:=fun y z x h1 h2=>by
  have a:=Q4 hd y x h1
  have b:=Q4 hd z x h2
  rw [a] at b
  simp_all
 have hemb:Emb E0 ⟨σ.length,WF 0 σ Bs⟩ w:=by
  refine ⟨hnone, ?_, ?_, ?_,fun _ _ h=>h.1, ?_⟩
  ·intro y B hy
   obtain ⟨x,h1,_⟩:=hsb y B hy
   grind
  ·intro y B hy
   obtain ⟨x,h1,h2⟩:=hsb y B hy
   obtain ⟨B',hB',hq⟩:=hx y x B h1 h2
   exact hq E w he (he.own x B' hB')
  ·intro y z B C b N N' hy hz hby hbz
   obtain ⟨x,h1,h2⟩:=hsb y B hy
   obtain ⟨x',h3,h4⟩:=hsb z C hz
   rw [hsub y x h1] at hby
   rw [hsub z x' h3] at hbz
   obtain ⟨B',hB'⟩:=hm x (XT h1)
   obtain ⟨C',hC'⟩:=hm x' (XT h3)
   have:=he.disj x x' B' C' b N N' hB' hC' hby hbz
   grind
  ·intro a c y B N hi hy hbb
   obtain ⟨x,h1,_⟩:=hsb y B hy
   rw [hsub y x h1] at hbb
   exact hi.2 x (XT h1) N hbb
 refine (hc E0 w rs hemb (ha E w rs he hr)).mono ?_
 rintro e w' ⟨E₁,hev,hor⟩
 let E':Env:=⟨fun x=>match Wa σ x with
  | some i=>E₁.blk i
  | none=>if x<h.next then E.blk x else E₁.blk (x-h.next+σ.length),E.imm⟩
 have hρ:∀y,E'.blk (mvN σ h.next y)=E₁.blk y:=fun y=>by
  rcases Jm y σ.length with hlt|hge
  ·obtain ⟨x,hx'⟩:=Z0f hlt
   rw [Z8L hx']
   show (match Wa σ x with|some i=>_|none=>_)=_
   rw [Q4 hd y x hx']
  ·rw [Z8M hge]
   have hn:Wa σ (h.next+(y-σ.length))=none:=by
    cases hq:Wa σ (h.next+(y-σ.length)) with
    | none=>rfl
    | some i=>have:=hσlt _ (XT (U2 hq));omega
   grind
 have hold:∀x,x<h.next->Wa σ x=none->E'.blk x=E.blk x:=fun x hx hn=>by
  grind
 have hfresh:∀x,E.blk x≠none->x<h.next:=fun x hx=>by
  rcases Jm x h.next with hl|hg
  ·exact hl
  ·exact absurd (he.fresh x hg) hx
 have hle:E.le E':=⟨fun x q hq=>by
  cases hi:Wa σ x with
  | some i=>
   show (match Wa σ x with|some i=>_|none=>_)=_
   rw [hi]
   exact hev.le.blk i q ((hsub i x (U2 hi)).trans hq)
  | none=>rw [hold x (hfresh x (by rw [hq];simp)) hi];exact hq,fun _ _ h=>h⟩
 have hown0:∀b,Xn E0 ⟨σ.length,WF 0 σ Bs⟩ b->∃x N,x∈σ/\E.blk x=some (b,N):=fun b ⟨y,B,N,hy,hbb⟩=>by
  obtain ⟨x,h1,_⟩:=hsb y B hy
  grind [XT]
 have hkeep:∀b,b<w.heap.size->(∀x N,x∈σ->E.blk x=some (b,N)->False)->w'.heap[b]? =w.heap[b]?:=fun b hb hn=>hev.keep b hb (fun ho=>let ⟨x,N,h1,h2⟩:=hown0 b ho;hn x N h1 h2)
 have hget:∀x B',Z8.get ⟨h.next+(nx-σ.length),UZ bs' (Qu σ h.bs)⟩ x=some B'->
   (∃y B,mvN σ h.next y=x/\ZW bs y=some B/\MvB σ h.next B B')\/(x<h.next/\x∉σ/\h.get x=some B'):=fun x B' hx=>by
  simp only [Z8.get,Z4C] at hx
  split at hx
  ·rename_i B0 hq
   cases hx
   exact .inl (hb.get x _ hq)
  ·obtain ⟨h1,h2⟩:=Z1M hx
   exact .inr ⟨he.lt x B' h1,h2,h1⟩
 have hni:∀x,x∉σ->Wa σ x=none:=fun x hx=>by
  cases hq:Wa σ x with
  | none=>rfl
  | some i=>exact absurd (XT (U2 hq)) hx
 have hmix:∀y B z C b N N',ZW bs y=some B->E₁.blk y=some (b,N)->z∉σ->h.get z=some C->E.blk z=some (b,N')->False:=fun y B z C b N N' hy hby hz hz' hbz=>by
  rcases hev.own b ⟨y,B,N,hy,hby⟩ with ho|hs
  ·obtain ⟨x,M,h1,h2⟩:=hown0 b ho
   obtain ⟨D,hD⟩:=hm x h1
   have:=he.disj x z D C b M N' hD hz' h2 hbz
   subst this
   exact hz h1
  ·have:=(he.own z C hz').lt hbz
   omega
 have himm0:∀a c,E.imm a c->E0.imm a c:=fun a c hi=>⟨he.imm a c hi,fun x hx N hbb=>let ⟨B,hB⟩:=hm x hx;he.sep a c x B N hi hB hbb⟩
 have hemb':Emb E' ⟨h.next+(nx-σ.length),UZ bs' (Qu σ h.bs)⟩ w':=by
  refine ⟨?_, ?_, ?_, ?_, ?_, ?_⟩
  ·intro x hx
   have hx':h.next+(nx-σ.length)<=x:=hx
   have hn:Wa σ x=none:=hni x (fun hq=>by have:=hσlt x hq;omega)
   show (match Wa σ x with|some i=>_|none=>_)=_
   rw [hn]
   show (if _ then _ else _)=_
   rw [if_neg (by omega)]
   exact hev.emb.fresh _ (by show nx<=_;omega)
  ·intro x B hx
   show x<h.next+(nx-σ.length)
   rcases hget x B hx with ⟨y,B0,rfl,hy,_⟩|⟨hlt,_,_⟩
   ·have hyn:y<nx:=hev.emb.lt y B0 hy
    rcases Jm y σ.length with hlt|hge
    ·obtain ⟨x,hx'⟩:=Z0f hlt
     rw [Z8L hx']
     have:=hσlt x (XT hx')
     omega
    ·rw [Z8M hge]
     omega
   ·omega
  ·intro x B hx
   rcases hget x B hx with ⟨y,B0,rfl,hy,hmv⟩|⟨hlt,hnσ,hx'⟩
   ·exact hmv.move (E:=E₁) (fun x r hq=>by rw [hρ];exact hq) (fun hq=>by rw [hρ];exact hq) (hev.emb.own y B0 hy)
   ·have h1:=(he.own x B hx').mono hle (fun hn=>by rw [hold x hlt (hni x hnσ)];exact hn)
    refine h1.congr fun b N hbb=> ?_
    rw [hold x hlt (hni x hnσ)] at hbb
    refine hkeep b ((he.own x B hx').lt hbb) fun z M hz hbz=> ?_
    obtain ⟨D,hD⟩:=hm z hz
    have:=he.disj x z B D b N M hx' hD hbb hbz
    subst this
    exact hnσ hz
  ·intro x z B C b N N' hx hz hbx hbz
   rcases hget x B hx with ⟨y,B0,rfl,hy,hmv⟩|⟨hlt,hnσ,hx'⟩<;>rcases hget z C hz with ⟨y',C0,rfl,hy',hmv'⟩|⟨hlt',hnσ',hz'⟩
   ·rw [hρ] at hbx hbz
    rw [hev.emb.disj y y' B0 C0 b N N' hy hy' hbx hbz]
   ·rw [hρ] at hbx
    rw [hold z hlt' (hni z hnσ')] at hbz
    exact (hmix y B0 z C b N N' hy hbx hnσ' hz' hbz).elim
   ·rw [hρ] at hbz
    rw [hold x hlt (hni x hnσ)] at hbx
    exact (hmix y' C0 x B b N' N hy' hbz hnσ hx' hbx).elim
   ·rw [hold x hlt (hni x hnσ)] at hbx
    rw [hold z hlt' (hni z hnσ')] at hbz
    exact he.disj x z B C b N N' hx' hz' hbx hbz
  ·intro a c hi
   exact hev.emb.imm a c (hev.le.imm a c (himm0 a c hi))
  ·intro a c x B N hi hx hbx
   rcases hget x B hx with ⟨y,B0,rfl,hy,hmv⟩|⟨hlt,hnσ,hx'⟩
   ·rw [hρ] at hbx
    exact hev.emb.sep a c y B0 N (hev.le.imm a c (himm0 a c hi)) hy hbx
   ·rw [hold x hlt (hni x hnσ)] at hbx
    exact he.sep a c x B N hi hx' hbx
 refine ⟨E',o',_,hK,⟨hle,hemb',hev.size,hev.os,hev.tape,hev.output,fun b hb' hno=>hkeep b hb' (fun x N hx hbx=> ?_), ?_,fun _ _ h=>h⟩, ?_⟩
 ·obtain ⟨B,hB⟩:=hm x hx
  exact hno ⟨x,B,N,hB,hbx⟩
 ·rintro b ⟨x,B,N,hx,hbx⟩
  rcases hget x B hx with ⟨y,B0,rfl,hy,hmv⟩|⟨hlt,hnσ,hx'⟩
  ·rw [hρ] at hbx
   rcases hev.own b ⟨y,B0,N,hy,hbx⟩ with ho|hs
   ·obtain ⟨z,M,h1,h2⟩:=hown0 b ho
    obtain ⟨D,hD⟩:=hm z h1
    exact .inl ⟨z,D,M,hD,h2⟩
   ·exact .inr hs
  ·rw [hold x hlt (hni x hnσ)] at hbx
   exact .inl ⟨x,B,N,hx',hbx⟩
 ·cases ho with
  | ret v v' hv=>cases hor with
   | ret v r hr=>exact .ret _ _ (Z3o (fun x q hq=>by rw [hρ];exact hq) _ _ _ hv hr)
  | panic v v' hv=>cases hor with
   | panic v r hr=>exact .panic _ _ (Z3o (fun x q hq=>by rw [hρ];exact hq) _ _ _ hv hr)
theorem Spec.fsumm {P:Program} {f:FuncId} {h:Z8} {d:Nat} {K:KO} (hl:frA σ h d args K0)
  (hK:∀Bs a₀,Bs.length=σ.length->K0 Bs a₀->∃o nx bs o' bs',Spec P f a₀ ⟨σ.length,WF 0 σ Bs⟩ o nx bs/\σ.length<=nx/\MvO σ h.next o o'/\Z8N σ h.next bs bs'/\K o' ⟨h.next+(nx-σ.length),UZ bs' (Qu σ h.bs)⟩):Ze P f args h K:=by
 obtain ⟨hm,hd,Bs,a,hK0,hlen,hx,ha⟩:=Zj8 hl
 grind [Spec.calls]
end Go.Tk
end
section
namespace Go.Tk
open IntKind (i64 u8 u32 u64 wrap)
def goL (k:Nat) (τ:Ren) (S0:St) (C:Prop) (ends:KE->Prop):Nat->St->KE->Prop:=fun k' s X=>match Nat.beq k' k with
 | true=>Y6 k τ S0 s (C/\ends X)
 | false=>False
def Z1N (id n:Nat) (go ex re:Nat->Prop) (En Rn:Nat->St):KE->Prop:=fun X=>
 ∀i,i<=n->(∀j,j<i->go j)->(ex i->X (.exit id) (En i))/\(re i->X .ret (Rn i))
theorem Zb.withGo {G:Zb} (hG:G.Ok) {f:FuncId} {id k N n:Nat} {τ0 τ1 τ2 τ3:Ren} {S En Rn:Nat->St} {S0:St} {C:Prop} {go ex re:Nat->Prop} (h1:VY G.P f id=true) (hC:C->S 0=S0/\
   ∀i,i<=n->(∀j,j<i->go j)->ZG G N f id k (S i) fun e s=>match e with
    | .normal=>Y6 k τ1 (S (i+1)) s (go i/\i<n)
    | .exit x=>(match Nat.beq x id with|true=>Y6 k τ2 (En i) s (ex i)|false=>False)
    | .ret=>Y6 k τ3 (Rn i) s (re i)
    | _=>False):
  (G.withL f id (goL k τ0 S0 C (Z1N id n go ex re En Rn))).Ok:=by
 refine Zb.withL_ok hG h1 ?_
 intro k' s X hl
 unfold goL at hl
 split at hl
 ·rename_i hk
  have:=J0 hk
  subst this
  obtain ⟨⟨hc,hX⟩,hw⟩:=Yf hl
  obtain ⟨e0,hr⟩:=hC hc
  refine ⟨{ t:Nat//t<=n/\∀j,j<t->go j},fun t=>n-t.1,fun t=>S t.1,⟨0,JF _,fun j hj=>by omega⟩,N,by simp_all, ?_⟩
  rintro ⟨t,ht,hgo⟩
  refine ⟨_,hr t ht hgo, ?_⟩
  intro e s' hY
  split at hY
  ·obtain ⟨⟨hg,hlt⟩,hw'⟩:=Yf hY
   refine ⟨⟨t+1,hlt,fun j hj=> ?_⟩,by show n-(t+1)<n-t;omega,hw'⟩
   grind
  ·split at hY
   ·rename_i hi
    have:=J0 hi
    subst this
    obtain ⟨hex,hw'⟩:=Yf hY
    exact ⟨_,hw',(hX t ht hgo).1 hex⟩
   simp_all
  ·obtain ⟨hre,hw'⟩:=Yf hY
   exact ⟨_,hw',(hX t ht hgo).2 hre⟩
  simp_all
 simp_all
def YD (id n l:Nat) (go ex re jm:Nat->Prop) (En Rn Jn:Nat->St):KE->Prop:=fun X=>
 ∀i,i<=n->(∀j,j<i->go j)->(ex i->X (.exit id) (En i))/\(re i->X .ret (Rn i))/\(jm i->X (.goto l) (Jn i))
theorem Zb.withGoJ {G:Zb} (hG:G.Ok) {f:FuncId} {id k N n l:Nat} {τ0 τ1 τ2 τ3 τ4:Ren} {S En Rn Jn:Nat->St} {S0:St} {C:Prop} {go ex re jm:Nat->Prop} (h1:VY G.P f id=true) (hC:C->S 0=S0/\
   ∀i,i<=n->(∀j,j<i->go j)->ZG G N f id k (S i) fun e s=>match e with
    | .normal=>Y6 k τ1 (S (i+1)) s (go i/\i<n)
    | .exit x=>(match Nat.beq x id with|true=>Y6 k τ2 (En i) s (ex i)|false=>False)
    | .ret=>Y6 k τ3 (Rn i) s (re i)
    | .goto x=>(match Nat.beq x l with|true=>Y6 k τ4 (Jn i) s (jm i)|false=>False)
    | _=>False):
  (G.withL f id (goL k τ0 S0 C (YD id n l go ex re jm En Rn Jn))).Ok:=by
 refine Zb.withL_ok hG h1 ?_
 intro k' s X hl
 unfold goL at hl
 split at hl
 ·rename_i hk
  have:=J0 hk
  subst this
  obtain ⟨⟨hc,hX⟩,hw⟩:=Yf hl
  obtain ⟨e0,hr⟩:=hC hc
  refine ⟨{ t:Nat//t<=n/\∀j,j<t->go j},fun t=>n-t.1,fun t=>S t.1,⟨0,JF _,fun j hj=>by omega⟩,N,by simp_all, ?_⟩
  rintro ⟨t,ht,hgo⟩
  refine ⟨_,hr t ht hgo, ?_⟩
  intro e s' hY
  split at hY
  ·obtain ⟨⟨hg,hlt⟩,hw'⟩:=Yf hY
   refine ⟨⟨t+1,hlt,fun j hj=> ?_⟩,by show n-(t+1)<n-t;omega,hw'⟩
   grind
  ·split at hY
   ·rename_i hi
    have:=J0 hi
    subst this
    obtain ⟨hex,hw'⟩:=Yf hY
    exact ⟨_,hw',(hX t ht hgo).1 hex⟩
   simp_all
  ·obtain ⟨hre,hw'⟩:=Yf hY
   exact ⟨_,hw',(hX t ht hgo).2.1 hre⟩
  ·split at hY
   ·rename_i hi
    have:=J0 hi
    subst this
    obtain ⟨hjm,hw'⟩:=Yf hY
    exact ⟨_,hw',(hX t ht hgo).2.2 hjm⟩
   simp_all
  simp_all
 simp_all
theorem ZD {p x:Prop} [Decidable p]:Z5 (decide p) x False=(p/\x):=by
 by_cases h:p
 all_goals simp_all [Z5]
theorem ZU {p x:Prop} [Decidable p]:Z5 (decide p) False x=(¬p/\x):=by
 by_cases h:p
 all_goals simp_all [Z5]
theorem ZM {p x y:Prop} [Decidable p]:Z5 (decide p) x y=((p->x)/\(¬p->y)):=by
 by_cases h:p
 all_goals simp_all [Z5]
theorem ZY {b:Bool} {x:Prop}:Z5 b x False=(b=true/\x):=by cases b<;>simp [Z5]
theorem Y0 {b:Bool} {x:Prop}:Z5 b False x=(b=false/\x):=by cases b<;>simp [Z5]
theorem ZN {b:Bool} {x y:Prop}:Z5 b x y=((b=true->x)/\(b=false->y)):=by cases b<;>simp [Z5]
def Z6 (b:Bool) (x:Prop):Prop:=Z5 b x False
theorem vcA:(∀(p x:Prop) [Decidable p],Z5 (decide p) x False=(p/\x))/\(∀(p x:Prop) [Decidable p],Z7 p x=(p/\x))/\(∀(p x:Prop) [Decidable p],Z6 (decide p) x=(p/\x))/\∀(p x:Prop) [Decidable p],Z5 (decide p) False x=(¬p/\x):=
 ⟨fun _ _ _=>ZD,fun _ _ _=>ZD,fun _ _ _=>ZD,fun _ _ _=>ZU⟩
theorem vcB:(∀(p x y:Prop) [Decidable p],Z5 (decide p) x y=((p->x)/\(¬p->y)))/\(∀(b:Bool) (x:Prop),Z5 b x False=(b=true/\x))/\(∀(b:Bool) (x:Prop),Z6 b x=(b=true/\x))/\∀(b:Bool) (x:Prop),Z5 b False x=(b=false/\x):=
 ⟨fun _ _ _ _=>ZM,fun _ _=>ZY,fun _ _=>ZY,fun _ _=>Y0⟩
theorem WK:(∀(p x:Prop) [Decidable p],Z5 (decide p) x False=(p/\x))/\(∀(p x:Prop) [Decidable p],Z7 p x=(p/\x))/\(∀(p x:Prop) [Decidable p],Z6 (decide p) x=(p/\x))/\(∀(b:Bool) (x:Prop),Z6 b x=Z5 b x False):=
 ⟨fun _ _ _=>ZD,fun _ _ _=>ZD,fun _ _ _=>ZD,fun _ _=>rfl⟩
theorem WL:∀(p x y:Prop) [Decidable p],Z5 (decide p) x y=((p->x)/\(¬p->y)):=fun _ _ _ _=>ZM
theorem vcC:(∀(b:Bool) (x y:Prop),Z5 b x y=((b=true->x)/\(b=false->y)))/\(∀n:Nat,((n:Int)).toNat=n)/\(∀n:Nat,0+n=n)/\(∀p:Prop,(True/\p)=p)/\(∀p:Prop,(p/\True)=p)/\∀n:Nat,(n<=n)=True:=
 ⟨fun _ _ _=>ZN,JA,Jx,true_and,and_true,fun n=>eq_true (J4 n)⟩
theorem Zbr {k:Nat} {τ:Ren} {v:AV} (hp:v.plain=true) (hc:v.isCell=true) {Z:Prop} (hZ:Z):eqV k τ v v Z:=by
 cases v with
 | ptr p=>cases p<;>simp_all [AV.plain,eqV]
 | map r=>cases r<;>simp_all [AV.plain,eqV]
 | _=>simp_all [AV.plain,eqV,Qi,AV.isCell]
theorem Z4N {k:Nat} {τ:Ren}:∀{l:List AV},plainC l=true->∀{Z:Prop},Z->(∀v∈l,v.isCell=true\/∃k n xs,v=.arr k n xs)->eqC k τ l l Z
 | [],_,Z,hZ,_=>by simp [eqC,hZ]
 | v::r,hp,Z,hZ,hc=>by
  simp only [plainC,J2] at hp
  have hr:=Z4N (k:=k) (τ:=τ) hp.2 hZ (fun u hu=>hc u (Jp _ hu))
  rcases hc v (by simp) with hv|⟨kk,n,xs,rfl⟩
  ·have hna:∀a b c,v≠.arr a b c:=fun a b c e=>by subst e;simp [AV.isCell] at hv
   simp_all [eqC,Zbr]
  ·unfold eqC
   simp_all
theorem Z1q {k:Nat} {τ:Ren} {n:Nat} {f f':Nat->List AV} (h:∀i,i<n->f' i=f i) (hp:∀i,i<n->plainC (f i)=true) (hc:∀i,i<n->∀v∈f i,v.isCell=true\/∃k n xs,v=.arr k n xs):Zo k τ n f f':=
 ⟨fun i hi=>by rw [h i hi];exact Z4N (hp i hi) trivial (hc i hi)⟩
theorem Zj9 {a b:Nat} (h:a<b):Nat.blt a b=true:=by rw [Nat.blt_eq];exact h
theorem Zja {a b:Nat} (h:Nat.blt a b=true):a<b:=by rw [Nat.blt_eq] at h;exact h
theorem Z2d {n i:Nat} {f g:Nat->List AV} (h:i<n):Y1 n f g i=f i:=by unfold Y1;rw [Zj9 h]
theorem Vr {n i:Nat} {f g:Nat->List AV} (h:n<=i):Y1 n f g i=g (i-n):=by
 unfold Y1
 have:Nat.blt i n=false:=by
  cases hq:Nat.blt i n with
  | false=>rfl
  | true=>have:=Zja hq;omega
 rw [this]
theorem Zs.vrows0 {P:Program} {f:FuncId} {esz:Nat} {g:Nat->List AV} {v:AV} {nx:Nat} {bs:List (Nat×Blk)} (h1:Zs P f [.nilslice] v nx bs) (h2:Zs P f [.fslice] v nx bs):Zs P f [.vrows esz 0 g 0] v nx bs:=by
 intro E w rs he hr
 cases hr with
 | cons v r vs rs hv ht=>cases ht with
  | nil=>cases hv with
   | vrowsNil esz n f len _ _=>exact h1 E w _ he (.cons _ _ _ _ .nilslice .nil)
   | vrows esz n f len a cap g _ _ _ _ _=>exact h2 E w _ he (.cons _ _ _ _ (.fslice a cap) .nil)
theorem Zs.vints0 {P:Program} {f:FuncId} {k:IntKind} {v:AV} {nx:Nat} {bs:List (Nat×Blk)} (h1:Zs P f [.nilslice] v nx bs) (h2:Zs P f [.fslice] v nx bs):Zs P f [.vints k [] 0] v nx bs:=by
 intro E w rs he hr
 cases hr with
 | cons v r vs rs hv ht=>cases ht with
  | nil=>cases hv with
   | vintsNil k xs len _ _=>exact h1 E w _ he (.cons _ _ _ _ .nilslice .nil)
   | vints k xs len a cap _ _ _=>exact h2 E w _ he (.cons _ _ _ _ (.fslice a cap) .nil)
end Go.Tk
namespace Go.Tk
open IntKind (i64 u8 u32 u64 wrap)
mutual
theorem Z0g {mv:Option Nat} {h:Z8}:∀(d:Nat) (t:Bool) (v:AV) (K K':AV->Prop),UY mv h t d v K->(∀a,K a->K' a)->UY mv h t d v K'
 | 0,t,v,K,K',hl,hK=>by unfold UY at hl;simp_all
 | d+1,t,v,K,K',hl,hK=>by
  unfold UY at hl⊢
  split at hl
  all_goals try exact hK _ hl
  all_goals try exact hl.elim
  ·split at hl
   ·split at hl
    ·exact hl.elim
    ·exact hK _ hl
   ·split at hl
    ·split at hl
     ·exact Wc _ _ _ _ _ hl fun _ h=>hK _ h
     ·exact hl.elim
    ·split at hl
     ·obtain ⟨h1,h2⟩:=Zd hl
      refine Qi h1 ?_
      split at h2
      ·exact Wc _ _ _ _ _ h2 fun _ h=>hK _ h
      ·exact h2.elim
     ·exact hl.elim
    ·exact hl.elim
  ·split at hl
   ·split at hl
    ·exact hl.elim
    ·exact hK _ hl
   ·split at hl
    ·split at hl
     ·obtain ⟨h1,h2⟩:=Zd hl
      exact Qi h1 (hK _ h2)
     ·exact hl.elim
    ·split at hl
     ·obtain ⟨h1,h2,h3⟩:=Zd hl
      exact Qi h1 ⟨h2,hK _ h3⟩
     ·exact hl.elim
    ·split at hl
     ·split at hl
      ·split at hl
       ·split at hl
        ·obtain ⟨h1,h2⟩:=Zd hl
         exact Qi h1 (hK _ h2)
        ·obtain ⟨h1,h2⟩:=Zd hl
         exact Qi h1 (hK _ h2)
        ·exact hl.elim
       ·exact hl.elim
      ·split at hl
       ·refine Wc _ _ _ _ _ hl fun _ h=> ?_
        split at h
        ·exact hK _ h
        ·exact h.elim
       ·exact hl.elim
     ·exact hl.elim
    ·exact hl.elim
  ·exact Zk _ _ _ _ _ hl fun _ h=>Zk _ _ _ _ _ h fun _ h=>hK _ h
  ·exact Z0g _ _ _ _ _ hl fun _ h=>hK _ h
  ·exact Wc _ _ _ _ _ hl fun _ h=>hK _ h
  ·exact Zk _ _ _ _ _ hl fun _ h=>hK _ h
theorem Wc {mv:Option Nat} {h:Z8}:∀(d:Nat) (t:Bool) (l:List AV) (K K':List AV->Prop),VZ mv h t d l K->(∀a,K a->K' a)->VZ mv h t d l K'
 | 0,t,l,K,K',hl,hK=>by unfold VZ at hl;simp_all
 | d+1,t,l,K,K',hl,hK=>by
  unfold VZ at hl⊢
  split at hl
  ·exact hK _ hl
  ·exact Wc _ _ _ _ _ hl fun _ h=>hK _ h
  ·refine Z0g _ _ _ _ _ hl fun _ h=> ?_
   split at h
   ·exact Wc _ _ _ _ _ h fun _ h=>hK _ h
   ·exact h.elim
theorem Zk {mv:Option Nat} {h:Z8}:∀(d:Nat) (t:Bool) (l:List AV) (K K':List AV->Prop),Zz mv h t d l K->(∀a,K a->K' a)->Zz mv h t d l K'
 | 0,t,l,K,K',hl,hK=>by unfold Zz at hl;simp_all
 | d+1,t,l,K,K',hl,hK=>by
  unfold Zz at hl⊢
  split at hl
  ·exact hK _ hl
  ·exact Z0g _ _ _ _ _ hl fun _ h=>Zk _ _ _ _ _ h fun _ h=>hK _ h
end
end Go.Tk
end
section
namespace Go.Tk
open IntKind (i64 u8 u32 u64 wrap)
variable {τ:Ren} {xs:LI} {esz:Nat} {v:AV}
def Zg (g:Nat->InS):Nat->List AV:=fun q=>(g q).c
def Zf (g:Nat->ZF):Nat->List AV:=fun q=>(g q).c
theorem InS.plainC (x:InS):plainC x.c=true:=rfl
theorem ZF.plainC (x:ZF):plainC x.c=true:=rfl
theorem InS.cells (x:InS):∀v∈x.c,v.isCell=true\/∃k n xs,v=.arr k n xs:=by simp [InS.c,AV.isCell]
theorem ZF.cells (x:ZF):∀v∈x.c,v.isCell=true\/∃k n xs,v=.arr k n xs:=by simp [ZF.c,AV.isCell]
theorem Ym {k:Nat} {n:Nat} {g:Nat->InS} {f:Nat->List AV} (h:∀i,i<n->f i=(g i).c):Zo k τ n (Zg g) f:=Z1q h (fun i _=>(g i).plainC) (fun i _=>(g i).cells)
theorem ZP {k:Nat} {n:Nat} {g:Nat->ZF} {f:Nat->List AV} (h:∀i,i<n->f i=(g i).c):Zo k τ n (Zf g) f:=Z1q h (fun i _=>(g i).plainC) (fun i _=>(g i).cells)
theorem Zgb (N:Nat) (g:Nat->InS) (hN:N+1<900000000000):
  evF G0 20 91 [.vrows 130 (N+1) (Zg g) (N+1)] ⟨0,[]⟩ (Yz 0 [(0,0)] (.nslice ⟨0,0,130,0,0⟩ 130 (N+1) (N+1)) 1 [(0,.rows 130 (N+1) (Zg g))]):=by
 refine @Eq.mpr _ (let a:=N+1;let b:=0+a;let c:=decide (b=a);
 Z5 (decide (b*144<=140737488355328)) (Z5 c (Z5 (decide (a<=b)) (Z5 c (Zo 0 [(0,0)] a (Zg g) (Y1 0 (fun (x:Nat)=>[]) (Zg g))/\True) False) False) False) False) (by kernel_rfl) ?_
 conv=>zeta
 refine nd (by omega) (nd (by omega) (nd (by omega) (nd (by omega) ⟨Ym fun i hi=> ?_,trivial⟩)))
 rw [Vr (JF _)];rfl
theorem Zgc (g:Nat->InS) :
  evF G0 20 91 [.nilslice] ⟨0,[]⟩ (Yz 0 [] (.nslice ⟨0,0,130,0,0⟩ 130 0 0) 1 [(0,.rows 130 0 (Zg g))]):=by
 refine @Eq.mpr _ (True) (by kernel_rfl) ?_
 trivial
theorem Zgd (g:Nat->InS) :
  evF G0 20 91 [.fslice] ⟨0,[]⟩ (Yz 0 [(0,0)] (.nslice ⟨0,0,130,0,0⟩ 130 0 0) 1 [(0,.rows 130 0 (Zg g))]):=by
 refine @Eq.mpr _ (Zo 0 [(0,0)] 0 (Zg g) (Y1 0 (fun (x:Nat)=>[]) fun (x:Nat)=>[])/\True) (by kernel_rfl) ?_
 exact ⟨Ym fun i hi=>by omega,trivial⟩
theorem Z8O (N:Nat) (g:Nat->InS) (hN:N<900000000000):Zs PP 91 [.vrows 130 N (Zg g) N] (.nslice ⟨0,0,130,0,0⟩ 130 N N) 1 [(0,.rows 130 N (Zg g))]:=by
 cases N with
 | zero=>exact Zs.vrows0 (.ev Zm (Zgc g)) (.ev Zm (Zgd g))
 | succ n=>exact .ev Zm (Zgb n g hN)
def Zdn (N:Nat) (g:Nat->InS) (Z:Prop):ZO:=fun args h K=>Zz none h true 20 args fun a=>match a with
 | [.vrows 130 n f m]=>Z7 (n=N) (Z7 (m=N) (f=Zg g/\Z/\K (.ret (.nslice ⟨h.next,0,130,0,0⟩ 130 N N)) ⟨h.next+1,(h.next,.rows 130 N (Zg g))::h.bs⟩))
 | _=>False
theorem Zbs (N:Nat) (g:Nat->InS) (args:List AV) (h:Z8) (K:KO) (hl:Zdn N g (N<900000000000) args h K):Ze PP 91 args h K:=by
 refine Zs.fsumm (d:=20) (Zk _ _ _ _ _ hl fun a ha=> ?_)
 split at ha
 ·obtain ⟨rfl,ha⟩:=Zd ha
  obtain ⟨rfl,rfl,hN,hK⟩:=Zd ha
  exact ⟨_,_,_,_,Z8O _ _ hN,rfl,⟨JH,.rows _ _ _ (fun i _=>(g i).plainC),trivial⟩,hK⟩
 ·exact ha.elim
def U3 (N:Nat) (g:Nat->InS) (t:Nat):Nat->InS:=fun q=>if q<t\/N<q+t+1 then g (N-1-q) else g q
def Z0h (N:Nat) (g:Nat->InS):Nat->InS:=fun q=>g (N-1-q)
def Z8P (N:Nat) (g:Nat->InS) (t:Nat):St:=⟨28,[(0,.nslice ⟨0,0,130,0,0⟩ 130 N N),(3,.int .i64 ((N:Int)-1-t)),(2,.int .i64 t)],⟨1,[(0,.rows 130 N (Zg (U3 N g t)))]⟩,[]⟩
theorem Zlf (N:Nat) (g:Nat->InS) (t:Nat) (hN:N<900000000000) (ht:t<=N) (hgo:∀j:Nat,j<t->(j:Int)<(N:Int)-1-j):
  ZG G0 20 244 0 1 (Z8P N g t) (fun e s=>match e with|.normal=>Y6 1 [] (Z8P N g (t+1)) s (((t:Int)<(N:Int)-1-t)/\t<N)|.exit x=>(match Nat.beq x 0 with|true=>Y6 1 [] (Z8P N g t) s (¬(t:Int)<(N:Int)-1-t)|false=>False)|.ret=>Y6 1 [] (Z8P N g t) s False|_=>False):=by
 refine @Eq.mpr _ (let m:=(↑N:Int)-1;let a:=m-(↑t:Int);let l:=decide (0<=a/\a<(↑N:Int));let f:=0+Int.toNat a;let k:=decide (0<=(↑t:Int)/\(↑t:Int)<(↑N:Int));let e:=0+Int.toNat (↑t:Int);let d:=decide (N=N);let j:=decide (N<=N);let i:=(↑(t+1):Int);let h:=Zg (U3 N g t);let c:=U3 N g t f;let b:=U3 N g t e;
 Z5 (decide ((↑t:Int)<a)) (Z5 l (Z5 (decide (f<N)) (Z5 k (Z5 (decide (e<N)) (Z5 k (Z5 (decide (e<N)) (Z5 l (Z5 (decide (f<N)) (Z5 d (Z5 j (Z5 (decide (wrap i64 (a-1)=m-i)) (Z5 (decide (wrap i64 ((↑t:Int)+1)=i)) (Z5 d (Zo 1 [] N (Zg (U3 N g (t+1))) (QT (QT h e [AV.arr u8 32 c.name,AV.int i64 c.index,AV.int i64 c.way,AV.arr u8 32 c.tag,AV.arr u8 32 c.also,AV.arr u8 32 c.secret]) f [AV.arr u8 32 b.name,AV.int i64 b.index,AV.int i64 b.way,AV.arr u8 32 b.tag,AV.arr u8 32 b.also,AV.arr u8 32 b.secret])/\(↑t:Int)<a/\t<N) False) False) False) False) False) False) False) False) False) False) False) False) False)
 (Z5 d (Z5 j (Z5 (decide (a=a)) (Z5 (decide ((↑t:Int)=(↑t:Int))) (Z5 d (Zo 1 [] N h h/\((↑t:Int)<a->False)) False) False) False) False) False)) (by kernel_rfl) ?_
 conv=>zeta
 simp only [ZD]
 simp only [ZM]
 have hrows:Zo 1 [] N (Zg (U3 N g t)) (Zg (U3 N g t)):=Ym fun _ _=>rfl
 refine ⟨fun h1=> ?_,fun h1=>by simp [hrows,h1]⟩
 have hw1:i64.wrap ((t:Int)+1)=(t:Int)+1:=w64 (by omega)
 have hw2:i64.wrap ((N:Int)-1-t-1)=(N:Int)-1-t-1:=w64 (by omega)
 have e1:0+((N:Int)-1-t).toNat=N-1-t:=by omega
 have e2:0+(t:Int).toNat=t:=by omega
 simp only [e1,e2,hw1,hw2]
 refine ⟨by omega,by omega,by omega,by omega,by omega,by omega,by omega,by omega,trivial,by omega,by omega,by omega,trivial,Ym fun q hq=> ?_,h1,by omega⟩
 rw [Vf,Vf]
 have g1:U3 N g t (N-1-t)=g (N-1-t):=by unfold U3;rw [if_neg (by omega)]
 have g2:U3 N g t t=g t:=by unfold U3;rw [if_neg (by omega)]
 rw [g1,g2]
 by_cases q1:q=N-1-t
 ·subst q1
  rw [Jl]
  show (g t).c=_
  unfold U3
  rw [if_pos (by omega)]
  congr 2;omega
 ·rw [Zw q1]
  by_cases q2:q=t
  ·subst q2
   rw [Jl]
   show (g (N-1-q)).c=_
   unfold U3
   rw [if_pos (by omega)]
  ·rw [Zw q2]
   show (U3 N g t q).c=_
   unfold U3
   congr 1
   by_cases c:q<t\/N<q+t+1
   ·rw [if_pos c,if_pos (by omega)]
   ·rw [if_neg c,if_neg (by omega)]
noncomputable def E10 (N:Nat) (g:Nat->InS):Zb:=(G0.withL 244 0 (goL 1 [] (Z8P N g 0) (N<900000000000) (Z1N 0 N (fun t=>(t:Int)<(N:Int)-1-t) (fun t=>¬(t:Int)<(N:Int)-1-t) (fun _=>False) (Z8P N g) (Z8P N g)))).withF 91 (Zdn N g (N<900000000000))
theorem Zjb (N:Nat) (g:Nat->InS):(E10 N g).Ok:=
 Zb.withF_ok (Zb.withGo (τ1:=[]) (τ2:=[]) (τ3:=[]) (N:=20) Zm (by kernel_rfl) fun hC=>⟨rfl,fun i hi hgo=>Zlf N g i hC hi hgo⟩) (Zbs N g)
theorem Z8Q (N:Nat) (g:Nat->InS) (hN:N<900000000000):
  evF (E10 N g) 20 180 [.vrows 130 N (Zg g) N] ⟨0,[]⟩ (Yz 0 [(0,0)] (.nslice ⟨0,0,130,0,0⟩ 130 N N) 1 [(0,.rows 130 N (Zg (Z0h N g)))]):=by
 refine @Eq.mpr _ (let a:=decide (N=N);let c:=Zg g;let e:=decide (N<=N);let b:=(↑N:Int)-1;
 Z5 a
 (Z5 a
 (c=c/\
 N<900000000000/\
 Z5 a
 (Z5 e
 (Z5 (decide (wrap i64 b=b-0))
 (Z5 a
 (Zo 1 [] N (Zg (U3 N g 0)) c/\
 N<900000000000/\
 ∀(i:Nat),
 let d:=Z5 a (Z5 e (Z5 a (Zo 0 [(0,0)] N (Zg (Z0h N g)) (Zg (U3 N g i))/\True) False) False) False;
 i<=N->(∀(j:Nat),j<i->(fun (t:Nat)=>(↑t:Int)<b-(↑t:Int)) j)->(¬(↑i:Int)<b-(↑i:Int)->d)/\(False->d))
 False)
 False)
 False)
 False)
 False)
 False) (by kernel_rfl) ?_
 conv=>zeta
 simp only [ZD,true_and,and_true]
 refine ⟨hN,by omega,by rw [w64 (by omega)];omega,Ym fun i hi=> ?_,hN,fun i hi hgo=>⟨fun hex=>⟨by omega,Ym fun q hq=> ?_⟩,fun h=>h.elim⟩⟩
 ·show (g i).c=_
  unfold U3
  rw [if_neg (by omega)]
 ·show (U3 N g i q).c=_
  unfold U3 Z0h
  by_cases c:q<i\/N<q+i+1
  ·rw [if_pos c]
  ·rw [if_neg c]
   congr 2;omega
theorem Z48 (N:Nat) (g:Nat->InS) (hN:N<900000000000):Zs PP 180 [.vrows 130 N (Zg g) N] (.nslice ⟨0,0,130,0,0⟩ 130 N N) 1 [(0,.rows 130 N (Zg (Z0h N g)))]:=.ev (Zjb N g) (Z8Q N g hN)
def YK (p:Nat->Bool) (n:Nat):Int:=match (List.range n).find? p with|some i=>i|none=> -1
theorem V9 {p:Nat->Bool} {n i:Nat} (hi:i<n) (hgo:∀j,j<i->p j=false) (hp:p i=true):YK p n=i:=by
 unfold YK
 have:(List.range n).find? p=some i:=by
  rw [List.find?_range_eq_some]
  exact ⟨hp,Jw.2 hi,fun j hj=>by simp [hgo j hj]⟩
 rw [this]
theorem Va {p:Nat->Bool} {n:Nat} (hgo:∀j,j<n->p j=false):YK p n= -1:=by
 unfold YK
 have:(List.range n).find? p=none:=by
  rw [List.find?_eq_none]
  intro j hj
  simp [hgo j (Jw.1 hj)]
 rw [this]
theorem Vs (p:Nat->Bool) (n:Nat):(YK p n= -1/\∀j,j<n->p j=false)\/∃i,i<n/\YK p n=(i:Nat)/\p i=true/\∀j,j<i->p j=false:=by
 unfold YK
 cases h:(List.range n).find? p with
 | none=>
  refine .inl ⟨rfl,fun j hj=> ?_⟩
  have:=List.find?_eq_none.1 h j (Jw.2 hj)
  simpa using this
 | some i=>
  rw [List.find?_range_eq_some] at h
  exact .inr ⟨i,Jw.1 h.2.1,rfl,h.1,fun j hj=>by simpa using h.2.2 j hj⟩
theorem Z79 (p:Nat->Bool) (n:Nat): -1<=YK p n/\YK p n<n+1:=by
 rcases Vs p n with ⟨h,_⟩|⟨i,hi,h,_⟩<;>omega
def Q5 (x y:InS):Bool:=(y.name==x.name)&&(y.index==x.index)
theorem Zjc (x y:InS) (hx:x.Ok) (hy:y.Ok):
  evF G0 20 178 [.agg y.c,.pview x.c 0] ⟨0,[]⟩ (Yz 0 [] (.bool (Q5 x y)) 0 []):=by
 refine @Eq.mpr _ (Z7 (y.name.length=32/\x.name.length=32) (Z5 (y.name==x.name) (Z7 ((y.index==x.index)=Q5 x y) True) (Z7 (false=Q5 x y) True))) (by kernel_rfl) ?_
 try simp only [WK]
 try simp only [WL]
 try simp only [vcC]
 unfold Q5
 refine ⟨⟨hy.name,hx.name⟩,fun h=> ?_,fun h=> ?_⟩<;>simp [h]
def Zio:ZI:=fun args h K=>Zz none h true 20 args fun a=>match a with
 | [.agg cs,.pview ds 0]=>∃x y,cs=InS.c y/\ds=InS.c x/\(x.Ok/\y.Ok)/\K (.bool (Q5 x y))
 | _=>False
theorem Zdo (args:List AV) (h:Z8) (K:AV->Prop) (hl:Zio args h K):Ze PP 178 args h fun o h'=>∃v,o=.ret v/\h'=h/\K v:=by
 refine Zs.psumm (d:=20) (Zk _ _ _ _ _ hl fun a ha=> ?_)
 split at ha
 ·obtain ⟨x,y,rfl,rfl,⟨h1,h2⟩,hK⟩:=ha
  exact ⟨_,.ev Zm (Zjc x y h1 h2),fun _=>rfl,hK⟩
 ·exact ha.elim
noncomputable def Zjd:Zb:=G0.withP 178 Zio
theorem Zge:Zjd.Ok:=Zb.withP_ok Zm Zdo
def ixS (N:Nat) (g:Nat->InS) (x:InS) (i:Nat):St:=⟨19,[(1,.func (Fn.func 178) [] [.pview (InS.c x) 0]),(0,.vrows 130 N (Zg g) N),(7,.int .i64 N),(8,.int .i64 i)],⟨0,[]⟩,[]⟩
def ixR (i:Nat):St:=⟨19,[(4,.int .i64 i)],⟨0,[]⟩,[]⟩
def ixE (_:Nat):St:=⟨19,[],⟨0,[]⟩,[]⟩
theorem Zo9 (N:Nat) (g:Nat->InS) (x:InS) (i:Nat) (Z1 Z2 Z3:Prop) (hN:N<900000000000) (hx:x.Ok) (hg:∀i,i<N->(g i).Ok) (hi:i<=N) (h1:i<N->Q5 x (g i)=false->Z1) (h2:i=N->Z2) (h3:i<N->Q5 x (g i)=true->Z3):
  ZG Zjd 20 179 0 0 (ixS N g x i) (fun e s=>match e with|.normal=>Y6 0 [] (ixS N g x (i+1)) s Z1|.exit x=>(match Nat.beq x 0 with|true=>Y6 0 [] (ixE i) s Z2|false=>False)|.ret=>Y6 0 [] (ixR i) s Z3|_=>False):=by
 refine @Eq.mpr _ (let a:=g (Int.toNat (↑i:Int));let b:=InS.c x;let d:=decide (N=N);
 Z5 (decide ((↑i:Int)<(↑N:Int))) (Z7 (0<=(↑i:Int)/\(↑i:Int)<(↑N:Int)) (∃(x:InS),∃(y:InS),[AV.arr u8 32 a.name,AV.int i64 a.index,AV.int i64 a.way,AV.arr u8 32 a.tag,AV.arr u8 32 a.also,AV.arr u8 32 a.secret]=InS.c y/\b=InS.c x/\(InS.Ok x/\InS.Ok y)/\Z5 (Q5 x y) (Z7 ((↑i:Int)=(↑i:Int)) Z3) (b=b/\Z6 d (Zg g=Zg g/\Z6 d (Z7 ((↑N:Int)=(↑N:Int)) (Z7 (wrap i64 ((↑i:Int)+1)=(↑(i+1):Int)) Z1)))))) Z2) (by kernel_rfl) ?_
 conv=>zeta
 try simp only [WK]
 try simp only [WL]
 try simp only [vcC]
 refine ⟨fun hlt=>⟨by omega,x,g i,rfl,rfl,⟨hx,hg i (by omega)⟩,fun h=>h3 (by omega) h,fun h=>⟨w64 (by omega),h1 (by omega) h⟩⟩,fun hge=>h2 (by omega)⟩
def sameAt (g:Nat->InS) (x:InS):Nat->Bool:=fun j=>Q5 x (g j)
noncomputable def Zlg (N:Nat) (g:Nat->InS) (x:InS):Zb:=Zjd.withL 179 0 (goL 0 [] (ixS N g x 0) (N<900000000000/\x.Ok/\∀i,i<N->(g i).Ok) (Z1N 0 N (fun i=>sameAt g x i=false) (fun i=>i=N) (fun i=>i<N/\sameAt g x i=true) ixE ixR))
theorem Zgf (N:Nat) (g:Nat->InS) (x:InS):(Zlg N g x).Ok:=
 Zb.withGo (τ1:=[]) (τ2:=[]) (τ3:=[]) (N:=20) Zge (by kernel_rfl) fun hC=>⟨rfl,fun i hi _=>Zo9 N g x i _ _ _ hC.1 hC.2.1 hC.2.2 hi (fun h1 h2=>⟨h2,h1⟩) (fun h=>h) (fun h1 h2=>⟨h1,h2⟩)⟩
theorem Zgg (N:Nat) (g:Nat->InS) (x:InS) (F:Int) (hN:N<900000000000) (hx:x.Ok) (hg:∀i,i<N->(g i).Ok) (hF:F=YK (sameAt g x) N):
  evF (Zlg N g x) 20 179 [.vrows 130 N (Zg g) N,.func (.func 178) [] [.pview x.c 0]] ⟨0,[]⟩ (Yz 0 [] (.int .i64 F) 0 []):=by
 refine @Eq.mpr _ (let a:=decide (N=N);
 InS.c x=InS.c x/\Z6 a (Zg g=Zg g/\Z6 a (Z7 ((↑N:Int)=(↑N:Int)) ((N<900000000000/\InS.Ok x/\∀(i:Nat),i<N->InS.Ok (g i))/\∀(i:Nat),i<=N->(∀(j:Nat),j<i->(fun (i:Nat)=>sameAt g x i=false) j)->(i=N->Z7 (-1=F) True)/\(i<N/\sameAt g x i=true->Z7 ((↑i:Int)=F) True))))) (by kernel_rfl) ?_
 conv=>zeta
 try simp only [WK]
 try simp only [WL]
 try simp only [vcC]
 subst hF
 exact ⟨⟨hN,hx,hg⟩,fun i hi hgo=>⟨fun h=>by subst h;exact (Va hgo).symm,fun h=>(V9 h.1 hgo h.2).symm⟩⟩
theorem Z8R (N:Nat) (g:Nat->InS) (x:InS) (hN:N<900000000000) (hx:x.Ok) (hg:∀i,i<N->(g i).Ok):Zs PP 179 [.vrows 130 N (Zg g) N,.func (.func 178) [] [.pview x.c 0]] (.int .i64 (YK (sameAt g x) N)) 0 []:=.ev (Zgf N g x) (Zgg N g x _ hN hx hg rfl)
def Zdp:ZI:=fun args h K=>Zz none h true 20 args fun a=>match a with
 | [.vrows 130 n f m,.func (.func 178) [] [.pview cs 0]]=>∃g x,f=Zg g/\cs=InS.c x/\(m=n/\n<900000000000/\x.Ok/\∀i,i<n->(g i).Ok)/\K (.int .i64 (YK (sameAt g x) n))
 | _=>False
theorem Zbt (args:List AV) (h:Z8) (K:AV->Prop) (hl:Zdp args h K):Ze PP 179 args h fun o h'=>∃v,o=.ret v/\h'=h/\K v:=by
 refine Zs.psumm (d:=20) (Zk _ _ _ _ _ hl fun a ha=> ?_)
 split at ha
 ·obtain ⟨g,x,rfl,rfl,⟨rfl,h1,h2,h3⟩,hK⟩:=ha
  exact ⟨_,Z8R _ g x h1 h2 h3,fun _=>rfl,hK⟩
 ·exact ha.elim
def Z4O:ZO:=fun args h K=>Zz none h true 20 args fun a=>match a with
 | [.vrows 130 n f m]=>∃g,f=Zg g/\(m=n/\n<900000000000)/\K (.ret (.nslice ⟨h.next,0,130,0,0⟩ 130 n n)) ⟨h.next+1,(h.next,.rows 130 n (Zg (Z0h n g)))::h.bs⟩
 | _=>False
theorem Z5S (args:List AV) (h:Z8) (K:KO) (hl:Z4O args h K):Ze PP 180 args h K:=by
 refine Zs.fsumm (d:=20) (Zk _ _ _ _ _ hl fun a ha=> ?_)
 split at ha
 ·obtain ⟨g,rfl,⟨rfl,hN⟩,hK⟩:=ha
  exact ⟨_,_,_,_,Z48 _ _ hN,rfl,⟨JH,.rows _ _ _ (fun i _=>(Z0h _ g i).plainC),trivial⟩,hK⟩
 ·exact ha.elim
noncomputable def Zlh:Zb:=(G0.withP 179 Zdp).withF 180 Z4O
theorem Zgh:Zlh.Ok:=Zb.withF_ok (Zb.withP_ok Zm Zbt) Z5S
@[irreducible] def Q6 (N:Nat) (g:Nat->InS) (x:InS):Bool:=YK (sameAt g x) N !=(N:Int)-1-YK (sameAt (Z0h N g) x) N
theorem Zgi (N:Nat) (g:Nat->InS) (x:InS) (num:Int) (outs:AV) (F:Bool) (hN:N<900000000000) (hx:x.Ok) (hg:∀i,i<N->(g i).Ok) (hF:F=Q6 N g x):
  evF Zlh 20 177 [.agg x.c,.pview [.int .i64 num,.vrows 130 N (Zg g) N,outs] 0] ⟨0,[]⟩ (Yz 0 [] (.bool F) 0 []):=by
 refine @Eq.mpr _ (let a:=Zg g;let d:=decide (N=N);
 ∃(g:Nat->InS),
 ∃(x_1:InS),
 let b:=[AV.arr u8 32 x.name,AV.int i64 x.index,AV.int i64 x.way,AV.arr u8 32 x.tag,AV.arr u8 32 x.also,AV.arr u8 32 x.secret];
 a=Zg g/\b=InS.c x_1/\(N=N/\N<900000000000/\InS.Ok x_1/\∀(i:Nat),i<N->InS.Ok (g i))/\∃(g_1:Nat->InS),a=Zg g_1/\(N=N/\N<900000000000)/\Z7 ((↑N:Int)=(↑N:Int)) (Z6 d (a=a/\Z6 d (Z7 (0+N<=N) ((∀(i:Nat),i<N->true=true)/\∃(g_2:Nat->InS),∃(x:InS),Yu 0 (Zg (Z0h N g_1))=Zg g_2/\b=InS.c x/\(N=N/\N<900000000000/\InS.Ok x/\∀(i:Nat),i<N->InS.Ok (g_2 i))/\Z7 ((YK (sameAt g x_1) N !=wrap i64 (wrap i64 ((↑N:Int)-1)-YK (sameAt g_2 x) N))=F) True))))) (by kernel_rfl) ?_
 conv=>zeta
 try simp only [WK]
 try simp only [WL]
 try simp only [vcC]
 subst hF
 have hr:∀i,i<N->(Z0h N g i).Ok:=fun i hi=>hg _ (by omega)
 refine ⟨g,x,rfl,rfl,⟨hN,hx,hg⟩,g,rfl,hN,fun _ _=>trivial,Z0h N g,x,rfl,rfl,⟨hN,hx,hr⟩, ?_⟩
 have hb:=Z79 (sameAt (Z0h N g) x) N
 rw [w64 (x:=(N:Int)-1) (by omega),w64 (by omega)]
 unfold Q6
 rfl
theorem Z8S (N:Nat) (g:Nat->InS) (x:InS) (num:Int) (outs:AV) (hN:N<900000000000) (hx:x.Ok) (hg:∀i,i<N->(g i).Ok):Zs PP 177 [.agg x.c,.pview [.int .i64 num,.vrows 130 N (Zg g) N,outs] 0] (.bool (Q6 N g x)) 0 []:=.ev Zgh (Zgi N g x num outs _ hN hx hg rfl)
def Zdq:ZI:=fun args h K=>Zz none h true 20 args fun a=>match a with
 | [.agg cs,.pview [.int .i64 num,.vrows 130 n f m,outs] 0]=>∃g x,f=Zg g/\cs=InS.c x/\(m=n/\n<900000000000/\x.Ok/\∀i,i<n->(g i).Ok)/\K (.bool (Q6 n g x))
 | _=>False
theorem Zbu (args:List AV) (h:Z8) (K:AV->Prop) (hl:Zdq args h K):Ze PP 177 args h fun o h'=>∃v,o=.ret v/\h'=h/\K v:=by
 refine Zs.psumm (d:=20) (Zk _ _ _ _ _ hl fun a ha=> ?_)
 split at ha
 ·obtain ⟨g,x,rfl,rfl,⟨rfl,h1,h2,h3⟩,hK⟩:=ha
  exact ⟨_,Z8S _ g x _ _ h1 h2 h3,fun _=>rfl,hK⟩
 ·exact ha.elim
def Uo (N:Nat) (g:Nat->InS) (y:InS):Bool:= !Y9 y||Q6 N g y
noncomputable def Zli:Zb:=(G0.withP 177 Zdq).withP 182 (inS Y9)
theorem Zgj:Zli.Ok:=Zb.withP_ok (Zb.withP_ok Zm Zbu) Zj5
theorem Zgk (N:Nat) (g:Nat->InS) (y:InS) (num:Int) (outs:AV) (F:Bool) (hN:N<900000000000) (hy:y.Ok) (hg:∀i,i<N->(g i).Ok) (hF:F=Uo N g y):
  evF Zli 20 181 [.agg y.c,.pview [.func (.func 177) [] [.pview [.int .i64 num,.vrows 130 N (Zg g) N,outs] 0]] 0] ⟨0,[]⟩ (Yz 0 [] (.bool F) 0 []):=by
 refine @Eq.mpr _ (let e:=y.name;let d:=y.tag;let b:=y.also;let a:=y.secret;
 Z7 (e.length=32/\d.length=32/\b.length=32/\a.length=32) (Z5 (!Y9 (InS.mk e y.index y.way d b a)) (Z7 (true=F) True) (∃(g_1:Nat->InS),∃(x:InS),Zg g=Zg g_1/\[AV.arr u8 32 e,AV.int i64 y.index,AV.int i64 y.way,AV.arr u8 32 d,AV.arr u8 32 b,AV.arr u8 32 a]=InS.c x/\(N=N/\N<900000000000/\InS.Ok x/\∀(i:Nat),i<N->InS.Ok (g_1 i))/\Z7 (Q6 N g_1 x=F) True))) (by kernel_rfl) ?_
 conv=>zeta
 try simp only [WK]
 try simp only [WL]
 try simp only [vcC]
 subst hF
 refine ⟨⟨hy.name,hy.tag,hy.also,hy.secret⟩, ?_, ?_⟩
 ·intro h
  have h':Y9 y=false:=by simpa using h
  unfold Uo
  rw [h']
  rfl
 ·intro h
  refine ⟨g,y,rfl,rfl,⟨hN,hy,hg⟩, ?_⟩
  have h':Y9 y=true:=by simpa using h
  unfold Uo
  rw [h']
  rfl
def Zdr:ZI:=fun args h K=>Zz none h true 20 args fun a=>match a with
 | [.agg cs,.pview [.func (.func 177) [] [.pview [.int .i64 num,.vrows 130 n f m,outs] 0]] 0]=>∃g y,f=Zg g/\cs=InS.c y/\(m=n/\n<900000000000/\y.Ok/\∀i,i<n->(g i).Ok)/\K (.bool (Uo n g y))
 | _=>False
theorem Zbv (args:List AV) (h:Z8) (K:AV->Prop) (hl:Zdr args h K):Ze PP 181 args h fun o h'=>∃v,o=.ret v/\h'=h/\K v:=by
 refine Zs.psumm (d:=20) (Zk _ _ _ _ _ hl fun a ha=> ?_)
 split at ha
 ·obtain ⟨g,x,rfl,rfl,⟨rfl,h1,h2,h3⟩,hK⟩:=ha
  exact ⟨_,.ev Zgj (Zgk _ g x _ _ _ h1 h2 h3 rfl),fun _=>rfl,hK⟩
 ·exact ha.elim
noncomputable def Zje:Zb:=G0.withP 181 Zdr
theorem Zgl:Zje.Ok:=Zb.withP_ok Zm Zbv
def YZ (N:Nat) (g:Nat->InS):Nat->Bool:=fun j=>Uo N g (g j)
def Zjf (N:Nat) (g:Nat->InS) (num:Int) (outs:AV) (i:Nat):St:=⟨19,[(1,.func (.func 181) [] [.pview [.func (.func 177) [] [.pview [.int .i64 num,.vrows 130 N (Zg g) N,outs] 0]] 0]),(0,.vrows 130 N (Zg g) N),(7,.int .i64 N),(8,.int .i64 i)],⟨0,[]⟩,[]⟩
def Zlj (i:Nat):St:=⟨19,[(4,.int .i64 i)],⟨0,[]⟩,[]⟩
def Zlk (_:Nat):St:=⟨19,[],⟨0,[]⟩,[]⟩
theorem Zll (N:Nat) (g:Nat->InS) (num:Int) (outs:AV) (i:Nat) (Z1 Z2 Z3:Prop) (hC:N<900000000000/\∀i,i<N->(g i).Ok) (hi:i<=N) (h1:i<N->YZ N g i=false->Z1) (h2:i=N->Z2) (h3:i<N->YZ N g i=true->Z3):
  ZG Zje 20 179 0 0 (Zjf N g num outs i) (fun e s=>match e with|.normal=>Y6 0 [] (Zjf N g num outs (i+1)) s Z1|.exit x=>(match Nat.beq x 0 with|true=>Y6 0 [] (Zlk i) s Z2|false=>False)|.ret=>Y6 0 [] (Zlj i) s Z3|_=>False):=by
 refine @Eq.mpr _ (let b:=Zg g;let a:=g (Int.toNat (↑i:Int));let e:=[AV.func (Fn.func 177) [] [AV.pview [AV.int i64 num,AV.vrows 130 N b N,outs] 0]];let d:=decide (N=N);
 Z5 (decide ((↑i:Int)<(↑N:Int))) (Z7 (0<=(↑i:Int)/\(↑i:Int)<(↑N:Int)) (∃(g:Nat->InS),∃(y:InS),b=Zg g/\[AV.arr u8 32 a.name,AV.int i64 a.index,AV.int i64 a.way,AV.arr u8 32 a.tag,AV.arr u8 32 a.also,AV.arr u8 32 a.secret]=InS.c y/\(N=N/\N<900000000000/\InS.Ok y/\∀(i:Nat),i<N->InS.Ok (g i))/\Z5 (Uo N g y) (Z7 ((↑i:Int)=(↑i:Int)) Z3) (e=e/\Z6 d (b=b/\Z6 d (Z7 ((↑N:Int)=(↑N:Int)) (Z7 (wrap i64 ((↑i:Int)+1)=(↑(i+1):Int)) Z1)))))) Z2) (by kernel_rfl) ?_
 conv=>zeta
 try simp only [WK]
 try simp only [WL]
 try simp only [vcC]
 refine ⟨fun hlt=>⟨by omega,g,g i,rfl,rfl,⟨hC.1,hC.2 i (by omega),hC.2⟩,fun h=>h3 (by omega) h,fun h=>⟨w64 (by omega),h1 (by omega) h⟩⟩,fun hge=>h2 (by omega)⟩
noncomputable def Zlm (N:Nat) (g:Nat->InS) (num:Int) (outs:AV):Zb:=Zje.withL 179 0 (goL 0 [] (Zjf N g num outs 0) (N<900000000000/\∀i,i<N->(g i).Ok) (Z1N 0 N (fun i=>YZ N g i=false) (fun i=>i=N) (fun i=>i<N/\YZ N g i=true) Zlk Zlj))
theorem Zgm (N:Nat) (g:Nat->InS) (num:Int) (outs:AV):(Zlm N g num outs).Ok:=
 Zb.withGo (τ1:=[]) (τ2:=[]) (τ3:=[]) (N:=20) Zgl (by kernel_rfl) fun hC=>⟨rfl,fun i hi _=>Zll N g num outs i _ _ _ hC hi (fun h1 h2=>⟨h2,h1⟩) (fun h=>h) (fun h1 h2=>⟨h1,h2⟩)⟩
theorem Zln (N:Nat) (g:Nat->InS) (num:Int) (outs:AV) (F:Int) (hC:N<900000000000/\∀i,i<N->(g i).Ok) (hF:F=YK (YZ N g) N):
  evF (Zlm N g num outs) 20 179 [.vrows 130 N (Zg g) N,.func (.func 181) [] [.pview [.func (.func 177) [] [.pview [.int .i64 num,.vrows 130 N (Zg g) N,outs] 0]] 0]] ⟨0,[]⟩ (Yz 0 [] (.int .i64 F) 0 []):=by
 refine @Eq.mpr _ (let a:=Zg g;let c:=[AV.func (Fn.func 177) [] [AV.pview [AV.int i64 num,AV.vrows 130 N a N,outs] 0]];let b:=decide (N=N);
 c=c/\Z6 b (a=a/\Z6 b (Z7 ((↑N:Int)=(↑N:Int)) ((N<900000000000/\∀(i:Nat),i<N->InS.Ok (g i))/\∀(i:Nat),i<=N->(∀(j:Nat),j<i->(fun (i:Nat)=>YZ N g i=false) j)->(i=N->Z7 (-1=F) True)/\(i<N/\YZ N g i=true->Z7 ((↑i:Int)=F) True))))) (by kernel_rfl) ?_
 conv=>zeta
 try simp only [WK]
 try simp only [WL]
 try simp only [vcC]
 subst hF
 exact ⟨hC,fun i hi hgo=>⟨fun h=>by subst h;exact (Va hgo).symm,fun h=>(V9 h.1 hgo h.2).symm⟩⟩
theorem Zds (N:Nat) (g:Nat->InS) (num:Int) (outs:AV) (hC:N<900000000000/\∀i,i<N->(g i).Ok):Zs PP 179 [.vrows 130 N (Zg g) N,.func (.func 181) [] [.pview [.func (.func 177) [] [.pview [.int .i64 num,.vrows 130 N (Zg g) N,outs] 0]] 0]] (.int .i64 (YK (YZ N g) N)) 0 []:=.ev (Zgm N g num outs) (Zln N g num outs _ hC rfl)
theorem U4 (p:Nat->Bool) (n:Nat):decide (0<=YK p n)=(List.range n).any p:=by
 rcases Vs p n with ⟨h,h2⟩|⟨i,hi,h,h2,_⟩
 ·rw [h]
  have:(List.range n).any p=false:=by
   rw [JM]
   intro j hj
   simp [h2 j (Jw.1 hj)]
  rw [this];rfl
 ·rw [h]
  have:(List.range n).any p=true:=List.any_eq_true.2 ⟨i,Jw.2 hi,h2⟩
  rw [this];simp
def Zlo:ZI:=fun args h K=>Zz none h true 20 args fun a=>match a with
 | [.vrows 130 n f m,.func (.func 181) [] [.pview [.func (.func 177) [] [.pview [.int .i64 num,.vrows 130 n' f' m',outs] 0]] 0]]=>∃g,f=Zg g/\f'=Zg g/\(m=n/\n'=n/\m'=n/\n<900000000000/\∀i,i<n->(g i).Ok)/\K (.int .i64 (YK (YZ n g) n))
 | _=>False
theorem Zgn (args:List AV) (h:Z8) (K:AV->Prop) (hl:Zlo args h K):Ze PP 179 args h fun o h'=>∃v,o=.ret v/\h'=h/\K v:=by
 refine Zs.psumm (d:=20) (Zk _ _ _ _ _ hl fun a ha=> ?_)
 split at ha
 ·obtain ⟨g,rfl,rfl,⟨rfl,rfl,rfl,h1,h2⟩,hK⟩:=ha
  exact ⟨_,Zds _ g _ _ ⟨h1,h2⟩,fun _=>rfl,hK⟩
 ·exact ha.elim
noncomputable def Zlp:Zb:=G0.withP 49 (Zj6 ZE)
theorem Zgo:Zlp.Ok:=Zb.withP_ok Zm Zg7
def Z0i (o:ZF):Bool:= !ZE o
theorem Zdt (o:ZF) (F:Bool) (ho:o.Ok) (hF:F=Z0i o):
  evF Zlp 20 186 [.agg o.c] ⟨0,[]⟩ (Yz 0 [] (.bool F) 0 []):=by
 refine @Eq.mpr _ (Z7 (o.owner.length=32/\o.other.length=32/\o.point.length=32/\o.hash.length=32) (Z7 ((!ZE (ZF.mk o.kind o.amount o.owner o.other o.point o.hash o.delay o.expiry))=F) True)) (by kernel_rfl) ?_
 try simp only [WK]
 try simp only [WL]
 try simp only [vcC]
 subst hF
 exact ⟨⟨ho.owner,ho.other,ho.point,ho.hash⟩,rfl⟩
def Za5:ZI:=fun args h K=>Zz none h true 20 args fun a=>match a with
 | [.agg cs]=>∃o,cs=ZF.c o/\o.Ok/\K (.bool (Z0i o))
 | _=>False
theorem Z8T (args:List AV) (h:Z8) (K:AV->Prop) (hl:Za5 args h K):Ze PP 186 args h fun o h'=>∃v,o=.ret v/\h'=h/\K v:=by
 refine Zs.psumm (d:=20) (Zk _ _ _ _ _ hl fun a ha=> ?_)
 split at ha
 ·obtain ⟨x,rfl,h1,hK⟩:=ha
  exact ⟨_,.ev Zgo (Zdt x _ h1 rfl),fun _=>rfl,hK⟩
 ·exact ha.elim
noncomputable def Zjg:Zb:=G0.withP 186 Za5
theorem Zgp:Zjg.Ok:=Zb.withP_ok Zm Z8T
def YH (g:Nat->ZF):Nat->Bool:=fun j=>Z0i (g j)
def Zjh (N:Nat) (g:Nat->ZF) (i:Nat):St:=⟨19,[(1,.func (.func 186) [] []),(0,.vrows 132 N (Zf g) N),(7,.int .i64 N),(8,.int .i64 i)],⟨0,[]⟩,[]⟩
def Zlq (i:Nat):St:=⟨19,[(4,.int .i64 i)],⟨0,[]⟩,[]⟩
def Zlr (_:Nat):St:=⟨19,[],⟨0,[]⟩,[]⟩
theorem Zls (N:Nat) (g:Nat->ZF) (i:Nat) (Z1 Z2 Z3:Prop) (hC:N<900000000000/\∀i,i<N->(g i).Ok) (hi:i<=N) (h1:i<N->YH g i=false->Z1) (h2:i=N->Z2) (h3:i<N->YH g i=true->Z3):
  ZG Zjg 20 245 0 0 (Zjh N g i) (fun e s=>match e with|.normal=>Y6 0 [] (Zjh N g (i+1)) s Z1|.exit x=>(match Nat.beq x 0 with|true=>Y6 0 [] (Zlr i) s Z2|false=>False)|.ret=>Y6 0 [] (Zlq i) s Z3|_=>False):=by
 refine @Eq.mpr _ (let a:=g (Int.toNat (↑i:Int));let b:=decide (N=N);
 Z5 (decide ((↑i:Int)<(↑N:Int))) (Z7 (0<=(↑i:Int)/\(↑i:Int)<(↑N:Int)) (∃(o:ZF),[AV.int i64 a.kind,AV.int i64 a.amount,AV.arr u8 32 a.owner,AV.arr u8 32 a.other,AV.arr u8 32 a.point,AV.arr u8 32 a.hash,AV.int i64 a.delay,AV.int i64 a.expiry]=ZF.c o/\ZF.Ok o/\Z5 (Z0i o) (Z7 ((↑i:Int)=(↑i:Int)) Z3) (Z6 b (Zf g=Zf g/\Z6 b (Z7 ((↑N:Int)=(↑N:Int)) (Z7 (wrap i64 ((↑i:Int)+1)=(↑(i+1):Int)) Z1)))))) Z2) (by kernel_rfl) ?_
 conv=>zeta
 try simp only [WK]
 try simp only [WL]
 try simp only [vcC]
 refine ⟨fun hlt=>⟨by omega,g i,rfl,hC.2 i (by omega),fun h=>h3 (by omega) h,fun h=>⟨w64 (by omega),h1 (by omega) h⟩⟩,fun hge=>h2 (by omega)⟩
noncomputable def Zlt (N:Nat) (g:Nat->ZF):Zb:=Zjg.withL 245 0 (goL 0 [] (Zjh N g 0) (N<900000000000/\∀i,i<N->(g i).Ok) (Z1N 0 N (fun i=>YH g i=false) (fun i=>i=N) (fun i=>i<N/\YH g i=true) Zlr Zlq))
theorem Zgq (N:Nat) (g:Nat->ZF):(Zlt N g).Ok:=
 Zb.withGo (τ1:=[]) (τ2:=[]) (τ3:=[]) (N:=20) Zgp (by kernel_rfl) fun hC=>⟨rfl,fun i hi _=>Zls N g i _ _ _ hC hi (fun h1 h2=>⟨h2,h1⟩) (fun h=>h) (fun h1 h2=>⟨h1,h2⟩)⟩
theorem Zlu (N:Nat) (g:Nat->ZF) (F:Int) (hC:N<900000000000/\∀i,i<N->(g i).Ok) (hF:F=YK (YH g) N):
  evF (Zlt N g) 20 245 [.vrows 132 N (Zf g) N,.func (.func 186) [] []] ⟨0,[]⟩ (Yz 0 [] (.int .i64 F) 0 []):=by
 refine @Eq.mpr _ (let a:=decide (N=N);
 Z6 a (Zf g=Zf g/\Z6 a (Z7 ((↑N:Int)=(↑N:Int)) ((N<900000000000/\∀(i:Nat),i<N->ZF.Ok (g i))/\∀(i:Nat),i<=N->(∀(j:Nat),j<i->(fun (i:Nat)=>YH g i=false) j)->(i=N->Z7 (-1=F) True)/\(i<N/\YH g i=true->Z7 ((↑i:Int)=F) True))))) (by kernel_rfl) ?_
 conv=>zeta
 try simp only [WK]
 try simp only [WL]
 try simp only [vcC]
 subst hF
 exact ⟨hC,fun i hi hgo=>⟨fun h=>by subst h;exact (Va hgo).symm,fun h=>(V9 h.1 hgo h.2).symm⟩⟩
theorem Zdu (N:Nat) (g:Nat->ZF) (hC:N<900000000000/\∀i,i<N->(g i).Ok):Zs PP 245 [.vrows 132 N (Zf g) N,.func (.func 186) [] []] (.int .i64 (YK (YH g) N)) 0 []:=.ev (Zgq N g) (Zlu N g _ hC rfl)
def Zlv:ZI:=fun args h K=>Zz none h true 20 args fun a=>match a with
 | [.vrows 132 n f m,.func (.func 186) [] []]=>∃g,f=Zf g/\(m=n/\n<900000000000/\∀i,i<n->(g i).Ok)/\K (.int .i64 (YK (YH g) n))
 | _=>False
theorem Zgr (args:List AV) (h:Z8) (K:AV->Prop) (hl:Zlv args h K):Ze PP 245 args h fun o h'=>∃v,o=.ret v/\h'=h/\K v:=by
 refine Zs.psumm (d:=20) (Zk _ _ _ _ _ hl fun a ha=> ?_)
 split at ha
 ·obtain ⟨g,rfl,⟨rfl,h1,h2⟩,hK⟩:=ha
  exact ⟨_,Zdu _ g ⟨h1,h2⟩,fun _=>rfl,hK⟩
 ·exact ha.elim
def Uw (m x:Int):Bool:=decide (x<0\/x>m)
theorem Zji (m x:Int) (F:Bool) (hF:F=Uw m x):
  evF G0 20 236 [.int .i64 x,.pview [.int .i64 m] 0] ⟨0,[]⟩ (Yz 0 [] (.bool F) 0 []):=by
 refine @Eq.mpr _ (Z5 (decide (x<0)) (Z7 (true=F) True) (Z7 (decide (x>m)=F) True)) (by kernel_rfl) ?_
 try simp only [WK]
 try simp only [WL]
 try simp only [vcC]
 subst hF
 unfold Uw
 refine ⟨fun h=> ?_,fun h=> ?_⟩<;>simp [h]
theorem Zgs (x:Int) (F:Bool) (hF:F=Uw 4611686018427387904 x):
  evF G0 20 117 [.int .i64 x] ⟨0,[]⟩ (Yz 0 [] (.bool F) 0 []):=by
 refine @Eq.mpr _ (Z5 (decide (x<0)) (Z7 (true=F) True) (Z7 (decide (x>4611686018427387904)=F) True)) (by kernel_rfl) ?_
 try simp only [WK]
 try simp only [WL]
 try simp only [vcC]
 subst hF
 unfold Uw
 refine ⟨fun h=> ?_,fun h=> ?_⟩<;>simp [h]
def Zip:ZI:=fun args h K=>Zz none h true 20 args fun a=>match a with
 | [.int .i64 x,.pview [.int .i64 m] 0]=>K (.bool (Uw m x))
 | _=>False
theorem Zdv (args:List AV) (h:Z8) (K:AV->Prop) (hl:Zip args h K):Ze PP 236 args h fun o h'=>∃v,o=.ret v/\h'=h/\K v:=by
 refine Zs.psumm (d:=20) (Zk _ _ _ _ _ hl fun a ha=> ?_)
 split at ha
 ·exact ⟨_,.ev Zm (Zji _ _ _ rfl),fun _=>rfl,ha⟩
 ·exact ha.elim
def Zdw (T:Int):ZI:=fun args h K=>Zz none h true 20 args fun a=>match a with
 | [.int .i64 x]=>K (.bool (Uw T x))
 | _=>False
theorem Zbw (args:List AV) (h:Z8) (K:AV->Prop) (hl:Zdw 4611686018427387904 args h K):Ze PP 117 args h fun o h'=>∃v,o=.ret v/\h'=h/\K v:=by
 refine Zs.psumm (d:=20) (Zk _ _ _ _ _ hl fun a ha=> ?_)
 split at ha
 ·exact ⟨_,.ev Zm (Zgs _ _ rfl),fun _=>rfl,ha⟩
 ·exact ha.elim
noncomputable def Zlw (T:Int):Zb:=(G0.withP 236 Zip).withP 117 (Zdw T)
theorem Zgt:(Zlw 4611686018427387904).Ok:=Zb.withP_ok (Zb.withP_ok Zm Zdv) Zbw
def YI (m:Int) (xs:LI):Nat->Bool:=fun j=>Uw m (xs.getD j 0)
noncomputable def Zdx:Zb:=Zlw 4611686018427387904
theorem Za6:Zdx.Ok:=Zgt
def Zjj (xs:LI) (N:Nat) (m:Int) (i:Nat):St:=⟨19,[(1,.func (.func 236) [] [.pview [.int .i64 m] 0]),(0,.vints .i64 xs N),(7,.int .i64 N),(8,.int .i64 i)],⟨0,[]⟩,[]⟩
def Zlx (i:Nat):St:=⟨19,[(4,.int .i64 i)],⟨0,[]⟩,[]⟩
def Zly (_:Nat):St:=⟨19,[],⟨0,[]⟩,[]⟩
theorem Zlz (xs:LI) (N:Nat) (m:Int) (i:Nat) (Z1 Z2 Z3:Prop) (hC:N<900000000000/\xs.length=N) (hi:i<=N) (h1:i<N->YI m xs i=false->Z1) (h2:i=N->Z2) (h3:i<N->YI m xs i=true->Z3):
  ZG Zdx 20 165 0 0 (Zjj xs N m i) (fun e s=>match e with|.normal=>Y6 0 [] (Zjj xs N m (i+1)) s Z1|.exit x=>(match Nat.beq x 0 with|true=>Y6 0 [] (Zly i) s Z2|false=>False)|.ret=>Y6 0 [] (Zlx i) s Z3|_=>False):=by
 refine @Eq.mpr _ (let a:=[AV.int i64 m];
 Z5 (decide ((↑i:Int)<(↑N:Int))) (Z7 (0<=(↑i:Int)/\(↑i:Int)<(↑N:Int)) (Z5 (Uw m (List.getD xs (Int.toNat (↑i:Int)) 0)) (Z7 ((↑i:Int)=(↑i:Int)) Z3) (a=a/\xs=xs/\Z7 (N=N) (Z7 ((↑N:Int)=(↑N:Int)) (Z7 (wrap i64 ((↑i:Int)+1)=(↑(i+1):Int)) Z1))))) Z2) (by kernel_rfl) ?_
 conv=>zeta
 try simp only [WK]
 try simp only [WL]
 try simp only [vcC]
 refine ⟨fun hlt=>⟨by omega,fun h=>h3 (by omega) h,fun h=>⟨w64 (by omega),h1 (by omega) h⟩⟩,fun hge=>h2 (by omega)⟩
noncomputable def ZlA (xs:LI) (N:Nat) (m:Int):Zb:=Zdx.withL 165 0 (goL 0 [] (Zjj xs N m 0) (N<900000000000/\xs.length=N) (Z1N 0 N (fun i=>YI m xs i=false) (fun i=>i=N) (fun i=>i<N/\YI m xs i=true) Zly Zlx))
theorem Zgu (xs:LI) (N:Nat) (m:Int):(ZlA xs N m).Ok:=
 Zb.withGo (τ1:=[]) (τ2:=[]) (τ3:=[]) (N:=20) Za6 (by kernel_rfl) fun hC=>⟨rfl,fun i hi _=>Zlz xs N m i _ _ _ hC hi (fun h1 h2=>⟨h2,h1⟩) (fun h=>h) (fun h1 h2=>⟨h1,h2⟩)⟩
theorem ZlB (xs:LI) (N:Nat) (m:Int) (F:Int) (hC:N<900000000000/\xs.length=N) (hF:F=YK (YI m xs) N):
  evF (ZlA xs N m) 20 165 [.vints .i64 xs N,.func (.func 236) [] [.pview [.int .i64 m] 0]] ⟨0,[]⟩ (Yz 0 [] (.int .i64 F) 0 []):=by
 refine @Eq.mpr _ (let a:=[AV.int i64 m];
 a=a/\xs=xs/\Z7 (N=N) (Z7 ((↑N:Int)=(↑N:Int)) ((N<900000000000/\xs.length=N)/\∀(i:Nat),i<=N->(∀(j:Nat),j<i->(fun (i:Nat)=>YI m xs i=false) j)->(i=N->Z7 (-1=F) True)/\(i<N/\YI m xs i=true->Z7 ((↑i:Int)=F) True)))) (by kernel_rfl) ?_
 conv=>zeta
 try simp only [WK]
 try simp only [WL]
 try simp only [vcC]
 subst hF
 exact ⟨hC,fun i hi hgo=>⟨fun h=>by subst h;exact (Va hgo).symm,fun h=>(V9 h.1 hgo h.2).symm⟩⟩
theorem Zdy (xs:LI) (N:Nat) (m:Int) (hC:N<900000000000/\xs.length=N):Zs PP 165 [.vints .i64 xs N,.func (.func 236) [] [.pview [.int .i64 m] 0]] (.int .i64 (YK (YI m xs) N)) 0 []:=.ev (Zgu xs N m) (ZlB xs N m _ hC rfl)
def Zjk (xs:LI) (N:Nat) (i:Nat):St:=⟨19,[(1,.func (.func 117) [] []),(0,.vints .i64 xs N),(7,.int .i64 N),(8,.int .i64 i)],⟨0,[]⟩,[]⟩
def ZlC (i:Nat):St:=⟨19,[(4,.int .i64 i)],⟨0,[]⟩,[]⟩
def ZlD (_:Nat):St:=⟨19,[],⟨0,[]⟩,[]⟩
theorem ZlE (xs:LI) (N:Nat) (i:Nat) (Z1 Z2 Z3:Prop) (hC:N<900000000000/\xs.length=N) (hi:i<=N) (h1:i<N->YI 4611686018427387904 xs i=false->Z1) (h2:i=N->Z2) (h3:i<N->YI 4611686018427387904 xs i=true->Z3):
  ZG Zdx 20 165 0 0 (Zjk xs N i) (fun e s=>match e with|.normal=>Y6 0 [] (Zjk xs N (i+1)) s Z1|.exit x=>(match Nat.beq x 0 with|true=>Y6 0 [] (ZlD i) s Z2|false=>False)|.ret=>Y6 0 [] (ZlC i) s Z3|_=>False):=by
 refine @Eq.mpr _ (Z5 (decide ((↑i:Int)<(↑N:Int))) (Z7 (0<=(↑i:Int)/\(↑i:Int)<(↑N:Int)) (Z5 (Uw 4611686018427387904 (List.getD xs (Int.toNat (↑i:Int)) 0)) (Z7 ((↑i:Int)=(↑i:Int)) Z3) (xs=xs/\Z7 (N=N) (Z7 ((↑N:Int)=(↑N:Int)) (Z7 (wrap i64 ((↑i:Int)+1)=(↑(i+1):Int)) Z1))))) Z2) (by kernel_rfl) ?_
 try simp only [WK]
 try simp only [WL]
 try simp only [vcC]
 refine ⟨fun hlt=>⟨by omega,fun h=>h3 (by omega) h,fun h=>⟨w64 (by omega),h1 (by omega) h⟩⟩,fun hge=>h2 (by omega)⟩
noncomputable def ZlF (xs:LI) (N:Nat):Zb:=Zdx.withL 165 0 (goL 0 [] (Zjk xs N 0) (N<900000000000/\xs.length=N) (Z1N 0 N (fun i=>YI 4611686018427387904 xs i=false) (fun i=>i=N) (fun i=>i<N/\YI 4611686018427387904 xs i=true) ZlD ZlC))
theorem Zgv (xs:LI) (N:Nat):(ZlF xs N).Ok:=
 Zb.withGo (τ1:=[]) (τ2:=[]) (τ3:=[]) (N:=20) Za6 (by kernel_rfl) fun hC=>⟨rfl,fun i hi _=>ZlE xs N i _ _ _ hC hi (fun h1 h2=>⟨h2,h1⟩) (fun h=>h) (fun h1 h2=>⟨h1,h2⟩)⟩
theorem ZlG (xs:LI) (N:Nat) (F:Int) (hC:N<900000000000/\xs.length=N) (hF:F=YK (YI 4611686018427387904 xs) N):
  evF (ZlF xs N) 20 165 [.vints .i64 xs N,.func (.func 117) [] []] ⟨0,[]⟩ (Yz 0 [] (.int .i64 F) 0 []):=by
 refine @Eq.mpr _ (xs=xs/\Z7 (N=N) (Z7 ((↑N:Int)=(↑N:Int)) ((N<900000000000/\xs.length=N)/\∀(i:Nat),i<=N->(∀(j:Nat),j<i->(fun (i:Nat)=>YI 4611686018427387904 xs i=false) j)->(i=N->Z7 (-1=F) True)/\(i<N/\YI 4611686018427387904 xs i=true->Z7 ((↑i:Int)=F) True)))) (by kernel_rfl) ?_
 try simp only [WK]
 try simp only [WL]
 try simp only [vcC]
 subst hF
 exact ⟨hC,fun i hi hgo=>⟨fun h=>by subst h;exact (Va hgo).symm,fun h=>(V9 h.1 hgo h.2).symm⟩⟩
theorem Zdz (xs:LI) (N:Nat) (hC:N<900000000000/\xs.length=N):Zs PP 165 [.vints .i64 xs N,.func (.func 117) [] []] (.int .i64 (YK (YI 4611686018427387904 xs) N)) 0 []:=.ev (Zgv xs N) (ZlG xs N _ hC rfl)
def ZlH (T:Int):ZI:=fun args h K=>Zz none h true 20 args fun a=>match a with
 | [.vints .i64 xs n,.func (.func 236) [] [.pview [.int .i64 m] 0]]=>Z7 (xs.length=n/\n<900000000000) (K (.int .i64 (YK (YI m xs) n)))
 | [.vints .i64 xs n,.func (.func 117) [] []]=>Z7 (xs.length=n/\n<900000000000) (K (.int .i64 (YK (YI T xs) n)))
 | _=>False
theorem Zgw (args:List AV) (h:Z8) (K:AV->Prop) (hl:ZlH 4611686018427387904 args h K):Ze PP 165 args h fun o h'=>∃v,o=.ret v/\h'=h/\K v:=by
 refine Zs.psumm (d:=20) (Zk _ _ _ _ _ hl fun a ha=> ?_)
 split at ha
 ·obtain ⟨⟨h1,h2⟩,hK⟩:=Zd ha
  exact ⟨_,Zdy _ _ _ ⟨h2,h1⟩,fun _=>rfl,hK⟩
 ·obtain ⟨⟨h1,h2⟩,hK⟩:=Zd ha
  exact ⟨_,Zdz _ _ ⟨h2,h1⟩,fun _=>rfl,hK⟩
 ·exact ha.elim
noncomputable def ZlI (T:Int):Zb:=G0.withP 165 (ZlH T)
theorem Zgx:(ZlI 4611686018427387904).Ok:=Zb.withP_ok Zm Zgw
@[irreducible] def allIn (m:Int) (xs:LI):Bool:= !((List.range xs.length).any (YI m xs))
theorem Zgy (T:Int) (xs:LI) (N:Nat) (F:Int) (hC:N<900000000000/\xs.length=N) (hF:F=if allIn 1125899906842624 xs then 0 else 2):
  evF (ZlI T) 20 80 [.vints .i64 xs N] ⟨0,[]⟩ (Yz 0 [] (.int .i64 F) 0 []):=by
 refine @Eq.mpr _ (Z7 (xs.length=N/\N<900000000000) (Z5 (!!decide (YK (YI 1125899906842624 xs) N>=0)) (Z7 (2=F) True) (Z7 (0=F) True))) (by kernel_rfl) ?_
 try simp only [WK]
 try simp only [WL]
 try simp only [vcC]
 obtain ⟨h1,h2⟩:=hC
 subst h2
 have hb:=U4 (YI 1125899906842624 xs) xs.length
 refine ⟨⟨rfl,h1⟩,fun h=> ?_,fun h=> ?_⟩
 ·rw [hF]
  unfold allIn
  rw [<-hb]
  simp at h
  simp [h]
 ·rw [hF]
  unfold allIn
  rw [<-hb]
  simp at h
  simp [h]
def ZdA (m:Int):ZI:=fun args h K=>Zz none h true 20 args fun a=>match a with
 | [.vints .i64 xs n]=>Z7 (xs.length=n/\n<900000000000) (Z5 (allIn m xs) (K (.int .i64 0)) (K (.int .i64 2)))
 | _=>False
theorem Zbx (args:List AV) (h:Z8) (K:AV->Prop) (hl:ZdA 1125899906842624 args h K):Ze PP 80 args h fun o h'=>∃v,o=.ret v/\h'=h/\K v:=by
 refine Zs.psumm (d:=20) (Zk _ _ _ _ _ hl fun a ha=> ?_)
 split at ha
 ·obtain ⟨⟨h1,h2⟩,hK⟩:=Zd ha
  refine ⟨_,.ev (Zgx) (Zgy _ _ _ _ ⟨h2,h1⟩ rfl),fun _=>rfl, ?_⟩
  rw [ZN] at hK
  split
  ·rename_i h;exact hK.1 h
  ·rename_i h;exact hK.2 (by simpa using h)
 ·exact ha.elim
def Wp (xs:LI) (i:Nat):Int:=(xs.take i).sum
theorem Z1r {i:Nat} (h:i<xs.length):Wp xs (i+1)=Wp xs i+xs.getD i 0:=by
 unfold Wp
 rw [List.take_succ_eq_append_getElem h,List.sum_append]
 simp [J3,h]
theorem Z1s {m:Int} (h:allIn m xs=true) {i:Nat} (hi:i<xs.length):0<=xs.getD i 0/\xs.getD i 0<=m:=by
 unfold allIn at h
 rw [J5] at h
 rw [JM] at h
 have:=h i (Jw.2 hi)
 simp [YI,Uw, -List.getD_eq_getElem?_getD] at this
 exact this
theorem Z7a {m:Int} {xs:LI} (h:allIn m xs=true):∀{i:Nat},i<=xs.length->0<=Wp xs i
 | 0,_=>by simp [Wp]
 | i+1,hi=>by
  rw [Z1r (by omega)]
  have:=Z1s h (i:=i) (by omega)
  have:=Z7a h (i:=i) (by omega)
  omega
theorem Z4P {m:Int} {xs:LI} (h:allIn m xs=true):∀(d i:Nat),i+d<=xs.length->Wp xs i<=Wp xs (i+d)
 | 0,i,_=>Int.le_refl _
 | d+1,i,hi=>by
  have h1:=Z4P h d i (by omega)
  rw [<-Nat.add_assoc,Z1r (by omega)]
  have:=Z1s h (i:=i+d) (by omega)
  omega
def adS (xs:LI) (i:Nat):St:=⟨24,[(10,.vints .i64 xs xs.length),(3,.int .i64 150),(11,.int .i64 xs.length),(12,.int .i64 i),(2,.int .i64 (Wp xs i))],⟨0,[]⟩,[]⟩
def adE (xs:LI) (i:Nat):St:=⟨24,[(3,.int .i64 150),(2,.int .i64 (Wp xs i))],⟨0,[]⟩,[]⟩
def adJ (_:Nat):St:=⟨24,[(3,.int .i64 150)],⟨0,[]⟩,[]⟩
theorem ZlJ (xs:LI) (i:Nat) (Z1 Z2 Z4:Prop) (M:Int) (hM:M=1125899906842624) (hn:xs.length<900000000000) (hall:allIn M xs=true) (hi:i<=xs.length) (hgo:∀j,j<i->Wp xs (j+1)<=M) (h1:i<xs.length->Wp xs (i+1)<=M->Z1) (h2:i=xs.length->Z2) (h4:i<xs.length->M<Wp xs (i+1)->Z4):
  ZG G0 20 74 0 0 (adS xs i) (fun e s=>match e with|.normal=>Y6 0 [] (adS xs (i+1)) s Z1|.exit x=>(match Nat.beq x 0 with|true=>Y6 0 [] (adE xs i) s Z2|false=>False)|.ret=>Y6 0 [] (adJ i) s False|.goto x=>(match Nat.beq x 0 with|true=>Y6 0 [] (adJ i) s Z4|false=>False)|_=>False):=by
 refine @Eq.mpr _ (let c:=xs.length;let a:=(↑c:Int);let b:=Wp xs i;let d:=wrap i64 (b+List.getD xs (Int.toNat (↑i:Int)) 0);
 Z5 (decide ((↑i:Int)<a)) (Z7 (0<=(↑i:Int)/\(↑i:Int)<a) (Z5 (decide (d>1125899906842624)) Z4 (xs=xs/\Z7 (c=c) (Z7 (a=a) (Z7 (wrap i64 ((↑i:Int)+1)=(↑(i+1):Int)) (Z7 (d=Wp xs (i+1)) Z1)))))) (Z7 (b=b) Z2)) (by kernel_rfl) ?_
 conv=>zeta
 try simp only [WK]
 try simp only [WL]
 try simp only [vcC]
 subst hM
 refine ⟨fun hlt=>⟨by omega, ?_⟩,fun hge=>h2 (by omega)⟩
 have hs:=Z1r (xs:=xs) (i:=i) (by omega)
 have hx:=Z1s hall (i:=i) (by omega)
 have hp:=Z7a hall hi
 have hq:Wp xs i<=1125899906842624:=by
  cases i with
  | zero=>simp [Wp]
  | succ j=>exact hgo j (by omega)
 have hw:i64.wrap (Wp xs i+xs.getD i 0)=Wp xs (i+1):=by rw [w64 (by omega)];exact hs.symm
 rw [hw]
 have hw2:i64.wrap ((i:Int)+1)=((i+1:Nat):Int):=w64 (by omega)
 refine ⟨fun h=>h4 (by omega) (by omega),fun h=> ?_⟩
 rw [hw2]
 simp [h1 (by omega) (by omega)]
noncomputable def ZlK (m M:Int) (xs:LI):Zb:=(G0.withL 74 0 (goL 0 [] (adS xs 0) (allIn M xs=true/\xs.length<900000000000) (YD 0 xs.length 0 (fun i=>Wp xs (i+1)<=M) (fun i=>i=xs.length) (fun _=>False) (fun i=>i<xs.length/\M<Wp xs (i+1)) (adE xs) adJ adJ))).withP 80 (ZdA m)
theorem Zgz (xs:LI):(ZlK 1125899906842624 1125899906842624 xs).Ok:=
 Zb.withP_ok (Zb.withGoJ (τ1:=[]) (τ2:=[]) (τ3:=[]) (τ4:=[]) (N:=20) Zm (by kernel_rfl) fun hC=>⟨rfl,fun i hi hgo=>ZlJ xs i _ _ _ _ rfl hC.2 hC.1 hi hgo (fun h1 h2=>⟨h2,h1⟩) (fun h=>h) (fun h1 h2=>⟨h1,h2⟩)⟩) Zbx
@[irreducible] def ZA (xs:LI):Int×Int:=if allIn 1125899906842624 xs=true then (if xs.sum<=1125899906842624 then (xs.sum,0) else (0,150)) else (0,2)
theorem ZlL (xs:LI) (m M:Int) (F:Int×Int) (hm:m=1125899906842624) (hM:M=1125899906842624) (hn:xs.length<900000000000) (hF:F=ZA xs):
  evF (ZlK m M xs) 20 74 [.vints .i64 xs xs.length] ⟨0,[]⟩ (Yz 0 [] (.tuple [.int .i64 F.1,.int .i64 F.2]) 0 []):=by
 refine @Eq.mpr _ (let a:=xs.length;let c:=(↑a:Int);let b:=decide (0=F.fst);
 Z7 (a=a/\a<900000000000) (Z5 (allIn m xs) (xs=xs/\Z7 (a=a) (Z7 (c=c) ((allIn M xs=true/\a<900000000000)/\∀(i:Nat),i<=a->(∀(j:Nat),j<i->(fun (i:Nat)=>Wp xs (i+1)<=M) j)->(i=a->Z7 (Wp xs i=F.fst) (Z7 (0=F.snd) True))/\(False->False)/\(i<a/\M<Wp xs (i+1)->Z6 b (Z7 (150=F.snd) True))))) (Z6 b (Z7 (2=F.snd) True)))) (by kernel_rfl) ?_
 conv=>zeta
 try simp only [WK]
 try simp only [WL]
 try simp only [vcC]
 subst hm hM hF
 have ht:Wp xs xs.length=xs.sum:=by simp [Wp]
 refine ⟨hn,fun hall=>⟨⟨hall,hn⟩,fun i hi hgo=>⟨fun he=> ?_,fun h=>h.elim,fun he=> ?_⟩⟩,fun hall=> ?_⟩
 ·subst he
  have hle:xs.sum<=1125899906842624:=by
   rw [<-ht]
   rcases JE xs.length with h0|h0
   ·rw [h0];simp [Wp]
   ·have:=hgo (xs.length-1) (by omega)
    rw [Nat.sub_add_cancel h0] at this
    exact this
  unfold ZA
  rw [if_pos hall,if_pos hle]
  exact ⟨ht,rfl⟩
 ·have hmono:=Z4P hall (xs.length-(i+1)) (i+1) (by omega)
  rw [show i+1+(xs.length-(i+1))=xs.length by omega,ht] at hmono
  unfold ZA
  rw [if_pos hall,if_neg (by omega)]
  exact ⟨rfl,rfl⟩
 ·unfold ZA
  rw [if_neg (by simp [hall])]
  exact ⟨rfl,rfl⟩
def Za7 (A:LI->Int×Int):ZI:=fun args h K=>Zz none h true 20 args fun a=>match a with
 | [.vints .i64 xs n]=>Z7 (n=xs.length/\n<900000000000) (K (.tuple [.int .i64 (A xs).1,.int .i64 (A xs).2]))
 | _=>False
theorem Z3q (args:List AV) (h:Z8) (K:AV->Prop) (hl:Za7 ZA args h K):Ze PP 74 args h fun o h'=>∃v,o=.ret v/\h'=h/\K v:=by
 refine Zs.psumm (d:=20) (Zk _ _ _ _ _ hl fun a ha=> ?_)
 split at ha
 ·obtain ⟨⟨rfl,h1⟩,hK⟩:=Zd ha
  exact ⟨_,.ev (Zgz _) (ZlL _ _ _ _ rfl rfl h1 rfl),fun _=>rfl,hK⟩
 ·exact ha.elim
def amL (g:Nat->ZF) (n:Nat):LI:=(List.range n).map fun j=>(g j).amount
theorem Z3r (g:Nat->ZF) (n:Nat):amL g (n+1)=amL g n++[(g n).amount]:=by simp [amL,List.range_succ]
theorem Z0Q (g:Nat->ZF) (n:Nat):(amL g n).length=n:=by simp [amL]
def suS (M:Nat) (g:Nat->ZF) (i:Nat):St:=⟨24,[(8,.vrows 132 M (Zf g) M),(9,.int .i64 M),(10,.int .i64 i),(4,.nslice ⟨0,0,0,0,0⟩ 1 i i)],⟨1,[(0,.ints .i64 (amL g i))]⟩,[]⟩
def suE (g:Nat->ZF) (i:Nat):St:=⟨24,[(4,.nslice ⟨0,0,0,0,0⟩ 1 i i)],⟨1,[(0,.ints .i64 (amL g i))]⟩,[]⟩
theorem ZlM (M i:Nat) (g:Nat->ZF) (Z1 Z2:Prop) (hn:M<900000000000) (hi:i<=M) (h1:i<M->Z1) (h2:i=M->Z2):
  ZG G0 20 187 0 0 (suS M g i) (fun e s=>match e with|.normal=>Y6 0 [(0,3)] (suS M g (i+1)) s Z1|.exit x=>(match Nat.beq x 0 with|true=>Y6 0 [(0,0)] (suE g i) s Z2|false=>False)|.ret=>Y6 0 [] (suE g i) s False|_=>False):=by
 refine @Eq.mpr _ (let b:=amL g i;let e:=b++[(g (Int.toNat (↑i:Int))).amount];let c:=e.length;let d:=decide (M=M);let a:=i+1;
 Z5 (decide ((↑i:Int)<(↑M:Int))) (Z7 (0<=(↑i:Int)/\(↑i:Int)<(↑M:Int)) (Z7 (i64=i64/\b.length=i) (Z7 (c*8<=140737488355328) (Z6 d (Zf g=Zf g/\Z6 d (Z7 ((↑M:Int)=(↑M:Int)) (Z7 (wrap i64 ((↑i:Int)+1)=(↑a:Int)) (Z7 (c=a) (Z7 (a<=c) (e=amL g a/\Z1)))))))))) (Z7 (i=i) (Z7 (i<=i) (b=b/\Z2)))) (by kernel_rfl) ?_
 conv=>zeta
 try simp only [WK]
 try simp only [WL]
 try simp only [vcC]
 refine ⟨fun hlt=>⟨by omega,Z0Q g i, ?_⟩,fun hge=>h2 (by omega)⟩
 rw [<-Z3r,Z0Q]
 exact ⟨by omega,w64 (by omega),rfl,J4 _,rfl,h1 (by omega)⟩
noncomputable def ZlN (A:LI->Int×Int) (M:Nat) (g:Nat->ZF):Zb:=(G0.withL 187 0 (goL 0 [] (suS M g 0) (M<900000000000) (Z1N 0 M (fun i=>i<M) (fun i=>i=M) (fun _=>False) (suE g) (suE g)))).withP 74 (Za7 A)
theorem ZgA (M:Nat) (g:Nat->ZF):(ZlN ZA M g).Ok:=
 Zb.withP_ok (Zb.withGo (τ1:=[(0,3)]) (τ2:=[(0,0)]) (τ3:=[]) (N:=20) Zm (by kernel_rfl) fun hC=>⟨rfl,fun i hi hgo=>ZlM M i g _ _ hC hi (fun h=>⟨h,h⟩) (fun h=>h)⟩) Z3q
theorem ZlO (A:LI->Int×Int) (M N:Nat) (f:Nat->InS) (g:Nat->ZF) (num:Int) (F:Int×Int) (hn:M<900000000000) (hF:F=A (amL g M)):
  evF (ZlN A M g) 20 187 [.agg [.int .i64 num,.vrows 130 N (Zg f) N,.vrows 132 M (Zf g) M]] ⟨0,[]⟩ (Yz 0 [] (.tuple [.int .i64 F.1,.int .i64 F.2]) 0 []):=by
 refine @Eq.mpr _ (let c:=decide (M=M);
 Z6 c (Zf g=Zf g/\
 Z6 c (Z7 ((↑M:Int)=(↑M:Int)) (amL g 0=[]/\
 M<900000000000/\
 ∀(i:Nat),
 let b:=List.take i (ZX 0 (amL g i));let a:=A b;
 i<=M->(∀(j:Nat),j<i->(fun (i:Nat)=>i<M) j)->(i=M->Z7 (0+i<=List.length (amL g i)) (Z7 (i=b.length/\i<900000000000) (Z7 (a.fst=F.fst) (Z7 (a.snd=F.snd) True))))/\(False->False))))) (by kernel_rfl) ?_
 conv=>zeta
 try simp only [WK]
 try simp only [WL]
 try simp only [vcC]
 subst hF
 refine ⟨rfl,hn,fun i hi hgo=>⟨fun he=> ?_,fun h=>h.elim⟩⟩
 subst he
 rw [Yb,JV,Jv (by rw [Z0Q];exact J4 _),Z0Q]
 exact ⟨J4 _,⟨rfl,hn⟩,rfl,rfl⟩
def Z8U (A:LI->Int×Int):ZI:=fun args h K=>Zz none h true 20 args fun a=>match a with
 | [.agg [.int .i64 num,.vrows 130 N f n,.vrows 132 M f' m]]=>∃g g',f=Zg g/\f'=Zf g'/\(n=N/\m=M/\M<900000000000)/\K (.tuple [.int .i64 (A (amL g' M)).1,.int .i64 (A (amL g' M)).2])
 | _=>False
theorem Z4Q (args:List AV) (h:Z8) (K:AV->Prop) (hl:Z8U ZA args h K):Ze PP 187 args h fun o h'=>∃v,o=.ret v/\h'=h/\K v:=by
 refine Zs.psumm (d:=20) (Zk _ _ _ _ _ hl fun a ha=> ?_)
 split at ha
 ·obtain ⟨g,g',rfl,rfl,⟨rfl,rfl,h1⟩,hK⟩:=ha
  exact ⟨_,.ev (ZgA _ g') (ZlO _ _ _ g g' _ _ h1 rfl),fun _=>rfl,hK⟩
 ·exact ha.elim
def Z49 (v:AV) (N:Nat) (g:Nat->InS):Prop:=match v with
 | .vrows 130 n f m=>(m=n/\N=n)/\∀i,i<n->f i=(g i).c
 | .nilslice=>N=0
 | .eslice=>N=0
 | .fslice=>N=0
 | _=>False
def Z1O (v:AV) (N:Nat) (g:Nat->ZF):Prop:=match v with
 | .vrows 132 n f m=>(m=n/\N=n)/\∀i,i<n->f i=(g i).c
 | .nilslice=>N=0
 | .eslice=>N=0
 | .fslice=>N=0
 | _=>False
theorem Zh.rows0 {E:Env} {f:Nat->List AV} {r:Value} {a:Option Addr} {c:Nat} (h:r=.slice a 0 c) (hc:a=none->c=0):Zh E (.vrows esz 0 f 0) r:=by
 subst h
 cases a with
 | none=>rw [hc rfl];exact .vrowsNil _ _ _ _ rfl rfl
 | some a=>exact .vrows _ _ _ _ a c (fun _=>[]) (J4 _) (JF _) (fun i h=>by omega) (fun i h=>by omega) (fun i j c h=>by omega)
theorem Zh.rowsC {E:Env} {n:Nat} {f f':Nat->List AV} {r:Value} (h:Zh E (.vrows esz n f n) r) (hf:∀i,i<n->f i=f' i):Zh E (.vrows esz n f' n) r:=by
 cases h with
 | vrowsNil esz n f len h1 h2=>exact .vrowsNil _ _ _ _ h1 h2
 | vrows esz n f len a cap g h1 h2 hc hl hi=>exact .vrows _ _ _ _ a cap g h1 h2 (fun i h=>by rw [<-hf i h];exact hc i h) hl hi
theorem Z49.rel {N:Nat} {g:Nat->InS} (h:Z49 v N g) {E:Env} {r:Value} (hv:Zh E v r):Zh E (.vrows 130 N (Zg g) N) r:=by
 unfold Z49 at h
 split at h
 ·obtain ⟨⟨rfl,rfl⟩,hf⟩:=h
  exact hv.rowsC hf
 ·subst h;cases hv;exact .rows0 rfl (fun _=>rfl)
 ·subst h;cases hv with|eslice a=>exact .rows0 rfl (fun _=>rfl)
 ·subst h;cases hv with|fslice a c=>exact .rows0 rfl (fun h=>by cases h)
 ·exact h.elim
theorem Z1O.rel {N:Nat} {g:Nat->ZF} (h:Z1O v N g) {E:Env} {r:Value} (hv:Zh E v r):Zh E (.vrows 132 N (Zf g) N) r:=by
 unfold Z1O at h
 split at h
 ·obtain ⟨⟨rfl,rfl⟩,hf⟩:=h
  exact hv.rowsC hf
 ·subst h;cases hv;exact .rows0 rfl (fun _=>rfl)
 ·subst h;cases hv with|eslice a=>exact .rows0 rfl (fun _=>rfl)
 ·subst h;cases hv with|fslice a c=>exact .rows0 rfl (fun h=>by cases h)
 ·exact h.elim
theorem Z49.cell {N:Nat} {g:Nat->InS} (h:Z49 v N g):v.isCell=true/\∀k n xs,v≠.arr k n xs:=by
 unfold Z49 at h;split at h<;>simp_all [AV.isCell]
theorem Z1O.cell {N:Nat} {g:Nat->ZF} (h:Z1O v N g):v.isCell=true/\∀k n xs,v≠.arr k n xs:=by
 unfold Z1O at h;split at h<;>simp_all [AV.isCell]
structure TxS where
 num:Int
 N:Nat
 ins:Nat->InS
 M:Nat
 outs:Nat->ZF
def TxS.c (t:TxS):List AV:=[.int .i64 t.num,.vrows 130 t.N (Zg t.ins) t.N,.vrows 132 t.M (Zf t.outs) t.M]
structure TxS.Ok (t:TxS):Prop where
 n:t.N<900000000000
 m:t.M<900000000000
 ins:∀i,i<t.N->(t.ins i).Ok
 outs:∀i,i<t.M->(t.outs i).Ok
def Z0j (l:List AV) (t:TxS):Prop:=match l with
 | [.int .i64 num,a,b]=>t.num=num/\Z49 a t.N t.ins/\Z1O b t.M t.outs
 | _=>False
theorem Z0j.rel {l:List AV} {t:TxS} (h:Z0j l t) {E:Env} {r:Value} (hv:Zh E (.agg l) r):Zh E (.agg t.c) r:=by
 unfold Z0j at h
 split at h
 ·rename_i num a b
  obtain ⟨h0,h1,h2⟩:=h
  cases hv with
  | agg cs vs hc=>
   obtain ⟨c1,ws,rfl,_,q1,p1,hc⟩:=Zt.cons_cell hc (fun _ _ _ h=>by cases h)
   obtain ⟨c2,ws,rfl,_,q2,p2,hc⟩:=Zt.cons_cell hc h1.cell.2
   obtain ⟨c3,ws,rfl,_,q3,p3,hc⟩:=Zt.cons_cell hc h2.cell.2
   cases hc
   refine .agg _ _ (.one _ _ _ _ rfl q1 (by rw [h0];exact p1) (.one _ _ _ _ rfl q2 (h1.rel p2) (.one _ _ _ _ rfl q3 (h2.rel p3) .nil)))
 ·exact h.elim
theorem Zs.conv {P:Program} {f:FuncId} {args args₀:List AV} {nx:Nat} {bs:List (Nat×Blk)} (h:Zs P f args₀ v nx bs) (hc:∀E r,ZB E args r->ZB E args₀ r):Zs P f args v nx bs:=
 fun E w rs he hr=>h E w rs he (hc E rs hr)
theorem ZB.head {E:Env} {v':AV} {r l:List AV} {rs:List Value} (h:ZB E (v::l) rs) (hv:∀c,Zh E v c->Zh E v' c) (ht:∀cs,ZB E l cs->ZB E r cs):ZB E (v'::r) rs:=by
 cases h with
 | cons v c vs cs h t=>exact .cons _ _ _ _ (hv c h) (ht cs t)
@[irreducible] def Yp (A:LI->Int×Int) (t:TxS):Bool:=
 decide (0<=t.num/\t.num<=2147483647)&&decide (1<=t.N/\t.N<=24)&&decide (1<=t.M/\t.M<=24)&& !((List.range t.N).any (YZ t.N t.ins))&& !((List.range t.M).any (YH t.outs))&&((A (amL t.outs t.M)).2==0)
noncomputable def ZlP (A:LI->Int×Int):Zb:=((G0.withP 179 Zlo).withP 245 Zlv).withP 187 (Z8U A)
theorem ZgB:(ZlP ZA).Ok:=Zb.withP_ok (Zb.withP_ok (Zb.withP_ok Zm Zgn) Zgr) Z4Q
theorem Zoa (A:LI->Int×Int) (t:TxS) (F:Int) (ht:t.Ok) (hF:F=if Yp A t=true then 0 else 2):
  evF (ZlP A) 20 89 [.agg t.c] ⟨0,[]⟩ (Yz 0 [] (.int .i64 F) 0 []):=by
 refine @Eq.mpr _ (let a:=Z7 (2=F) True;let c:=t.N;let k:=(↑c:Int);let b:=t.M;let j:=(↑b:Int);let h:=Zg t.ins;let d:=c=c;let f:=b=b;let e:=b<900000000000;
 Z5 (decide (0<=t.num)) (Z5 (!decide (t.num<=2147483647)) a (Z5 (decide (1<=k)) (Z5 (!decide (k<=24)) a (Z5 (decide (1<=j)) (Z5 (!decide (j<=24)) a (∃(g:Nat->InS),
 let m:=h=Zg g;
 m/\
 m/\
 (d/\d/\d/\c<900000000000/\∀(i:Nat),i<c->InS.Ok (g i))/\
 Z5 (decide (YK (YZ c g) c>=0)) a (∃(g:Nat->ZF),
 let l:=Zf t.outs;
 l=Zf g/\(f/\e/\∀(i:Nat),i<b->ZF.Ok (g i))/\Z5 (decide (YK (YH g) b>=0)) a (∃(g:Nat->InS),∃(g':Nat->ZF),h=Zg g/\l=Zf g'/\(d/\f/\e)/\Z5 ((A (amL g' b)).snd !=0) a (Z7 (0=F) True))))) a)) a)) a) (by kernel_rfl) ?_
 conv=>zeta
 try simp only [WK]
 try simp only [WL]
 try simp only [vcC]
 have h2:Yp A t=false->2=F:=fun h=>by rw [hF,h];rfl
 have h0:Yp A t=true->0=F:=fun h=>by rw [hF,h];rfl
 clear hF
 refine ⟨fun a1=>⟨fun a2=>h2 ?_,fun a2=>⟨fun a3=>⟨fun a4=>h2 ?_,fun a4=>⟨fun a5=>⟨fun a6=>h2 ?_,fun a6=> ?_⟩,fun a5=>h2 ?_⟩⟩,fun a3=>h2 ?_⟩⟩,fun a1=>h2 ?_⟩
 ·unfold Yp;rw [decide_eq_false (p:=0<=t.num/\_) (by simp at a2;omega)];simp
 ·unfold Yp;rw [decide_eq_false (p:=1<=t.N/\_) (by simp at a4;omega)];simp
 ·unfold Yp;rw [decide_eq_false (p:=1<=t.M/\_) (by simp at a6;omega)];simp
 ·refine ⟨t.ins,rfl,rfl,⟨ht.n,ht.ins⟩,fun b1=>h2 ?_,fun b1=>⟨t.outs,rfl,⟨ht.m,ht.outs⟩,fun b2=>h2 ?_,fun b2=>⟨t.ins,t.outs,rfl,rfl,ht.m,fun b3=>h2 ?_,fun b3=>h0 ?_⟩⟩⟩
  ·have:=U4 (YZ t.N t.ins) t.N
   rw [decide_eq_true b1] at this
   unfold Yp;rw [<-this];simp
  ·have:=U4 (YH t.outs) t.M
   rw [decide_eq_true b2] at this
   unfold Yp;rw [<-this];simp
  ·unfold Yp;simp at b3;simp [b3]
  ·have e1:=U4 (YZ t.N t.ins) t.N
   rw [decide_eq_false b1] at e1
   have e2:=U4 (YH t.outs) t.M
   rw [decide_eq_false b2] at e2
   unfold Yp
   rw [<-e1,<-e2]
   simp at a2 a4 a6 b3
   simp [b3]
   omega
 ·unfold Yp;rw [decide_eq_false (p:=1<=t.M/\_) (by omega)];simp
 ·unfold Yp;rw [decide_eq_false (p:=1<=t.N/\_) (by omega)];simp
 ·unfold Yp;rw [decide_eq_false (p:=0<=t.num/\_) (by omega)];simp
def ckS (A:LI->Int×Int):ZI:=fun args h K=>Zz none h true 20 args fun a=>match a with
 | [.agg l]=>∃t,Z0j l t/\t.Ok/\Z5 (Yp A t) (K (.int .i64 0)) (K (.int .i64 2))
 | _=>False
theorem ZdB (args:List AV) (h:Z8) (K:AV->Prop) (hl:ckS ZA args h K):Ze PP 89 args h fun o h'=>∃v,o=.ret v/\h'=h/\K v:=by
 refine Zs.psumm (d:=20) (Zk _ _ _ _ _ hl fun a ha=> ?_)
 split at ha
 ·obtain ⟨t,h1,h2,hK⟩:=ha
  refine ⟨_,(Zs.ev ZgB (Zoa _ t _ h2 rfl)).conv fun E r hr=>hr.head (fun _ hc=>h1.rel hc) (fun _ hc=>hc),fun _=>rfl, ?_⟩
  rw [ZN] at hK
  split
  ·rename_i h;exact hK.1 h
  ·rename_i h;exact hK.2 (by simpa using h)
 ·exact ha.elim
end Go.Tk
end
section
namespace Go.Tk
open IntKind (i64 u8 u32 u64 wrap)
def ZdC (k:Nat) (τ:Ren) (y x:Nat):Ren:=match Nat.blt y k with
 | true=>τ
 | false=>match Z8y τ y with
  | some _=>τ
  | none=>(y,x)::τ
mutual
def Zjl (k:Nat) (τ:Ren):AV->AV->Ren
 | .ptr (some q),v=>match v with|.ptr (some p)=>ZdC k τ q.blk p.blk|_=>τ
 | .nslice q _ _ _,v=>match v with|.nslice p _ _ _=>ZdC k τ q.blk p.blk|_=>τ
 | .map (some y),v=>match v with|.map (some x)=>ZdC k τ y x|_=>τ
 | .yield y,v=>match v with|.yield x=>ZdC k τ y x|_=>τ
 | .func _ fs cs,v=>match v with|.func _ fs' cs'=>Z3s k (Z3s k τ fs fs') cs cs'|_=>τ
 | .iface _ u,v=>match v with|.iface _ u'=>Zjl k τ u u'|_=>τ
 | .agg cs,v=>match v with|.agg cs'=>Z3s k τ cs cs'|_=>τ
 | .tuple cs,v=>match v with|.tuple cs'=>Z3s k τ cs cs'|_=>τ
 | _,_=>τ
def Z3s (k:Nat) (τ:Ren):List AV->List AV->Ren
 | [],_=>τ
 | v::r,l=>match l with|v'::r'=>Z3s k (Zjl k τ v v') r r'|[]=>τ
end
def Zob (k:Nat) (τ:Ren):Blk->Blk->Ren
 | .flat cs,B=>match B with|.flat cs'=>Z3s k τ cs cs'|_=>τ
 | .map es,B=>match B with|.map es'=>Z3s k (Z3s k τ (es.map (·.1)) (es'.map (·.1))) (es.map (·.2)) (es'.map (·.2))|_=>τ
 | .pmap es,B=>match B with|.pmap es'=>Z3s k (Z3s k τ (es.map (·.1)) (es'.map (·.1))) (es.map (·.2)) (es'.map (·.2))|_=>τ
 | _,_=>τ
def ZlQ (k:Nat) (t:ZZ):ZZ->Ren->Ren
 | [],τ=>τ
 | (x,v)::r,τ=>ZlQ k t r (match ZQ t x with|some u=>Zjl k τ v u|none=>τ)
def Zjm (k:Nat):List UL->List UL->Ren->Ren
 | .call _ a::r,l,τ=>match l with|.call _ b::r'=>Zjm k r r' (Z3s k τ a b)|_=>τ
 | .mark y::r,l,τ=>match l with|.mark x::r'=>Zjm k r r' (ZdC k τ y x)|_=>τ
 | [],_,τ=>τ
def ZgC (k:Nat) (bs:List (Nat×Blk)):List (Nat×Blk)->Ren->Ren
 | [],τ=>τ
 | (y,B)::r,τ=>ZgC k bs r (match rn k τ y with
  | some x=>match ZW bs x with|some C=>Zob k τ B C|none=>τ
  | none=>τ)
def Zoc (k:Nat) (s₂ s:St):Ren:=ZgC k s.h.bs s₂.h.bs (ZgC k s.h.bs s₂.h.bs (ZgC k s.h.bs s₂.h.bs (Zjm k s₂.d s.d (ZlQ k s.t s₂.t []))))
def QQ (k:Nat) (s₂ s:St) (Z:Prop):Prop:=Y6 k (Zoc k s₂ s) s₂ s Z
theorem Vb {k:Nat} {s₂ s:St} {Z:Prop} (hl:QQ k s₂ s Z):Z/\Z0I k s s₂:=Yf hl
def ZH (k:Nat) (o:Out) (nx:Nat) (bs:List (Nat×Blk)):KO:=fun o' h=>match o with
 | .ret v=>match o' with
  | .ret u=>QQ k ⟨1,[(0,v)],⟨nx,bs⟩,[]⟩ ⟨1,[(0,u)],h,[]⟩ True
  | .panic _=>False
 | .panic v=>match o' with
  | .panic u=>QQ k ⟨1,[(0,v)],⟨nx,bs⟩,[]⟩ ⟨1,[(0,u)],h,[]⟩ True
  | .ret _=>False
theorem Spec.evM {G:Zb} (hG:G.Ok) {n:Nat} {f:FuncId} {args:List AV} {h0:Z8} {o:Out} {nx:Nat} {bs:List (Nat×Blk)} (h:evF G n f args h0 (ZH h0.next o nx bs)):Spec G.P f args h0 o nx bs:=by
 intro E w rs he hl
 refine (Y3 hG h E w rs he hl).mono ?_
 rintro e w' ⟨E',o',h',hK,hev,hor⟩
 unfold ZH at hK
 cases o with
 | ret v=>
  cases hor with
  | ret u r hr=>
   obtain ⟨E₂,h1,h2⟩:=Z2c rfl hK he hev hr
   exact ⟨E₂,h1,.ret _ _ h2⟩
  | panic u r hr=>simp_all
 | panic v=>
  cases hor with
  | panic u r hr=>
   obtain ⟨E₂,h1,h2⟩:=Z2c rfl hK he hev hr
   exact ⟨E₂,h1,.panic _ _ h2⟩
  | ret u r hr=>simp_all
theorem Spec.pure {P:Program} {f:FuncId} {args:List AV} {v:AV} {nx:Nat} {bs:List (Nat×Blk)} (h:Spec P f args ⟨0,[]⟩ (.ret v) nx bs):Zs P f args v nx bs:=by
 intro E w rs he hl
 refine (h E w rs he hl).mono ?_
 rintro e w' ⟨E',hev,hor⟩
 cases hor with
 | ret v r hr=>grind
theorem Zs.evM {G:Zb} (hG:G.Ok) {n:Nat} {f:FuncId} {args:List AV} {v:AV} {nx:Nat} {bs:List (Nat×Blk)} (h:evF G n f args ⟨0,[]⟩ (ZH 0 (.ret v) nx bs)):Zs G.P f args v nx bs:=(Spec.evM hG h).pure
def goM (k:Nat) (S0:St) (C:Prop) (ends:KE->Prop):Nat->St->KE->Prop:=fun k' s X=>match Nat.beq k' k with
 | true=>QQ k S0 s (C/\ends X)
 | false=>False
def rdM (k id l:Nat) (S1 En Rn Jn:St) (go ex re jm:Prop):KE:=fun e s=>match e with
 | .normal=>QQ k S1 s go
 | .exit x=>(match Nat.beq x id with|true=>QQ k En s ex|false=>False)
 | .ret=>QQ k Rn s re
 | .goto x=>(match Nat.beq x l with|true=>QQ k Jn s jm|false=>False)
 | .panic _=>False
theorem Zb.withGoM {G:Zb} (hG:G.Ok) {f:FuncId} {id k N n l:Nat} {S En Rn Jn:Nat->St} {S0:St} {C:Prop} {go ex re jm:Nat->Prop} (h1:VY G.P f id=true) (hC:C->S 0=S0/\
   ∀i,i<=n->(∀j,j<i->go j)->ZG G N f id k (S i) (rdM k id l (S (i+1)) (En i) (Rn i) (Jn i) (go i/\i<n) (ex i) (re i) (jm i))):
  (G.withL f id (goM k S0 C (YD id n l go ex re jm En Rn Jn))).Ok:=by
 refine Zb.withL_ok hG h1 ?_
 intro k' s X hl
 unfold goM at hl
 split at hl
 ·rename_i hk
  have:=J0 hk
  subst this
  obtain ⟨⟨hc,hX⟩,hw⟩:=Vb hl
  obtain ⟨e0,hr⟩:=hC hc
  refine ⟨{ t:Nat//t<=n/\∀j,j<t->go j},fun t=>n-t.1,fun t=>S t.1,⟨0,JF _,fun j hj=>by omega⟩,N,by simp_all, ?_⟩
  rintro ⟨t,ht,hgo⟩
  refine ⟨_,hr t ht hgo, ?_⟩
  intro e s' hY
  unfold rdM at hY
  split at hY
  ·obtain ⟨⟨hg,hlt⟩,hw'⟩:=Vb hY
   refine ⟨⟨t+1,hlt,fun j hj=> ?_⟩,by show n-(t+1)<n-t;omega,hw'⟩
   grind
  ·split at hY
   ·rename_i hi
    have:=J0 hi
    subst this
    obtain ⟨hex,hw'⟩:=Vb hY
    exact ⟨_,hw',(hX t ht hgo).1 hex⟩
   simp_all
  ·obtain ⟨hre,hw'⟩:=Vb hY
   exact ⟨_,hw',(hX t ht hgo).2.1 hre⟩
  ·split at hY
   ·rename_i hi
    have:=J0 hi
    subst this
    obtain ⟨hjm,hw'⟩:=Vb hY
    exact ⟨_,hw',(hX t ht hgo).2.2 hjm⟩
   ·exact hY.elim
  ·exact hY.elim
 ·exact hl.elim
end Go.Tk
namespace Go.Tk
open IntKind (i64 u8 u32 u64 wrap)
theorem Zb.withL_join {G H:Zb} (hG:G.Ok) (hP:G.P=H.P) {f:FuncId} {id:Nat} {S:Nat->St->KE->Prop} (h:(H.withL f id S).Ok):(G.withL f id S).Ok where
 draw:=hG.draw
 psumm:=hG.psumm
 fsumm:=hG.fsumm
 lsumm:=fun f' id' S' fn c body hS hf hb hm k s X hs=>by
  simp only [Zb.withL] at hS
  split at hS
  ·have:=h.lsumm f' id' S' fn c body
   simp_all [Zb.withL]
  ·exact hG.lsumm f' id' S' fn c body hS hf hb hm k s X hs
end Go.Tk
end
section
namespace Go.Tk
open IntKind (i64 u8 u32 u64 wrap)
variable {args:List AV} {R:AV->Prop}
def b8 (n k:Int):Int:=u8.wrap (Zr .i64 n k)
@[irreducible] def Zn (n:Int):LI:=
 if n<253 then [u8.wrap n] else if n<65536 then [253,b8 n 8,b8 n 0] else if n<4294967296 then [254,b8 n 24,b8 n 16,b8 n 8,b8 n 0]
 else [255,b8 n 56,b8 n 48,b8 n 40,b8 n 32,b8 n 24,b8 n 16,b8 n 8,b8 n 0]
theorem ZL (n:Int):1<=(Zn n).length/\(Zn n).length<=9:=by
 unfold Zn
 split
 ·simp
 ·split
  ·simp
  ·split<;>simp
theorem Z7b {n:Int} (h:n<253):Zn n=[u8.wrap n]:=by unfold Zn;rw [if_pos h]
theorem Za8 {n:Int} (h:¬n<253) (h2:n<65536):Zn n=[253,b8 n 8,b8 n 0]:=by unfold Zn;rw [if_neg h,if_pos h2]
theorem Za9 {n:Int} (h:¬n<253) (h2:¬n<65536) (h3:n<4294967296):Zn n=[254,b8 n 24,b8 n 16,b8 n 8,b8 n 0]:=by unfold Zn;rw [if_neg h,if_neg h2,if_pos h3]
theorem Zaa {n:Int} (h:¬n<253) (h2:¬n<65536) (h3:¬n<4294967296):Zn n=[255,b8 n 56,b8 n 48,b8 n 40,b8 n 32,b8 n 24,b8 n 16,b8 n 8,b8 n 0]:=by unfold Zn;rw [if_neg h,if_neg h2,if_neg h3]
theorem ZlR (xs ys:LI) (N L s lo:Nat) (n:Int) (hN:xs.length=N) (hB:N<90000000000000) (hy:ys=Zn n) (hL:L=(xs++ys).length):
  evF G0 20 118 [.nslice ⟨0,0,s,0,0⟩ 1 N lo,.int .i64 n] ⟨1,[(0,.ints .u8 xs)]⟩ (ZH 1 (.ret (.nslice ⟨1,0,0,0,0⟩ 1 L L)) 2 [(1,.ints .u8 (xs++ys))]):=by
 refine @Eq.mpr _ (let b:=decide (u8=u8/\xs.length=N);let K:=xs++[wrap u8 n];let m:=K.length;let a:=xs++ys;let y:=xs++[(253:Int)];let e:=y.length;let d:=[wrap u8 (Zr i64 n 8)];let x:=y++d;let c:=x.length;let w:=[wrap u8 (Zr i64 n 0)];let S:=x++w;let v:=S.length;let R:=xs++[(254:Int)];let u:=R.length;let Q:=[wrap u8 (Zr i64 n 24)];let P:=R++Q;let t:=P.length;let O:=[wrap u8 (Zr i64 n 16)];let M:=P++O;let s:=M.length;let J:=M++d;let r:=J.length;let I:=J++w;let q:=I.length;let H:=xs++[(255:Int)];let p:=H.length;let G:=H++[wrap u8 (Zr i64 n 56)];let o:=G.length;let F:=G++[wrap u8 (Zr i64 n 48)];let l:=F.length;let E:=F++[wrap u8 (Zr i64 n 40)];let k:=E.length;let D:=E++[wrap u8 (Zr i64 n 32)];let j:=D.length;let C:=D++Q;let i:=C.length;let B:=C++O;let h:=B.length;let A:=B++d;let g:=A.length;let z:=A++w;let f:=z.length;
 Z5 (decide (n<253)) (Z6 b (Z7 (m*1<=140737488355328) (Z7 (m=L) (Z7 (L<=m) (K=a/\True))))) (Z5 (decide (n<65536)) (Z6 b (Z7 (e*1<=140737488355328) (Z7 (u8=u8/\e=e) (Z7 (c*1<=140737488355328) (Z7 (u8=u8/\c=c) (Z7 (v*1<=140737488355328) (Z7 (v=L) (Z7 (L<=v) (S=a/\True))))))))) (Z5 (decide (n<4294967296)) (Z6 b (Z7 (u*1<=140737488355328) (Z7 (u8=u8/\u=u) (Z7 (t*1<=140737488355328) (Z7 (u8=u8/\t=t) (Z7 (s*1<=140737488355328) (Z7 (u8=u8/\s=s) (Z7 (r*1<=140737488355328) (Z7 (u8=u8/\r=r) (Z7 (q*1<=140737488355328) (Z7 (q=L) (Z7 (L<=q) (I=a/\True))))))))))))) (Z6 b (Z7 (p*1<=140737488355328) (Z7 (u8=u8/\p=p) (Z7 (o*1<=140737488355328) (Z7 (u8=u8/\o=o) (Z7 (l*1<=140737488355328) (Z7 (u8=u8/\l=l) (Z7 (k*1<=140737488355328) (Z7 (u8=u8/\k=k) (Z7 (j*1<=140737488355328) (Z7 (u8=u8/\j=j) (Z7 (i*1<=140737488355328) (Z7 (u8=u8/\i=i) (Z7 (h*1<=140737488355328) (Z7 (u8=u8/\h=h) (Z7 (g*1<=140737488355328) (Z7 (u8=u8/\g=g) (Z7 (f*1<=140737488355328) (Z7 (f=L) (Z7 (L<=f) (z=a/\True)))))))))))))))))))))))) (by kernel_rfl) ?_
 conv=>zeta
 try simp only [WK]
 try simp only [WL]
 try simp only [vcC]
 subst hy hL hN
 refine ⟨fun h1=> ?_,fun h1=>⟨fun h2=> ?_,fun h2=>⟨fun h3=> ?_,fun h3=> ?_⟩⟩⟩
 ·rw [Z7b h1]
  simp only [J6,Jk,Jr]
  and_intros<;>first|trivial|omega
 ·rw [Za8 h1 h2]
  simp only [J6,Jk,Jr]
  and_intros<;>first|trivial|omega|simp [b8]
 ·rw [Za9 h1 h2 h3]
  simp only [J6,Jk,Jr]
  and_intros<;>first|trivial|omega|simp [b8]
 ·rw [Zaa h1 h2 h3]
  simp only [J6,Jk,Jr]
  and_intros<;>first|trivial|omega|simp [b8]
theorem ZlS (ys:LI) (L:Nat) (n:Int) (hy:ys=Zn n) (hL:L=ys.length):
  evF G0 20 118 [.nilslice,.int .i64 n] ⟨0,[]⟩ (ZH 0 (.ret (.nslice ⟨0,0,0,0,0⟩ 1 L L)) 1 [(0,.ints .u8 ys)]):=by
 refine @Eq.mpr _ (let b:=[wrap u8 (Zr i64 n 8),wrap u8 (Zr i64 n 0)];let a:=wrap u8 (Zr i64 n 24)::wrap u8 (Zr i64 n 16)::b;
 Z5 (decide (n<253)) (Z7 (1=L) (Z7 (L<=1) ([wrap u8 n]=ys/\True))) (Z5 (decide (n<65536)) (Z7 (3=L) (Z7 (L<=3) ((253:Int)::b=ys/\True))) (Z5 (decide (n<4294967296)) (Z7 (5=L) (Z7 (L<=5) ((254:Int)::a=ys/\True))) (Z7 (9=L) (Z7 (L<=9) ((255:Int)::wrap u8 (Zr i64 n 56)::wrap u8 (Zr i64 n 48)::wrap u8 (Zr i64 n 40)::wrap u8 (Zr i64 n 32)::a=ys/\True)))))) (by kernel_rfl) ?_
 conv=>zeta
 try simp only [WK]
 try simp only [WL]
 try simp only [vcC]
 subst hy hL
 refine ⟨fun h1=> ?_,fun h1=>⟨fun h2=> ?_,fun h2=>⟨fun h3=> ?_,fun h3=> ?_⟩⟩⟩
 ·rw [Z7b h1];simp
 ·rw [Za8 h1 h2];simp [b8]
 ·rw [Za9 h1 h2 h3];simp [b8]
 ·rw [Zaa h1 h2 h3];simp [b8]
def Zjn (W:Int->LI):ZO:=fun args h K=>match args with
 | [.nslice ⟨b,0,_,0,0⟩ 1 _ _,.int .i64 _]=>frA [b] h 20 args fun Bs a=>match Bs,a with
  | [.ints .u8 xs],[.nslice ⟨0,0,_,0,0⟩ 1 len _,.int .i64 n]=>Z7 (xs.length=len/\len<90000000000000) (K (.ret (.nslice ⟨h.next,0,0,0,0⟩ 1 (xs++W n).length (xs++W n).length)) ⟨h.next+1,(h.next,.ints .u8 (xs++W n))::Ya h.bs b⟩)
  | _,_=>False
 | [.nilslice,.int .i64 n]=>K (.ret (.nslice ⟨h.next,0,0,0,0⟩ 1 (W n).length (W n).length)) ⟨h.next+1,(h.next,.ints .u8 (W n))::h.bs⟩
 | _=>False
theorem ZgD (args:List AV) (h:Z8) (K:KO) (hl:Zjn Zn args h K):Ze PP 118 args h K:=by
 unfold Zjn at hl
 split at hl
 ·refine Spec.fsumm hl fun Bs a hlen hK0=> ?_
  split at hK0
  ·obtain ⟨⟨h1,h2⟩,hK⟩:=Zd hK0
   exact ⟨_,_,_,_,_,.evM Zm (ZlR _ _ _ _ _ _ _ h1 h2 rfl rfl),by simp,.ret _ _ rfl,.cons _ _ _ _ _ _ rfl (.ints _ _) .nil,hK⟩
  ·exact hK0.elim
 ·exact (Zs.evM Zm (ZlS _ _ _ rfl rfl)).calls (fun E w rs he hr=>by
   cases hr with
   | cons v r vs rs h1 h2=>cases h2 with
    | cons v r vs rs h2 h3=>cases h3;exact .cons _ _ _ _ (h1.plain rfl) (.cons _ _ _ _ (h2.plain rfl) .nil)) rfl ⟨JH,.ints _ _,trivial⟩ hl
 ·exact hl.elim
theorem ZdD (x:Int) (xs:LI) (N:Nat) (hN:(x::xs).length=N) (hB:N<90000000000000):
  evF G0 20 119 [.vints .u8 (x::xs) N] ⟨0,[]⟩ (ZH 0 (.ret (.nslice ⟨0,0,0,0,0⟩ 1 N N)) 1 [(0,.ints .u8 (x::xs))]):=by
 refine @Eq.mpr _ (let b:=[]++List.take N (x::xs);let a:=b.length;
 Z7 (a*1<=140737488355328) (Z7 (a=N) (Z7 (N<=a) (b=x::xs/\True)))) (by kernel_rfl) ?_
 conv=>zeta
 try simp only [vcA]
 try simp only [vcB]
 try simp only [vcC]
 subst hN
 simp only [K5,Jq]
 and_intros<;>first|trivial|omega
theorem ZdE (u:Unit) :
  evF G0 20 119 [.nilslice] ⟨0,[]⟩ (ZH 0 (.ret (.nslice ⟨0,0,0,0,0⟩ 1 0 0)) 1 [(0,.ints .u8 [])]):=by
 refine @Eq.mpr _ (([]:LI)=[]/\True) (by kernel_rfl) ?_
 trivial
theorem ZdF (u:Unit) :
  evF G0 20 119 [.fslice] ⟨0,[]⟩ (ZH 0 (.ret (.nslice ⟨0,0,0,0,0⟩ 1 0 0)) 1 [(0,.ints .u8 [])]):=by
 refine @Eq.mpr _ (([]:LI)=[]/\True) (by kernel_rfl) ?_
 trivial
theorem Z7c (xs:LI) (N:Nat) (hN:xs.length=N) (hB:N<90000000000000):Zs PP 119 [.vints .u8 xs N] (.nslice ⟨0,0,0,0,0⟩ 1 N N) 1 [(0,.ints .u8 xs)]:=by
 cases xs with
 | nil=>subst hN;exact Zs.vints0 (.evM Zm (ZdE ())) (.evM Zm (ZdF ()))
 | cons x r=>exact .evM Zm (ZdD x r N hN hB)
def Z0R:ZO:=fun args h K=>Zz none h true 20 args fun a=>match a with
 | [.vints .u8 xs n]=>Z7 (xs.length=n/\n<90000000000000) (K (.ret (.nslice ⟨h.next,0,0,0,0⟩ 1 n n)) ⟨h.next+1,(h.next,.ints .u8 xs)::h.bs⟩)
 | _=>False
theorem Z0k (args:List AV) (h:Z8) (K:KO) (hl:Z0R args h K):Ze PP 119 args h K:=by
 refine Zs.fsumm (d:=20) (Zk _ _ _ _ _ hl fun a ha=> ?_)
 split at ha
 ·obtain ⟨⟨h1,h2⟩,hK⟩:=Zd ha
  exact ⟨_,_,_,_,Z7c _ _ h1 h2,rfl,⟨JH,.ints _ _,trivial⟩,hK⟩
 ·exact ha.elim
theorem Spec.conv {P:Program} {f:FuncId} {args₀:List AV} {h0:Z8} {o:Out} {nx:Nat} {bs:List (Nat×Blk)} (h:Spec P f args₀ h0 o nx bs) (hc:∀E r,ZB E args r->ZB E args₀ r):Spec P f args h0 o nx bs:=
 fun E w rs he hr=>h E w rs he (hc E rs hr)
noncomputable def ZdG (W:Int->LI):Zb:=G0.withF 118 (Zjn W)
theorem Z0S:(ZdG Zn).Ok:=Zb.withF_ok Zm ZgD
theorem ZdH (W:Int->LI) (T:Int) (xs ys:LI) (N L lo:Nat) (n:Int) (hT:T=4611686018427387904) (hN:xs.length=N) (hB:N<90000000000000) (hn:0<=n/\n<=T) (hy:ys=xs++W n) (hL:L=ys.length):
  evF (ZdG W) 20 54 [.ptr (some ⟨0,0,0,0,0⟩),.vints .i64 [n] 1] ⟨2,[(0,.flat [.nslice ⟨1,0,0,0,0⟩ 1 N lo,.bool true]),(1,.ints .u8 xs)]⟩ (ZH 2 (.ret (.int .i64 0)) 3 [(0,.flat [.nslice ⟨2,0,0,0,0⟩ 1 L L,.bool true]),(2,.ints .u8 ys)]):=by
 refine @Eq.mpr _ (let b:=xs++W n;let a:=b.length;
 Z5 (decide (n<0)) False (Z5 (decide (n>4611686018427387904)) False (Z7 (xs.length=N/\N<90000000000000) (Z7 (a=L) (Z7 (L<=a) (b=ys/\True)))))) (by kernel_rfl) ?_
 conv=>zeta
 try simp only [vcA]
 try simp only [vcB]
 try simp only [vcC]
 subst hT hN hy hL
 exact ⟨by omega,by omega,⟨rfl,hB⟩,rfl,J4 _,rfl⟩
theorem Zjo (W:Int->LI) (T:Int) (xs ys:LI) (N L lo:Nat) (n m:Int) (hT:T=4611686018427387904) (hW:W=Zn) (hN:xs.length=N) (hB:N<80000000000000) (hn:0<=n/\n<=T) (hm:0<=m/\m<=T) (hy:ys=xs++W n++W m) (hL:L=ys.length):
  evF (ZdG W) 20 54 [.ptr (some ⟨0,0,0,0,0⟩),.vints .i64 [n,m] 2] ⟨2,[(0,.flat [.nslice ⟨1,0,0,0,0⟩ 1 N lo,.bool true]),(1,.ints .u8 xs)]⟩ (ZH 2 (.ret (.int .i64 0)) 3 [(0,.flat [.nslice ⟨2,0,0,0,0⟩ 1 L L,.bool true]),(2,.ints .u8 ys)]):=by
 refine @Eq.mpr _ (let d:=xs++W n;let a:=d.length;let c:=d++W m;let b:=c.length;
 Z5 (decide (n<0)) False (Z5 (decide (n>4611686018427387904)) False (Z5 (decide (m<0)) False (Z5 (decide (m>4611686018427387904)) False (Z7 (xs.length=N/\N<90000000000000) (Z7 (a=a/\a<90000000000000) (Z7 (b=L) (Z7 (L<=b) (c=ys/\True))))))))) (by kernel_rfl) ?_
 conv=>zeta
 try simp only [vcA]
 try simp only [vcB]
 try simp only [vcC]
 subst hT hN hy hL hW
 have:=ZL n
 refine ⟨by omega,by omega,by omega,by omega,⟨rfl,by omega⟩, ?_⟩
 simp only [J6]
 and_intros<;>first|trivial|omega
theorem Zjp (W:Int->LI) (T:Int) (ys:LI) (L:Nat) (n m:Int) (hT:T=4611686018427387904) (hW:W=Zn) (hn:0<=n/\n<=T) (hm:0<=m/\m<=T) (hy:ys=W n++W m) (hL:L=ys.length):
  evF (ZdG W) 20 54 [.ptr (some ⟨0,0,0,0,0⟩),.vints .i64 [n,m] 2] ⟨1,[(0,.flat [.nilslice,.bool true])]⟩ (ZH 1 (.ret (.int .i64 0)) 2 [(0,.flat [.nslice ⟨1,0,0,0,0⟩ 1 L L,.bool true]),(1,.ints .u8 ys)]):=by
 refine @Eq.mpr _ (let a:=List.length (W n);let c:=W n++W m;let b:=c.length;
 Z5 (decide (n<0)) False (Z5 (decide (n>4611686018427387904)) False (Z5 (decide (m<0)) False (Z5 (decide (m>4611686018427387904)) False (Z7 (a=a/\a<90000000000000) (Z7 (b=L) (Z7 (L<=b) (c=ys/\True)))))))) (by kernel_rfl) ?_
 conv=>zeta
 try simp only [vcA]
 try simp only [vcB]
 try simp only [vcC]
 subst hT hy hL hW
 have:=ZL n
 refine ⟨by omega,by omega,by omega,by omega, ?_⟩
 simp only [J6]
 and_intros<;>first|trivial|omega
theorem Zab (xs hh ys:LI) (N L lo:Nat) (hN:xs.length=N) (hB:N<90000000000000) (hq:hh.length=32) (hy:ys=xs++hh) (hL:L=ys.length):
  evF G0 20 55 [.ptr (some ⟨0,0,0,0,0⟩),.vrows 32 1 (fun _=>[.arr .u8 32 hh]) 1] ⟨2,[(0,.flat [.nslice ⟨1,0,0,0,0⟩ 1 N lo,.bool true]),(1,.ints .u8 xs)]⟩ (ZH 2 (.ret (.int .i64 0)) 3 [(0,.flat [.nslice ⟨2,0,0,0,0⟩ 1 L L,.bool true]),(2,.ints .u8 ys)]):=by
 refine @Eq.mpr _ (let b:=xs++hh;let a:=b.length;
 Z7 (u8=u8/\hh.length=32) (Z7 (u8=u8/\xs.length=N) (Z7 (a*1<=140737488355328) (Z7 (a=L) (Z7 (L<=a) (b=ys/\True)))))) (by kernel_rfl) ?_
 conv=>zeta
 try simp only [vcA]
 try simp only [vcB]
 try simp only [vcC]
 subst hN hy hL
 refine ⟨hq,rfl, ?_⟩
 simp only [J6]
 and_intros<;>first|trivial|omega
def ZdI (W:Int->LI) (T:Int):ZO:=fun args h K=>match args with
 | [.ptr (some ⟨w,0,0,0,0⟩),_]=>match h.get w with
  |some (.flat [.nslice ⟨b,0,0,0,0⟩ 1 _ _,.bool true])=>frA [w,b] h 20 args fun Bs a=>match Bs,a with
   | [.flat [.nslice ⟨1,0,0,0,0⟩ 1 N _,.bool true],.ints .u8 xs],[.ptr (some ⟨0,0,0,0,0⟩),.vints .i64 [n] 1]=>
    Z7 (xs.length=N/\N<80000000000000/\0<=n/\n<=T) (K (.ret (.int .i64 0)) ⟨h.next+1,(w,.flat [.nslice ⟨h.next,0,0,0,0⟩ 1 (xs++W n).length (xs++W n).length,.bool true])::(h.next,.ints .u8 (xs++W n))::Ya (Ya h.bs w) b⟩)
   | [.flat [.nslice ⟨1,0,0,0,0⟩ 1 N _,.bool true],.ints .u8 xs],[.ptr (some ⟨0,0,0,0,0⟩),.vints .i64 [n,m] 2]=>
    Z7 (xs.length=N/\N<80000000000000/\(0<=n/\n<=T)/\0<=m/\m<=T) (K (.ret (.int .i64 0)) ⟨h.next+1,(w,.flat [.nslice ⟨h.next,0,0,0,0⟩ 1 (xs++W n++W m).length (xs++W n++W m).length,.bool true])::(h.next,.ints .u8 (xs++W n++W m))::Ya (Ya h.bs w) b⟩)
   | _,_=>False
  | some (.flat [.nilslice,.bool true])=>frA [w] h 20 args fun Bs a=>match Bs,a with
   | [.flat [.nilslice,.bool true]],[.ptr (some ⟨0,0,0,0,0⟩),.vints .i64 [n,m] 2]=>
    Z7 ((0<=n/\n<=T)/\0<=m/\m<=T) (K (.ret (.int .i64 0)) ⟨h.next+1,(w,.flat [.nslice ⟨h.next,0,0,0,0⟩ 1 (W n++W m).length (W n++W m).length,.bool true])::(h.next,.ints .u8 (W n++W m))::Ya h.bs w⟩)
   | _,_=>False
  | _=>False
 | _=>False
theorem ZdJ (args:List AV) (h:Z8) (K:KO) (hl:ZdI Zn 4611686018427387904 args h K):Ze PP 54 args h K:=by
 unfold ZdI at hl
 split at hl
 ·split at hl
  ·refine Spec.fsumm hl fun Bs a hlen hK0=> ?_
   split at hK0
   ·obtain ⟨⟨h1,h2,h3⟩,hK⟩:=Zd hK0
    exact ⟨_,_,_,_,_,.evM Z0S (ZdH _ _ _ _ _ _ _ _ rfl h1 (by omega) h3 rfl rfl),by simp,.ret _ _ rfl,.cons _ _ _ _ _ _ rfl (.flat _ _ rfl) (.cons _ _ _ _ _ _ rfl (.ints _ _) .nil),hK⟩
   ·obtain ⟨⟨h1,h2,h3,h4⟩,hK⟩:=Zd hK0
    exact ⟨_,_,_,_,_,.evM Z0S (Zjo _ _ _ _ _ _ _ _ _ rfl rfl h1 h2 h3 h4 rfl rfl),by simp,.ret _ _ rfl,.cons _ _ _ _ _ _ rfl (.flat _ _ rfl) (.cons _ _ _ _ _ _ rfl (.ints _ _) .nil),hK⟩
   ·exact hK0.elim
  ·refine Spec.fsumm hl fun Bs a hlen hK0=> ?_
   split at hK0
   ·obtain ⟨⟨h3,h4⟩,hK⟩:=Zd hK0
    exact ⟨_,_,_,_,_,.evM Z0S (Zjp _ _ _ _ _ _ rfl rfl h3 h4 rfl rfl),by simp,.ret _ _ rfl,.cons _ _ _ _ _ _ rfl (.flat _ _ rfl) (.cons _ _ _ _ _ _ rfl (.ints _ _) .nil),hK⟩
   ·exact hK0.elim
  ·exact hl.elim
 ·exact hl.elim
def Z8V:ZO:=fun args h K=>match args with
 | [.ptr (some ⟨w,0,0,0,0⟩),_]=>match h.get w with
  |some (.flat [.nslice ⟨b,0,0,0,0⟩ 1 _ _,.bool true])=>frA [w,b] h 20 args fun Bs a=>match Bs,a with
   | [.flat [.nslice ⟨1,0,0,0,0⟩ 1 N _,.bool true],.ints .u8 xs],[.ptr (some ⟨0,0,0,0,0⟩),.vrows 32 1 f 1]=>match f 0 with
    | [.arr .u8 32 hh]=>Z7 (xs.length=N/\N<80000000000000/\hh.length=32) (K (.ret (.int .i64 0)) ⟨h.next+1,(w,.flat [.nslice ⟨h.next,0,0,0,0⟩ 1 (xs++hh).length (xs++hh).length,.bool true])::(h.next,.ints .u8 (xs++hh))::Ya (Ya h.bs w) b⟩)
    | _=>False
   | _,_=>False
  | _=>False
 | _=>False
theorem Zby (args:List AV) (h:Z8) (K:KO) (hl:Z8V args h K):Ze PP 55 args h K:=by
 unfold Z8V at hl
 split at hl
 ·split at hl
  ·refine Spec.fsumm hl fun Bs a hlen hK0=> ?_
   split at hK0
   ·split at hK0
    case h_2=>exact hK0.elim
    rename_i hh hf
    obtain ⟨⟨h1,h2,h3⟩,hK⟩:=Zd hK0
    refine ⟨_,_,_,_,_,(Spec.evM Zm (Zab _ hh _ _ _ _ h1 (by omega) h3 rfl rfl)).conv fun E r hr=>hr.head (fun _ hc=>hc) fun _ hc=>hc.head (fun _ hc=>hc.rowsC ?_) fun _ hc=>hc,by simp,.ret _ _ rfl,.cons _ _ _ _ _ _ rfl (.flat _ _ rfl) (.cons _ _ _ _ _ _ rfl (.ints _ _) .nil),hK⟩
    intro i hi
    have:i=0:=by omega
    subst this
    exact hf
   ·exact hK0.elim
  ·exact hl.elim
 ·exact hl.elim
theorem Vt {x:InS} (h:Y9 x=true):(1<=x.way/\x.way<=6)/\0<=x.index/\x.index<=23:=by
 unfold Y9 at h
 simp only [J2,decide_eq_true_eq] at h
 exact ⟨h.1.1.1.1,h.2⟩
noncomputable def Z8W (W:Int->LI) (T:Int):Zb:=(G0.withF 54 (ZdI W T)).withF 55 Z8V
theorem Zac:(Z8W Zn 4611686018427387904).Ok:=Zb.withF_ok (Zb.withF_ok Zm ZdJ) Zby
def inW (W:Int->LI) (core:Bool) (x:InS):LI:=x.name++W x.index++(match core with
 | true=>[]
 | false=>W x.way++((if x.way=4 then [] else x.tag)++(if x.way=1 then x.also else [])++(if x.way=4\/x.way=5 then x.secret else [])))
def Z3t (W:Int->LI) (o:ZF):LI:=W o.kind++W o.amount++o.owner++(if o.kind=2\/o.kind=4\/o.kind=5 then o.other else [])++(if 3<=o.kind then o.point else [])++(if 4<=o.kind then o.hash else [])
 ++(if 3<=o.kind then W o.delay else [])++(if 4<=o.kind then W o.expiry else [])
def Zbz (t:TxS) (core:Bool) (i:Nat) (xs:LI) (n:Nat):St:=⟨120,[(26,.int .i64 i),(25,.int .i64 t.N),(2,.ptr (some ⟨0,0,0,0,0⟩)),(5,.ptr (some ⟨1,0,0,0,0⟩)),(1,.bool core)],⟨3,[(0,.flat t.c),(1,.flat [.nslice ⟨2,0,0,0,0⟩ 1 n n,.bool true]),(2,.ints .u8 xs)]⟩,[]⟩
def UB (t:TxS) (xs:LI) (n:Nat):St:=⟨120,[(2,.ptr (some ⟨0,0,0,0,0⟩)),(5,.ptr (some ⟨1,0,0,0,0⟩))],⟨3,[(0,.flat t.c),(1,.flat [.nslice ⟨2,0,0,0,0⟩ 1 n n,.bool true]),(2,.ints .u8 xs)]⟩,[]⟩
theorem Zjq (W:Int->LI) (T:Int) (t:TxS) (i:Nat) (xs ys:LI) (n m:Nat) (Z1 Z2:Prop) (hT:T=4611686018427387904) (ht:t.Ok) (hi:i<=t.N) (hr:∀j,j<t.N->Y9 (t.ins j)=true) (hW:W=Zn) (hn:xs.length=n) (hs:n<10000000000000) (hy:ys=xs++inW W true (t.ins i)) (hm:ys.length=m) (h1:i<t.N->Z1) (h2:i=t.N->Z2):
  ZG (Z8W W T) 20 96 0 0 (Zbz t true i xs n) (rdM 0 0 9 (Zbz t true (i+1) ys m) (UB t xs n) (UB t xs n) (UB t xs n) Z1 Z2 False False):=by
 refine @Eq.mpr _ (let f:=t.N;let b:=(↑f:Int);let k:=t.ins (Int.toNat (↑i:Int));let j:=k.name;let h:=xs++j;let e:=h.length;let d:=k.index;let g:=decide (t.num=t.num);let a:=decide (f=f);let s:=Zg t.ins;let r:=s=s;let c:=decide (t.M=t.M);let q:=Zf t.outs;let p:=q=q;let o:=h++W d;let l:=o.length;
 Z5 (decide ((↑i:Int)<b)) (Z7 (0<=(↑i:Int)/\(↑i:Int)<b) (Z7 (xs.length=n/\n<80000000000000/\j.length=32) (Z7 (e=e/\e<80000000000000/\0<=d/\d<=T) (Z7 (wrap i64 ((↑i:Int)+1)=(↑(i+1):Int)) (Z7 (b=b) (Z6 g (Z6 a (r/\Z6 a (Z6 c (p/\Z6 c (Z7 (l=m) (Z7 (m<=l) (o=ys/\Z1))))))))))))) (Z6 g (Z6 a (r/\Z6 a (Z6 c (p/\Z6 c (Z7 (n=n) (Z7 (n<=n) (xs=xs/\Z2))))))))) (by kernel_rfl) ?_
 conv=>zeta
 try simp only [vcA]
 try simp only [vcB]
 try simp only [vcC]
 refine ⟨fun hlt=> ?_,fun hge=>h2 (by omega)⟩
 obtain ⟨⟨w1,w2⟩,w3,w4⟩:=Vt (hr i (by omega))
 obtain ⟨l1,l2,l3,l4⟩:=ht.ins i (by omega)
 have hw:=h1 (by omega)
 have hnn:=ht.n
 have hwr:i64.wrap ((i:Int)+1)=((i+1:Nat):Int):=w64 (by omega)
 have u1:=ZL (t.ins i).index
 have u2:=ZL (t.ins i).way
 subst hW hT
 rw [hwr]
 unfold inW at hy
 generalize t.ins i=x at*
 simp only [J6]
 repeat' (first|(refine J9 ?_ ?_)|intro _)
 all_goals first|omega|assumption|trivial|skip
 all_goals first|(rw [hy];simp [*];done)|(rw [<-hm,hy];simp [*];try omega;done)|skip
theorem Zjr (W:Int->LI) (T:Int) (t:TxS) (i:Nat) (xs ys:LI) (n m:Nat) (Z1 Z2:Prop) (hT:T=4611686018427387904) (ht:t.Ok) (hi:i<=t.N) (hr:∀j,j<t.N->Y9 (t.ins j)=true) (hW:W=Zn) (hn:xs.length=n) (hs:n<10000000000000) (hy:ys=xs++inW W false (t.ins i)) (hm:ys.length=m) (h1:i<t.N->Z1) (h2:i=t.N->Z2):
  ZG (Z8W W T) 20 96 0 0 (Zbz t false i xs n) (rdM 0 0 9 (Zbz t false (i+1) ys m) (UB t xs n) (UB t xs n) (UB t xs n) Z1 Z2 False False):=by
 refine @Eq.mpr _ (let y:=t.N;let p:=(↑y:Int);let f:=t.ins (Int.toNat (↑i:Int));let B:=f.name;let A:=xs++B;let v:=A.length;let u:=f.index;let z:=A++W u;let s:=z.length;let c:=f.way;let r:=z++W c;let e:=r.length;let L:=f.tag;let x:=decide (e=e/\e<80000000000000/\L.length=32);let q:=r++L;let d:=q.length;let K:=f.also;let l:=decide (wrap i64 ((↑i:Int)+1)=(↑(i+1):Int));let k:=decide (p=p);let j:=decide (t.num=t.num);let b:=decide (y=y);let J:=Zg t.ins;let h:=J=J;let a:=decide (t.M=t.M);let I:=Zf t.outs;let g:=I=I;let H:=q++K;let G:=H.length;let w:=Z6 x (Z6 l (Z6 k (Z6 j (Z6 b (h/\Z6 b (Z6 a (g/\Z6 a (Z7 (d=m) (Z7 (m<=d) (q=ys/\Z1))))))))));let o:=f.secret;let F:=r++o;let E:=F.length;let D:=q++o;let C:=D.length;
 Z5 (decide ((↑i:Int)<p)) (Z7 (0<=(↑i:Int)/\(↑i:Int)<p) (Z7 (xs.length=n/\n<80000000000000/\B.length=32) (Z7 (v=v/\v<80000000000000/\0<=u/\u<=T) (Z7 (s=s/\s<80000000000000/\0<=c/\c<=T) (Z7 (c=c) (Z5 (decide (c=1)) (Z6 x (Z7 (d=d/\d<80000000000000/\K.length=32) (Z6 l (Z6 k (Z6 j (Z6 b (h/\Z6 b (Z6 a (g/\Z6 a (Z7 (G=m) (Z7 (m<=G) (H=ys/\Z1)))))))))))) (Z5 (decide (c=2)) w (Z5 (decide (c=3)) w (Z5 (decide (c=4)) (Z7 (e=e/\e<80000000000000/\o.length=32) (Z6 l (Z6 k (Z6 j (Z6 b (h/\Z6 b (Z6 a (g/\Z6 a (Z7 (E=m) (Z7 (m<=E) (F=ys/\Z1))))))))))) (Z5 (decide (c=5)) (Z6 x (Z7 (d=d/\d<80000000000000/\o.length=32) (Z6 l (Z6 k (Z6 j (Z6 b (h/\Z6 b (Z6 a (g/\Z6 a (Z7 (C=m) (Z7 (m<=C) (D=ys/\Z1)))))))))))) (Z5 (decide (c=6)) w (Z6 l (Z6 k (Z6 j (Z6 b (h/\Z6 b (Z6 a (g/\Z6 a (Z7 (e=m) (Z7 (m<=e) (r=ys/\Z1))))))))))))))))))))) (Z6 j (Z6 b (h/\Z6 b (Z6 a (g/\Z6 a (Z7 (n=n) (Z7 (n<=n) (xs=xs/\Z2))))))))) (by kernel_rfl) ?_
 conv=>zeta
 try simp only [vcA]
 try simp only [vcB]
 try simp only [vcC]
 refine ⟨fun hlt=> ?_,fun hge=>h2 (by omega)⟩
 obtain ⟨⟨w1,w2⟩,w3,w4⟩:=Vt (hr i (by omega))
 obtain ⟨l1,l2,l3,l4⟩:=ht.ins i (by omega)
 have hw:=h1 (by omega)
 have hnn:=ht.n
 have hwr:i64.wrap ((i:Int)+1)=((i+1:Nat):Int):=w64 (by omega)
 have u1:=ZL (t.ins i).index
 have u2:=ZL (t.ins i).way
 subst hW hT
 rw [hwr]
 unfold inW at hy
 generalize t.ins i=x at*
 simp only [J6]
 repeat' (first|(refine J9 ?_ ?_)|intro _)
 all_goals first|omega|assumption|trivial|skip
 all_goals first|(rw [hy];simp [*];done)|(rw [<-hm,hy];simp [*];try omega;done)|skip
theorem Xu {o:ZF} (h:ZE o=true):(1<=o.kind/\o.kind<=5)/\(0<o.amount/\o.amount<=1125899906842624)/\(0<=o.delay/\o.delay<=2147483647)/\0<=o.expiry/\o.expiry<=2147483647:=by
 unfold ZE at h
 simp only [J2,decide_eq_true_eq] at h
 obtain ⟨⟨⟨⟨h1,_⟩,h2⟩,h3⟩,h4⟩:=h
 refine ⟨?_,h2,h3,h4⟩
 revert h1
 simp only [and_imp]
 intros
 omega
def Z7d (t:TxS) (i:Nat) (xs:LI) (n:Nat):St:=⟨120,[(82,.int .i64 i),(81,.int .i64 t.M),(2,.ptr (some ⟨0,0,0,0,0⟩)),(5,.ptr (some ⟨1,0,0,0,0⟩))],⟨3,[(0,.flat t.c),(1,.flat [.nslice ⟨2,0,0,0,0⟩ 1 n n,.bool true]),(2,.ints .u8 xs)]⟩,[]⟩
theorem Zjs (W:Int->LI) (T:Int) (t:TxS) (i:Nat) (xs ys:LI) (n m:Nat) (Z1 Z2:Prop) (hT:T=4611686018427387904) (ht:t.Ok) (hi:i<=t.M) (hr:∀j,j<t.M->ZE (t.outs j)=true) (hW:W=Zn) (hn:xs.length=n) (hs:n<10000000000000) (hy:ys=xs++Z3t W (t.outs i)) (hm:ys.length=m) (h1:i<t.M->Z1) (h2:i=t.M->Z2):
  ZG (Z8W W T) 20 96 4 0 (Z7d t i xs n) (rdM 0 4 9 (Z7d t (i+1) ys m) (UB t xs n) (UB t xs n) (UB t xs n) Z1 Z2 False False):=by
 refine @Eq.mpr _ (let D:=t.M;let s:=(↑D:Int);let d:=t.outs (Int.toNat (↑i:Int));let c:=d.kind;let w:=d.amount;let v:=xs++W c++W w;let j:=v.length;let E:=d.owner;let q:=decide (j=j/\j<80000000000000/\E.length=32);let p:=decide (wrap i64 ((↑i:Int)+1)=(↑(i+1):Int));let o:=decide (s=s);let h:=decide (t.num=t.num);let b:=decide (t.N=t.N);let X:=Zg t.ins;let g:=X=X;let a:=decide (D=D);let V:=Zf t.outs;let f:=V=V;let u:=v++E;let e:=u.length;let U:=d.other;let S:=decide (e=e/\e<80000000000000/\U.length=32);let C:=u++U;let l:=C.length;let r:=d.point;let R:=u++r;let B:=R.length;let k:=d.delay;let Q:=W k;let P:=R++Q;let O:=P.length;let L:=C++r;let A:=L.length;let K:=d.hash;let J:=L++K;let z:=J.length;let I:=J++Q;let y:=I.length;let x:=d.expiry;let H:=I++W x;let G:=H.length;let F:=Z6 q (Z6 S (Z7 (l=l/\l<80000000000000/\r.length=32) (Z7 (A=A/\A<80000000000000/\K.length=32) (Z7 (z=z/\z<80000000000000/\0<=k/\k<=T) (Z7 (y=y/\y<80000000000000/\0<=x/\x<=T) (Z6 p (Z6 o (Z6 h (Z6 b (g/\Z6 b (Z6 a (f/\Z6 a (Z7 (G=m) (Z7 (m<=G) (H=ys/\Z1)))))))))))))));
 Z5 (decide ((↑i:Int)<s)) (Z7 (0<=(↑i:Int)/\(↑i:Int)<s) (Z7 (xs.length=n/\n<80000000000000/\(0<=c/\c<=T)/\0<=w/\w<=T) (Z7 (c=c) (Z5 (decide (c=1)) (Z6 q (Z6 p (Z6 o (Z6 h (Z6 b (g/\Z6 b (Z6 a (f/\Z6 a (Z7 (e=m) (Z7 (m<=e) (u=ys/\Z1))))))))))) (Z5 (decide (c=2)) (Z6 q (Z6 S (Z6 p (Z6 o (Z6 h (Z6 b (g/\Z6 b (Z6 a (f/\Z6 a (Z7 (l=m) (Z7 (m<=l) (C=ys/\Z1)))))))))))) (Z5 (decide (c=3)) (Z6 q (Z7 (e=e/\e<80000000000000/\r.length=32) (Z7 (B=B/\B<80000000000000/\0<=k/\k<=T) (Z6 p (Z6 o (Z6 h (Z6 b (g/\Z6 b (Z6 a (f/\Z6 a (Z7 (O=m) (Z7 (m<=O) (P=ys/\Z1))))))))))))) (Z5 (decide (c=4)) F (Z5 (decide (c=5)) F (Z6 p (Z6 o (Z6 h (Z6 b (g/\Z6 b (Z6 a (f/\Z6 a (Z7 (j=m) (Z7 (m<=j) (v=ys/\Z1)))))))))))))))))) (Z6 h (Z6 b (g/\Z6 b (Z6 a (f/\Z6 a (Z7 (n=n) (Z7 (n<=n) (xs=xs/\Z2))))))))) (by kernel_rfl) ?_
 conv=>zeta
 try simp only [vcA]
 try simp only [vcB]
 try simp only [vcC]
 refine ⟨fun hlt=> ?_,fun hge=>h2 (by omega)⟩
 obtain ⟨⟨w1,w2⟩,⟨w3,w4⟩,⟨w5,w6⟩,w7,w8⟩:=Xu (hr i (by omega))
 obtain ⟨l1,l2,l3,l4⟩:=ht.outs i (by omega)
 have hw:=h1 (by omega)
 have hnn:=ht.m
 have hwr:i64.wrap ((i:Int)+1)=((i+1:Nat):Int):=w64 (by omega)
 have u1:=ZL (t.outs i).kind
 have u2:=ZL (t.outs i).amount
 have u3:=ZL (t.outs i).delay
 have u4:=ZL (t.outs i).expiry
 subst hW hT
 rw [hwr]
 unfold Z3t at hy
 generalize t.outs i=x at*
 simp only [J6]
 repeat' (first|(refine J9 ?_ ?_)|intro _)
 all_goals first|omega|assumption|trivial|skip
 all_goals first|(rw [hy];simp [*];done)|(rw [<-hm,hy];simp [*];try omega;done)|skip
def QB (f:Nat->LI):Nat->LI
 | 0=>[]
 | n+1=>QB f n++f n
theorem ZdK {f:Nat->LI} {b:Nat} (h:∀i,(f i).length<=b):∀n,(QB f n).length<=n*b
 | 0=>by simp [QB]
 | n+1=>by
  have:=ZdK h n
  have:=h n
  simp only [QB,J6,K1]
  omega
@[irreducible] def YQ (W:Int->LI) (t:TxS) (core:Bool) (i:Nat):LI:=W t.num++W t.N++QB (fun j=>inW W core (t.ins j)) i
@[irreducible] def Yx (W:Int->LI) (t:TxS) (core:Bool) (i:Nat):LI:=YQ W t core t.N++W t.M++QB (fun j=>Z3t W (t.outs j)) i
def Wd (W:Int->LI) (t:TxS) (core:Bool):LI:=Yx W t core t.M
theorem Qv (W:Int->LI) (t:TxS) (core:Bool) (i:Nat):YQ W t core (i+1)=YQ W t core i++inW W core (t.ins i):=by unfold YQ;simp [QB]
theorem Z4R (W:Int->LI) (t:TxS) (core:Bool) (i:Nat):Yx W t core (i+1)=Yx W t core i++Z3t W (t.outs i):=by unfold Yx;simp [QB]
structure TxS.Fine (t:TxS):Prop where
 ok:t.Ok
 num:0<=t.num/\t.num<=2147483647
 n:t.N<=24
 m:t.M<=24
 ins:∀j,j<t.N->Y9 (t.ins j)=true
 outs:∀j,j<t.M->ZE (t.outs j)=true
theorem Z1t {f:Nat->LI} {b:Nat}:∀n,(∀i,i<n->(f i).length<=b)->(QB f n).length<=n*b
 | 0,_=>by simp [QB]
 | n+1,h=>by
  have:=Z1t n (fun i hi=>h i (by omega))
  have:=h n (by omega)
  simp only [QB,J6,K1]
  omega
theorem ZgE {core:Bool} {x:InS} (h:x.Ok):(inW Zn core x).length<=200:=by
 obtain ⟨l1,l2,l3,l4⟩:=h
 have u1:=ZL x.index
 have u2:=ZL x.way
 unfold inW
 cases core
 ·simp only [J6]
  repeat' split
  all_goals (try simp only [Jr])
  all_goals omega
 ·simp [*];omega
theorem ZdL {x:ZF} (h:x.Ok):(Z3t Zn x).length<=200:=by
 obtain ⟨l1,l2,l3,l4⟩:=h
 have u1:=ZL x.kind
 have u2:=ZL x.amount
 have u3:=ZL x.delay
 have u4:=ZL x.expiry
 unfold Z3t
 simp only [J6]
 repeat' split
 all_goals (try simp only [Jr])
 all_goals omega
theorem Q7 {t:TxS} (h:t.Fine) (core:Bool) {i:Nat} (hi:i<=t.N):(YQ Zn t core i).length<=10000:=by
 have h1:=ZL t.num
 have h2:=ZL t.N
 have h3:=Z1t (f:=fun j=>inW Zn core (t.ins j)) (b:=200) i (fun j hj=>ZgE (h.ok.ins j (by omega)))
 have:=h.n
 unfold YQ
 simp only [J6]
 omega
theorem Wq {t:TxS} (h:t.Fine) (core:Bool) {i:Nat} (hi:i<=t.M):(Yx Zn t core i).length<=20000:=by
 have h1:=Q7 h core (J4 t.N)
 have h2:=ZL t.M
 have h3:=Z1t (f:=fun j=>Z3t Zn (t.outs j)) (b:=200) i (fun j hj=>ZdL (h.ok.outs j (by omega)))
 have:=h.m
 unfold Yx
 simp only [J6]
 omega
noncomputable def ZgF (W:Int->LI) (T:Int) (t:TxS) (core:Bool):Zb:=
 (Z8W W T).withL 96 0 (goM 0 (Zbz t core 0 (YQ W t core 0) (YQ W t core 0).length) t.Fine (YD 0 t.N 9 (fun i=>i<t.N) (fun i=>i=t.N) (fun _=>False) (fun _=>False) (fun i=>UB t (YQ W t core i) (YQ W t core i).length) (fun i=>UB t (YQ W t core i) (YQ W t core i).length) (fun i=>UB t (YQ W t core i) (YQ W t core i).length)))
noncomputable def ZlT (W:Int->LI) (T:Int) (t:TxS) (core:Bool):Zb:=
 (Z8W W T).withL 96 4 (goM 0 (Z7d t 0 (Yx W t core 0) (Yx W t core 0).length) t.Fine (YD 4 t.M 9 (fun i=>i<t.M) (fun i=>i=t.M) (fun _=>False) (fun _=>False) (fun i=>UB t (Yx W t core i) (Yx W t core i).length) (fun i=>UB t (Yx W t core i) (Yx W t core i).length) (fun i=>UB t (Yx W t core i) (Yx W t core i).length)))
theorem ZgG (t:TxS) (core:Bool) (T:Int) (hT:T=4611686018427387904):(ZgF Zn T t core).Ok:=by
 unfold ZgF
 refine Zb.withGoM (N:=20) (S:=fun i=>Zbz t core i (YQ Zn t core i) (YQ Zn t core i).length) (by subst hT;exact Zac) (by kernel_rfl) fun hC=>⟨rfl,fun i hi hgo=> ?_⟩
 have h1:=Q7 hC core hi
 cases core
 ·exact Zjr Zn T t i (YQ Zn t false i) (YQ Zn t false (i+1)) _ _ _ _ hT hC.ok hi hC.ins rfl rfl (by omega) (Qv _ _ _ _) rfl (fun h=>⟨h,h⟩) (fun h=>h)
 ·exact Zjq Zn T t i (YQ Zn t true i) (YQ Zn t true (i+1)) _ _ _ _ hT hC.ok hi hC.ins rfl rfl (by omega) (Qv _ _ _ _) rfl (fun h=>⟨h,h⟩) (fun h=>h)
theorem ZgH (t:TxS) (core:Bool) (T:Int) (hT:T=4611686018427387904):(ZlT Zn T t core).Ok:=by
 unfold ZlT
 refine Zb.withGoM (N:=20) (S:=fun i=>Z7d t i (Yx Zn t core i) (Yx Zn t core i).length) (by subst hT;exact Zac) (by kernel_rfl) fun hC=>⟨rfl,fun i hi hgo=> ?_⟩
 have h1:=Wq hC core hi
 exact Zjs Zn T t i (Yx Zn t core i) (Yx Zn t core (i+1)) _ _ _ _ hT hC.ok hi hC.outs rfl rfl (by omega) (Z4R _ _ _ _) rfl (fun h=>⟨h,h⟩) (fun h=>h)
noncomputable def Zjt (W:Int->LI) (T:Int) (t:TxS) (core:Bool):Zb:=
 ((ZgF W T t core).withL 96 4 (goM 0 (Z7d t 0 (Yx W t core 0) (Yx W t core 0).length) t.Fine (YD 4 t.M 9 (fun i=>i<t.M) (fun i=>i=t.M) (fun _=>False) (fun _=>False) (fun i=>UB t (Yx W t core i) (Yx W t core i).length) (fun i=>UB t (Yx W t core i) (Yx W t core i).length) (fun i=>UB t (Yx W t core i) (Yx W t core i).length)))).withF 119 Z0R
theorem ZlU (W:Int->LI) (T:Int) (t:TxS) (core:Bool) (ys:LI) (L:Nat) (hT:T=4611686018427387904) (hW:W=Zn) (ht:t.Fine) (hy:ys=Wd W t core) (hL:L=ys.length):
  evF (Zjt W T t core) 20 96 [.agg t.c,.bool core] ⟨0,[]⟩ (ZH 0 (.ret (.nslice ⟨0,0,0,0,0⟩ 1 L L)) 1 [(0,.ints .u8 ys)]):=by
 refine @Eq.mpr _ (let f:=t.num;let c:=t.N;let d:=↑c;let r:=decide (f=f);let h:=decide (c=c);let m:=Zg t.ins;let l:=m=m;let b:=t.M;let g:=decide (b=b);let C:=Zf t.outs;let B:=C=C;let A:=W f++W d;let z:=A.length;let y:=YQ W t core 0;let x:=y.length;let e:=↑b;let w:=Yx W t core 0;let v:=w.length;let u:=(False->False)/\(False->False);
 Z7 ((0<=f/\f<=T)/\0<=d/\d<=T) (Z7 (d=d) (Z7 (core=core) (Z6 r (Z6 h (l/\
 Z6 h (Z6 g (B/\
 Z6 g (Z7 (z=x) (Z7 (x<=z) (A=y/\
 TxS.Fine t/\
 ∀(i:Nat),
 let s:=YQ W t core i;let k:=s.length;let q:=s++W e;let p:=q.length;
 i<=c->
 (∀(j:Nat),j<i->(fun (i:Nat)=>i<c) j)->
 (i=c->
 Z7 (k=k/\k<80000000000000/\0<=e/\e<=T) (Z7 (e=e) (Z6 r (Z6 h (l/\
 Z6 h (Z6 g (B/\
 Z6 g (Z7 (p=v) (Z7 (v<=p) (q=w/\
 TxS.Fine t/\
 ∀(i:Nat),
 let o:=Yx W t core i;let a:=o.length;let n:=List.take a (ZX 0 o);
 i<=b->(∀(j:Nat),j<i->(fun (i:Nat)=>i<b) j)->(i=b->Z7 (0+a<=a) (Z7 (n.length=a/\a<90000000000000) (Z7 (a=L) (Z7 (L<=a) (n=ys/\True)))))/\u))))))))))/\
 u))))))))))) (by kernel_rfl) ?_
 conv=>zeta
 try simp only [vcA]
 try simp only [vcB]
 try simp only [vcC]
 subst hT hW hy hL
 have e1:Zn t.num++Zn ↑t.N=YQ Zn t core 0:=by unfold YQ;simp [QB]
 have e2:YQ Zn t core t.N++Zn ↑t.M=Yx Zn t core 0:=by unfold Yx;simp [QB]
 have b1:=Q7 ht core (J4 t.N)
 have b2:=Wq ht core (J4 t.M)
 have hN:=ht.n
 have hM:=ht.m
 have hq:=ht.num
 rw [e1]
 refine ⟨⟨⟨by omega,by omega⟩,by omega,by omega⟩,rfl,J4 _,rfl,ht,fun i hi _=>⟨fun he=> ?_,fun h=>h.elim,fun h=>h.elim⟩⟩
 subst he
 rw [e2]
 refine ⟨⟨by omega,by omega,by omega⟩,rfl,J4 _,rfl,ht,fun i hi _=>⟨fun he=> ?_,fun h=>h.elim,fun h=>h.elim⟩⟩
 subst he
 rw [Yb,JV,Jq]
 exact ⟨⟨rfl,by omega⟩,rfl,J4 _,rfl⟩
theorem ZgI (t:TxS) (core:Bool) (T:Int) (hT:T=4611686018427387904):(Zjt Zn T t core).Ok:=by
 unfold Zjt
 exact Zb.withF_ok (Zb.withL_join (G:=ZgF Zn T t core) (H:=Z8W Zn T) (ZgG t core T hT) rfl (ZgH t core T hT)) Z0k
theorem ZdM (t:TxS) (core:Bool) (ht:t.Fine):Zs PP 96 [.agg t.c,.bool core] (.nslice ⟨0,0,0,0,0⟩ 1 (Wd Zn t core).length (Wd Zn t core).length) 1 [(0,.ints .u8 (Wd Zn t core))]  :=.evM (ZgI t core _ rfl) (ZlU _ _ t core _ _ rfl rfl ht rfl rfl)
def ZdN (R:TxS->Bool->LI):ZO:=fun args h K=>Zz none h true 20 args fun a=>match a with
 | [.agg l,.bool core]=>∃t,Z0j l t/\t.Fine/\K (.ret (.nslice ⟨h.next,0,0,0,0⟩ 1 (R t core).length (R t core).length)) ⟨h.next+1,(h.next,.ints .u8 (R t core))::h.bs⟩
 | _=>False
theorem ZgJ (args:List AV) (h:Z8) (K:KO) (hl:ZdN (Wd Zn) args h K):Ze PP 96 args h K:=by
 refine Zs.fsumm (d:=20) (Zk _ _ _ _ _ hl fun a ha=> ?_)
 split at ha
 ·obtain ⟨t,h1,h2,hK⟩:=ha
  exact ⟨_,_,_,_,(ZdM t _ h2).conv fun E r hr=>hr.head (fun _ hc=>h1.rel hc) (fun _ hc=>hc),rfl,⟨JH,.ints _ _,trivial⟩,hK⟩
 ·exact ha.elim
theorem X2 {t:TxS} (ht:t.Ok) (h:Yp ZA t=true):t.Fine:=by
 unfold Yp at h
 simp only [J2,decide_eq_true_eq,J5,JM,Jw,beq_iff_eq] at h
 obtain ⟨⟨⟨⟨⟨h1,h2⟩,h3⟩,h4⟩,h5⟩,_⟩:=h
 refine ⟨ht,h1,by omega,by omega,fun j hj=> ?_,fun j hj=> ?_⟩
 ·have:=h4 j hj
  simp [YZ,Uo] at this
  exact this.1
 ·have:=h5 j hj
  simpa [YH,Z0i] using this
noncomputable def E19 (A:LI->Int×Int) (H:LI->LI) (T2:LI->LI->LI) (R:TxS->Bool->LI) (B:Nat):Zb:=
 ((((G0.withP 89 (ckS A)).withF 96 (ZdN R)).withP 95 (Zdj H B)).withP 167 (Zle T2)).withP 187 (Z8U A)
theorem ZdO (B:Nat) (hB:B<100000000000) (h32:32<=B):(E19 ZA Q2 Q3 (Wd Zn) B).Ok:=
 Zb.withP_ok (Zb.withP_ok (Zb.withP_ok (Zb.withF_ok (Zb.withP_ok Zm ZdB) ZgJ) (Zdl B hB h32)) Zg5) Z4Q
theorem Zod (A:LI->Int×Int) (H:LI->LI) (T2:LI->LI->LI) (R:TxS->Bool->LI) (B:Nat) (t:TxS) (hh:LI) (ht:t.Ok) (hc:Yp A t=true) (hA:A=ZA) (hR:R=Wd Zn) (hB:20000<=B) (hHl:∀x,(H x).length=32) (hH:hh=H (R t true)):
  evF (E19 A H T2 R B) 20 48 [.agg t.c] ⟨0,[]⟩ (ZH 0 (.ret (.tuple [.agg [.arr .u8 32 hh],.int .i64 0])) 0 []):=by
 refine @Eq.mpr _ (let b:=t.N;let a:=t.M;
 ∃(t_1:TxS),
 (t_1.num=t.num/\((b=b/\t_1.N=b)/\∀(i:Nat),i<b->Zg t.ins i=InS.c (t_1.ins i))/\(a=a/\t_1.M=a)/\∀(i:Nat),i<a->Zf t.outs i=ZF.c (t_1.outs i))/\
 TxS.Ok t_1/\
 Z5 (Yp A t_1) (∃(t_2:TxS),
 let d:=List.length (R t_2 true);let f:=List.take d (ZX 0 (R t_2 true));let e:=f.length;
 (t_2.num=t.num/\((b=b/\t_2.N=b)/\∀(i:Nat),i<b->Zg t.ins i=InS.c (t_2.ins i))/\(a=a/\t_2.M=a)/\∀(i:Nat),i<a->Zf t.outs i=ZF.c (t_2.outs i))/\TxS.Fine t_2/\Z7 (0+d<=d) (Z7 (d=e) (Z7 (e<=B) (H f=hh/\True)))) (Z0=hh/\False)) (by kernel_rfl) ?_
 conv=>zeta
 try simp only [vcA]
 try simp only [vcB]
 try simp only [vcC]
 refine ⟨t,⟨rfl,⟨rfl,fun _ _=>rfl⟩,rfl,fun _ _=>rfl⟩,ht,fun h=>⟨t,⟨rfl,⟨rfl,fun _ _=>rfl⟩,rfl,fun _ _=>rfl⟩,X2 ht (by subst hA;exact hc), ?_⟩,fun h=>(by rw [hc] at h;cases h)⟩
 subst hR hA hH
 have hb:=Wq (X2 ht hc) true (J4 t.M)
 have hb':(Wd Zn t true).length<=20000:=hb
 rw [Yb,JV,Jq]
 and_intros<;>first|trivial|rfl|omega
theorem ZlV (A:LI->Int×Int) (H:LI->LI) (T2:LI->LI->LI) (R:TxS->Bool->LI) (B:Nat) (t:TxS) (key hh:LI) (ht:t.Ok) (hc:Yp A t=true) (hA:A=ZA) (hR:R=Wd Zn) (hB:20000<=B) (hHl:∀x,(H x).length=32) (hk:key.length=32) (hH:hh=T2 key (H (R t true))):
  evF (E19 A H T2 R B) 20 83 [.agg t.c,.agg [.arr .u8 32 key]] ⟨0,[]⟩ (ZH 0 (.ret (.tuple [.agg [.arr .u8 32 hh],.int .i64 0])) 0 []):=by
 refine @Eq.mpr _ (let b:=t.N;let a:=t.M;
 ∃(t_1:TxS),
 (t_1.num=t.num/\((b=b/\t_1.N=b)/\∀(i:Nat),i<b->Zg t.ins i=InS.c (t_1.ins i))/\(a=a/\t_1.M=a)/\∀(i:Nat),i<a->Zf t.outs i=ZF.c (t_1.outs i))/\
 TxS.Ok t_1/\
 Z5 (Yp A t_1) (∃(t_2:TxS),
 let d:=List.length (R t_2 true);let h:=List.take d (ZX 0 (R t_2 true));let g:=h.length;let f:=H h;let e:=f.length;
 (t_2.num=t.num/\((b=b/\t_2.N=b)/\∀(i:Nat),i<b->Zg t.ins i=InS.c (t_2.ins i))/\(a=a/\t_2.M=a)/\∀(i:Nat),i<a->Zf t.outs i=ZF.c (t_2.outs i))/\TxS.Fine t_2/\Z7 (0+d<=d) (Z7 (d=g) (Z7 (g<=B) (Z7 (key.length=32) (Z7 (e=32) (Z7 (32=e) (Z7 (key.length=32/\e=32) (T2 key f=hh/\True)))))))) (Z0=hh/\False)) (by kernel_rfl) ?_
 conv=>zeta
 try simp only [vcA]
 try simp only [vcB]
 try simp only [vcC]
 refine ⟨t,⟨rfl,⟨rfl,fun _ _=>rfl⟩,rfl,fun _ _=>rfl⟩,ht,fun h=>⟨t,⟨rfl,⟨rfl,fun _ _=>rfl⟩,rfl,fun _ _=>rfl⟩,X2 ht (by subst hA;exact hc), ?_⟩,fun h=>(by rw [hc] at h;cases h)⟩
 subst hR hA hH
 have hb:=Wq (X2 ht hc) true (J4 t.M)
 have hb':(Wd Zn t true).length<=20000:=hb
 rw [Yb,JV,Jq]
 have:=hHl (Wd Zn t true)
 and_intros<;>first|trivial|rfl|omega
theorem ZlW (A:LI->Int×Int) (H:LI->LI) (T2:LI->LI->LI) (R:TxS->Bool->LI) (B:Nat) (t:TxS) (key:LI) (ht:t.Ok) (hc:Yp A t=false):
  evF (E19 A H T2 R B) 20 83 [.agg t.c,.agg [.arr .u8 32 key]] ⟨0,[]⟩ (ZH 0 (.ret (.tuple [.agg [.arr .u8 32 Z0],.int .i64 2])) 0 []):=by
 refine @Eq.mpr _ (let b:=t.N;let a:=t.M;
 ∃(t_1:TxS),
 (t_1.num=t.num/\((b=b/\t_1.N=b)/\∀(i:Nat),i<b->Zg t.ins i=InS.c (t_1.ins i))/\(a=a/\t_1.M=a)/\∀(i:Nat),i<a->Zf t.outs i=ZF.c (t_1.outs i))/\
 TxS.Ok t_1/\
 Z5 (Yp A t_1) (∃(t_2:TxS),
 let d:=List.length (R t_2 true);let h:=List.take d (ZX 0 (R t_2 true));let g:=h.length;let f:=H h;let e:=f.length;
 (t_2.num=t.num/\((b=b/\t_2.N=b)/\∀(i:Nat),i<b->Zg t.ins i=InS.c (t_2.ins i))/\(a=a/\t_2.M=a)/\∀(i:Nat),i<a->Zf t.outs i=ZF.c (t_2.outs i))/\TxS.Fine t_2/\Z7 (0+d<=d) (Z7 (d=g) (Z7 (g<=B) (Z7 (key.length=32) (Z7 (e=32) (Z7 (32=e) (Z7 (key.length=32/\e=32) (T2 key f=Z0/\False)))))))) (Z0=Z0/\True)) (by kernel_rfl) ?_
 conv=>zeta
 try simp only [vcA]
 try simp only [vcB]
 try simp only [vcC]
 exact ⟨t,⟨rfl,⟨rfl,fun _ _=>rfl⟩,rfl,fun _ _=>rfl⟩,ht,fun h=>(by rw [hc] at h;cases h),fun h=>(by first|trivial|exact ⟨rfl,trivial⟩|rfl)⟩
def Zpm (A:LI->Int×Int) (Nm:TxS->LI):ZI:=fun args h K=>Zz none h true 20 args fun a=>match a with
 | [.agg l]=>∃t,Z0j l t/\t.Ok/\Z5 (Yp A t) (K (.tuple [.agg [.arr .u8 32 (Nm t)],.int .i64 0])) (K (.tuple [.agg [.arr .u8 32 Z0],.int .i64 2]))
 | _=>False
@[irreducible] def Z1P (t:TxS):LI:=Q2 (Wd Zn t true)
theorem ZbA (t:TxS):(Z1P t).length=32:=by unfold Z1P;exact Z4K _
def Zju (A:LI->Int×Int) (Tg:LI->TxS->LI):ZI:=fun args h K=>Zz none h true 20 args fun a=>match a with
 | [.agg l,.agg [.arr .u8 32 key]]=>∃t,Z0j l t/\(t.Ok/\key.length=32)/\Z5 (Yp A t) (K (.tuple [.agg [.arr .u8 32 (Tg key t)],.int .i64 0])) (K (.tuple [.agg [.arr .u8 32 Z0],.int .i64 2]))
 | _=>False
@[irreducible] def Zy (key:LI) (t:TxS):LI:=Q3 key (Q2 (Wd Zn t true))
theorem Xg (k:LI) (t:TxS):(Zy k t).length=32:=by unfold Zy;exact Zbq _ _
theorem ZbB (args:List AV) (h:Z8) (K:AV->Prop) (hl:Zju ZA Zy args h K):Ze PP 83 args h fun o h'=>∃v,o=.ret v/\h'=h/\K v:=by
 refine Zs.psumm (d:=20) (Zk _ _ _ _ _ hl fun a ha=> ?_)
 split at ha
 ·obtain ⟨t,h1,⟨h2,hk⟩,hK⟩:=ha
  rw [ZN] at hK
  cases hc:Yp ZA t with
  | true=>exact ⟨_,(Zs.evM (ZdO 20000 (by decide) (by decide)) (ZlV _ _ _ _ _ t _ _ h2 hc rfl rfl (by decide) Z4K hk rfl)).conv fun E r hr=>hr.head (fun _ hc=>h1.rel hc) (fun _ hc=>hc),fun _=>rfl,by have:=hK.1 hc;unfold Zy at this;exact this⟩
  | false=>exact ⟨_,(Zs.evM (ZdO 20000 (by decide) (by decide)) (ZlW _ _ _ _ _ t _ h2 hc)).conv fun E r hr=>hr.head (fun _ hc=>h1.rel hc) (fun _ hc=>hc),fun _=>rfl,hK.2 hc⟩
 ·exact ha.elim
def Z21 (x y:InS):Bool:=x.name==y.name&&x.index==y.index&&x.way==y.way&&x.tag==y.tag&&x.also==y.also&&x.secret==y.secret
def Ux (x y:ZF):Bool:=x.kind==y.kind&&x.amount==y.amount&&x.owner==y.owner&&x.other==y.other&&x.point==y.point&&x.hash==y.hash&&x.delay==y.delay&&x.expiry==y.expiry
@[irreducible] def Z8X (N:Nat) (g:Nat->InS) (M:Nat) (g2:Nat->InS):Bool:=decide (N=M)&&(List.range N).all fun i=>Z21 (g i) (g2 i)
def Zpo:ZI:=fun args h K=>Zz none h true 20 args fun a=>match a with
 | [x,y]=>∃N g M g2,Z49 x N g/\Z49 y M g2/\(N<900000000000/\(∀i,i<N->(g i).Ok)/\∀i,i<M->(g2 i).Ok)/\K (.bool (Z8X N g M g2))
 | _=>False
@[irreducible] def ZbC (N:Nat) (g:Nat->ZF) (M:Nat) (g2:Nat->ZF):Bool:=decide (N=M)&&(List.range N).all fun i=>Ux (g i) (g2 i)
@[irreducible] def Vu (a b:TxS):Bool:=(a.num==b.num)&&(Z8X a.N a.ins b.N b.ins&&ZbC a.M a.outs b.M b.outs)
def ZdP (F:TxS->TxS->Bool):ZI:=fun args h K=>Zz none h true 20 args fun a=>match a with
 | [.agg l,.agg l']=>∃a b,Z0j l a/\Z0j l' b/\(a.Ok/\b.Ok)/\K (.bool (F a b))
 | _=>False
mutual
/-- Without names; views may be. -/
def AV.vplain:AV->Bool
 | .top|.bool _|.int _ _|.str _|.ptr none|.eslice|.fslice|.nilslice|.map none|.nilFunc|.nilIface|.arr _ _ _=>true
 | .vints _ _ _|.vrows _ _ _ _|.pview _ _=>true
 | .agg cs=>WM cs
 | .tuple cs=>WM cs
 | .iface _ v=>v.vplain
 | _=>false
def WM:List AV->Bool
 | []=>true
 | v::r=>v.vplain&&WM r
end
mutual
theorem Zh.vplain {E E':Env} (hi:∀a c,E.imm a c->E'.imm a c):∀(v:AV) (r:Value),v.vplain=true->Zh E v r->Zh E' v r
 | .top,r,_,_=>.top r
 | .bool b,r,_,h=>h.plain rfl
 | .int k n,r,_,h=>h.plain rfl
 | .str s,r,_,h=>h.plain rfl
 | .ptr none,r,_,h=>h.plain rfl
 | .eslice,r,_,h=>h.plain rfl
 | .fslice,r,_,h=>h.plain rfl
 | .nilslice,r,_,h=>h.plain rfl
 | .map none,r,_,h=>h.plain rfl
 | .nilFunc,r,_,h=>h.plain rfl
 | .nilIface,r,_,h=>h.plain rfl
 | .arr k n xs,r,_,h=>h.plain rfl
 | .ptr (some p),r,hp,_=>by simp [AV.vplain] at hp
 | .nslice p a b c,r,hp,_=>by simp [AV.vplain] at hp
 | .map (some x),r,hp,_=>by simp [AV.vplain] at hp
 | .func a b c,r,hp,_=>by simp [AV.vplain] at hp
 | .yield x,r,hp,_=>by simp [AV.vplain] at hp
 | .pview cs inn,r,_,h=>by
  cases h with
  | pview cs inn a vs hc hq=>exact .pview cs inn a vs (Zt.mono (⟨fun _ _ h=>by simp [Env.views] at h,hi⟩:E.views.le E'.views) hc) (fun j c h=>hi _ _ (hq j c h))
 | .vints k xs len,r,_,h=>by
  cases h with
  | vintsNil k xs len h1 h2=>exact .vintsNil k xs len h1 h2
  | vints k xs len a cap h1 h2 hq=>exact .vints k xs len a cap h1 h2 (fun i h=>hi _ _ (hq i h))
 | .vrows esz n f len,r,_,h=>by
  cases h with
  | vrowsNil esz n f len h1 h2=>exact .vrowsNil esz n f len h1 h2
  | vrows esz n f len a cap g h1 h2 hc hl hq=>exact .vrows esz n f len a cap g h1 h2 (fun i h=>Zt.mono (⟨fun _ _ h=>by simp [Env.views] at h,hi⟩:E.views.le E'.views) (hc i h)) hl (fun i j c h h'=>hi _ _ (hq i j c h h'))
 | .iface t v,r,hp,h=>by
  cases h with
  | iface t v x hx=>exact .iface t v x (Zh.vplain hi v x (by simpa [AV.vplain] using hp) hx)
 | .agg cs,r,hp,h=>by
  cases h with
  | agg cs vs hc=>exact .agg cs vs (Zt.vplain hi cs vs (by simpa [AV.vplain] using hp) hc)
 | .tuple cs,r,hp,h=>by
  cases h with
  | tuple _ rs hc=>exact .tuple _ rs (ZB.vplain hi cs rs (by simpa [AV.vplain] using hp) hc)
theorem Zt.vplain {E E':Env} (hi:∀a c,E.imm a c->E'.imm a c):∀(l:List AV) (r:List Value),WM l=true->Zt E l r->Zt E' l r
 | [],r,_,h=>by cases h;exact .nil
 | v::l,r,hp,h=>by
  simp only [WM,J2] at hp
  cases h with
  | one v c vs cs h0 h1 hv t=>exact .one v c _ cs h0 h1 (Zh.vplain hi v c hp.1 hv) (Zt.vplain hi l cs hp.2 t)
  | arr k n xs vs cs t=>exact .arr k n xs _ cs (Zt.vplain hi l cs hp.2 t)
theorem ZB.vplain {E E':Env} (hi:∀a c,E.imm a c->E'.imm a c):∀(l:List AV) (r:List Value),WM l=true->ZB E l r->ZB E' l r
 | [],r,_,h=>by cases h;exact .nil
 | v::l,r,hp,h=>by
  simp only [WM,J2] at hp
  cases h with
  | cons v c vs cs hv t=>exact .cons v c _ cs (Zh.vplain hi v c hp.1 hv) (ZB.vplain hi l cs hp.2 t)
end
def XY (R:AV->Prop):KO:=fun o _=>match o with
 | .ret u=>(match u.vplain with|true=>R u|false=>False)
 | .panic _=>False
theorem Z0l {P:Program} {f:FuncId} {h:Z8} {K:AV->Prop} (hp:WM args=true) (hc:Ze P f args ⟨0,[]⟩ (XY R)) (hK:∀u,R u->K u):
  Ze P f args h fun o h'=>∃v,o=.ret v/\h'=h/\K v:=by
 intro E w rs he hr
 have hemb:Emb E.views ⟨0,[]⟩ w:=
  ⟨fun x _=>rfl,fun x B h=>by simp [Z8.get,ZW] at h,fun x B h=>by simp [Z8.get,ZW] at h,fun x y B B' b N N' h=>by simp [Z8.get,ZW] at h,he.imm,fun a c x B N _ h=>by simp [Z8.get,ZW] at h⟩
 refine (hc E.views w rs hemb (ZB.vplain (E:=E) (E':=E.views) (fun _ _ h=>h) _ _ hp hr)).mono ?_
 rintro e w' ⟨E₁,o,h',hK0,hev,hor⟩
 cases hor with
 | panic u r hr=>exact hK0.elim
 | ret u r hr=>
  unfold XY at hK0
  simp only at hK0
  split at hK0
  ·rename_i hu
   have hkeep:∀b,b<w.heap.size->w'.heap[b]? =w.heap[b]?:=fun b hb=>hev.keep b hb (fun ⟨x,B,N,hx,_⟩=>by simp [Z8.get,ZW] at hx)
   have hemb':Emb E h w':=by
    refine ⟨he.fresh,he.lt,fun x B hx=>(he.own x B hx).congr fun b N hb=>hkeep b ((he.own x B hx).lt hb),he.disj,fun a c hi=> ?_,he.sep⟩
    have hcc:=he.imm a c hi
    grind [World.cell?]
   exact ⟨E,.ret u,h,⟨u,rfl,rfl,hK u hK0⟩,⟨.refl E,hemb',hev.size,hev.os,hev.tape,hev.output,fun b hb _=>hkeep b hb,fun b ho=>.inl ho,fun _ _ h=>h⟩,.ret _ _ (Zh.vplain (E:=E₁) (E':=E) (fun a c hi=>hev.imm a c hi) _ _ hu hr)⟩
  simp_all
theorem Xk {G:Zb} (hG:G.Ok) {n:Nat} {f:FuncId} {h:Z8} {K:AV->Prop} (hp:WM args=true) (hc:evF G n f args ⟨0,[]⟩ (XY R)) (hK:∀u,R u->K u):
  Ze G.P f args h fun o h'=>∃v,o=.ret v/\h'=h/\K v:=Z0l hp (Y3 hG hc) hK
end Go.Tk
end
section
namespace Go.Tk
open IntKind (i64 u8 u32 u64 wrap)
inductive Ty where
 | bool
 | int (k:IntKind)
 | str
 | arr (k:IntKind) (n:Nat)
 | ints (k:IntKind)
 | rows (esz:Nat) (ts:List Ty)
def ZdQ (P:Program) (r:TypeId->Option (List Ty)) (sz:Nat):Nat->List Field->Option (List Ty)
 | o,[]=>if o=sz then some [] else none
 | o,f::fs=>if f.offset=o then (r f.type).bind fun a=>(ZdQ P r sz (o+P.cellsOf f.type) fs).bind fun b=>some (a++b) else none
def Z22 (P:Program):Nat->TypeId->Option (List Ty)
 | 0,_=>none
 | m+1,t=>match P.underlying t with
  | some .bool=>some [.bool]
  | some (.int k)=>some [.int k]
  | some .string=>some [.str]
  | some (.array n e)=>match P.underlying e with
   | some (.int k)=>if P.cellsOf t=n/\P.cellsOf e=1 then some [.arr k n] else none
   | _=>(Z22 P m e).bind fun ts=>if P.cellsOf t=n*P.cellsOf e then some (List.replicate n ts).flatten else none
  | some (.slice e)=>match P.underlying e with
   | some (.int k)=>if P.cellsOf e=1 then some [.ints k] else none
   | _=>(Z22 P m e).bind fun ts=>some [.rows (P.cellsOf e) ts]
  | some (.struct fs)=>ZdQ P (Z22 P m) (P.cellsOf t) 0 fs.toList
  | _=>none
mutual
inductive Z1Q:Ty->AV->Prop
 | bool (b:Bool):Z1Q .bool (.bool b)
 | int (k:IntKind) (n:Int) (h:(Lit.int k n).wf=true):Z1Q (.int k) (.int k n)
 | str (s:ByteArray) (h:s.size<=maxLen):Z1Q .str (.str s)
 | arr (k:IntKind) (n:Nat) (xs:LI) (h:xs.length=n) (hw:∀i,i<n->(Lit.int k (xs.getD i 0)).wf=true):Z1Q (.arr k n) (.arr k n xs)
 | ints (k:IntKind) (xs:LI) (n:Nat) (h:xs.length=n) (hm:n<=maxLen) (hw:∀i,i<n->(Lit.int k (xs.getD i 0)).wf=true):Z1Q (.ints k) (.vints k xs n)
 | rows (esz:Nat) (ts:List Ty) (n:Nat) (f:Nat->List AV) (hm:n<=maxLen) (h:∀i,i<n->Fits ts (f i)):Z1Q (.rows esz ts) (.vrows esz n f n)
inductive Fits:List Ty->List AV->Prop
 | nil:Fits [] []
 | cons (t:Ty) (a:AV) (ts:List Ty) (vz:List AV) (h:Z1Q t a) (r:Fits ts vz):Fits (t::ts) (a::vz)
end
theorem Fits.append:∀{ts wz:List Ty} {vz bs:List AV},Fits ts vz->Fits wz bs->Fits (ts++wz) (vz++bs)
 | _,_,_,_,.nil,h=>h
 | _,_,_,_,.cons t a ts vz h r,k=>.cons t a _ _ h (Fits.append r k)
def tE (w:World):Env:=⟨fun _=>none,fun a c=>w.cell? a=some c⟩
section
variable {H:Type} {enc:TypeId×Value->H} {P:Program} {w:World} {sp:Nat->Bool} {held:Bool}
theorem QR {k:IntKind} {n:Nat} {cs:List Value} (hl:cs.length=n) (h:∀i,i<n->∃z,cs[i]? =some (.int k z)/\(Lit.int k z).wf=true):
  ∃xs:LI,xs.length=n/\(∀i,i<n->(Lit.int k (xs.getD i 0)).wf=true)/\∀i,i<n->cs[i]? =some (.int k (xs.getD i 0)):=by
 refine ⟨cs.map fun v=>match v with|.int _ z=>z|_=>0,by simp [hl],fun i hi=> ?_,fun i hi=> ?_⟩
 all_goals grind
theorem ZgK {α β:Type} {n:Nat} {p:Nat->α->β->Prop} [Inhabited α] [Inhabited β] (h:∀i,i<n->∃a b,p i a b):∃(f:Nat->α) (g:Nat->β),∀i,i<n->p i (f i) (g i):=
 ⟨fun i=>if hi:i<n then Classical.choose (h i hi) else default,fun i=>if hi:i<n then Classical.choose (Classical.choose_spec (h i hi)) else default,fun i hi=>by
  grind⟩
theorem Z2e:∀(m:Nat) (t:TypeId) (ts:List Ty),Z22 P m t=some ts->∀(fuel:Nat) (cs:List Value) (x:DataW H×List MemPlace),DataW.trod enc P w 0 sp held fuel t cs=some x->∃vz,Fits ts vz/\Zt (tE w) vz cs
 | 0,_,_,ht=>by simp [Z22] at ht
 | m+1,t,ts,ht=>by
  intro fuel cs x hx
  unfold Z22 at ht
  split at ht
  ·rename_i hu
   cases ht
   obtain ⟨b,rfl,_⟩:=DataW.trod_bool hu hx
   exact ⟨[.bool b],.cons _ _ _ _ (.bool b) .nil,.one _ _ _ _ rfl rfl (.bool b) .nil⟩
  ·rename_i k hu
   cases ht
   obtain ⟨n,rfl,_,hw⟩:=DataW.trod_int hu hx
   exact ⟨[.int k n],.cons _ _ _ _ (.int k n hw) .nil,.one _ _ _ _ rfl rfl (.int k n) .nil⟩
  ·rename_i hu
   cases ht
   obtain ⟨s,rfl,_,hw⟩:=DataW.trod_string hu hx
   exact ⟨[.str s],.cons _ _ _ _ (.str s hw) .nil,.one _ _ _ _ rfl rfl (.str s) .nil⟩
  ·rename_i n e hu
   split at ht
   ·rename_i k he
    split at ht
    ·rename_i hc
     obtain ⟨hc,h1⟩:=hc
     cases ht
     obtain ⟨xs,q,rfl,rfl,hl,hn,hi⟩:=DataW.trod_array hu hx
     rw [hc] at hl
     obtain ⟨zs,z1,z2,z3⟩:=QR (k:=k) hl fun i hlt=>by
      have:=hi i hlt
      rw [Ja (by omega),h1] at this
      obtain ⟨z,e1,_,e2⟩:=DataW.trod_int he this
      refine ⟨z, ?_,e2⟩
      rw [JU] at e1
      have:=congrArg (fun l=>l[0]?) e1
      grind
     refine ⟨[.arr k n zs],.cons _ _ _ _ (.arr k n zs z1 z2) .nil, ?_⟩
     have:cs=intCells k n zs++[]:=by
      rw [JN]
      refine Kp fun i=> ?_
      grind [intCells]
     rw [this]
     exact .arr _ _ _ _ _ .nil
    ·cases ht
   ·obtain ⟨es,e1,e2⟩:=Js.1 ht
    split at e2
    ·rename_i hc
     cases e2
     obtain ⟨xs,q,rfl,rfl,hl,hn,hi⟩:=DataW.trod_array hu hx
     rw [hc] at hl
     have key:∀j,j<=n->∃vz,Fits (List.replicate j es).flatten vz/\Zt (tE w) vz (cs.take (j*P.cellsOf e)):=by
      intro j
      induction j with
      | zero=>intro _;exact ⟨[],.nil,by simp;exact .nil⟩
      | succ j ih=>
       intro hj
       obtain ⟨vz,f1,f2⟩:=ih (by omega)
       have:=hi j (by omega)
       rw [Ja (by omega)] at this
       obtain ⟨bs,p1,p2⟩:=Z2e m _ _ e1 _ _ _ this
       refine ⟨vz++bs, ?_, ?_⟩
       ·rw [List.replicate_succ',List.flatten_append,List.flatten_singleton]
        exact f1.append p1
       ·rw [Nat.succ_mul,List.take_add]
        exact f2.append p2
     obtain ⟨vz,f1,f2⟩:=key n (J4 _)
     rw [Jv (by omega)] at f2
     grind
    ·cases e2
  ·rename_i e hu
   split at ht
   ·rename_i k he
    split at ht
    ·rename_i hc
     cases ht
     rcases DataW.trod_slice hu hx with ⟨rfl,_⟩|⟨a,len,cap,elems,rest,n,rfl,rfl,_,_,hl,hm,hlen,hi,_,_⟩
     ·exact ⟨[.vints k [] 0],.cons _ _ _ _ (.ints k [] 0 rfl (JF _) fun i hi=>absurd hi (K6 i)) .nil,.one _ _ _ _ rfl rfl (.vintsNil _ _ _ rfl rfl) .nil⟩
     ·obtain ⟨zs,z1,z2,z3⟩:=QR (k:=k) (n:=len) (cs:=(List.range len).map fun i=>(w.cell? (a.add i)).getD undef) (by simp) fun i hlt=>by
       have:=hi i hlt
       rw [Ja (by omega),hc,JU] at this
       obtain ⟨cs',h1,h2⟩:=Js.1 this
       grind [DataW.trod_int,Go.ChangeShapes.cell_of_cells?_one]
      refine ⟨[.vints k zs len],.cons _ _ _ _ (.ints k zs len z1 (by omega) z2) .nil,.one _ _ _ _ rfl rfl (.vints k zs len a cap (by omega) (by omega) fun i hlt=> ?_) .nil⟩
      rw [z1] at hlt
      have:=hi i hlt
      rw [Ja (by omega),hc,JU] at this
      obtain ⟨cs',h1,h2⟩:=Js.1 this
      obtain ⟨z,rfl,_,e2⟩:=DataW.trod_int he h2
      have h3:=z3 i hlt
      have h4:=Go.ChangeShapes.cell_of_cells?_one h1
      simp [hlt,h4] at h3
      show w.cell? (a.add i)=_
      rw [h4,h3,J3]
    ·cases ht
   ·obtain ⟨es,h1,h2⟩:=Js.1 ht
    cases h2
    rcases DataW.trod_slice hu hx with ⟨rfl,_⟩|⟨a,len,cap,elems,rest,n,rfl,rfl,_,_,hl,hm,hlen,hi,_,_⟩
    ·exact ⟨[.vrows (P.cellsOf e) 0 (fun _=>[]) 0],.cons _ _ _ _ (.rows _ _ 0 _ (JF _) fun i hi=>absurd hi (K6 i)) .nil,.one _ _ _ _ rfl rfl (.vrowsNil _ _ _ _ rfl rfl) .nil⟩
    ·obtain ⟨f,g,hfg⟩:=ZgK (n:=len) (p:=fun i (vz:List AV) (vs:List Value)=>Fits es vz/\Zt (tE w) vz vs/\w.cells? 0 (a.add (i*P.cellsOf e)) (P.cellsOf e)=some vs) fun i hlt=>by
      have:=hi i hlt
      rw [Ja (by omega)] at this
      obtain ⟨cs',k1,k2⟩:=Js.1 this
      obtain ⟨vz,f1,f2⟩:=Z2e m _ _ h1 _ _ _ k2
      exact ⟨vz,cs',f1,f2,k1⟩
     refine ⟨[.vrows (P.cellsOf e) len f len],.cons _ _ _ _ (.rows _ _ len f (by omega) fun i hlt=>(hfg i hlt).1) .nil,.one _ _ _ _ rfl rfl (.vrows _ _ _ _ a cap g (J4 _) hl (fun i hlt=>(hfg i hlt).2.1) (fun i hlt=>(World.cells?_some (hfg i hlt).2.2).2.1) fun i j c hlt hj=> ?_) .nil⟩
     obtain ⟨_,hl',hc'⟩:=World.cells?_some (hfg i hlt).2.2
     have hj':j<P.cellsOf e:=by
      grind
     have:=hc' j hj'
     rw [hj] at this
     show w.cell? (a.add (i*P.cellsOf e+j))=some c
     rw [<-this]
     rw [Addr.add_add]
  ·rename_i fs hu
   obtain ⟨xs,n,rfl,rfl,hl,hn,hf⟩:=DataW.trod_struct hu hx
   have key:∀(l:List Field) (o:Nat) (ts:List Ty) (i0:Nat),ZdQ P (Z22 P m) (P.cellsOf t) o l=some ts->(∀i f,l[i]? =some f->fs[i0+i]? =some f)->∃vz,Fits ts vz/\Zt (tE w) vz (cs.drop o):=by
    intro l
    induction l with
    | nil=>
     intro o ts i0 h _
     unfold ZdQ at h
     split at h
     ·cases h
      exact ⟨[],.nil,by rw [JQ (by omega)];exact .nil⟩
     ·cases h
    | cons f l ih=>
     intro o ts i0 h hl'
     unfold ZdQ at h
     split at h
     ·rename_i ho
      obtain ⟨a,h1,h2⟩:=Js.1 h
      obtain ⟨b,h3,h4⟩:=Js.1 h2
      cases h4
      have h0:fs[i0]? =some f:=hl' 0 f rfl
      have hlt:i0<fs.size:=by
       grind
      have k:=hf i0 f h0
      rw [Ja (by omega),ho] at k
      obtain ⟨vz,p1,p2⟩:=Z2e m _ _ h1 _ _ _ k
      obtain ⟨bs,q1,q2⟩:=ih (o+P.cellsOf f.type) b (i0+1) h3 fun i g hg=>by
       have:=hl' (i+1) g hg
       grind
      refine ⟨vz++bs,p1.append q1, ?_⟩
      have e:cs.drop o=(cs.drop o).take (P.cellsOf f.type)++cs.drop (o+P.cellsOf f.type):=by
       rw [<-List.drop_drop,List.take_append_drop]
      rw [e]
      exact p2.append q2
     ·cases h
   obtain ⟨vz,h1,h2⟩:=key fs.toList 0 ts 0 ht fun i f h=>by simp_all
   grind
  ·cases ht
def isAgg (P:Program) (t:TypeId):Bool:=match P.underlying t with
 | some (.struct _)|some (.array _ _)=>true
 | _=>false
inductive Z3u:Bool->List Ty->AV->Prop
 | agg (ts:List Ty) (vz:List AV) (h:Fits ts vz):Z3u true ts (.agg vz)
 | one (t:Ty) (a:AV) (h:Z1Q t a):Z3u false [t] a
theorem ZdR {m:Nat} {t:TypeId} {ts:List Ty} (ht:Z22 P m t=some ts) (hg:isAgg P t=false) {v:Value} {r:Reach} {b:Nat} (hv:Value.okWide P w r b t v):
  v.cells.toList=[v]/\∃τ,ts=[τ]/\∀k n,τ≠.arr k n:=by
 cases m with
 | zero=>simp [Z22] at ht
 | succ m=>
  unfold Z22 at ht
  unfold isAgg at hg
  split at ht
  ·rename_i hu;cases ht;obtain ⟨b,rfl⟩:=Go.WideShapes.okWide_bool hu hv;exact ⟨rfl,_,rfl,fun _ _ h=>by cases h⟩
  ·rename_i hu;cases ht;obtain ⟨b,rfl⟩:=Go.WideShapes.okWide_int hu hv;exact ⟨rfl,_,rfl,fun _ _ h=>by cases h⟩
  ·rename_i hu;cases ht;obtain ⟨b,rfl⟩:=Go.WideShapes.okWide_string hu hv;exact ⟨rfl,_,rfl,fun _ _ h=>by cases h⟩
  ·simp_all
  ·rename_i hu
   obtain ⟨a,l,c,rfl⟩:=Go.WideShapes.okWide_slice hu hv
   split at ht
   ·split at ht
    ·cases ht;exact ⟨rfl,_,rfl,fun _ _ h=>by cases h⟩
    ·cases ht
   ·obtain ⟨es,h1,h2⟩:=Js.1 ht
    cases h2;exact ⟨rfl,_,rfl,fun _ _ h=>by cases h⟩
  all_goals simp_all
theorem ZdS {m:Nat} {t:TypeId} {ts:List Ty} {g:Bool} (ht:Z22 P m t=some ts) (hg:isAgg P t=g) {v:Value} {r:Reach} {b:Nat} (hv:Value.okWide P w r b t v) {d:DataW H} {ps:List MemPlace} (h:DataW.Trod enc P w 0 sp held t v d ps):
  ∃a,Z3u g ts a/\Zh (tE w) a v:=by
 obtain ⟨fuel,hf⟩:=h
 obtain ⟨vz,f1,f2⟩:=Z2e m _ _ ht _ _ _ hf
 cases g with
 | true=>
  have:∃cs,v=.agg cs:=by
   grind [isAgg,Value.okWide]
  obtain ⟨cs,rfl⟩:=this
  refine ⟨.agg vz,.agg _ _ f1, ?_⟩
  exact .agg _ _ f2
 | false=>
  obtain ⟨h1,τ,rfl,h2⟩:=ZdR ht hg hv
  rw [h1] at f2
  cases f1 with
  | cons _ a _ vz f r=>
   generalize hL:[v]=L at f2
   cases f2 with
   | one _ _ _ _ h0 h1 h t=>cases hL;exact ⟨_,.one _ _ f,h⟩
   | arr k n xs _ cs t=>cases f;simp_all
end
end Go.Tk
end
section
namespace Go.Tk
open IntKind (i64 u8 u32 u64 wrap)
open Go.ChangeShapes Go.WideShapes Go.RowKit
theorem Zjv (w:World):Emb (tE w) ⟨0,[]⟩ w where
 fresh:=fun _ _=>rfl
 lt:=fun x B h=>by simp [Z8.get,ZW] at h
 own:=fun x B h=>by simp [Z8.get,ZW] at h
 disj:=fun x y B B' b N N' h=>absurd h (by simp [Z8.get,ZW])
 imm:=fun _ _ h=>h
 sep:=fun a c x B N _ h=>absurd h (by simp [Z8.get,ZW])
theorem Ze.topT {P:Program} {f:FuncId} {args:List AV} (h:Ze P f args ⟨0,[]⟩ fun o h'=>∃v,o=.ret v/\h'=⟨0,[]⟩/\v=.bool true) {w:World} {rs:List Value} (hl:ZB (tE w) args rs):
  Calls P f rs.toArray w fun e w'=>e=.returned (.bool true)/\Go.RowKit.Below w.heap.size w w':=by
 refine (h (tE w) w rs (Zjv w) hl).mono ?_
 rintro e w' ⟨E',o,h',⟨v,rfl,rfl,hv⟩,hev,hor⟩
 obtain rfl:=hv
 cases hor with
 | ret v r hr=>
  cases hr
  refine ⟨rfl,hev.os,hev.tape,hev.output.1,hev.size,fun k hk=>hev.keep k hk ?_⟩
  rintro ⟨x,B,N,hx,_⟩
  exact absurd hx (by simp [Z8.get,ZW])
def Z8Y (P:Program) (m:Nat):List TypeId->Option (List (Bool×List Ty))
 | []=>some []
 | t::r=>(Z22 P m t).bind fun a=>(Z8Y P m r).bind fun b=>some ((isAgg P t,a)::b)
inductive Z4S:List (Bool×List Ty)->List AV->Prop
 | nil:Z4S [] []
 | cons (g:Bool) (ts:List Ty) (a:AV) (r:List (Bool×List Ty)) (vz:List AV) (h:Z3u g ts a) (k:Z4S r vz):Z4S ((g,ts)::r) (a::vz)
section
variable {H:Type} {enc:TypeId×Value->H} {P:Program} {w:World}
theorem Z4T {m:Nat} {r:Reach} {b:Nat}:∀{ts:List TypeId} {τs:List (Bool×List Ty)} {vs:List Value} {ds:List (DataW H)} {ps:List MemPlace},Z8Y P m ts=some τs->(∀(j:Nat) t v,ts[j]? =some t->vs[j]? =some v->Value.okWide P w r b t v)->
  DataW.TrodAll enc P w 0 (fun _=>true) true ts vs ds ps->∃vz,Z4S τs vz/\ZB (tE w) vz vs
 | [],τs,vs,ds,ps,ha,_,h=>by
  cases ha
  obtain ⟨rfl,_,_⟩:=trodAll_nil h
  exact ⟨[],.nil,.nil⟩
 | t::ts,τs,vs,ds,ps,ha,hv,h=>by
  obtain ⟨a,h1,h2⟩:=Js.1 ha
  obtain ⟨c,h3,h4⟩:=Js.1 h2
  cases h4
  obtain ⟨v,vs',d,ds',p,q,rfl,rfl,rfl,k1,k2⟩:=trodAll_cons h
  obtain ⟨x,f1,f2⟩:=ZdS h1 rfl (hv 0 t v rfl rfl) k1
  obtain ⟨vz,g1,g2⟩:=Z4T h3 (fun j t' v' e1 e2=>hv (j+1) t' v' e1 e2) k2
  exact ⟨x::vz,.cons _ _ _ _ _ f1 g1,.cons _ _ _ _ f2 g2⟩
theorem Z1R {sp:Nat->Bool} {held:Bool}:∀{ts:List TypeId} {vs:List Value} {ds:List (DataW H)} {ps:List MemPlace},DataW.TrodAll enc P w 0 sp held ts vs ds ps->ds.length=ts.length
 | [],_,_,_,h=>by obtain ⟨_,rfl,_⟩:=trodAll_nil h;rfl
 | t::ts,_,_,_,h=>by
  obtain ⟨v,vs',d,ds',p,q,rfl,rfl,rfl,k1,k2⟩:=trodAll_cons h
  simp [Z1R k2]
theorem Z4U {W':World} (laid:laidOutB P=true) (hb:Below w.heap.size w W'):∀{ts:List TypeId} {vs:List Value} {ds:List (DataW H)} {ps:List MemPlace},ts.all (fun t=>P.readableRec t&&decide (t<P.types.size))=true->
  DataW.TrodAll enc P w 0 (fun _=>true) true ts vs ds ps->DataW.TrodAll enc P W' 0 (fun b=>decide (b<w.heap.size)) true ts vs ds ps
 | [],_,_,_,_,h=>by obtain ⟨rfl,rfl,rfl⟩:=trodAll_nil h;exact trodAll_mk0
 | t::ts,_,_,_,hr,h=>by
  obtain ⟨v,vs',d,ds',p,q,rfl,rfl,rfl,k1,k2⟩:=trodAll_cons h
  simp only [List.all_cons,J2,decide_eq_true_eq] at hr
  have lt:∀x∈p,x.block<w.heap.size:=by obtain ⟨m,hm⟩:=k1;exact DataW.trod_lt m _ _ _ hm
  exact trodAll_cons_mk (Below.trod laid hr.1.1 hr.1.2 k1 hb lt) (Z4U laid hb hr.2 k2)
end
theorem lifted_gen {H:Type} {enc:TypeId×Value->H} {C:Checked} {os:Os} {f:FuncId} {fn:Func} {s:ChangeSpec} {conds:List PathCond} {tb:TypeId} {m:Nat} {τs:List (Bool×List Ty)}
  (own:ownKnob C.prog.godebug=none) (laid:laidOutB C.prog=true) (started:os.Started) (noInit:C.prog.inits.idxOf? f=none) (hfn:C.prog.funcs[f]? =some fn)
  (witness:∃(w:World) (tape:Tape) (i:Input),w.os=os/\(w.forCall tape i).Shaped C.prog/\i.vars=[]/\Input.okWide C.prog (w.forCall tape i) .any w.heap.size f i/\
   s.pre6 enc C.prog fn conds false (w.forCall tape i).memory i.args/\({}:Assume).holds C.prog (lone (Frame.enter C.prog f i.args .normal) [] (w.forCall tape i)))
  (hvars:s.vars=[]) (hr:fn.resultTypes= #[tb]) (hb:C.prog.underlying tb=some .bool) (hread:fn.params.toList.all (fun t=>C.prog.readableRec t&&decide (t<C.prog.types.size))=true) (hτ:Z8Y C.prog m fn.params.toList=some τs)
  (hs:∀ds:List (DataW H),ds.length=fn.params.toList.length->s.fn H ds={ results:=[.lit (.bool true)],args:=ds})
  (walk:∀vz,Z4S τs vz->Ze C.prog f vz ⟨0,[]⟩ fun o h'=>∃v,o=.ret v/\h'=⟨0,[]⟩/\v=.bool true):
  ReturnsInHanded {} C os f .any (s.pre6 enc C.prog fn conds false) (s.post enc C.prog fn false true false false):=by
 refine returnsInHanded_of_change own started noInit hfn witness ?_
 intro W base args ds gs before hval hW _ _
 have hW':=hW
 obtain ⟨p,q,hA,hV,rfl,hfz,hnd⟩:=hW
 rw [hvars] at hV
 obtain ⟨rfl,rfl⟩:=trodVars_none hV
 obtain ⟨vz,f1,f2⟩:=Z4T hτ (fun j t v e1 e2=>hval j t v (by simp_all) (by simp_all)) hA
 have key:=(walk vz f1).topT f2
 refine key.mono fun e W' ⟨he,bel⟩=> ?_
 subst he
 have hfn':=hs ds (Z1R hA)
 refine ⟨_,rfl,ds,[],_,[],p,[],hW', ?_, ?_, ?_,bel.frame _,fun h=>by cases h⟩
 ·rw [JN,hfn',hr]
  exact trodAll_mk1 (shut_bool hb _)
 ·rw [JN,hfn']
  exact Z4U laid bel hread hA
 ·rw [JN,hfn',hvars]
  rfl
end Go.Tk
end
section
namespace Go.Tk
open IntKind (i64 u8 u32 u64 wrap)
variable {xs:LI}
theorem YG.join {P:Program} {k:Nat} {ro:Option Nat} {c:Code} {s:St} {X Y:KE} (h:YG P k ro c s Y) (hxy:∀e s',Y e s'->∃s₂,e=.normal/\Z0I k s' s₂/\X .normal s₂):YG P k ro c s X:=by
 intro E0 h0 w0 E a w n hk hs hev
 refine wpIn_mono (h E0 h0 w0 E a w n hk hs hev) ?_
 rintro e a' w' ⟨E',x,s',hx,hev',hs',he⟩
 obtain ⟨s₂,rfl,hw,hX⟩:=hxy x s' hx
 obtain ⟨E₂,hs₂,hev₂⟩:=hw E0 h0 w0 E' a' w' hk hs' hev'
 cases he
 exact ⟨E₂,_,s₂,hX,hev₂,hs₂,.normal⟩
def Z5T (P:Program) (f:FuncId) (id:Nat):Bool:=match P.funcs[f]? with
 | some fn=>match fn.body with
  | some b=>match Ul id (Zx b) with|[_]=>true|_=>false
  | none=>false
 | none=>false
theorem ZbD {P:Program} {f:FuncId} {id:Nat} (h:Z5T P f id=true) {fn:Func} {body c:Code} (hf:P.funcs[f]? =some fn) (hb:fn.body=some body) (hm:(id,c)∈Zx body):c=Um P f id:=by
 have hc:=Vp hm
 grind [Z5T,Z1j,Um]
@[irreducible] def Zad (G:Zb) (n:Nat) (f:FuncId) (id:Nat) (k:Nat) (s:St) (X:KE):Prop:=evC G (Z44 G n f none) k (Um G.P f id) s X
def jnM (k:Nat) (S1:St):KE:=fun e s=>match e with
 | .normal=>QQ k S1 s True
 | _=>False
theorem w8m (x:Int) (h:0<=x):u8.wrap (Int.tmod x 256)=u8.wrap x:=by
 rw [tm h]
 unfold wrap
 simp [IntKind.bits,IntKind.signed]
theorem ZgL {n k:Int} (h:0<=n):0<=Zr .i64 n k:=by
 unfold Zr
 rw [Kc _ (by exact Int.le_of_lt (Int.pow_pos (by decide)))]
 exact Int.ediv_nonneg h (by exact Int.le_of_lt (Int.pow_pos (by decide)))
theorem b8m {n k:Int} (h:0<=n):u8.wrap (Int.tmod (Zr .i64 n k) 256)=b8 n k:=w8m _ (ZgL h)
theorem Zjw (n:Int) (ys:LI) (L:Nat) (hn:0<=n) (hy:ys=Zn n) (hL:L=ys.length):
  evF G0 20 137 [.int .i64 n] ⟨0,[]⟩ (ZH 0 (.ret (.nslice ⟨0,0,0,0,0⟩ 1 L L)) 1 [(0,.ints .u8 ys)]):=by
 refine @Eq.mpr _ (let b:=[wrap u8 (Int.tmod (Zr i64 n 8) 256),wrap u8 (Int.tmod (Zr i64 n 0) 256)];let a:=wrap u8 (Int.tmod (Zr i64 n 24) 256)::wrap u8 (Int.tmod (Zr i64 n 16) 256)::b;
 Z5 (decide (n<253)) (Z7 (1=L) (Z7 (L<=1) ([wrap u8 n]=ys/\True))) (Z5 (decide (n<65536)) (Z7 (3=L) (Z7 (L<=3) ((253:Int)::b=ys/\True))) (Z5 (decide (n<4294967296)) (Z7 (5=L) (Z7 (L<=5) ((254:Int)::a=ys/\True))) (Z7 (9=L) (Z7 (L<=9) ((255:Int)::wrap u8 (Int.tmod (Zr i64 n 56) 256)::wrap u8 (Int.tmod (Zr i64 n 48) 256)::wrap u8 (Int.tmod (Zr i64 n 40) 256)::wrap u8 (Int.tmod (Zr i64 n 32) 256)::a=ys/\True)))))) (by kernel_rfl) ?_
 conv=>zeta
 try simp only [vcA]
 try simp only [vcB]
 try simp only [vcC]
 subst hy hL
 refine ⟨fun h1=> ?_,fun h1=>⟨fun h2=> ?_,fun h2=>⟨fun h3=> ?_,fun h3=> ?_⟩⟩⟩
 ·rw [Z7b h1];simp
 ·rw [Za8 h1 h2];simp [b8m hn]
 ·rw [Za9 h1 h2 h3];simp [b8m hn]
 ·rw [Zaa h1 h2 h3];simp [b8m hn]
def Zae (W:Int->LI):ZO:=fun args h K=>match args with
 | [.int .i64 n]=>Z7 (0<=n) (K (.ret (.nslice ⟨h.next,0,0,0,0⟩ 1 (W n).length (W n).length)) ⟨h.next+1,(h.next,.ints .u8 (W n))::h.bs⟩)
 | _=>False
theorem Z7e (args:List AV) (h:Z8) (K:KO) (hl:Zae Zn args h K):Ze PP 137 args h K:=by
 unfold Zae at hl
 split at hl
 ·obtain ⟨hn,hK⟩:=Zd hl
  exact (Zs.evM Zm (Zjw _ _ _ hn rfl rfl)).calls (fun E w rs he hr=>by
   cases hr with
   | cons v r vs rs h1 h2=>cases h2;exact .cons _ _ _ _ (h1.plain rfl) .nil) rfl ⟨JH,.ints _ _,trivial⟩ hK
 ·exact hl.elim
def Q8:Nat->LI->Nat->Int->Int
 | 0,_,_,n=>n
 | m+1,xs,k,n=>Q8 m xs (k+1) (256*n+xs.getD k 0)
structure Bytes (xs:LI):Prop where
 h:∀i:Nat,0<=xs.getD i 0/\xs.getD i 0<=255
theorem Bytes.drop (h:Bytes xs) (n:Nat):Bytes (xs.drop n):=⟨fun i=>by
 have:=h.h (n+i)
 rw [J3] at this
 rw [J3,JD]
 exact this⟩
def inZ:InS:=⟨Z0,0,0,Z0,Z0,Z0⟩
def Zoe:ZF:=⟨0,0,Z0,Z0,Z0,Z0,0,0⟩
theorem ZlX (x:InS) (b:Bool) (hx:x.Ok) (hb:b=Y9 x):
  evF G0 20 263 [.agg x.c] ⟨0,[]⟩ (XY (fun v=>v=.bool b)):=by
 refine @Eq.mpr _ (let j:=x.way;let L:=j==1;let r:=j==4;let e:=decide (j>=1);let d:=decide (j<=6);let o:=x.name;let c:=decide (o.length=32/\o.length=32);let k:=x.tag;let n:=decide (k.length=32/\k.length=32);let m:=x.also;let z:=decide (m.length=32/\m.length=32);let l:=x.secret;let y:=decide (l.length=32/\l.length=32);let i:=o==o;let w:=x.index;let h:=w==w;let g:=j==j;let v:=k==k;let M:=m==m;let K:=l==l;let J:=M&&K;let a:=AV.bool false=AV.bool b;let f:=Z5 (decide (w>=0)) (AV.bool (decide (w<24))=AV.bool b) a;let I:=Z5 e (Z5 d (Z5 c (Z5 n (Z5 z (Z5 y (Z5 (i&&(h&&(g&&(v&&J)))) f a) False) False) False) False) a) a;let u:=j==5;let t:=decide (l.length=32/\(32:Nat)=32);let H:=l==Z0;let G:=M&&H;let s:=decide (m.length=32/\(32:Nat)=32);let F:=m==Z0;let E:=F&&K;let D:=Z5 e (Z5 d (Z5 c (Z5 n (Z5 s (Z5 y (Z5 (i&&(h&&(g&&(v&&E)))) f a) False) False) False) False) a) a;let C:=F&&H;let q:=decide (k.length=32/\(32:Nat)=32);let p:=k==Z0;let B:=Z5 e (Z5 d (Z5 c (Z5 q (Z5 z (Z5 y (Z5 (i&&(h&&(g&&(p&&J)))) f a) False) False) False) False) a) a;let A:=Z5 e (Z5 d (Z5 c (Z5 q (Z5 s (Z5 y (Z5 (i&&(h&&(g&&(p&&E)))) f a) False) False) False) False) a) a;
 Z5 (j !=4) (Z5 L (Z5 r I (Z5 u I (Z5 e (Z5 d (Z5 c (Z5 n (Z5 z (Z5 t (Z5 (i&&(h&&(g&&(v&&G)))) f a) False) False) False) False) a) a))) (Z5 r D (Z5 u D (Z5 e (Z5 d (Z5 c (Z5 n (Z5 s (Z5 t (Z5 (i&&(h&&(g&&(v&&C)))) f a) False) False) False) False) a) a)))) (Z5 L (Z5 r B (Z5 u B (Z5 e (Z5 d (Z5 c (Z5 q (Z5 z (Z5 t (Z5 (i&&(h&&(g&&(p&&G)))) f a) False) False) False) False) a) a))) (Z5 r A (Z5 u A (Z5 e (Z5 d (Z5 c (Z5 q (Z5 s (Z5 t (Z5 (i&&(h&&(g&&(p&&C)))) f a) False) False) False) False) a) a))))) (by kernel_rfl) ?_
 conv=>zeta
 obtain ⟨h1,h2,h3,h4⟩:=hx
 subst hb
 have hz:[(0:Int),0,0,0,0,0,0,0,0,0,0,0,0,0,0,0,0,0,0,0,0,0,0,0,0,0,0,0,0,0,0,0]=Z0:=rfl
 simp only [hz,Z0P]
 unfold Y9
 generalize (x.secret==Z0)=bs
 generalize (x.also==Z0)=ba
 generalize (x.tag==Z0)=bt
 by_cases w1:x.way=1
 ·cases bs<;>simp [w1,h1,h2,h3,h4]<;>first|omega|grind
 by_cases w2:x.way=2
 ·cases bs<;>cases ba<;>simp [w2,h1,h2,h3,h4]<;>first|omega|grind
 by_cases w3:x.way=3
 ·cases bs<;>cases ba<;>simp [w3,h1,h2,h3,h4]<;>first|omega|grind
 by_cases w4:x.way=4
 ·cases bt<;>cases ba<;>simp [w4,h1,h2,h3,h4]<;>first|omega|grind
 by_cases w5:x.way=5
 ·cases ba<;>simp [w5,h1,h2,h3,h4]<;>first|omega|grind
 by_cases w6:x.way=6
 ·cases bs<;>cases ba<;>simp [w6,h1,h2,h3,h4]<;>first|omega|grind
 cases bs<;>cases ba<;>simp [w1,w2,w3,w4,w5,w6,h1,h2,h3,h4]<;>first|omega|grind
theorem Z2f {a b:Int} (ha:0<=a/\a<256) (hb:0<=b/\b<256):(V0 a=V0 b↔a=b)/\(V0 a<V0 b↔a<b):=by
 unfold V0
 rw [<-UInt8.toNat_inj,UInt8.lt_iff_toNat_lt]
 simp only [UInt8.toNat_ofNat']
 omega
theorem Bytes.getD (h:Bytes xs) (i:Nat):0<=xs.getD i 0/\xs.getD i 0<256:=by
 have:=h.h i
 omega
theorem Zjx {x y:LI} {b:Bool} {i:Nat} {P:Prop} (hx:i<x.length) (hy:i<y.length) (bx:Bytes x) (yb:Bytes y) (hb:b=decide (X7 (x.drop i) (y.drop i)>0)) (hP:b=decide (X7 (x.drop (i+1)) (y.drop (i+1))>0)->P):
  Z5 (x.getD i 0 !=y.getD i 0) (AV.bool (decide (x.getD i 0>y.getD i 0))=AV.bool b) P:=by
 have e1:x.drop i=x.getD i 0::x.drop (i+1):=by rw [JC hx];simp [J3,hx]
 have e2:y.drop i=y.getD i 0::y.drop (i+1):=by rw [JC hy];simp [J3,hy]
 rw [e1,e2] at hb
 have k1:=Z2f (bx.getD i) (yb.getD i)
 have k2:=Z2f (yb.getD i) (bx.getD i)
 generalize x.getD i 0=u at*
 generalize y.getD i 0=v at*
 simp only [X7,K7,Lib.compareBytes,k1.2,k2.2] at hb
 rw [Z0P]
 constructor
 ·intro h
  have h:u≠v:=by simpa using h
  rw [hb]
  by_cases h1:u<v
  ·simp [h1];omega
  ·have:v<u:=by omega
   simp [this,h1]
 ·intro h
  have h:u=v:=by simpa using h
  subst h
  simp only [Int.lt_irrefl,if_false] at hb
  exact hP hb
theorem ZlY (x y:LI) (b:Bool) (hx:x.length=32) (hy:y.length=32) (bx:Bytes x) (yb:Bytes y) (hb:b=decide (X7 (x.drop 0) (y.drop 0)>0)):
  evF G0 20 286 [.agg [.arr .u8 32 x],.agg [.arr .u8 32 y]] ⟨0,[]⟩ (XY (fun v=>v=.bool b)):=by
 refine @Eq.mpr _ (let a:=AV.bool b;
 Z5 (List.getD x 0 0 !=List.getD y 0 0) (AV.bool (decide (List.getD x 0 0>List.getD y 0 0))=a)
 (Z5 (List.getD x 1 0 !=List.getD y 1 0) (AV.bool (decide (List.getD x 1 0>List.getD y 1 0))=a)
 (Z5 (List.getD x 2 0 !=List.getD y 2 0) (AV.bool (decide (List.getD x 2 0>List.getD y 2 0))=a)
 (Z5 (List.getD x 3 0 !=List.getD y 3 0) (AV.bool (decide (List.getD x 3 0>List.getD y 3 0))=a)
 (Z5 (List.getD x 4 0 !=List.getD y 4 0) (AV.bool (decide (List.getD x 4 0>List.getD y 4 0))=a)
 (Z5 (List.getD x 5 0 !=List.getD y 5 0) (AV.bool (decide (List.getD x 5 0>List.getD y 5 0))=a)
 (Z5 (List.getD x 6 0 !=List.getD y 6 0) (AV.bool (decide (List.getD x 6 0>List.getD y 6 0))=a)
 (Z5 (List.getD x 7 0 !=List.getD y 7 0) (AV.bool (decide (List.getD x 7 0>List.getD y 7 0))=a)
 (Z5 (List.getD x 8 0 !=List.getD y 8 0) (AV.bool (decide (List.getD x 8 0>List.getD y 8 0))=a)
 (Z5 (List.getD x 9 0 !=List.getD y 9 0) (AV.bool (decide (List.getD x 9 0>List.getD y 9 0))=a)
 (Z5 (List.getD x 10 0 !=List.getD y 10 0) (AV.bool (decide (List.getD x 10 0>List.getD y 10 0))=a)
 (Z5 (List.getD x 11 0 !=List.getD y 11 0) (AV.bool (decide (List.getD x 11 0>List.getD y 11 0))=a)
 (Z5 (List.getD x 12 0 !=List.getD y 12 0) (AV.bool (decide (List.getD x 12 0>List.getD y 12 0))=a)
 (Z5 (List.getD x 13 0 !=List.getD y 13 0) (AV.bool (decide (List.getD x 13 0>List.getD y 13 0))=a)
 (Z5 (List.getD x 14 0 !=List.getD y 14 0) (AV.bool (decide (List.getD x 14 0>List.getD y 14 0))=a)
 (Z5 (List.getD x 15 0 !=List.getD y 15 0) (AV.bool (decide (List.getD x 15 0>List.getD y 15 0))=a)
 (Z5 (List.getD x 16 0 !=List.getD y 16 0) (AV.bool (decide (List.getD x 16 0>List.getD y 16 0))=a)
 (Z5 (List.getD x 17 0 !=List.getD y 17 0) (AV.bool (decide (List.getD x 17 0>List.getD y 17 0))=a)
 (Z5 (List.getD x 18 0 !=List.getD y 18 0) (AV.bool (decide (List.getD x 18 0>List.getD y 18 0))=a)
 (Z5 (List.getD x 19 0 !=List.getD y 19 0) (AV.bool (decide (List.getD x 19 0>List.getD y 19 0))=a)
 (Z5 (List.getD x 20 0 !=List.getD y 20 0) (AV.bool (decide (List.getD x 20 0>List.getD y 20 0))=a)
 (Z5 (List.getD x 21 0 !=List.getD y 21 0) (AV.bool (decide (List.getD x 21 0>List.getD y 21 0))=a)
 (Z5 (List.getD x 22 0 !=List.getD y 22 0) (AV.bool (decide (List.getD x 22 0>List.getD y 22 0))=a)
 (Z5 (List.getD x 23 0 !=List.getD y 23 0) (AV.bool (decide (List.getD x 23 0>List.getD y 23 0))=a)
 (Z5 (List.getD x 24 0 !=List.getD y 24 0) (AV.bool (decide (List.getD x 24 0>List.getD y 24 0))=a) (Z5 (List.getD x 25 0 !=List.getD y 25 0) (AV.bool (decide (List.getD x 25 0>List.getD y 25 0))=a) (Z5 (List.getD x 26 0 !=List.getD y 26 0) (AV.bool (decide (List.getD x 26 0>List.getD y 26 0))=a) (Z5 (List.getD x 27 0 !=List.getD y 27 0) (AV.bool (decide (List.getD x 27 0>List.getD y 27 0))=a) (Z5 (List.getD x 28 0 !=List.getD y 28 0) (AV.bool (decide (List.getD x 28 0>List.getD y 28 0))=a) (Z5 (List.getD x 29 0 !=List.getD y 29 0) (AV.bool (decide (List.getD x 29 0>List.getD y 29 0))=a) (Z5 (List.getD x 30 0 !=List.getD y 30 0) (AV.bool (decide (List.getD x 30 0>List.getD y 30 0))=a) (Z5 (List.getD x 31 0 !=List.getD y 31 0) (AV.bool (decide (List.getD x 31 0>List.getD y 31 0))=a) (AV.bool false=a))))))))))))))))))))))))))))))))) (by kernel_rfl) ?_
 conv=>zeta
 iterate 32 refine Zjx (by omega) (by omega) bx yb hb fun hb=> ?_
 rw [JQ (by omega),JQ (by omega)] at hb
 have h0:X7 [] []=0:=rfl
 simp [hb,h0,Z5]
theorem ZgM (args:List AV) (h:Z8) (K:AV->Prop) (hl:inS Y9 args h K):Ze PP 263 args h fun o h'=>∃v,o=.ret v/\h'=h/\K v:=by
 unfold inS at hl
 split at hl
 ·rename_i n i w t a s
  obtain ⟨⟨h1,h2,h3,h4⟩,hK⟩:=Zd hl
  exact Xk Zm rfl (ZlX ⟨n,i,w,t,a,s⟩ _ ⟨h1,h2,h3,h4⟩ rfl) (fun u hu=>hu▸hK)
 ·exact hl.elim
def Zjy:ZI:=fun args _ K=>match args with
 | [.agg [.arr .u8 32 x],.agg [.arr .u8 32 y]]=>(x.length=32/\y.length=32)/\Bytes x/\Bytes y/\K (.bool (decide (X7 x y>0)))
 | _=>False
noncomputable def ZlZ:Zb:=G0.withP 286 Zjy
theorem Zjz (o:ZF) (b:Bool) (ho:o.Ok) (b1:Bytes o.owner) (b2:Bytes o.other) (hb:b=ZE o):
  evF ZlZ 20 264 [.agg o.c] ⟨0,[]⟩ (XY (fun v=>v=.bool b)):=by
 refine @Eq.mpr _ (let d:=o.kind;let S:=d==2;let M:=decide (d>=3);let m:=o.delay;let E:=decide (m=m);let t:=decide (d>=4);let l:=o.expiry;let s:=decide (l=l);let e:=decide (d>=1);let k:=decide (d<=5);let n:=o.owner;let j:=decide (n.length=32/\n.length=32);let c:=o.other;let B:=decide (c.length=32/\c.length=32);let q:=o.point;let A:=decide (q.length=32/\q.length=32);let p:=o.hash;let z:=decide (p.length=32/\p.length=32);let i:=d==d;let r:=o.amount;let h:=r==r;let g:=n==n;let y:=c==c;let R:=q==q;let Q:=p==p;let P:=m==m;let O:=l==l;let N:=R&&(Q&&(P&&O));let D:=AV.bool b;let a:=AV.bool false=D;let f:=Z5 (decide (r>0)) (Z5 (decide (r>=0)) (Z5 (decide (r<=1125899906842624)) (Z5 (decide (m>=0)) (Z5 (decide (m<=2147483647)) (Z5 (decide (l>=0)) (Z5 (decide (l<=2147483647)) (Z5 S ((n.length=32/\c.length=32)/\Bytes n/\Bytes c/\(AV.bool !decide (X7 n c>0))=D) (AV.bool true=D)) a) a) a) a) a) a) a;let x:=decide (p.length=32/\(32:Nat)=32);let L:=p==Z0;let K:=l==0;let J:=R&&(L&&(P&&K));let w:=decide (q.length=32/\(32:Nat)=32);let I:=q==Z0;let H:=m==0;let G:=I&&(Q&&(H&&O));let F:=I&&(L&&(H&&K));let C:=Z5 M (Z5 E (Z5 t (Z5 s (Z5 e (Z5 k (Z5 j (Z5 B (Z5 A (Z5 z (Z5 (i&&(h&&(g&&(y&&N)))) f a) False) False) False) False) a) a) False) (Z5 e (Z5 k (Z5 j (Z5 B (Z5 A (Z5 x (Z5 (i&&(h&&(g&&(y&&J)))) f a) False) False) False) False) a) a)) False) (Z5 t (Z5 s (Z5 e (Z5 k (Z5 j (Z5 B (Z5 w (Z5 z (Z5 (i&&(h&&(g&&(y&&G)))) f a) False) False) False) False) a) a) False) (Z5 e (Z5 k (Z5 j (Z5 B (Z5 w (Z5 x (Z5 (i&&(h&&(g&&(y&&F)))) f a) False) False) False) False) a) a));let v:=decide (c.length=32/\(32:Nat)=32);let u:=c==Z0;
 Z5 S C (Z5 (d==4) C (Z5 (d==5) C (Z5 M (Z5 E (Z5 t (Z5 s (Z5 e (Z5 k (Z5 j (Z5 v (Z5 A (Z5 z (Z5 (i&&(h&&(g&&(u&&N)))) f a) False) False) False) False) a) a) False) (Z5 e (Z5 k (Z5 j (Z5 v (Z5 A (Z5 x (Z5 (i&&(h&&(g&&(u&&J)))) f a) False) False) False) False) a) a)) False) (Z5 t (Z5 s (Z5 e (Z5 k (Z5 j (Z5 v (Z5 w (Z5 z (Z5 (i&&(h&&(g&&(u&&G)))) f a) False) False) False) False) a) a) False) (Z5 e (Z5 k (Z5 j (Z5 v (Z5 w (Z5 x (Z5 (i&&(h&&(g&&(u&&F)))) f a) False) False) False) False) a) a)))))) (by kernel_rfl) ?_
 conv=>zeta
 obtain ⟨h1,h2,h3,h4⟩:=ho
 subst hb
 have hz:[(0:Int),0,0,0,0,0,0,0,0,0,0,0,0,0,0,0,0,0,0,0,0,0,0,0,0,0,0,0,0,0,0,0]=Z0:=rfl
 simp only [hz,Z0P,ZD]
 unfold ZE
 generalize (o.other==Z0)=bo
 generalize (o.point==Z0)=bp
 generalize (o.hash==Z0)=bh
 generalize X7 o.owner o.other=cc
 by_cases k1:o.kind=1
 ·cases bo<;>cases bp<;>cases bh<;>simp [k1,h1,h2,h3,h4,b1,b2]<;>first|omega|grind
 by_cases k2:o.kind=2
 ·cases bp<;>cases bh<;>simp [k2,h1,h2,h3,h4,b1,b2]<;>first|omega|grind
 by_cases k3:o.kind=3
 ·cases bo<;>cases bh<;>simp [k3,h1,h2,h3,h4,b1,b2]<;>first|omega|grind
 by_cases k4:o.kind=4
 ·simp [k4,h1,h2,h3,h4,b1,b2]<;>first|omega|grind
 by_cases k5:o.kind=5
 ·simp [k5,h1,h2,h3,h4,b1,b2]<;>first|omega|grind
 cases bo<;>cases bp<;>cases bh<;>simp [k1,k2,k3,k4,k5,h1,h2,h3,h4,b1,b2]<;>first|omega|grind
theorem ZdT (args:List AV) (h:Z8) (K:AV->Prop) (hl:Zjy args h K):Ze PP 286 args h fun o h'=>∃v,o=.ret v/\h'=h/\K v:=by
 unfold Zjy at hl
 split at hl
 ·obtain ⟨⟨h1,h2⟩,b1,b2,hK⟩:=hl
  exact Xk Zm rfl (ZlY _ _ _ h1 h2 b1 b2 rfl) (fun u hu=>hu▸hK)
 ·exact hl.elim
theorem ZgN:ZlZ.Ok:=Zb.withP_ok Zm ZdT
def Z8Z (R:ZF->Bool):ZI:=fun args _ K=>match args with
 | [.agg [.int .i64 kd,.int .i64 am,.arr .u8 32 ow,.arr .u8 32 ot,.arr .u8 32 po,.arr .u8 32 ha,.int .i64 de,.int .i64 ex]]=>Z7 (ow.length=32/\ot.length=32/\po.length=32/\ha.length=32) ((Bytes ow/\Bytes ot)/\K (.bool (R ⟨kd,am,ow,ot,po,ha,de,ex⟩)))
 | _=>False
theorem ZdU (args:List AV) (h:Z8) (K:AV->Prop) (hl:Z8Z ZE args h K):Ze PP 264 args h fun o h'=>∃v,o=.ret v/\h'=h/\K v:=by
 unfold Z8Z at hl
 split at hl
 ·rename_i kd am ow ot po ha de ex
  obtain ⟨⟨h1,h2,h3,h4⟩,⟨b1,b2⟩,hK⟩:=Zd hl
  exact Xk ZgN rfl (Zjz ⟨kd,am,ow,ot,po,ha,de,ex⟩ _ ⟨h1,h2,h3,h4⟩ b1 b2 rfl) (fun u hu=>hu▸hK)
 ·exact hl.elim
noncomputable def E35:Zb:=(G0.withP 263 (inS Y9)).withP 264 (Z8Z ZE)
theorem Z90:E35.Ok:=Zb.withP_ok (Zb.withP_ok Zm ZgM) ZdU
def ZjA {ι:Type} (S:ι->Nat->St->KE->Prop):Nat->St->KE->Prop:=fun k s X=>∃i,S i k s X
theorem Zb.withL_ex {ι:Type} {G:Zb} (hG:G.Ok) {f:FuncId} {id:Nat} {S:ι->Nat->St->KE->Prop} (h1:∀i,(G.withL f id (S i)).Ok):(G.withL f id (ZjA S)).Ok where
 draw:=hG.draw
 psumm:=hG.psumm
 fsumm:=hG.fsumm
 lsumm:=fun f' id' S' fn c body hS hf hb hm k s X hs=>by
  have hS0:=hS
  simp only [Zb.withL] at hS
  split at hS
  ·rename_i hq
   cases hS
   obtain ⟨i,hs⟩:=hs
   have a1:=(h1 i).lsumm f' id' (S i) fn c body
   simp only [Zb.withL,hq] at a1
   exact a1 trivial hf hb hm k s X hs
  ·exact hG.lsumm f' id' S' fn c body hS hf hb hm k s X hs
def rgH (t:TxS):Z8:=⟨1,[(0,.flat t.c)]⟩
def rgP:AV:=.ptr (some ⟨0,0,0,0,0⟩)
def ZbE (t:TxS) (i:Nat):St:=⟨106,[(3,.int .i64 i),(1,rgP)],rgH t,[]⟩
def ZjB (t:TxS) (i k:Nat):St:=⟨106,[(4,.int .i64 k),(3,.int .i64 i),(1,rgP)],rgH t,[]⟩
def rgR (t:TxS):St:=⟨106,[(2,.bool false),(1,rgP)],rgH t,[]⟩
def Zm0 (t:TxS):St:=⟨106,[(1,rgP)],rgH t,[]⟩
def Z91 (t:TxS) (i:Nat) (n:Int):St:=⟨106,[(6,.int .i64 i),(5,.int .i64 n),(1,rgP)],rgH t,[]⟩
def Zm1 (t:TxS) (n:Int):St:=⟨106,[(5,.int .i64 n),(1,rgP)],rgH t,[]⟩
theorem Zof (t:TxS) (i k:Nat) (Z1 Z2 Z3:Prop) (hi:i<t.N) (hN:t.N<=24) (hk:k<=i) (ht:t.Ok) (h1:k<i->sameAt t.ins (t.ins i) k=false->Z1) (h2:k=i->Z2) (h3:k<i->sameAt t.ins (t.ins i) k=true->Z3):
  ZG E35 20 203 2 0 (ZjB t i k) (rdM 0 2 9 (ZjB t i (k+1)) (ZbE t i) (rgR t) (rgR t) Z1 Z2 Z3 False):=by
 refine @Eq.mpr _ (let f:=t.N;let o:=(↑f:Int);let n:=decide (0<=(↑k:Int)/\(↑k:Int)<o);let m:=decide (0<=(↑i:Int)/\(↑i:Int)<o);let l:=t.ins (Int.toNat (↑k:Int));let j:=l.name;let h:=t.ins (Int.toNat (↑i:Int));let g:=h.name;let c:=decide (t.num=t.num);let b:=decide (f=f);let s:=Zg t.ins;let e:=s=s;let a:=decide (t.M=t.M);let r:=Zf t.outs;let d:=r=r;let q:=decide ((↑i:Int)=(↑i:Int));let p:=Z7 (wrap i64 ((↑k:Int)+1)=(↑(k+1):Int)) (Z6 q (Z6 c (Z6 b (e/\Z6 b (Z6 a (d/\Z6 a Z1))))));
 Z5 (decide ((↑k:Int)<(↑i:Int))) (Z6 n (Z6 m (Z7 (j.length=32/\g.length=32) (Z5 (j==g) (Z6 n (Z6 m (Z5 (l.index==h.index) (Z6 c (Z6 b (e/\Z6 b (Z6 a (d/\Z6 a Z3))))) p))) p)))) (Z6 q (Z6 c (Z6 b (e/\Z6 b (Z6 a (d/\Z6 a Z2))))))) (by kernel_rfl) ?_
 conv=>zeta
 try simp only [vcA]
 try simp only [vcB]
 try simp only [vcC]
 have e1:=(ht.ins i hi).name
 have e2:k<t.N->(t.ins k).name.length=32:=fun h=>(ht.ins k h).name
 have hw:i64.wrap ((k:Int)+1)=((k+1:Nat):Int):=w64 (by omega)
 rw [hw]
 unfold sameAt Q5 at h1 h3
 refine ⟨fun hlt=> ?_,fun hge=> ?_⟩
 ·have hlt:k<i:=by omega
  have h1:=h1 hlt
  have h3:=h3 hlt
  have e2:=e2 (by omega)
  refine ⟨by omega,by omega,⟨e2,e1⟩,fun q1=>⟨by omega,by omega,fun q2=>h3 (by rw [q1,q2];rfl),fun q2=>⟨rfl,h1 (by rw [q2,K9])⟩⟩,fun q1=>⟨rfl,h1 (by rw [q1,Kr])⟩⟩
 ·simp [h2 (by omega)]
theorem Zog (t:TxS) (i:Nat) (n:Int) (Z1 Z2 Z3:Prop) (hM:t.M<=24) (hi:i<=t.M) (ht:t.Ok) (hn:0<=n/\n<=i*1125899906842624) (hB:i<t.M->Bytes (t.outs i).owner/\Bytes (t.outs i).other) (h1:i<t.M->ZE (t.outs i)=true->Z1) (h2:i=t.M->Z2) (h3:i<t.M->ZE (t.outs i)=false->Z3):
  ZG E35 20 203 4 0 (Z91 t i n) (rdM 0 4 9 (Z91 t (i+1) (n+(t.outs i).amount)) (Zm1 t n) (rgR t) (rgR t) Z1 Z2 Z3 False):=by
 refine @Eq.mpr _ (let d:=t.M;let o:=decide (0<=(↑i:Int)/\(↑i:Int)<(↑d:Int));let a:=t.outs (Int.toNat (↑i:Int));let g:=a.owner;let f:=a.other;let m:=a.point;let l:=a.hash;let k:=a.amount;let e:=decide (t.num=t.num);let c:=decide (t.N=t.N);let q:=Zg t.ins;let j:=q=q;let b:=decide (d=d);let p:=Zf t.outs;let h:=p=p;
 Z5 (decide ((↑i:Int)<(↑d:Int))) (Z6 o (Z7 (g.length=32/\f.length=32/\m.length=32/\l.length=32) ((Bytes g/\Bytes f)/\Z5 (!ZE (ZF.mk a.kind k g f m l a.delay a.expiry)) (Z6 e (Z6 c (j/\Z6 c (Z6 b (h/\Z6 b Z3))))) (Z6 o (Z7 (wrap i64 ((↑i:Int)+1)=(↑(i+1):Int)) (Z7 (wrap i64 (n+k)=n+(t.outs i).amount) (Z6 e (Z6 c (j/\Z6 c (Z6 b (h/\Z6 b Z1))))))))))) (Z7 (n=n) (Z6 e (Z6 c (j/\Z6 c (Z6 b (h/\Z6 b Z2))))))) (by kernel_rfl) ?_
 conv=>zeta
 try simp only [vcA]
 try simp only [vcB]
 try simp only [vcC]
 have hw:i64.wrap ((i:Int)+1)=((i+1:Nat):Int):=w64 (by omega)
 rw [hw]
 refine ⟨fun hlt=> ?_,fun hge=> ?_⟩
 ·have hlt:i<t.M:=by omega
  obtain ⟨e1,e2,e3,e4⟩:=ht.outs i hlt
  obtain ⟨b1,b2⟩:=hB hlt
  have h1:=h1 hlt
  have h3:=h3 hlt
  have hw2:ZE (t.outs i)=true->i64.wrap (n+(t.outs i).amount)=n+(t.outs i).amount:=fun h=>by
   have:=(Xu h).2
   exact w64 (by omega)
  refine ⟨by omega,⟨e1,e2,e3,e4⟩,⟨b1,b2⟩,fun q=>h3 (by simpa using q),fun q=>⟨by omega,rfl,hw2 (by simpa using q),h1 (by simpa using q)⟩⟩
 ·simp [h2 (by omega)]
noncomputable def ZgO (t:TxS):Zb:=E35.withL 203 2 (ZjA fun i:Nat=>goM 0 (ZjB t i 0) (i<t.N/\t.N<=24/\t.Ok) (YD 2 i 9 (fun k=>sameAt t.ins (t.ins i) k=false) (fun k=>k=i) (fun k=>k<i/\sameAt t.ins (t.ins i) k=true) (fun _=>False) (fun _=>ZbE t i) (fun _=>rgR t) (fun _=>rgR t)))
theorem ZgP (t:TxS):(ZgO t).Ok:=
 Zb.withL_ex Z90 fun i=>Zb.withGoM (N:=20) Z90 (by kernel_rfl) fun hC=>⟨rfl,fun k hk hgo=>Zof t i k _ _ _ hC.1 hC.2.1 hk hC.2.2 (fun h1 h2=>⟨h2,h1⟩) (fun h=>h) (fun h1 h2=>⟨h1,h2⟩)⟩
def okI (t:TxS) (i:Nat):Bool:=Y9 (t.ins i)&& !((List.range i).any (sameAt t.ins (t.ins i)))
theorem Zoh (t:TxS) (i:Nat) (Z1 Z2 Z3:Prop) (hi:i<=t.N) (hN:t.N<=24) (ht:t.Ok) (h1:i<t.N->okI t i=true->Z1) (h2:i=t.N->Z2) (h3:i<t.N->okI t i=false->Z3):
  ZG (ZgO t) 20 203 0 0 (ZbE t i) (rdM 0 0 9 (ZbE t (i+1)) (Zm0 t) (rgR t) (rgR t) Z1 Z2 Z3 False):=by
 refine @Eq.mpr _ (let d:=t.N;let c:=t.ins (Int.toNat (↑i:Int));let o:=c.name;let n:=c.tag;let m:=c.also;let l:=c.secret;let f:=decide (t.num=t.num);let a:=decide (d=d);let e:=t.ins;let r:=Zg e;let h:=r=r;let b:=decide (t.M=t.M);let q:=Zf t.outs;let g:=q=q;let p:=Z6 f (Z6 a (h/\Z6 a (Z6 b (g/\Z6 b Z3))));
 Z5 (decide ((↑i:Int)<(↑d:Int))) (Z7 (0<=(↑i:Int)/\(↑i:Int)<(↑d:Int)) (Z7 (o.length=32/\n.length=32/\m.length=32/\l.length=32) (Z5 (!Y9 (InS.mk o c.index c.way n m l)) p (∃(i_1:Nat),Z7 ((↑i:Int)=(↑i_1:Int)) (Z6 f (Z6 a (h/\Z6 a (Z6 b (g/\Z6 b ((i_1<d/\d<=24/\TxS.Ok t)/\∀(i_2:Nat),i_2<=i_1->(∀(j:Nat),j<i_2->(fun (k:Nat)=>sameAt e (e i_1) k=false) j)->(i_2=i_1->Z7 (wrap i64 ((↑i_1:Int)+1)=(↑(i+1):Int)) (Z6 f (Z6 a (h/\Z6 a (Z6 b (g/\Z6 b Z1))))))/\(i_2<i_1/\sameAt e (e i_1) i_2=true->p)/\(False->Z6 f (Z6 a (h/\Z6 a (Z6 b (g/\Z5 b False False))))))))))))))) (Z6 f (Z6 a (h/\Z6 a (Z6 b (g/\Z6 b Z2)))))) (by kernel_rfl) ?_
 conv=>zeta
 try simp only [vcA]
 try simp only [vcB]
 try simp only [vcC]
 unfold okI at h1 h3
 refine ⟨fun hlt=> ?_,fun hge=>h2 (by omega)⟩
 have hlt:i<t.N:=by omega
 obtain ⟨e1,e2,e3,e4⟩:=ht.ins i hlt
 have h1:=h1 hlt
 have h3:=h3 hlt
 refine ⟨by omega,⟨e1,e2,e3,e4⟩,fun q=>h3 ?_,fun q=>⟨i,rfl,⟨hlt,hN,ht⟩,fun m hm hgo=>⟨fun hq=>⟨w64 (by omega),h1 ?_⟩,fun hq=>h3 ?_,fun h=>h⟩⟩⟩
 ·have q:Y9 (t.ins i)=false:=by simpa using q
  rw [q,Kr]
 ·subst hq
  have q:Y9 (t.ins m)=true:=by simpa using q
  rw [q,Kk]
  simp only [J5,JM,Jw]
  intro j hj
  rw [hgo j hj]
  decide
 ·have:(List.range i).any (sameAt t.ins (t.ins i))=true:=by
   rw [List.any_eq_true]
   exact ⟨m,by simpa using hq.1,hq.2⟩
  rw [this,Kt,K9]
def VK (t:TxS) (i:Nat):Int:=(amL t.outs i).sum
structure TxB (t:TxS):Prop where
 h:∀i,i<t.M->Bytes (t.outs i).owner/\Bytes (t.outs i).other
theorem Z5U {t:TxS}:∀i,(∀j,j<i->ZE (t.outs j)=true)->0<=VK t i/\VK t i<=i*1125899906842624
 | 0,_=>by simp [VK,amL]
 | i+1,h=>by
  have h1:=Z5U i (fun j hj=>h j (by omega))
  have h2:=(Xu (h i (by omega))).2.1
  have e:VK t (i+1)=VK t i+(t.outs i).amount:=by unfold VK;rw [Z3r];simp
  omega
theorem ZbF (t:TxS) (i:Nat):VK t (i+1)=VK t i+(t.outs i).amount:=by unfold VK;rw [Z3r];simp
def Zm2 (t:TxS):Nat->St->KE->Prop:=goM 0 (ZbE t 0) (t.N<=24/\t.Ok) (YD 0 t.N 9 (fun i=>okI t i=true) (fun i=>i=t.N) (fun i=>i<t.N/\okI t i=false) (fun _=>False) (fun _=>Zm0 t) (fun _=>rgR t) (fun _=>rgR t))
def Zm3 (t:TxS):Nat->St->KE->Prop:=goM 0 (Z91 t 0 0) (t.M<=24/\t.Ok/\TxB t) (YD 4 t.M 9 (fun i=>ZE (t.outs i)=true) (fun i=>i=t.M) (fun i=>i<t.M/\ZE (t.outs i)=false) (fun _=>False) (fun i=>Zm1 t (VK t i)) (fun _=>rgR t) (fun _=>rgR t))
noncomputable def Zm4 (t:TxS):Zb:=((ZgO t).withL 203 0 (Zm2 t)).withL 203 4
 (Zm3 t)
theorem ZgQ (t:TxS):(Zm4 t).Ok:=by
 have h1:((ZgO t).withL 203 0 (Zm2 t)).Ok:=
  Zb.withGoM (N:=20) (S:=ZbE t) (ZgP t) (by kernel_rfl) fun hC=>⟨rfl,fun i hi hgo=>Zoh t i _ _ _ hi hC.1 hC.2 (fun h1 h2=>⟨h2,h1⟩) (fun h=>h) (fun h1 h2=>⟨h1,h2⟩)⟩
 have h2:(E35.withL 203 4 (Zm3 t)).Ok:=by
  refine Zb.withGoM (N:=20) (S:=fun i=>Z91 t i (VK t i)) Z90 (by kernel_rfl) fun hC=>⟨by show Z91 t 0 (VK t 0)=_;unfold VK amL;rfl,fun i hi hgo=> ?_⟩
  show ZG E35 20 203 4 0 (Z91 t i (VK t i)) (rdM 0 4 9 (Z91 t (i+1) (VK t (i+1))) _ _ _ _ _ _ _)
  rw [ZbF]
  exact Zog t i (VK t i) _ _ _ hC.1 hi hC.2.1 (Z5U i hgo) (fun h=>hC.2.2.h i h) (fun h1 h2=>⟨h2,h1⟩) (fun h=>h) (fun h1 h2=>⟨h1,h2⟩)
 exact Zb.withL_join (H:=E35) h1 rfl h2
def XG (t:TxS):Bool:=decide (0<=t.num/\t.num<=2147483647)&&decide (1<=t.N/\t.N<=24)&&decide (1<=t.M/\t.M<=24)&&(List.range t.N).all (okI t)&&(List.range t.M).all (fun i=>ZE (t.outs i))&&decide (VK t t.M<=1125899906842624)
theorem Zoi (t:TxS) (b:Bool) (ht:t.Ok) (hb:TxB t) (h:b=XG t):
  evF (Zm4 t) 20 203 [.agg t.c] ⟨0,[]⟩ (Yz 0 [] (.bool b) 0 []):=by
 refine @Eq.mpr _ (let g:=t.num;let a:=Z7 (false=b) True;let d:=t.N;let m:=(↑d:Int);let c:=t.M;let l:=(↑c:Int);let k:=decide (g=g);let e:=decide (d=d);let h:=Zg t.ins;let p:=h=h;let f:=decide (c=c);let o:=Zf t.outs;let n:=o=o;
 Z5 (decide (g>=0)) (Z5 (!decide (g<=2147483647)) a (Z5 (decide (m<1)) a (Z5 (decide (m>24)) a (Z5 (decide (l<1)) a (Z5 (decide (l>24)) a (Z6 k (Z6 e (p/\Z6 e (Z6 f (n/\Z6 f ((d<=24/\TxS.Ok t)/\∀(i:Nat),i<=d->(∀(j:Nat),j<i->(fun (i:Nat)=>okI t i=true) j)->(i=d->Z6 k (Z6 e (p/\Z6 e (Z6 f (n/\Z6 f ((c<=24/\TxS.Ok t/\TxB t)/\∀(i:Nat),i<=c->(∀(j:Nat),j<i->(fun (i:Nat)=>ZE (t.outs i)=true) j)->(i=c->Z5 (decide (VK t i>=0)) (Z7 (decide (VK t i<=1125899906842624)=b) True) a)/\(i<c/\ZE (t.outs i)=false->a)/\(False->False)))))))/\(i<d/\okI t i=false->a)/\(False->False)))))))))))) a) (by kernel_rfl) ?_
 conv=>zeta
 try simp only [vcA]
 try simp only [vcB]
 try simp only [vcC]
 subst h
 have hF:XG t=false->false=XG t:=fun h=>by rw [h]
 refine ⟨fun a1=>⟨fun a2=>hF ?_,fun a2=>⟨fun a3=>hF ?_,fun a3=>⟨fun a4=>hF ?_,fun a4=>⟨fun a5=>hF ?_,fun a5=>⟨fun a6=>hF ?_,fun a6=>⟨⟨by omega,ht⟩,fun i hi hgo=>⟨fun hq=>⟨⟨by omega,ht,hb⟩,fun m hm hgm=>⟨fun hr=>⟨fun a7=> ?_,fun a7=> ?_⟩,fun hr=>hF ?_,fun h=>h⟩⟩,fun hq=>hF ?_,fun h=>h⟩⟩⟩⟩⟩⟩⟩,fun a1=>hF ?_⟩
 ·unfold XG;rw [decide_eq_false (p:=0<=t.num/\_) (by simp at a2;omega)];simp
 ·unfold XG;rw [decide_eq_false (p:=1<=t.N/\_) (by omega)];simp
 ·unfold XG;rw [decide_eq_false (p:=1<=t.N/\_) (by omega)];simp
 ·unfold XG;rw [decide_eq_false (p:=1<=t.M/\_) (by omega)];simp
 ·unfold XG;rw [decide_eq_false (p:=1<=t.M/\_) (by omega)];simp
 ·subst hq hr
  have e1:(List.range t.N).all (okI t)=true:=by
   rw [JY];intro j hj;exact hgo j (by simpa using hj)
  have e2:(List.range t.M).all (fun i=>ZE (t.outs i))=true:=by
   rw [JY];intro j hj;exact hgm j (by simpa using hj)
  unfold XG
  rw [e1,e2,decide_eq_true (p:=0<=t.num/\_) (by simp at a2;omega),decide_eq_true (p:=1<=t.N/\_) (by omega),decide_eq_true (p:=1<=t.M/\_) (by omega)]
  simp
 ·exact absurd (Z5U m hgm).1 a7
 ·unfold XG
  have:(List.range t.M).all (fun i=>ZE (t.outs i))=false:=by
   rw [List.all_eq_false];exact ⟨m,by simpa using hr.1,by simp [hr.2]⟩
  rw [this];simp
 ·unfold XG
  have:(List.range t.N).all (okI t)=false:=by
   rw [List.all_eq_false];exact ⟨i,by simpa using hq.1,by simp [hq.2]⟩
  rw [this];simp
 ·unfold XG;rw [decide_eq_false (p:=0<=t.num/\_) (by omega)];simp
theorem Z0m {g:Nat->InS} {x:InS} {j:Nat}:sameAt g x j=true↔(g j).name=x.name/\(g j).index=x.index:=by
 unfold sameAt Q5;simp
theorem Z3v {N:Nat} {g:Nat->InS} {i:Nat} (hi:i<N):Q6 N g (g i)=true↔∃j,j<N/\j≠i/\sameAt g (g i) j=true:=by
 have hself:sameAt g (g i) i=true:=Z0m.2 ⟨rfl,rfl⟩
 unfold Q6
 rcases Vs (sameAt g (g i)) N with ⟨_,hn⟩|⟨f,hf,ef,pf,hb⟩
 ·rw [hn i hi] at hself;cases hself
 rcases Vs (sameAt (Z0h N g) (g i)) N with ⟨_,hn⟩|⟨l,hl,el,pl,hb'⟩
 ·have:=hn (N-1-i) (by omega)
  have e:sameAt (Z0h N g) (g i) (N-1-i)=sameAt g (g i) i:=by unfold sameAt Z0h;congr 1;congr 1;omega
  rw [e,hself] at this;cases this
 have er:∀q,q<N->sameAt (Z0h N g) (g i) q=sameAt g (g i) (N-1-q):=fun q _=>rfl
 rw [er l hl] at pl
 rw [ef,el,bne_iff_ne]
 have hfi:f<=i:=by
  rcases Jm i f with h|h
  ·rw [hb i h] at hself;cases hself
  ·exact h
 have hli:i<=N-1-l:=by
  rcases Jm (N-1-i) l with h|h
  ·have:=hb' _ h
   rw [er _ (by omega),show N-1-(N-1-i)=i by omega,hself] at this;cases this
  ·omega
 constructor
 ·intro h
  rcases Jm f i with h1|h1
  ·exact ⟨f,hf,by omega,pf⟩
  ·exact ⟨N-1-l,by omega,by omega,pl⟩
 ·rintro ⟨j,hj,hne,pj⟩ h
  rcases Jm j f with h1|h1
  ·rw [hb j h1] at pj;cases pj
  ·have:=hb' (N-1-j) (by omega)
   rw [er _ (by omega),show N-1-(N-1-j)=j by omega,pj] at this;cases this
theorem Z4V {t:TxS} (h:∀j,j<t.M->ZE (t.outs j)=true):allIn 1125899906842624 (amL t.outs t.M)=true:=by
 unfold allIn
 rw [J5,JM]
 intro j hj
 have hj:j<t.M:=by simpa [Z0Q] using hj
 have:=(Xu (h j hj)).2.1
 have e:(amL t.outs t.M).getD j 0=(t.outs j).amount:=by simp [amL,J3,hj]
 unfold YI
 rw [e]
 unfold Uw
 simp
 omega
theorem Z4W (t:TxS):XG t=Yp ZA t:=by
 rw [Bool.eq_iff_iff]
 unfold XG Yp
 simp only [J2,decide_eq_true_eq,JY,Jw,J5,JM,beq_iff_eq]
 constructor
 ·rintro ⟨⟨⟨⟨⟨h1,h2⟩,h3⟩,h4⟩,h5⟩,h6⟩
  refine ⟨⟨⟨⟨⟨h1,h2⟩,h3⟩,fun i hi=> ?_⟩,fun i hi=> ?_⟩, ?_⟩
  ·have h:=h4 i hi
   unfold okI at h
   simp only [J2,J5,JM,Jw] at h
   unfold YZ Uo
   rw [h.1,Kt,Bool.false_or]
   intro hq
   obtain ⟨j,hj,hne,hs⟩:=(Z3v hi).1 hq
   rcases Nat.lt_or_gt_of_ne hne with h0|h0
   ·exact h.2 j h0 hs
   ·have h':=h4 j hj
    unfold okI at h'
    simp only [J2,J5,JM,Jw] at h'
    refine h'.2 i h0 ?_
    rw [Z0m] at hs⊢
    exact ⟨hs.1.symm,hs.2.symm⟩
  ·unfold YH Z0i
   rw [h5 i hi]
   decide
  ·unfold ZA
   unfold VK at h6;rw [if_pos (Z4V h5),if_pos h6]
 ·rintro ⟨⟨⟨⟨⟨h1,h2⟩,h3⟩,h4⟩,h5⟩,h6⟩
  have h5':∀j,j<t.M->ZE (t.outs j)=true:=fun j hj=>by
   have:=h5 j hj
   unfold YH Z0i at this
   simpa using this
  refine ⟨⟨⟨⟨⟨h1,h2⟩,h3⟩,fun i hi=> ?_⟩,h5'⟩, ?_⟩
  ·have h:=h4 i hi
   unfold YZ Uo at h
   simp only [JX,not_or,J5,Bool.not_eq_false,Bool.not_eq_true] at h
   unfold okI
   rw [h.1,Kk]
   simp only [J5,JM,Jw]
   intro j hj hs
   have:=(Z3v hi).2 ⟨j,by omega,by omega,hs⟩
   rw [h.2] at this;cases this
  ·unfold ZA at h6
   rw [if_pos (Z4V h5')] at h6
   split at h6
   ·assumption
   ·cases h6
def Z92 (A:LI->Int×Int):ZI:=fun args h K=>Zz none h true 20 args fun a=>match a with
 | [.agg l]=>∃t,Z0j l t/\t.Ok/\TxB t/\K (.bool (Yp A t))
 | _=>False
theorem ZbG (args:List AV) (h:Z8) (K:AV->Prop) (hl:Z92 ZA args h K):Ze PP 203 args h fun o h'=>∃v,o=.ret v/\h'=h/\K v:=by
 refine Zs.psumm (d:=20) (Zk _ _ _ _ _ hl fun a ha=> ?_)
 split at ha
 ·obtain ⟨t,h1,h2,h3,hK⟩:=ha
  refine ⟨_,(Zs.ev (ZgQ t) (Zoi t _ h2 h3 rfl)).conv fun E r hr=>hr.head (fun _ hc=>h1.rel hc) (fun _ hc=>hc),fun _=>rfl, ?_⟩
  rw [Z4W]
  exact hK
 ·exact ha.elim
end Go.Tk
end
