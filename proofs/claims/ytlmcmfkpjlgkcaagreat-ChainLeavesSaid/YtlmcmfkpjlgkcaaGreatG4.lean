/- G: part 4 of an engine (a symbolic evaluator, proved against the model) and of the walk by it. -/
import Derived.Test.YtlmcmfkpjlgkcaaGreatG3
import Derived.OpenShut
import Derived.WideShapes
import Derived.ChangeSlices
import Derived.WalkKit
import Derived.ProofKit
import Derived.Below
import Derived.Handed
import Derived.Carry
set_option linter.unusedVariables false
set_option linter.unusedSimpArgs false
set_option maxRecDepth 100000
set_option maxHeartbeats 0
section
namespace Go.Tk
open IntKind (i64 u8 u32 u64 wrap)
variable {E:Env} {σ:List Nat} {args:List AV} {K0:List Blk->List AV->Prop} {v:AV} {nx:Nat} {f:FuncId} {K:KO}
def YP:List Nat->Nat->Option Nat
 | [],_=>none
 | x::_,0=>some x
 | _::r,n+1=>YP r n
def Xf:List Nat->Nat->Option Nat
 | [],_=>none
 | y::r,x=>match Nat.beq y x with
  | true=>some 0
  | false=>match Xf r x with|some i=>some (i+1)|none=>none
theorem WO:∀{σ:List Nat} {x i:Nat},Xf σ x=some i->YP σ i=some x
 | [],_,_,h=>by simp [Xf] at h
 | y::r,x,i,h=>by
  unfold Xf at h
  split at h
  ·grind [J0,YP]
  ·split at h
   ·rename_i j hj
    cases h
    exact (WO (σ:=r) hj:YP r _=some x)
   ·cases h
theorem QB:∀{σ:List Nat} {x:Nat},Xf σ x=none->x∉σ
 | [],_,_=>by simp
 | y::r,x,h=>by
  unfold Xf at h
  split at h
  ·cases h
  ·rename_i hb
   split at h
   ·cases h
   ·rename_i hj
    intro hm
    rcases J5.1 hm with rfl|hm
    ·simp [Je] at hb
    ·exact QB hj hm
theorem X3:∀{σ:List Nat} {i x:Nat},YP σ i=some x->x∈σ
 | [],_,_,h=>by simp [YP] at h
 | y::r,0,x,h=>by simp [YP] at h;simp [h]
 | y::r,i+1,x,h=>Jg _ (X3 (σ:=r) h)
theorem Z6M:∀{σ:List Nat} {i:Nat},σ.length<=i->YP σ i=none
 | [],_,_=>by simp [YP]
 | y::r,0,h=>by simp at h
 | y::r,i+1,h=>by simp at h;exact Z6M (σ:=r) h
def Env.borL (E:Env) (σ:List Nat) (w:World) (t:Bool):Env:=
 ⟨fun y=>match t with|true=>(match YP σ y with|some x=>E.blk x|none=>none)|false=>none,fun a c=>w.cell? a=some c/\∀x,x∈σ->∀N,E.blk x=some (a.block,N)->False⟩
mutual
def vwV (σ:List Nat) (h:Z7) (t:Bool):Nat->AV->(AV->Prop)->Prop
 | 0,_,_=>False
 | d+1,v,K=>match v with
  | .top=>K .top
  | .bool b=>K (.bool b)
  | .int k n=>K (.int k n)
  | .str s=>K (.str s)
  | .ptr none=>K (.ptr none)
  | .eslice=>K .eslice
  | .fslice=>K .fslice
  | .nilslice=>K .nilslice
  | .map none=>K (.map none)
  | .nilFunc=>K .nilFunc
  | .nilIface=>K .nilIface
  | .pview cs inn=>K (.pview cs inn)
  | .vints k xs len=>K (.vints k xs len)
  | .vrows esz n f len=>K (.vrows esz n f len)
  | .ptr (some p)=>match Xf σ p.blk with
   | some i=>match t with|false=>False|true=>K (.ptr (some ⟨i,p.row,p.sz,p.off,p.inn⟩))
   | none=>match h.get p.blk with
    | some (.flat cs)=>match p.row,Y8 p.off cs with
     | 0,some rest=>vwC σ h false d rest fun rest'=>K (.pview rest' p.inn)
     | _,_=>False
    | some (.rows sz n f)=>match Nat.beq sz p.sz with
     | true=>Z5 (p.row<n) (match Y8 p.off (f p.row) with
      | some rest=>vwC σ h false d rest fun rest'=>K (.pview rest' p.inn)
      | none=>False)
     | false=>False
    | _=>False
  | .nslice p esz len lo=>match Xf σ p.blk with
   | some i=>match t with|false=>False|true=>K (.nslice ⟨i,p.row,p.sz,p.off,p.inn⟩ esz len lo)
   | none=>match h.get p.blk with
    | some (.ints k xs)=>match Nat.beq esz 1 with
     | true=>Z5 (p.tot+len<=xs.length) (K (.vints k ((ZS p.tot xs).take len) len))
     | false=>False
    | some (.rows sz n f)=>match Nat.beq sz esz&&Nat.beq p.off 0&&Nat.beq p.inn 0&&(Nat.beq p.sz esz||Nat.beq p.row 0) with
     | true=>Z5 (p.row+len<=n) ((∀i,i<len->plainC (Y9 p.row f i)=true)/\K (.vrows esz len (Y9 p.row f) len))
     | false=>False
    | some (.flat cs)=>match p.row,Y8 p.off cs with
     | 0,some rest=>match Z6I rest&&Nat.beq esz 1 with
      | true=>match rest with
       | .arr k n xs::_=>match Nat.beq esz 1,Nat.beq p.inn 0&&Nat.beq len n with
        | true,true=>Z5 (xs.length=n) (K (.vints k xs len))
        | true,false=>Z5 (xs.length=n/\p.inn+len<=n) (K (.vints k ((ZS p.inn xs).take len) len))
        | false,_=>False
       | _=>False
      | false=>match Nat.beq p.inn 0,takeC (len*esz) rest with
       | true,some part=>vwC σ h false d part fun part'=>match Ul part' 0 esz len with
        | true=>K (.vrows esz len (Wq part' 0 esz) len)
        | false=>False
       | _,_=>False
     | _,_=>False
    | _=>False
  | .func (.func g) fs cs=>vwL σ h t d fs fun fs'=>vwL σ h t d cs fun cs'=>K (.func (.func g) fs' cs')
  | .iface T u=>vwV σ h t d u fun u'=>K (.iface T u')
  | .agg cs=>vwC σ h t d cs fun cs'=>K (.agg cs')
  | .tuple vs=>vwL σ h t d vs fun vs'=>K (.tuple vs')
  | _=>False
def vwC (σ:List Nat) (h:Z7) (t:Bool):Nat->List AV->(List AV->Prop)->Prop
 | 0,_,_=>False
 | d+1,l,K=>match l with
  | []=>K []
  | .arr k n xs::r=>vwC σ h t d r fun r'=>K (.arr k n xs::r')
  | v::r=>vwV σ h t d v fun v'=>match v'.isCell with
   | true=>vwC σ h t d r fun r'=>K (v'::r')
   | false=>False
def vwL (σ:List Nat) (h:Z7) (t:Bool):Nat->List AV->(List AV->Prop)->Prop
 | 0,_,_=>False
 | d+1,l,K=>match l with
  | []=>K []
  | v::r=>vwV σ h t d v fun v'=>vwL σ h t d r fun r'=>K (v'::r')
end
theorem Z1z {w:World} {t:Bool} {h:Z7} (he:Emb E h w) (hm:∀x,x∈σ->∃B,h.get x=some B):E.views.le (E.borL σ w t).views:=
 ⟨fun _ _ hq=>by simp [Env.views] at hq,fun a c hi=>⟨he.imm a c hi,fun x hx N hb=>let ⟨B,hB⟩:=hm x hx;he.sep a c x B N hi hB hb⟩⟩
theorem Z1A {w:World} {t:Bool} {h:Z7} (he:Emb E h w) (hm:∀x,x∈σ->∃B,h.get x=some B) {a:Addr} {c:Value} (hi:E.imm a c):(E.borL σ w t).imm a c:=
 ⟨he.imm a c hi,fun x hx N hb=>let ⟨B,hB⟩:=hm x hx;he.sep a c x B N hi hB hb⟩
theorem Xg {w:World} {t:Bool} {h:Z7} (he:Emb E h w) (hm:∀x,x∈σ->∃B,h.get x=some B) {y b N o:Nat} {B:Blk} (hy:h.get y=some B) (hb:E.blk y=some (b,N)) (hn:Xf σ y=none) {c:Value}
  (hc:w.cell? ⟨b,o,none⟩=some c):(E.borL σ w t).imm ⟨b,o,none⟩ c:=
 ⟨hc,fun x hx N' hbx=>by
  obtain ⟨C,hC⟩:=hm x hx
  have:=he.disj x y C B b N' N hC hy hbx hb
  subst this
  exact QB hn hx⟩
theorem W1 {w:World} {x i:Nat} (h:Xf σ x=some i):(E.borL σ w true).blk i=E.blk x:=by
 show (match YP σ i with|some x=>E.blk x|none=>none)=_
 rw [WO h]
set_option maxHeartbeats 2000000 in
mutual
theorem Z5S {σ:List Nat} {h:Z7} (hm:∀x,x∈σ->∃B,h.get x=some B):∀(d:Nat) (t:Bool) (v:AV) (K:AV->Prop),vwV σ h t d v K->∃v₀,K v₀/\∀(E:Env) (w:World) (r:Value),Emb E h w->Zb E v r->Zb (E.borL σ w t) v₀ r
 | 0,t,v,K,hl=>by unfold vwV at hl;simp_all
 | d+1,t,v,K,hl=>by
  unfold vwV at hl
  split at hl
  ·exact ⟨_,hl,fun E w r he hv=>.top r⟩
  ·exact ⟨_,hl,fun E w r he hv=>hv.plain rfl⟩
  ·exact ⟨_,hl,fun E w r he hv=>hv.plain rfl⟩
  ·exact ⟨_,hl,fun E w r he hv=>hv.plain rfl⟩
  ·exact ⟨_,hl,fun E w r he hv=>hv.plain rfl⟩
  ·exact ⟨_,hl,fun E w r he hv=>hv.plain rfl⟩
  ·exact ⟨_,hl,fun E w r he hv=>hv.plain rfl⟩
  ·exact ⟨_,hl,fun E w r he hv=>hv.plain rfl⟩
  ·exact ⟨_,hl,fun E w r he hv=>hv.plain rfl⟩
  ·exact ⟨_,hl,fun E w r he hv=>hv.plain rfl⟩
  ·exact ⟨_,hl,fun E w r he hv=>hv.plain rfl⟩
  ·refine ⟨_,hl,fun E w r he hv=> ?_⟩
   cases hv with
   | pview cs inn a vs hc hi=>exact .pview _ _ a vs (hc.mono (Z1z he hm)) (fun j c hj=>Z1A he hm (hi j c hj))
  ·refine ⟨_,hl,fun E w r he hv=> ?_⟩
   cases hv with
   | vintsNil k xs len h1 h2=>exact .vintsNil _ _ _ h1 h2
   | vints k xs len a cap h1 h2 hi=>exact .vints _ _ _ a cap h1 h2 (fun i hi'=>Z1A he hm (hi i hi'))
  ·refine ⟨_,hl,fun E w r he hv=> ?_⟩
   cases hv with
   | vrowsNil esz n f len h1 h2=>exact .vrowsNil _ _ _ _ h1 h2
   | vrows esz n f len a cap g h1 h2 hc hl' hi=>exact .vrows _ _ _ _ a cap g h1 h2 (fun i hi'=>(hc i hi').mono (Z1z he hm)) hl' (fun i j c hi' hj=>Z1A he hm (hi i j c hi' hj))
  ·rename_i p
   split at hl
   ·rename_i ix hmv
    split at hl
    ·simp_all
    ·refine ⟨_,hl,fun E w r he hv=> ?_⟩
     cases hv with
     | ptr p b N hb=>exact .ptr ⟨ix,p.row,p.sz,p.off,p.inn⟩ b N (by rw [W1 hmv];exact hb)
   ·rename_i hmv
    split at hl
    ·rename_i cs hg
     split at hl
     ·rename_i rest hrow hrest
      obtain ⟨rest',hK,hr⟩:=UA hm d false rest _ hl
      refine ⟨_,hK,fun E w r he hv=> ?_⟩
      cases hv with
      | ptr p b N hb=>
       cases he.own _ _ hg with
       | flat0 cs h0 hn=>rw [hn] at hb;cases hb
       | flat cs b' cells elem fr vs hb' hw hf hc hvs=>
        rw [hb] at hb'
        cases hb'
        have hd:=(ZF _ _ _ _ hrest hc).1
        have e:(⟨b,p.tot,none⟩:Addr)=(⟨b,p.off,none⟩:Addr).add p.inn:=by rw [addr_add];simp [ZI.tot,hrow]
        rw [e]
        refine .pview _ _ ⟨b,p.off,none⟩ _ (hr E w _ he hd) (fun j c hj=> ?_)
        rw [addr_add]
        grind [Xg,Z0s]
     simp_all
    ·rename_i sz n f hg
     split at hl
     ·rename_i hsz
      have hsz:=J0 hsz
      obtain ⟨hrow,hl⟩:=Zc hl
      split at hl
      ·rename_i rest hrest
       obtain ⟨rest',hK,hr⟩:=UA hm d false rest _ hl
       refine ⟨_,hK,fun E w r he hv=> ?_⟩
       cases hv with
       | ptr p b N hb=>
        cases he.own _ _ hg with
        | rows0 sz n f h0 hn=>omega
        | rows sz n f b' cells elem fr g hb' hw hf hc hlg hvs=>
         rw [hb] at hb'
         cases hb'
         have hd:=(ZF _ _ _ _ hrest (hc _ hrow)).1
         have e:(⟨b,p.tot,none⟩:Addr)=(⟨b,p.row*sz+p.off,none⟩:Addr).add p.inn:=by rw [addr_add];simp [ZI.tot,hsz]
         rw [e]
         refine .pview _ _ ⟨b,p.row*sz+p.off,none⟩ _ (hr E w _ he hd) (fun j c hj=> ?_)
         rw [addr_add]
         grind [Xg,cell_of_heap]
      simp_all
     simp_all
    simp_all
  ·rename_i p esz len lo
   split at hl
   ·rename_i ix hmv
    split at hl
    ·simp_all
    ·refine ⟨_,hl,fun E w r he hv=> ?_⟩
     cases hv with
     | nslice0 p esz len lo a h1 h2=>exact .nslice0 _ _ _ _ a h1 h2
     | nslice p esz len lo b N cap hb h1 h2 h3=>exact .nslice ⟨ix,p.row,p.sz,p.off,p.inn⟩ _ _ _ b N cap (by rw [W1 hmv];exact hb) h1 h2 h3
   ·rename_i hmv
    split at hl
    ·rename_i k xs hg
     split at hl
     ·rename_i hes
      have hes:=J0 hes
      subst hes
      obtain ⟨hle,hK⟩:=Zc hl
      have hlen:((ZS p.tot xs).take len).length=len:=by rw [Y6,Jk,Jd];omega
      refine ⟨_,hK,fun E w r he hv=> ?_⟩
      cases hv with
      | nslice0 p esz len lo a h1 h2=>
       subst h1
       cases a with
       | none=>exact .vintsNil _ _ _ (by simp) rfl
       | some a=>exact .vints _ _ _ a 0 (by simp) (by simp) (fun i hi=>by simp at hi)
      | nslice p esz len lo b N cap hb h1 h2 h3=>
       refine .vints _ _ _ _ cap (by omega) (by omega) (fun i hi=> ?_)
       rw [hlen] at hi
       rw [addr_add]
       refine Xg he hm hg hb hmv ?_
       cases he.own _ _ hg with
       | ints0 k xs h0 hn=>rw [hn] at hb;cases hb
       | ints k xs b' cells elem fr hb' hw hf hvs=>
        rw [hb] at hb'
        cases hb'
        rw [cell_of_heap hw,hvs _ (by omega)]
        congr 2
        rw [Y6]
        simp_all
     simp_all
    ·rename_i sz n f hg
     split at hl
     ·rename_i hb
      simp only [J1,JN] at hb
      obtain ⟨⟨⟨q1,q2⟩,q3⟩,q4⟩:=hb
      have q1:=J0 q1
      have q2:=J0 q2
      have q3:=J0 q3
      obtain ⟨hle,hpl,hK⟩:=Zc hl
      refine ⟨_,hK,fun E w r he hv=> ?_⟩
      have htot:p.tot=p.row*sz:=by
       grind [J0,ZI.tot]
      cases hv with
      | nslice0 p esz len lo a h1 h2=>
       subst h1
       cases a with
       | none=>exact .vrowsNil _ _ _ _ rfl rfl
       | some a=>exact .vrows _ _ _ _ a 0 (fun _=>[]) (by omega) (by omega) (fun i hi=>by omega) (fun i hi=>by omega) (fun i j c hi=>by omega)
      | nslice p esz len lo b N cap hb h1 h2 h3=>
       cases he.own _ _ hg with
       | rows0 sz n f h0 hn=>rw [hn] at hb;cases hb
       | rows sz n f b' cells elem fr g hb' hw hf hc hlg hvs=>
        rw [hb] at hb'
        cases hb'
        refine .vrows _ _ _ _ _ cap (fun i=>g (p.row+i)) (by omega) h1 (fun i hi=> ?_) (fun i hi=>by rw [<-q1];grind) (fun i j c hi hj=> ?_)
        ·have:=hc (p.row+i) (by omega)
         have hp:=hpl i hi
         rw [WA] at hp⊢
         exact this.plain hp
        ·rw [addr_add]
         refine Xg he hm hg hb hmv ?_
         rw [cell_of_heap hw,htot,<-q1]
         have:=hvs (p.row+i) j c (by omega) hj
         rw [K4] at this
         rw [show p.row*sz+(i*sz+j)=p.row*sz+i*sz+j by omega]
         exact this
     simp_all
    ·rename_i cs hg
     split at hl
     ·rename_i rest hrow hrest
      have hbase:∀(E:Env) (w:World) (b N:Nat),Emb E h w->E.blk p.blk=some (b,N)->∃vs,Zj E rest vs/\∀j c,vs[j]? =some c->w.cell? ⟨b,p.off+j,none⟩=some c:=by
       intro E w b N he hb
       cases he.own _ _ hg with
       | flat0 cs h0 hn=>rw [hn] at hb;cases hb
       | flat cs b' cells elem fr vs hb' hw hf hc hvs=>
        rw [hb] at hb'
        cases hb'
        refine ⟨_,(ZF _ _ _ _ hrest hc).1,fun j c hj=> ?_⟩
        rw [JA] at hj
        exact Z0s hvs hw hj
      split at hl
      ·split at hl
       ·rename_i k n xs rest2 harr
        split at hl
        ·rename_i hes hbb
         have hes:=J0 hes
         subst hes
         rw [J1] at hbb
         have e1:=J0 hbb.1
         have e2:=J0 hbb.2
         obtain ⟨hxl,hK⟩:=Zc hl
         refine ⟨_,hK,fun E w r he hv=> ?_⟩
         cases hv with
         | nslice0 p esz len lo a h1 h2=>
          have hx0:xs=[]:=by
           grind
          subst hx0
          subst h1
          cases a with
          | none=>exact .vintsNil _ _ _ rfl rfl
          | some a=>exact .vints _ _ _ a 0 (by simp) (by simp) (fun i hi=>by simp at hi)
         | nslice p esz len lo b N cap hb h1 h2 h3=>
          obtain ⟨vs,hcr,hcell⟩:=hbase E w b N he hb
          obtain ⟨ws,rfl,_⟩:=Zj.cons_arr hcr
          refine .vints _ _ _ _ cap (by omega) (by omega) (fun i hi=> ?_)
          rw [addr_add]
          refine Xg he hm hg hb hmv ?_
          have:=hcell i (.int k (xs.getD i 0)) (by
           rw [J7 (by rw [Z8];omega),Zf (by omega)])
          rw [show p.tot+i=p.off+i by simp [ZI.tot,hrow,e1]]
          exact this
        ·rename_i hes hbb
         have hes:=J0 hes
         subst hes
         obtain ⟨⟨hxl,hle⟩,hK⟩:=Zc hl
         have hlen:((ZS p.inn xs).take len).length=len:=by rw [Y6,Jk,Jd];omega
         refine ⟨_,hK,fun E w r he hv=> ?_⟩
         cases hv with
         | nslice0 p esz len lo a h1 h2=>
          subst h1
          cases a with
          | none=>exact .vintsNil _ _ _ (by simp) rfl
          | some a=>exact .vints _ _ _ a 0 (by simp) (by simp) (fun i hi=>by simp at hi)
         | nslice p esz len lo b N cap hb h1 h2 h3=>
          obtain ⟨vs,hcr,hcell⟩:=hbase E w b N he hb
          obtain ⟨ws,rfl,_⟩:=Zj.cons_arr hcr
          refine .vints _ _ _ _ cap (by omega) (by omega) (fun i hi=> ?_)
          rw [hlen] at hi
          rw [addr_add]
          refine Xg he hm hg hb hmv ?_
          have:=hcell (p.inn+i) (.int k (xs.getD (p.inn+i) 0)) (by
           rw [J7 (by rw [Z8];omega),Zf (by omega)])
          rw [show p.tot+i=p.off+(p.inn+i) by simp [ZI.tot,hrow];omega]
          rw [this]
          congr 2
          rw [Y6]
          simp_all
        simp_all
       simp_all
      ·split at hl
       ·rename_i part hinn hpart
        have hinn:=J0 hinn
        obtain ⟨part',hK,hr⟩:=UA hm d false part _ hl
        split at hK
        ·rename_i hrows
         refine ⟨_,hK,fun E w r he hv=> ?_⟩
         cases hv with
         | nslice0 p esz len lo a h1 h2=>
          subst h1
          cases a with
          | none=>exact .vrowsNil _ _ _ _ rfl rfl
          | some a=>exact .vrows _ _ _ _ a 0 (fun _=>[]) (by omega) (by omega) (fun i hi=>by omega) (fun i hi=>by omega) (fun i j c hi=>by omega)
         | nslice p esz len lo b N cap hb h1 h2 h3=>
          obtain ⟨vs,hcr,hcell⟩:=hbase E w b N he hb
          have hpr:=(Wy _ _ _ _ hpart hcr).1
          have hpr':=hr E w _ he hpr
          refine .vrows _ _ _ _ _ cap (fun i=>((vs.take (len*esz)).drop (0+i*esz)).take esz) (by omega) h1 (fun i hi=>(YR (Yo hrows i hi) hpr').1) (fun i hi=>(YR (Yo hrows i hi) hpr').2) (fun i j c hi hj=> ?_)
          rw [addr_add]
          grind [Xg,ZI.tot]
        simp_all
       simp_all
     simp_all
    simp_all
  ·obtain ⟨fs',hl,h1⟩:=Z1B hm d t _ _ hl
   obtain ⟨cs',hl,h2⟩:=Z1B hm d t _ _ hl
   refine ⟨_,hl,fun E w r he hv=> ?_⟩
   cases hv with
   | func fn first captured fs cs ha hb=>exact .func _ _ _ _ _ (h1 E w _ he ha) (h2 E w _ he hb)
  ·obtain ⟨u',hl,h1⟩:=Z5S hm d t _ _ hl
   refine ⟨_,hl,fun E w r he hv=> ?_⟩
   cases hv with
   | iface T v x hx=>exact .iface _ _ _ (h1 E w _ he hx)
  ·obtain ⟨cs',hl,h1⟩:=UA hm d t _ _ hl
   refine ⟨_,hl,fun E w r he hv=> ?_⟩
   cases hv with
   | agg cs vs hc=>exact .agg _ _ (h1 E w _ he hc)
  ·obtain ⟨vs',hl,h1⟩:=Z1B hm d t _ _ hl
   refine ⟨_,hl,fun E w r he hv=> ?_⟩
   cases hv with
   | tuple vs rs hc=>exact .tuple _ _ (h1 E w _ he hc)
  simp_all
theorem UA {σ:List Nat} {h:Z7} (hm:∀x,x∈σ->∃B,h.get x=some B):∀(d:Nat) (t:Bool) (l:List AV) (K:List AV->Prop),vwC σ h t d l K->∃l₀,K l₀/\∀(E:Env) (w:World) (r:List Value),Emb E h w->Zj E l r->Zj (E.borL σ w t) l₀ r
 | 0,t,l,K,hl=>by unfold vwC at hl;simp_all
 | d+1,t,l,K,hl=>by
  unfold vwC at hl
  split at hl
  ·exact ⟨_,hl,fun E w r he hv=>by cases hv;exact .nil⟩
  ·obtain ⟨r',hl,h1⟩:=UA hm d t _ _ hl
   refine ⟨_,hl,fun E w r he hv=> ?_⟩
   obtain ⟨ws,rfl,ht⟩:=Zj.cons_arr hv
   exact .arr _ _ _ _ _ (h1 E w _ he ht)
  ·rename_i v r hna
   obtain ⟨v',hl,h1⟩:=Z5S hm d t _ _ hl
   split at hl
   ·rename_i hcell
    obtain ⟨r',hl,h2⟩:=UA hm d t _ _ hl
    refine ⟨_,hl,fun E w q he hv=> ?_⟩
    obtain ⟨c,ws,rfl,q1,q2,q3,q4⟩:=Zj.cons_cell hv (fun k m xs e=>hna k m xs e)
    exact .one _ _ _ _ hcell q2 (h1 E w _ he q3) (h2 E w _ he q4)
   ·exact hl.elim
theorem Z1B {σ:List Nat} {h:Z7} (hm:∀x,x∈σ->∃B,h.get x=some B):∀(d:Nat) (t:Bool) (l:List AV) (K:List AV->Prop),vwL σ h t d l K->∃l₀,K l₀/\∀(E:Env) (w:World) (r:List Value),Emb E h w->Zo E l r->Zo (E.borL σ w t) l₀ r
 | 0,t,l,K,hl=>by unfold vwL at hl;simp_all
 | d+1,t,l,K,hl=>by
  unfold vwL at hl
  split at hl
  ·exact ⟨_,hl,fun E w r he hv=>by cases hv;exact .nil⟩
  ·obtain ⟨v',hl,h1⟩:=Z5S hm d t _ _ hl
   obtain ⟨r',hl,h2⟩:=Z1B hm d t _ _ hl
   refine ⟨_,hl,fun E w q he hv=> ?_⟩
   cases hv with
   | cons v c vs cs ha hb=>exact .cons _ _ _ _ (h1 E w _ he ha) (h2 E w _ he hb)
end
def vwB (σ:List Nat) (h:Z7) (d:Nat) (B:Blk) (K:Blk->Prop):Prop:=
 match B with
 | .ints k xs=>K (.ints k xs)
 | .flat cs=>vwC σ h true d cs fun cs'=>match Nat.beq (csz cs') (csz cs) with|true=>K (.flat cs')|false=>False
 | .rows sz n f=>(∀i,i<n->plainC (f i)=true)/\K (.rows sz n f)
 | _=>False
theorem ZcL {h:Z7} (hm:∀x,x∈σ->∃B,h.get x=some B) {d:Nat} {B:Blk} {K:Blk->Prop} (hl:vwB σ h d B K):
  ∃B₀,K B₀/\∀(E:Env) (w:World) (x i:Nat),Emb E h w->Xf σ x=some i->ZN E w x B->ZN (E.borL σ w true) w i B₀:=by
 unfold vwB at hl
 split at hl
 ·refine ⟨_,hl,fun E w x i he hi hb=> ?_⟩
  have hq:=W1 (E:=E) (w:=w) hi
  cases hb with
  | ints0 k xs h0 hn=>exact .ints0 _ _ h0 (hq.trans hn)
  | ints k xs b cells elem fr hb hw hf hv=>exact .ints _ _ b cells elem fr (hq.trans hb) hw hf hv
 ·obtain ⟨cs',hl,hr⟩:=UA hm _ _ _ _ hl
  split at hl
  ·rename_i hz
   have hz:=J0 hz
   refine ⟨_,hl,fun E w x i he hi hb=> ?_⟩
   have hq:=W1 (E:=E) (w:=w) hi
   cases hb with
   | flat0 cs h0 hn=>exact .flat0 _ (hz.trans h0) (hq.trans hn)
   | flat cs b cells elem fr vs hb hw hf hc hv=>exact .flat _ b cells elem fr vs (hq.trans hb) hw hf (hr E w vs he hc) hv
  simp_all
 ·obtain ⟨hp,hl⟩:=hl
  refine ⟨_,hl,fun E w x i he hi hb=> ?_⟩
  have hq:=W1 (E:=E) (w:=w) hi
  cases hb with
  | rows0 sz n f h0 hn=>exact .rows0 _ _ _ h0 (hq.trans hn)
  | rows sz n f b cells elem fr g hb hw hf hc hl hv=>exact .rows _ _ _ b cells elem fr g (hq.trans hb) hw hf (fun i hi=>(hc i hi).plain (hp i hi)) hl hv
 simp_all
def ZaW (σ:List Nat) (h:Z7) (d:Nat):List Nat->(List Blk->Prop)->Prop
 | [],K=>K []
 | x::r,K=>match h.get x with
  | some B=>vwB σ h d B fun B'=>ZaW σ h d r fun Bs=>K (B'::Bs)
  | none=>False
theorem Z6N {σ:List Nat} {h:Z7} (hm:∀x,x∈σ->∃B,h.get x=some B) {d:Nat}:∀(r:List Nat) (K:List Blk->Prop),ZaW σ h d r K->
  ∃Bs,K Bs/\Bs.length=r.length/\∀(i x:Nat) (B:Blk),r[i]? =some x->Bs[i]? =some B->∃B',h.get x=some B'/\∀(E:Env) (w:World) (j:Nat),Emb E h w->Xf σ x=some j->ZN E w x B'->ZN (E.borL σ w true) w j B
 | [],K,hl=>⟨[],hl,rfl,fun i x B h=>by simp at h⟩
 | y::r,K,hl=>by
  unfold ZaW at hl
  split at hl
  ·rename_i B' hB'
   obtain ⟨B₀,hl,hr⟩:=ZcL hm hl
   obtain ⟨Bs,hK,hlen,hall⟩:=Z6N hm r _ hl
   refine ⟨B₀::Bs,hK,by simp [hlen],fun i x B h1 h2=> ?_⟩
   match i with
   | 0=>simp at h1 h2;subst h1;subst h2;exact ⟨B',hB',fun E w j he hj hb=>hr E w _ j he hj hb⟩
   | i+1=>exact hall i x B (by simpa using h1) (by simpa using h2)
  ·exact hl.elim
def hasB (h:Z7):List Nat->Bool
 | []=>true
 | x::r=>match h.get x with|some _=>hasB h r|none=>false
theorem Z6O {h:Z7}:∀{σ:List Nat},hasB h σ=true->∀x,x∈σ->∃B,h.get x=some B
 | [],_,x,hx=>by simp at hx
 | y::r,hl,x,hx=>by
  unfold hasB at hl
  split at hl
  ·rename_i B hB
   rcases J5.1 hx with rfl|hx
   ·exact ⟨B,hB⟩
   ·exact Z6O hl x hx
  ·cases hl
def Z2F:List Nat->Bool
 | []=>true
 | x::r=>match Xf r x with|some _=>false|none=>Z2F r
theorem VD:∀{σ:List Nat},Z2F σ=true->∀(i x:Nat),YP σ i=some x->Xf σ x=some i
 | [],_,i,x,h=>by simp [YP] at h
 | y::r,hd,0,x,h=>by simp_all [YP,Xf]
 | y::r,hd,i+1,x,h=>by
  unfold Z2F at hd
  split at hd
  ·cases hd
  ·rename_i hn
   have h1:YP r i=some x:=h
   have h2:=VD hd i x h1
   have hne:y≠x:=fun e=>QB hn (e▸X3 h1)
   simp [Xf,Zp hne,h2]
def frA (σ:List Nat) (h:Z7) (d:Nat) (args:List AV) (K0:List Blk->List AV->Prop):Prop:=
 match hasB h σ&&Z2F σ with
 | true=>ZaW σ h d σ fun Bs=>vwL σ h true d args fun a=>K0 Bs a
 | false=>False
theorem Z1C:∀{σ:List Nat} {i:Nat},YP σ i=σ[i]?
 | [],_=>by simp [YP]
 | x::r,0=>by simp [YP]
 | x::r,i+1=>by simp [YP,Z1C (σ:=r)]
theorem ZcM {h:Z7} {d:Nat} (hl:frA σ h d args K0):
  (∀x,x∈σ->∃B,h.get x=some B)/\Z2F σ=true/\∃Bs a,K0 Bs a/\Bs.length=σ.length/\
   (∀(i x:Nat) (B:Blk),YP σ i=some x->Bs[i]? =some B->∃B',h.get x=some B'/\∀(E:Env) (w:World),Emb E h w->ZN E w x B'->ZN (E.borL σ w true) w i B)/\
   ∀(E:Env) (w:World) (r:List Value),Emb E h w->Zo E args r->Zo (E.borL σ w true) a r:=by
 unfold frA at hl
 split at hl
 ·rename_i hc
  rw [J1] at hc
  have hm:=Z6O hc.1
  grind [Z6N,Z1B,Z1C,VD]
 simp_all
def Spec (P:Program) (f:FuncId) (args:List AV) (h0:Z7) (o:Out) (nx:Nat) (bs:List (Nat×Blk)):Prop:=
 ∀(E:Env) (w:World) (rs:List Value),Emb E h0 w->Zo E args rs->Calls P f rs.toArray w fun e w'=>∃E',Evo E h0 w E' ⟨nx,bs⟩ w'/\Up E' o e
theorem Z6P {k:Nat} {τ:Ren} {u:AV} {bs:List (Nat×Blk)} {h0 h:Z7} (hk:k=h0.next) (hl:ZG k τ ⟨1,[(0,v)],⟨nx,bs⟩,[]⟩ ⟨1,[(0,u)],h,[]⟩ True) {E0:Env} {w0 w:World} {r:Value}
  (he0:Emb E0 h0 w0) (hev:Evo E0 h0 w0 E h w) (hr:Zb E u r):∃E',Evo E0 h0 w0 E' ⟨nx,bs⟩ w/\Zb E' v r:=by
 obtain ⟨_,hw⟩:=ZT hl
 have hs:Wt E ⟨1,[(0,u)],h,[]⟩ { tmps:= #[r],defers:=[]} w:=by
  refine ⟨hev.emb,⟨rfl,fun x v' hx=> ?_⟩,.nil⟩
  simp only [Zu] at hx
  split at hx
  all_goals simp_all
 obtain ⟨E₂,hs2,hev2⟩:=hw E0 h0 w0 E _ w (fun x hx=>he0.fresh x (hk▸hx)) hs hev
 refine ⟨E₂,hev2, ?_⟩
 have:=hs2.tmps.get 0 v (by simp [Zu])
 simp_all
def mvN:List Nat->Nat->Nat->Nat
 | [],d,y=>d+y
 | x::_,_,0=>x
 | _::r,d,y+1=>mvN r d y
theorem Z5T:∀{σ:List Nat} {d y x:Nat},YP σ y=some x->mvN σ d y=x
 | [],_,_,_,h=>by simp [YP] at h
 | x::r,d,0,_,h=>by simpa [YP,mvN] using h
 | x::r,d,y+1,_,h=>Z5T (σ:=r) h
theorem Z5U:∀{σ:List Nat} {d y:Nat},σ.length<=y->mvN σ d y=d+(y-σ.length)
 | [],d,y,_=>by simp [mvN]
 | x::r,d,0,h=>by simp at h
 | x::r,d,y+1,h=>by
  simp at h
  have:=Z5U (σ:=r) (d:=d) h
  simp [mvN,this]
theorem UB:∀{σ:List Nat} {y:Nat},y<σ.length->∃x,YP σ y=some x
 | [],_,h=>by simp at h
 | x::r,0,_=>⟨x,rfl⟩
 | x::r,y+1,h=>UB (σ:=r) (by simp_all)
mutual
/-- Names moved. -/
def mvV (σ:List Nat) (d:Nat):AV->Option AV
 | .top=>some .top
 | .bool b=>some (.bool b)
 | .int k n=>some (.int k n)
 | .str s=>some (.str s)
 | .ptr none=>some (.ptr none)
 | .ptr (some p)=>some (.ptr (some ⟨mvN σ d p.blk,p.row,p.sz,p.off,p.inn⟩))
 | .nslice p esz len lo=>some (.nslice ⟨mvN σ d p.blk,p.row,p.sz,p.off,p.inn⟩ esz len lo)
 | .eslice=>some .eslice
 | .fslice=>some .fslice
 | .nilslice=>some .nilslice
 | .map none=>some (.map none)
 | .map (some x)=>some (.map (some (mvN σ d x)))
 | .nilFunc=>some .nilFunc
 | .nilIface=>some .nilIface
 | .func (.func g) fs cs=>match mvL σ d fs,mvL σ d cs with
  | some fs',some cs'=>some (.func (.func g) fs' cs')
  | _,_=>none
 | .iface t v=>match mvV σ d v with|some v'=>some (.iface t v')|none=>none
 | .agg cs=>match mvC σ d cs with|some cs'=>some (.agg cs')|none=>none
 | .tuple vs=>match mvL σ d vs with|some vs'=>some (.tuple vs')|none=>none
 | _=>none
def mvC (σ:List Nat) (d:Nat):List AV->Option (List AV)
 | []=>some []
 | .arr k n xs::r=>match mvC σ d r with|some r'=>some (.arr k n xs::r')|none=>none
 | v::r=>match mvV σ d v,mvC σ d r with
  | some v',some r'=>match v'.isCell with|true=>some (v'::r')|false=>none
  | _,_=>none
def mvL (σ:List Nat) (d:Nat):List AV->Option (List AV)
 | []=>some []
 | v::r=>match mvV σ d v,mvL σ d r with
  | some v',some r'=>some (v'::r')
  | _,_=>none
end
theorem QC (h:v.isCell=true) (r:List AV):csz (v::r)=1+csz r:=by
 cases v<;>simp_all [AV.isCell,csz]
set_option maxHeartbeats 1000000 in
mutual
theorem Z1D {σ:List Nat} {d:Nat} {E E':Env} (hb:∀x r,E.blk x=some r->E'.blk (mvN σ d x)=some r):∀(v v':AV) (r:Value),mvV σ d v=some v'->Zb E v r->Zb E' v' r:=by
 intro v v' r h hv
 unfold mvV at h
 split at h
 ·cases h;exact .top r
 ·cases h;exact hv.plain rfl
 ·cases h;exact hv.plain rfl
 ·cases h;exact hv.plain rfl
 ·cases h;exact hv.plain rfl
 ·cases h
  cases hv with
  | ptr p b N hq=>exact .ptr ⟨mvN σ d _,_,_,_,_⟩ b N (hb _ _ hq)
 ·cases h
  cases hv with
  | nslice0 p esz len lo a h1 h2=>exact .nslice0 _ _ _ _ a h1 h2
  | nslice p esz len lo b N cap hq h1 h2 h3=>exact .nslice ⟨mvN σ d _,_,_,_,_⟩ _ _ _ b N cap (hb _ _ hq) h1 h2 h3
 ·cases h;exact hv.plain rfl
 ·cases h;exact hv.plain rfl
 ·cases h;exact hv.plain rfl
 ·cases h;exact hv.plain rfl
 ·cases h
  cases hv with
  | map x b N hq=>exact .map _ b N (hb _ _ hq)
 ·cases h;exact hv.plain rfl
 ·cases h;exact hv.plain rfl
 ·split at h
  ·rename_i fs' cs' h1 h2
   cases h
   cases hv with
   | func fn first captured fs cs ha hc=>exact .func _ _ _ _ _ (QD hb _ _ _ h1 ha) (QD hb _ _ _ h2 hc)
  ·cases h
 ·split at h
  ·rename_i v1 h1
   cases h
   cases hv with
   | iface t v x hx=>exact .iface _ _ _ (Z1D hb _ _ _ h1 hx)
  ·cases h
 ·split at h
  ·rename_i cs' h1
   cases h
   cases hv with
   | agg cs vs hc=>exact .agg _ _ (Z1E hb _ _ _ h1 hc).1
  ·cases h
 ·split at h
  ·rename_i vs' h1
   cases h
   cases hv with
   | tuple vs rs hc=>exact .tuple _ _ (QD hb _ _ _ h1 hc)
  ·cases h
 ·cases h
theorem Z1E {σ:List Nat} {d:Nat} {E E':Env} (hb:∀x r,E.blk x=some r->E'.blk (mvN σ d x)=some r):∀(l l':List AV) (r:List Value),mvC σ d l=some l'->Zj E l r->Zj E' l' r/\csz l'=csz l:=by
 intro l l' r h hv
 unfold mvC at h
 split at h
 ·cases h;cases hv;exact ⟨.nil,rfl⟩
 ·split at h
  ·rename_i r' h1
   cases h
   obtain ⟨ws,rfl,ht⟩:=Zj.cons_arr hv
   have:=Z1E hb _ _ _ h1 ht
   exact ⟨.arr _ _ _ _ _ this.1,by simp [csz,this.2]⟩
  ·cases h
 ·rename_i v r2 hna
  split at h
  ·rename_i v1 r1 h1 h2
   split at h
   ·rename_i hcell
    cases h
    obtain ⟨c,ws,rfl,q1,q2,q3,q4⟩:=Zj.cons_cell hv (fun k m xs e=>hna k m xs e)
    have:=Z1E hb _ _ _ h2 q4
    exact ⟨.one _ _ _ _ hcell q2 (Z1D hb _ _ _ h1 q3) this.1,by rw [QC hcell,QC q1,this.2]⟩
   ·cases h
  ·cases h
theorem QD {σ:List Nat} {d:Nat} {E E':Env} (hb:∀x r,E.blk x=some r->E'.blk (mvN σ d x)=some r):∀(l l':List AV) (r:List Value),mvL σ d l=some l'->Zo E l r->Zo E' l' r:=by
 intro l l' r h hv
 unfold mvL at h
 split at h
 ·cases h;cases hv;exact .nil
 ·split at h
  ·rename_i v1 r1 h1 h2
   cases h
   cases hv with
   | cons v c vs cs ha hc=>exact .cons _ _ _ _ (Z1D hb _ _ _ h1 ha) (QD hb _ _ _ h2 hc)
  ·cases h
end
theorem ZaX {d:Nat}:∀(l l':List AV),mvC σ d l=some l'->csz l'=csz l:=by
 intro l
 induction l with
 | nil=>intro l' h;unfold mvC at h;simp_all
 | cons v r ih=>
  intro l' h
  unfold mvC at h
  grind [csz,QC]
inductive MvB (σ:List Nat) (d:Nat):Blk->Blk->Prop
 | ints (k:IntKind) (xs:LI):MvB σ d (.ints k xs) (.ints k xs)
 | flat (cs cs':List AV) (h:mvC σ d cs=some cs'):MvB σ d (.flat cs) (.flat cs')
 | rows (sz n:Nat) (f:Nat->List AV) (h:∀i,i<n->plainC (f i)=true):MvB σ d (.rows sz n f) (.rows sz n f)
 | rowsM (sz n:Nat) (f f':Nat->List AV) (h:∀i,i<n->mvC σ d (f i)=some (f' i)):MvB σ d (.rows sz n f) (.rows sz n f')
 | pmap (es es':List (AV×AV)) (h1:mvL σ d (es.map (·.1))=some (es'.map (·.1))) (h2:mvL σ d (es.map (·.2))=some (es'.map (·.2))):MvB σ d (.pmap es) (.pmap es')
inductive Z5V (σ:List Nat) (d:Nat):List (Nat×Blk)->List (Nat×Blk)->Prop
 | nil:Z5V σ d [] []
 | cons (y x:Nat) (B B':Blk) (r r':List (Nat×Blk)) (hx:mvN σ d y=x) (h:MvB σ d B B') (t:Z5V σ d r r'):Z5V σ d ((y,B)::r) ((x,B')::r')
inductive MvO (σ:List Nat) (d:Nat):Out->Out->Prop
 | ret (v v':AV) (h:mvV σ d v=some v'):MvO σ d (.ret v) (.ret v')
 | panic (v v':AV) (h:mvV σ d v=some v'):MvO σ d (.panic v) (.panic v')
theorem Z5V.get {d:Nat}:∀{bs bs':List (Nat×Blk)},Z5V σ d bs bs'->∀x B',ZB bs' x=some B'->∃y B,mvN σ d y=x/\ZB bs y=some B/\MvB σ d B B'
 | _,_,.nil,x,B',h=>by simp [ZB] at h
 | _,_,.cons y x0 B B0 r r' hx hm t,x,B',h=>by
  unfold ZB at h
  split at h
  ·grind [J0,ZB,Je]
  ·obtain ⟨z,C,h1,h2,h3⟩:=t.get x B' h
   grind [Je,ZB,Zp]
theorem MvB.move {d:Nat} {B B':Blk} (hm:MvB σ d B B') {E':Env} {w:World} {y:Nat} (hb:∀x r,E.blk x=some r->E'.blk (mvN σ d x)=some r) (hn:E.blk y=none->E'.blk (mvN σ d y)=none) (h:ZN E w y B):ZN E' w (mvN σ d y) B':=by
 cases hm with
 | ints k xs=>cases h with
  | ints0 k xs h0 hq=>exact .ints0 _ _ h0 (hn hq)
  | ints k xs b cells elem fr hq hw hf hv=>exact .ints _ _ b cells elem fr (hb _ _ hq) hw hf hv
 | flat cs cs' hc=>cases h with
  | flat0 cs h0 hq=>exact .flat0 _ ((ZaX _ _ hc).trans h0) (hn hq)
  | flat cs b cells elem fr vs hq hw hf hcr hv=>exact .flat _ b cells elem fr vs (hb _ _ hq) hw hf (Z1E hb _ _ _ hc hcr).1 hv
 | rows sz n f hp=>cases h with
  | rows0 sz n f h0 hq=>exact .rows0 _ _ _ h0 (hn hq)
  | rows sz n f b cells elem fr g hq hw hf hcr hl hv=>exact .rows _ _ _ b cells elem fr g (hb _ _ hq) hw hf (fun i hi=>(hcr i hi).plain (hp i hi)) hl hv
 | rowsM sz n f f' hp=>cases h with
  | rows0 sz n f h0 hq=>exact .rows0 _ _ _ h0 (hn hq)
  | rows sz n f b cells elem fr g hq hw hf hcr hl hv=>exact .rows _ _ _ b cells elem fr g (hb _ _ hq) hw hf (fun i hi=>(Z1E hb _ _ _ (hp i hi) (hcr i hi)).1) hl hv
 | pmap es es' h1 h2=>cases h with
  | pmap es b k ents ents' clock hq hw hpp hnn hi hk hv=>exact .pmap _ b k ents ents' clock (hb _ _ hq) hw hpp hnn hi (QD hb _ _ _ h1 hk) (QD hb _ _ _ h2 hv)
def VT (σ:List Nat) (bs:List (Nat×Blk)):List (Nat×Blk):=match σ with
 | []=>bs
 | x::r=>VT r (Ug bs x)
theorem Z02:∀{σ:List Nat} {bs:List (Nat×Blk)} {x:Nat} {B:Blk},ZB (VT σ bs) x=some B->ZB bs x=some B/\x∉σ
 | [],bs,x,B,h=>⟨h,by simp⟩
 | y::r,bs,x,B,h=>by
  obtain ⟨h1,h2⟩:=Z02 (σ:=r) h
  by_cases hn:y=x
  all_goals simp_all [U1,XR,Ne.symm]
theorem Spec.calls {P:Program} {args₀:List AV} {Bs:List Blk} {o o':Out} {bs bs':List (Nat×Blk)} {h:Z7} (hc:Spec P f args₀ ⟨σ.length,XE 0 σ Bs⟩ o nx bs)
  (hlen:Bs.length=σ.length) (hm:∀x,x∈σ->∃B,h.get x=some B) (hd:Z2F σ=true)
  (hx:∀(i x:Nat) (B:Blk),YP σ i=some x->Bs[i]? =some B->∃B',h.get x=some B'/\∀(E:Env) (w:World),Emb E h w->ZN E w x B'->ZN (E.borL σ w true) w i B)
  (ha:∀(E:Env) (w:World) (r:List Value),Emb E h w->Zo E args r->Zo (E.borL σ w true) args₀ r)
  (hnx:σ.length<=nx) (ho:MvO σ h.next o o') (hb:Z5V σ h.next bs bs') (hK:K o' ⟨h.next+(nx-σ.length),Vy bs' (VT σ h.bs)⟩):Zh P f args h K:=by
 intro E w rs he hr
 let E0:=E.borL σ w true
 have hsub:∀i x,YP σ i=some x->E0.blk i=E.blk x:=fun i x hi=>by
  show (match YP σ i with|some x=>E.blk x|none=>none)=_
  rw [hi]
 have hnone:∀i,σ.length<=i->E0.blk i=none:=fun i hi=>by
  show (match YP σ i with|some x=>E.blk x|none=>none)=_
  rw [Z6M hi]
 have hσlt:∀x,x∈σ->x<h.next:=fun x hx=>let ⟨B,hB⟩:=hm x hx;he.lt x B hB
 have hsb:∀y B,ZB (XE 0 σ Bs) y=some B->∃x,YP σ y=some x/\Bs[y]? =some B:=fun y B hy=>by
  obtain ⟨i,x,rfl,h1,h2⟩:=Xe σ Bs 0 y B hy
  rw [Jp]
  exact ⟨x,by rw [Z1C];exact h1,h2⟩
 have hinj:∀y z x,YP σ y=some x->YP σ z=some x->y=z:=fun y z x h1 h2=>by
  have a:=VD hd y x h1
  have b:=VD hd z x h2
  rw [a] at b
  simp_all
 have hemb:Emb E0 ⟨σ.length,XE 0 σ Bs⟩ w:=by
  refine ⟨hnone, ?_, ?_, ?_,fun _ _ h=>h.1, ?_⟩
  ·intro y B hy
   obtain ⟨x,h1,_⟩:=hsb y B hy
   grind
  ·intro y B hy
   obtain ⟨x,h1,h2⟩:=hsb y B hy
   obtain ⟨B',hB',hq⟩:=hx y x B h1 h2
   exact hq E w he (he.own x B' hB')
  ·intro y z B C b N N' hy hz hby hbz
   obtain ⟨x,h1,h2⟩:=hsb y B hy
   obtain ⟨x',h3,h4⟩:=hsb z C hz
   rw [hsub y x h1] at hby
   rw [hsub z x' h3] at hbz
   obtain ⟨B',hB'⟩:=hm x (X3 h1)
   obtain ⟨C',hC'⟩:=hm x' (X3 h3)
   have:=he.disj x x' B' C' b N N' hB' hC' hby hbz
   grind
  ·intro a c y B N hi hy hbb
   obtain ⟨x,h1,_⟩:=hsb y B hy
   rw [hsub y x h1] at hbb
   exact hi.2 x (X3 h1) N hbb
 refine (hc E0 w rs hemb (ha E w rs he hr)).mono ?_
 rintro e w' ⟨E₁,hev,hor⟩
 let E':Env:=⟨fun x=>match Xf σ x with
  | some i=>E₁.blk i
  | none=>if x<h.next then E.blk x else E₁.blk (x-h.next+σ.length),E.imm⟩
 have hρ:∀y,E'.blk (mvN σ h.next y)=E₁.blk y:=fun y=>by
  rcases Jj y σ.length with hlt|hge
  ·obtain ⟨x,hx'⟩:=UB hlt
   rw [Z5T hx']
   show (match Xf σ x with|some i=>_|none=>_)=_
   rw [VD hd y x hx']
  ·rw [Z5U hge]
   have hn:Xf σ (h.next+(y-σ.length))=none:=by
    cases hq:Xf σ (h.next+(y-σ.length)) with
    | none=>rfl
    | some i=>have:=hσlt _ (X3 (WO hq));omega
   grind
 have hold:∀x,x<h.next->Xf σ x=none->E'.blk x=E.blk x:=fun x hx hn=>by
  grind
 have hfresh:∀x,E.blk x≠none->x<h.next:=fun x hx=>by
  rcases Jj x h.next with hl|hg
  ·exact hl
  ·exact absurd (he.fresh x hg) hx
 have hle:E.le E':=⟨fun x q hq=>by
  cases hi:Xf σ x with
  | some i=>
   show (match Xf σ x with|some i=>_|none=>_)=_
   rw [hi]
   exact hev.le.blk i q ((hsub i x (WO hi)).trans hq)
  | none=>rw [hold x (hfresh x (by rw [hq];simp)) hi];exact hq,fun _ _ h=>h⟩
 have hown0:∀b,YQ E0 ⟨σ.length,XE 0 σ Bs⟩ b->∃x N,x∈σ/\E.blk x=some (b,N):=fun b ⟨y,B,N,hy,hbb⟩=>by
  obtain ⟨x,h1,_⟩:=hsb y B hy
  grind [X3]
 have hkeep:∀b,b<w.heap.size->(∀x N,x∈σ->E.blk x=some (b,N)->False)->w'.heap[b]? =w.heap[b]?:=fun b hb hn=>hev.keep b hb (fun ho=>let ⟨x,N,h1,h2⟩:=hown0 b ho;hn x N h1 h2)
 have hget:∀x B',Z7.get ⟨h.next+(nx-σ.length),Vy bs' (VT σ h.bs)⟩ x=some B'->
   (∃y B,mvN σ h.next y=x/\ZB bs y=some B/\MvB σ h.next B B')\/(x<h.next/\x∉σ/\h.get x=some B'):=fun x B' hx=>by
  simp only [Z7.get,Z2x] at hx
  split at hx
  ·rename_i B0 hq
   cases hx
   exact .inl (hb.get x _ hq)
  ·obtain ⟨h1,h2⟩:=Z02 hx
   exact .inr ⟨he.lt x B' h1,h2,h1⟩
 have hni:∀x,x∉σ->Xf σ x=none:=fun x hx=>by
  cases hq:Xf σ x with
  | none=>rfl
  | some i=>exact absurd (X3 (WO hq)) hx
 have hmix:∀y B z C b N N',ZB bs y=some B->E₁.blk y=some (b,N)->z∉σ->h.get z=some C->E.blk z=some (b,N')->False:=fun y B z C b N N' hy hby hz hz' hbz=>by
  rcases hev.own b ⟨y,B,N,hy,hby⟩ with ho|hs
  ·obtain ⟨x,M,h1,h2⟩:=hown0 b ho
   obtain ⟨D,hD⟩:=hm x h1
   have:=he.disj x z D C b M N' hD hz' h2 hbz
   subst this
   exact hz h1
  ·have:=(he.own z C hz').lt hbz
   omega
 have himm0:∀a c,E.imm a c->E0.imm a c:=fun a c hi=>⟨he.imm a c hi,fun x hx N hbb=>let ⟨B,hB⟩:=hm x hx;he.sep a c x B N hi hB hbb⟩
 have hemb':Emb E' ⟨h.next+(nx-σ.length),Vy bs' (VT σ h.bs)⟩ w':=by
  refine ⟨?_, ?_, ?_, ?_, ?_, ?_⟩
  ·intro x hx
   have hx':h.next+(nx-σ.length)<=x:=hx
   have hn:Xf σ x=none:=hni x (fun hq=>by have:=hσlt x hq;omega)
   show (match Xf σ x with|some i=>_|none=>_)=_
   rw [hn]
   show (if _ then _ else _)=_
   rw [if_neg (by omega)]
   exact hev.emb.fresh _ (by show nx<=_;omega)
  ·intro x B hx
   show x<h.next+(nx-σ.length)
   rcases hget x B hx with ⟨y,B0,rfl,hy,_⟩|⟨hlt,_,_⟩
   ·have hyn:y<nx:=hev.emb.lt y B0 hy
    rcases Jj y σ.length with hlt|hge
    ·obtain ⟨x,hx'⟩:=UB hlt
     rw [Z5T hx']
     have:=hσlt x (X3 hx')
     omega
    ·rw [Z5U hge]
     omega
   ·omega
  ·intro x B hx
   rcases hget x B hx with ⟨y,B0,rfl,hy,hmv⟩|⟨hlt,hnσ,hx'⟩
   ·exact hmv.move (E:=E₁) (fun x r hq=>by rw [hρ];exact hq) (fun hq=>by rw [hρ];exact hq) (hev.emb.own y B0 hy)
   ·have h1:=(he.own x B hx').mono hle (fun hn=>by rw [hold x hlt (hni x hnσ)];exact hn)
    refine h1.congr fun b N hbb=> ?_
    rw [hold x hlt (hni x hnσ)] at hbb
    refine hkeep b ((he.own x B hx').lt hbb) fun z M hz hbz=> ?_
    obtain ⟨D,hD⟩:=hm z hz
    have:=he.disj x z B D b N M hx' hD hbb hbz
    subst this
    exact hnσ hz
  ·intro x z B C b N N' hx hz hbx hbz
   rcases hget x B hx with ⟨y,B0,rfl,hy,hmv⟩|⟨hlt,hnσ,hx'⟩<;>rcases hget z C hz with ⟨y',C0,rfl,hy',hmv'⟩|⟨hlt',hnσ',hz'⟩
   ·rw [hρ] at hbx hbz
    rw [hev.emb.disj y y' B0 C0 b N N' hy hy' hbx hbz]
   ·rw [hρ] at hbx
    rw [hold z hlt' (hni z hnσ')] at hbz
    exact (hmix y B0 z C b N N' hy hbx hnσ' hz' hbz).elim
   ·rw [hρ] at hbz
    rw [hold x hlt (hni x hnσ)] at hbx
    exact (hmix y' C0 x B b N' N hy' hbz hnσ hx' hbx).elim
   ·rw [hold x hlt (hni x hnσ)] at hbx
    rw [hold z hlt' (hni z hnσ')] at hbz
    exact he.disj x z B C b N N' hx' hz' hbx hbz
  ·intro a c hi
   exact hev.emb.imm a c (hev.le.imm a c (himm0 a c hi))
  ·intro a c x B N hi hx hbx
   rcases hget x B hx with ⟨y,B0,rfl,hy,hmv⟩|⟨hlt,hnσ,hx'⟩
   ·rw [hρ] at hbx
    exact hev.emb.sep a c y B0 N (hev.le.imm a c (himm0 a c hi)) hy hbx
   ·rw [hold x hlt (hni x hnσ)] at hbx
    exact he.sep a c x B N hi hx' hbx
 refine ⟨E',o',_,hK,⟨hle,hemb',hev.size,hev.os,hev.tape,hev.output,fun b hb' hno=>hkeep b hb' (fun x N hx hbx=> ?_), ?_,fun _ _ h=>h⟩, ?_⟩
 ·obtain ⟨B,hB⟩:=hm x hx
  exact hno ⟨x,B,N,hB,hbx⟩
 ·rintro b ⟨x,B,N,hx,hbx⟩
  rcases hget x B hx with ⟨y,B0,rfl,hy,hmv⟩|⟨hlt,hnσ,hx'⟩
  ·rw [hρ] at hbx
   rcases hev.own b ⟨y,B0,N,hy,hbx⟩ with ho|hs
   ·obtain ⟨z,M,h1,h2⟩:=hown0 b ho
    obtain ⟨D,hD⟩:=hm z h1
    exact .inl ⟨z,D,M,hD,h2⟩
   ·exact .inr hs
  ·rw [hold x hlt (hni x hnσ)] at hbx
   exact .inl ⟨x,B,N,hx',hbx⟩
 ·cases ho with
  | ret v v' hv=>cases hor with
   | ret v r hr=>exact .ret _ _ (Z1D (fun x q hq=>by rw [hρ];exact hq) _ _ _ hv hr)
  | panic v v' hv=>cases hor with
   | panic v r hr=>exact .panic _ _ (Z1D (fun x q hq=>by rw [hρ];exact hq) _ _ _ hv hr)
theorem Spec.fsumm {P:Program} {h:Z7} {d:Nat} (hl:frA σ h d args K0)
  (hK:∀Bs a₀,Bs.length=σ.length->K0 Bs a₀->∃o nx bs o' bs',Spec P f a₀ ⟨σ.length,XE 0 σ Bs⟩ o nx bs/\σ.length<=nx/\MvO σ h.next o o'/\Z5V σ h.next bs bs'/\K o' ⟨h.next+(nx-σ.length),Vy bs' (VT σ h.bs)⟩):Zh P f args h K:=by
 obtain ⟨hm,hd,Bs,a,hK0,hlen,hx,ha⟩:=ZcM hl
 grind [Spec.calls]
end Go.Tk
end
section
namespace Go.Tk
open IntKind (i64 u8 u32 u64 wrap)
def goL (k:Nat) (τ:Ren) (S0:St) (C:Prop) (ends:KE->Prop):Nat->St->KE->Prop:=fun k' s X=>match Nat.beq k' k with
 | true=>ZG k τ S0 s (C/\ends X)
 | false=>False
def Z03 (id n:Nat) (go ex re:Nat->Prop) (En Rn:Nat->St):KE->Prop:=fun X=>
 ∀i,i<=n->(∀j,j<i->go j)->(ex i->X (.exit id) (En i))/\(re i->X .ret (Rn i))
theorem Ze.withGo {G:Ze} (hG:G.Ok) {f:FuncId} {id k N n:Nat} {τ0 τ1 τ2 τ3:Ren} {S En Rn:Nat->St} {S0:St} {C:Prop} {go ex re:Nat->Prop} (h1:WI G.P f id=true) (hC:C->S 0=S0/\
   ∀i,i<=n->(∀j,j<i->go j)->ZA G N f id k (S i) fun e s=>match e with
    | .normal=>ZG k τ1 (S (i+1)) s (go i/\i<n)
    | .exit x=>(match Nat.beq x id with|true=>ZG k τ2 (En i) s (ex i)|false=>False)
    | .ret=>ZG k τ3 (Rn i) s (re i)
    | _=>False):
  (G.withL f id (goL k τ0 S0 C (Z03 id n go ex re En Rn))).Ok:=by
 refine Ze.withL_ok hG h1 ?_
 intro k' s X hl
 unfold goL at hl
 split at hl
 ·rename_i hk
  have:=J0 hk
  subst this
  obtain ⟨⟨hc,hX⟩,hw⟩:=ZT hl
  obtain ⟨e0,hr⟩:=hC hc
  refine ⟨{ t:Nat//t<=n/\∀j,j<t->go j},fun t=>n-t.1,fun t=>S t.1,⟨0,Jt _,fun j hj=>by omega⟩,N,by simp_all, ?_⟩
  rintro ⟨t,ht,hgo⟩
  refine ⟨_,hr t ht hgo, ?_⟩
  intro e s' hY
  split at hY
  ·obtain ⟨⟨hg,hlt⟩,hw'⟩:=ZT hY
   refine ⟨⟨t+1,hlt,fun j hj=> ?_⟩,by show n-(t+1)<n-t;omega,hw'⟩
   grind
  ·split at hY
   ·rename_i hi
    have:=J0 hi
    subst this
    obtain ⟨hex,hw'⟩:=ZT hY
    exact ⟨_,hw',(hX t ht hgo).1 hex⟩
   simp_all
  ·obtain ⟨hre,hw'⟩:=ZT hY
   exact ⟨_,hw',(hX t ht hgo).2 hre⟩
  simp_all
 simp_all
def YF (id n l:Nat) (go ex re jm:Nat->Prop) (En Rn Jn:Nat->St):KE->Prop:=fun X=>
 ∀i,i<=n->(∀j,j<i->go j)->(ex i->X (.exit id) (En i))/\(re i->X .ret (Rn i))/\(jm i->X (.goto l) (Jn i))
theorem Ze.withGoJ {G:Ze} (hG:G.Ok) {f:FuncId} {id k N n l:Nat} {τ0 τ1 τ2 τ3 τ4:Ren} {S En Rn Jn:Nat->St} {S0:St} {C:Prop} {go ex re jm:Nat->Prop} (h1:WI G.P f id=true) (hC:C->S 0=S0/\
   ∀i,i<=n->(∀j,j<i->go j)->ZA G N f id k (S i) fun e s=>match e with
    | .normal=>ZG k τ1 (S (i+1)) s (go i/\i<n)
    | .exit x=>(match Nat.beq x id with|true=>ZG k τ2 (En i) s (ex i)|false=>False)
    | .ret=>ZG k τ3 (Rn i) s (re i)
    | .goto x=>(match Nat.beq x l with|true=>ZG k τ4 (Jn i) s (jm i)|false=>False)
    | _=>False):
  (G.withL f id (goL k τ0 S0 C (YF id n l go ex re jm En Rn Jn))).Ok:=by
 refine Ze.withL_ok hG h1 ?_
 intro k' s X hl
 unfold goL at hl
 split at hl
 ·rename_i hk
  have:=J0 hk
  subst this
  obtain ⟨⟨hc,hX⟩,hw⟩:=ZT hl
  obtain ⟨e0,hr⟩:=hC hc
  refine ⟨{ t:Nat//t<=n/\∀j,j<t->go j},fun t=>n-t.1,fun t=>S t.1,⟨0,Jt _,fun j hj=>by omega⟩,N,by simp_all, ?_⟩
  rintro ⟨t,ht,hgo⟩
  refine ⟨_,hr t ht hgo, ?_⟩
  intro e s' hY
  split at hY
  ·obtain ⟨⟨hg,hlt⟩,hw'⟩:=ZT hY
   refine ⟨⟨t+1,hlt,fun j hj=> ?_⟩,by show n-(t+1)<n-t;omega,hw'⟩
   grind
  ·split at hY
   ·rename_i hi
    have:=J0 hi
    subst this
    obtain ⟨hex,hw'⟩:=ZT hY
    exact ⟨_,hw',(hX t ht hgo).1 hex⟩
   simp_all
  ·obtain ⟨hre,hw'⟩:=ZT hY
   exact ⟨_,hw',(hX t ht hgo).2.1 hre⟩
  ·split at hY
   ·rename_i hi
    have:=J0 hi
    subst this
    obtain ⟨hjm,hw'⟩:=ZT hY
    exact ⟨_,hw',(hX t ht hgo).2.2 hjm⟩
   simp_all
  simp_all
 simp_all
theorem Wk {p x:Prop} [Decidable p]:Z6 (decide p) x False=(p/\x):=by
 by_cases h:p
 all_goals simp_all [Z6]
theorem ZaY {p x:Prop} [Decidable p]:Z6 (decide p) False x=(¬p/\x):=by
 by_cases h:p
 all_goals simp_all [Z6]
theorem Z3A {p x y:Prop} [Decidable p]:Z6 (decide p) x y=((p->x)/\(¬p->y)):=by
 by_cases h:p
 all_goals simp_all [Z6]
theorem Z6Q {b:Bool} {x:Prop}:Z6 b x False=(b=true/\x):=by cases b<;>simp [Z6]
theorem ZaZ {b:Bool} {x:Prop}:Z6 b False x=(b=false/\x):=by cases b<;>simp [Z6]
theorem Z3B {b:Bool} {x y:Prop}:Z6 b x y=((b=true->x)/\(b=false->y)):=by cases b<;>simp [Z6]
def Z0 (b:Bool) (x:Prop):Prop:=Z6 b x False
theorem vcA:(∀(p x:Prop) [Decidable p],Z6 (decide p) x False=(p/\x))/\(∀(p x:Prop) [Decidable p],Z5 p x=(p/\x))/\(∀(p x:Prop) [Decidable p],Z0 (decide p) x=(p/\x))/\∀(p x:Prop) [Decidable p],Z6 (decide p) False x=(¬p/\x):=
 ⟨fun _ _ _=>Wk,fun _ _ _=>Wk,fun _ _ _=>Wk,fun _ _ _=>ZaY⟩
theorem vcB:(∀(p x y:Prop) [Decidable p],Z6 (decide p) x y=((p->x)/\(¬p->y)))/\(∀(b:Bool) (x:Prop),Z6 b x False=(b=true/\x))/\(∀(b:Bool) (x:Prop),Z0 b x=(b=true/\x))/\∀(b:Bool) (x:Prop),Z6 b False x=(b=false/\x):=
 ⟨fun _ _ _ _=>Z3A,fun _ _=>Z6Q,fun _ _=>Z6Q,fun _ _=>ZaZ⟩
theorem XK:(∀(p x:Prop) [Decidable p],Z6 (decide p) x False=(p/\x))/\(∀(p x:Prop) [Decidable p],Z5 p x=(p/\x))/\(∀(p x:Prop) [Decidable p],Z0 (decide p) x=(p/\x))/\(∀(b:Bool) (x:Prop),Z0 b x=Z6 b x False):=
 ⟨fun _ _ _=>Wk,fun _ _ _=>Wk,fun _ _ _=>Wk,fun _ _=>rfl⟩
theorem XL:∀(p x y:Prop) [Decidable p],Z6 (decide p) x y=((p->x)/\(¬p->y)):=fun _ _ _ _=>Z3A
theorem vcC:(∀(b:Bool) (x y:Prop),Z6 b x y=((b=true->x)/\(b=false->y)))/\(∀n:Nat,((n:Int)).toNat=n)/\(∀n:Nat,0+n=n)/\(∀p:Prop,(True/\p)=p)/\(∀p:Prop,(p/\True)=p)/\∀n:Nat,(n<=n)=True:=
 ⟨fun _ _ _=>Z3B,Jo,Jp,true_and,and_true,fun n=>eq_true (J2 n)⟩
theorem Z7U {k:Nat} {τ:Ren} {v:AV} (hp:v.plain=true) (hc:v.isCell=true) {Z:Prop} (hZ:Z):eqV k τ v v Z:=by
 cases v with
 | ptr p=>cases p<;>simp_all [AV.plain,eqV]
 | map r=>cases r<;>simp_all [AV.plain,eqV]
 | _=>simp_all [AV.plain,eqV,VH,AV.isCell]
theorem Z2G {k:Nat} {τ:Ren}:∀{l:List AV},plainC l=true->∀{Z:Prop},Z->(∀v∈l,v.isCell=true\/∃k n xs,v=.arr k n xs)->eqC k τ l l Z
 | [],_,Z,hZ,_=>by simp [eqC,hZ]
 | v::r,hp,Z,hZ,hc=>by
  simp only [plainC,J1] at hp
  have hr:=Z2G (k:=k) (τ:=τ) hp.2 hZ (fun u hu=>hc u (Jg _ hu))
  rcases hc v (by simp) with hv|⟨kk,n,xs,rfl⟩
  ·have hna:∀a b c,v≠.arr a b c:=fun a b c e=>by subst e;simp [AV.isCell] at hv
   simp_all [eqC,Z7U]
  ·unfold eqC
   simp_all
theorem YT {k:Nat} {τ:Ren} {n:Nat} {f f':Nat->List AV} (h:∀i,i<n->f' i=f i) (hp:∀i,i<n->plainC (f i)=true) (hc:∀i,i<n->∀v∈f i,v.isCell=true\/∃k n xs,v=.arr k n xs):Zd k τ n f f':=
 ⟨fun i hi=>by rw [h i hi];exact Z2G (hp i hi) trivial (hc i hi)⟩
theorem ZcN {a b:Nat} (h:a<b):Nat.blt a b=true:=by rw [Nat.blt_eq];exact h
theorem ZcO {a b:Nat} (h:Nat.blt a b=true):a<b:=by rw [Nat.blt_eq] at h;exact h
theorem Z3C {n i:Nat} {f g:Nat->List AV} (h:i<n):XG n f g i=f i:=by unfold XG;rw [ZcN h]
theorem VU {n i:Nat} {f g:Nat->List AV} (h:n<=i):XG n f g i=g (i-n):=by
 unfold XG
 have:Nat.blt i n=false:=by
  cases hq:Nat.blt i n with
  | false=>rfl
  | true=>have:=ZcO hq;omega
 rw [this]
theorem Zs.vrows0 {P:Program} {f:FuncId} {esz:Nat} {g:Nat->List AV} {v:AV} {nx:Nat} {bs:List (Nat×Blk)} (h1:Zs P f [.nilslice] v nx bs) (h2:Zs P f [.fslice] v nx bs):Zs P f [.vrows esz 0 g 0] v nx bs:=by
 intro E w rs he hr
 cases hr with
 | cons v r vs rs hv ht=>cases ht with
  | nil=>cases hv with
   | vrowsNil esz n f len _ _=>exact h1 E w _ he (.cons _ _ _ _ .nilslice .nil)
   | vrows esz n f len a cap g _ _ _ _ _=>exact h2 E w _ he (.cons _ _ _ _ (.fslice a cap) .nil)
theorem Zs.vints0 {P:Program} {f:FuncId} {k:IntKind} {v:AV} {nx:Nat} {bs:List (Nat×Blk)} (h1:Zs P f [.nilslice] v nx bs) (h2:Zs P f [.fslice] v nx bs):Zs P f [.vints k [] 0] v nx bs:=by
 intro E w rs he hr
 cases hr with
 | cons v r vs rs hv ht=>cases ht with
  | nil=>cases hv with
   | vintsNil k xs len _ _=>exact h1 E w _ he (.cons _ _ _ _ .nilslice .nil)
   | vints k xs len a cap _ _ _=>exact h2 E w _ he (.cons _ _ _ _ (.fslice a cap) .nil)
end Go.Tk
namespace Go.Tk
open IntKind (i64 u8 u32 u64 wrap)
mutual
theorem UC {mv:Option Nat} {h:Z7}:∀(d:Nat) (t:Bool) (v:AV) (K K':AV->Prop),Vx mv h t d v K->(∀a,K a->K' a)->Vx mv h t d v K'
 | 0,t,v,K,K',hl,hK=>by unfold Vx at hl;simp_all
 | d+1,t,v,K,K',hl,hK=>by
  unfold Vx at hl⊢
  split at hl
  all_goals try exact hK _ hl
  all_goals try exact hl.elim
  ·split at hl
   ·split at hl
    ·exact hl.elim
    ·exact hK _ hl
   ·split at hl
    ·split at hl
     ·exact Xh _ _ _ _ _ hl fun _ h=>hK _ h
     ·exact hl.elim
    ·split at hl
     ·obtain ⟨h1,h2⟩:=Zc hl
      refine VH h1 ?_
      split at h2
      ·exact Xh _ _ _ _ _ h2 fun _ h=>hK _ h
      ·exact h2.elim
     ·exact hl.elim
    ·exact hl.elim
  ·split at hl
   ·split at hl
    ·exact hl.elim
    ·exact hK _ hl
   ·split at hl
    ·split at hl
     ·obtain ⟨h1,h2⟩:=Zc hl
      exact VH h1 (hK _ h2)
     ·exact hl.elim
    ·split at hl
     ·obtain ⟨h1,h2,h3⟩:=Zc hl
      exact VH h1 ⟨h2,hK _ h3⟩
     ·exact hl.elim
    ·split at hl
     ·split at hl
      ·split at hl
       ·split at hl
        ·obtain ⟨h1,h2⟩:=Zc hl
         exact VH h1 (hK _ h2)
        ·obtain ⟨h1,h2⟩:=Zc hl
         exact VH h1 (hK _ h2)
        ·exact hl.elim
       ·exact hl.elim
      ·split at hl
       ·refine Xh _ _ _ _ _ hl fun _ h=> ?_
        split at h
        ·exact hK _ h
        ·exact h.elim
       ·exact hl.elim
     ·exact hl.elim
    ·exact hl.elim
  ·exact Zm _ _ _ _ _ hl fun _ h=>Zm _ _ _ _ _ h fun _ h=>hK _ h
  ·exact UC _ _ _ _ _ hl fun _ h=>hK _ h
  ·exact Xh _ _ _ _ _ hl fun _ h=>hK _ h
  ·exact Zm _ _ _ _ _ hl fun _ h=>hK _ h
theorem Xh {mv:Option Nat} {h:Z7}:∀(d:Nat) (t:Bool) (l:List AV) (K K':List AV->Prop),WJ mv h t d l K->(∀a,K a->K' a)->WJ mv h t d l K'
 | 0,t,l,K,K',hl,hK=>by unfold WJ at hl;simp_all
 | d+1,t,l,K,K',hl,hK=>by
  unfold WJ at hl⊢
  split at hl
  ·exact hK _ hl
  ·exact Xh _ _ _ _ _ hl fun _ h=>hK _ h
  ·refine UC _ _ _ _ _ hl fun _ h=> ?_
   split at h
   ·exact Xh _ _ _ _ _ h fun _ h=>hK _ h
   ·exact h.elim
theorem Zm {mv:Option Nat} {h:Z7}:∀(d:Nat) (t:Bool) (l:List AV) (K K':List AV->Prop),ZJ mv h t d l K->(∀a,K a->K' a)->ZJ mv h t d l K'
 | 0,t,l,K,K',hl,hK=>by unfold ZJ at hl;simp_all
 | d+1,t,l,K,K',hl,hK=>by
  unfold ZJ at hl⊢
  split at hl
  ·exact hK _ hl
  ·exact UC _ _ _ _ _ hl fun _ h=>Zm _ _ _ _ _ h fun _ h=>hK _ h
end
end Go.Tk
end
section
namespace Go.Tk
open IntKind (i64 u8 u32 u64 wrap)
variable {g:Nat->InS} {f:Nat->List AV} {p:Nat->Bool} {xs:LI} {E:Env} {esz:Nat} {v:AV}
def Zk (g:Nat->InS):Nat->List AV:=fun q=>(g q).c
def ZL (g:Nat->Y2):Nat->List AV:=fun q=>(g q).c
theorem InS.plainC (x:InS):plainC x.c=true:=rfl
theorem InS.cells (x:InS):∀v∈x.c,v.isCell=true\/∃k n xs,v=.arr k n xs:=by simp [InS.c,AV.isCell]
theorem WP {k:Nat} {τ:Ren} {n:Nat} (h:∀i,i<n->f i=(g i).c):Zd k τ n (Zk g) f:=YT h (fun i _=>(g i).plainC) (fun i _=>(g i).cells)
theorem Zb0 (N:Nat) (g:Nat->InS) (hN:N+1<900000000000):
  evF G0 20 102 [.vrows 130 (N+1) (Zk g) (N+1)] ⟨0,[]⟩ (Y1 0 [(0,0)] (.nslice ⟨0,0,130,0,0⟩ 130 (N+1) (N+1)) 1 [(0,.rows 130 (N+1) (Zk g))]):=by
 refine @Eq.mpr _ (let a:=N+1;let b:=0+a;let c:=decide (b=a);
 Z6 (decide (b*144<=140737488355328)) (Z6 c (Z6 (decide (a<=b)) (Z6 c (Zd 0 [(0,0)] a (Zk g) (XG 0 (fun (x:Nat)=>[]) (Zk g))/\True) False) False) False) False) (by kernel_rfl) ?_
 conv=>zeta
 refine nd (by omega) (nd (by omega) (nd (by omega) (nd (by omega) ⟨WP fun i hi=> ?_,trivial⟩)))
 rfl
theorem Zb1 (g:Nat->InS) :
  evF G0 20 102 [.nilslice] ⟨0,[]⟩ (Y1 0 [] (.nslice ⟨0,0,130,0,0⟩ 130 0 0) 1 [(0,.rows 130 0 (Zk g))]):=by
 refine @Eq.mpr _ (True) (by kernel_rfl) ?_
 trivial
theorem Zb2 (g:Nat->InS) :
  evF G0 20 102 [.fslice] ⟨0,[]⟩ (Y1 0 [(0,0)] (.nslice ⟨0,0,130,0,0⟩ 130 0 0) 1 [(0,.rows 130 0 (Zk g))]):=by
 refine @Eq.mpr _ (Zd 0 [(0,0)] 0 (Zk g) (XG 0 (fun (x:Nat)=>[]) fun (x:Nat)=>[])/\True) (by kernel_rfl) ?_
 simp_all [WP]
theorem Z5W (N:Nat) (g:Nat->InS) (hN:N<900000000000):Zs PP 102 [.vrows 130 N (Zk g) N] (.nslice ⟨0,0,130,0,0⟩ 130 N N) 1 [(0,.rows 130 N (Zk g))]:=by
 cases N with
 | zero=>exact Zs.vrows0 (.ev Zr (Zb1 g)) (.ev Zr (Zb2 g))
 | succ n=>exact .ev Zr (Zb0 n g hN)
def Z9u (N:Nat) (g:Nat->InS) (Z:Prop):YY:=fun args h K=>ZJ none h true 20 args fun a=>match a with
 | [.vrows 130 n f m]=>Z5 (n=N) (Z5 (m=N) (f=Zk g/\Z/\K (.ret (.nslice ⟨h.next,0,130,0,0⟩ 130 N N)) ⟨h.next+1,(h.next,.rows 130 N (Zk g))::h.bs⟩))
 | _=>False
theorem Z7V (N:Nat) (g:Nat->InS) (args:List AV) (h:Z7) (K:KO) (hl:Z9u N g (N<900000000000) args h K):Zh PP 102 args h K:=by
 refine Zs.fsumm (d:=20) (Zm _ _ _ _ _ hl fun a ha=> ?_)
 split at ha
 ·obtain ⟨rfl,ha⟩:=Zc ha
  obtain ⟨rfl,rfl,hN,hK⟩:=Zc ha
  exact ⟨_,_,_,_,Z5W _ _ hN,rfl,⟨JE,.rows _ _ _ (fun i _=>(g i).plainC),trivial⟩,hK⟩
 simp_all
def WQ (N:Nat) (g:Nat->InS) (t:Nat):Nat->InS:=fun q=>if q<t\/N<q+t+1 then g (N-1-q) else g q
def Z1F (N:Nat) (g:Nat->InS):Nat->InS:=fun q=>g (N-1-q)
def Z5X (N:Nat) (g:Nat->InS) (t:Nat):St:=⟨28,[(0,.nslice ⟨0,0,130,0,0⟩ 130 N N),(3,.int .i64 ((N:Int)-1-t)),(2,.int .i64 t)],⟨1,[(0,.rows 130 N (Zk (WQ N g t)))]⟩,[]⟩
theorem ZdN (N:Nat) (g:Nat->InS) (t:Nat) (hN:N<900000000000) (ht:t<=N) (hgo:∀j:Nat,j<t->(j:Int)<(N:Int)-1-j):
  ZA G0 20 113 0 1 (Z5X N g t) (fun e s=>match e with|.normal=>ZG 1 [] (Z5X N g (t+1)) s (((t:Int)<(N:Int)-1-t)/\t<N)|.exit x=>(match Nat.beq x 0 with|true=>ZG 1 [] (Z5X N g t) s (¬(t:Int)<(N:Int)-1-t)|false=>False)|.ret=>ZG 1 [] (Z5X N g t) s False|_=>False):=by
 refine @Eq.mpr _ (let m:=(↑N:Int)-1;let a:=m-(↑t:Int);let l:=decide (0<=a/\a<(↑N:Int));let f:=0+Int.toNat a;let k:=decide (0<=(↑t:Int)/\(↑t:Int)<(↑N:Int));let e:=0+Int.toNat (↑t:Int);let d:=decide (N=N);let j:=decide (N<=N);let i:=(↑(t+1):Int);let h:=Zk (WQ N g t);let c:=WQ N g t f;let b:=WQ N g t e;
 Z6 (decide ((↑t:Int)<a)) (Z6 l (Z6 (decide (f<N)) (Z6 k (Z6 (decide (e<N)) (Z6 k (Z6 (decide (e<N)) (Z6 l (Z6 (decide (f<N)) (Z6 d (Z6 j (Z6 (decide (wrap i64 (a-1)=m-i)) (Z6 (decide (wrap i64 ((↑t:Int)+1)=i)) (Z6 d (Zd 1 [] N (Zk (WQ N g (t+1))) (Z8n (Z8n h e [AV.arr u8 32 c.name,AV.int i64 c.index,AV.int i64 c.way,AV.arr u8 32 c.tag,AV.arr u8 32 c.also,AV.arr u8 32 c.secret]) f [AV.arr u8 32 b.name,AV.int i64 b.index,AV.int i64 b.way,AV.arr u8 32 b.tag,AV.arr u8 32 b.also,AV.arr u8 32 b.secret])/\(↑t:Int)<a/\t<N) False) False) False) False) False) False) False) False) False) False) False) False) False)
 (Z6 d (Z6 j (Z6 (decide (a=a)) (Z6 (decide ((↑t:Int)=(↑t:Int))) (Z6 d (Zd 1 [] N h h/\((↑t:Int)<a->False)) False) False) False) False) False)) (by kernel_rfl) ?_
 conv=>zeta
 simp only [Wk]
 simp only [Z3A]
 have hrows:Zd 1 [] N (Zk (WQ N g t)) (Zk (WQ N g t)):=WP fun _ _=>rfl
 refine ⟨fun h1=> ?_,fun h1=>by simp_all⟩
 have hw1:i64.wrap ((t:Int)+1)=(t:Int)+1:=w64 (by omega)
 have hw2:i64.wrap ((N:Int)-1-t-1)=(N:Int)-1-t-1:=w64 (by omega)
 have e1:0+((N:Int)-1-t).toNat=N-1-t:=by omega
 have e2:0+(t:Int).toNat=t:=by omega
 simp only [e1,e2,hw1]
 refine ⟨by omega,by omega,by omega,by omega,by omega,by omega,by omega,by omega,trivial,by omega,by omega,by omega,trivial,WP fun q hq=> ?_,h1,by omega⟩
 rw [Z2Y,Z2Y]
 have g1:WQ N g t (N-1-t)=g (N-1-t):=by unfold WQ;rw [if_neg (by omega)]
 have g2:WQ N g t t=g t:=by unfold WQ;rw [if_neg (by omega)]
 rw [g1,g2]
 by_cases q1:q=N-1-t
 ·subst q1
  rw [Je]
  show (g t).c=_
  unfold WQ
  grind
 ·rw [Zp q1]
  by_cases q2:q=t
  ·subst q2
   rw [Je]
   show (g (N-1-q)).c=_
   unfold WQ
   rw [if_pos (by omega)]
  ·rw [Zp q2]
   show (WQ N g t q).c=_
   unfold WQ
   grind
noncomputable def E10 (N:Nat) (g:Nat->InS):Ze:=(G0.withL 113 0 (goL 1 [] (Z5X N g 0) (N<900000000000) (Z03 0 N (fun t=>(t:Int)<(N:Int)-1-t) (fun t=>¬(t:Int)<(N:Int)-1-t) (fun _=>False) (Z5X N g) (Z5X N g)))).withF 102 (Z9u N g (N<900000000000))
theorem ZcP (N:Nat) (g:Nat->InS):(E10 N g).Ok:=
 Ze.withF_ok (Ze.withGo (τ1:=[]) (τ2:=[]) (τ3:=[]) (N:=20) Zr (by kernel_rfl) fun hC=>⟨rfl,fun i hi hgo=>ZdN N g i hC hi hgo⟩) (Z7V N g)
theorem Z5Y (N:Nat) (g:Nat->InS) (hN:N<900000000000):
  evF (E10 N g) 20 74 [.vrows 130 N (Zk g) N] ⟨0,[]⟩ (Y1 0 [(0,0)] (.nslice ⟨0,0,130,0,0⟩ 130 N N) 1 [(0,.rows 130 N (Zk (Z1F N g)))]):=by
 refine @Eq.mpr _ (let a:=decide (N=N);let c:=Zk g;let e:=decide (N<=N);let b:=(↑N:Int)-1;
 Z6 a
 (Z6 a
 (c=c/\
 N<900000000000/\
 Z6 a
 (Z6 e
 (Z6 (decide (wrap i64 b=b-0))
 (Z6 a
 (Zd 1 [] N (Zk (WQ N g 0)) c/\
 N<900000000000/\
 ∀(i:Nat),
 let d:=Z6 a (Z6 e (Z6 a (Zd 0 [(0,0)] N (Zk (Z1F N g)) (Zk (WQ N g i))/\True) False) False) False;
 i<=N->(∀(j:Nat),j<i->(fun (t:Nat)=>(↑t:Int)<b-(↑t:Int)) j)->(¬(↑i:Int)<b-(↑i:Int)->d)/\(False->d))
 False)
 False)
 False)
 False)
 False)
 False) (by kernel_rfl) ?_
 conv=>zeta
 simp only [Wk,true_and,and_true]
 refine ⟨hN,by omega,by rw [w64 (by omega)];omega,WP fun i hi=> ?_,hN,fun i hi hgo=>⟨fun hex=>⟨by omega,WP fun q hq=> ?_⟩,fun h=>h.elim⟩⟩
 ·show (g i).c=_
  unfold WQ
  rw [if_neg (by omega)]
 ·show (WQ N g i q).c=_
  unfold WQ Z1F
  grind
theorem Z23 (N:Nat) (g:Nat->InS) (hN:N<900000000000):Zs PP 74 [.vrows 130 N (Zk g) N] (.nslice ⟨0,0,130,0,0⟩ 130 N N) 1 [(0,.rows 130 N (Zk (Z1F N g)))]:=.ev (ZcP N g) (Z5Y N g hN)
def Y4 (p:Nat->Bool) (n:Nat):Int:=match (List.range n).find? p with|some i=>i|none=> -1
theorem W2 {n i:Nat} (hi:i<n) (hgo:∀j,j<i->p j=false) (hp:p i=true):Y4 p n=i:=by
 unfold Y4
 have:(List.range n).find? p=some i:=by
  simp_all
 rw [this]
theorem W3 {n:Nat} (hgo:∀j,j<n->p j=false):Y4 p n= -1:=by
 unfold Y4
 have:(List.range n).find? p=none:=by
  simp_all
 rw [this]
theorem Z04 (p:Nat->Bool) (n:Nat):(Y4 p n= -1/\∀j,j<n->p j=false)\/∃i,i<n/\Y4 p n=(i:Nat)/\p i=true/\∀j,j<i->p j=false:=by
 unfold Y4
 cases h:(List.range n).find? p with
 | none=>
  simp_all
 | some i=>
  rw [List.find?_range_eq_some] at h
  grind
theorem Z4y (p:Nat->Bool) (n:Nat): -1<=Y4 p n/\Y4 p n<n+1:=by
 rcases Z04 p n with ⟨h,_⟩|⟨i,hi,h,_⟩<;>omega
def Q7 (x y:InS):Bool:=(y.name==x.name)&&(y.index==x.index)
theorem ZcQ (x y:InS) (hx:x.Ok) (hy:y.Ok):
  evF G0 20 72 [.agg y.c,.pview x.c 0] ⟨0,[]⟩ (Y1 0 [] (.bool (Q7 x y)) 0 []):=by
 refine @Eq.mpr _ (Z5 (y.name.length=32/\x.name.length=32) (Z6 (y.name==x.name) (Z5 ((y.index==x.index)=Q7 x y) True) (Z5 (false=Q7 x y) True))) (by kernel_rfl) ?_
 try simp only [XK]
 try simp only [XL]
 try simp only [vcC]
 unfold Q7
 refine ⟨⟨hy.name,hx.name⟩,fun h=> ?_,fun h=> ?_⟩<;>simp [h]
def Zcg:ZX:=fun args h K=>ZJ none h true 20 args fun a=>match a with
 | [.agg cs,.pview ds 0]=>∃x y,cs=InS.c y/\ds=InS.c x/\(x.Ok/\y.Ok)/\K (.bool (Q7 x y))
 | _=>False
theorem Z9v (args:List AV) (h:Z7) (K:AV->Prop) (hl:Zcg args h K):Zh PP 72 args h fun o h'=>∃v,o=.ret v/\h'=h/\K v:=by
 refine Zs.psumm (d:=20) (Zm _ _ _ _ _ hl fun a ha=> ?_)
 split at ha
 ·obtain ⟨x,y,rfl,rfl,⟨h1,h2⟩,hK⟩:=ha
  exact ⟨_,.ev Zr (ZcQ x y h1 h2),fun _=>rfl,hK⟩
 simp_all
noncomputable def ZcR:Ze:=G0.withP 72 Zcg
theorem Zb3:ZcR.Ok:=Ze.withP_ok Zr Z9v
def ixS (N:Nat) (g:Nat->InS) (x:InS) (i:Nat):St:=⟨19,[(1,.func (Fn.func 72) [] [.pview (InS.c x) 0]),(0,.vrows 130 N (Zk g) N),(7,.int .i64 N),(8,.int .i64 i)],⟨0,[]⟩,[]⟩
def ixR (i:Nat):St:=⟨19,[(4,.int .i64 i)],⟨0,[]⟩,[]⟩
def ixE (_:Nat):St:=⟨19,[],⟨0,[]⟩,[]⟩
theorem Zff (N:Nat) (g:Nat->InS) (x:InS) (i:Nat) (Z1 Z2 Z3:Prop) (hN:N<900000000000) (hx:x.Ok) (hg:∀i,i<N->(g i).Ok) (hi:i<=N) (h1:i<N->Q7 x (g i)=false->Z1) (h2:i=N->Z2) (h3:i<N->Q7 x (g i)=true->Z3):
  ZA ZcR 20 73 0 0 (ixS N g x i) (fun e s=>match e with|.normal=>ZG 0 [] (ixS N g x (i+1)) s Z1|.exit x=>(match Nat.beq x 0 with|true=>ZG 0 [] (ixE i) s Z2|false=>False)|.ret=>ZG 0 [] (ixR i) s Z3|_=>False):=by
 refine @Eq.mpr _ (let a:=g (Int.toNat (↑i:Int));let b:=InS.c x;let d:=decide (N=N);
 Z6 (decide ((↑i:Int)<(↑N:Int))) (Z5 (0<=(↑i:Int)/\(↑i:Int)<(↑N:Int)) (∃(x:InS),∃(y:InS),[AV.arr u8 32 a.name,AV.int i64 a.index,AV.int i64 a.way,AV.arr u8 32 a.tag,AV.arr u8 32 a.also,AV.arr u8 32 a.secret]=InS.c y/\b=InS.c x/\(InS.Ok x/\InS.Ok y)/\Z6 (Q7 x y) (Z5 ((↑i:Int)=(↑i:Int)) Z3) (b=b/\Z0 d (Zk g=Zk g/\Z0 d (Z5 ((↑N:Int)=(↑N:Int)) (Z5 (wrap i64 ((↑i:Int)+1)=(↑(i+1):Int)) Z1)))))) Z2) (by kernel_rfl) ?_
 conv=>zeta
 try simp only [XK]
 try simp only [XL]
 try simp only [vcC]
 refine ⟨fun hlt=>⟨by omega,x,g i,rfl,rfl,⟨hx,hg i (by omega)⟩,fun h=>h3 (by omega) h,fun h=>⟨w64 (by omega),h1 (by omega) h⟩⟩,fun hge=>h2 (by omega)⟩
def sameAt (g:Nat->InS) (x:InS):Nat->Bool:=fun j=>Q7 x (g j)
noncomputable def ZdO (N:Nat) (g:Nat->InS) (x:InS):Ze:=ZcR.withL 73 0 (goL 0 [] (ixS N g x 0) (N<900000000000/\x.Ok/\∀i,i<N->(g i).Ok) (Z03 0 N (fun i=>sameAt g x i=false) (fun i=>i=N) (fun i=>i<N/\sameAt g x i=true) ixE ixR))
theorem Zb4 (N:Nat) (g:Nat->InS) (x:InS):(ZdO N g x).Ok:=
 Ze.withGo (τ1:=[]) (τ2:=[]) (τ3:=[]) (N:=20) Zb3 (by kernel_rfl) fun hC=>⟨rfl,fun i hi _=>Zff N g x i _ _ _ hC.1 hC.2.1 hC.2.2 hi (fun h1 h2=>⟨h2,h1⟩) (fun h=>h) (fun h1 h2=>⟨h1,h2⟩)⟩
theorem Zb5 (N:Nat) (g:Nat->InS) (x:InS) (F:Int) (hN:N<900000000000) (hx:x.Ok) (hg:∀i,i<N->(g i).Ok) (hF:F=Y4 (sameAt g x) N):
  evF (ZdO N g x) 20 73 [.vrows 130 N (Zk g) N,.func (.func 72) [] [.pview x.c 0]] ⟨0,[]⟩ (Y1 0 [] (.int .i64 F) 0 []):=by
 refine @Eq.mpr _ (let a:=decide (N=N);
 InS.c x=InS.c x/\Z0 a (Zk g=Zk g/\Z0 a (Z5 ((↑N:Int)=(↑N:Int)) ((N<900000000000/\InS.Ok x/\∀(i:Nat),i<N->InS.Ok (g i))/\∀(i:Nat),i<=N->(∀(j:Nat),j<i->(fun (i:Nat)=>sameAt g x i=false) j)->(i=N->Z5 (-1=F) True)/\(i<N/\sameAt g x i=true->Z5 ((↑i:Int)=F) True))))) (by kernel_rfl) ?_
 conv=>zeta
 try simp only [XK]
 try simp only [XL]
 try simp only [vcC]
 subst hF
 exact ⟨⟨hN,hx,hg⟩,fun i hi hgo=>⟨fun h=>by subst h;exact (W3 hgo).symm,fun h=>(W2 h.1 hgo h.2).symm⟩⟩
theorem Z5Z (N:Nat) (g:Nat->InS) (x:InS) (hN:N<900000000000) (hx:x.Ok) (hg:∀i,i<N->(g i).Ok):Zs PP 73 [.vrows 130 N (Zk g) N,.func (.func 72) [] [.pview x.c 0]] (.int .i64 (Y4 (sameAt g x) N)) 0 []:=.ev (Zb4 N g x) (Zb5 N g x _ hN hx hg rfl)
def Z9w:ZX:=fun args h K=>ZJ none h true 20 args fun a=>match a with
 | [.vrows 130 n f m,.func (.func 72) [] [.pview cs 0]]=>∃g x,f=Zk g/\cs=InS.c x/\(m=n/\n<900000000000/\x.Ok/\∀i,i<n->(g i).Ok)/\K (.int .i64 (Y4 (sameAt g x) n))
 | _=>False
theorem Z7W (args:List AV) (h:Z7) (K:AV->Prop) (hl:Z9w args h K):Zh PP 73 args h fun o h'=>∃v,o=.ret v/\h'=h/\K v:=by
 refine Zs.psumm (d:=20) (Zm _ _ _ _ _ hl fun a ha=> ?_)
 split at ha
 ·obtain ⟨g,x,rfl,rfl,⟨rfl,h1,h2,h3⟩,hK⟩:=ha
  exact ⟨_,Z5Z _ g x h1 h2 h3,fun _=>rfl,hK⟩
 simp_all
def Z2H:YY:=fun args h K=>ZJ none h true 20 args fun a=>match a with
 | [.vrows 130 n f m]=>∃g,f=Zk g/\(m=n/\n<900000000000)/\K (.ret (.nslice ⟨h.next,0,130,0,0⟩ 130 n n)) ⟨h.next+1,(h.next,.rows 130 n (Zk (Z1F n g)))::h.bs⟩
 | _=>False
theorem Z3D (args:List AV) (h:Z7) (K:KO) (hl:Z2H args h K):Zh PP 74 args h K:=by
 refine Zs.fsumm (d:=20) (Zm _ _ _ _ _ hl fun a ha=> ?_)
 split at ha
 ·obtain ⟨g,rfl,⟨rfl,hN⟩,hK⟩:=ha
  exact ⟨_,_,_,_,Z23 _ _ hN,rfl,⟨JE,.rows _ _ _ (fun i _=>(Z1F _ g i).plainC),trivial⟩,hK⟩
 simp_all
noncomputable def ZdP:Ze:=(G0.withP 73 Z9w).withF 74 Z2H
theorem Zb6:ZdP.Ok:=Ze.withF_ok (Ze.withP_ok Zr Z7W) Z3D
@[irreducible] def QE (N:Nat) (g:Nat->InS) (x:InS):Bool:=Y4 (sameAt g x) N !=(N:Int)-1-Y4 (sameAt (Z1F N g) x) N
theorem Zb7 (N:Nat) (g:Nat->InS) (x:InS) (num:Int) (outs:AV) (F:Bool) (hN:N<900000000000) (hx:x.Ok) (hg:∀i,i<N->(g i).Ok) (hF:F=QE N g x):
  evF ZdP 20 71 [.agg x.c,.pview [.int .i64 num,.vrows 130 N (Zk g) N,outs] 0] ⟨0,[]⟩ (Y1 0 [] (.bool F) 0 []):=by
 refine @Eq.mpr _ (let a:=Zk g;let d:=decide (N=N);
 ∃(g:Nat->InS),
 ∃(x_1:InS),
 let b:=[AV.arr u8 32 x.name,AV.int i64 x.index,AV.int i64 x.way,AV.arr u8 32 x.tag,AV.arr u8 32 x.also,AV.arr u8 32 x.secret];
 a=Zk g/\b=InS.c x_1/\(N=N/\N<900000000000/\InS.Ok x_1/\∀(i:Nat),i<N->InS.Ok (g i))/\∃(g_1:Nat->InS),a=Zk g_1/\(N=N/\N<900000000000)/\Z5 ((↑N:Int)=(↑N:Int)) (Z0 d (a=a/\Z0 d (Z5 (0+N<=N) ((∀(i:Nat),i<N->true=true)/\∃(g_2:Nat->InS),∃(x:InS),Y9 0 (Zk (Z1F N g_1))=Zk g_2/\b=InS.c x/\(N=N/\N<900000000000/\InS.Ok x/\∀(i:Nat),i<N->InS.Ok (g_2 i))/\Z5 ((Y4 (sameAt g x_1) N !=wrap i64 (wrap i64 ((↑N:Int)-1)-Y4 (sameAt g_2 x) N))=F) True))))) (by kernel_rfl) ?_
 conv=>zeta
 try simp only [XK]
 try simp only [XL]
 try simp only [vcC]
 subst hF
 have hr:∀i,i<N->(Z1F N g i).Ok:=fun i hi=>hg _ (by omega)
 refine ⟨g,x,rfl,rfl,⟨hN,hx,hg⟩,g,rfl,hN,fun _ _=>trivial,Z1F N g,x,rfl,rfl,⟨hN,hx,hr⟩, ?_⟩
 have hb:=Z4y (sameAt (Z1F N g) x) N
 rw [w64 (x:=(N:Int)-1) (by omega),w64 (by omega)]
 unfold QE
 rfl
theorem Z60 (N:Nat) (g:Nat->InS) (x:InS) (num:Int) (outs:AV) (hN:N<900000000000) (hx:x.Ok) (hg:∀i,i<N->(g i).Ok):Zs PP 71 [.agg x.c,.pview [.int .i64 num,.vrows 130 N (Zk g) N,outs] 0] (.bool (QE N g x)) 0 []:=.ev Zb6 (Zb7 N g x num outs _ hN hx hg rfl)
def Z9x:ZX:=fun args h K=>ZJ none h true 20 args fun a=>match a with
 | [.agg cs,.pview [.int .i64 num,.vrows 130 n f m,outs] 0]=>∃g x,f=Zk g/\cs=InS.c x/\(m=n/\n<900000000000/\x.Ok/\∀i,i<n->(g i).Ok)/\K (.bool (QE n g x))
 | _=>False
theorem Z7X (args:List AV) (h:Z7) (K:AV->Prop) (hl:Z9x args h K):Zh PP 71 args h fun o h'=>∃v,o=.ret v/\h'=h/\K v:=by
 refine Zs.psumm (d:=20) (Zm _ _ _ _ _ hl fun a ha=> ?_)
 split at ha
 ·obtain ⟨g,x,rfl,rfl,⟨rfl,h1,h2,h3⟩,hK⟩:=ha
  exact ⟨_,Z60 _ g x _ _ h1 h2 h3,fun _=>rfl,hK⟩
 simp_all
def QF (N:Nat) (g:Nat->InS) (y:InS):Bool:= !Yw y||QE N g y
noncomputable def ZdQ:Ze:=(G0.withP 71 Z9x).withP 76 (inS Yw)
theorem Zb8:ZdQ.Ok:=Ze.withP_ok (Ze.withP_ok Zr Z7X) ZcJ
theorem Zb9 (N:Nat) (g:Nat->InS) (y:InS) (num:Int) (outs:AV) (F:Bool) (hN:N<900000000000) (hy:y.Ok) (hg:∀i,i<N->(g i).Ok) (hF:F=QF N g y):
  evF ZdQ 20 75 [.agg y.c,.pview [.func (.func 71) [] [.pview [.int .i64 num,.vrows 130 N (Zk g) N,outs] 0]] 0] ⟨0,[]⟩ (Y1 0 [] (.bool F) 0 []):=by
 refine @Eq.mpr _ (let e:=y.name;let d:=y.tag;let b:=y.also;let a:=y.secret;
 Z5 (e.length=32/\d.length=32/\b.length=32/\a.length=32) (Z6 (!Yw (InS.mk e y.index y.way d b a)) (Z5 (true=F) True) (∃(g_1:Nat->InS),∃(x:InS),Zk g=Zk g_1/\[AV.arr u8 32 e,AV.int i64 y.index,AV.int i64 y.way,AV.arr u8 32 d,AV.arr u8 32 b,AV.arr u8 32 a]=InS.c x/\(N=N/\N<900000000000/\InS.Ok x/\∀(i:Nat),i<N->InS.Ok (g_1 i))/\Z5 (QE N g_1 x=F) True))) (by kernel_rfl) ?_
 conv=>zeta
 try simp only [XK]
 try simp only [XL]
 try simp only [vcC]
 subst hF
 refine ⟨⟨hy.name,hy.tag,hy.also,hy.secret⟩, ?_, ?_⟩
 ·intro h
  have h':Yw y=false:=by simpa using h
  unfold QF
  rw [h']
  rfl
 ·intro h
  refine ⟨g,y,rfl,rfl,⟨hN,hy,hg⟩, ?_⟩
  have h':Yw y=true:=by simpa using h
  unfold QF
  rw [h']
  rfl
def Z9y:ZX:=fun args h K=>ZJ none h true 20 args fun a=>match a with
 | [.agg cs,.pview [.func (.func 71) [] [.pview [.int .i64 num,.vrows 130 n f m,outs] 0]] 0]=>∃g y,f=Zk g/\cs=InS.c y/\(m=n/\n<900000000000/\y.Ok/\∀i,i<n->(g i).Ok)/\K (.bool (QF n g y))
 | _=>False
theorem Z7Y (args:List AV) (h:Z7) (K:AV->Prop) (hl:Z9y args h K):Zh PP 75 args h fun o h'=>∃v,o=.ret v/\h'=h/\K v:=by
 refine Zs.psumm (d:=20) (Zm _ _ _ _ _ hl fun a ha=> ?_)
 split at ha
 ·obtain ⟨g,x,rfl,rfl,⟨rfl,h1,h2,h3⟩,hK⟩:=ha
  exact ⟨_,.ev Zb8 (Zb9 _ g x _ _ _ h1 h2 h3 rfl),fun _=>rfl,hK⟩
 simp_all
noncomputable def ZcS:Ze:=G0.withP 75 Z9y
theorem Zba:ZcS.Ok:=Ze.withP_ok Zr Z7Y
def YE (N:Nat) (g:Nat->InS):Nat->Bool:=fun j=>QF N g (g j)
def ZcT (N:Nat) (g:Nat->InS) (num:Int) (outs:AV) (i:Nat):St:=⟨19,[(1,.func (.func 75) [] [.pview [.func (.func 71) [] [.pview [.int .i64 num,.vrows 130 N (Zk g) N,outs] 0]] 0]),(0,.vrows 130 N (Zk g) N),(7,.int .i64 N),(8,.int .i64 i)],⟨0,[]⟩,[]⟩
def ZdR (i:Nat):St:=⟨19,[(4,.int .i64 i)],⟨0,[]⟩,[]⟩
def ZdS (_:Nat):St:=⟨19,[],⟨0,[]⟩,[]⟩
theorem ZdT (N:Nat) (g:Nat->InS) (num:Int) (outs:AV) (i:Nat) (Z1 Z2 Z3:Prop) (hC:N<900000000000/\∀i,i<N->(g i).Ok) (hi:i<=N) (h1:i<N->YE N g i=false->Z1) (h2:i=N->Z2) (h3:i<N->YE N g i=true->Z3):
  ZA ZcS 20 73 0 0 (ZcT N g num outs i) (fun e s=>match e with|.normal=>ZG 0 [] (ZcT N g num outs (i+1)) s Z1|.exit x=>(match Nat.beq x 0 with|true=>ZG 0 [] (ZdS i) s Z2|false=>False)|.ret=>ZG 0 [] (ZdR i) s Z3|_=>False):=by
 refine @Eq.mpr _ (let b:=Zk g;let a:=g (Int.toNat (↑i:Int));let e:=[AV.func (Fn.func 71) [] [AV.pview [AV.int i64 num,AV.vrows 130 N b N,outs] 0]];let d:=decide (N=N);
 Z6 (decide ((↑i:Int)<(↑N:Int))) (Z5 (0<=(↑i:Int)/\(↑i:Int)<(↑N:Int)) (∃(g:Nat->InS),∃(y:InS),b=Zk g/\[AV.arr u8 32 a.name,AV.int i64 a.index,AV.int i64 a.way,AV.arr u8 32 a.tag,AV.arr u8 32 a.also,AV.arr u8 32 a.secret]=InS.c y/\(N=N/\N<900000000000/\InS.Ok y/\∀(i:Nat),i<N->InS.Ok (g i))/\Z6 (QF N g y) (Z5 ((↑i:Int)=(↑i:Int)) Z3) (e=e/\Z0 d (b=b/\Z0 d (Z5 ((↑N:Int)=(↑N:Int)) (Z5 (wrap i64 ((↑i:Int)+1)=(↑(i+1):Int)) Z1)))))) Z2) (by kernel_rfl) ?_
 conv=>zeta
 try simp only [XK]
 try simp only [XL]
 try simp only [vcC]
 refine ⟨fun hlt=>⟨by omega,g,g i,rfl,rfl,⟨hC.1,hC.2 i (by omega),hC.2⟩,fun h=>h3 (by omega) h,fun h=>⟨w64 (by omega),h1 (by omega) h⟩⟩,fun hge=>h2 (by omega)⟩
noncomputable def ZdU (N:Nat) (g:Nat->InS) (num:Int) (outs:AV):Ze:=ZcS.withL 73 0 (goL 0 [] (ZcT N g num outs 0) (N<900000000000/\∀i,i<N->(g i).Ok) (Z03 0 N (fun i=>YE N g i=false) (fun i=>i=N) (fun i=>i<N/\YE N g i=true) ZdS ZdR))
theorem Zbb (N:Nat) (g:Nat->InS) (num:Int) (outs:AV):(ZdU N g num outs).Ok:=
 Ze.withGo (τ1:=[]) (τ2:=[]) (τ3:=[]) (N:=20) Zba (by kernel_rfl) fun hC=>⟨rfl,fun i hi _=>ZdT N g num outs i _ _ _ hC hi (fun h1 h2=>⟨h2,h1⟩) (fun h=>h) (fun h1 h2=>⟨h1,h2⟩)⟩
theorem ZdV (N:Nat) (g:Nat->InS) (num:Int) (outs:AV) (F:Int) (hC:N<900000000000/\∀i,i<N->(g i).Ok) (hF:F=Y4 (YE N g) N):
  evF (ZdU N g num outs) 20 73 [.vrows 130 N (Zk g) N,.func (.func 75) [] [.pview [.func (.func 71) [] [.pview [.int .i64 num,.vrows 130 N (Zk g) N,outs] 0]] 0]] ⟨0,[]⟩ (Y1 0 [] (.int .i64 F) 0 []):=by
 refine @Eq.mpr _ (let a:=Zk g;let c:=[AV.func (Fn.func 71) [] [AV.pview [AV.int i64 num,AV.vrows 130 N a N,outs] 0]];let b:=decide (N=N);
 c=c/\Z0 b (a=a/\Z0 b (Z5 ((↑N:Int)=(↑N:Int)) ((N<900000000000/\∀(i:Nat),i<N->InS.Ok (g i))/\∀(i:Nat),i<=N->(∀(j:Nat),j<i->(fun (i:Nat)=>YE N g i=false) j)->(i=N->Z5 (-1=F) True)/\(i<N/\YE N g i=true->Z5 ((↑i:Int)=F) True))))) (by kernel_rfl) ?_
 conv=>zeta
 try simp only [XK]
 try simp only [XL]
 try simp only [vcC]
 subst hF
 exact ⟨hC,fun i hi hgo=>⟨fun h=>by subst h;exact (W3 hgo).symm,fun h=>(W2 h.1 hgo h.2).symm⟩⟩
theorem Z9z (N:Nat) (g:Nat->InS) (num:Int) (outs:AV) (hC:N<900000000000/\∀i,i<N->(g i).Ok):Zs PP 73 [.vrows 130 N (Zk g) N,.func (.func 75) [] [.pview [.func (.func 71) [] [.pview [.int .i64 num,.vrows 130 N (Zk g) N,outs] 0]] 0]] (.int .i64 (Y4 (YE N g) N)) 0 []:=.ev (Zbb N g num outs) (ZdV N g num outs _ hC rfl)
theorem WR (p:Nat->Bool) (n:Nat):decide (0<=Y4 p n)=(List.range n).any p:=by
 grind [Z04]
def ZdW:ZX:=fun args h K=>ZJ none h true 20 args fun a=>match a with
 | [.vrows 130 n f m,.func (.func 75) [] [.pview [.func (.func 71) [] [.pview [.int .i64 num,.vrows 130 n' f' m',outs] 0]] 0]]=>∃g,f=Zk g/\f'=Zk g/\(m=n/\n'=n/\m'=n/\n<900000000000/\∀i,i<n->(g i).Ok)/\K (.int .i64 (Y4 (YE n g) n))
 | _=>False
theorem Zbc (args:List AV) (h:Z7) (K:AV->Prop) (hl:ZdW args h K):Zh PP 73 args h fun o h'=>∃v,o=.ret v/\h'=h/\K v:=by
 refine Zs.psumm (d:=20) (Zm _ _ _ _ _ hl fun a ha=> ?_)
 split at ha
 ·obtain ⟨g,rfl,rfl,⟨rfl,rfl,rfl,h1,h2⟩,hK⟩:=ha
  exact ⟨_,Z9z _ g _ _ ⟨h1,h2⟩,fun _=>rfl,hK⟩
 simp_all
noncomputable def ZdX:Ze:=G0.withP 82 (ZcK YB)
theorem Zbd:ZdX.Ok:=Ze.withP_ok Zr ZaV
def Z3E (o:Y2):Bool:= !YB o
theorem Z9A (o:Y2) (F:Bool) (ho:o.Ok) (hF:F=Z3E o):
  evF ZdX 20 81 [.agg o.c] ⟨0,[]⟩ (Y1 0 [] (.bool F) 0 []):=by
 refine @Eq.mpr _ (Z5 (o.owner.length=32/\o.other.length=32/\o.point.length=32/\o.hash.length=32) (Z5 ((!YB (Y2.mk o.kind o.amount o.owner o.other o.point o.hash o.delay o.expiry))=F) True)) (by kernel_rfl) ?_
 try simp only [XK]
 try simp only [XL]
 try simp only [vcC]
 subst hF
 exact ⟨⟨ho.owner,ho.other,ho.point,ho.hash⟩,rfl⟩
def Z6R:ZX:=fun args h K=>ZJ none h true 20 args fun a=>match a with
 | [.agg cs]=>∃o,cs=Y2.c o/\o.Ok/\K (.bool (Z3E o))
 | _=>False
theorem Z61 (args:List AV) (h:Z7) (K:AV->Prop) (hl:Z6R args h K):Zh PP 81 args h fun o h'=>∃v,o=.ret v/\h'=h/\K v:=by
 refine Zs.psumm (d:=20) (Zm _ _ _ _ _ hl fun a ha=> ?_)
 split at ha
 ·obtain ⟨x,rfl,h1,hK⟩:=ha
  exact ⟨_,.ev Zbd (Z9A x _ h1 rfl),fun _=>rfl,hK⟩
 simp_all
noncomputable def ZcU:Ze:=G0.withP 81 Z6R
theorem Zbe:ZcU.Ok:=Ze.withP_ok Zr Z61
def Yl (g:Nat->Y2):Nat->Bool:=fun j=>Z3E (g j)
def ZcV (N:Nat) (g:Nat->Y2) (i:Nat):St:=⟨19,[(1,.func (.func 81) [] []),(0,.vrows 132 N (ZL g) N),(7,.int .i64 N),(8,.int .i64 i)],⟨0,[]⟩,[]⟩
def ZdY (i:Nat):St:=⟨19,[(4,.int .i64 i)],⟨0,[]⟩,[]⟩
def ZdZ (_:Nat):St:=⟨19,[],⟨0,[]⟩,[]⟩
theorem Ze0 (N:Nat) (g:Nat->Y2) (i:Nat) (Z1 Z2 Z3:Prop) (hC:N<900000000000/\∀i,i<N->(g i).Ok) (hi:i<=N) (h1:i<N->Yl g i=false->Z1) (h2:i=N->Z2) (h3:i<N->Yl g i=true->Z3):
  ZA ZcU 20 115 0 0 (ZcV N g i) (fun e s=>match e with|.normal=>ZG 0 [] (ZcV N g (i+1)) s Z1|.exit x=>(match Nat.beq x 0 with|true=>ZG 0 [] (ZdZ i) s Z2|false=>False)|.ret=>ZG 0 [] (ZdY i) s Z3|_=>False):=by
 refine @Eq.mpr _ (let a:=g (Int.toNat (↑i:Int));let b:=decide (N=N);
 Z6 (decide ((↑i:Int)<(↑N:Int))) (Z5 (0<=(↑i:Int)/\(↑i:Int)<(↑N:Int)) (∃(o:Y2),[AV.int i64 a.kind,AV.int i64 a.amount,AV.arr u8 32 a.owner,AV.arr u8 32 a.other,AV.arr u8 32 a.point,AV.arr u8 32 a.hash,AV.int i64 a.delay,AV.int i64 a.expiry]=Y2.c o/\Y2.Ok o/\Z6 (Z3E o) (Z5 ((↑i:Int)=(↑i:Int)) Z3) (Z0 b (ZL g=ZL g/\Z0 b (Z5 ((↑N:Int)=(↑N:Int)) (Z5 (wrap i64 ((↑i:Int)+1)=(↑(i+1):Int)) Z1)))))) Z2) (by kernel_rfl) ?_
 conv=>zeta
 try simp only [XK]
 try simp only [XL]
 try simp only [vcC]
 refine ⟨fun hlt=>⟨by omega,g i,rfl,hC.2 i (by omega),fun h=>h3 (by omega) h,fun h=>⟨w64 (by omega),h1 (by omega) h⟩⟩,fun hge=>h2 (by omega)⟩
noncomputable def Ze1 (N:Nat) (g:Nat->Y2):Ze:=ZcU.withL 115 0 (goL 0 [] (ZcV N g 0) (N<900000000000/\∀i,i<N->(g i).Ok) (Z03 0 N (fun i=>Yl g i=false) (fun i=>i=N) (fun i=>i<N/\Yl g i=true) ZdZ ZdY))
theorem Zbf (N:Nat) (g:Nat->Y2):(Ze1 N g).Ok:=
 Ze.withGo (τ1:=[]) (τ2:=[]) (τ3:=[]) (N:=20) Zbe (by kernel_rfl) fun hC=>⟨rfl,fun i hi _=>Ze0 N g i _ _ _ hC hi (fun h1 h2=>⟨h2,h1⟩) (fun h=>h) (fun h1 h2=>⟨h1,h2⟩)⟩
theorem Ze2 (N:Nat) (g:Nat->Y2) (F:Int) (hC:N<900000000000/\∀i,i<N->(g i).Ok) (hF:F=Y4 (Yl g) N):
  evF (Ze1 N g) 20 115 [.vrows 132 N (ZL g) N,.func (.func 81) [] []] ⟨0,[]⟩ (Y1 0 [] (.int .i64 F) 0 []):=by
 refine @Eq.mpr _ (let a:=decide (N=N);
 Z0 a (ZL g=ZL g/\Z0 a (Z5 ((↑N:Int)=(↑N:Int)) ((N<900000000000/\∀(i:Nat),i<N->Y2.Ok (g i))/\∀(i:Nat),i<=N->(∀(j:Nat),j<i->(fun (i:Nat)=>Yl g i=false) j)->(i=N->Z5 (-1=F) True)/\(i<N/\Yl g i=true->Z5 ((↑i:Int)=F) True))))) (by kernel_rfl) ?_
 conv=>zeta
 try simp only [XK]
 try simp only [XL]
 try simp only [vcC]
 subst hF
 exact ⟨hC,fun i hi hgo=>⟨fun h=>by subst h;exact (W3 hgo).symm,fun h=>(W2 h.1 hgo h.2).symm⟩⟩
theorem Z9B (N:Nat) (g:Nat->Y2) (hC:N<900000000000/\∀i,i<N->(g i).Ok):Zs PP 115 [.vrows 132 N (ZL g) N,.func (.func 81) [] []] (.int .i64 (Y4 (Yl g) N)) 0 []:=.ev (Zbf N g) (Ze2 N g _ hC rfl)
def Ze3:ZX:=fun args h K=>ZJ none h true 20 args fun a=>match a with
 | [.vrows 132 n f m,.func (.func 81) [] []]=>∃g,f=ZL g/\(m=n/\n<900000000000/\∀i,i<n->(g i).Ok)/\K (.int .i64 (Y4 (Yl g) n))
 | _=>False
theorem Zbg (args:List AV) (h:Z7) (K:AV->Prop) (hl:Ze3 args h K):Zh PP 115 args h fun o h'=>∃v,o=.ret v/\h'=h/\K v:=by
 refine Zs.psumm (d:=20) (Zm _ _ _ _ _ hl fun a ha=> ?_)
 split at ha
 ·obtain ⟨g,rfl,⟨rfl,h1,h2⟩,hK⟩:=ha
  exact ⟨_,Z9B _ g ⟨h1,h2⟩,fun _=>rfl,hK⟩
 simp_all
def Uc (m x:Int):Bool:=decide (x<0\/x>m)
theorem ZcW (m x:Int) (F:Bool) (hF:F=Uc m x):
  evF G0 20 179 [.int .i64 x,.pview [.int .i64 m] 0] ⟨0,[]⟩ (Y1 0 [] (.bool F) 0 []):=by
 refine @Eq.mpr _ (Z6 (decide (x<0)) (Z5 (true=F) True) (Z5 (decide (x>m)=F) True)) (by kernel_rfl) ?_
 try simp only [XK]
 try simp only [XL]
 try simp only [vcC]
 subst hF
 unfold Uc
 refine ⟨fun h=> ?_,fun h=> ?_⟩<;>simp [h]
theorem Zbh (x:Int) (F:Bool) (hF:F=Uc 4611686018427387904 x):
  evF G0 20 92 [.int .i64 x] ⟨0,[]⟩ (Y1 0 [] (.bool F) 0 []):=by
 refine @Eq.mpr _ (Z6 (decide (x<0)) (Z5 (true=F) True) (Z5 (decide (x>4611686018427387904)=F) True)) (by kernel_rfl) ?_
 try simp only [XK]
 try simp only [XL]
 try simp only [vcC]
 subst hF
 unfold Uc
 refine ⟨fun h=> ?_,fun h=> ?_⟩<;>simp [h]
def Zch:ZX:=fun args h K=>ZJ none h true 20 args fun a=>match a with
 | [.int .i64 x,.pview [.int .i64 m] 0]=>K (.bool (Uc m x))
 | _=>False
theorem Z9C (args:List AV) (h:Z7) (K:AV->Prop) (hl:Zch args h K):Zh PP 179 args h fun o h'=>∃v,o=.ret v/\h'=h/\K v:=by
 refine Zs.psumm (d:=20) (Zm _ _ _ _ _ hl fun a ha=> ?_)
 split at ha
 ·exact ⟨_,.ev Zr (ZcW _ _ _ rfl),fun _=>rfl,ha⟩
 simp_all
def Z9D (T:Int):ZX:=fun args h K=>ZJ none h true 20 args fun a=>match a with
 | [.int .i64 x]=>K (.bool (Uc T x))
 | _=>False
theorem Z7Z (args:List AV) (h:Z7) (K:AV->Prop) (hl:Z9D 4611686018427387904 args h K):Zh PP 92 args h fun o h'=>∃v,o=.ret v/\h'=h/\K v:=by
 refine Zs.psumm (d:=20) (Zm _ _ _ _ _ hl fun a ha=> ?_)
 split at ha
 ·exact ⟨_,.ev Zr (Zbh _ _ rfl),fun _=>rfl,ha⟩
 simp_all
noncomputable def Ze4 (T:Int):Ze:=(G0.withP 179 Zch).withP 92 (Z9D T)
theorem Zbi:(Ze4 4611686018427387904).Ok:=Ze.withP_ok (Ze.withP_ok Zr Z9C) Z7Z
def Ya (m:Int) (xs:LI):Nat->Bool:=fun j=>Uc m (xs.getD j 0)
noncomputable def Z9E:Ze:=Ze4 4611686018427387904
theorem Z6S:Z9E.Ok:=Zbi
def ZcX (xs:LI) (N:Nat) (m:Int) (i:Nat):St:=⟨19,[(1,.func (.func 179) [] [.pview [.int .i64 m] 0]),(0,.vints .i64 xs N),(7,.int .i64 N),(8,.int .i64 i)],⟨0,[]⟩,[]⟩
def Ze5 (i:Nat):St:=⟨19,[(4,.int .i64 i)],⟨0,[]⟩,[]⟩
def Ze6 (_:Nat):St:=⟨19,[],⟨0,[]⟩,[]⟩
theorem Ze7 (xs:LI) (N:Nat) (m:Int) (i:Nat) (Z1 Z2 Z3:Prop) (hC:N<900000000000/\xs.length=N) (hi:i<=N) (h1:i<N->Ya m xs i=false->Z1) (h2:i=N->Z2) (h3:i<N->Ya m xs i=true->Z3):
  ZA Z9E 20 123 0 0 (ZcX xs N m i) (fun e s=>match e with|.normal=>ZG 0 [] (ZcX xs N m (i+1)) s Z1|.exit x=>(match Nat.beq x 0 with|true=>ZG 0 [] (Ze6 i) s Z2|false=>False)|.ret=>ZG 0 [] (Ze5 i) s Z3|_=>False):=by
 refine @Eq.mpr _ (let a:=[AV.int i64 m];
 Z6 (decide ((↑i:Int)<(↑N:Int))) (Z5 (0<=(↑i:Int)/\(↑i:Int)<(↑N:Int)) (Z6 (Uc m (List.getD xs (Int.toNat (↑i:Int)) 0)) (Z5 ((↑i:Int)=(↑i:Int)) Z3) (a=a/\xs=xs/\Z5 (N=N) (Z5 ((↑N:Int)=(↑N:Int)) (Z5 (wrap i64 ((↑i:Int)+1)=(↑(i+1):Int)) Z1))))) Z2) (by kernel_rfl) ?_
 conv=>zeta
 try simp only [XK]
 try simp only [XL]
 try simp only [vcC]
 refine ⟨fun hlt=>⟨by omega,fun h=>h3 (by omega) h,fun h=>⟨w64 (by omega),h1 (by omega) h⟩⟩,fun hge=>h2 (by omega)⟩
noncomputable def Ze8 (xs:LI) (N:Nat) (m:Int):Ze:=Z9E.withL 123 0 (goL 0 [] (ZcX xs N m 0) (N<900000000000/\xs.length=N) (Z03 0 N (fun i=>Ya m xs i=false) (fun i=>i=N) (fun i=>i<N/\Ya m xs i=true) Ze6 Ze5))
theorem Zbj (xs:LI) (N:Nat) (m:Int):(Ze8 xs N m).Ok:=
 Ze.withGo (τ1:=[]) (τ2:=[]) (τ3:=[]) (N:=20) Z6S (by kernel_rfl) fun hC=>⟨rfl,fun i hi _=>Ze7 xs N m i _ _ _ hC hi (fun h1 h2=>⟨h2,h1⟩) (fun h=>h) (fun h1 h2=>⟨h1,h2⟩)⟩
theorem Ze9 (xs:LI) (N:Nat) (m:Int) (F:Int) (hC:N<900000000000/\xs.length=N) (hF:F=Y4 (Ya m xs) N):
  evF (Ze8 xs N m) 20 123 [.vints .i64 xs N,.func (.func 179) [] [.pview [.int .i64 m] 0]] ⟨0,[]⟩ (Y1 0 [] (.int .i64 F) 0 []):=by
 refine @Eq.mpr _ (let a:=[AV.int i64 m];
 a=a/\xs=xs/\Z5 (N=N) (Z5 ((↑N:Int)=(↑N:Int)) ((N<900000000000/\xs.length=N)/\∀(i:Nat),i<=N->(∀(j:Nat),j<i->(fun (i:Nat)=>Ya m xs i=false) j)->(i=N->Z5 (-1=F) True)/\(i<N/\Ya m xs i=true->Z5 ((↑i:Int)=F) True)))) (by kernel_rfl) ?_
 conv=>zeta
 try simp only [XK]
 try simp only [XL]
 try simp only [vcC]
 subst hF
 exact ⟨hC,fun i hi hgo=>⟨fun h=>by subst h;exact (W3 hgo).symm,fun h=>(W2 h.1 hgo h.2).symm⟩⟩
theorem Z9F (xs:LI) (N:Nat) (m:Int) (hC:N<900000000000/\xs.length=N):Zs PP 123 [.vints .i64 xs N,.func (.func 179) [] [.pview [.int .i64 m] 0]] (.int .i64 (Y4 (Ya m xs) N)) 0 []:=.ev (Zbj xs N m) (Ze9 xs N m _ hC rfl)
def ZcY (xs:LI) (N:Nat) (i:Nat):St:=⟨19,[(1,.func (.func 92) [] []),(0,.vints .i64 xs N),(7,.int .i64 N),(8,.int .i64 i)],⟨0,[]⟩,[]⟩
def Zea (i:Nat):St:=⟨19,[(4,.int .i64 i)],⟨0,[]⟩,[]⟩
def Zeb (_:Nat):St:=⟨19,[],⟨0,[]⟩,[]⟩
theorem Zec (xs:LI) (N:Nat) (i:Nat) (Z1 Z2 Z3:Prop) (hC:N<900000000000/\xs.length=N) (hi:i<=N) (h1:i<N->Ya 4611686018427387904 xs i=false->Z1) (h2:i=N->Z2) (h3:i<N->Ya 4611686018427387904 xs i=true->Z3):
  ZA Z9E 20 123 0 0 (ZcY xs N i) (fun e s=>match e with|.normal=>ZG 0 [] (ZcY xs N (i+1)) s Z1|.exit x=>(match Nat.beq x 0 with|true=>ZG 0 [] (Zeb i) s Z2|false=>False)|.ret=>ZG 0 [] (Zea i) s Z3|_=>False):=by
 refine @Eq.mpr _ (Z6 (decide ((↑i:Int)<(↑N:Int))) (Z5 (0<=(↑i:Int)/\(↑i:Int)<(↑N:Int)) (Z6 (Uc 4611686018427387904 (List.getD xs (Int.toNat (↑i:Int)) 0)) (Z5 ((↑i:Int)=(↑i:Int)) Z3) (xs=xs/\Z5 (N=N) (Z5 ((↑N:Int)=(↑N:Int)) (Z5 (wrap i64 ((↑i:Int)+1)=(↑(i+1):Int)) Z1))))) Z2) (by kernel_rfl) ?_
 try simp only [XK]
 try simp only [XL]
 try simp only [vcC]
 refine ⟨fun hlt=>⟨by omega,fun h=>h3 (by omega) h,fun h=>⟨w64 (by omega),h1 (by omega) h⟩⟩,fun hge=>h2 (by omega)⟩
noncomputable def Zed (xs:LI) (N:Nat):Ze:=Z9E.withL 123 0 (goL 0 [] (ZcY xs N 0) (N<900000000000/\xs.length=N) (Z03 0 N (fun i=>Ya 4611686018427387904 xs i=false) (fun i=>i=N) (fun i=>i<N/\Ya 4611686018427387904 xs i=true) Zeb Zea))
theorem Zbk (xs:LI) (N:Nat):(Zed xs N).Ok:=
 Ze.withGo (τ1:=[]) (τ2:=[]) (τ3:=[]) (N:=20) Z6S (by kernel_rfl) fun hC=>⟨rfl,fun i hi _=>Zec xs N i _ _ _ hC hi (fun h1 h2=>⟨h2,h1⟩) (fun h=>h) (fun h1 h2=>⟨h1,h2⟩)⟩
theorem Zee (xs:LI) (N:Nat) (F:Int) (hC:N<900000000000/\xs.length=N) (hF:F=Y4 (Ya 4611686018427387904 xs) N):
  evF (Zed xs N) 20 123 [.vints .i64 xs N,.func (.func 92) [] []] ⟨0,[]⟩ (Y1 0 [] (.int .i64 F) 0 []):=by
 refine @Eq.mpr _ (xs=xs/\Z5 (N=N) (Z5 ((↑N:Int)=(↑N:Int)) ((N<900000000000/\xs.length=N)/\∀(i:Nat),i<=N->(∀(j:Nat),j<i->(fun (i:Nat)=>Ya 4611686018427387904 xs i=false) j)->(i=N->Z5 (-1=F) True)/\(i<N/\Ya 4611686018427387904 xs i=true->Z5 ((↑i:Int)=F) True)))) (by kernel_rfl) ?_
 try simp only [XK]
 try simp only [XL]
 try simp only [vcC]
 subst hF
 exact ⟨hC,fun i hi hgo=>⟨fun h=>by subst h;exact (W3 hgo).symm,fun h=>(W2 h.1 hgo h.2).symm⟩⟩
theorem Z9G (xs:LI) (N:Nat) (hC:N<900000000000/\xs.length=N):Zs PP 123 [.vints .i64 xs N,.func (.func 92) [] []] (.int .i64 (Y4 (Ya 4611686018427387904 xs) N)) 0 []:=.ev (Zbk xs N) (Zee xs N _ hC rfl)
def Zef (T:Int):ZX:=fun args h K=>ZJ none h true 20 args fun a=>match a with
 | [.vints .i64 xs n,.func (.func 179) [] [.pview [.int .i64 m] 0]]=>Z5 (xs.length=n/\n<900000000000) (K (.int .i64 (Y4 (Ya m xs) n)))
 | [.vints .i64 xs n,.func (.func 92) [] []]=>Z5 (xs.length=n/\n<900000000000) (K (.int .i64 (Y4 (Ya T xs) n)))
 | _=>False
theorem Zbl (args:List AV) (h:Z7) (K:AV->Prop) (hl:Zef 4611686018427387904 args h K):Zh PP 123 args h fun o h'=>∃v,o=.ret v/\h'=h/\K v:=by
 refine Zs.psumm (d:=20) (Zm _ _ _ _ _ hl fun a ha=> ?_)
 split at ha
 ·obtain ⟨⟨h1,h2⟩,hK⟩:=Zc ha
  exact ⟨_,Z9F _ _ _ ⟨h2,h1⟩,fun _=>rfl,hK⟩
 ·obtain ⟨⟨h1,h2⟩,hK⟩:=Zc ha
  exact ⟨_,Z9G _ _ ⟨h2,h1⟩,fun _=>rfl,hK⟩
 simp_all
noncomputable def Zeg (T:Int):Ze:=G0.withP 123 (Zef T)
theorem Zbm:(Zeg 4611686018427387904).Ok:=Ze.withP_ok Zr Zbl
@[irreducible] def allIn (m:Int) (xs:LI):Bool:= !((List.range xs.length).any (Ya m xs))
theorem Zbn (T:Int) (xs:LI) (N:Nat) (F:Int) (hC:N<900000000000/\xs.length=N) (hF:F=if allIn 1125899906842624 xs then 0 else 2):
  evF (Zeg T) 20 118 [.vints .i64 xs N] ⟨0,[]⟩ (Y1 0 [] (.int .i64 F) 0 []):=by
 refine @Eq.mpr _ (Z5 (xs.length=N/\N<900000000000) (Z6 (!!decide (Y4 (Ya 1125899906842624 xs) N>=0)) (Z5 (2=F) True) (Z5 (0=F) True))) (by kernel_rfl) ?_
 try simp only [XK]
 try simp only [XL]
 try simp only [vcC]
 obtain ⟨h1,h2⟩:=hC
 subst h2
 have hb:=WR (Ya 1125899906842624 xs) xs.length
 refine ⟨⟨rfl,h1⟩,fun h=> ?_,fun h=> ?_⟩
 ·rw [hF]
  unfold allIn
  rw [<-hb]
  simp at h
  simp [h]
 ·rw [hF]
  unfold allIn
  rw [<-hb]
  simp at h
  simp [h]
def Z9H (m:Int):ZX:=fun args h K=>ZJ none h true 20 args fun a=>match a with
 | [.vints .i64 xs n]=>Z5 (xs.length=n/\n<900000000000) (Z6 (allIn m xs) (K (.int .i64 0)) (K (.int .i64 2)))
 | _=>False
theorem Z80 (args:List AV) (h:Z7) (K:AV->Prop) (hl:Z9H 1125899906842624 args h K):Zh PP 118 args h fun o h'=>∃v,o=.ret v/\h'=h/\K v:=by
 refine Zs.psumm (d:=20) (Zm _ _ _ _ _ hl fun a ha=> ?_)
 split at ha
 ·obtain ⟨⟨h1,h2⟩,hK⟩:=Zc ha
  refine ⟨_,.ev (Zbm) (Zbn _ _ _ _ ⟨h2,h1⟩ rfl),fun _=>rfl, ?_⟩
  rw [Z3B] at hK
  grind
 simp_all
def Xt (xs:LI) (i:Nat):Int:=(xs.take i).sum
theorem QG {i:Nat} (h:i<xs.length):Xt xs (i+1)=Xt xs i+xs.getD i 0:=by
 grind [Xt,List.take_succ_eq_append_getElem]
theorem QH {m:Int} (h:allIn m xs=true) {i:Nat} (hi:i<xs.length):0<=xs.getD i 0/\xs.getD i 0<=m:=by
 simp_all [allIn,Ya,Uc]
theorem Z4z {m:Int} {xs:LI} (h:allIn m xs=true):∀{i:Nat},i<=xs.length->0<=Xt xs i
 | 0,_=>by simp [Xt]
 | i+1,hi=>by
  rw [QG (by omega)]
  have:=QH h (i:=i) (by omega)
  have:=Z4z h (i:=i) (by omega)
  omega
theorem Z2I {m:Int} {xs:LI} (h:allIn m xs=true):∀(d i:Nat),i+d<=xs.length->Xt xs i<=Xt xs (i+d)
 | 0,i,_=>Int.le_refl _
 | d+1,i,hi=>by
  have h1:=Z2I h d i (by omega)
  rw [<-Nat.add_assoc,QG (by omega)]
  have:=QH h (i:=i+d) (by omega)
  omega
def adS (xs:LI) (i:Nat):St:=⟨24,[(10,.vints .i64 xs xs.length),(3,.int .i64 150),(11,.int .i64 xs.length),(12,.int .i64 i),(2,.int .i64 (Xt xs i))],⟨0,[]⟩,[]⟩
def adE (xs:LI) (i:Nat):St:=⟨24,[(3,.int .i64 150),(2,.int .i64 (Xt xs i))],⟨0,[]⟩,[]⟩
def adJ (_:Nat):St:=⟨24,[(3,.int .i64 150)],⟨0,[]⟩,[]⟩
theorem Zeh (xs:LI) (i:Nat) (Z1 Z2 Z4:Prop) (M:Int) (hM:M=1125899906842624) (hn:xs.length<900000000000) (hall:allIn M xs=true) (hi:i<=xs.length) (hgo:∀j,j<i->Xt xs (j+1)<=M) (h1:i<xs.length->Xt xs (i+1)<=M->Z1) (h2:i=xs.length->Z2) (h4:i<xs.length->M<Xt xs (i+1)->Z4):
  ZA G0 20 119 0 0 (adS xs i) (fun e s=>match e with|.normal=>ZG 0 [] (adS xs (i+1)) s Z1|.exit x=>(match Nat.beq x 0 with|true=>ZG 0 [] (adE xs i) s Z2|false=>False)|.ret=>ZG 0 [] (adJ i) s False|.goto x=>(match Nat.beq x 0 with|true=>ZG 0 [] (adJ i) s Z4|false=>False)|_=>False):=by
 refine @Eq.mpr _ (let c:=xs.length;let a:=(↑c:Int);let b:=Xt xs i;let d:=wrap i64 (b+List.getD xs (Int.toNat (↑i:Int)) 0);
 Z6 (decide ((↑i:Int)<a)) (Z5 (0<=(↑i:Int)/\(↑i:Int)<a) (Z6 (decide (d>1125899906842624)) Z4 (xs=xs/\Z5 (c=c) (Z5 (a=a) (Z5 (wrap i64 ((↑i:Int)+1)=(↑(i+1):Int)) (Z5 (d=Xt xs (i+1)) Z1)))))) (Z5 (b=b) Z2)) (by kernel_rfl) ?_
 conv=>zeta
 try simp only [XK]
 try simp only [XL]
 try simp only [vcC]
 subst hM
 refine ⟨fun hlt=>⟨by omega, ?_⟩,fun hge=>h2 (by omega)⟩
 have hs:=QG (xs:=xs) (i:=i) (by omega)
 have hx:=QH hall (i:=i) (by omega)
 have hp:=Z4z hall hi
 have hq:Xt xs i<=1125899906842624:=by
  cases i with
  | zero=>simp [Xt]
  | succ j=>exact hgo j (by omega)
 have hw:i64.wrap (Xt xs i+xs.getD i 0)=Xt xs (i+1):=by rw [w64 (by omega)];exact hs.symm
 rw [hw]
 have hw2:i64.wrap ((i:Int)+1)=((i+1:Nat):Int):=w64 (by omega)
 refine ⟨fun h=>h4 (by omega) (by omega),fun h=> ?_⟩
 rw [hw2]
 simp [h1 (by omega) (by omega)]
noncomputable def Zei (m M:Int) (xs:LI):Ze:=(G0.withL 119 0 (goL 0 [] (adS xs 0) (allIn M xs=true/\xs.length<900000000000) (YF 0 xs.length 0 (fun i=>Xt xs (i+1)<=M) (fun i=>i=xs.length) (fun _=>False) (fun i=>i<xs.length/\M<Xt xs (i+1)) (adE xs) adJ adJ))).withP 118 (Z9H m)
theorem Zbo (xs:LI):(Zei 1125899906842624 1125899906842624 xs).Ok:=
 Ze.withP_ok (Ze.withGoJ (τ1:=[]) (τ2:=[]) (τ3:=[]) (τ4:=[]) (N:=20) Zr (by kernel_rfl) fun hC=>⟨rfl,fun i hi hgo=>Zeh xs i _ _ _ _ rfl hC.2 hC.1 hi hgo (fun h1 h2=>⟨h2,h1⟩) (fun h=>h) (fun h1 h2=>⟨h1,h2⟩)⟩) Z80
@[irreducible] def Xi (xs:LI):Int×Int:=if allIn 1125899906842624 xs=true then (if xs.sum<=1125899906842624 then (xs.sum,0) else (0,150)) else (0,2)
theorem Zej (xs:LI) (m M:Int) (F:Int×Int) (hm:m=1125899906842624) (hM:M=1125899906842624) (hn:xs.length<900000000000) (hF:F=Xi xs):
  evF (Zei m M xs) 20 119 [.vints .i64 xs xs.length] ⟨0,[]⟩ (Y1 0 [] (.tuple [.int .i64 F.1,.int .i64 F.2]) 0 []):=by
 refine @Eq.mpr _ (let a:=xs.length;let c:=(↑a:Int);let b:=decide (0=F.fst);
 Z5 (a=a/\a<900000000000) (Z6 (allIn m xs) (xs=xs/\Z5 (a=a) (Z5 (c=c) ((allIn M xs=true/\a<900000000000)/\∀(i:Nat),i<=a->(∀(j:Nat),j<i->(fun (i:Nat)=>Xt xs (i+1)<=M) j)->(i=a->Z5 (Xt xs i=F.fst) (Z5 (0=F.snd) True))/\(False->False)/\(i<a/\M<Xt xs (i+1)->Z0 b (Z5 (150=F.snd) True))))) (Z0 b (Z5 (2=F.snd) True)))) (by kernel_rfl) ?_
 conv=>zeta
 try simp only [XK]
 try simp only [XL]
 try simp only [vcC]
 subst hm hM hF
 have ht:Xt xs xs.length=xs.sum:=by simp [Xt]
 refine ⟨hn,fun hall=>⟨⟨hall,hn⟩,fun i hi hgo=>⟨fun he=> ?_,fun h=>h.elim,fun he=> ?_⟩⟩,fun hall=> ?_⟩
 ·subst he
  have hle:xs.sum<=1125899906842624:=by
   rw [<-ht]
   rcases JB xs.length with h0|h0
   ·rw [h0];simp [Xt]
   ·have:=hgo (xs.length-1) (by omega)
    rw [Nat.sub_add_cancel h0] at this
    exact this
  unfold Xi
  rw [if_pos hall,if_pos hle]
  exact ⟨ht,rfl⟩
 ·have hmono:=Z2I hall (xs.length-(i+1)) (i+1) (by omega)
  rw [show i+1+(xs.length-(i+1))=xs.length by omega,ht] at hmono
  unfold Xi
  rw [if_pos hall,if_neg (by omega)]
  exact ⟨rfl,rfl⟩
 ·unfold Xi
  rw [if_neg (by simp [hall])]
  exact ⟨rfl,rfl⟩
def Zci (A:LI->Int×Int):ZX:=fun args h K=>ZJ none h true 20 args fun a=>match a with
 | [.vints .i64 xs n]=>Z5 (n=xs.length/\n<900000000000) (K (.tuple [.int .i64 (A xs).1,.int .i64 (A xs).2]))
 | _=>False
theorem Z9I (args:List AV) (h:Z7) (K:AV->Prop) (hl:Zci Xi args h K):Zh PP 119 args h fun o h'=>∃v,o=.ret v/\h'=h/\K v:=by
 refine Zs.psumm (d:=20) (Zm _ _ _ _ _ hl fun a ha=> ?_)
 split at ha
 ·obtain ⟨⟨rfl,h1⟩,hK⟩:=Zc ha
  exact ⟨_,.ev (Zbo _) (Zej _ _ _ _ rfl rfl h1 rfl),fun _=>rfl,hK⟩
 simp_all
def amL (g:Nat->Y2) (n:Nat):LI:=(List.range n).map fun j=>(g j).amount
theorem Z9J (g:Nat->Y2) (n:Nat):amL g (n+1)=amL g n++[(g n).amount]:=by simp [amL,List.range_succ]
theorem Z0u (g:Nat->Y2) (n:Nat):(amL g n).length=n:=by simp [amL]
def suS (M:Nat) (g:Nat->Y2) (i:Nat):St:=⟨24,[(8,.vrows 132 M (ZL g) M),(9,.int .i64 M),(10,.int .i64 i),(4,.nslice ⟨0,0,0,0,0⟩ 1 i i)],⟨1,[(0,.ints .i64 (amL g i))]⟩,[]⟩
def suE (g:Nat->Y2) (i:Nat):St:=⟨24,[(4,.nslice ⟨0,0,0,0,0⟩ 1 i i)],⟨1,[(0,.ints .i64 (amL g i))]⟩,[]⟩
theorem Zek (M i:Nat) (g:Nat->Y2) (Z1 Z2:Prop) (hn:M<900000000000) (hi:i<=M) (h1:i<M->Z1) (h2:i=M->Z2):
  ZA G0 20 83 0 0 (suS M g i) (fun e s=>match e with|.normal=>ZG 0 [(0,3)] (suS M g (i+1)) s Z1|.exit x=>(match Nat.beq x 0 with|true=>ZG 0 [(0,0)] (suE g i) s Z2|false=>False)|.ret=>ZG 0 [] (suE g i) s False|_=>False):=by
 refine @Eq.mpr _ (let b:=amL g i;let e:=b++[(g (Int.toNat (↑i:Int))).amount];let c:=e.length;let d:=decide (M=M);let a:=i+1;
 Z6 (decide ((↑i:Int)<(↑M:Int))) (Z5 (0<=(↑i:Int)/\(↑i:Int)<(↑M:Int)) (Z5 (i64=i64/\b.length=i) (Z5 (c*8<=140737488355328) (Z0 d (ZL g=ZL g/\Z0 d (Z5 ((↑M:Int)=(↑M:Int)) (Z5 (wrap i64 ((↑i:Int)+1)=(↑a:Int)) (Z5 (c=a) (Z5 (a<=c) (e=amL g a/\Z1)))))))))) (Z5 (i=i) (Z5 (i<=i) (b=b/\Z2)))) (by kernel_rfl) ?_
 conv=>zeta
 try simp only [XK]
 try simp only [XL]
 try simp only [vcC]
 refine ⟨fun hlt=>⟨by omega,Z0u g i, ?_⟩,fun hge=>h2 (by omega)⟩
 rw [<-Z9J,Z0u]
 exact ⟨by omega,w64 (by omega),rfl,J2 _,rfl,h1 (by omega)⟩
noncomputable def Zel (A:LI->Int×Int) (M:Nat) (g:Nat->Y2):Ze:=(G0.withL 83 0 (goL 0 [] (suS M g 0) (M<900000000000) (Z03 0 M (fun i=>i<M) (fun i=>i=M) (fun _=>False) (suE g) (suE g)))).withP 119 (Zci A)
theorem Zbp (M:Nat) (g:Nat->Y2):(Zel Xi M g).Ok:=
 Ze.withP_ok (Ze.withGo (τ1:=[(0,3)]) (τ2:=[(0,0)]) (τ3:=[]) (N:=20) Zr (by kernel_rfl) fun hC=>⟨rfl,fun i hi hgo=>Zek M i g _ _ hC hi (fun h=>⟨h,h⟩) (fun h=>h)⟩) Z9I
theorem Zem (A:LI->Int×Int) (M N:Nat) (f:Nat->InS) (g:Nat->Y2) (num:Int) (F:Int×Int) (hn:M<900000000000) (hF:F=A (amL g M)):
  evF (Zel A M g) 20 83 [.agg [.int .i64 num,.vrows 130 N (Zk f) N,.vrows 132 M (ZL g) M]] ⟨0,[]⟩ (Y1 0 [] (.tuple [.int .i64 F.1,.int .i64 F.2]) 0 []):=by
 refine @Eq.mpr _ (let c:=decide (M=M);
 Z0 c (ZL g=ZL g/\
 Z0 c (Z5 ((↑M:Int)=(↑M:Int)) (amL g 0=[]/\
 M<900000000000/\
 ∀(i:Nat),
 let b:=List.take i (ZS 0 (amL g i));let a:=A b;
 i<=M->(∀(j:Nat),j<i->(fun (i:Nat)=>i<M) j)->(i=M->Z5 (0+i<=List.length (amL g i)) (Z5 (i=b.length/\i<900000000000) (Z5 (a.fst=F.fst) (Z5 (a.snd=F.snd) True))))/\(False->False))))) (by kernel_rfl) ?_
 conv=>zeta
 try simp only [XK]
 try simp only [XL]
 try simp only [vcC]
 subst hF
 refine ⟨rfl,hn,fun i hi hgo=>⟨fun he=> ?_,fun h=>h.elim⟩⟩
 subst he
 rw [Y6,List.drop_zero,JS (by rw [Z0u];exact J2 _),Z0u]
 exact ⟨J2 _,⟨rfl,hn⟩,rfl,rfl⟩
def Z9K (A:LI->Int×Int):ZX:=fun args h K=>ZJ none h true 20 args fun a=>match a with
 | [.agg [.int .i64 num,.vrows 130 N f n,.vrows 132 M f' m]]=>∃g g',f=Zk g/\f'=ZL g'/\(n=N/\m=M/\M<900000000000)/\K (.tuple [.int .i64 (A (amL g' M)).1,.int .i64 (A (amL g' M)).2])
 | _=>False
theorem Z81 (args:List AV) (h:Z7) (K:AV->Prop) (hl:Z9K Xi args h K):Zh PP 83 args h fun o h'=>∃v,o=.ret v/\h'=h/\K v:=by
 refine Zs.psumm (d:=20) (Zm _ _ _ _ _ hl fun a ha=> ?_)
 split at ha
 ·obtain ⟨g,g',rfl,rfl,⟨rfl,rfl,h1⟩,hK⟩:=ha
  exact ⟨_,.ev (Zbp _ g') (Zem _ _ _ g g' _ _ h1 rfl),fun _=>rfl,hK⟩
 simp_all
def Z62 (v:AV) (N:Nat) (g:Nat->InS):Prop:=match v with
 | .vrows 130 n f m=>(m=n/\N=n)/\∀i,i<n->f i=(g i).c
 | .nilslice=>N=0
 | .eslice=>N=0
 | .fslice=>N=0
 | _=>False
def Z1G (v:AV) (N:Nat) (g:Nat->Y2):Prop:=match v with
 | .vrows 132 n f m=>(m=n/\N=n)/\∀i,i<n->f i=(g i).c
 | .nilslice=>N=0
 | .eslice=>N=0
 | .fslice=>N=0
 | _=>False
theorem Zb.rows0 {r:Value} {a:Option Addr} {c:Nat} (h:r=.slice a 0 c) (hc:a=none->c=0):Zb E (.vrows esz 0 f 0) r:=by
 subst h
 cases a with
 | none=>rw [hc rfl];exact .vrowsNil _ _ _ _ rfl rfl
 | some a=>exact .vrows _ _ _ _ a c (fun _=>[]) (J2 _) (Jt _) (fun i h=>by omega) (fun i h=>by omega) (fun i j c h=>by omega)
theorem Zb.rowsC {n:Nat} {f':Nat->List AV} {r:Value} (h:Zb E (.vrows esz n f n) r) (hf:∀i,i<n->f i=f' i):Zb E (.vrows esz n f' n) r:=by
 cases h with
 | vrowsNil esz n f len h1 h2=>exact .vrowsNil _ _ _ _ h1 h2
 | vrows esz n f len a cap g h1 h2 hc hl hi=>exact .vrows _ _ _ _ a cap g h1 h2 (fun i h=>by simp_all) hl hi
theorem Z62.rel {N:Nat} (h:Z62 v N g) {r:Value} (hv:Zb E v r):Zb E (.vrows 130 N (Zk g) N) r:=by
 unfold Z62 at h
 split at h
 ·obtain ⟨⟨rfl,rfl⟩,hf⟩:=h
  exact hv.rowsC hf
 ·subst h;cases hv;exact .rows0 rfl (fun _=>rfl)
 ·subst h;cases hv with|eslice a=>exact .rows0 rfl (fun _=>rfl)
 ·subst h;cases hv with|fslice a c=>exact .rows0 rfl (fun h=>by cases h)
 simp_all
theorem Z1G.rel {N:Nat} {g:Nat->Y2} (h:Z1G v N g) {r:Value} (hv:Zb E v r):Zb E (.vrows 132 N (ZL g) N) r:=by
 unfold Z1G at h
 split at h
 ·obtain ⟨⟨rfl,rfl⟩,hf⟩:=h
  exact hv.rowsC hf
 ·subst h;cases hv;exact .rows0 rfl (fun _=>rfl)
 ·subst h;cases hv with|eslice a=>exact .rows0 rfl (fun _=>rfl)
 ·subst h;cases hv with|fslice a c=>exact .rows0 rfl (fun h=>by cases h)
 simp_all
theorem Z62.cell {N:Nat} (h:Z62 v N g):v.isCell=true/\∀k n xs,v≠.arr k n xs:=by
 unfold Z62 at h;split at h<;>simp_all [AV.isCell]
theorem Z1G.cell {N:Nat} {g:Nat->Y2} (h:Z1G v N g):v.isCell=true/\∀k n xs,v≠.arr k n xs:=by
 unfold Z1G at h;split at h<;>simp_all [AV.isCell]
structure TxS where
 num:Int
 N:Nat
 ins:Nat->InS
 M:Nat
 outs:Nat->Y2
def TxS.c (t:TxS):List AV:=[.int .i64 t.num,.vrows 130 t.N (Zk t.ins) t.N,.vrows 132 t.M (ZL t.outs) t.M]
structure TxS.Ok (t:TxS):Prop where
 n:t.N<900000000000
 m:t.M<900000000000
 ins:∀i,i<t.N->(t.ins i).Ok
 outs:∀i,i<t.M->(t.outs i).Ok
def Z9L (l:List AV) (t:TxS):Prop:=match l with
 | [.int .i64 num,a,b]=>t.num=num/\Z62 a t.N t.ins/\Z1G b t.M t.outs
 | _=>False
theorem Z9L.rel {l:List AV} {t:TxS} (h:Z9L l t) {r:Value} (hv:Zb E (.agg l) r):Zb E (.agg t.c) r:=by
 unfold Z9L at h
 split at h
 ·obtain ⟨h0,h1,h2⟩:=h
  cases hv with
  | agg cs vs hc=>
   obtain ⟨c1,ws,rfl,_,q1,p1,hc⟩:=Zj.cons_cell hc (fun _ _ _ h=>by cases h)
   obtain ⟨c2,ws,rfl,_,q2,p2,hc⟩:=Zj.cons_cell hc h1.cell.2
   obtain ⟨c3,ws,rfl,_,q3,p3,hc⟩:=Zj.cons_cell hc h2.cell.2
   cases hc
   refine .agg _ _ (.one _ _ _ _ rfl q1 (by rw [h0];exact p1) (.one _ _ _ _ rfl q2 (h1.rel p2) (.one _ _ _ _ rfl q3 (h2.rel p3) .nil)))
 simp_all
theorem Zs.conv {P:Program} {f:FuncId} {args args₀:List AV} {nx:Nat} {bs:List (Nat×Blk)} (h:Zs P f args₀ v nx bs) (hc:∀E r,Zo E args r->Zo E args₀ r):Zs P f args v nx bs:=
 fun E w rs he hr=>h E w rs he (hc E rs hr)
theorem Zo.head {v':AV} {r l:List AV} {rs:List Value} (h:Zo E (v::l) rs) (hv:∀c,Zb E v c->Zb E v' c) (ht:∀cs,Zo E l cs->Zo E r cs):Zo E (v'::r) rs:=by
 cases h with
 | cons v c vs cs h t=>exact .cons _ _ _ _ (hv c h) (ht cs t)
@[irreducible] def Vb (A:LI->Int×Int) (t:TxS):Bool:=
 decide (0<=t.num/\t.num<=2147483647)&&decide (1<=t.N/\t.N<=24)&&decide (1<=t.M/\t.M<=24)&& !((List.range t.N).any (YE t.N t.ins))&& !((List.range t.M).any (Yl t.outs))&&((A (amL t.outs t.M)).2==0)
noncomputable def Zen (A:LI->Int×Int):Ze:=((G0.withP 73 ZdW).withP 115 Ze3).withP 83 (Z9K A)
theorem Zbq:(Zen Xi).Ok:=Ze.withP_ok (Ze.withP_ok (Ze.withP_ok Zr Zbc) Zbg) Z81
theorem Zfg (A:LI->Int×Int) (t:TxS) (F:Int) (ht:t.Ok) (hF:F=if Vb A t=true then 0 else 2):
  evF (Zen A) 20 29 [.agg t.c] ⟨0,[]⟩ (Y1 0 [] (.int .i64 F) 0 []):=by
 refine @Eq.mpr _ (let a:=Z5 (2=F) True;let c:=t.N;let k:=(↑c:Int);let b:=t.M;let j:=(↑b:Int);let h:=Zk t.ins;let d:=c=c;let f:=b=b;let e:=b<900000000000;
 Z6 (decide (0<=t.num)) (Z6 (!decide (t.num<=2147483647)) a (Z6 (decide (1<=k)) (Z6 (!decide (k<=24)) a (Z6 (decide (1<=j)) (Z6 (!decide (j<=24)) a (∃(g:Nat->InS),
 let m:=h=Zk g;
 m/\
 m/\
 (d/\d/\d/\c<900000000000/\∀(i:Nat),i<c->InS.Ok (g i))/\
 Z6 (decide (Y4 (YE c g) c>=0)) a (∃(g:Nat->Y2),
 let l:=ZL t.outs;
 l=ZL g/\(f/\e/\∀(i:Nat),i<b->Y2.Ok (g i))/\Z6 (decide (Y4 (Yl g) b>=0)) a (∃(g:Nat->InS),∃(g':Nat->Y2),h=Zk g/\l=ZL g'/\(d/\f/\e)/\Z6 ((A (amL g' b)).snd !=0) a (Z5 (0=F) True))))) a)) a)) a) (by kernel_rfl) ?_
 conv=>zeta
 try simp only [XK]
 try simp only [XL]
 try simp only [vcC]
 have h2:Vb A t=false->2=F:=fun h=>by rw [hF,h];rfl
 have h0:Vb A t=true->0=F:=fun h=>by rw [hF,h];rfl
 clear hF
 refine ⟨fun a1=>⟨fun a2=>h2 ?_,fun a2=>⟨fun a3=>⟨fun a4=>h2 ?_,fun a4=>⟨fun a5=>⟨fun a6=>h2 ?_,fun a6=> ?_⟩,fun a5=>h2 ?_⟩⟩,fun a3=>h2 ?_⟩⟩,fun a1=>h2 ?_⟩
 ·unfold Vb;rw [decide_eq_false (p:=0<=t.num/\_) (by simp at a2;omega)];simp
 ·unfold Vb;rw [decide_eq_false (p:=1<=t.N/\_) (by simp at a4;omega)];simp
 ·unfold Vb;rw [decide_eq_false (p:=1<=t.M/\_) (by simp at a6;omega)];simp
 ·refine ⟨t.ins,rfl,rfl,⟨ht.n,ht.ins⟩,fun b1=>h2 ?_,fun b1=>⟨t.outs,rfl,⟨ht.m,ht.outs⟩,fun b2=>h2 ?_,fun b2=>⟨t.ins,t.outs,rfl,rfl,ht.m,fun b3=>h2 ?_,fun b3=>h0 ?_⟩⟩⟩
  ·have:=WR (YE t.N t.ins) t.N
   rw [decide_eq_true b1] at this
   unfold Vb;rw [<-this];simp
  ·have:=WR (Yl t.outs) t.M
   rw [decide_eq_true b2] at this
   unfold Vb;rw [<-this];simp
  ·unfold Vb;simp at b3;simp [b3]
  ·have e1:=WR (YE t.N t.ins) t.N
   rw [decide_eq_false b1] at e1
   have e2:=WR (Yl t.outs) t.M
   rw [decide_eq_false b2] at e2
   unfold Vb
   rw [<-e1,<-e2]
   simp at a2 a4 a6 b3
   simp [b3]
   omega
 ·unfold Vb;rw [decide_eq_false (p:=1<=t.M/\_) (by omega)];simp
 ·unfold Vb;rw [decide_eq_false (p:=1<=t.N/\_) (by omega)];simp
 ·unfold Vb;rw [decide_eq_false (p:=0<=t.num/\_) (by omega)];simp
def ckS (A:LI->Int×Int):ZX:=fun args h K=>ZJ none h true 20 args fun a=>match a with
 | [.agg l]=>∃t,Z9L l t/\t.Ok/\Z6 (Vb A t) (K (.int .i64 0)) (K (.int .i64 2))
 | _=>False
theorem ZcZ (args:List AV) (h:Z7) (K:AV->Prop) (hl:ckS Xi args h K):Zh PP 29 args h fun o h'=>∃v,o=.ret v/\h'=h/\K v:=by
 refine Zs.psumm (d:=20) (Zm _ _ _ _ _ hl fun a ha=> ?_)
 split at ha
 ·obtain ⟨t,h1,h2,hK⟩:=ha
  refine ⟨_,(Zs.ev Zbq (Zfg _ t _ h2 rfl)).conv fun E r hr=>hr.head (fun _ hc=>h1.rel hc) (fun _ hc=>hc),fun _=>rfl, ?_⟩
  rw [Z3B] at hK
  grind
 simp_all
end Go.Tk
end
section
namespace Go.Tk
open IntKind (i64 u8 u32 u64 wrap)
def Z4A (k:Nat) (τ:Ren) (y x:Nat):Ren:=match Nat.blt y k with
 | true=>τ
 | false=>match Z5F τ y with
  | some _=>τ
  | none=>(y,x)::τ
mutual
def Zd0 (k:Nat) (τ:Ren):AV->AV->Ren
 | .ptr (some q),v=>match v with|.ptr (some p)=>Z4A k τ q.blk p.blk|_=>τ
 | .nslice q _ _ _,v=>match v with|.nslice p _ _ _=>Z4A k τ q.blk p.blk|_=>τ
 | .map (some y),v=>match v with|.map (some x)=>Z4A k τ y x|_=>τ
 | .yield y,v=>match v with|.yield x=>Z4A k τ y x|_=>τ
 | .func _ fs cs,v=>match v with|.func _ fs' cs'=>QI k (QI k τ fs fs') cs cs'|_=>τ
 | .iface _ u,v=>match v with|.iface _ u'=>Zd0 k τ u u'|_=>τ
 | .agg cs,v=>match v with|.agg cs'=>QI k τ cs cs'|_=>τ
 | .tuple cs,v=>match v with|.tuple cs'=>QI k τ cs cs'|_=>τ
 | _,_=>τ
def QI (k:Nat) (τ:Ren):List AV->List AV->Ren
 | [],_=>τ
 | v::r,l=>match l with|v'::r'=>QI k (Zd0 k τ v v') r r'|[]=>τ
end
def Zfh (k:Nat) (τ:Ren):Blk->Blk->Ren
 | .flat cs,B=>match B with|.flat cs'=>QI k τ cs cs'|_=>τ
 | .map es,B=>match B with|.map es'=>QI k (QI k τ (es.map (·.1)) (es'.map (·.1))) (es.map (·.2)) (es'.map (·.2))|_=>τ
 | .pmap es,B=>match B with|.pmap es'=>QI k (QI k τ (es.map (·.1)) (es'.map (·.1))) (es.map (·.2)) (es'.map (·.2))|_=>τ
 | .git m y _,B=>match B with|.git m' y' _=>Z4A k (Z4A k τ m m') y y'|_=>τ
 | .froz C y,B=>match B with|.froz C' y'=>Z4A k (infZ C C') y y'|_=>τ
 | _,_=>τ
where infZ (C C':Blk):Ren:=match C with
 | .map es=>match C' with|.map es'=>QI k (QI k τ (es.map (·.1)) (es'.map (·.1))) (es.map (·.2)) (es'.map (·.2))|_=>τ
 | _=>τ
def Zeo (k:Nat) (t:ZE):ZE->Ren->Ren
 | [],τ=>τ
 | (x,v)::r,τ=>Zeo k t r (match Zu t x with|some u=>Zd0 k τ v u|none=>τ)
def Zd1 (k:Nat):List Vk->List Vk->Ren->Ren
 | .call _ a::r,l,τ=>match l with|.call _ b::r'=>Zd1 k r r' (QI k τ a b)|_=>τ
 | .mark y::r,l,τ=>match l with|.mark x::r'=>Zd1 k r r' (Z4A k τ y x)|_=>τ
 | [],_,τ=>τ
def Zbr (k:Nat) (bs:List (Nat×Blk)):List (Nat×Blk)->Ren->Ren
 | [],τ=>τ
 | (y,B)::r,τ=>Zbr k bs r (match rn k τ y with
  | some x=>match ZB bs x with|some C=>Zfh k τ B C|none=>τ
  | none=>τ)
def Zfi (k:Nat) (s₂ s:St):Ren:=Zbr k s.h.bs s₂.h.bs (Zbr k s.h.bs s₂.h.bs (Zbr k s.h.bs s₂.h.bs (Zd1 k s₂.d s.d (Zeo k s.t s₂.t []))))
def Ud (k:Nat) (s₂ s:St) (Z:Prop):Prop:=ZG k (Zfi k s₂ s) s₂ s Z
theorem W4 {k:Nat} {s₂ s:St} {Z:Prop} (hl:Ud k s₂ s Z):Z/\Z3u k s s₂:=ZT hl
def Wx (k:Nat) (o:Out) (nx:Nat) (bs:List (Nat×Blk)):KO:=fun o' h=>match o with
 | .ret v=>match o' with
  | .ret u=>Ud k ⟨1,[(0,v)],⟨nx,bs⟩,[]⟩ ⟨1,[(0,u)],h,[]⟩ True
  | .panic _=>False
 | .panic v=>match o' with
  | .panic u=>Ud k ⟨1,[(0,v)],⟨nx,bs⟩,[]⟩ ⟨1,[(0,u)],h,[]⟩ True
  | .ret _=>False
theorem Spec.evM {G:Ze} (hG:G.Ok) {n:Nat} {f:FuncId} {args:List AV} {h0:Z7} {o:Out} {nx:Nat} {bs:List (Nat×Blk)} (h:evF G n f args h0 (Wx h0.next o nx bs)):Spec G.P f args h0 o nx bs:=by
 intro E w rs he hl
 refine (Qq hG h E w rs he hl).mono ?_
 rintro e w' ⟨E',o',h',hK,hev,hor⟩
 unfold Wx at hK
 cases o with
 | ret v=>
  cases hor with
  | ret u r hr=>
   obtain ⟨E₂,h1,h2⟩:=Z6P rfl hK he hev hr
   exact ⟨E₂,h1,.ret _ _ h2⟩
  | panic u r hr=>simp_all
 | panic v=>
  cases hor with
  | panic u r hr=>
   obtain ⟨E₂,h1,h2⟩:=Z6P rfl hK he hev hr
   exact ⟨E₂,h1,.panic _ _ h2⟩
  | ret u r hr=>simp_all
theorem Spec.pure {P:Program} {f:FuncId} {args:List AV} {v:AV} {nx:Nat} {bs:List (Nat×Blk)} (h:Spec P f args ⟨0,[]⟩ (.ret v) nx bs):Zs P f args v nx bs:=by
 intro E w rs he hl
 refine (h E w rs he hl).mono ?_
 rintro e w' ⟨E',hev,hor⟩
 cases hor with
 | ret v r hr=>grind
theorem Zs.evM {G:Ze} (hG:G.Ok) {n:Nat} {f:FuncId} {args:List AV} {v:AV} {nx:Nat} {bs:List (Nat×Blk)} (h:evF G n f args ⟨0,[]⟩ (Wx 0 (.ret v) nx bs)):Zs G.P f args v nx bs:=(Spec.evM hG h).pure
def goM (k:Nat) (S0:St) (C:Prop) (ends:KE->Prop):Nat->St->KE->Prop:=fun k' s X=>match Nat.beq k' k with
 | true=>Ud k S0 s (C/\ends X)
 | false=>False
def rdM (k id l:Nat) (S1 En Rn Jn:St) (go ex re jm:Prop):KE:=fun e s=>match e with
 | .normal=>Ud k S1 s go
 | .exit x=>(match Nat.beq x id with|true=>Ud k En s ex|false=>False)
 | .ret=>Ud k Rn s re
 | .goto x=>(match Nat.beq x l with|true=>Ud k Jn s jm|false=>False)
 | .panic _=>False
theorem Ze.withGoM {G:Ze} (hG:G.Ok) {f:FuncId} {id k N n l:Nat} {S En Rn Jn:Nat->St} {S0:St} {C:Prop} {go ex re jm:Nat->Prop} (h1:WI G.P f id=true) (hC:C->S 0=S0/\
   ∀i,i<=n->(∀j,j<i->go j)->ZA G N f id k (S i) (rdM k id l (S (i+1)) (En i) (Rn i) (Jn i) (go i/\i<n) (ex i) (re i) (jm i))):
  (G.withL f id (goM k S0 C (YF id n l go ex re jm En Rn Jn))).Ok:=by
 refine Ze.withL_ok hG h1 ?_
 intro k' s X hl
 unfold goM at hl
 split at hl
 ·rename_i hk
  have:=J0 hk
  subst this
  obtain ⟨⟨hc,hX⟩,hw⟩:=W4 hl
  obtain ⟨e0,hr⟩:=hC hc
  refine ⟨{ t:Nat//t<=n/\∀j,j<t->go j},fun t=>n-t.1,fun t=>S t.1,⟨0,Jt _,fun j hj=>by omega⟩,N,by simp_all, ?_⟩
  rintro ⟨t,ht,hgo⟩
  refine ⟨_,hr t ht hgo, ?_⟩
  intro e s' hY
  unfold rdM at hY
  split at hY
  ·obtain ⟨⟨hg,hlt⟩,hw'⟩:=W4 hY
   refine ⟨⟨t+1,hlt,fun j hj=> ?_⟩,by show n-(t+1)<n-t;omega,hw'⟩
   grind
  ·split at hY
   ·rename_i hi
    have:=J0 hi
    subst this
    obtain ⟨hex,hw'⟩:=W4 hY
    exact ⟨_,hw',(hX t ht hgo).1 hex⟩
   simp_all
  ·obtain ⟨hre,hw'⟩:=W4 hY
   exact ⟨_,hw',(hX t ht hgo).2.1 hre⟩
  ·split at hY
   ·rename_i hi
    have:=J0 hi
    subst this
    obtain ⟨hjm,hw'⟩:=W4 hY
    exact ⟨_,hw',(hX t ht hgo).2.2 hjm⟩
   ·exact hY.elim
  ·exact hY.elim
 ·exact hl.elim
end Go.Tk
namespace Go.Tk
open IntKind (i64 u8 u32 u64 wrap)
theorem Ze.withL_join {G H:Ze} (hG:G.Ok) (hP:G.P=H.P) {f:FuncId} {id:Nat} {S:Nat->St->KE->Prop} (h:(H.withL f id S).Ok):(G.withL f id S).Ok where
 draw:=hG.draw
 psumm:=hG.psumm
 fsumm:=hG.fsumm
 lsumm:=fun f' id' S' fn c body hS hf hb hm k s X hs=>by
  simp only [Ze.withL] at hS
  split at hS
  ·have:=h.lsumm f' id' S' fn c body
   simp_all [Ze.withL]
  ·exact hG.lsumm f' id' S' fn c body hS hf hb hm k s X hs
end Go.Tk
end
section
namespace Go.Tk
open IntKind (i64 u8 u32 u64 wrap)
variable {f:FuncId} {args:List AV} {K R:AV->Prop} {G:Ze}
def b8 (n k:Int):Int:=u8.wrap (Zi .i64 n k)
@[irreducible] def Zz (n:Int):LI:=
 if n<253 then [u8.wrap n] else if n<65536 then [253,b8 n 8,b8 n 0] else if n<4294967296 then [254,b8 n 24,b8 n 16,b8 n 8,b8 n 0]
 else [255,b8 n 56,b8 n 48,b8 n 40,b8 n 32,b8 n 24,b8 n 16,b8 n 8,b8 n 0]
theorem ZC (n:Int):1<=(Zz n).length/\(Zz n).length<=9:=by
 unfold Zz
 split
 ·simp
 ·split
  ·simp
  ·split<;>simp
theorem Z9M {n:Int} (h:n<253):Zz n=[u8.wrap n]:=by unfold Zz;rw [if_pos h]
theorem Z9N {n:Int} (h:¬n<253) (h2:n<65536):Zz n=[253,b8 n 8,b8 n 0]:=by unfold Zz;rw [if_neg h,if_pos h2]
theorem Z9O {n:Int} (h:¬n<253) (h2:¬n<65536) (h3:n<4294967296):Zz n=[254,b8 n 24,b8 n 16,b8 n 8,b8 n 0]:=by unfold Zz;rw [if_neg h,if_neg h2,if_pos h3]
theorem Z9P {n:Int} (h:¬n<253) (h2:¬n<65536) (h3:¬n<4294967296):Zz n=[255,b8 n 56,b8 n 48,b8 n 40,b8 n 32,b8 n 24,b8 n 16,b8 n 8,b8 n 0]:=by unfold Zz;rw [if_neg h,if_neg h2,if_neg h3]
theorem Zep (xs ys:LI) (N L s lo:Nat) (n:Int) (hN:xs.length=N) (hB:N<90000000000000) (hy:ys=Zz n) (hL:L=(xs++ys).length):
  evF G0 20 93 [.nslice ⟨0,0,s,0,0⟩ 1 N lo,.int .i64 n] ⟨1,[(0,.ints .u8 xs)]⟩ (Wx 1 (.ret (.nslice ⟨1,0,0,0,0⟩ 1 L L)) 2 [(1,.ints .u8 (xs++ys))]):=by
 refine @Eq.mpr _ (let b:=decide (u8=u8/\xs.length=N);let K:=xs++[wrap u8 n];let m:=K.length;let a:=xs++ys;let y:=xs++[(253:Int)];let e:=y.length;let d:=[wrap u8 (Zi i64 n 8)];let x:=y++d;let c:=x.length;let w:=[wrap u8 (Zi i64 n 0)];let S:=x++w;let v:=S.length;let R:=xs++[(254:Int)];let u:=R.length;let Q:=[wrap u8 (Zi i64 n 24)];let P:=R++Q;let t:=P.length;let O:=[wrap u8 (Zi i64 n 16)];let M:=P++O;let s:=M.length;let J:=M++d;let r:=J.length;let I:=J++w;let q:=I.length;let H:=xs++[(255:Int)];let p:=H.length;let G:=H++[wrap u8 (Zi i64 n 56)];let o:=G.length;let F:=G++[wrap u8 (Zi i64 n 48)];let l:=F.length;let E:=F++[wrap u8 (Zi i64 n 40)];let k:=E.length;let D:=E++[wrap u8 (Zi i64 n 32)];let j:=D.length;let C:=D++Q;let i:=C.length;let B:=C++O;let h:=B.length;let A:=B++d;let g:=A.length;let z:=A++w;let f:=z.length;
 Z6 (decide (n<253)) (Z0 b (Z5 (m*1<=140737488355328) (Z5 (m=L) (Z5 (L<=m) (K=a/\True))))) (Z6 (decide (n<65536)) (Z0 b (Z5 (e*1<=140737488355328) (Z5 (u8=u8/\e=e) (Z5 (c*1<=140737488355328) (Z5 (u8=u8/\c=c) (Z5 (v*1<=140737488355328) (Z5 (v=L) (Z5 (L<=v) (S=a/\True))))))))) (Z6 (decide (n<4294967296)) (Z0 b (Z5 (u*1<=140737488355328) (Z5 (u8=u8/\u=u) (Z5 (t*1<=140737488355328) (Z5 (u8=u8/\t=t) (Z5 (s*1<=140737488355328) (Z5 (u8=u8/\s=s) (Z5 (r*1<=140737488355328) (Z5 (u8=u8/\r=r) (Z5 (q*1<=140737488355328) (Z5 (q=L) (Z5 (L<=q) (I=a/\True))))))))))))) (Z0 b (Z5 (p*1<=140737488355328) (Z5 (u8=u8/\p=p) (Z5 (o*1<=140737488355328) (Z5 (u8=u8/\o=o) (Z5 (l*1<=140737488355328) (Z5 (u8=u8/\l=l) (Z5 (k*1<=140737488355328) (Z5 (u8=u8/\k=k) (Z5 (j*1<=140737488355328) (Z5 (u8=u8/\j=j) (Z5 (i*1<=140737488355328) (Z5 (u8=u8/\i=i) (Z5 (h*1<=140737488355328) (Z5 (u8=u8/\h=h) (Z5 (g*1<=140737488355328) (Z5 (u8=u8/\g=g) (Z5 (f*1<=140737488355328) (Z5 (f=L) (Z5 (L<=f) (z=a/\True)))))))))))))))))))))))) (by kernel_rfl) ?_
 conv=>zeta
 try simp only [XK]
 try simp only [XL]
 try simp only [vcC]
 subst hy hL hN
 refine ⟨fun h1=> ?_,fun h1=>⟨fun h2=> ?_,fun h2=>⟨fun h3=> ?_,fun h3=> ?_⟩⟩⟩
 ·rw [Z9M h1]
  simp only [J6,Jh,Jy]
  and_intros<;>first|trivial|omega
 ·rw [Z9N h1 h2]
  simp only [J6,Jh,Jy]
  and_intros<;>first|trivial|omega|simp [b8]
 ·rw [Z9O h1 h2 h3]
  simp only [J6,Jh,Jy]
  and_intros<;>first|trivial|omega|simp [b8]
 ·rw [Z9P h1 h2 h3]
  simp only [J6,Jh,Jy]
  and_intros<;>first|trivial|omega|simp [b8]
theorem Zeq (ys:LI) (L:Nat) (n:Int) (hy:ys=Zz n) (hL:L=ys.length):
  evF G0 20 93 [.nilslice,.int .i64 n] ⟨0,[]⟩ (Wx 0 (.ret (.nslice ⟨0,0,0,0,0⟩ 1 L L)) 1 [(0,.ints .u8 ys)]):=by
 refine @Eq.mpr _ (let b:=[wrap u8 (Zi i64 n 8),wrap u8 (Zi i64 n 0)];let a:=wrap u8 (Zi i64 n 24)::wrap u8 (Zi i64 n 16)::b;
 Z6 (decide (n<253)) (Z5 (1=L) (Z5 (L<=1) ([wrap u8 n]=ys/\True))) (Z6 (decide (n<65536)) (Z5 (3=L) (Z5 (L<=3) ((253:Int)::b=ys/\True))) (Z6 (decide (n<4294967296)) (Z5 (5=L) (Z5 (L<=5) ((254:Int)::a=ys/\True))) (Z5 (9=L) (Z5 (L<=9) ((255:Int)::wrap u8 (Zi i64 n 56)::wrap u8 (Zi i64 n 48)::wrap u8 (Zi i64 n 40)::wrap u8 (Zi i64 n 32)::a=ys/\True)))))) (by kernel_rfl) ?_
 conv=>zeta
 try simp only [XK]
 try simp only [XL]
 try simp only [vcC]
 subst hy hL
 refine ⟨fun h1=> ?_,fun h1=>⟨fun h2=> ?_,fun h2=>⟨fun h3=> ?_,fun h3=> ?_⟩⟩⟩
 ·rw [Z9M h1];simp
 ·rw [Z9N h1 h2];simp [b8]
 ·rw [Z9O h1 h2 h3];simp [b8]
 ·rw [Z9P h1 h2 h3];simp [b8]
def Zd2 (W:Int->LI):YY:=fun args h K=>match args with
 | [.nslice ⟨b,0,_,0,0⟩ 1 _ _,.int .i64 _]=>frA [b] h 20 args fun Bs a=>match Bs,a with
  | [.ints .u8 xs],[.nslice ⟨0,0,_,0,0⟩ 1 len _,.int .i64 n]=>Z5 (xs.length=len/\len<90000000000000) (K (.ret (.nslice ⟨h.next,0,0,0,0⟩ 1 (xs++W n).length (xs++W n).length)) ⟨h.next+1,(h.next,.ints .u8 (xs++W n))::Ug h.bs b⟩)
  | _,_=>False
 | [.nilslice,.int .i64 n]=>K (.ret (.nslice ⟨h.next,0,0,0,0⟩ 1 (W n).length (W n).length)) ⟨h.next+1,(h.next,.ints .u8 (W n))::h.bs⟩
 | _=>False
theorem Zbs (args:List AV) (h:Z7) (K:KO) (hl:Zd2 Zz args h K):Zh PP 93 args h K:=by
 unfold Zd2 at hl
 split at hl
 ·refine Spec.fsumm hl fun Bs a hlen hK0=> ?_
  split at hK0
  ·obtain ⟨⟨h1,h2⟩,hK⟩:=Zc hK0
   exact ⟨_,_,_,_,_,.evM Zr (Zep _ _ _ _ _ _ _ h1 h2 rfl rfl),by simp,.ret _ _ rfl,.cons _ _ _ _ _ _ rfl (.ints _ _) .nil,hK⟩
  simp_all
 ·exact (Zs.evM Zr (Zeq _ _ _ rfl rfl)).calls (fun E w rs he hr=>by
   cases hr with
   | cons v r vs rs h1 h2=>cases h2 with
    | cons v r vs rs h2 h3=>cases h3;exact .cons _ _ _ _ (h1.plain rfl) (.cons _ _ _ _ (h2.plain rfl) .nil)) rfl ⟨JE,.ints _ _,trivial⟩ hl
 simp_all
theorem Z9Q (x:Int) (xs:LI) (N:Nat) (hN:(x::xs).length=N) (hB:N<90000000000000):
  evF G0 20 96 [.vints .u8 (x::xs) N] ⟨0,[]⟩ (Wx 0 (.ret (.nslice ⟨0,0,0,0,0⟩ 1 N N)) 1 [(0,.ints .u8 (x::xs))]):=by
 refine @Eq.mpr _ (let b:=[]++List.take N (x::xs);let a:=b.length;
 Z5 (a*1<=140737488355328) (Z5 (a=N) (Z5 (N<=a) (b=x::xs/\True)))) (by kernel_rfl) ?_
 conv=>zeta
 try simp only [vcA]
 try simp only [vcB]
 try simp only [vcC]
 subst hN
 simp only [JO,JD]
 and_intros<;>first|trivial|omega
theorem Z9R (u:Unit) :
  evF G0 20 96 [.nilslice] ⟨0,[]⟩ (Wx 0 (.ret (.nslice ⟨0,0,0,0,0⟩ 1 0 0)) 1 [(0,.ints .u8 [])]):=by
 refine @Eq.mpr _ (([]:LI)=[]/\True) (by kernel_rfl) ?_
 trivial
theorem Z9S (u:Unit) :
  evF G0 20 96 [.fslice] ⟨0,[]⟩ (Wx 0 (.ret (.nslice ⟨0,0,0,0,0⟩ 1 0 0)) 1 [(0,.ints .u8 [])]):=by
 refine @Eq.mpr _ (([]:LI)=[]/\True) (by kernel_rfl) ?_
 trivial
theorem Z4B (xs:LI) (N:Nat) (hN:xs.length=N) (hB:N<90000000000000):Zs PP 96 [.vints .u8 xs N] (.nslice ⟨0,0,0,0,0⟩ 1 N N) 1 [(0,.ints .u8 xs)]:=by
 cases xs with
 | nil=>subst hN;exact Zs.vints0 (.evM Zr (Z9R ())) (.evM Zr (Z9S ()))
 | cons x r=>exact .evM Zr (Z9Q x r N hN hB)
def Z6T:YY:=fun args h K=>ZJ none h true 20 args fun a=>match a with
 | [.vints .u8 xs n]=>Z5 (xs.length=n/\n<90000000000000) (K (.ret (.nslice ⟨h.next,0,0,0,0⟩ 1 n n)) ⟨h.next+1,(h.next,.ints .u8 xs)::h.bs⟩)
 | _=>False
theorem Z63 (args:List AV) (h:Z7) (K:KO) (hl:Z6T args h K):Zh PP 96 args h K:=by
 refine Zs.fsumm (d:=20) (Zm _ _ _ _ _ hl fun a ha=> ?_)
 split at ha
 ·obtain ⟨⟨h1,h2⟩,hK⟩:=Zc ha
  exact ⟨_,_,_,_,Z4B _ _ h1 h2,rfl,⟨JE,.ints _ _,trivial⟩,hK⟩
 simp_all
noncomputable def Zbt (W:Int->LI):Ze:=G0.withF 93 (Zd2 W)
theorem Z3F:(Zbt Zz).Ok:=Ze.withF_ok Zr Zbs
theorem Zd3 (W:Int->LI) (T:Int) (xs ys:LI) (N L lo:Nat) (n:Int) (hT:T=4611686018427387904) (hN:xs.length=N) (hB:N<90000000000000) (hn:0<=n/\n<=T) (hy:ys=xs++W n) (hL:L=ys.length):
  evF (Zbt W) 20 47 [.ptr (some ⟨0,0,0,0,0⟩),.vints .i64 [n] 1] ⟨2,[(0,.flat [.nslice ⟨1,0,0,0,0⟩ 1 N lo,.bool true]),(1,.ints .u8 xs)]⟩ (Wx 2 (.ret (.int .i64 0)) 3 [(0,.flat [.nslice ⟨2,0,0,0,0⟩ 1 L L,.bool true]),(2,.ints .u8 ys)]):=by
 refine @Eq.mpr _ (let b:=xs++W n;let a:=b.length;
 Z6 (decide (n<0)) False (Z6 (decide (n>4611686018427387904)) False (Z5 (xs.length=N/\N<90000000000000) (Z5 (a=L) (Z5 (L<=a) (b=ys/\True)))))) (by kernel_rfl) ?_
 conv=>zeta
 try simp only [vcA]
 try simp only [vcB]
 try simp only [vcC]
 subst hT hN hy hL
 exact ⟨by omega,by omega,⟨rfl,hB⟩,rfl,J2 _,rfl⟩
theorem Zd4 (W:Int->LI) (T:Int) (xs ys:LI) (N L lo:Nat) (n m:Int) (hT:T=4611686018427387904) (hW:W=Zz) (hN:xs.length=N) (hB:N<80000000000000) (hn:0<=n/\n<=T) (hm:0<=m/\m<=T) (hy:ys=xs++W n++W m) (hL:L=ys.length):
  evF (Zbt W) 20 47 [.ptr (some ⟨0,0,0,0,0⟩),.vints .i64 [n,m] 2] ⟨2,[(0,.flat [.nslice ⟨1,0,0,0,0⟩ 1 N lo,.bool true]),(1,.ints .u8 xs)]⟩ (Wx 2 (.ret (.int .i64 0)) 3 [(0,.flat [.nslice ⟨2,0,0,0,0⟩ 1 L L,.bool true]),(2,.ints .u8 ys)]):=by
 refine @Eq.mpr _ (let d:=xs++W n;let a:=d.length;let c:=d++W m;let b:=c.length;
 Z6 (decide (n<0)) False (Z6 (decide (n>4611686018427387904)) False (Z6 (decide (m<0)) False (Z6 (decide (m>4611686018427387904)) False (Z5 (xs.length=N/\N<90000000000000) (Z5 (a=a/\a<90000000000000) (Z5 (b=L) (Z5 (L<=b) (c=ys/\True))))))))) (by kernel_rfl) ?_
 conv=>zeta
 try simp only [vcA]
 try simp only [vcB]
 try simp only [vcC]
 subst hT hN hy hL hW
 have:=ZC n
 refine ⟨by omega,by omega,by omega,by omega,⟨rfl,by omega⟩, ?_⟩
 simp only [J6]
 and_intros<;>first|trivial|omega
theorem Zd5 (W:Int->LI) (T:Int) (ys:LI) (L:Nat) (n m:Int) (hT:T=4611686018427387904) (hW:W=Zz) (hn:0<=n/\n<=T) (hm:0<=m/\m<=T) (hy:ys=W n++W m) (hL:L=ys.length):
  evF (Zbt W) 20 47 [.ptr (some ⟨0,0,0,0,0⟩),.vints .i64 [n,m] 2] ⟨1,[(0,.flat [.nilslice,.bool true])]⟩ (Wx 1 (.ret (.int .i64 0)) 2 [(0,.flat [.nslice ⟨1,0,0,0,0⟩ 1 L L,.bool true]),(1,.ints .u8 ys)]):=by
 refine @Eq.mpr _ (let a:=List.length (W n);let c:=W n++W m;let b:=c.length;
 Z6 (decide (n<0)) False (Z6 (decide (n>4611686018427387904)) False (Z6 (decide (m<0)) False (Z6 (decide (m>4611686018427387904)) False (Z5 (a=a/\a<90000000000000) (Z5 (b=L) (Z5 (L<=b) (c=ys/\True)))))))) (by kernel_rfl) ?_
 conv=>zeta
 try simp only [vcA]
 try simp only [vcB]
 try simp only [vcC]
 subst hT hy hL hW
 have:=ZC n
 refine ⟨by omega,by omega,by omega,by omega, ?_⟩
 simp only [J6]
 and_intros<;>first|trivial|omega
def Z9T (W:Int->LI) (T:Int):YY:=fun args h K=>match args with
 | [.ptr (some ⟨w,0,0,0,0⟩),_]=>match h.get w with
  |some (.flat [.nslice ⟨b,0,0,0,0⟩ 1 _ _,.bool true])=>frA [w,b] h 20 args fun Bs a=>match Bs,a with
   | [.flat [.nslice ⟨1,0,0,0,0⟩ 1 N _,.bool true],.ints .u8 xs],[.ptr (some ⟨0,0,0,0,0⟩),.vints .i64 [n] 1]=>
    Z5 (xs.length=N/\N<80000000000000/\0<=n/\n<=T) (K (.ret (.int .i64 0)) ⟨h.next+1,(w,.flat [.nslice ⟨h.next,0,0,0,0⟩ 1 (xs++W n).length (xs++W n).length,.bool true])::(h.next,.ints .u8 (xs++W n))::Ug (Ug h.bs w) b⟩)
   | [.flat [.nslice ⟨1,0,0,0,0⟩ 1 N _,.bool true],.ints .u8 xs],[.ptr (some ⟨0,0,0,0,0⟩),.vints .i64 [n,m] 2]=>
    Z5 (xs.length=N/\N<80000000000000/\(0<=n/\n<=T)/\0<=m/\m<=T) (K (.ret (.int .i64 0)) ⟨h.next+1,(w,.flat [.nslice ⟨h.next,0,0,0,0⟩ 1 (xs++W n++W m).length (xs++W n++W m).length,.bool true])::(h.next,.ints .u8 (xs++W n++W m))::Ug (Ug h.bs w) b⟩)
   | _,_=>False
  | some (.flat [.nilslice,.bool true])=>frA [w] h 20 args fun Bs a=>match Bs,a with
   | [.flat [.nilslice,.bool true]],[.ptr (some ⟨0,0,0,0,0⟩),.vints .i64 [n,m] 2]=>
    Z5 ((0<=n/\n<=T)/\0<=m/\m<=T) (K (.ret (.int .i64 0)) ⟨h.next+1,(w,.flat [.nslice ⟨h.next,0,0,0,0⟩ 1 (W n++W m).length (W n++W m).length,.bool true])::(h.next,.ints .u8 (W n++W m))::Ug h.bs w⟩)
   | _,_=>False
  | _=>False
 | _=>False
theorem Z9U (args:List AV) (h:Z7) (K:KO) (hl:Z9T Zz 4611686018427387904 args h K):Zh PP 47 args h K:=by
 unfold Z9T at hl
 split at hl
 ·split at hl
  ·refine Spec.fsumm hl fun Bs a hlen hK0=> ?_
   split at hK0
   ·obtain ⟨⟨h1,h2,h3⟩,hK⟩:=Zc hK0
    exact ⟨_,_,_,_,_,.evM Z3F (Zd3 _ _ _ _ _ _ _ _ rfl h1 (by omega) h3 rfl rfl),by simp,.ret _ _ rfl,.cons _ _ _ _ _ _ rfl (.flat _ _ rfl) (.cons _ _ _ _ _ _ rfl (.ints _ _) .nil),hK⟩
   ·obtain ⟨⟨h1,h2,h3,h4⟩,hK⟩:=Zc hK0
    exact ⟨_,_,_,_,_,.evM Z3F (Zd4 _ _ _ _ _ _ _ _ _ rfl rfl h1 h2 h3 h4 rfl rfl),by simp,.ret _ _ rfl,.cons _ _ _ _ _ _ rfl (.flat _ _ rfl) (.cons _ _ _ _ _ _ rfl (.ints _ _) .nil),hK⟩
   simp_all
  ·refine Spec.fsumm hl fun Bs a hlen hK0=> ?_
   split at hK0
   ·obtain ⟨⟨h3,h4⟩,hK⟩:=Zc hK0
    exact ⟨_,_,_,_,_,.evM Z3F (Zd5 _ _ _ _ _ _ rfl rfl h3 h4 rfl rfl),by simp,.ret _ _ rfl,.cons _ _ _ _ _ _ rfl (.flat _ _ rfl) (.cons _ _ _ _ _ _ rfl (.ints _ _) .nil),hK⟩
   simp_all
  simp_all
 simp_all
theorem Z05 {x:InS} (h:Yw x=true):(1<=x.way/\x.way<=6)/\0<=x.index/\x.index<=23:=by
 simp_all [Yw]
def inW (W:Int->LI) (core:Bool) (x:InS):LI:=x.name++W x.index++(match core with
 | true=>[]
 | false=>W x.way++((if x.way=4 then [] else x.tag)++(if x.way=1 then x.also else [])++(if x.way=4\/x.way=5 then x.secret else [])))
def Z64 (W:Int->LI) (o:Y2):LI:=W o.kind++W o.amount++o.owner++(if o.kind=2\/o.kind=4\/o.kind=5 then o.other else [])++(if 3<=o.kind then o.point else [])++(if 4<=o.kind then o.hash else [])
 ++(if 3<=o.kind then W o.delay else [])++(if 4<=o.kind then W o.expiry else [])
theorem Z1H {o:Y2} (h:YB o=true):(1<=o.kind/\o.kind<=5)/\(0<o.amount/\o.amount<=1125899906842624)/\(0<=o.delay/\o.delay<=2147483647)/\0<=o.expiry/\o.expiry<=2147483647:=by
 simp_all [YB]
def Z24 (f:Nat->LI):Nat->LI
 | 0=>[]
 | n+1=>Z24 f n++f n
@[irreducible] def Xy (W:Int->LI) (t:TxS) (core:Bool) (i:Nat):LI:=W t.num++W t.N++Z24 (fun j=>inW W core (t.ins j)) i
@[irreducible] def YW (W:Int->LI) (t:TxS) (core:Bool) (i:Nat):LI:=Xy W t core t.N++W t.M++Z24 (fun j=>Z64 W (t.outs j)) i
def Z82 (W:Int->LI) (t:TxS) (core:Bool):LI:=YW W t core t.M
theorem Z2J (W:Int->LI) (t:TxS) (core:Bool) (i:Nat):Xy W t core (i+1)=Xy W t core i++inW W core (t.ins i):=by unfold Xy;simp [Z24]
theorem Z83 (W:Int->LI) (t:TxS) (core:Bool) (i:Nat):YW W t core (i+1)=YW W t core i++Z64 W (t.outs i):=by unfold YW;simp [Z24]
structure TxS.Fine (t:TxS):Prop where
 ok:t.Ok
 num:0<=t.num/\t.num<=2147483647
 n:t.N<=24
 m:t.M<=24
 ins:∀j,j<t.N->Yw (t.ins j)=true
 outs:∀j,j<t.M->YB (t.outs j)=true
theorem QJ {f:Nat->LI} {b:Nat}:∀n,(∀i,i<n->(f i).length<=b)->(Z24 f n).length<=n*b
 | 0,_=>by simp [Z24]
 | n+1,h=>by
  have:=QJ n (fun i hi=>h i (by omega))
  grind [Z24]
theorem Zbu {core:Bool} {x:InS} (h:x.Ok):(inW Zz core x).length<=200:=by
 obtain ⟨l1,l2,l3,l4⟩:=h
 have u1:=ZC x.index
 have u2:=ZC x.way
 unfold inW
 grind
theorem Z9V {x:Y2} (h:x.Ok):(Z64 Zz x).length<=200:=by
 obtain ⟨l1,l2,l3,l4⟩:=h
 have u1:=ZC x.kind
 have u2:=ZC x.amount
 have u3:=ZC x.delay
 have u4:=ZC x.expiry
 unfold Z64
 simp only [J6]
 grind
theorem Q8 {t:TxS} (h:t.Fine) (core:Bool) {i:Nat} (hi:i<=t.N):(Xy Zz t core i).length<=10000:=by
 have h1:=ZC t.num
 have h2:=ZC t.N
 have h3:=QJ (f:=fun j=>inW Zz core (t.ins j)) (b:=200) i (fun j hj=>Zbu (h.ok.ins j (by omega)))
 have:=h.n
 grind [Xy]
theorem Z1I {t:TxS} (h:t.Fine) (core:Bool) {i:Nat} (hi:i<=t.M):(YW Zz t core i).length<=20000:=by
 have h1:=Q8 h core (J2 t.N)
 have h2:=ZC t.M
 have h3:=QJ (f:=fun j=>Z64 Zz (t.outs j)) (b:=200) i (fun j hj=>Z9V (h.ok.outs j (by omega)))
 have:=h.m
 grind [YW]
def Zer (R:TxS->Bool->LI):YY:=fun args h K=>ZJ none h true 20 args fun a=>match a with
 | [.agg l,.bool core]=>∃t,Z9L l t/\t.Fine/\K (.ret (.nslice ⟨h.next,0,0,0,0⟩ 1 (R t core).length (R t core).length)) ⟨h.next+1,(h.next,.ints .u8 (R t core))::h.bs⟩
 | _=>False
mutual
/-- Without names; views may be. -/
def AV.vplain:AV->Bool
 | .top|.bool _|.int _ _|.str _|.ptr none|.eslice|.fslice|.nilslice|.map none|.nilFunc|.nilIface|.arr _ _ _=>true
 | .vints _ _ _|.vrows _ _ _ _|.pview _ _=>true
 | .agg cs=>XM cs
 | .tuple cs=>XM cs
 | .iface _ v=>v.vplain
 | _=>false
def XM:List AV->Bool
 | []=>true
 | v::r=>v.vplain&&XM r
end
mutual
theorem Zb.vplain {E E':Env} (hi:∀a c,E.imm a c->E'.imm a c):∀(v:AV) (r:Value),v.vplain=true->Zb E v r->Zb E' v r
 | .top,r,_,_=>.top r
 | .bool b,r,_,h=>h.plain rfl
 | .int k n,r,_,h=>h.plain rfl
 | .str s,r,_,h=>h.plain rfl
 | .ptr none,r,_,h=>h.plain rfl
 | .eslice,r,_,h=>h.plain rfl
 | .fslice,r,_,h=>h.plain rfl
 | .nilslice,r,_,h=>h.plain rfl
 | .map none,r,_,h=>h.plain rfl
 | .nilFunc,r,_,h=>h.plain rfl
 | .nilIface,r,_,h=>h.plain rfl
 | .arr k n xs,r,_,h=>h.plain rfl
 | .ptr (some p),r,hp,_=>by simp [AV.vplain] at hp
 | .nslice p a b c,r,hp,_=>by simp [AV.vplain] at hp
 | .map (some x),r,hp,_=>by simp [AV.vplain] at hp
 | .func a b c,r,hp,_=>by simp [AV.vplain] at hp
 | .yield x,r,hp,_=>by simp [AV.vplain] at hp
 | .stamp x,r,hp,_=>by simp [AV.vplain] at hp
 | .pview cs inn,r,_,h=>by
  cases h with
  | pview cs inn a vs hc hq=>exact .pview cs inn a vs (Zj.mono (⟨fun _ _ h=>by simp [Env.views] at h,hi⟩:E.views.le E'.views) hc) (fun j c h=>hi _ _ (hq j c h))
 | .vints k xs len,r,_,h=>by
  cases h with
  | vintsNil k xs len h1 h2=>exact .vintsNil k xs len h1 h2
  | vints k xs len a cap h1 h2 hq=>exact .vints k xs len a cap h1 h2 (fun i h=>hi _ _ (hq i h))
 | .vrows esz n f len,r,_,h=>by
  cases h with
  | vrowsNil esz n f len h1 h2=>exact .vrowsNil esz n f len h1 h2
  | vrows esz n f len a cap g h1 h2 hc hl hq=>exact .vrows esz n f len a cap g h1 h2 (fun i h=>Zj.mono (⟨fun _ _ h=>by simp [Env.views] at h,hi⟩:E.views.le E'.views) (hc i h)) hl (fun i j c h h'=>hi _ _ (hq i j c h h'))
 | .iface t v,r,hp,h=>by
  cases h with
  | iface t v x hx=>exact .iface t v x (Zb.vplain hi v x (by simpa [AV.vplain] using hp) hx)
 | .agg cs,r,hp,h=>by
  cases h with
  | agg cs vs hc=>exact .agg cs vs (Zj.vplain hi cs vs (by simpa [AV.vplain] using hp) hc)
 | .tuple cs,r,hp,h=>by
  cases h with
  | tuple _ rs hc=>exact .tuple _ rs (Zo.vplain hi cs rs (by simpa [AV.vplain] using hp) hc)
theorem Zj.vplain {E E':Env} (hi:∀a c,E.imm a c->E'.imm a c):∀(l:List AV) (r:List Value),XM l=true->Zj E l r->Zj E' l r
 | [],r,_,h=>by cases h;exact .nil
 | v::l,r,hp,h=>by
  simp only [XM,J1] at hp
  cases h with
  | one v c vs cs h0 h1 hv t=>exact .one v c _ cs h0 h1 (Zb.vplain hi v c hp.1 hv) (Zj.vplain hi l cs hp.2 t)
  | arr k n xs vs cs t=>exact .arr k n xs _ cs (Zj.vplain hi l cs hp.2 t)
theorem Zo.vplain {E E':Env} (hi:∀a c,E.imm a c->E'.imm a c):∀(l:List AV) (r:List Value),XM l=true->Zo E l r->Zo E' l r
 | [],r,_,h=>by cases h;exact .nil
 | v::l,r,hp,h=>by
  simp only [XM,J1] at hp
  cases h with
  | cons v c vs cs hv t=>exact .cons v c _ cs (Zb.vplain hi v c hp.1 hv) (Zo.vplain hi l cs hp.2 t)
end
def Z1J (R:AV->Prop):KO:=fun o _=>match o with
 | .ret u=>(match u.vplain with|true=>R u|false=>False)
 | .panic _=>False
theorem Z65 {P:Program} {h:Z7} (hp:XM args=true) (hc:Zh P f args ⟨0,[]⟩ (Z1J R)) (hK:∀u,R u->K u):
  Zh P f args h fun o h'=>∃v,o=.ret v/\h'=h/\K v:=by
 intro E w rs he hr
 have hemb:Emb E.views ⟨0,[]⟩ w:=
  ⟨fun x _=>rfl,fun x B h=>by simp [Z7.get,ZB] at h,fun x B h=>by simp [Z7.get,ZB] at h,fun x y B B' b N N' h=>by simp [Z7.get,ZB] at h,he.imm,fun a c x B N _ h=>by simp [Z7.get,ZB] at h⟩
 refine (hc E.views w rs hemb (Zo.vplain (E:=E) (E':=E.views) (fun _ _ h=>h) _ _ hp hr)).mono ?_
 rintro e w' ⟨E₁,o,h',hK0,hev,hor⟩
 cases hor with
 | panic u r hr=>exact hK0.elim
 | ret u r hr=>
  unfold Z1J at hK0
  simp only at hK0
  split at hK0
  ·rename_i hu
   have hkeep:∀b,b<w.heap.size->w'.heap[b]? =w.heap[b]?:=fun b hb=>hev.keep b hb (fun ⟨x,B,N,hx,_⟩=>by simp [Z7.get,ZB] at hx)
   have hemb':Emb E h w':=by
    refine ⟨he.fresh,he.lt,fun x B hx=>(he.own x B hx).congr fun b N hb=>hkeep b ((he.own x B hx).lt hb),he.disj,fun a c hi=> ?_,he.sep⟩
    have hcc:=he.imm a c hi
    grind [World.cell?]
   exact ⟨E,.ret u,h,⟨u,rfl,rfl,hK u hK0⟩,⟨.refl E,hemb',hev.size,hev.os,hev.tape,hev.output,fun b hb _=>hkeep b hb,fun b ho=>.inl ho,fun _ _ h=>h⟩,.ret _ _ (Zb.vplain (E:=E₁) (E':=E) (fun a c hi=>hev.imm a c hi) _ _ hu hr)⟩
  simp_all
theorem Z0v (hG:G.Ok) {n:Nat} {h:Z7} (hp:XM args=true) (hc:evF G n f args ⟨0,[]⟩ (Z1J R)) (hK:∀u,R u->K u):
  Zh G.P f args h fun o h'=>∃v,o=.ret v/\h'=h/\K v:=Z65 hp (Qq hG hc) hK
def orL (b:St->Bool) (S1 S2:Nat->St->KE->Prop):Nat->St->KE->Prop:=fun k s X=>match b s with
 | true=>S1 k s X
 | false=>S2 k s X
theorem Ze.withL_or (hG:G.Ok) {id:Nat} {b:St->Bool} {S1 S2:Nat->St->KE->Prop} (h1:(G.withL f id S1).Ok) (h2:(G.withL f id S2).Ok):(G.withL f id (orL b S1 S2)).Ok where
 draw:=hG.draw
 psumm:=hG.psumm
 fsumm:=hG.fsumm
 lsumm:=fun f' id' S' fn c body hS hf hb hm k s X hs=>by
  simp only [Ze.withL] at hS
  split at hS
  ·rename_i hq
   cases hS
   unfold orL at hs
   have a1:=h1.lsumm f' id' S1 fn c body
   have a2:=h2.lsumm f' id' S2 fn c body
   simp only [Ze.withL,hq] at a1 a2
   split at hs
   ·exact a1 trivial hf hb hm k s X hs
   ·exact a2 trivial hf hb hm k s X hs
  ·exact hG.lsumm f' id' S' fn c body hS hf hb hm k s X hs
end Go.Tk
end
section
namespace Go.Tk
open IntKind (i64 u8 u32 u64 wrap)
inductive Ty where
 | bool
 | int (k:IntKind)
 | str
 | arr (k:IntKind) (n:Nat)
 | ints (k:IntKind)
 | rows (esz:Nat) (ts:List Ty)
def Z9W (P:Program) (r:TypeId->Option (List Ty)) (sz:Nat):Nat->List Field->Option (List Ty)
 | o,[]=>if o=sz then some [] else none
 | o,f::fs=>if f.offset=o then (r f.type).bind fun a=>(Z9W P r sz (o+P.cellsOf f.type) fs).bind fun b=>some (a++b) else none
def Z0i (P:Program):Nat->TypeId->Option (List Ty)
 | 0,_=>none
 | m+1,t=>match P.underlying t with
  | some .bool=>some [.bool]
  | some (.int k)=>some [.int k]
  | some .string=>some [.str]
  | some (.array n e)=>match P.underlying e with
   | some (.int k)=>if P.cellsOf t=n/\P.cellsOf e=1 then some [.arr k n] else none
   | _=>(Z0i P m e).bind fun ts=>if P.cellsOf t=n*P.cellsOf e then some (List.replicate n ts).flatten else none
  | some (.slice e)=>match P.underlying e with
   | some (.int k)=>if P.cellsOf e=1 then some [.ints k] else none
   | _=>(Z0i P m e).bind fun ts=>some [.rows (P.cellsOf e) ts]
  | some (.struct fs)=>Z9W P (Z0i P m) (P.cellsOf t) 0 fs.toList
  | _=>none
mutual
inductive Z06:Ty->AV->Prop
 | bool (b:Bool):Z06 .bool (.bool b)
 | int (k:IntKind) (n:Int) (h:(Lit.int k n).wf=true):Z06 (.int k) (.int k n)
 | str (s:ByteArray) (h:s.size<=maxLen):Z06 .str (.str s)
 | arr (k:IntKind) (n:Nat) (xs:LI) (h:xs.length=n) (hw:∀i,i<n->(Lit.int k (xs.getD i 0)).wf=true):Z06 (.arr k n) (.arr k n xs)
 | ints (k:IntKind) (xs:LI) (n:Nat) (h:xs.length=n) (hm:n<=maxLen) (hw:∀i,i<n->(Lit.int k (xs.getD i 0)).wf=true):Z06 (.ints k) (.vints k xs n)
 | rows (esz:Nat) (ts:List Ty) (n:Nat) (f:Nat->List AV) (hm:n<=maxLen) (h:∀i,i<n->Fits ts (f i)):Z06 (.rows esz ts) (.vrows esz n f n)
inductive Fits:List Ty->List AV->Prop
 | nil:Fits [] []
 | cons (t:Ty) (a:AV) (ts:List Ty) (vz:List AV) (h:Z06 t a) (r:Fits ts vz):Fits (t::ts) (a::vz)
end
theorem Fits.append:∀{ts wz:List Ty} {vz bs:List AV},Fits ts vz->Fits wz bs->Fits (ts++wz) (vz++bs)
 | _,_,_,_,.nil,h=>h
 | _,_,_,_,.cons t a ts vz h r,k=>.cons t a _ _ h (Fits.append r k)
def tE (w:World):Env:=⟨fun _=>none,fun a c=>w.cell? a=some c⟩
section
variable {H:Type} {enc:TypeId×Value->H} {P:Program} {w:World} {sp:Nat->Bool} {held:Bool}
theorem Ue {k:IntKind} {n:Nat} {cs:List Value} (hl:cs.length=n) (h:∀i,i<n->∃z,cs[i]? =some (.int k z)/\(Lit.int k z).wf=true):
  ∃xs:LI,xs.length=n/\(∀i,i<n->(Lit.int k (xs.getD i 0)).wf=true)/\∀i,i<n->cs[i]? =some (.int k (xs.getD i 0)):=by
 refine ⟨cs.map fun v=>match v with|.int _ z=>z|_=>0,by simp [hl],fun i hi=> ?_,fun i hi=> ?_⟩
 all_goals grind
theorem Zbv {α β:Type} {n:Nat} {p:Nat->α->β->Prop} [Inhabited α] [Inhabited β] (h:∀i,i<n->∃a b,p i a b):∃(f:Nat->α) (g:Nat->β),∀i,i<n->p i (f i) (g i):=
 ⟨fun i=>if hi:i<n then Classical.choose (h i hi) else default,fun i=>if hi:i<n then Classical.choose (Classical.choose_spec (h i hi)) else default,fun i hi=>by
  grind⟩
theorem Z0w:∀(m:Nat) (t:TypeId) (ts:List Ty),Z0i P m t=some ts->∀(fuel:Nat) (cs:List Value) (x:DataW H×List MemPlace),DataW.trod enc P w 0 sp held fuel t cs=some x->∃vz,Fits ts vz/\Zj (tE w) vz cs
 | 0,_,_,ht=>by simp [Z0i] at ht
 | m+1,t,ts,ht=>by
  intro fuel cs x hx
  unfold Z0i at ht
  split at ht
  ·rename_i hu
   cases ht
   obtain ⟨b,rfl,_⟩:=DataW.trod_bool hu hx
   exact ⟨[.bool b],.cons _ _ _ _ (.bool b) .nil,.one _ _ _ _ rfl rfl (.bool b) .nil⟩
  ·rename_i k hu
   cases ht
   obtain ⟨n,rfl,_,hw⟩:=DataW.trod_int hu hx
   exact ⟨[.int k n],.cons _ _ _ _ (.int k n hw) .nil,.one _ _ _ _ rfl rfl (.int k n) .nil⟩
  ·rename_i hu
   cases ht
   obtain ⟨s,rfl,_,hw⟩:=DataW.trod_string hu hx
   exact ⟨[.str s],.cons _ _ _ _ (.str s hw) .nil,.one _ _ _ _ rfl rfl (.str s) .nil⟩
  ·rename_i n e hu
   split at ht
   ·rename_i k he
    split at ht
    ·rename_i hc
     obtain ⟨hc,h1⟩:=hc
     cases ht
     obtain ⟨xs,q,rfl,rfl,hl,hn,hi⟩:=DataW.trod_array hu hx
     rw [hc] at hl
     obtain ⟨zs,z1,z2,z3⟩:=Ue (k:=k) hl fun i hlt=>by
      have:=hi i hlt
      rw [Ja (by omega),h1] at this
      obtain ⟨z,e1,_,e2⟩:=DataW.trod_int he this
      refine ⟨z, ?_,e2⟩
      rw [Ju] at e1
      have:=congrArg (fun l=>l[0]?) e1
      grind
     refine ⟨[.arr k n zs],.cons _ _ _ _ (.arr k n zs z1 z2) .nil, ?_⟩
     have:cs=intCells k n zs++[]:=by
      rw [JG]
      refine K5 fun i=> ?_
      grind [intCells]
     rw [this]
     exact .arr _ _ _ _ _ .nil
    ·cases ht
   ·obtain ⟨es,e1,e2⟩:=Jl.1 ht
    split at e2
    ·rename_i hc
     cases e2
     obtain ⟨xs,q,rfl,rfl,hl,hn,hi⟩:=DataW.trod_array hu hx
     rw [hc] at hl
     have key:∀j,j<=n->∃vz,Fits (List.replicate j es).flatten vz/\Zj (tE w) vz (cs.take (j*P.cellsOf e)):=by
      intro j
      induction j with
      | zero=>intro _;exact ⟨[],.nil,by simp;exact .nil⟩
      | succ j ih=>
       intro hj
       obtain ⟨vz,f1,f2⟩:=ih (by omega)
       have:=hi j (by omega)
       rw [Ja (by omega)] at this
       obtain ⟨bs,p1,p2⟩:=Z0w m _ _ e1 _ _ _ this
       refine ⟨vz++bs, ?_, ?_⟩
       ·rw [List.replicate_succ',List.flatten_append,List.flatten_singleton]
        exact f1.append p1
       ·rw [Nat.succ_mul,List.take_add]
        exact f2.append p2
     obtain ⟨vz,f1,f2⟩:=key n (J2 _)
     rw [JS (by omega)] at f2
     grind
    ·cases e2
  ·rename_i e hu
   split at ht
   ·rename_i k he
    split at ht
    ·rename_i hc
     cases ht
     rcases DataW.trod_slice hu hx with ⟨rfl,_⟩|⟨a,len,cap,elems,rest,n,rfl,rfl,_,_,hl,hm,hlen,hi,_,_⟩
     ·exact ⟨[.vints k [] 0],.cons _ _ _ _ (.ints k [] 0 rfl (Jt _) fun i hi=>absurd hi (Nat.not_lt_zero i)) .nil,.one _ _ _ _ rfl rfl (.vintsNil _ _ _ rfl rfl) .nil⟩
     ·obtain ⟨zs,z1,z2,z3⟩:=Ue (k:=k) (n:=len) (cs:=(List.range len).map fun i=>(w.cell? (a.add i)).getD undef) (by simp) fun i hlt=>by
       have:=hi i hlt
       rw [Ja (by omega),hc,Ju] at this
       obtain ⟨cs',h1,h2⟩:=Jl.1 this
       grind [DataW.trod_int,Go.ChangeShapes.cell_of_cells?_one]
      refine ⟨[.vints k zs len],.cons _ _ _ _ (.ints k zs len z1 (by omega) z2) .nil,.one _ _ _ _ rfl rfl (.vints k zs len a cap (by omega) (by omega) fun i hlt=> ?_) .nil⟩
      rw [z1] at hlt
      have:=hi i hlt
      rw [Ja (by omega),hc,Ju] at this
      obtain ⟨cs',h1,h2⟩:=Jl.1 this
      obtain ⟨z,rfl,_,e2⟩:=DataW.trod_int he h2
      have h3:=z3 i hlt
      have h4:=Go.ChangeShapes.cell_of_cells?_one h1
      simp [hlt,h4] at h3
      show w.cell? (a.add i)=_
      rw [h4,h3,JH]
    ·cases ht
   ·obtain ⟨es,h1,h2⟩:=Jl.1 ht
    cases h2
    rcases DataW.trod_slice hu hx with ⟨rfl,_⟩|⟨a,len,cap,elems,rest,n,rfl,rfl,_,_,hl,hm,hlen,hi,_,_⟩
    ·exact ⟨[.vrows (P.cellsOf e) 0 (fun _=>[]) 0],.cons _ _ _ _ (.rows _ _ 0 _ (Jt _) fun i hi=>absurd hi (Nat.not_lt_zero i)) .nil,.one _ _ _ _ rfl rfl (.vrowsNil _ _ _ _ rfl rfl) .nil⟩
    ·obtain ⟨f,g,hfg⟩:=Zbv (n:=len) (p:=fun i (vz:List AV) (vs:List Value)=>Fits es vz/\Zj (tE w) vz vs/\w.cells? 0 (a.add (i*P.cellsOf e)) (P.cellsOf e)=some vs) fun i hlt=>by
      have:=hi i hlt
      rw [Ja (by omega)] at this
      obtain ⟨cs',k1,k2⟩:=Jl.1 this
      obtain ⟨vz,f1,f2⟩:=Z0w m _ _ h1 _ _ _ k2
      exact ⟨vz,cs',f1,f2,k1⟩
     refine ⟨[.vrows (P.cellsOf e) len f len],.cons _ _ _ _ (.rows _ _ len f (by omega) fun i hlt=>(hfg i hlt).1) .nil,.one _ _ _ _ rfl rfl (.vrows _ _ _ _ a cap g (J2 _) hl (fun i hlt=>(hfg i hlt).2.1) (fun i hlt=>(World.cells?_some (hfg i hlt).2.2).2.1) fun i j c hlt hj=> ?_) .nil⟩
     obtain ⟨_,hl',hc'⟩:=World.cells?_some (hfg i hlt).2.2
     have hj':j<P.cellsOf e:=by
      grind
     have:=hc' j hj'
     rw [hj] at this
     show w.cell? (a.add (i*P.cellsOf e+j))=some c
     rw [<-this]
     rw [Addr.add_add]
  ·rename_i fs hu
   obtain ⟨xs,n,rfl,rfl,hl,hn,hf⟩:=DataW.trod_struct hu hx
   have key:∀(l:List Field) (o:Nat) (ts:List Ty) (i0:Nat),Z9W P (Z0i P m) (P.cellsOf t) o l=some ts->(∀i f,l[i]? =some f->fs[i0+i]? =some f)->∃vz,Fits ts vz/\Zj (tE w) vz (cs.drop o):=by
    intro l
    induction l with
    | nil=>
     intro o ts i0 h _
     unfold Z9W at h
     split at h
     ·cases h
      exact ⟨[],.nil,by rw [List.drop_eq_nil_of_le (by omega)];exact .nil⟩
     ·cases h
    | cons f l ih=>
     intro o ts i0 h hl'
     unfold Z9W at h
     split at h
     ·rename_i ho
      obtain ⟨a,h1,h2⟩:=Jl.1 h
      obtain ⟨b,h3,h4⟩:=Jl.1 h2
      cases h4
      have h0:fs[i0]? =some f:=hl' 0 f rfl
      have hlt:i0<fs.size:=by
       grind
      have k:=hf i0 f h0
      rw [Ja (by omega),ho] at k
      obtain ⟨vz,p1,p2⟩:=Z0w m _ _ h1 _ _ _ k
      obtain ⟨bs,q1,q2⟩:=ih (o+P.cellsOf f.type) b (i0+1) h3 fun i g hg=>by
       have:=hl' (i+1) g hg
       grind
      refine ⟨vz++bs,p1.append q1, ?_⟩
      have e:cs.drop o=(cs.drop o).take (P.cellsOf f.type)++cs.drop (o+P.cellsOf f.type):=by
       rw [<-List.drop_drop,List.take_append_drop]
      rw [e]
      exact p2.append q2
     ·cases h
   obtain ⟨vz,h1,h2⟩:=key fs.toList 0 ts 0 ht fun i f h=>by simp_all
   grind
  ·cases ht
def isAgg (P:Program) (t:TypeId):Bool:=match P.underlying t with
 | some (.struct _)|some (.array _ _)=>true
 | _=>false
inductive Z2K:Bool->List Ty->AV->Prop
 | agg (ts:List Ty) (vz:List AV) (h:Fits ts vz):Z2K true ts (.agg vz)
 | one (t:Ty) (a:AV) (h:Z06 t a):Z2K false [t] a
theorem Z9X {m:Nat} {t:TypeId} {ts:List Ty} (ht:Z0i P m t=some ts) (hg:isAgg P t=false) {v:Value} {r:Reach} {b:Nat} (hv:Value.okWide P w r b t v):
  v.cells.toList=[v]/\∃τ,ts=[τ]/\∀k n,τ≠.arr k n:=by
 cases m with
 | zero=>simp [Z0i] at ht
 | succ m=>
  unfold Z0i at ht
  unfold isAgg at hg
  split at ht
  ·rename_i hu;cases ht;obtain ⟨b,rfl⟩:=Go.WideShapes.okWide_bool hu hv;exact ⟨rfl,_,rfl,fun _ _ h=>by cases h⟩
  ·rename_i hu;cases ht;obtain ⟨b,rfl⟩:=Go.WideShapes.okWide_int hu hv;exact ⟨rfl,_,rfl,fun _ _ h=>by cases h⟩
  ·rename_i hu;cases ht;obtain ⟨b,rfl⟩:=Go.WideShapes.okWide_string hu hv;exact ⟨rfl,_,rfl,fun _ _ h=>by cases h⟩
  ·simp_all
  ·rename_i hu
   obtain ⟨a,l,c,rfl⟩:=Go.WideShapes.okWide_slice hu hv
   split at ht
   ·split at ht
    ·cases ht;exact ⟨rfl,_,rfl,fun _ _ h=>by cases h⟩
    ·cases ht
   ·obtain ⟨es,h1,h2⟩:=Jl.1 ht
    cases h2;exact ⟨rfl,_,rfl,fun _ _ h=>by cases h⟩
  all_goals simp_all
theorem Z9Y {m:Nat} {t:TypeId} {ts:List Ty} {g:Bool} (ht:Z0i P m t=some ts) (hg:isAgg P t=g) {v:Value} {r:Reach} {b:Nat} (hv:Value.okWide P w r b t v) {d:DataW H} {ps:List MemPlace} (h:DataW.Trod enc P w 0 sp held t v d ps):
  ∃a,Z2K g ts a/\Zb (tE w) a v:=by
 obtain ⟨fuel,hf⟩:=h
 obtain ⟨vz,f1,f2⟩:=Z0w m _ _ ht _ _ _ hf
 cases g with
 | true=>
  have:∃cs,v=.agg cs:=by
   grind [isAgg,Value.okWide]
  obtain ⟨cs,rfl⟩:=this
  refine ⟨.agg vz,.agg _ _ f1, ?_⟩
  exact .agg _ _ f2
 | false=>
  obtain ⟨h1,τ,rfl,h2⟩:=Z9X ht hg hv
  rw [h1] at f2
  cases f1 with
  | cons _ a _ vz f r=>
   generalize hL:[v]=L at f2
   cases f2 with
   | one _ _ _ _ h0 h1 h t=>cases hL;exact ⟨_,.one _ _ f,h⟩
   | arr k n xs _ cs t=>cases f;simp_all
end
end Go.Tk
end
section
namespace Go.Tk
open IntKind (i64 u8 u32 u64 wrap)
open Go.ChangeShapes Go.WideShapes Go.RowKit
theorem Zd6 (w:World):Emb (tE w) ⟨0,[]⟩ w where
 fresh:=fun _ _=>rfl
 lt:=fun x B h=>by simp [Z7.get,ZB] at h
 own:=fun x B h=>by simp [Z7.get,ZB] at h
 disj:=fun x y B B' b N N' h=>absurd h (by simp [Z7.get,ZB])
 imm:=fun _ _ h=>h
 sep:=fun a c x B N _ h=>absurd h (by simp [Z7.get,ZB])
theorem Zh.topT {P:Program} {f:FuncId} {args:List AV} (h:Zh P f args ⟨0,[]⟩ fun o h'=>∃v,o=.ret v/\h'=⟨0,[]⟩/\v=.bool true) {w:World} {rs:List Value} (hl:Zo (tE w) args rs):
  Calls P f rs.toArray w fun e w'=>e=.returned (.bool true)/\Go.RowKit.Below w.heap.size w w':=by
 refine (h (tE w) w rs (Zd6 w) hl).mono ?_
 rintro e w' ⟨E',o,h',⟨v,rfl,rfl,hv⟩,hev,hor⟩
 obtain rfl:=hv
 cases hor with
 | ret v r hr=>
  cases hr
  refine ⟨rfl,hev.os,hev.tape,hev.output.1,hev.size,fun k hk=>hev.keep k hk ?_⟩
  rintro ⟨x,B,N,hx,_⟩
  exact absurd hx (by simp [Z7.get,ZB])
def Z66 (P:Program) (m:Nat):List TypeId->Option (List (Bool×List Ty))
 | []=>some []
 | t::r=>(Z0i P m t).bind fun a=>(Z66 P m r).bind fun b=>some ((isAgg P t,a)::b)
inductive Z2L:List (Bool×List Ty)->List AV->Prop
 | nil:Z2L [] []
 | cons (g:Bool) (ts:List Ty) (a:AV) (r:List (Bool×List Ty)) (vz:List AV) (h:Z2K g ts a) (k:Z2L r vz):Z2L ((g,ts)::r) (a::vz)
section
variable {H:Type} {enc:TypeId×Value->H} {P:Program} {w:World}
theorem Z2M {m:Nat} {r:Reach} {b:Nat}:∀{ts:List TypeId} {τs:List (Bool×List Ty)} {vs:List Value} {ds:List (DataW H)} {ps:List MemPlace},Z66 P m ts=some τs->(∀(j:Nat) t v,ts[j]? =some t->vs[j]? =some v->Value.okWide P w r b t v)->
  DataW.TrodAll enc P w 0 (fun _=>true) true ts vs ds ps->∃vz,Z2L τs vz/\Zo (tE w) vz vs
 | [],τs,vs,ds,ps,ha,_,h=>by
  cases ha
  obtain ⟨rfl,_,_⟩:=trodAll_nil h
  exact ⟨[],.nil,.nil⟩
 | t::ts,τs,vs,ds,ps,ha,hv,h=>by
  obtain ⟨a,h1,h2⟩:=Jl.1 ha
  obtain ⟨c,h3,h4⟩:=Jl.1 h2
  cases h4
  obtain ⟨v,vs',d,ds',p,q,rfl,rfl,rfl,k1,k2⟩:=trodAll_cons h
  obtain ⟨x,f1,f2⟩:=Z9Y h1 rfl (hv 0 t v rfl rfl) k1
  obtain ⟨vz,g1,g2⟩:=Z2M h3 (fun j t' v' e1 e2=>hv (j+1) t' v' e1 e2) k2
  exact ⟨x::vz,.cons _ _ _ _ _ f1 g1,.cons _ _ _ _ f2 g2⟩
theorem Z07 {sp:Nat->Bool} {held:Bool}:∀{ts:List TypeId} {vs:List Value} {ds:List (DataW H)} {ps:List MemPlace},DataW.TrodAll enc P w 0 sp held ts vs ds ps->ds.length=ts.length
 | [],_,_,_,h=>by obtain ⟨_,rfl,_⟩:=trodAll_nil h;rfl
 | t::ts,_,_,_,h=>by
  obtain ⟨v,vs',d,ds',p,q,rfl,rfl,rfl,k1,k2⟩:=trodAll_cons h
  simp [Z07 k2]
theorem Z2N {W':World} (laid:laidOutB P=true) (hb:Below w.heap.size w W'):∀{ts:List TypeId} {vs:List Value} {ds:List (DataW H)} {ps:List MemPlace},ts.all (fun t=>P.readableRec t&&decide (t<P.types.size))=true->
  DataW.TrodAll enc P w 0 (fun _=>true) true ts vs ds ps->DataW.TrodAll enc P W' 0 (fun b=>decide (b<w.heap.size)) true ts vs ds ps
 | [],_,_,_,_,h=>by obtain ⟨rfl,rfl,rfl⟩:=trodAll_nil h;exact trodAll_mk0
 | t::ts,_,_,_,hr,h=>by
  obtain ⟨v,vs',d,ds',p,q,rfl,rfl,rfl,k1,k2⟩:=trodAll_cons h
  simp only [List.all_cons,J1,decide_eq_true_eq] at hr
  have lt:∀x∈p,x.block<w.heap.size:=by obtain ⟨m,hm⟩:=k1;exact DataW.trod_lt m _ _ _ hm
  exact trodAll_cons_mk (Below.trod laid hr.1.1 hr.1.2 k1 hb lt) (Z2N laid hb hr.2 k2)
end
theorem lifted_gen {H:Type} {enc:TypeId×Value->H} {C:Checked} {os:Os} {f:FuncId} {fn:Func} {s:ChangeSpec} {conds:List PathCond} {tb:TypeId} {m:Nat} {τs:List (Bool×List Ty)}
  (own:ownKnob C.prog.godebug=none) (laid:laidOutB C.prog=true) (started:os.Started) (noInit:C.prog.inits.idxOf? f=none) (hfn:C.prog.funcs[f]? =some fn)
  (witness:∃(w:World) (tape:Tape) (i:Input),w.os=os/\(w.forCall tape i).Shaped C.prog/\i.vars=[]/\Input.okWide C.prog (w.forCall tape i) .any w.heap.size f i/\
   s.pre6 enc C.prog fn conds false (w.forCall tape i).memory i.args/\({}:Assume).holds C.prog (lone (Frame.enter C.prog f i.args .normal) [] (w.forCall tape i)))
  (hvars:s.vars=[]) (hr:fn.resultTypes= #[tb]) (hb:C.prog.underlying tb=some .bool) (hread:fn.params.toList.all (fun t=>C.prog.readableRec t&&decide (t<C.prog.types.size))=true) (hτ:Z66 C.prog m fn.params.toList=some τs)
  (hs:∀ds:List (DataW H),ds.length=fn.params.toList.length->s.fn H ds={ results:=[.lit (.bool true)],args:=ds})
  (walk:∀vz,Z2L τs vz->Zh C.prog f vz ⟨0,[]⟩ fun o h'=>∃v,o=.ret v/\h'=⟨0,[]⟩/\v=.bool true):
  ReturnsInHanded {} C os f .any (s.pre6 enc C.prog fn conds false) (s.post enc C.prog fn false true false false):=by
 refine returnsInHanded_of_change own started noInit hfn witness ?_
 intro W base args ds gs before hval hW _ _
 have hW':=hW
 obtain ⟨p,q,hA,hV,rfl,hfz,hnd⟩:=hW
 rw [hvars] at hV
 obtain ⟨rfl,rfl⟩:=trodVars_none hV
 obtain ⟨vz,f1,f2⟩:=Z2M hτ (fun j t v e1 e2=>hval j t v (by simp_all) (by simp_all)) hA
 have key:=(walk vz f1).topT f2
 refine key.mono fun e W' ⟨he,bel⟩=> ?_
 subst he
 have hfn':=hs ds (Z07 hA)
 refine ⟨_,rfl,ds,[],_,[],p,[],hW', ?_, ?_, ?_,bel.frame _,fun h=>by cases h⟩
 ·rw [JG,hfn',hr]
  exact trodAll_mk1 (shut_bool hb _)
 ·rw [JG,hfn']
  exact Z2N laid bel hread hA
 ·rw [JG,hfn',hvars]
  rfl
end Go.Tk
end
section
namespace Go.Tk
open IntKind (i64 u8 u32 u64 wrap)
variable {f:FuncId}
theorem ZZ.join {P:Program} {k:Nat} {ro:Option Nat} {c:Code} {s:St} {X Y:KE} (h:ZZ P k ro c s Y) (hxy:∀e s',Y e s'->∃s₂,e=.normal/\Z3u k s' s₂/\X .normal s₂):ZZ P k ro c s X:=by
 intro E0 h0 w0 E a w n hk hs hev
 refine wpIn_mono (h E0 h0 w0 E a w n hk hs hev) ?_
 rintro e a' w' ⟨E',x,s',hx,hev',hs',he⟩
 obtain ⟨s₂,rfl,hw,hX⟩:=hxy x s' hx
 obtain ⟨E₂,hs₂,hev₂⟩:=hw E0 h0 w0 E' a' w' hk hs' hev'
 cases he
 exact ⟨E₂,_,s₂,hX,hev₂,hs₂,.normal⟩
def Z67 (P:Program) (f:FuncId) (id:Nat):Bool:=match P.funcs[f]? with
 | some fn=>match fn.body with
  | some b=>match V3 id (Zl b) with|[_]=>true|_=>false
  | none=>false
 | none=>false
theorem Z84 {P:Program} {id:Nat} (h:Z67 P f id=true) {fn:Func} {body c:Code} (hf:P.funcs[f]? =some fn) (hb:fn.body=some body) (hm:(id,c)∈Zl body):c=V4 P f id:=by
 have hc:=Wi hm
 grind [Z67,Qy,V4]
@[irreducible] def Z6U (G:Ze) (n:Nat) (f:FuncId) (id:Nat) (k:Nat) (s:St) (X:KE):Prop:=evC G (Z20 G n f none) k (V4 G.P f id) s X
def Z9Z (k:Nat) (S0 S1:St) (C:Prop):Nat->St->KE->Prop:=fun k' s X=>match Nat.beq k' k with
 | true=>Ud k S0 s (C/\X .normal S1)
 | false=>False
def jnM (k:Nat) (S1:St):KE:=fun e s=>match e with
 | .normal=>Ud k S1 s True
 | _=>False
theorem Ze.withJ {G:Ze} (hG:G.Ok) {id k N:Nat} {S0 S1:St} {C:Prop} (h1:Z67 G.P f id=true) (hC:C->Z6U G N f id k S0 (jnM k S1)):(G.withL f id (Z9Z k S0 S1 C)).Ok where
 draw:=hG.draw
 psumm:=hG.psumm
 fsumm:=hG.fsumm
 lsumm:=fun f' id' S' fn c body hS hf hb hm k' s X hs=>by
  simp only [Ze.withL] at hS
  split at hS
  ·rename_i hq
   rw [J1] at hq
   have e1:=J0 hq.1
   have e2:=J0 hq.2
   subst e1 e2
   cases hS
   have hc:=Z84 h1 hf hb hm
   unfold Z9Z at hs
   split at hs
   ·rename_i hk
    have:=J0 hk
    subst this
    obtain ⟨⟨hcC,hX⟩,hw⟩:=W4 hs
    have hE:=hC hcC
    unfold Z6U at hE
    rw [<-hc] at hE
    have hkN:=UW hG N f' none
    refine ZZ.weak ?_ hw
    refine ZZ.join (Z1m (k:=k') (ro:=none) hG hkN.1 (fun _=>rfl) (fun _=>rfl) (fun _=>⟨fn,body,by rw [hkN.2.1];exact hf,hb,fun b hbm=>Vw body id' _ hm b hbm⟩) hE) ?_
    grind [jnM,W4]
   simp_all
  ·exact hG.lsumm f' id' S' fn c body hS hf hb hm k' s X hs
theorem w8m (x:Int) (h:0<=x):u8.wrap (Int.tmod x 256)=u8.wrap x:=by
 rw [tm h]
 simp_all [wrap,IntKind.bits]
theorem Zbw {n k:Int} (h:0<=n):0<=Zi .i64 n k:=by
 unfold Zi
 rw [Int.fdiv_eq_ediv_of_nonneg _ (by grind)]
 exact Int.ediv_nonneg h (by grind)
theorem b8m {n k:Int} (h:0<=n):u8.wrap (Int.tmod (Zi .i64 n k) 256)=b8 n k:=w8m _ (Zbw h)
theorem Zd7 (n:Int) (ys:LI) (L:Nat) (hn:0<=n) (hy:ys=Zz n) (hL:L=ys.length):
  evF G0 20 52 [.int .i64 n] ⟨0,[]⟩ (Wx 0 (.ret (.nslice ⟨0,0,0,0,0⟩ 1 L L)) 1 [(0,.ints .u8 ys)]):=by
 refine @Eq.mpr _ (let b:=[wrap u8 (Int.tmod (Zi i64 n 8) 256),wrap u8 (Int.tmod (Zi i64 n 0) 256)];let a:=wrap u8 (Int.tmod (Zi i64 n 24) 256)::wrap u8 (Int.tmod (Zi i64 n 16) 256)::b;
 Z6 (decide (n<253)) (Z5 (1=L) (Z5 (L<=1) ([wrap u8 n]=ys/\True))) (Z6 (decide (n<65536)) (Z5 (3=L) (Z5 (L<=3) ((253:Int)::b=ys/\True))) (Z6 (decide (n<4294967296)) (Z5 (5=L) (Z5 (L<=5) ((254:Int)::a=ys/\True))) (Z5 (9=L) (Z5 (L<=9) ((255:Int)::wrap u8 (Int.tmod (Zi i64 n 56) 256)::wrap u8 (Int.tmod (Zi i64 n 48) 256)::wrap u8 (Int.tmod (Zi i64 n 40) 256)::wrap u8 (Int.tmod (Zi i64 n 32) 256)::a=ys/\True)))))) (by kernel_rfl) ?_
 conv=>zeta
 try simp only [vcA]
 try simp only [vcB]
 try simp only [vcC]
 subst hy hL
 refine ⟨fun h1=> ?_,fun h1=>⟨fun h2=> ?_,fun h2=>⟨fun h3=> ?_,fun h3=> ?_⟩⟩⟩
 ·rw [Z9M h1];simp
 ·rw [Z9N h1 h2];simp [b8m hn]
 ·rw [Z9O h1 h2 h3];simp [b8m hn]
 ·rw [Z9P h1 h2 h3];simp [b8m hn]
def Z6V (W:Int->LI):YY:=fun args h K=>match args with
 | [.int .i64 n]=>Z5 (0<=n) (K (.ret (.nslice ⟨h.next,0,0,0,0⟩ 1 (W n).length (W n).length)) ⟨h.next+1,(h.next,.ints .u8 (W n))::h.bs⟩)
 | _=>False
theorem Z4C (args:List AV) (h:Z7) (K:KO) (hl:Z6V Zz args h K):Zh PP 52 args h K:=by
 unfold Z6V at hl
 split at hl
 ·obtain ⟨hn,hK⟩:=Zc hl
  exact (Zs.evM Zr (Zd7 _ _ _ hn rfl rfl)).calls (fun E w rs he hr=>by
   cases hr with
   | cons v r vs rs h1 h2=>cases h2;exact .cons _ _ _ _ (h1.plain rfl) .nil) rfl ⟨JE,.ints _ _,trivial⟩ hK
 simp_all
structure Bytes (xs:LI):Prop where
 h:∀i:Nat,0<=xs.getD i 0/\xs.getD i 0<=255
def inZ:InS:=⟨Z9,0,0,Z9,Z9,Z9⟩
def Zfj:Y2:=⟨0,0,Z9,Z9,Z9,Z9,0,0⟩
theorem Bytes.getD {xs:LI} (h:Bytes xs) (i:Nat):0<=xs.getD i 0/\xs.getD i 0<256:=by
 have:=h.h i
 omega
structure TxB (t:TxS):Prop where
 h:∀i,i<t.M->Bytes (t.outs i).owner/\Bytes (t.outs i).other
noncomputable def E44 (W:Int->LI):Ze:=G0.withF 52 (Z6V W)
theorem Za0:(E44 Zz).Ok:=Ze.withF_ok Zr Z4C
def rbS (t:TxS) (core:Bool) (i:Nat) (xs:LI) (n:Nat):St:=⟨133,[(6,.int .i64 i),(2,.ptr (some ⟨0,0,0,0,0⟩)),(5,.nslice ⟨4,0,0,0,0⟩ 1 n n),(1,.bool core)],⟨5,[(4,.ints .u8 xs),(0,.flat t.c)]⟩,[]⟩
def rbR (t:TxS) (xs:LI) (n:Nat):St:=⟨133,[(2,.ptr (some ⟨0,0,0,0,0⟩)),(5,.nslice ⟨4,0,0,0,0⟩ 1 n n)],⟨5,[(4,.ints .u8 xs),(0,.flat t.c)]⟩,[]⟩
def Za1 (t:TxS) (i:Nat) (xs:LI) (n:Nat):St:=⟨133,[(9,.int .i64 i),(2,.ptr (some ⟨0,0,0,0,0⟩)),(5,.nslice ⟨4,0,0,0,0⟩ 1 n n)],⟨5,[(4,.ints .u8 xs),(0,.flat t.c)]⟩,[]⟩
theorem Wl (xs:LI):List.take xs.length (ZS 0 xs)=xs:=by rw [Y6,List.drop_zero,JD]
theorem Zes (W:Int->LI) (t:TxS) (i:Nat) (xs ys:LI) (n m:Nat) (Z1 Z2:Prop) (ht:t.Ok) (hi:i<=t.N) (hr:∀j,j<t.N->Yw (t.ins j)=true) (hW:W=Zz) (hn:xs.length=n) (hs:n<10000000000000) (hy:ys=xs++inW W true (t.ins i)) (hm:ys.length=m) (h1:i<t.N->Z1) (h2:i=t.N->Z2):
  ZA (E44 W) 20 99 0 0 (rbS t true i xs n) (rdM 0 0 9 (rbS t true (i+1) ys m) (rbR t xs n) (rbR t xs n) (rbR t xs n) Z1 Z2 False False):=by
 refine @Eq.mpr _ (let d:=t.N;let o:=t.ins (Int.toNat (↑i:Int));let l:=o.name;let k:=xs++l;let f:=k.length;let a:=o.index;let j:=W a;let e:=j.length;let h:=k++List.take e (ZS 0 j);let g:=h.length;let u:=decide (t.num=t.num);let c:=decide (d=d);let s:=Zk t.ins;let r:=s=s;let b:=decide (t.M=t.M);let q:=ZL t.outs;let p:=q=q;
 Z6 (decide ((↑i:Int)<(↑d:Int))) (Z5 (0<=(↑i:Int)/\(↑i:Int)<(↑d:Int)) (Z5 (u8=u8/\l.length=32) (Z5 (u8=u8/\xs.length=n) (Z5 (f*1<=140737488355328) (Z5 (a=a) (Z5 (0<=a) (Z5 (u8=u8/\0+e<=e) (Z5 (u8=u8/\f=f) (Z5 (g*1<=140737488355328) (Z5 (wrap i64 ((↑i:Int)+1)=(↑(i+1):Int)) (Z5 (g=m) (Z5 (m<=g) (h=ys/\Z0 u (Z0 c (r/\Z0 c (Z0 b (p/\Z0 b Z1))))))))))))))))) (Z5 (n=n) (Z5 (n<=n) (xs=xs/\Z0 u (Z0 c (r/\Z0 c (Z0 b (p/\Z0 b Z2)))))))) (by kernel_rfl) ?_
 conv=>zeta
 try simp only [vcA]
 try simp only [vcB]
 try simp only [vcC]
 refine ⟨fun hlt=> ?_,fun hge=>h2 (by omega)⟩
 obtain ⟨⟨w1,w2⟩,w3,w4⟩:=Z05 (hr i (by omega))
 obtain ⟨l1,l2,l3,l4⟩:=ht.ins i (by omega)
 have hw:=h1 (by omega)
 have hnn:=ht.n
 have hwr:i64.wrap ((i:Int)+1)=((i+1:Nat):Int):=w64 (by omega)
 have u1:=ZC (t.ins i).index
 have u2:=ZC (t.ins i).way
 subst hW
 rw [hwr]
 unfold inW at hy
 generalize t.ins i=x at*
 simp only [J6,Wl]
 repeat' (first|(refine Jq ?_ ?_)|intro _)
 all_goals (try simp only [beq_iff_eq,bne_iff_ne,ne_eq,beq_eq_false_iff_ne,bne_eq_false_iff_eq] at*)
 all_goals first|omega|assumption|trivial|skip
 all_goals first|(rw [hy];simp [*];done)|(rw [<-hm,hy];simp [*];try omega;done)|skip
theorem Zet (W:Int->LI) (t:TxS) (i:Nat) (xs ys:LI) (n m:Nat) (Z1 Z2:Prop) (ht:t.Ok) (hi:i<=t.N) (hr:∀j,j<t.N->Yw (t.ins j)=true) (hW:W=Zz) (hn:xs.length=n) (hs:n<10000000000000) (hy:ys=xs++inW W false (t.ins i)) (hm:ys.length=m) (h1:i<t.N->Z1) (h2:i=t.N->Z2):
  ZA (E44 W) 20 99 0 0 (rbS t false i xs n) (rdM 0 0 9 (rbS t false (i+1) ys m) (rbR t xs n) (rbR t xs n) (rbR t xs n) Z1 Z2 False False):=by
 refine @Eq.mpr _ (let v:=t.N;let c:=t.ins (Int.toNat (↑i:Int));let q3:=c.name;let T:=xs++q3;let y:=T.length;let l:=c.index;let J:=W l;let w:=J.length;let I:=T++List.take w (ZS 0 J);let H:=I.length;let d:=c.way;let a5:=W d;let G:=a5.length;let k:=I++List.take G (ZS 0 a5);let j:=k.length;let a4:=c.tag;let F:=decide (u8=u8/\j=j);let u:=k++a4;let h:=u.length;let a3:=d==1;let E:=c.also;let a2:=decide (u8=u8/\E.length=32);let a1:=decide (u8=u8/\h=h);let D:=u++E;let g:=D.length;let s:=d==4;let f:=c.secret;let r:=decide (u8=u8/\f.length=32);let a0:=D++f;let C:=a0.length;let b:=decide (wrap i64 ((↑i:Int)+1)=(↑(i+1):Int));let Z:=decide (t.num=t.num);let q:=decide (v=v);let Y:=Zk t.ins;let X:=Y=Y;let p:=decide (t.M=t.M);let V:=ZL t.outs;let U:=V=V;let a:=Z0 Z (Z0 q (X/\Z0 q (Z0 p (U/\Z0 p Z1))));let S:=Z0 r (Z5 (u8=u8/\g=g) (Z5 (C*1<=140737488355328) (Z0 b (Z5 (C=m) (Z5 (m<=C) (a0=ys/\a))))));let o:=d==5;let R:=u++f;let B:=R.length;let Q:=Z0 r (Z0 a1 (Z5 (B*1<=140737488355328) (Z0 b (Z5 (B=m) (Z5 (m<=B) (R=ys/\a))))));let A:=k++E;let e:=A.length;let P:=A++f;let z:=P.length;let O:=Z0 r (Z5 (u8=u8/\e=e) (Z5 (z*1<=140737488355328) (Z0 b (Z5 (z=m) (Z5 (m<=z) (P=ys/\a))))));let L:=k++f;let x:=L.length;let K:=Z0 r (Z0 F (Z5 (x*1<=140737488355328) (Z0 b (Z5 (x=m) (Z5 (m<=x) (L=ys/\a))))));
 Z6 (decide ((↑i:Int)<(↑v:Int))) (Z5 (0<=(↑i:Int)/\(↑i:Int)<(↑v:Int)) (Z5 (u8=u8/\q3.length=32) (Z5 (u8=u8/\xs.length=n) (Z5 (y*1<=140737488355328) (Z5 (l=l) (Z5 (0<=l) (Z5 (u8=u8/\0+w<=w) (Z5 (u8=u8/\y=y) (Z5 (H*1<=140737488355328) (Z5 (0<=d) (Z5 (u8=u8/\0+G<=G) (Z5 (u8=u8/\H=H) (Z5 (j*1<=140737488355328) (Z6 (d !=4) (Z5 (u8=u8/\a4.length=32) (Z0 F (Z5 (h*1<=140737488355328) (Z6 a3 (Z0 a2 (Z0 a1 (Z5 (g*1<=140737488355328) (Z6 s S (Z6 o S (Z0 b (Z5 (g=m) (Z5 (m<=g) (D=ys/\a))))))))) (Z6 s Q (Z6 o Q (Z0 b (Z5 (h=m) (Z5 (m<=h) (u=ys/\a)))))))))) (Z6 a3 (Z0 a2 (Z0 F (Z5 (e*1<=140737488355328) (Z6 s O (Z6 o O (Z0 b (Z5 (e=m) (Z5 (m<=e) (A=ys/\a))))))))) (Z6 s K (Z6 o K (Z0 b (Z5 (j=m) (Z5 (m<=j) (k=ys/\a))))))))))))))))))))) (Z5 (n=n) (Z5 (n<=n) (xs=xs/\Z0 Z (Z0 q (X/\Z0 q (Z0 p (U/\Z0 p Z2)))))))) (by kernel_rfl) ?_
 conv=>zeta
 try simp only [vcA]
 try simp only [vcB]
 try simp only [vcC]
 refine ⟨fun hlt=> ?_,fun hge=>h2 (by omega)⟩
 obtain ⟨⟨w1,w2⟩,w3,w4⟩:=Z05 (hr i (by omega))
 obtain ⟨l1,l2,l3,l4⟩:=ht.ins i (by omega)
 have hw:=h1 (by omega)
 have hnn:=ht.n
 have hwr:i64.wrap ((i:Int)+1)=((i+1:Nat):Int):=w64 (by omega)
 have u1:=ZC (t.ins i).index
 have u2:=ZC (t.ins i).way
 subst hW
 rw [hwr]
 unfold inW at hy
 generalize t.ins i=x at*
 simp only [Wl]
 repeat' (first|(refine Jq ?_ ?_)|intro _)
 all_goals grind
theorem Zeu (W:Int->LI) (t:TxS) (i:Nat) (xs ys:LI) (n m:Nat) (Z1 Z2:Prop) (ht:t.Ok) (hi:i<=t.M) (hr:∀j,j<t.M->YB (t.outs j)=true) (hW:W=Zz) (hn:xs.length=n) (hs:n<10000000000000) (hy:ys=xs++Z64 W (t.outs i)) (hm:ys.length=m) (h1:i<t.M->Z1) (h2:i=t.M->Z2):
  ZA (E44 W) 20 99 2 0 (Za1 t i xs n) (rdM 0 2 9 (Za1 t (i+1) ys m) (rbR t xs n) (rbR t xs n) (rbR t xs n) Z1 Z2 False False):=by
 refine @Eq.mpr _ (let q1:=t.M;let D:=t.outs (Int.toNat (↑i:Int));let E:=D.kind;let q4:=W E;let q5:=q4.length;let q6:=xs++List.take q5 (ZS 0 q4);let q7:=q6.length;let q8:=D.owner;let q9:=q8=q8;let a9:=D.amount;let h8:=W a9;let e2:=h8.length;let h1:=q6++List.take e2 (ZS 0 h8);let d5:=h1.length;let G:=h1++q8;let S:=G.length;let g8:=D.other;let d4:=decide (u8=u8/\g8.length=32);let F:=decide (u8=u8/\S=S);let J:=G++g8;let R:=J.length;let d3:=decide (R*1<=140737488355328);let g:=decide (E>=3);let d2:=D.point;let a6:=decide (u8=u8/\d2.length=32);let q:=decide (u8=u8/\R=R);let Q:=J++d2;let P:=Q.length;let d1:=decide (P*1<=140737488355328);let c:=decide (E>=4);let O:=D.hash;let C:=decide (u8=u8/\O.length=32);let A:=decide (u8=u8/\P=P);let a5:=Q++O;let L:=a5.length;let d0:=decide (L*1<=140737488355328);let g7:=D.delay;let j:=decide (0<=g7);let g6:=W g7;let d:=g6.length;let I:=decide (u8=u8/\L=L);let B:=List.take d (ZS 0 g6);let c9:=a5++B;let p:=c9.length;let g5:=D.expiry;let f:=decide (0<=g5);let g4:=W g5;let a:=g4.length;let h:=List.take a (ZS 0 g4);let g3:=c9++h;let z:=g3.length;let b:=decide (wrap i64 ((↑i:Int)+1)=(↑(i+1):Int));let g2:=decide (t.num=t.num);let a4:=decide (t.N=t.N);let g1:=Zk t.ins;let g0:=g1=g1;let a3:=decide (q1=q1);let f9:=ZL t.outs;let f8:=f9=f9;let e:=Z0 g2 (Z0 a4 (g0/\Z0 a4 (Z0 a3 (f8/\Z0 a3 Z1))));let c8:=g3=ys/\e;let c7:=c9=ys/\e;let f7:=a5++h;let y:=f7.length;let c6:=f7=ys/\e;let c5:=Z0 b (Z5 (L=m) (Z5 (m<=L) (a5=ys/\e)));let c4:=Q++B;let o:=c4.length;let f6:=c4++h;let x:=f6.length;let c3:=f6=ys/\e;let c2:=c4=ys/\e;let f5:=Q++h;let w:=f5.length;let c1:=f5=ys/\e;let c0:=Z0 b (Z5 (P=m) (Z5 (m<=P) (Q=ys/\e)));let a2:=J++O;let K:=a2.length;let b9:=decide (K*1<=140737488355328);let H:=decide (u8=u8/\K=K);let b8:=a2++B;let l:=b8.length;let f4:=b8++h;let v:=f4.length;let b7:=f4=ys/\e;let b6:=b8=ys/\e;let f3:=a2++h;let u:=f3.length;let b5:=f3=ys/\e;let b4:=Z0 b (Z5 (K=m) (Z5 (m<=K) (a2=ys/\e)));let b3:=J++B;let k:=b3.length;let f2:=b3++h;let s:=f2.length;let b2:=f2=ys/\e;let b1:=b3=ys/\e;let f1:=J++h;let r:=f1.length;let b0:=f1=ys/\e;let f0:=Z0 b (Z5 (R=m) (Z5 (m<=R) (J=ys/\e)));let a1:=G++d2;let a0:=a1.length;let e9:=decide (u8=u8/\a0=a0);let a8:=a1++O;let Z:=a8.length;let i0:=decide (u8=u8/\Z=Z);let e8:=a8++B;let Y:=e8.length;let h9:=e8++h;let e7:=h9.length;let h7:=a8++h;let e6:=h7.length;let e5:=a1++B;let X:=e5.length;let h6:=e5++h;let e4:=h6.length;let h5:=a1++h;let e3:=h5.length;let a7:=G++O;let V:=a7.length;let h4:=decide (u8=u8/\V=V);let e1:=a7++B;let U:=e1.length;let h3:=e1++h;let e0:=h3.length;let h2:=a7++h;let d9:=h2.length;let d8:=G++B;let T:=d8.length;let h0:=d8++h;let d7:=h0.length;let g9:=G++h;let d6:=g9.length;
 Z6 (decide ((↑i:Int)<(↑q1:Int))) (Z5 (0<=(↑i:Int)/\(↑i:Int)<(↑q1:Int)) (Z5 (0<=E) (Z5 (u8=u8/\0+q5<=q5) (Z5 (u8=u8/\xs.length=n) (Z5 (q7*1<=140737488355328) (q9/\
 Z5 (a9=a9) (Z5 (0<=a9) (Z5 (u8=u8/\0+e2<=e2) (Z5 (u8=u8/\q7=q7) (Z5 (d5*1<=140737488355328) (q9/\
 Z5 (u8=u8/\q8.length=32) (Z5 (u8=u8/\d5=d5) (Z5 (S*1<=140737488355328) (Z6 (E==2) (Z0 d4 (Z0 F (Z0 d3 (Z6 g (Z0 a6 (Z0 q (Z0 d1 (Z6 c (Z0 C (Z0 A (Z0 d0 (Z6 g (Z0 j (Z5 (u8=u8/\0+d<=d) (Z0 I (Z5 (p*1<=140737488355328) (Z6 c (Z0 f (Z5 (u8=u8/\0+a<=a) (Z5 (u8=u8/\p=p) (Z5 (z*1<=140737488355328) (Z0 b (Z5 (z=m) (Z5 (m<=z) c8))))))) (Z0 b (Z5 (p=m) (Z5 (m<=p) c7)))))))) (Z6 c (Z0 f (Z5 (u8=u8/\0+a<=a) (Z0 I (Z5 (y*1<=140737488355328) (Z0 b (Z5 (y=m) (Z5 (m<=y) c6))))))) c5))))) (Z6 g (Z0 j (Z5 (u8=u8/\0+d<=d) (Z0 A (Z5 (o*1<=140737488355328) (Z6 c (Z0 f (Z5 (u8=u8/\0+a<=a) (Z5 (u8=u8/\o=o) (Z5 (x*1<=140737488355328) (Z0 b (Z5 (x=m) (Z5 (m<=x) c3))))))) (Z0 b (Z5 (o=m) (Z5 (m<=o) c2)))))))) (Z6 c (Z0 f (Z5 (u8=u8/\0+a<=a) (Z0 A (Z5 (w*1<=140737488355328) (Z0 b (Z5 (w=m) (Z5 (m<=w) c1))))))) c0)))))) (Z6 c (Z0 C (Z0 q (Z0 b9 (Z6 g (Z0 j (Z5 (u8=u8/\0+d<=d) (Z0 H (Z5 (l*1<=140737488355328) (Z6 c (Z0 f (Z5 (u8=u8/\0+a<=a) (Z5 (u8=u8/\l=l) (Z5 (v*1<=140737488355328) (Z0 b (Z5 (v=m) (Z5 (m<=v) b7))))))) (Z0 b (Z5 (l=m) (Z5 (m<=l) b6)))))))) (Z6 c (Z0 f (Z5 (u8=u8/\0+a<=a) (Z0 H (Z5 (u*1<=140737488355328) (Z0 b (Z5 (u=m) (Z5 (m<=u) b5))))))) b4))))) (Z6 g (Z0 j (Z5 (u8=u8/\0+d<=d) (Z0 q (Z5 (k*1<=140737488355328) (Z6 c (Z0 f (Z5 (u8=u8/\0+a<=a) (Z5 (u8=u8/\k=k) (Z5 (s*1<=140737488355328) (Z0 b (Z5 (s=m) (Z5 (m<=s) b2))))))) (Z0 b (Z5 (k=m) (Z5 (m<=k) b1)))))))) (Z6 c (Z0 f (Z5 (u8=u8/\0+a<=a) (Z0 q (Z5 (r*1<=140737488355328) (Z0 b (Z5 (r=m) (Z5 (m<=r) b0))))))) f0))))))) (Z6 (E==4) (Z0 d4 (Z0 F (Z0 d3 (Z6 g (Z0 a6 (Z0 q (Z0 d1 (Z6 c (Z0 C (Z0 A (Z0 d0 (Z6 g (Z0 j (Z5 (u8=u8/\0+d<=d) (Z0 I (Z5 (p*1<=140737488355328) (Z6 c (Z0 f (Z5 (u8=u8/\0+a<=a) (Z5 (u8=u8/\p=p) (Z5 (z*1<=140737488355328) (Z0 b (Z5 (z=m) (Z5 (m<=z) c8))))))) (Z0 b (Z5 (p=m) (Z5 (m<=p) c7)))))))) (Z6 c (Z0 f (Z5 (u8=u8/\0+a<=a) (Z0 I (Z5 (y*1<=140737488355328) (Z0 b (Z5 (y=m) (Z5 (m<=y) c6))))))) c5))))) (Z6 g (Z0 j (Z5 (u8=u8/\0+d<=d) (Z0 A (Z5 (o*1<=140737488355328) (Z6 c (Z0 f (Z5 (u8=u8/\0+a<=a) (Z5 (u8=u8/\o=o) (Z5 (x*1<=140737488355328) (Z0 b (Z5 (x=m) (Z5 (m<=x) c3))))))) (Z0 b (Z5 (o=m) (Z5 (m<=o) c2)))))))) (Z6 c (Z0 f (Z5 (u8=u8/\0+a<=a) (Z0 A (Z5 (w*1<=140737488355328) (Z0 b (Z5 (w=m) (Z5 (m<=w) c1))))))) c0)))))) (Z6 c (Z0 C (Z0 q (Z0 b9 (Z6 g (Z0 j (Z5 (u8=u8/\0+d<=d) (Z0 H (Z5 (l*1<=140737488355328) (Z6 c (Z0 f (Z5 (u8=u8/\0+a<=a) (Z5 (u8=u8/\l=l) (Z5 (v*1<=140737488355328) (Z0 b (Z5 (v=m) (Z5 (m<=v) b7))))))) (Z0 b (Z5 (l=m) (Z5 (m<=l) b6)))))))) (Z6 c (Z0 f (Z5 (u8=u8/\0+a<=a) (Z0 H (Z5 (u*1<=140737488355328) (Z0 b (Z5 (u=m) (Z5 (m<=u) b5))))))) b4))))) (Z6 g (Z0 j (Z5 (u8=u8/\0+d<=d) (Z0 q (Z5 (k*1<=140737488355328) (Z6 c (Z0 f (Z5 (u8=u8/\0+a<=a) (Z5 (u8=u8/\k=k) (Z5 (s*1<=140737488355328) (Z0 b (Z5 (s=m) (Z5 (m<=s) b2))))))) (Z0 b (Z5 (k=m) (Z5 (m<=k) b1)))))))) (Z6 c (Z0 f (Z5 (u8=u8/\0+a<=a) (Z0 q (Z5 (r*1<=140737488355328) (Z0 b (Z5 (r=m) (Z5 (m<=r) b0))))))) f0))))))) (Z6 (E==5) (Z0 d4 (Z0 F (Z0 d3 (Z6 g (Z0 a6 (Z0 q (Z0 d1 (Z6 c (Z0 C (Z0 A (Z0 d0 (Z6 g (Z0 j (Z5 (u8=u8/\0+d<=d) (Z0 I (Z5 (p*1<=140737488355328) (Z6 c (Z0 f (Z5 (u8=u8/\0+a<=a) (Z5 (u8=u8/\p=p) (Z5 (z*1<=140737488355328) (Z0 b (Z5 (z=m) (Z5 (m<=z) c8))))))) (Z0 b (Z5 (p=m) (Z5 (m<=p) c7)))))))) (Z6 c (Z0 f (Z5 (u8=u8/\0+a<=a) (Z0 I (Z5 (y*1<=140737488355328) (Z0 b (Z5 (y=m) (Z5 (m<=y) c6))))))) c5))))) (Z6 g (Z0 j (Z5 (u8=u8/\0+d<=d) (Z0 A (Z5 (o*1<=140737488355328) (Z6 c (Z0 f (Z5 (u8=u8/\0+a<=a) (Z5 (u8=u8/\o=o) (Z5 (x*1<=140737488355328) (Z0 b (Z5 (x=m) (Z5 (m<=x) c3))))))) (Z0 b (Z5 (o=m) (Z5 (m<=o) c2)))))))) (Z6 c (Z0 f (Z5 (u8=u8/\0+a<=a) (Z0 A (Z5 (w*1<=140737488355328) (Z0 b (Z5 (w=m) (Z5 (m<=w) c1))))))) c0)))))) (Z6 c (Z0 C (Z0 q (Z0 b9 (Z6 g (Z0 j (Z5 (u8=u8/\0+d<=d) (Z0 H (Z5 (l*1<=140737488355328) (Z6 c (Z0 f (Z5 (u8=u8/\0+a<=a) (Z5 (u8=u8/\l=l) (Z5 (v*1<=140737488355328) (Z0 b (Z5 (v=m) (Z5 (m<=v) b7))))))) (Z0 b (Z5 (l=m) (Z5 (m<=l) b6)))))))) (Z6 c (Z0 f (Z5 (u8=u8/\0+a<=a) (Z0 H (Z5 (u*1<=140737488355328) (Z0 b (Z5 (u=m) (Z5 (m<=u) b5))))))) b4))))) (Z6 g (Z0 j (Z5 (u8=u8/\0+d<=d) (Z0 q (Z5 (k*1<=140737488355328) (Z6 c (Z0 f (Z5 (u8=u8/\0+a<=a) (Z5 (u8=u8/\k=k) (Z5 (s*1<=140737488355328) (Z0 b (Z5 (s=m) (Z5 (m<=s) b2))))))) (Z0 b (Z5 (k=m) (Z5 (m<=k) b1)))))))) (Z6 c (Z0 f (Z5 (u8=u8/\0+a<=a) (Z0 q (Z5 (r*1<=140737488355328) (Z0 b (Z5 (r=m) (Z5 (m<=r) b0))))))) f0))))))) (Z6 g (Z0 a6 (Z0 F (Z5 (a0*1<=140737488355328) (Z6 c (Z0 C (Z0 e9 (Z5 (Z*1<=140737488355328) (Z6 g (Z0 j (Z5 (u8=u8/\0+d<=d) (Z0 i0 (Z5 (Y*1<=140737488355328) (Z6 c (Z0 f (Z5 (u8=u8/\0+a<=a) (Z5 (u8=u8/\Y=Y) (Z5 (e7*1<=140737488355328) (Z0 b (Z5 (e7=m) (Z5 (m<=e7) (h9=ys/\e)))))))) (Z0 b (Z5 (Y=m) (Z5 (m<=Y) (e8=ys/\e))))))))) (Z6 c (Z0 f (Z5 (u8=u8/\0+a<=a) (Z0 i0 (Z5 (e6*1<=140737488355328) (Z0 b (Z5 (e6=m) (Z5 (m<=e6) (h7=ys/\e)))))))) (Z0 b (Z5 (Z=m) (Z5 (m<=Z) (a8=ys/\e))))))))) (Z6 g (Z0 j (Z5 (u8=u8/\0+d<=d) (Z0 e9 (Z5 (X*1<=140737488355328) (Z6 c (Z0 f (Z5 (u8=u8/\0+a<=a) (Z5 (u8=u8/\X=X) (Z5 (e4*1<=140737488355328) (Z0 b (Z5 (e4=m) (Z5 (m<=e4) (h6=ys/\e)))))))) (Z0 b (Z5 (X=m) (Z5 (m<=X) (e5=ys/\e))))))))) (Z6 c (Z0 f (Z5 (u8=u8/\0+a<=a) (Z0 e9 (Z5 (e3*1<=140737488355328) (Z0 b (Z5 (e3=m) (Z5 (m<=e3) (h5=ys/\e)))))))) (Z0 b (Z5 (a0=m) (Z5 (m<=a0) (a1=ys/\e)))))))))) (Z6 c (Z0 C (Z0 F (Z5 (V*1<=140737488355328) (Z6 g (Z0 j (Z5 (u8=u8/\0+d<=d) (Z0 h4 (Z5 (U*1<=140737488355328) (Z6 c (Z0 f (Z5 (u8=u8/\0+a<=a) (Z5 (u8=u8/\U=U) (Z5 (e0*1<=140737488355328) (Z0 b (Z5 (e0=m) (Z5 (m<=e0) (h3=ys/\e)))))))) (Z0 b (Z5 (U=m) (Z5 (m<=U) (e1=ys/\e))))))))) (Z6 c (Z0 f (Z5 (u8=u8/\0+a<=a) (Z0 h4 (Z5 (d9*1<=140737488355328) (Z0 b (Z5 (d9=m) (Z5 (m<=d9) (h2=ys/\e)))))))) (Z0 b (Z5 (V=m) (Z5 (m<=V) (a7=ys/\e))))))))) (Z6 g (Z0 j (Z5 (u8=u8/\0+d<=d) (Z0 F (Z5 (T*1<=140737488355328) (Z6 c (Z0 f (Z5 (u8=u8/\0+a<=a) (Z5 (u8=u8/\T=T) (Z5 (d7*1<=140737488355328) (Z0 b (Z5 (d7=m) (Z5 (m<=d7) (h0=ys/\e)))))))) (Z0 b (Z5 (T=m) (Z5 (m<=T) (d8=ys/\e))))))))) (Z6 c (Z0 f (Z5 (u8=u8/\0+a<=a) (Z0 F (Z5 (d6*1<=140737488355328) (Z0 b (Z5 (d6=m) (Z5 (m<=d6) (g9=ys/\e)))))))) (Z0 b (Z5 (S=m) (Z5 (m<=S) (G=ys/\e)))))))))))))))))))))))) (Z5 (n=n) (Z5 (n<=n) (xs=xs/\Z0 g2 (Z0 a4 (g0/\Z0 a4 (Z0 a3 (f8/\Z0 a3 Z2)))))))) (by kernel_rfl) ?_
 conv=>zeta
 try simp only [vcA]
 try simp only [vcB]
 try simp only [vcC]
 refine ⟨fun hlt=> ?_,fun hge=>h2 (by omega)⟩
 obtain ⟨⟨w1,w2⟩,⟨w3,w4⟩,⟨w5,w6⟩,w7,w8⟩:=Z1H (hr i (by omega))
 obtain ⟨l1,l2,l3,l4⟩:=ht.outs i (by omega)
 have hw:=h1 (by omega)
 have hnn:=ht.m
 have hwr:i64.wrap ((i:Int)+1)=((i+1:Nat):Int):=w64 (by omega)
 have u1:=ZC (t.outs i).kind
 have u2:=ZC (t.outs i).amount
 have u3:=ZC (t.outs i).delay
 have u4:=ZC (t.outs i).expiry
 subst hW
 rw [hwr]
 unfold Z64 at hy
 generalize t.outs i=x at*
 simp only [J6,Wl]
 repeat' (first|(refine Jq ?_ ?_)|intro _)
 all_goals (try simp only [beq_iff_eq,bne_iff_ne,ne_eq,beq_eq_false_iff_ne,bne_eq_false_iff_eq] at*)
 all_goals first|omega|assumption|trivial|skip
 all_goals first|(rw [hy];grind)|(rw [<-hm,hy];simp [*];try omega;done)|skip
noncomputable def Zd8 (W:Int->LI) (t:TxS) (core:Bool):Ze:=
 (E44 W).withL 99 0 (goM 0 (rbS t core 0 (Xy W t core 0) (Xy W t core 0).length) t.Fine (YF 0 t.N 9 (fun i=>i<t.N) (fun i=>i=t.N) (fun _=>False) (fun _=>False) (fun i=>rbR t (Xy W t core i) (Xy W t core i).length) (fun i=>rbR t (Xy W t core i) (Xy W t core i).length) (fun i=>rbR t (Xy W t core i) (Xy W t core i).length)))
noncomputable def Zfk (W:Int->LI) (t:TxS) (core:Bool):Ze:=
 (E44 W).withL 99 2 (goM 0 (Za1 t 0 (YW W t core 0) (YW W t core 0).length) t.Fine (YF 2 t.M 9 (fun i=>i<t.M) (fun i=>i=t.M) (fun _=>False) (fun _=>False) (fun i=>rbR t (YW W t core i) (YW W t core i).length) (fun i=>rbR t (YW W t core i) (YW W t core i).length) (fun i=>rbR t (YW W t core i) (YW W t core i).length)))
theorem Zbx (t:TxS) (core:Bool):(Zd8 Zz t core).Ok:=by
 refine Ze.withGoM (N:=20) (S:=fun i=>rbS t core i (Xy Zz t core i) (Xy Zz t core i).length) Za0 (by kernel_rfl) fun hC=>⟨rfl,fun i hi hgo=> ?_⟩
 have h1:=Q8 hC core hi
 cases core
 ·exact Zet Zz t i (Xy Zz t false i) (Xy Zz t false (i+1)) _ _ _ _ hC.ok hi hC.ins rfl rfl (by omega) (Z2J _ _ _ _) rfl (fun h=>⟨h,h⟩) (fun h=>h)
 ·exact Zes Zz t i (Xy Zz t true i) (Xy Zz t true (i+1)) _ _ _ _ hC.ok hi hC.ins rfl rfl (by omega) (Z2J _ _ _ _) rfl (fun h=>⟨h,h⟩) (fun h=>h)
theorem Zby (t:TxS) (core:Bool):(Zfk Zz t core).Ok:=by
 refine Ze.withGoM (N:=20) (S:=fun i=>Za1 t i (YW Zz t core i) (YW Zz t core i).length) Za0 (by kernel_rfl) fun hC=>⟨rfl,fun i hi hgo=> ?_⟩
 have h1:=Z1I hC core hi
 exact Zeu Zz t i (YW Zz t core i) (YW Zz t core (i+1)) _ _ _ _ hC.ok hi hC.outs rfl rfl (by omega) (Z83 _ _ _ _) rfl (fun h=>⟨h,h⟩) (fun h=>h)
noncomputable def Zev (W:Int->LI) (t:TxS) (core:Bool):Ze:=
 (Zd8 W t core).withL 99 2 (goM 0 (Za1 t 0 (YW W t core 0) (YW W t core 0).length) t.Fine (YF 2 t.M 9 (fun i=>i<t.M) (fun i=>i=t.M) (fun _=>False) (fun _=>False) (fun i=>rbR t (YW W t core i) (YW W t core i).length) (fun i=>rbR t (YW W t core i) (YW W t core i).length) (fun i=>rbR t (YW W t core i) (YW W t core i).length)))
theorem Za2 (W:Int->LI) (t:TxS) (core:Bool) (ys:LI) (L:Nat) (hW:W=Zz) (ht:t.Fine) (hy:ys=Z82 W t core) (hL:L=ys.length):
  evF (Zev W t core) 20 99 [.agg t.c,.bool core] ⟨0,[]⟩ (Wx 0 (.ret (.nslice ⟨0,0,0,0,0⟩ 1 L L)) 1 [(0,.ints .u8 ys)]):=by
 refine @Eq.mpr _ (let d:=t.num;let m:=List.length (W d);let w:=[]++List.take m (ZS 0 (W d));let k:=w.length;let b:=t.N;let g:=↑b;let a:=decide (b=b);let p:=Zk t.ins;let f:=p=p;let H:=W g;let o:=H.length;let G:=w++List.take o (ZS 0 H);let n:=G.length;let F:=Xy W t core 0;let E:=F.length;let D:=decide (d=d);let c:=t.M;let e:=decide (c=c);let C:=ZL t.outs;let B:=C=C;let A:=W ↑c;let l:=A.length;let z:=YW W t core 0;let y:=z.length;let x:=(False->False)/\(False->False);
 Z5 (0<=d) (Z5 (u8=u8/\0+m<=m) (Z5 (k*1<=140737488355328) (Z5 (g=g) (Z0 a (f/\
 Z0 a (Z5 (u8=u8/\0+o<=o) (Z5 (u8=u8/\k=k) (Z5 (n*1<=140737488355328) (Z5 (n=E) (Z5 (E<=n) (Z5 (core=core) (G=F/\
 Z0 D (Z0 a (f/\
 Z0 a (Z0 e (B/\
 Z0 e (TxS.Fine t/\
 ∀(i:Nat),
 let v:=Xy W t core i;let u:=v.length;let s:=v++List.take l (ZS 0 A);let h:=s.length;
 i<=b->
 (∀(j:Nat),j<i->(fun (i:Nat)=>i<b) j)->
 (i=b->
 Z5 (u8=u8/\0+l<=l) (Z5 (u8=u8/\u=u) (Z5 (h*1<=140737488355328) (Z5 (h=y) (Z5 (y<=h) (s=z/\
 Z0 D (Z0 a (f/\
 Z0 a (Z0 e (B/\
 Z0 e (TxS.Fine t/\
 ∀(i:Nat),
 let r:=YW W t core i;let q:=r.length;
 i<=c->(∀(j:Nat),j<i->(fun (i:Nat)=>i<c) j)->(i=c->Z5 (q=L) (Z5 (L<=q) (r=ys/\True)))/\x)))))))))))/\
 x)))))))))))))))))) (by kernel_rfl) ?_
 conv=>zeta
 try simp only [vcA]
 try simp only [vcB]
 try simp only [vcC]
 subst hW hy hL
 have e1:Zz t.num++Zz ↑t.N=Xy Zz t core 0:=by unfold Xy;simp [Z24]
 have e2:Xy Zz t core t.N++Zz ↑t.M=YW Zz t core 0:=by unfold YW;simp [Z24]
 have b1:=Q8 ht core (J2 t.N)
 have b2:=Z1I ht core (J2 t.M)
 have hN:=ht.n
 have hM:=ht.m
 have hq:=ht.num
 simp only [Wl,JO,e1,Ju]
 have b0:=Q8 ht core (Jt t.N)
 have c0:=Z1I ht core (Jt t.M)
 have d1:=ZC t.num
 refine ⟨hq.1,by omega,by omega,trivial,J2 _,trivial,ht,fun i hi _=>⟨fun he=> ?_,fun h=>h,fun h=>h⟩⟩
 subst he
 rw [e2]
 refine ⟨by omega,rfl,J2 _,rfl,ht,fun i hi _=>⟨fun he=> ?_,fun h=>h,fun h=>h⟩⟩
 subst he
 exact ⟨rfl,J2 _,rfl⟩
theorem Zbz (t:TxS) (core:Bool):(Zev Zz t core).Ok:=by
 exact Ze.withL_join (G:=Zd8 Zz t core) (H:=E44 Zz) (Zbx t core) rfl (Zby t core)
theorem Z4D (t:TxS) (core:Bool) (ht:t.Fine):Zs PP 99 [.agg t.c,.bool core] (.nslice ⟨0,0,0,0,0⟩ 1 (Z82 Zz t core).length (Z82 Zz t core).length) 1 [(0,.ints .u8 (Z82 Zz t core))]:=.evM (Zbz t core) (Za2 _ t core _ _ rfl ht rfl rfl)
theorem Z68 (args:List AV) (h:Z7) (K:KO) (hl:Zer (Z82 Zz) args h K):Zh PP 99 args h K:=by
 refine Zs.fsumm (d:=20) (Zm _ _ _ _ _ hl fun a ha=> ?_)
 split at ha
 ·obtain ⟨t,h1,h2,hK⟩:=ha
  exact ⟨_,_,_,_,(Z4D t _ h2).conv fun E r hr=>hr.head (fun _ hc=>h1.rel hc) (fun _ hc=>hc),rfl,⟨JE,.ints _ _,trivial⟩,hK⟩
 simp_all
structure InS.By (x:InS):Prop where
 name:Bytes x.name
 tag:Bytes x.tag
 also:Bytes x.also
 secret:Bytes x.secret
structure Y2.By (x:Y2):Prop where
 owner:Bytes x.owner
 other:Bytes x.other
 point:Bytes x.point
 hash:Bytes x.hash
structure Zcj (t:TxS):Prop where
 ins:∀i,i<t.N->(t.ins i).By
 outs:∀i,i<t.M->(t.outs i).By
theorem Zcj.b {t:TxS} (h:Zcj t):TxB t:=⟨fun i hi=>⟨(h.outs i hi).owner,(h.outs i hi).other⟩⟩
theorem pick {α:Type} [Inhabited α] {n:Nat} {p:Nat->α->Prop} (h:∀i,i<n->∃a,p i a):∃f:Nat->α,∀i,i<n->p i (f i):=
 ⟨fun i=>if hi:i<n then Classical.choose (h i hi) else default,fun i hi=>by
  simp only [hi,dite_true]
  exact Classical.choose_spec (h i hi)⟩
instance:Inhabited InS:=⟨inZ⟩
instance:Inhabited Y2:=⟨Zfj⟩
def WS (a b c:Int):Nat->Int
 | 0=>0
 | i+1=>if 2<=u32.wrap (u32.wrap (Int.tmod (Zi .u32 a i) 2+Int.tmod (Zi .u32 b i) 2)+Int.tmod (Zi .u32 c i) 2) then u32.wrap (WS a b c i+Zt .u32 1 i) else WS a b c i
def V8 (a b c:Int):Nat->Int
 | 0=>0
 | i+1=>u32.wrap (V8 a b c i+Zt .u32 (if Int.tmod (Zi .u32 a i) 2=1 then Int.tmod (Zi .u32 b i) 2 else Int.tmod (Zi .u32 c i) 2) i)
def moS (a b c:Int) (o:Int) (i:Nat):St:=⟨33,[(8,.int .u64 i),(0,.int .u32 a),(1,.int .u32 b),(2,.int .u32 c),(7,.int .u32 o)],⟨0,[]⟩,[]⟩
def moR (o:Int):St:=⟨33,[(7,.int .u32 o)],⟨0,[]⟩,[]⟩
theorem Zck {x:Int} (h:0<=x/\x<18446744073709551616):u64.wrap x=x:=by
 grind [wrap,IntKind.bits,IntKind.signed]
theorem Zd9 (a b c o o':Int) (i:Nat) (Z1 Z2:Prop) (hi:i<=32) (ho:o'=if 2<=u32.wrap (u32.wrap (Int.tmod (Zi .u32 a i) 2+Int.tmod (Zi .u32 b i) 2)+Int.tmod (Zi .u32 c i) 2) then u32.wrap (o+Zt .u32 1 i) else o) (h1:i<32->Z1) (h2:i=32->Z2):
  ZA G0 20 166 0 0 (moS a b c o i) (rdM 0 0 9 (moS a b c o' (i+1)) (moR o) (moR o) (moR o) Z1 Z2 False False):=by
 refine @Eq.mpr _ (let g:=decide (wrap u64 ((↑i:Int)+1)=(↑(i+1):Int));let f:=decide (a=a);let e:=decide (b=b);let d:=decide (c=c);
 Z6 (decide ((↑i:Int)<32)) (Z6 (decide (wrap u32 (wrap u32 (Int.tmod (Zi u32 a (↑i:Int)) 2+Int.tmod (Zi u32 b (↑i:Int)) 2)+Int.tmod (Zi u32 c (↑i:Int)) 2)>=2)) (Z0 g (Z0 f (Z0 e (Z0 d (Z5 (wrap u32 (o+Zt u32 1 (↑i:Int))=o') Z1))))) (Z0 g (Z0 f (Z0 e (Z0 d (Z5 (o=o') Z1)))))) (Z5 (o=o) Z2)) (by kernel_rfl) ?_
 conv=>zeta
 try simp only [vcA]
 try simp only [vcB]
 try simp only [vcC]
 have hw:u64.wrap ((i:Int)+1)=((i+1:Nat):Int):=Zck (by omega)
 refine ⟨fun hlt=>⟨fun hc=> ?_,fun hc=> ?_⟩,fun hge=>h2 (by omega)⟩
 ·rw [if_pos hc] at ho
  exact ⟨hw,ho.symm,h1 (by omega)⟩
 ·rw [if_neg hc] at ho
  exact ⟨hw,ho.symm,h1 (by omega)⟩
theorem Zda (a b c o o':Int) (i:Nat) (Z1 Z2:Prop) (hi:i<=32) (ho:o'=u32.wrap (o+Zt .u32 (if Int.tmod (Zi .u32 a i) 2=1 then Int.tmod (Zi .u32 b i) 2 else Int.tmod (Zi .u32 c i) 2) i)) (h1:i<32->Z1) (h2:i=32->Z2):
  ZA G0 20 165 0 0 (moS a b c o i) (rdM 0 0 9 (moS a b c o' (i+1)) (moR o) (moR o) (moR o) Z1 Z2 False False):=by
 refine @Eq.mpr _ (let g:=decide (wrap u64 ((↑i:Int)+1)=(↑(i+1):Int));let f:=decide (a=a);let e:=decide (b=b);let d:=decide (c=c);
 Z6 (decide ((↑i:Int)<32)) (Z6 (Int.tmod (Zi u32 a (↑i:Int)) 2==1) (Z0 g (Z0 f (Z0 e (Z0 d (Z5 (wrap u32 (o+Zt u32 (Int.tmod (Zi u32 b (↑i:Int)) 2) (↑i:Int))=o') Z1))))) (Z0 g (Z0 f (Z0 e (Z0 d (Z5 (wrap u32 (o+Zt u32 (Int.tmod (Zi u32 c (↑i:Int)) 2) (↑i:Int))=o') Z1)))))) (Z5 (o=o) Z2)) (by kernel_rfl) ?_
 conv=>zeta
 try simp only [vcA]
 try simp only [vcB]
 try simp only [vcC]
 have hw:u64.wrap ((i:Int)+1)=((i+1:Nat):Int):=Zck (by omega)
 refine ⟨fun hlt=>⟨fun hc=> ?_,fun hc=> ?_⟩,fun hge=>h2 (by omega)⟩
 ·rw [if_pos (by simpa using hc)] at ho
  exact ⟨hw,ho.symm,h1 (by omega)⟩
 ·rw [if_neg (by simpa using hc)] at ho
  exact ⟨hw,ho.symm,h1 (by omega)⟩
@[irreducible] def YK (a b c:Int):Int:=WS a b c 32
@[irreducible] def YG (a b c:Int):Int:=V8 a b c 32
noncomputable def Zew (a b c:Int):Ze:=G0.withL 166 0 (goM 0 (moS a b c 0 0) True (YF 0 32 9 (fun i=>i<32) (fun i=>i=32) (fun _=>False) (fun _=>False) (fun i=>moR (WS a b c i)) (fun i=>moR (WS a b c i)) (fun i=>moR (WS a b c i))))
theorem ZbA (a b c:Int):(Zew a b c).Ok:=by
 refine Ze.withGoM (N:=20) (S:=fun i=>moS a b c (WS a b c i) i) Zr (by kernel_rfl) fun hC=>⟨rfl,fun i hi hgo=> ?_⟩
 simp_all [Zd9,WS]
noncomputable def Zex (a b c:Int):Ze:=G0.withL 165 0 (goM 0 (moS a b c 0 0) True (YF 0 32 9 (fun i=>i<32) (fun i=>i=32) (fun _=>False) (fun _=>False) (fun i=>moR (V8 a b c i)) (fun i=>moR (V8 a b c i)) (fun i=>moR (V8 a b c i))))
theorem ZbB (a b c:Int):(Zex a b c).Ok:=by
 refine Ze.withGoM (N:=20) (S:=fun i=>moS a b c (V8 a b c i) i) Zr (by kernel_rfl) fun hC=>⟨rfl,fun i hi hgo=> ?_⟩
 simp_all [Zda,V8]
theorem Zdb (a b c:Int) (o:Int) (ho:o=WS a b c 32):
  evF (Zew a b c) 20 166 [.int .u32 a,.int .u32 b,.int .u32 c] ⟨0,[]⟩ (Y1 0 [] (.int .u32 o) 0 []):=by
 refine @Eq.mpr _ (Z5 (a=a) (Z5 (b=b) (Z5 (c=c) (True/\∀(i:Nat),i<=32->(∀(j:Nat),j<i->(fun (i:Nat)=>i<32) j)->(i=32->Z5 (WS a b c i=o) True)/\(False->False)/\(False->False))))) (by kernel_rfl) ?_
 try simp only [vcA]
 try simp only [vcB]
 try simp only [vcC]
 subst ho
 exact fun i hi _=>⟨fun he=>by subst he;rfl,fun h=>h,fun h=>h⟩
theorem Zdc (a b c:Int) (o:Int) (ho:o=V8 a b c 32):
  evF (Zex a b c) 20 165 [.int .u32 a,.int .u32 b,.int .u32 c] ⟨0,[]⟩ (Y1 0 [] (.int .u32 o) 0 []):=by
 refine @Eq.mpr _ (Z5 (a=a) (Z5 (b=b) (Z5 (c=c) (True/\∀(i:Nat),i<=32->(∀(j:Nat),j<i->(fun (i:Nat)=>i<32) j)->(i=32->Z5 (V8 a b c i=o) True)/\(False->False)/\(False->False))))) (by kernel_rfl) ?_
 try simp only [vcA]
 try simp only [vcB]
 try simp only [vcC]
 subst ho
 exact fun i hi _=>⟨fun he=>by subst he;rfl,fun h=>h,fun h=>h⟩
def Z0x (F:Int->Int->Int->Int):ZX:=fun args _ K=>match args with
 | [.int .u32 a,.int .u32 b,.int .u32 c]=>K (.int .u32 (F a b c))
 | _=>False
theorem Z1K {F:Int->Int->Int->Int} (hp:∀a b c,Zs PP f [.int .u32 a,.int .u32 b,.int .u32 c] (.int .u32 (F a b c)) 0 []) (args:List AV) (h:Z7) (K:AV->Prop) (hl:Z0x F args h K):Zh PP f args h fun o h'=>∃v,o=.ret v/\h'=h/\K v:=by
 unfold Z0x at hl
 split at hl
 ·rename_i a b c
  refine Q2 (d:=20) (K0:=fun l=>l=[.int .u32 a,.int .u32 b,.int .u32 c]) ?_ fun l e=>⟨_,by simp_all,fun _=>rfl,hl⟩
  rfl
 simp_all
def sg3 (a b c:Int) (w:Int):Int:=Yf .u32 (Yf .u32 (Z5L w (32-a)) (Z5L w (32-b))) (Z5L w (32-c))
def rg3 (a b n:Int) (w:Int):Int:=Yf .u32 (Yf .u32 (Z5L w (32-a)) (Z5L w (32-b))) (Zi .u32 w n)
def Z69 (bl:LI) (t:Nat):Int:=u32.wrap (u32.wrap (u32.wrap (Zt .u32 (u32.wrap (bl.getD (4*t) 0)) 24+Zt .u32 (u32.wrap (bl.getD (4*t+1) 0)) 16)+Zt .u32 (u32.wrap (bl.getD (4*t+2) 0)) 8)+u32.wrap (bl.getD (4*t+3) 0))
def Za3 (m:LI) (t:Nat):Int:=u32.wrap (u32.wrap (u32.wrap (rg3 17 19 10 (m.getD (t-2) 0)+m.getD (t-7) 0)+rg3 7 18 3 (m.getD (t-15) 0))+m.getD (t-16) 0)
def Xz (bl:LI):Nat->LI
 | 0=>List.replicate 64 0
 | t+1=>(Xz bl t).set t (if t<16 then Z69 bl t else Za3 (Xz bl t) t)
theorem Z1L (bl:LI):∀t,(Xz bl t).length=64
 | 0=>rfl
 | t+1=>by simp [Xz,Z1L bl t]
def prS (st bl m:LI) (i:Nat):St:=⟨146,[(6,.int .i64 i),(3,pt 1),(5,pt 3),(2,pt 0),(4,pt 2)],⟨4,[(3,.flat [.arr .u32 64 m]),(2,.flat [.arr .u32 8 [0,0,0,0,0,0,0,0]]),(1,.flat [.arr .u8 64 bl]),(0,.flat [.arr .u32 8 st])]⟩,[]⟩
theorem Zfl (st bl m m':LI) (i:Nat) (Z1 Z2:Prop) (hi:i<=64) (hm:m.length=64) (hm':m'=m.set i (if i<16 then Z69 bl i else Za3 m i)) (h1:i<64->Z1) (h2:i=64->Z2):
  ZA G0 20 132 0 0 (prS st bl m i) (rdM 0 0 9 (prS st bl m' (i+1)) (prS st bl m i) (prS st bl m i) (prS st bl m i) Z1 Z2 False False):=by
 refine @Eq.mpr _ (let b:=wrap i64 (4*(↑i:Int));let A:=0+Int.toNat b;let h:=wrap i64 (b+1);let u:=0+Int.toNat h;let f:=wrap i64 (b+2);let t:=0+Int.toNat f;let e:=wrap i64 (b+3);let s:=0+Int.toNat e;let r:=decide (0<=(↑i:Int)/\(↑i:Int)<64);let d:=0+Int.toNat (↑i:Int);let H:=decide (u32=u32/\d<64/\d<m.length);let G:=decide (wrap i64 ((↑i:Int)+1)=(↑(i+1):Int));let F:=[(0:Int),0,0,0,0,0,0,0];let E:=F=F;let D:=E/\bl=bl/\st=st/\Z1;let q:=wrap i64 ((↑i:Int)-2);let C:=0+Int.toNat q;let p:=wrap i64 ((↑i:Int)-7);let B:=0+Int.toNat p;let o:=decide (B<64);let n:=wrap i64 ((↑i:Int)-15);let z:=0+Int.toNat n;let y:=decide (z<64);let l:=wrap i64 ((↑i:Int)-16);let x:=0+Int.toNat l;let k:=decide (x<64);let j:=List.getD m x 0;let w:=decide (j=j);let a:=List.getD m z 0;let g:=List.getD m B 0;let v:=decide (g=g);let c:=List.getD m C 0;
 Z6 (decide ((↑i:Int)<64)) (Z6 (decide ((↑i:Int)<16)) (Z5 (0<=b/\b<64) (Z5 (A<64) (Z5 (0<=h/\h<64) (Z5 (u<64) (Z5 (0<=f/\f<64) (Z5 (t<64) (Z5 (0<=e/\e<64) (Z5 (s<64) (Z0 r (Z0 H (Z0 G (List.set m d (wrap u32 (wrap u32 (wrap u32 (Zt u32 (wrap u32 (List.getD bl A 0)) 24+Zt u32 (wrap u32 (List.getD bl u 0)) 16)+Zt u32 (wrap u32 (List.getD bl t 0)) 8)+wrap u32 (List.getD bl s 0)))=m'/\D)))))))))))) (Z5 (0<=q/\q<64) (Z5 (C<64) (Z5 (0<=p/\p<64) (Z0 o (Z5 (0<=n/\n<64) (Z0 y (Z5 (0<=l/\l<64) (Z0 k (Z0 k (Z0 w (Z0 y (Z5 (a=a) (Z0 o (Z0 v (Z0 k (Z0 w (Z0 o (Z0 v (Z0 r (Z0 H (Z0 G (List.set m d (wrap u32 (wrap u32 (wrap u32 (Yf u32 (Yf u32 (bOr u32 (Zt u32 c 15) (Zi u32 c 17)) (bOr u32 (Zt u32 c 13) (Zi u32 c 19))) (Zi u32 c 10)+g)+Yf u32 (Yf u32 (bOr u32 (Zt u32 a 25) (Zi u32 a 7)) (bOr u32 (Zt u32 a 14) (Zi u32 a 18))) (Zi u32 a 3))+j))=m'/\D))))))))))))))))))))))) (Z5 ((↑i:Int)=(↑i:Int)) (m=m/\E/\bl=bl/\st=st/\Z2))) (by kernel_rfl) ?_
 conv=>zeta
 try simp only [vcA]
 try simp only [vcB]
 try simp only [vcC]
 have hw:i64.wrap ((i:Int)+1)=((i+1:Nat):Int):=w64 (by omega)
 refine ⟨fun hlt=>⟨fun h16=> ?_,fun h16=> ?_⟩,fun hge=>h2 (by omega)⟩
 ·have e0:i64.wrap (4*(i:Int))=((4*i:Nat):Int):=by rw [w64 (by omega)];omega
  have e1:i64.wrap (((4*i:Nat):Int)+1)=((4*i+1:Nat):Int):=by rw [w64 (by omega)];omega
  have e2:i64.wrap (((4*i:Nat):Int)+2)=((4*i+2:Nat):Int):=by rw [w64 (by omega)];omega
  have e3:i64.wrap (((4*i:Nat):Int)+3)=((4*i+3:Nat):Int):=by rw [w64 (by omega)];omega
  rw [if_pos (by omega)] at hm'
  simp only [e0,e1,e2,e3,hw,Jo]
  repeat' (first|(refine Jq ?_ ?_)|intro _)
  all_goals first|omega|exact hm'.symm|exact h1 (by omega)|trivial
 ·have e0:i64.wrap ((i:Int)-2)=((i-2:Nat):Int):=by rw [w64 (by omega)];omega
  have e1:i64.wrap ((i:Int)-7)=((i-7:Nat):Int):=by rw [w64 (by omega)];omega
  have e2:i64.wrap ((i:Int)-15)=((i-15:Nat):Int):=by rw [w64 (by omega)];omega
  have e3:i64.wrap ((i:Int)-16)=((i-16:Nat):Int):=by rw [w64 (by omega)];omega
  rw [if_neg (by omega)] at hm'
  simp only [e0,e1,e2,e3,hw]
  repeat' (first|(refine Jq ?_ ?_))
  all_goals first|omega|exact hm'.symm|exact h1 (by omega)|trivial
noncomputable def Zey (st bl:LI):Ze:=G0.withL 132 0 (goM 0 (prS st bl (List.replicate 64 0) 0) True (YF 0 64 9 (fun i=>i<64) (fun i=>i=64) (fun _=>False) (fun _=>False) (fun i=>prS st bl (Xz bl i) i) (fun i=>prS st bl (Xz bl i) i) (fun i=>prS st bl (Xz bl i) i)))
theorem ZbC (st bl:LI):(Zey st bl).Ok:=by
 refine Ze.withGoM (N:=20) (S:=fun i=>prS st bl (Xz bl i) i) Zr (by kernel_rfl) fun hC=>⟨rfl,fun i hi hgo=> ?_⟩
 simp_all [Zfl,Xz,Z1L]
noncomputable def E54 (M P:Int->Int->Int->Int):Ze:=(G0.withP 166 (Z0x M)).withP 165 (Z0x P)
theorem Zdd:(E54 YK YG).Ok:=Ze.withP_ok (Ze.withP_ok Zr (Z1K fun a b c=>by unfold YK;exact .ev (ZbA a b c) (Zdb a b c _ rfl))) (Z1K fun a b c=>by unfold YG;exact .ev (ZbB a b c) (Zdc a b c _ rfl))
def Z08 (M P:Int->Int->Int->Int) (k m:Int) (x:LI):LI:=
 let one:=u32.wrap (u32.wrap (u32.wrap (u32.wrap (x.getD 7 0+sg3 6 11 25 (x.getD 4 0))+P (x.getD 4 0) (x.getD 5 0) (x.getD 6 0))+k)+m)
 [u32.wrap (one+u32.wrap (sg3 2 13 22 (x.getD 0 0)+M (x.getD 0 0) (x.getD 1 0) (x.getD 2 0))),x.getD 0 0,x.getD 1 0,x.getD 2 0,u32.wrap (x.getD 3 0+one),x.getD 4 0,x.getD 5 0,x.getD 6 0]
def VE (M P:Int->Int->Int->Int) (m st:LI):Nat->LI
 | 0=>st
 | t+1=>Z08 M P (Wv.getD t 0) (m.getD t 0) (VE M P m st t)
theorem Z85 (M P:Int->Int->Int->Int) (m st:LI) (t:Nat):VE M P m st (t+1)=Z08 M P (Wv.getD t 0) (m.getD t 0) (VE M P m st t):=rfl
theorem Z86 (M P:Int->Int->Int->Int) (m st:LI):VE M P m st 0=st:=rfl
theorem Q9 {M P:Int->Int->Int->Int} {m st:LI} (h:st.length=8):∀t,(VE M P m st t).length=8
 | 0=>h
 | _+1=>rfl
def prT (st k m x:LI) (i:Nat):St:=⟨146,[(9,.int .i64 i),(8,pt 6),(7,pt 5),(5,pt 3),(2,pt 0),(4,pt 2)],⟨7,[(6,.flat [.arr .u32 8 x]),(5,.flat [.arr .u32 64 k]),(3,.flat [.arr .u32 64 m]),(2,.flat [.arr .u32 8 [0,0,0,0,0,0,0,0]]),(0,.flat [.arr .u32 8 st])]⟩,[]⟩
def prU (st x:LI):St:=⟨146,[(8,pt 6),(2,pt 0),(4,pt 2)],⟨7,[(6,.flat [.arr .u32 8 x]),(2,.flat [.arr .u32 8 [0,0,0,0,0,0,0,0]]),(0,.flat [.arr .u32 8 st])]⟩,[]⟩
theorem Zfm (M P:Int->Int->Int->Int) (st k m x':LI) (x0 x1 x2 x3 x4 x5 x6 x7:Int) (i:Nat) (Z1 Z2:Prop) (hi:i<=64) (hx:x'=Z08 M P (k.getD i 0) (m.getD i 0) [x0,x1,x2,x3,x4,x5,x6,x7]) (h1:i<64->Z1) (h2:i=64->Z2):
  ZA (E54 M P) 20 132 2 0 (prT st k m [x0,x1,x2,x3,x4,x5,x6,x7] i) (rdM 0 2 9 (prT st k m x' (i+1)) (prU st [x0,x1,x2,x3,x4,x5,x6,x7]) (prU st [x0,x1,x2,x3,x4,x5,x6,x7]) (prU st [x0,x1,x2,x3,x4,x5,x6,x7]) Z1 Z2 False False):=by
 refine @Eq.mpr _ (let l:=decide (0<=(↑i:Int)/\(↑i:Int)<64);let a:=0+Int.toNat (↑i:Int);let h:=decide (a<64);let g:=decide (a<64);let c:=List.getD m a 0;let b:=List.getD k a 0;let f:=wrap u32 (wrap u32 (wrap u32 (wrap u32 (x7+Yf u32 (Yf u32 (bOr u32 (Zt u32 x4 26) (Zi u32 x4 6)) (bOr u32 (Zt u32 x4 21) (Zi u32 x4 11))) (bOr u32 (Zt u32 x4 7) (Zi u32 x4 25)))+P x4 x5 x6)+b)+c);let e:=[(0:Int),0,0,0,0,0,0,0];let d:=e=e;let j:=[x0,x1,x2,x3,x4,x5,x6,x7];
 Z6 (decide ((↑i:Int)<64)) (Z0 l (Z0 h (Z0 l (Z0 g (Z0 g (Z5 (c=c) (Z0 h (Z5 (b=b) (Z5 (x6=x6) (Z5 (x5=x5) (Z5 (x4=x4) (Z5 (x7=x7) (Z5 (x2=x2) (Z5 (x1=x1) (Z5 (x0=x0) (Z5 (wrap i64 ((↑i:Int)+1)=(↑(i+1):Int)) ([wrap u32 (f+wrap u32 (Yf u32 (Yf u32 (bOr u32 (Zt u32 x0 30) (Zi u32 x0 2)) (bOr u32 (Zt u32 x0 19) (Zi u32 x0 13))) (bOr u32 (Zt u32 x0 10) (Zi u32 x0 22))+M x0 x1 x2)),x0,x1,x2,wrap u32 (x3+f),x4,x5,x6]=x'/\k=k/\m=m/\d/\st=st/\Z1))))))))))))))))) (j=j/\d/\st=st/\Z2)) (by kernel_rfl) ?_
 conv=>zeta
 try simp only [vcA]
 try simp only [vcB]
 try simp only [vcC]
 have hw:i64.wrap ((i:Int)+1)=((i+1:Nat):Int):=w64 (by omega)
 refine ⟨fun hlt=> ?_,fun hge=>h2 (by omega)⟩
 rw [hw]
 repeat' (first|(refine Jq ?_ ?_)|intro _)
 all_goals first|omega|exact hx.symm|exact h1 (by omega)|trivial
def prV (st x:LI) (i:Nat):St:=⟨146,[(12,.int .i64 i),(8,pt 6),(2,pt 0),(4,pt 2)],⟨7,[(6,.flat [.arr .u32 8 x]),(2,.flat [.arr .u32 8 [0,0,0,0,0,0,0,0]]),(0,.flat [.arr .u32 8 st])]⟩,[]⟩
def WT (st x:LI):Nat->LI
 | 0=>x
 | i+1=>(WT st x i).set i (u32.wrap ((WT st x i).getD i 0+st.getD i 0))
theorem Z1M {st x:LI} (h:x.length=8):∀i,(WT st x i).length=8
 | 0=>h
 | i+1=>by simp [WT,Z1M h i]
theorem Zfn (st x x':LI) (i:Nat) (Z1 Z2:Prop) (hi:i<=8) (hl:x.length=8) (hs:st.length=8) (hx:x'=x.set i (u32.wrap (x.getD i 0+st.getD i 0))) (h1:i<8->Z1) (h2:i=8->Z2):
  ZA G0 20 132 4 0 (prV st x i) (rdM 0 4 9 (prV st x' (i+1)) (prU st x) (prU st x) (prU st x) Z1 Z2 False False):=by
 refine @Eq.mpr _ (let b:=decide (0<=(↑i:Int)/\(↑i:Int)<8);let a:=0+Int.toNat (↑i:Int);let d:=[(0:Int),0,0,0,0,0,0,0];let c:=d=d;
 Z6 (decide ((↑i:Int)<8)) (Z0 b (Z5 (a<8) (Z0 b (Z5 (a<8) (Z0 b (Z5 (u32=u32/\a<8/\a<x.length) (Z5 (wrap i64 ((↑i:Int)+1)=(↑(i+1):Int)) (List.set x a (wrap u32 (List.getD x a 0+List.getD st a 0))=x'/\c/\st=st/\Z1)))))))) (x=x/\c/\st=st/\Z2)) (by kernel_rfl) ?_
 conv=>zeta
 try simp only [vcA]
 try simp only [vcB]
 try simp only [vcC]
 have hw:i64.wrap ((i:Int)+1)=((i+1:Nat):Int):=w64 (by omega)
 refine ⟨fun hlt=> ?_,fun hge=>h2 (by omega)⟩
 rw [hw]
 repeat' (first|(refine Jq ?_ ?_)|intro _)
 all_goals first|omega|exact hx.symm|exact h1 (by omega)|trivial
def Zez (M P:Int->Int->Int->Int) (st m:LI):Nat->St->KE->Prop:=goM 0 (prT st Wv m st 0) (st.length=8) (YF 2 64 9 (fun i=>i<64) (fun i=>i=64) (fun _=>False) (fun _=>False) (fun i=>prU st (VE M P m st i)) (fun i=>prU st (VE M P m st i)) (fun i=>prU st (VE M P m st i)))
theorem ZbD (st m:LI):((E54 YK YG).withL 132 2 (Zez YK YG st m)).Ok:=by
 refine Ze.withGoM (N:=20) (S:=fun i=>prT st Wv m (VE YK YG m st i) i) Zdd (by kernel_rfl) fun hC=>⟨rfl,fun i hi hgo=> ?_⟩
 obtain ⟨x0,x1,x2,x3,x4,x5,x6,x7,e⟩:=eight _ (Q9 (M:=YK) (P:=YG) (m:=m) hC i)
 show ZA _ 20 132 2 0 (prT st Wv m (VE YK YG m st i) i) (rdM 0 2 9 (prT st Wv m (Z08 YK YG (Wv.getD i 0) (m.getD i 0) (VE YK YG m st i)) (i+1)) _ _ _ _ _ _ _)
 rw [e]
 exact Zfm YK YG st Wv m _ x0 x1 x2 x3 x4 x5 x6 x7 i _ _ hi rfl (fun h=>⟨h,h⟩) (fun h=>h)
def ZeA (st x:LI):Nat->St->KE->Prop:=goM 0 (prV st x 0) (st.length=8/\x.length=8) (YF 4 8 9 (fun i=>i<8) (fun i=>i=8) (fun _=>False) (fun _=>False) (fun i=>prU st (WT st x i)) (fun i=>prU st (WT st x i)) (fun i=>prU st (WT st x i)))
theorem ZbE (st x:LI):(G0.withL 132 4 (ZeA st x)).Ok:=by
 refine Ze.withGoM (N:=20) (S:=fun i=>prV st (WT st x i) i) Zr (by kernel_rfl) fun hC=>⟨rfl,fun i hi hgo=> ?_⟩
 simp_all [Zfn,WT,Z1M]
noncomputable def ZeB (M P:Int->Int->Int->Int) (st bl m x:LI):Ze:=((Zey st bl).withL 132 2 (Zez M P st m)).withL 132 4 (ZeA st x)
theorem ZbF (st bl m x:LI):(ZeB YK YG st bl m x).Ok:=by
 exact Ze.withL_join (H:=G0) (Ze.withL_join (H:=E54 YK YG) (ZbC st bl) rfl (ZbD st m)) rfl (ZbE st x)
@[irreducible] def X4 (st bl:LI):LI:=WT st (VE YK YG (Xz bl 64) st 64) 8
attribute [irreducible] Xz VE WT
theorem Zfo (M P:Int->Int->Int->Int) (st bl m x r:LI) (hst:st.length=8) (hm:m=Xz bl 64) (hx:x=VE M P m st 64) (hr:r=WT st x 8):
  evF (ZeB M P st bl m x) 20 132 [.agg [.arr .u32 8 st],.agg [.arr .u8 64 bl]] ⟨0,[]⟩ (Y1 0 [] (.agg [.arr .u32 8 r]) 0 []):=by
 refine @Eq.mpr _ ((0:Int)::(0:Int)::(0:Int)::(0:Int)::(0:Int)::(0:Int)::(0:Int)::(0:Int)::(0:Int)::(0:Int)::(0:Int)::(0:Int)::(0:Int)::(0:Int)::(0:Int)::(0:Int)::(0:Int)::(0:Int)::(0:Int)::(0:Int)::(0:Int)::(0:Int)::(0:Int)::(0:Int)::(0:Int)::(0:Int)::(0:Int)::(0:Int)::(0:Int)::(0:Int)::(0:Int)::(0:Int)::Z9=(0:Int)::(0:Int)::(0:Int)::(0:Int)::(0:Int)::(0:Int)::(0:Int)::(0:Int)::(0:Int)::(0:Int)::(0:Int)::(0:Int)::(0:Int)::(0:Int)::(0:Int)::(0:Int)::(0:Int)::(0:Int)::(0:Int)::(0:Int)::(0:Int)::(0:Int)::(0:Int)::(0:Int)::(0:Int)::(0:Int)::(0:Int)::(0:Int)::(0:Int)::(0:Int)::(0:Int)::(0:Int)::Z9/\
 [(0:Int),(0:Int),(0:Int),(0:Int),(0:Int),(0:Int),(0:Int),(0:Int)]=[(0:Int),(0:Int),(0:Int),(0:Int),(0:Int),(0:Int),(0:Int),(0:Int)]/\
 bl=bl/\
 st=st/\
 True/\
 ∀(i:Nat),
 i<=(64:Nat)->
 (∀(j:Nat),j<i->(fun (i:Nat)=>i<(64:Nat)) j)->
 (i=(64:Nat)->
 st=st/\
 [(1116352408:Int),(1899447441:Int),(3049323471:Int),(3921009573:Int),(961987163:Int),(1508970993:Int),(2453635748:Int),(2870763221:Int),(3624381080:Int),(310598401:Int),(607225278:Int),(1426881987:Int),(1925078388:Int),(2162078206:Int),(2614888103:Int),(3248222580:Int),(3835390401:Int),(4022224774:Int),(264347078:Int),(604807628:Int),(770255983:Int),(1249150122:Int),(1555081692:Int),(1996064986:Int),(2554220882:Int),(2821834349:Int),(2952996808:Int),(3210313671:Int),(3336571891:Int),(3584528711:Int),(113926993:Int),(338241895:Int),(666307205:Int),(773529912:Int),(1294757372:Int),(1396182291:Int),(1695183700:Int),(1986661051:Int),(2177026350:Int),(2456956037:Int),(2730485921:Int),(2820302411:Int),(3259730800:Int),(3345764771:Int),(3516065817:Int),(3600352804:Int),(4094571909:Int),(275423344:Int),(430227734:Int),(506948616:Int),
 (659060556:Int),(883997877:Int),(958139571:Int),(1322822218:Int),(1537002063:Int),(1747873779:Int),(1955562222:Int),(2024104815:Int),(2227730452:Int),(2361852424:Int),(2428436474:Int),(2756734187:Int),(3204031479:Int),(3329325298:Int)]=
 Wv/\
 Xz bl i=m/\
 [(0:Int),(0:Int),(0:Int),(0:Int),(0:Int),(0:Int),(0:Int),(0:Int)]=[(0:Int),(0:Int),(0:Int),(0:Int),(0:Int),(0:Int),(0:Int),(0:Int)]/\st=st/\st.length=(8:Nat)/\∀(i:Nat),i<=(64:Nat)->(∀(j:Nat),j<i->(fun (i:Nat)=>i<(64:Nat)) j)->(i=(64:Nat)->VE M P m st i=x/\[(0:Int),(0:Int),(0:Int),(0:Int),(0:Int),(0:Int),(0:Int),(0:Int)]=[(0:Int),(0:Int),(0:Int),(0:Int),(0:Int),(0:Int),(0:Int),(0:Int)]/\st=st/\(st.length=(8:Nat)/\x.length=(8:Nat))/\∀(i:Nat),i<=(8:Nat)->(∀(j:Nat),j<i->(fun (i:Nat)=>i<(8:Nat)) j)->(i=(8:Nat)->WT st x i=r/\True)/\(False->[(0:Int),(0:Int),(0:Int),(0:Int),(0:Int),(0:Int),(0:Int),(0:Int)]=r/\True)/\(False->False))/\(False->[(0:Int),(0:Int),(0:Int),(0:Int),(0:Int),(0:Int),(0:Int),(0:Int)]=r/\True)/\(False->False))/\
 (False->[(0:Int),(0:Int),(0:Int),(0:Int),(0:Int),(0:Int),(0:Int),(0:Int)]=r/\True)/\(False->False)) (by kernel_rfl) ?_
 try simp only [vcA]
 try simp only [vcB]
 try simp only [vcC]
 subst hm
 have hl:x.length=8:=by rw [hx];exact Q9 hst _
 exact fun i _ _=>⟨fun he=>⟨by kernel_rfl,by rw [he],hst,fun j _ _=>⟨fun hj=>⟨by rw [hj,hx],⟨hst,hl⟩,fun q _ _=>⟨fun hq=>by rw [hq,hr],fun h=>h.elim,fun h=>h⟩⟩,fun h=>h.elim,fun h=>h⟩⟩,fun h=>h.elim,fun h=>h⟩
theorem Z4E (st bl:LI) (h:st.length=8):Zs PP 132 [.agg [.arr .u32 8 st],.agg [.arr .u8 64 bl]] (.agg [.arr .u32 8 (X4 st bl)]) 0 []:=by
 unfold X4
 exact .ev (ZbF st bl _ _) (Zfo YK YG st bl _ _ _ h rfl rfl rfl)
theorem Z3G {st bl:LI} (h:st.length=8):(X4 st bl).length=8:=by simp_all [X4,Z1M,Q9]
end Go.Tk
end
