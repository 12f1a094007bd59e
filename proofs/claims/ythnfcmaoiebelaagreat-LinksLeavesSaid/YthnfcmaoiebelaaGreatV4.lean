/- V: part 4 of an engine (a symbolic evaluator, proved against the model) and of the walk by it. -/
import Derived.Test.YthnfcmaoiebelaaGreatV3
import Derived.OpenShut
import Derived.WideShapes
import Derived.ChangeSlices
import Derived.WalkKit
import Derived.ProofKit
import Derived.Below
import Derived.Handed
import Derived.Carry
set_option linter.unusedVariables false
set_option linter.unusedSimpArgs false
set_option maxRecDepth 100000
set_option maxHeartbeats 0
section
namespace Go.Tk
open IntKind (i64 u8 u32 u64 wrap)
variable {E E':Env} {σ:List Nat} {B:Blk} {r:Value} {args:List AV} {K0:List Blk->List AV->Prop} {nx:Nat} {f:FuncId} {K:KO}
def X5:List Nat->Nat->Option Nat
 | [],_=>none
 | x::_,0=>some x
 | _::r,n+1=>X5 r n
def Xs:List Nat->Nat->Option Nat
 | [],_=>none
 | y::r,x=>match Nat.beq y x with
  | true=>some 0
  | false=>match Xs r x with|some i=>some (i+1)|none=>none
theorem Vh:∀{σ:List Nat} {x i:Nat},Xs σ x=some i->X5 σ i=some x
 | [],_,_,h=>by simp [Xs] at h
 | y::r,x,i,h=>by
  unfold Xs at h
  split at h
  ·grind [J0,X5]
  ·split at h
   ·rename_i j hj
    cases h
    exact (Vh (σ:=r) hj:X5 r _=some x)
   ·cases h
theorem Z0k:∀{σ:List Nat} {x:Nat},Xs σ x=none->x∉σ
 | [],_,_=>by simp
 | y::r,x,h=>by
  unfold Xs at h
  split at h
  ·cases h
  ·rename_i hb
   split at h
   ·cases h
   ·rename_i hj
    intro hm
    rcases J6.1 hm with rfl|hm
    ·simp [Jg] at hb
    ·exact Z0k hj hm
theorem Xl:∀{σ:List Nat} {i x:Nat},X5 σ i=some x->x∈σ
 | [],_,_,h=>by simp [X5] at h
 | y::r,0,x,h=>by simp [X5] at h;simp [h]
 | y::r,i+1,x,h=>Jf _ (Xl (σ:=r) h)
theorem Z82:∀{σ:List Nat} {i:Nat},σ.length<=i->X5 σ i=none
 | [],_,_=>by simp [X5]
 | y::r,0,h=>by simp at h
 | y::r,i+1,h=>by simp at h;exact Z82 (σ:=r) h
def Env.borL (E:Env) (σ:List Nat) (w:World) (t:Bool):Env:=
 ⟨fun y=>match t with|true=>(match X5 σ y with|some x=>E.blk x|none=>none)|false=>none,fun a c=>w.cell? a=some c/\∀x,x∈σ->∀N,E.blk x=some (a.block,N)->False⟩
mutual
def vwV (σ:List Nat) (h:Z7) (t:Bool):Nat->AV->(AV->Prop)->Prop
 | 0,_,_=>False
 | d+1,v,K=>match v with
  | .top=>K .top
  | .bool b=>K (.bool b)
  | .int k n=>K (.int k n)
  | .str s=>K (.str s)
  | .ptr none=>K (.ptr none)
  | .eslice=>K .eslice
  | .fslice=>K .fslice
  | .nilslice=>K .nilslice
  | .map none=>K (.map none)
  | .nilFunc=>K .nilFunc
  | .nilIface=>K .nilIface
  | .pview cs inn=>K (.pview cs inn)
  | .vints k xs len=>K (.vints k xs len)
  | .vrows esz n f len=>K (.vrows esz n f len)
  | .ptr (some p)=>match Xs σ p.blk with
   | some i=>match t with|false=>False|true=>K (.ptr (some ⟨i,p.row,p.sz,p.off,p.inn⟩))
   | none=>match h.get p.blk with
    | some (.flat cs)=>match p.row,Yf p.off cs with
     | 0,some rest=>vwC σ h false d rest fun rest'=>K (.pview rest' p.inn)
     | _,_=>False
    | some (.rows sz n f)=>match Nat.beq sz p.sz with
     | true=>Z5 (p.row<n) (match Yf p.off (f p.row) with
      | some rest=>vwC σ h false d rest fun rest'=>K (.pview rest' p.inn)
      | none=>False)
     | false=>False
    | _=>False
  | .map (some x)=>match Xs σ x,t with
   | some i,true=>K (.map (some i))
   | _,_=>False
  | .nslice p esz len lo=>match Xs σ p.blk with
   | some i=>match t with|false=>False|true=>K (.nslice ⟨i,p.row,p.sz,p.off,p.inn⟩ esz len lo)
   | none=>match h.get p.blk with
    | some (.ints k xs)=>match Nat.beq esz 1 with
     | true=>Z5 (p.tot+len<=xs.length) (K (.vints k ((Ws p.tot xs).take len) len))
     | false=>False
    | some (.rows sz n f)=>match Nat.beq sz esz&&Nat.beq p.off 0&&Nat.beq p.inn 0&&(Nat.beq p.sz esz||Nat.beq p.row 0) with
     | true=>Z5 (p.row+len<=n) ((∀i,i<len->YH (Zp p.row f i)=true)/\K (.vrows esz len (Zp p.row f) len))
     | false=>False
    | some (.flat cs)=>match p.row,Yf p.off cs with
     | 0,some rest=>match Z7Z rest&&Nat.beq esz 1 with
      | true=>match rest with
       | .arr k n xs::_=>match Nat.beq esz 1,Nat.beq p.inn 0&&Nat.beq len n with
        | true,true=>Z5 (xs.length=n) (K (.vints k xs len))
        | true,false=>Z5 (xs.length=n/\p.inn+len<=n) (K (.vints k ((Ws p.inn xs).take len) len))
        | false,_=>False
       | _=>False
      | false=>match Nat.beq p.inn 0,takeC (len*esz) rest with
       | true,some part=>vwC σ h false d part fun part'=>match Q0 part' 0 esz len with
        | true=>K (.vrows esz len (Vo part' 0 esz) len)
        | false=>False
       | _,_=>False
     | _,_=>False
    | _=>False
  | .func (.func g) fs cs=>vwL σ h t d fs fun fs'=>vwL σ h t d cs fun cs'=>K (.func (.func g) fs' cs')
  | .iface T u=>vwV σ h t d u fun u'=>K (.iface T u')
  | .agg cs=>vwC σ h t d cs fun cs'=>K (.agg cs')
  | .tuple vs=>vwL σ h t d vs fun vs'=>K (.tuple vs')
  | _=>False
def vwC (σ:List Nat) (h:Z7) (t:Bool):Nat->List AV->(List AV->Prop)->Prop
 | 0,_,_=>False
 | d+1,l,K=>match l with
  | []=>K []
  | .arr k n xs::r=>vwC σ h t d r fun r'=>K (.arr k n xs::r')
  | v::r=>vwV σ h t d v fun v'=>match v'.isCell with
   | true=>vwC σ h t d r fun r'=>K (v'::r')
   | false=>False
def vwL (σ:List Nat) (h:Z7) (t:Bool):Nat->List AV->(List AV->Prop)->Prop
 | 0,_,_=>False
 | d+1,l,K=>match l with
  | []=>K []
  | v::r=>vwV σ h t d v fun v'=>vwL σ h t d r fun r'=>K (v'::r')
end
theorem Z2p {w:World} {t:Bool} {h:Z7} (he:Emb E h w) (hm:∀x,x∈σ->∃B,h.get x=some B):E.views.le (E.borL σ w t).views:=
 ⟨fun _ _ hq=>by simp [Env.views] at hq,fun a c hi=>⟨he.imm a c hi,fun x hx N hb=>let ⟨B,hB⟩:=hm x hx;he.sep a c x B N hi hB hb⟩⟩
theorem Z2q {w:World} {t:Bool} {h:Z7} (he:Emb E h w) (hm:∀x,x∈σ->∃B,h.get x=some B) {a:Addr} {c:Value} (hi:E.imm a c):(E.borL σ w t).imm a c:=
 ⟨he.imm a c hi,fun x hx N hb=>let ⟨B,hB⟩:=hm x hx;he.sep a c x B N hi hB hb⟩
theorem XF {w:World} {t:Bool} {h:Z7} (he:Emb E h w) (hm:∀x,x∈σ->∃B,h.get x=some B) {y b N o:Nat} (hy:h.get y=some B) (hb:E.blk y=some (b,N)) (hn:Xs σ y=none) {c:Value}
  (hc:w.cell? ⟨b,o,none⟩=some c):(E.borL σ w t).imm ⟨b,o,none⟩ c:=
 ⟨hc,fun x hx N' hbx=>by
  obtain ⟨C,hC⟩:=hm x hx
  have:=he.disj x y C B b N' N hC hy hbx hb
  subst this
  exact Z0k hn hx⟩
theorem X6 {w:World} {x i:Nat} (h:Xs σ x=some i):(E.borL σ w true).blk i=E.blk x:=by
 show (match X5 σ i with|some x=>E.blk x|none=>none)=_
 rw [Vh h]
set_option maxHeartbeats 2000000 in
mutual
theorem Z7d {σ:List Nat} {h:Z7} (hm:∀x,x∈σ->∃B,h.get x=some B):∀(d:Nat) (t:Bool) (v:AV) (K:AV->Prop),vwV σ h t d v K->∃v₀,K v₀/\∀(E:Env) (w:World) (r:Value),Emb E h w->Zb E v r->Zb (E.borL σ w t) v₀ r
 | 0,t,v,K,hl=>by unfold vwV at hl;simp_all
 | d+1,t,v,K,hl=>by
  unfold vwV at hl
  split at hl
  ·exact ⟨_,hl,fun E w r he hv=>.top r⟩
  ·exact ⟨_,hl,fun E w r he hv=>hv.plain rfl⟩
  ·exact ⟨_,hl,fun E w r he hv=>hv.plain rfl⟩
  ·exact ⟨_,hl,fun E w r he hv=>hv.plain rfl⟩
  ·exact ⟨_,hl,fun E w r he hv=>hv.plain rfl⟩
  ·exact ⟨_,hl,fun E w r he hv=>hv.plain rfl⟩
  ·exact ⟨_,hl,fun E w r he hv=>hv.plain rfl⟩
  ·exact ⟨_,hl,fun E w r he hv=>hv.plain rfl⟩
  ·exact ⟨_,hl,fun E w r he hv=>hv.plain rfl⟩
  ·exact ⟨_,hl,fun E w r he hv=>hv.plain rfl⟩
  ·exact ⟨_,hl,fun E w r he hv=>hv.plain rfl⟩
  ·refine ⟨_,hl,fun E w r he hv=> ?_⟩
   cases hv with
   | pview cs inn a vs hc hi=>exact .pview _ _ a vs (hc.mono (Z2p he hm)) (fun j c hj=>Z2q he hm (hi j c hj))
  ·refine ⟨_,hl,fun E w r he hv=> ?_⟩
   cases hv with
   | vintsNil k xs len h1 h2=>exact .vintsNil _ _ _ h1 h2
   | vints k xs len a cap h1 h2 hi=>exact .vints _ _ _ a cap h1 h2 (fun i hi'=>Z2q he hm (hi i hi'))
  ·refine ⟨_,hl,fun E w r he hv=> ?_⟩
   cases hv with
   | vrowsNil esz n f len h1 h2=>exact .vrowsNil _ _ _ _ h1 h2
   | vrows esz n f len a cap g h1 h2 hc hl' hi=>exact .vrows _ _ _ _ a cap g h1 h2 (fun i hi'=>(hc i hi').mono (Z2p he hm)) hl' (fun i j c hi' hj=>Z2q he hm (hi i j c hi' hj))
  ·rename_i p
   split at hl
   ·rename_i ix hmv
    split at hl
    ·simp_all
    ·refine ⟨_,hl,fun E w r he hv=> ?_⟩
     cases hv with
     | ptr p b N hb=>exact .ptr ⟨ix,p.row,p.sz,p.off,p.inn⟩ b N (by rw [X6 hmv];exact hb)
   ·rename_i hmv
    split at hl
    ·rename_i cs hg
     split at hl
     ·rename_i rest hrow hrest
      obtain ⟨rest',hK,hr⟩:=Qg hm d false rest _ hl
      refine ⟨_,hK,fun E w r he hv=> ?_⟩
      cases hv with
      | ptr p b N hb=>
       cases he.own _ _ hg with
       | flat0 cs h0 hn=>rw [hn] at hb;cases hb
       | flat cs b' cells elem fr vs hb' hw hf hc hvs=>
        rw [hb] at hb'
        cases hb'
        have hd:=(ZO _ _ _ _ hrest hc).1
        have e:(⟨b,p.tot,none⟩:Addr)=(⟨b,p.off,none⟩:Addr).add p.inn:=by rw [addr_add];simp [ZQ.tot,hrow]
        rw [e]
        refine .pview _ _ ⟨b,p.off,none⟩ _ (hr E w _ he hd) (fun j c hj=> ?_)
        rw [addr_add]
        grind [XF,Z1m]
     simp_all
    ·rename_i sz n f hg
     split at hl
     ·rename_i hsz
      have hsz:=J0 hsz
      obtain ⟨hrow,hl⟩:=Zf hl
      split at hl
      ·rename_i rest hrest
       obtain ⟨rest',hK,hr⟩:=Qg hm d false rest _ hl
       refine ⟨_,hK,fun E w r he hv=> ?_⟩
       cases hv with
       | ptr p b N hb=>
        cases he.own _ _ hg with
        | rows0 sz n f h0 hn=>omega
        | rows sz n f b' cells elem fr g hb' hw hf hc hlg hvs=>
         rw [hb] at hb'
         cases hb'
         have hd:=(ZO _ _ _ _ hrest (hc _ hrow)).1
         have e:(⟨b,p.tot,none⟩:Addr)=(⟨b,p.row*sz+p.off,none⟩:Addr).add p.inn:=by rw [addr_add];simp [ZQ.tot,hsz]
         rw [e]
         refine .pview _ _ ⟨b,p.row*sz+p.off,none⟩ _ (hr E w _ he hd) (fun j c hj=> ?_)
         rw [addr_add]
         grind [XF,cell_of_heap]
      simp_all
     simp_all
    simp_all
  ·rename_i x
   split at hl
   ·rename_i ix hmv
    refine ⟨_,hl,fun E w r he hv=> ?_⟩
    cases hv with
    | map x b N hb=>exact .map ix b N (by rw [X6 hmv];exact hb)
   ·exact hl.elim
  ·rename_i p esz len lo
   split at hl
   ·rename_i ix hmv
    split at hl
    ·simp_all
    ·refine ⟨_,hl,fun E w r he hv=> ?_⟩
     cases hv with
     | nslice0 p esz len lo a h1 h2=>exact .nslice0 _ _ _ _ a h1 h2
     | nslice p esz len lo b N cap hb h1 h2 h3=>exact .nslice ⟨ix,p.row,p.sz,p.off,p.inn⟩ _ _ _ b N cap (by rw [X6 hmv];exact hb) h1 h2 h3
   ·rename_i hmv
    split at hl
    ·rename_i k xs hg
     split at hl
     ·rename_i hes
      have hes:=J0 hes
      subst hes
      obtain ⟨hle,hK⟩:=Zf hl
      have hlen:((Ws p.tot xs).take len).length=len:=by rw [YW,Ji,Je];omega
      refine ⟨_,hK,fun E w r he hv=> ?_⟩
      cases hv with
      | nslice0 p esz len lo a h1 h2=>
       subst h1
       cases a with
       | none=>exact .vintsNil _ _ _ (by simp) rfl
       | some a=>exact .vints _ _ _ a 0 (by simp) (by simp) (fun i hi=>by simp at hi)
      | nslice p esz len lo b N cap hb h1 h2 h3=>
       refine .vints _ _ _ _ cap (by omega) (by omega) (fun i hi=> ?_)
       rw [hlen] at hi
       rw [addr_add]
       refine XF he hm hg hb hmv ?_
       cases he.own _ _ hg with
       | ints0 k xs h0 hn=>rw [hn] at hb;cases hb
       | ints k xs b' cells elem fr hb' hw hf hvs=>
        rw [hb] at hb'
        cases hb'
        rw [cell_of_heap hw,hvs _ (by omega)]
        congr 2
        rw [YW]
        simp_all
     simp_all
    ·rename_i sz n f hg
     split at hl
     ·rename_i hb
      simp only [J1,JE] at hb
      obtain ⟨⟨⟨q1,q2⟩,q3⟩,q4⟩:=hb
      have q1:=J0 q1
      have q2:=J0 q2
      have q3:=J0 q3
      obtain ⟨hle,hpl,hK⟩:=Zf hl
      refine ⟨_,hK,fun E w r he hv=> ?_⟩
      have htot:p.tot=p.row*sz:=by
       grind [J0,ZQ.tot]
      cases hv with
      | nslice0 p esz len lo a h1 h2=>
       subst h1
       cases a with
       | none=>exact .vrowsNil _ _ _ _ rfl rfl
       | some a=>exact .vrows _ _ _ _ a 0 (fun _=>[]) (by omega) (by omega) (fun i hi=>by omega) (fun i hi=>by omega) (fun i j c hi=>by omega)
      | nslice p esz len lo b N cap hb h1 h2 h3=>
       cases he.own _ _ hg with
       | rows0 sz n f h0 hn=>rw [hn] at hb;cases hb
       | rows sz n f b' cells elem fr g hb' hw hf hc hlg hvs=>
        rw [hb] at hb'
        cases hb'
        refine .vrows _ _ _ _ _ cap (fun i=>g (p.row+i)) (by omega) h1 (fun i hi=> ?_) (fun i hi=>by rw [<-q1];grind) (fun i j c hi hj=> ?_)
        ·have:=hc (p.row+i) (by omega)
         have hp:=hpl i hi
         rw [Wm] at hp⊢
         exact this.plain hp
        ·rw [addr_add]
         refine XF he hm hg hb hmv ?_
         rw [cell_of_heap hw,htot,<-q1]
         have:=hvs (p.row+i) j c (by omega) hj
         rw [JX] at this
         rw [show p.row*sz+(i*sz+j)=p.row*sz+i*sz+j by omega]
         exact this
     simp_all
    ·rename_i cs hg
     split at hl
     ·rename_i rest hrow hrest
      have hbase:∀(E:Env) (w:World) (b N:Nat),Emb E h w->E.blk p.blk=some (b,N)->∃vs,Zo E rest vs/\∀j c,vs[j]? =some c->w.cell? ⟨b,p.off+j,none⟩=some c:=by
       intro E w b N he hb
       cases he.own _ _ hg with
       | flat0 cs h0 hn=>rw [hn] at hb;cases hb
       | flat cs b' cells elem fr vs hb' hw hf hc hvs=>
        rw [hb] at hb'
        cases hb'
        refine ⟨_,(ZO _ _ _ _ hrest hc).1,fun j c hj=> ?_⟩
        rw [JG] at hj
        exact Z1m hvs hw hj
      split at hl
      ·split at hl
       ·rename_i k n xs rest2 harr
        split at hl
        ·rename_i hes hbb
         have hes:=J0 hes
         subst hes
         rw [J1] at hbb
         have e1:=J0 hbb.1
         have e2:=J0 hbb.2
         obtain ⟨hxl,hK⟩:=Zf hl
         refine ⟨_,hK,fun E w r he hv=> ?_⟩
         cases hv with
         | nslice0 p esz len lo a h1 h2=>
          have hx0:xs=[]:=by
           grind
          subst hx0
          subst h1
          cases a with
          | none=>exact .vintsNil _ _ _ rfl rfl
          | some a=>exact .vints _ _ _ a 0 (by simp) (by simp) (fun i hi=>by simp at hi)
         | nslice p esz len lo b N cap hb h1 h2 h3=>
          obtain ⟨vs,hcr,hcell⟩:=hbase E w b N he hb
          obtain ⟨ws,rfl,_⟩:=Zo.cons_arr hcr
          refine .vints _ _ _ _ cap (by omega) (by omega) (fun i hi=> ?_)
          rw [addr_add]
          refine XF he hm hg hb hmv ?_
          have:=hcell i (.int k (xs.getD i 0)) (by
           rw [Ja (by rw [Z9];omega),Zk (by omega)])
          rw [show p.tot+i=p.off+i by simp [ZQ.tot,hrow,e1]]
          exact this
        ·rename_i hes hbb
         have hes:=J0 hes
         subst hes
         obtain ⟨⟨hxl,hle⟩,hK⟩:=Zf hl
         have hlen:((Ws p.inn xs).take len).length=len:=by rw [YW,Ji,Je];omega
         refine ⟨_,hK,fun E w r he hv=> ?_⟩
         cases hv with
         | nslice0 p esz len lo a h1 h2=>
          subst h1
          cases a with
          | none=>exact .vintsNil _ _ _ (by simp) rfl
          | some a=>exact .vints _ _ _ a 0 (by simp) (by simp) (fun i hi=>by simp at hi)
         | nslice p esz len lo b N cap hb h1 h2 h3=>
          obtain ⟨vs,hcr,hcell⟩:=hbase E w b N he hb
          obtain ⟨ws,rfl,_⟩:=Zo.cons_arr hcr
          refine .vints _ _ _ _ cap (by omega) (by omega) (fun i hi=> ?_)
          rw [hlen] at hi
          rw [addr_add]
          refine XF he hm hg hb hmv ?_
          have:=hcell (p.inn+i) (.int k (xs.getD (p.inn+i) 0)) (by
           rw [Ja (by rw [Z9];omega),Zk (by omega)])
          rw [show p.tot+i=p.off+(p.inn+i) by simp [ZQ.tot,hrow];omega]
          rw [this]
          congr 2
          rw [YW]
          simp_all
        simp_all
       simp_all
      ·split at hl
       ·rename_i part hinn hpart
        have hinn:=J0 hinn
        obtain ⟨part',hK,hr⟩:=Qg hm d false part _ hl
        split at hK
        ·rename_i hrows
         refine ⟨_,hK,fun E w r he hv=> ?_⟩
         cases hv with
         | nslice0 p esz len lo a h1 h2=>
          subst h1
          cases a with
          | none=>exact .vrowsNil _ _ _ _ rfl rfl
          | some a=>exact .vrows _ _ _ _ a 0 (fun _=>[]) (by omega) (by omega) (fun i hi=>by omega) (fun i hi=>by omega) (fun i j c hi=>by omega)
         | nslice p esz len lo b N cap hb h1 h2 h3=>
          obtain ⟨vs,hcr,hcell⟩:=hbase E w b N he hb
          have hpr:=(V2 _ _ _ _ hpart hcr).1
          have hpr':=hr E w _ he hpr
          refine .vrows _ _ _ _ _ cap (fun i=>((vs.take (len*esz)).drop (0+i*esz)).take esz) (by omega) h1 (fun i hi=>(X7 (Yx hrows i hi) hpr').1) (fun i hi=>(X7 (Yx hrows i hi) hpr').2) (fun i j c hi hj=> ?_)
          rw [addr_add]
          grind [XF,ZQ.tot]
        simp_all
       simp_all
     simp_all
    simp_all
  ·obtain ⟨fs',hl,h1⟩:=Z2r hm d t _ _ hl
   obtain ⟨cs',hl,h2⟩:=Z2r hm d t _ _ hl
   refine ⟨_,hl,fun E w r he hv=> ?_⟩
   cases hv with
   | func fn first captured fs cs ha hb=>exact .func _ _ _ _ _ (h1 E w _ he ha) (h2 E w _ he hb)
  ·obtain ⟨u',hl,h1⟩:=Z7d hm d t _ _ hl
   refine ⟨_,hl,fun E w r he hv=> ?_⟩
   cases hv with
   | iface T v x hx=>exact .iface _ _ _ (h1 E w _ he hx)
  ·obtain ⟨cs',hl,h1⟩:=Qg hm d t _ _ hl
   refine ⟨_,hl,fun E w r he hv=> ?_⟩
   cases hv with
   | agg cs vs hc=>exact .agg _ _ (h1 E w _ he hc)
  ·obtain ⟨vs',hl,h1⟩:=Z2r hm d t _ _ hl
   refine ⟨_,hl,fun E w r he hv=> ?_⟩
   cases hv with
   | tuple vs rs hc=>exact .tuple _ _ (h1 E w _ he hc)
  simp_all
theorem Qg {σ:List Nat} {h:Z7} (hm:∀x,x∈σ->∃B,h.get x=some B):∀(d:Nat) (t:Bool) (l:List AV) (K:List AV->Prop),vwC σ h t d l K->∃l₀,K l₀/\∀(E:Env) (w:World) (r:List Value),Emb E h w->Zo E l r->Zo (E.borL σ w t) l₀ r
 | 0,t,l,K,hl=>by unfold vwC at hl;simp_all
 | d+1,t,l,K,hl=>by
  unfold vwC at hl
  split at hl
  ·exact ⟨_,hl,fun E w r he hv=>by cases hv;exact .nil⟩
  ·obtain ⟨r',hl,h1⟩:=Qg hm d t _ _ hl
   refine ⟨_,hl,fun E w r he hv=> ?_⟩
   obtain ⟨ws,rfl,ht⟩:=Zo.cons_arr hv
   exact .arr _ _ _ _ _ (h1 E w _ he ht)
  ·rename_i v r hna
   obtain ⟨v',hl,h1⟩:=Z7d hm d t _ _ hl
   split at hl
   ·rename_i hcell
    obtain ⟨r',hl,h2⟩:=Qg hm d t _ _ hl
    refine ⟨_,hl,fun E w q he hv=> ?_⟩
    obtain ⟨c,ws,rfl,q1,q2,q3,q4⟩:=Zo.cons_cell hv (fun k m xs e=>hna k m xs e)
    exact .one _ _ _ _ hcell q2 (h1 E w _ he q3) (h2 E w _ he q4)
   ·exact hl.elim
theorem Z2r {σ:List Nat} {h:Z7} (hm:∀x,x∈σ->∃B,h.get x=some B):∀(d:Nat) (t:Bool) (l:List AV) (K:List AV->Prop),vwL σ h t d l K->∃l₀,K l₀/\∀(E:Env) (w:World) (r:List Value),Emb E h w->Zr E l r->Zr (E.borL σ w t) l₀ r
 | 0,t,l,K,hl=>by unfold vwL at hl;simp_all
 | d+1,t,l,K,hl=>by
  unfold vwL at hl
  split at hl
  ·exact ⟨_,hl,fun E w r he hv=>by cases hv;exact .nil⟩
  ·obtain ⟨v',hl,h1⟩:=Z7d hm d t _ _ hl
   obtain ⟨r',hl,h2⟩:=Z2r hm d t _ _ hl
   refine ⟨_,hl,fun E w q he hv=> ?_⟩
   cases hv with
   | cons v c vs cs ha hb=>exact .cons _ _ _ _ (h1 E w _ he ha) (h2 E w _ he hb)
end
def plainW:AV->Bool
 | .agg cs=>YH cs
 | v=>v.plain
theorem Zb.plainW {v:AV} (h:Zb E v r) (hp:plainW v=true):Zb E' v r:=by
 cases v with
 | agg cs=>cases h with|agg _ vs hc=>exact .agg _ vs (hc.plain hp)
 | _=>exact h.plain hp
def vwB (σ:List Nat) (h:Z7) (d:Nat) (B:Blk) (K:Blk->Prop):Prop:=
 match B with
 | .ints k xs=>K (.ints k xs)
 | .flat cs=>vwC σ h true d cs fun cs'=>match Nat.beq (csz cs') (csz cs) with|true=>K (.flat cs')|false=>False
 | .rows sz n f=>(∀i,i<n->YH (f i)=true)/\K (.rows sz n f)
 | .fmap n kf vf=>(∀i,i<n->plainW (kf i)=true/\plainW (vf i)=true)/\K (.fmap n kf vf)
 | _=>False
theorem Zec {h:Z7} (hm:∀x,x∈σ->∃B,h.get x=some B) {d:Nat} {K:Blk->Prop} (hl:vwB σ h d B K):
  ∃B₀,K B₀/\∀(E:Env) (w:World) (x i:Nat),Emb E h w->Xs σ x=some i->ZZ E w x B->ZZ (E.borL σ w true) w i B₀:=by
 unfold vwB at hl
 split at hl
 ·refine ⟨_,hl,fun E w x i he hi hb=> ?_⟩
  have hq:=X6 (E:=E) (w:=w) hi
  cases hb with
  | ints0 k xs h0 hn=>exact .ints0 _ _ h0 (hq.trans hn)
  | ints k xs b cells elem fr hb hw hf hv=>exact .ints _ _ b cells elem fr (hq.trans hb) hw hf hv
 ·obtain ⟨cs',hl,hr⟩:=Qg hm _ _ _ _ hl
  split at hl
  ·rename_i hz
   have hz:=J0 hz
   refine ⟨_,hl,fun E w x i he hi hb=> ?_⟩
   have hq:=X6 (E:=E) (w:=w) hi
   cases hb with
   | flat0 cs h0 hn=>exact .flat0 _ (hz.trans h0) (hq.trans hn)
   | flat cs b cells elem fr vs hb hw hf hc hv=>exact .flat _ b cells elem fr vs (hq.trans hb) hw hf (hr E w vs he hc) hv
  simp_all
 ·obtain ⟨hp,hl⟩:=hl
  refine ⟨_,hl,fun E w x i he hi hb=> ?_⟩
  have hq:=X6 (E:=E) (w:=w) hi
  cases hb with
  | rows0 sz n f h0 hn=>exact .rows0 _ _ _ h0 (hq.trans hn)
  | rows sz n f b cells elem fr g hb hw hf hc hl hv=>exact .rows _ _ _ b cells elem fr g (hq.trans hb) hw hf (fun i hi=>(hc i hi).plain (hp i hi)) hl hv
 ·obtain ⟨hp,hl⟩:=hl
  refine ⟨_,hl,fun E w x i he hi hb=> ?_⟩
  have hq:=X6 (E:=E) (w:=w) hi
  cases hb with
  | fmap n kf vf b ents clock hb hw hll hk hv hbn=>exact .fmap _ _ _ b ents clock (hq.trans hb) hw hll (fun i e he=>(hk i e he).plainW (hp i (hll▸(J9.1 he).1)).1) (fun i e he=>(hv i e he).plainW (hp i (hll▸(J9.1 he).1)).2) hbn
 simp_all
def Zci (σ:List Nat) (h:Z7) (d:Nat):List Nat->(List Blk->Prop)->Prop
 | [],K=>K []
 | x::r,K=>match h.get x with
  | some B=>vwB σ h d B fun B'=>Zci σ h d r fun Bs=>K (B'::Bs)
  | none=>False
theorem Z83 {σ:List Nat} {h:Z7} (hm:∀x,x∈σ->∃B,h.get x=some B) {d:Nat}:∀(r:List Nat) (K:List Blk->Prop),Zci σ h d r K->
  ∃Bs,K Bs/\Bs.length=r.length/\∀(i x:Nat) (B:Blk),r[i]? =some x->Bs[i]? =some B->∃B',h.get x=some B'/\∀(E:Env) (w:World) (j:Nat),Emb E h w->Xs σ x=some j->ZZ E w x B'->ZZ (E.borL σ w true) w j B
 | [],K,hl=>⟨[],hl,rfl,fun i x B h=>by simp at h⟩
 | y::r,K,hl=>by
  unfold Zci at hl
  split at hl
  ·rename_i B' hB'
   obtain ⟨B₀,hl,hr⟩:=Zec hm hl
   obtain ⟨Bs,hK,hlen,hall⟩:=Z83 hm r _ hl
   refine ⟨B₀::Bs,hK,by simp [hlen],fun i x B h1 h2=> ?_⟩
   match i with
   | 0=>simp at h1 h2;subst h1;subst h2;exact ⟨B',hB',fun E w j he hj hb=>hr E w _ j he hj hb⟩
   | i+1=>exact hall i x B (by simpa using h1) (by simpa using h2)
  ·exact hl.elim
def hasB (h:Z7):List Nat->Bool
 | []=>true
 | x::r=>match h.get x with|some _=>hasB h r|none=>false
theorem Z84 {h:Z7}:∀{σ:List Nat},hasB h σ=true->∀x,x∈σ->∃B,h.get x=some B
 | [],_,x,hx=>by simp at hx
 | y::r,hl,x,hx=>by
  unfold hasB at hl
  split at hl
  ·rename_i B hB
   rcases J6.1 hx with rfl|hx
   ·exact ⟨B,hB⟩
   ·exact Z84 hl x hx
  ·cases hl
def Z3M:List Nat->Bool
 | []=>true
 | x::r=>match Xs r x with|some _=>false|none=>Z3M r
theorem Ua:∀{σ:List Nat},Z3M σ=true->∀(i x:Nat),X5 σ i=some x->Xs σ x=some i
 | [],_,i,x,h=>by simp [X5] at h
 | y::r,hd,0,x,h=>by simp_all [X5,Xs]
 | y::r,hd,i+1,x,h=>by
  unfold Z3M at hd
  split at hd
  ·cases hd
  ·rename_i hn
   have h1:X5 r i=some x:=h
   have h2:=Ua hd i x h1
   have hne:y≠x:=fun e=>Z0k hn (e▸Xl h1)
   simp [Xs,Zs hne,h2]
def frA (σ:List Nat) (h:Z7) (d:Nat) (args:List AV) (K0:List Blk->List AV->Prop):Prop:=
 match hasB h σ&&Z3M σ with
 | true=>Zci σ h d σ fun Bs=>vwL σ h true d args fun a=>K0 Bs a
 | false=>False
theorem Z2s:∀{σ:List Nat} {i:Nat},X5 σ i=σ[i]?
 | [],_=>by simp [X5]
 | x::r,0=>by simp [X5]
 | x::r,i+1=>by simp [X5,Z2s (σ:=r)]
theorem Zed {h:Z7} {d:Nat} (hl:frA σ h d args K0):
  (∀x,x∈σ->∃B,h.get x=some B)/\Z3M σ=true/\∃Bs a,K0 Bs a/\Bs.length=σ.length/\
   (∀(i x:Nat) (B:Blk),X5 σ i=some x->Bs[i]? =some B->∃B',h.get x=some B'/\∀(E:Env) (w:World),Emb E h w->ZZ E w x B'->ZZ (E.borL σ w true) w i B)/\
   ∀(E:Env) (w:World) (r:List Value),Emb E h w->Zr E args r->Zr (E.borL σ w true) a r:=by
 unfold frA at hl
 split at hl
 ·rename_i hc
  rw [J1] at hc
  have hm:=Z84 hc.1
  grind [Z83,Z2r,Z2s,Ua]
 simp_all
def Spec (P:Program) (f:FuncId) (args:List AV) (h0:Z7) (o:Out) (nx:Nat) (bs:List (Nat×Blk)):Prop:=
 ∀(E:Env) (w:World) (rs:List Value),Emb E h0 w->Zr E args rs->Calls P f rs.toArray w fun e w'=>∃E',Evo E h0 w E' ⟨nx,bs⟩ w'/\Q4 E' o e
theorem Z85 {k:Nat} {τ:Ren} {v u:AV} {bs:List (Nat×Blk)} {h0 h:Z7} (hk:k=h0.next) (hl:U2 k τ ⟨1,[(0,v)],⟨nx,bs⟩,[]⟩ ⟨1,[(0,u)],h,[]⟩ True) {E0:Env} {w0 w:World}
  (he0:Emb E0 h0 w0) (hev:Evo E0 h0 w0 E h w) (hr:Zb E u r):∃E',Evo E0 h0 w0 E' ⟨nx,bs⟩ w/\Zb E' v r:=by
 obtain ⟨_,hw⟩:=Xk hl
 have hs:WW E ⟨1,[(0,u)],h,[]⟩ { tmps:= #[r],defers:=[]} w:=by
  refine ⟨hev.emb,⟨rfl,fun x v' hx=> ?_⟩,.nil⟩
  simp only [ZC] at hx
  split at hx
  all_goals simp_all
 obtain ⟨E₂,hs2,hev2⟩:=hw E0 h0 w0 E _ w (fun x hx=>he0.fresh x (hk▸hx)) hs hev
 refine ⟨E₂,hev2, ?_⟩
 have:=hs2.tmps.get 0 v (by simp [ZC])
 simp_all
def mvN:List Nat->Nat->Nat->Nat
 | [],d,y=>d+y
 | x::_,_,0=>x
 | _::r,d,y+1=>mvN r d y
theorem Z7e:∀{σ:List Nat} {d y x:Nat},X5 σ y=some x->mvN σ d y=x
 | [],_,_,_,h=>by simp [X5] at h
 | x::r,d,0,_,h=>by simpa [X5,mvN] using h
 | x::r,d,y+1,_,h=>Z7e (σ:=r) h
theorem Z7f:∀{σ:List Nat} {d y:Nat},σ.length<=y->mvN σ d y=d+(y-σ.length)
 | [],d,y,_=>by simp [mvN]
 | x::r,d,0,h=>by simp at h
 | x::r,d,y+1,h=>by
  simp at h
  have:=Z7f (σ:=r) (d:=d) h
  simp [mvN,this]
theorem Qh:∀{σ:List Nat} {y:Nat},y<σ.length->∃x,X5 σ y=some x
 | [],_,h=>by simp at h
 | x::r,0,_=>⟨x,rfl⟩
 | x::r,y+1,h=>Qh (σ:=r) (by simp_all)
mutual
/-- Names moved. -/
def mvV (σ:List Nat) (d:Nat):AV->Option AV
 | .top=>some .top
 | .bool b=>some (.bool b)
 | .int k n=>some (.int k n)
 | .str s=>some (.str s)
 | .ptr none=>some (.ptr none)
 | .ptr (some p)=>some (.ptr (some ⟨mvN σ d p.blk,p.row,p.sz,p.off,p.inn⟩))
 | .nslice p esz len lo=>some (.nslice ⟨mvN σ d p.blk,p.row,p.sz,p.off,p.inn⟩ esz len lo)
 | .eslice=>some .eslice
 | .fslice=>some .fslice
 | .nilslice=>some .nilslice
 | .map none=>some (.map none)
 | .map (some x)=>some (.map (some (mvN σ d x)))
 | .nilFunc=>some .nilFunc
 | .nilIface=>some .nilIface
 | .func (.func g) fs cs=>match mvL σ d fs,mvL σ d cs with
  | some fs',some cs'=>some (.func (.func g) fs' cs')
  | _,_=>none
 | .iface t v=>match mvV σ d v with|some v'=>some (.iface t v')|none=>none
 | .agg cs=>match mvC σ d cs with|some cs'=>some (.agg cs')|none=>none
 | .tuple vs=>match mvL σ d vs with|some vs'=>some (.tuple vs')|none=>none
 | _=>none
def mvC (σ:List Nat) (d:Nat):List AV->Option (List AV)
 | []=>some []
 | .arr k n xs::r=>match mvC σ d r with|some r'=>some (.arr k n xs::r')|none=>none
 | v::r=>match mvV σ d v,mvC σ d r with
  | some v',some r'=>match v'.isCell with|true=>some (v'::r')|false=>none
  | _,_=>none
def mvL (σ:List Nat) (d:Nat):List AV->Option (List AV)
 | []=>some []
 | v::r=>match mvV σ d v,mvL σ d r with
  | some v',some r'=>some (v'::r')
  | _,_=>none
end
theorem Z0l {v:AV} (h:v.isCell=true) (r:List AV):csz (v::r)=1+csz r:=by
 cases v<;>simp_all [AV.isCell,csz]
set_option maxHeartbeats 1000000 in
mutual
theorem Z2t {σ:List Nat} {d:Nat} {E E':Env} (hb:∀x r,E.blk x=some r->E'.blk (mvN σ d x)=some r):∀(v v':AV) (r:Value),mvV σ d v=some v'->Zb E v r->Zb E' v' r:=by
 intro v v' r h hv
 unfold mvV at h
 split at h
 ·cases h;exact .top r
 ·cases h;exact hv.plain rfl
 ·cases h;exact hv.plain rfl
 ·cases h;exact hv.plain rfl
 ·cases h;exact hv.plain rfl
 ·cases h
  cases hv with
  | ptr p b N hq=>exact .ptr ⟨mvN σ d _,_,_,_,_⟩ b N (hb _ _ hq)
 ·cases h
  cases hv with
  | nslice0 p esz len lo a h1 h2=>exact .nslice0 _ _ _ _ a h1 h2
  | nslice p esz len lo b N cap hq h1 h2 h3=>exact .nslice ⟨mvN σ d _,_,_,_,_⟩ _ _ _ b N cap (hb _ _ hq) h1 h2 h3
 ·cases h;exact hv.plain rfl
 ·cases h;exact hv.plain rfl
 ·cases h;exact hv.plain rfl
 ·cases h;exact hv.plain rfl
 ·cases h
  cases hv with
  | map x b N hq=>exact .map _ b N (hb _ _ hq)
 ·cases h;exact hv.plain rfl
 ·cases h;exact hv.plain rfl
 ·split at h
  ·rename_i fs' cs' h1 h2
   cases h
   cases hv with
   | func fn first captured fs cs ha hc=>exact .func _ _ _ _ _ (Z0m hb _ _ _ h1 ha) (Z0m hb _ _ _ h2 hc)
  ·cases h
 ·split at h
  ·rename_i v1 h1
   cases h
   cases hv with
   | iface t v x hx=>exact .iface _ _ _ (Z2t hb _ _ _ h1 hx)
  ·cases h
 ·split at h
  ·rename_i cs' h1
   cases h
   cases hv with
   | agg cs vs hc=>exact .agg _ _ (Z2u hb _ _ _ h1 hc).1
  ·cases h
 ·split at h
  ·rename_i vs' h1
   cases h
   cases hv with
   | tuple vs rs hc=>exact .tuple _ _ (Z0m hb _ _ _ h1 hc)
  ·cases h
 ·cases h
theorem Z2u {σ:List Nat} {d:Nat} {E E':Env} (hb:∀x r,E.blk x=some r->E'.blk (mvN σ d x)=some r):∀(l l':List AV) (r:List Value),mvC σ d l=some l'->Zo E l r->Zo E' l' r/\csz l'=csz l:=by
 intro l l' r h hv
 unfold mvC at h
 split at h
 ·cases h;cases hv;exact ⟨.nil,rfl⟩
 ·split at h
  ·rename_i r' h1
   cases h
   obtain ⟨ws,rfl,ht⟩:=Zo.cons_arr hv
   have:=Z2u hb _ _ _ h1 ht
   exact ⟨.arr _ _ _ _ _ this.1,by simp [csz,this.2]⟩
  ·cases h
 ·rename_i v r2 hna
  split at h
  ·rename_i v1 r1 h1 h2
   split at h
   ·rename_i hcell
    cases h
    obtain ⟨c,ws,rfl,q1,q2,q3,q4⟩:=Zo.cons_cell hv (fun k m xs e=>hna k m xs e)
    have:=Z2u hb _ _ _ h2 q4
    exact ⟨.one _ _ _ _ hcell q2 (Z2t hb _ _ _ h1 q3) this.1,by rw [Z0l hcell,Z0l q1,this.2]⟩
   ·cases h
  ·cases h
theorem Z0m {σ:List Nat} {d:Nat} {E E':Env} (hb:∀x r,E.blk x=some r->E'.blk (mvN σ d x)=some r):∀(l l':List AV) (r:List Value),mvL σ d l=some l'->Zr E l r->Zr E' l' r:=by
 intro l l' r h hv
 unfold mvL at h
 split at h
 ·cases h;cases hv;exact .nil
 ·split at h
  ·rename_i v1 r1 h1 h2
   cases h
   cases hv with
   | cons v c vs cs ha hc=>exact .cons _ _ _ _ (Z2t hb _ _ _ h1 ha) (Z0m hb _ _ _ h2 hc)
  ·cases h
end
theorem Zcj {d:Nat}:∀(l l':List AV),mvC σ d l=some l'->csz l'=csz l:=by
 intro l
 induction l with
 | nil=>intro l' h;unfold mvC at h;simp_all
 | cons v r ih=>
  intro l' h
  unfold mvC at h
  grind [csz,Z0l]
inductive MvB (σ:List Nat) (d:Nat):Blk->Blk->Prop
 | ints (k:IntKind) (xs:LI):MvB σ d (.ints k xs) (.ints k xs)
 | flat (cs cs':List AV) (h:mvC σ d cs=some cs'):MvB σ d (.flat cs) (.flat cs')
 | rows (sz n:Nat) (f:Nat->List AV) (h:∀i,i<n->YH (f i)=true):MvB σ d (.rows sz n f) (.rows sz n f)
 | rowsM (sz n:Nat) (f f':Nat->List AV) (h:∀i,i<n->mvC σ d (f i)=some (f' i)):MvB σ d (.rows sz n f) (.rows sz n f')
 | pmap (es es':List (AV×AV)) (h1:mvL σ d (es.map (·.1))=some (es'.map (·.1))) (h2:mvL σ d (es.map (·.2))=some (es'.map (·.2))):MvB σ d (.pmap es) (.pmap es')
 | fmap (n:Nat) (kf vf:Nat->AV) (h:∀i,i<n->plainW (kf i)=true/\plainW (vf i)=true):MvB σ d (.fmap n kf vf) (.fmap n kf vf)
inductive Z7g (σ:List Nat) (d:Nat):List (Nat×Blk)->List (Nat×Blk)->Prop
 | nil:Z7g σ d [] []
 | cons (y x:Nat) (B B':Blk) (r r':List (Nat×Blk)) (hx:mvN σ d y=x) (h:MvB σ d B B') (t:Z7g σ d r r'):Z7g σ d ((y,B)::r) ((x,B')::r')
inductive MvO (σ:List Nat) (d:Nat):Out->Out->Prop
 | ret (v v':AV) (h:mvV σ d v=some v'):MvO σ d (.ret v) (.ret v')
 | panic (v v':AV) (h:mvV σ d v=some v'):MvO σ d (.panic v) (.panic v')
theorem Z7g.get {d:Nat}:∀{bs bs':List (Nat×Blk)},Z7g σ d bs bs'->∀x B',Zz bs' x=some B'->∃y B,mvN σ d y=x/\Zz bs y=some B/\MvB σ d B B'
 | _,_,.nil,x,B',h=>by simp [Zz] at h
 | _,_,.cons y x0 B B0 r r' hx hm t,x,B',h=>by
  unfold Zz at h
  split at h
  ·grind [J0,Zz,Jg]
  ·obtain ⟨z,C,h1,h2,h3⟩:=t.get x B' h
   grind [Jg,Zz,Zs]
theorem MvB.move {d:Nat} {B':Blk} (hm:MvB σ d B B') {w:World} {y:Nat} (hb:∀x r,E.blk x=some r->E'.blk (mvN σ d x)=some r) (hn:E.blk y=none->E'.blk (mvN σ d y)=none) (h:ZZ E w y B):ZZ E' w (mvN σ d y) B':=by
 cases hm with
 | ints k xs=>cases h with
  | ints0 k xs h0 hq=>exact .ints0 _ _ h0 (hn hq)
  | ints k xs b cells elem fr hq hw hf hv=>exact .ints _ _ b cells elem fr (hb _ _ hq) hw hf hv
 | flat cs cs' hc=>cases h with
  | flat0 cs h0 hq=>exact .flat0 _ ((Zcj _ _ hc).trans h0) (hn hq)
  | flat cs b cells elem fr vs hq hw hf hcr hv=>exact .flat _ b cells elem fr vs (hb _ _ hq) hw hf (Z2u hb _ _ _ hc hcr).1 hv
 | rows sz n f hp=>cases h with
  | rows0 sz n f h0 hq=>exact .rows0 _ _ _ h0 (hn hq)
  | rows sz n f b cells elem fr g hq hw hf hcr hl hv=>exact .rows _ _ _ b cells elem fr g (hb _ _ hq) hw hf (fun i hi=>(hcr i hi).plain (hp i hi)) hl hv
 | rowsM sz n f f' hp=>cases h with
  | rows0 sz n f h0 hq=>exact .rows0 _ _ _ h0 (hn hq)
  | rows sz n f b cells elem fr g hq hw hf hcr hl hv=>exact .rows _ _ _ b cells elem fr g (hb _ _ hq) hw hf (fun i hi=>(Z2u hb _ _ _ (hp i hi) (hcr i hi)).1) hl hv
 | pmap es es' h1 h2=>cases h with
  | pmap es b k ents ents' clock hq hw hpp hnn hi hk hv=>exact .pmap _ b k ents ents' clock (hb _ _ hq) hw hpp hnn hi (Z0m hb _ _ _ h1 hk) (Z0m hb _ _ _ h2 hv)
 | fmap n kf vf hp=>cases h with
  | fmap n kf vf b ents clock hq hw hll hk hv hbn=>exact .fmap _ _ _ b ents clock (hb _ _ hq) hw hll (fun i e he=>(hk i e he).plainW (hp i (hll▸(J9.1 he).1)).1) (fun i e he=>(hv i e he).plainW (hp i (hll▸(J9.1 he).1)).2) hbn
def Uy (σ:List Nat) (bs:List (Nat×Blk)):List (Nat×Blk):=match σ with
 | []=>bs
 | x::r=>Uy r (YF bs x)
theorem Z0M:∀{σ:List Nat} {bs:List (Nat×Blk)} {x:Nat} {B:Blk},Zz (Uy σ bs) x=some B->Zz bs x=some B/\x∉σ
 | [],bs,x,B,h=>⟨h,by simp⟩
 | y::r,bs,x,B,h=>by
  obtain ⟨h1,h2⟩:=Z0M (σ:=r) h
  by_cases hn:y=x
  all_goals simp_all [UJ,Wp,Ne.symm]
theorem Spec.calls {P:Program} {args₀:List AV} {Bs:List Blk} {o o':Out} {bs bs':List (Nat×Blk)} {h:Z7} (hc:Spec P f args₀ ⟨σ.length,Wc 0 σ Bs⟩ o nx bs)
  (hlen:Bs.length=σ.length) (hm:∀x,x∈σ->∃B,h.get x=some B) (hd:Z3M σ=true)
  (hx:∀(i x:Nat) (B:Blk),X5 σ i=some x->Bs[i]? =some B->∃B',h.get x=some B'/\∀(E:Env) (w:World),Emb E h w->ZZ E w x B'->ZZ (E.borL σ w true) w i B)
  (ha:∀(E:Env) (w:World) (r:List Value),Emb E h w->Zr E args r->Zr (E.borL σ w true) args₀ r)
  (hnx:σ.length<=nx) (ho:MvO σ h.next o o') (hb:Z7g σ h.next bs bs') (hK:K o' ⟨h.next+(nx-σ.length),U6 bs' (Uy σ h.bs)⟩):Zi P f args h K:=by
 intro E w rs he hr
 let E0:=E.borL σ w true
 have hsub:∀i x,X5 σ i=some x->E0.blk i=E.blk x:=fun i x hi=>by
  show (match X5 σ i with|some x=>E.blk x|none=>none)=_
  rw [hi]
 have hnone:∀i,σ.length<=i->E0.blk i=none:=fun i hi=>by
  show (match X5 σ i with|some x=>E.blk x|none=>none)=_
  rw [Z82 hi]
 have hσlt:∀x,x∈σ->x<h.next:=fun x hx=>let ⟨B,hB⟩:=hm x hx;he.lt x B hB
 have hsb:∀y B,Zz (Wc 0 σ Bs) y=some B->∃x,X5 σ y=some x/\Bs[y]? =some B:=fun y B hy=>by
  obtain ⟨i,x,rfl,h1,h2⟩:=XD σ Bs 0 y B hy
  rw [Jm]
  exact ⟨x,by rw [Z2s];exact h1,h2⟩
 have hinj:∀y z x,X5 σ y=some x->X5 σ z=some x->y=z:=fun y z x h1 h2=>by
  have a:=Ua hd y x h1
  have b:=Ua hd z x h2
  rw [a] at b
  simp_all
 have hemb:Emb E0 ⟨σ.length,Wc 0 σ Bs⟩ w:=by
  refine ⟨hnone, ?_, ?_, ?_,fun _ _ h=>h.1, ?_⟩
  ·intro y B hy
   obtain ⟨x,h1,_⟩:=hsb y B hy
   grind
  ·intro y B hy
   obtain ⟨x,h1,h2⟩:=hsb y B hy
   obtain ⟨B',hB',hq⟩:=hx y x B h1 h2
   exact hq E w he (he.own x B' hB')
  ·intro y z B C b N N' hy hz hby hbz
   obtain ⟨x,h1,h2⟩:=hsb y B hy
   obtain ⟨x',h3,h4⟩:=hsb z C hz
   rw [hsub y x h1] at hby
   rw [hsub z x' h3] at hbz
   obtain ⟨B',hB'⟩:=hm x (Xl h1)
   obtain ⟨C',hC'⟩:=hm x' (Xl h3)
   have:=he.disj x x' B' C' b N N' hB' hC' hby hbz
   grind
  ·intro a c y B N hi hy hbb
   obtain ⟨x,h1,_⟩:=hsb y B hy
   rw [hsub y x h1] at hbb
   exact hi.2 x (Xl h1) N hbb
 refine (hc E0 w rs hemb (ha E w rs he hr)).mono ?_
 rintro e w' ⟨E₁,hev,hor⟩
 let E':Env:=⟨fun x=>match Xs σ x with
  | some i=>E₁.blk i
  | none=>if x<h.next then E.blk x else E₁.blk (x-h.next+σ.length),E.imm⟩
 have hρ:∀y,E'.blk (mvN σ h.next y)=E₁.blk y:=fun y=>by
  rcases Jh y σ.length with hlt|hge
  ·obtain ⟨x,hx'⟩:=Qh hlt
   rw [Z7e hx']
   show (match Xs σ x with|some i=>_|none=>_)=_
   rw [Ua hd y x hx']
  ·rw [Z7f hge]
   have hn:Xs σ (h.next+(y-σ.length))=none:=by
    cases hq:Xs σ (h.next+(y-σ.length)) with
    | none=>rfl
    | some i=>have:=hσlt _ (Xl (Vh hq));omega
   grind
 have hold:∀x,x<h.next->Xs σ x=none->E'.blk x=E.blk x:=fun x hx hn=>by
  grind
 have hfresh:∀x,E.blk x≠none->x<h.next:=fun x hx=>by
  rcases Jh x h.next with hl|hg
  ·exact hl
  ·exact absurd (he.fresh x hg) hx
 have hle:E.le E':=⟨fun x q hq=>by
  cases hi:Xs σ x with
  | some i=>
   show (match Xs σ x with|some i=>_|none=>_)=_
   rw [hi]
   exact hev.le.blk i q ((hsub i x (Vh hi)).trans hq)
  | none=>rw [hold x (hfresh x (by rw [hq];simp)) hi];exact hq,fun _ _ h=>h⟩
 have hown0:∀b,YI E0 ⟨σ.length,Wc 0 σ Bs⟩ b->∃x N,x∈σ/\E.blk x=some (b,N):=fun b ⟨y,B,N,hy,hbb⟩=>by
  obtain ⟨x,h1,_⟩:=hsb y B hy
  grind [Xl]
 have hkeep:∀b,b<w.heap.size->(∀x N,x∈σ->E.blk x=some (b,N)->False)->w'.heap[b]? =w.heap[b]?:=fun b hb hn=>hev.keep b hb (fun ho=>let ⟨x,N,h1,h2⟩:=hown0 b ho;hn x N h1 h2)
 have hget:∀x B',Z7.get ⟨h.next+(nx-σ.length),U6 bs' (Uy σ h.bs)⟩ x=some B'->
   (∃y B,mvN σ h.next y=x/\Zz bs y=some B/\MvB σ h.next B B')\/(x<h.next/\x∉σ/\h.get x=some B'):=fun x B' hx=>by
  simp only [Z7.get,Z3E] at hx
  split at hx
  ·rename_i B0 hq
   cases hx
   exact .inl (hb.get x _ hq)
  ·obtain ⟨h1,h2⟩:=Z0M hx
   exact .inr ⟨he.lt x B' h1,h2,h1⟩
 have hni:∀x,x∉σ->Xs σ x=none:=fun x hx=>by
  cases hq:Xs σ x with
  | none=>rfl
  | some i=>exact absurd (Xl (Vh hq)) hx
 have hmix:∀y B z C b N N',Zz bs y=some B->E₁.blk y=some (b,N)->z∉σ->h.get z=some C->E.blk z=some (b,N')->False:=fun y B z C b N N' hy hby hz hz' hbz=>by
  rcases hev.own b ⟨y,B,N,hy,hby⟩ with ho|hs
  ·obtain ⟨x,M,h1,h2⟩:=hown0 b ho
   obtain ⟨D,hD⟩:=hm x h1
   have:=he.disj x z D C b M N' hD hz' h2 hbz
   subst this
   exact hz h1
  ·have:=(he.own z C hz').lt hbz
   omega
 have himm0:∀a c,E.imm a c->E0.imm a c:=fun a c hi=>⟨he.imm a c hi,fun x hx N hbb=>let ⟨B,hB⟩:=hm x hx;he.sep a c x B N hi hB hbb⟩
 have hemb':Emb E' ⟨h.next+(nx-σ.length),U6 bs' (Uy σ h.bs)⟩ w':=by
  refine ⟨?_, ?_, ?_, ?_, ?_, ?_⟩
  ·intro x hx
   have hx':h.next+(nx-σ.length)<=x:=hx
   have hn:Xs σ x=none:=hni x (fun hq=>by have:=hσlt x hq;omega)
   show (match Xs σ x with|some i=>_|none=>_)=_
   rw [hn]
   show (if _ then _ else _)=_
   rw [if_neg (by omega)]
   exact hev.emb.fresh _ (by show nx<=_;omega)
  ·intro x B hx
   show x<h.next+(nx-σ.length)
   rcases hget x B hx with ⟨y,B0,rfl,hy,_⟩|⟨hlt,_,_⟩
   ·have hyn:y<nx:=hev.emb.lt y B0 hy
    rcases Jh y σ.length with hlt|hge
    ·obtain ⟨x,hx'⟩:=Qh hlt
     rw [Z7e hx']
     have:=hσlt x (Xl hx')
     omega
    ·rw [Z7f hge]
     omega
   ·omega
  ·intro x B hx
   rcases hget x B hx with ⟨y,B0,rfl,hy,hmv⟩|⟨hlt,hnσ,hx'⟩
   ·exact hmv.move (E:=E₁) (fun x r hq=>by rw [hρ];exact hq) (fun hq=>by rw [hρ];exact hq) (hev.emb.own y B0 hy)
   ·have h1:=(he.own x B hx').mono hle (fun hn=>by rw [hold x hlt (hni x hnσ)];exact hn)
    refine h1.congr fun b N hbb=> ?_
    rw [hold x hlt (hni x hnσ)] at hbb
    refine hkeep b ((he.own x B hx').lt hbb) fun z M hz hbz=> ?_
    obtain ⟨D,hD⟩:=hm z hz
    have:=he.disj x z B D b N M hx' hD hbb hbz
    subst this
    exact hnσ hz
  ·intro x z B C b N N' hx hz hbx hbz
   rcases hget x B hx with ⟨y,B0,rfl,hy,hmv⟩|⟨hlt,hnσ,hx'⟩<;>rcases hget z C hz with ⟨y',C0,rfl,hy',hmv'⟩|⟨hlt',hnσ',hz'⟩
   ·rw [hρ] at hbx hbz
    rw [hev.emb.disj y y' B0 C0 b N N' hy hy' hbx hbz]
   ·rw [hρ] at hbx
    rw [hold z hlt' (hni z hnσ')] at hbz
    exact (hmix y B0 z C b N N' hy hbx hnσ' hz' hbz).elim
   ·rw [hρ] at hbz
    rw [hold x hlt (hni x hnσ)] at hbx
    exact (hmix y' C0 x B b N' N hy' hbz hnσ hx' hbx).elim
   ·rw [hold x hlt (hni x hnσ)] at hbx
    rw [hold z hlt' (hni z hnσ')] at hbz
    exact he.disj x z B C b N N' hx' hz' hbx hbz
  ·intro a c hi
   exact hev.emb.imm a c (hev.le.imm a c (himm0 a c hi))
  ·intro a c x B N hi hx hbx
   rcases hget x B hx with ⟨y,B0,rfl,hy,hmv⟩|⟨hlt,hnσ,hx'⟩
   ·rw [hρ] at hbx
    exact hev.emb.sep a c y B0 N (hev.le.imm a c (himm0 a c hi)) hy hbx
   ·rw [hold x hlt (hni x hnσ)] at hbx
    exact he.sep a c x B N hi hx' hbx
 refine ⟨E',o',_,hK,⟨hle,hemb',hev.size,hev.os,hev.tape,hev.output,fun b hb' hno=>hkeep b hb' (fun x N hx hbx=> ?_), ?_,fun _ _ h=>h⟩, ?_⟩
 ·obtain ⟨B,hB⟩:=hm x hx
  exact hno ⟨x,B,N,hB,hbx⟩
 ·rintro b ⟨x,B,N,hx,hbx⟩
  rcases hget x B hx with ⟨y,B0,rfl,hy,hmv⟩|⟨hlt,hnσ,hx'⟩
  ·rw [hρ] at hbx
   rcases hev.own b ⟨y,B0,N,hy,hbx⟩ with ho|hs
   ·obtain ⟨z,M,h1,h2⟩:=hown0 b ho
    obtain ⟨D,hD⟩:=hm z h1
    exact .inl ⟨z,D,M,hD,h2⟩
   ·exact .inr hs
  ·rw [hold x hlt (hni x hnσ)] at hbx
   exact .inl ⟨x,B,N,hx',hbx⟩
 ·cases ho with
  | ret v v' hv=>cases hor with
   | ret v r hr=>exact .ret _ _ (Z2t (fun x q hq=>by rw [hρ];exact hq) _ _ _ hv hr)
  | panic v v' hv=>cases hor with
   | panic v r hr=>exact .panic _ _ (Z2t (fun x q hq=>by rw [hρ];exact hq) _ _ _ hv hr)
theorem Spec.fsumm {P:Program} {h:Z7} {d:Nat} (hl:frA σ h d args K0)
  (hK:∀Bs a₀,Bs.length=σ.length->K0 Bs a₀->∃o nx bs o' bs',Spec P f a₀ ⟨σ.length,Wc 0 σ Bs⟩ o nx bs/\σ.length<=nx/\MvO σ h.next o o'/\Z7g σ h.next bs bs'/\K o' ⟨h.next+(nx-σ.length),U6 bs' (Uy σ h.bs)⟩):Zi P f args h K:=by
 obtain ⟨hm,hd,Bs,a,hK0,hlen,hx,ha⟩:=Zed hl
 grind [Spec.calls]
end Go.Tk
end
section
namespace Go.Tk
open IntKind (i64 u8 u32 u64 wrap)
def YC (id n l:Nat) (go ex re jm:Nat->Prop) (En Rn Jn:Nat->St):KE->Prop:=fun X=>
 ∀i,i<=n->(∀j,j<i->go j)->(ex i->X (.exit id) (En i))/\(re i->X .ret (Rn i))/\(jm i->X (.goto l) (Jn i))
theorem Uz {p x:Prop} [Decidable p]:Z8 (decide p) x False=(p/\x):=by
 by_cases h:p
 all_goals simp_all [Z8]
theorem Zck {p x:Prop} [Decidable p]:Z8 (decide p) False x=(¬p/\x):=by
 by_cases h:p
 all_goals simp_all [Z8]
theorem Z86 {p x y:Prop} [Decidable p]:Z8 (decide p) x y=((p->x)/\(¬p->y)):=by
 by_cases h:p
 all_goals simp_all [Z8]
theorem Z87 {b:Bool} {x:Prop}:Z8 b x False=(b=true/\x):=by cases b<;>simp [Z8]
theorem Zcl {b:Bool} {x:Prop}:Z8 b False x=(b=false/\x):=by cases b<;>simp [Z8]
theorem Zcm {b:Bool} {x y:Prop}:Z8 b x y=((b=true->x)/\(b=false->y)):=by cases b<;>simp [Z8]
def Z0 (b:Bool) (x:Prop):Prop:=Z8 b x False
theorem vcA:(∀(p x:Prop) [Decidable p],Z8 (decide p) x False=(p/\x))/\(∀(p x:Prop) [Decidable p],Z5 p x=(p/\x))/\(∀(p x:Prop) [Decidable p],Z0 (decide p) x=(p/\x))/\∀(p x:Prop) [Decidable p],Z8 (decide p) False x=(¬p/\x):=
 ⟨fun _ _ _=>Uz,fun _ _ _=>Uz,fun _ _ _=>Uz,fun _ _ _=>Zck⟩
theorem vcB:(∀(p x y:Prop) [Decidable p],Z8 (decide p) x y=((p->x)/\(¬p->y)))/\(∀(b:Bool) (x:Prop),Z8 b x False=(b=true/\x))/\(∀(b:Bool) (x:Prop),Z0 b x=(b=true/\x))/\∀(b:Bool) (x:Prop),Z8 b False x=(b=false/\x):=
 ⟨fun _ _ _ _=>Z86,fun _ _=>Z87,fun _ _=>Z87,fun _ _=>Zcl⟩
theorem Zhi:(∀(p x:Prop) [Decidable p],Z8 (decide p) x False=(p/\x))/\(∀(p x:Prop) [Decidable p],Z5 p x=(p/\x))/\(∀(p x:Prop) [Decidable p],Z0 (decide p) x=(p/\x))/\(∀(b:Bool) (x:Prop),Z0 b x=Z8 b x False):=
 ⟨fun _ _ _=>Uz,fun _ _ _=>Uz,fun _ _ _=>Uz,fun _ _=>rfl⟩
theorem Zhj:∀(p x y:Prop) [Decidable p],Z8 (decide p) x y=((p->x)/\(¬p->y)):=fun _ _ _ _=>Z86
theorem vcC:(∀(b:Bool) (x y:Prop),Z8 b x y=((b=true->x)/\(b=false->y)))/\(∀n:Nat,((n:Int)).toNat=n)/\(∀n:Nat,0+n=n)/\(∀p:Prop,(True/\p)=p)/\(∀p:Prop,(p/\True)=p)/\∀n:Nat,(n<=n)=True:=
 ⟨fun _ _ _=>Zcm,JS,Jm,true_and,and_true,fun n=>eq_true (J2 n)⟩
theorem Z9d {k:Nat} {τ:Ren} {v:AV} (hp:v.plain=true) (hc:v.isCell=true) {Z:Prop} (hZ:Z):eqV k τ v v Z:=by
 cases v with
 | ptr p=>cases p<;>simp_all [AV.plain,eqV]
 | map r=>cases r<;>simp_all [AV.plain,eqV]
 | _=>simp_all [AV.plain,eqV,Uk,AV.isCell]
theorem Z0n {k:Nat} {τ:Ren}:∀{l:List AV},YH l=true->∀{Z:Prop},Z->(∀v∈l,v.isCell=true\/∃k n xs,v=.arr k n xs)->eqC k τ l l Z
 | [],_,Z,hZ,_=>by simp [eqC,hZ]
 | v::r,hp,Z,hZ,hc=>by
  simp only [YH,J1] at hp
  have hr:=Z0n (k:=k) (τ:=τ) hp.2 hZ (fun u hu=>hc u (Jf _ hu))
  rcases hc v (by simp) with hv|⟨kk,n,xs,rfl⟩
  ·have hna:∀a b c,v≠.arr a b c:=fun a b c e=>by subst e;simp [AV.isCell] at hv
   simp_all [eqC,Z9d]
  ·unfold eqC
   simp_all
theorem Z3N {k:Nat} {τ:Ren} {n:Nat} {f f':Nat->List AV} (h:∀i,i<n->f' i=f i) (hp:∀i,i<n->YH (f i)=true) (hc:∀i,i<n->∀v∈f i,v.isCell=true\/∃k n xs,v=.arr k n xs):Z6 k τ n f f':=
 ⟨fun i hi=>by rw [h i hi];exact Z0n (hp i hi) trivial (hc i hi)⟩
theorem Yt {a b:Nat} (h:a<b):Nat.blt a b=true:=by rw [Nat.blt_eq];exact h
theorem Xm {a b:Nat} (h:Nat.blt a b=true):a<b:=by rw [Nat.blt_eq] at h;exact h
theorem Z88 {n i:Nat} {f g:Nat->List AV} (h:i<n):Xc n f g i=f i:=by unfold Xc;rw [Yt h]
theorem Z89 {n i:Nat} {f g:Nat->List AV} (h:n<=i):Xc n f g i=g (i-n):=by
 unfold Xc
 have:Nat.blt i n=false:=by
  cases hq:Nat.blt i n with
  | false=>rfl
  | true=>have:=Xm hq;omega
 rw [this]
theorem Ya.vints0 {P:Program} {f:FuncId} {k:IntKind} {v:AV} {nx:Nat} {bs:List (Nat×Blk)} (h1:Ya P f [.nilslice] v nx bs) (h2:Ya P f [.fslice] v nx bs):Ya P f [.vints k [] 0] v nx bs:=by
 intro E w rs he hr
 cases hr with
 | cons v r vs rs hv ht=>cases ht with
  | nil=>cases hv with
   | vintsNil k xs len _ _=>exact h1 E w _ he (.cons _ _ _ _ .nilslice .nil)
   | vints k xs len a cap _ _ _=>exact h2 E w _ he (.cons _ _ _ _ (.fslice a cap) .nil)
end Go.Tk
namespace Go.Tk
open IntKind (i64 u8 u32 u64 wrap)
mutual
theorem Qi {mv:Option Nat} {h:Z7}:∀(d:Nat) (t:Bool) (v:AV) (K K':AV->Prop),U5 mv h t d v K->(∀a,K a->K' a)->U5 mv h t d v K'
 | 0,t,v,K,K',hl,hK=>by unfold U5 at hl;simp_all
 | d+1,t,v,K,K',hl,hK=>by
  unfold U5 at hl⊢
  split at hl
  all_goals try exact hK _ hl
  all_goals try exact hl.elim
  ·split at hl
   ·split at hl
    ·exact hl.elim
    ·exact hK _ hl
   ·split at hl
    ·split at hl
     ·exact XG _ _ _ _ _ hl fun _ h=>hK _ h
     ·exact hl.elim
    ·split at hl
     ·obtain ⟨h1,h2⟩:=Zf hl
      refine Uk h1 ?_
      split at h2
      ·exact XG _ _ _ _ _ h2 fun _ h=>hK _ h
      ·exact h2.elim
     ·exact hl.elim
    ·exact hl.elim
  ·split at hl
   ·split at hl
    ·exact hl.elim
    ·exact hK _ hl
   ·split at hl
    ·split at hl
     ·obtain ⟨h1,h2⟩:=Zf hl
      exact Uk h1 (hK _ h2)
     ·exact hl.elim
    ·split at hl
     ·obtain ⟨h1,h2,h3⟩:=Zf hl
      exact Uk h1 ⟨h2,hK _ h3⟩
     ·exact hl.elim
    ·split at hl
     ·split at hl
      ·split at hl
       ·split at hl
        ·obtain ⟨h1,h2⟩:=Zf hl
         exact Uk h1 (hK _ h2)
        ·obtain ⟨h1,h2⟩:=Zf hl
         exact Uk h1 (hK _ h2)
        ·exact hl.elim
       ·exact hl.elim
      ·split at hl
       ·refine XG _ _ _ _ _ hl fun _ h=> ?_
        split at h
        ·exact hK _ h
        ·exact h.elim
       ·exact hl.elim
     ·exact hl.elim
    ·exact hl.elim
  ·exact YP _ _ _ _ _ hl fun _ h=>YP _ _ _ _ _ h fun _ h=>hK _ h
  ·exact Qi _ _ _ _ _ hl fun _ h=>hK _ h
  ·exact XG _ _ _ _ _ hl fun _ h=>hK _ h
  ·exact YP _ _ _ _ _ hl fun _ h=>hK _ h
theorem XG {mv:Option Nat} {h:Z7}:∀(d:Nat) (t:Bool) (l:List AV) (K K':List AV->Prop),Vb mv h t d l K->(∀a,K a->K' a)->Vb mv h t d l K'
 | 0,t,l,K,K',hl,hK=>by unfold Vb at hl;simp_all
 | d+1,t,l,K,K',hl,hK=>by
  unfold Vb at hl⊢
  split at hl
  ·exact hK _ hl
  ·exact XG _ _ _ _ _ hl fun _ h=>hK _ h
  ·refine Qi _ _ _ _ _ hl fun _ h=> ?_
   split at h
   ·exact XG _ _ _ _ _ h fun _ h=>hK _ h
   ·exact h.elim
theorem YP {mv:Option Nat} {h:Z7}:∀(d:Nat) (t:Bool) (l:List AV) (K K':List AV->Prop),YX mv h t d l K->(∀a,K a->K' a)->YX mv h t d l K'
 | 0,t,l,K,K',hl,hK=>by unfold YX at hl;simp_all
 | d+1,t,l,K,K',hl,hK=>by
  unfold YX at hl⊢
  split at hl
  ·exact hK _ hl
  ·exact Qi _ _ _ _ _ hl fun _ h=>YP _ _ _ _ _ h fun _ h=>hK _ h
end
end Go.Tk
end
section
namespace Go.Tk
open IntKind (i64 u8 u32 u64 wrap)
variable {E:Env} {esz:Nat} {f:Nat->List AV} {r:Value}
def Zee (g:Nat->InS):Nat->List AV:=fun q=>(g q).c
def Zcn (g:Nat->Z0j):Nat->List AV:=fun q=>(g q).c
theorem InS.cells (x:InS):∀v∈x.c,v.isCell=true\/∃k n xs,v=.arr k n xs:=by simp [InS.c,AV.isCell]
theorem Z0j.cells (x:Z0j):∀v∈x.c,v.isCell=true\/∃k n xs,v=.arr k n xs:=by simp [Z0j.c,AV.isCell]
theorem Zb.rows0 {a:Option Addr} {c:Nat} (h:r=.slice a 0 c) (hc:a=none->c=0):Zb E (.vrows esz 0 f 0) r:=by
 subst h
 cases a with
 | none=>rw [hc rfl];exact .vrowsNil _ _ _ _ rfl rfl
 | some a=>exact .vrows _ _ _ _ a c (fun _=>[]) (J2 _) (JK _) (fun i h=>by omega) (fun i h=>by omega) (fun i j c h=>by omega)
theorem Zb.rowsC {n:Nat} {f':Nat->List AV} (h:Zb E (.vrows esz n f n) r) (hf:∀i,i<n->f i=f' i):Zb E (.vrows esz n f' n) r:=by
 cases h with
 | vrowsNil esz n f len h1 h2=>exact .vrowsNil _ _ _ _ h1 h2
 | vrows esz n f len a cap g h1 h2 hc hl hi=>exact .vrows _ _ _ _ a cap g h1 h2 (fun i h=>by simp_all) hl hi
structure TxS where
 num:Int
 N:Nat
 ins:Nat->InS
 M:Nat
 outs:Nat->Z0j
def TxS.c (t:TxS):List AV:=[.int .i64 t.num,.vrows 130 t.N (Zee t.ins) t.N,.vrows 132 t.M (Zcn t.outs) t.M]
structure TxS.Ok (t:TxS):Prop where
 n:t.N<900000000000
 m:t.M<900000000000
 ins:∀i,i<t.N->(t.ins i).Ok
 outs:∀i,i<t.M->(t.outs i).Ok
theorem Ya.conv {P:Program} {f:FuncId} {args args₀:List AV} {v:AV} {nx:Nat} {bs:List (Nat×Blk)} (h:Ya P f args₀ v nx bs) (hc:∀E r,Zr E args r->Zr E args₀ r):Ya P f args v nx bs:=
 fun E w rs he hr=>h E w rs he (hc E rs hr)
theorem Zr.head {v v':AV} {r l:List AV} {rs:List Value} (h:Zr E (v::l) rs) (hv:∀c,Zb E v c->Zb E v' c) (ht:∀cs,Zr E l cs->Zr E r cs):Zr E (v'::r) rs:=by
 cases h with
 | cons v c vs cs h t=>exact .cons _ _ _ _ (hv c h) (ht cs t)
end Go.Tk
end
section
namespace Go.Tk
open IntKind (i64 u8 u32 u64 wrap)
def Z5H (k:Nat) (τ:Ren) (y x:Nat):Ren:=match Nat.blt y k with
 | true=>τ
 | false=>match Z70 τ y with
  | some _=>τ
  | none=>(y,x)::τ
mutual
def Zef (k:Nat) (τ:Ren):AV->AV->Ren
 | .ptr (some q),v=>match v with|.ptr (some p)=>Z5H k τ q.blk p.blk|_=>τ
 | .nslice q _ _ _,v=>match v with|.nslice p _ _ _=>Z5H k τ q.blk p.blk|_=>τ
 | .map (some y),v=>match v with|.map (some x)=>Z5H k τ y x|_=>τ
 | .yield y,v=>match v with|.yield x=>Z5H k τ y x|_=>τ
 | .func _ fs cs,v=>match v with|.func _ fs' cs'=>Z0o k (Z0o k τ fs fs') cs cs'|_=>τ
 | .iface _ u,v=>match v with|.iface _ u'=>Zef k τ u u'|_=>τ
 | .agg cs,v=>match v with|.agg cs'=>Z0o k τ cs cs'|_=>τ
 | .tuple cs,v=>match v with|.tuple cs'=>Z0o k τ cs cs'|_=>τ
 | _,_=>τ
def Z0o (k:Nat) (τ:Ren):List AV->List AV->Ren
 | [],_=>τ
 | v::r,l=>match l with|v'::r'=>Z0o k (Zef k τ v v') r r'|[]=>τ
end
def Zg6 (k:Nat) (τ:Ren):Blk->Blk->Ren
 | .flat cs,B=>match B with|.flat cs'=>Z0o k τ cs cs'|_=>τ
 | .map es,B=>match B with|.map es'=>Z0o k (Z0o k τ (es.map (·.1)) (es'.map (·.1))) (es.map (·.2)) (es'.map (·.2))|_=>τ
 | .pmap es,B=>match B with|.pmap es'=>Z0o k (Z0o k τ (es.map (·.1)) (es'.map (·.1))) (es.map (·.2)) (es'.map (·.2))|_=>τ
 | .git m y _,B=>match B with|.git m' y' _=>Z5H k (Z5H k τ m m') y y'|_=>τ
 | .froz C y,B=>match B with|.froz C' y'=>Z5H k (infZ C C') y y'|_=>τ
 | _,_=>τ
where infZ (C C':Blk):Ren:=match C with
 | .map es=>match C' with|.map es'=>Z0o k (Z0o k τ (es.map (·.1)) (es'.map (·.1))) (es.map (·.2)) (es'.map (·.2))|_=>τ
 | _=>τ
def Zfd (k:Nat) (t:ZN):ZN->Ren->Ren
 | [],τ=>τ
 | (x,v)::r,τ=>Zfd k t r (match ZC t x with|some u=>Zef k τ v u|none=>τ)
def Zeg (k:Nat):List VQ->List VQ->Ren->Ren
 | .call _ a::r,l,τ=>match l with|.call _ b::r'=>Zeg k r r' (Z0o k τ a b)|_=>τ
 | .mark y::r,l,τ=>match l with|.mark x::r'=>Zeg k r r' (Z5H k τ y x)|_=>τ
 | [],_,τ=>τ
def Zco (k:Nat) (bs:List (Nat×Blk)):List (Nat×Blk)->Ren->Ren
 | [],τ=>τ
 | (y,B)::r,τ=>Zco k bs r (match rn k τ y with
  | some x=>match Zz bs x with|some C=>Zg6 k τ B C|none=>τ
  | none=>τ)
def Zg7 (k:Nat) (s₂ s:St):Ren:=Zco k s.h.bs s₂.h.bs (Zco k s.h.bs s₂.h.bs (Zco k s.h.bs s₂.h.bs (Zeg k s₂.d s.d (Zfd k s.t s₂.t []))))
def UT (k:Nat) (s₂ s:St) (Z:Prop):Prop:=U2 k (Zg7 k s₂ s) s₂ s Z
theorem XU {k:Nat} {s₂ s:St} {Z:Prop} (hl:UT k s₂ s Z):Z/\Z5A k s s₂:=Xk hl
def Ye (k:Nat) (o:Out) (nx:Nat) (bs:List (Nat×Blk)):KO:=fun o' h=>match o with
 | .ret v=>match o' with
  | .ret u=>UT k ⟨1,[(0,v)],⟨nx,bs⟩,[]⟩ ⟨1,[(0,u)],h,[]⟩ True
  | .panic _=>False
 | .panic v=>match o' with
  | .panic u=>UT k ⟨1,[(0,v)],⟨nx,bs⟩,[]⟩ ⟨1,[(0,u)],h,[]⟩ True
  | .ret _=>False
theorem Spec.evM {G:Zh} (hG:G.Ok) {n:Nat} {f:FuncId} {args:List AV} {h0:Z7} {o:Out} {nx:Nat} {bs:List (Nat×Blk)} (h:evF G n f args h0 (Ye h0.next o nx bs)):Spec G.P f args h0 o nx bs:=by
 intro E w rs he hl
 refine (Z0a hG h E w rs he hl).mono ?_
 rintro e w' ⟨E',o',h',hK,hev,hor⟩
 unfold Ye at hK
 cases o with
 | ret v=>
  cases hor with
  | ret u r hr=>
   obtain ⟨E₂,h1,h2⟩:=Z85 rfl hK he hev hr
   exact ⟨E₂,h1,.ret _ _ h2⟩
  | panic u r hr=>simp_all
 | panic v=>
  cases hor with
  | panic u r hr=>
   obtain ⟨E₂,h1,h2⟩:=Z85 rfl hK he hev hr
   exact ⟨E₂,h1,.panic _ _ h2⟩
  | ret u r hr=>simp_all
theorem Spec.pure {P:Program} {f:FuncId} {args:List AV} {v:AV} {nx:Nat} {bs:List (Nat×Blk)} (h:Spec P f args ⟨0,[]⟩ (.ret v) nx bs):Ya P f args v nx bs:=by
 intro E w rs he hl
 refine (h E w rs he hl).mono ?_
 rintro e w' ⟨E',hev,hor⟩
 cases hor with
 | ret v r hr=>grind
theorem Ya.evM {G:Zh} (hG:G.Ok) {n:Nat} {f:FuncId} {args:List AV} {v:AV} {nx:Nat} {bs:List (Nat×Blk)} (h:evF G n f args ⟨0,[]⟩ (Ye 0 (.ret v) nx bs)):Ya G.P f args v nx bs:=(Spec.evM hG h).pure
def goM (k:Nat) (S0:St) (C:Prop) (ends:KE->Prop):Nat->St->KE->Prop:=fun k' s X=>match Nat.beq k' k with
 | true=>UT k S0 s (C/\ends X)
 | false=>False
def rdM (k id l:Nat) (S1 En Rn Jn:St) (go ex re jm:Prop):KE:=fun e s=>match e with
 | .normal=>UT k S1 s go
 | .exit x=>(match Nat.beq x id with|true=>UT k En s ex|false=>False)
 | .ret=>UT k Rn s re
 | .goto x=>(match Nat.beq x l with|true=>UT k Jn s jm|false=>False)
 | .panic _=>False
theorem Zh.withGoM {G:Zh} (hG:G.Ok) {f:FuncId} {id k N n l:Nat} {S En Rn Jn:Nat->St} {S0:St} {C:Prop} {go ex re jm:Nat->Prop} (h1:U4 G.P f id=true) (hC:C->S 0=S0/\
   ∀i,i<=n->(∀j,j<i->go j)->ZL G N f id k (S i) (rdM k id l (S (i+1)) (En i) (Rn i) (Jn i) (go i/\i<n) (ex i) (re i) (jm i))):
  (G.withL f id (goM k S0 C (YC id n l go ex re jm En Rn Jn))).Ok:=by
 refine Zh.withL_ok hG h1 ?_
 intro k' s X hl
 unfold goM at hl
 split at hl
 ·rename_i hk
  have:=J0 hk
  subst this
  obtain ⟨⟨hc,hX⟩,hw⟩:=XU hl
  obtain ⟨e0,hr⟩:=hC hc
  refine ⟨{ t:Nat//t<=n/\∀j,j<t->go j},fun t=>n-t.1,fun t=>S t.1,⟨0,JK _,fun j hj=>by omega⟩,N,by simp_all, ?_⟩
  rintro ⟨t,ht,hgo⟩
  refine ⟨_,hr t ht hgo, ?_⟩
  intro e s' hY
  unfold rdM at hY
  split at hY
  ·obtain ⟨⟨hg,hlt⟩,hw'⟩:=XU hY
   refine ⟨⟨t+1,hlt,fun j hj=> ?_⟩,by show n-(t+1)<n-t;omega,hw'⟩
   grind
  ·split at hY
   ·rename_i hi
    have:=J0 hi
    subst this
    obtain ⟨hex,hw'⟩:=XU hY
    exact ⟨_,hw',(hX t ht hgo).1 hex⟩
   simp_all
  ·obtain ⟨hre,hw'⟩:=XU hY
   exact ⟨_,hw',(hX t ht hgo).2.1 hre⟩
  ·split at hY
   ·rename_i hi
    have:=J0 hi
    subst this
    obtain ⟨hjm,hw'⟩:=XU hY
    exact ⟨_,hw',(hX t ht hgo).2.2 hjm⟩
   ·exact hY.elim
  ·exact hY.elim
 ·exact hl.elim
end Go.Tk
namespace Go.Tk
open IntKind (i64 u8 u32 u64 wrap)
theorem Zh.withL_join {G H:Zh} (hG:G.Ok) (hP:G.P=H.P) {f:FuncId} {id:Nat} {S:Nat->St->KE->Prop} (h:(H.withL f id S).Ok):(G.withL f id S).Ok where
 draw:=hG.draw
 psumm:=hG.psumm
 fsumm:=hG.fsumm
 lsumm:=fun f' id' S' fn c body hS hf hb hm k s X hs=>by
  simp only [Zh.withL] at hS
  split at hS
  ·have:=h.lsumm f' id' S' fn c body
   simp_all [Zh.withL]
  ·exact hG.lsumm f' id' S' fn c body hS hf hb hm k s X hs
end Go.Tk
end
section
namespace Go.Tk
open IntKind (i64 u8 u32 u64 wrap)
variable {f:FuncId} {args:List AV} {K R:AV->Prop} {G:Zh}
def Zhk (W:Int->LI):Y2:=fun args h K=>match args with
 | [.nslice ⟨b,0,_,0,0⟩ 1 _ _,.int .i64 _]=>frA [b] h 20 args fun Bs a=>match Bs,a with
  | [.ints .u8 xs],[.nslice ⟨0,0,_,0,0⟩ 1 len _,.int .i64 n]=>Z5 (xs.length=len/\len<90000000000000) (K (.ret (.nslice ⟨h.next,0,0,0,0⟩ 1 (xs++W n).length (xs++W n).length)) ⟨h.next+1,(h.next,.ints .u8 (xs++W n))::YF h.bs b⟩)
  | _,_=>False
 | [.nilslice,.int .i64 n]=>K (.ret (.nslice ⟨h.next,0,0,0,0⟩ 1 (W n).length (W n).length)) ⟨h.next+1,(h.next,.ints .u8 (W n))::h.bs⟩
 | _=>False
theorem ZaF (x:Int) (xs:LI) (N:Nat) (hN:(x::xs).length=N) (hB:N<90000000000000):
  evF G0 20 82 [.vints .u8 (x::xs) N] ⟨0,[]⟩ (Ye 0 (.ret (.nslice ⟨0,0,0,0,0⟩ 1 N N)) 1 [(0,.ints .u8 (x::xs))]):=by
 refine @Eq.mpr _ (let b:=[]++List.take N (x::xs);let a:=b.length;
 Z5 (a*1<=140737488355328) (Z5 (a=N) (Z5 (N<=a) (b=x::xs/\True)))) (by kernel_rfl) ?_
 conv=>zeta
 try simp only [vcA]
 try simp only [vcB]
 try simp only [vcC]
 subst hN
 simp only [List.nil_append,K7]
 and_intros<;>first|trivial|omega
theorem ZaG (u:Unit) :
  evF G0 20 82 [.nilslice] ⟨0,[]⟩ (Ye 0 (.ret (.nslice ⟨0,0,0,0,0⟩ 1 0 0)) 1 [(0,.ints .u8 [])]):=by
 refine @Eq.mpr _ (([]:LI)=[]/\True) (by kernel_rfl) ?_
 trivial
theorem ZaH (u:Unit) :
  evF G0 20 82 [.fslice] ⟨0,[]⟩ (Ye 0 (.ret (.nslice ⟨0,0,0,0,0⟩ 1 0 0)) 1 [(0,.ints .u8 [])]):=by
 refine @Eq.mpr _ (([]:LI)=[]/\True) (by kernel_rfl) ?_
 trivial
theorem Z5I (xs:LI) (N:Nat) (hN:xs.length=N) (hB:N<90000000000000):Ya PP 82 [.vints .u8 xs N] (.nslice ⟨0,0,0,0,0⟩ 1 N N) 1 [(0,.ints .u8 xs)]:=by
 cases xs with
 | nil=>subst hN;exact Ya.vints0 (.evM ZD (ZaG ())) (.evM ZD (ZaH ()))
 | cons x r=>exact .evM ZD (ZaF x r N hN hB)
def Z8a:Y2:=fun args h K=>YX none h true 20 args fun a=>match a with
 | [.vints .u8 xs n]=>Z5 (xs.length=n/\n<90000000000000) (K (.ret (.nslice ⟨h.next,0,0,0,0⟩ 1 n n)) ⟨h.next+1,(h.next,.ints .u8 xs)::h.bs⟩)
 | _=>False
theorem Z7h (args:List AV) (h:Z7) (K:KO) (hl:Z8a args h K):Zi PP 82 args h K:=by
 refine Ya.fsumm (d:=20) (YP _ _ _ _ _ hl fun a ha=> ?_)
 split at ha
 ·obtain ⟨⟨h1,h2⟩,hK⟩:=Zf ha
  exact ⟨_,_,_,_,Z5I _ _ h1 h2,rfl,⟨Nat.one_pos,.ints _ _,trivial⟩,hK⟩
 simp_all
mutual
/-- Without names; views may be. -/
def AV.vplain:AV->Bool
 | .top|.bool _|.int _ _|.str _|.ptr none|.eslice|.fslice|.nilslice|.map none|.nilFunc|.nilIface|.arr _ _ _=>true
 | .vints _ _ _|.vrows _ _ _ _|.pview _ _=>true
 | .agg cs=>Wi cs
 | .tuple cs=>Wi cs
 | .iface _ v=>v.vplain
 | _=>false
def Wi:List AV->Bool
 | []=>true
 | v::r=>v.vplain&&Wi r
end
mutual
theorem Zb.vplain {E E':Env} (hi:∀a c,E.imm a c->E'.imm a c):∀(v:AV) (r:Value),v.vplain=true->Zb E v r->Zb E' v r
 | .top,r,_,_=>.top r
 | .bool b,r,_,h=>h.plain rfl
 | .int k n,r,_,h=>h.plain rfl
 | .str s,r,_,h=>h.plain rfl
 | .ptr none,r,_,h=>h.plain rfl
 | .eslice,r,_,h=>h.plain rfl
 | .fslice,r,_,h=>h.plain rfl
 | .nilslice,r,_,h=>h.plain rfl
 | .map none,r,_,h=>h.plain rfl
 | .nilFunc,r,_,h=>h.plain rfl
 | .nilIface,r,_,h=>h.plain rfl
 | .arr k n xs,r,_,h=>h.plain rfl
 | .ptr (some p),r,hp,_=>by simp [AV.vplain] at hp
 | .nslice p a b c,r,hp,_=>by simp [AV.vplain] at hp
 | .map (some x),r,hp,_=>by simp [AV.vplain] at hp
 | .func a b c,r,hp,_=>by simp [AV.vplain] at hp
 | .yield x,r,hp,_=>by simp [AV.vplain] at hp
 | .stamp x,r,hp,_=>by simp [AV.vplain] at hp
 | .pview cs inn,r,_,h=>by
  cases h with
  | pview cs inn a vs hc hq=>exact .pview cs inn a vs (Zo.mono (⟨fun _ _ h=>by simp [Env.views] at h,hi⟩:E.views.le E'.views) hc) (fun j c h=>hi _ _ (hq j c h))
 | .vints k xs len,r,_,h=>by
  cases h with
  | vintsNil k xs len h1 h2=>exact .vintsNil k xs len h1 h2
  | vints k xs len a cap h1 h2 hq=>exact .vints k xs len a cap h1 h2 (fun i h=>hi _ _ (hq i h))
 | .vrows esz n f len,r,_,h=>by
  cases h with
  | vrowsNil esz n f len h1 h2=>exact .vrowsNil esz n f len h1 h2
  | vrows esz n f len a cap g h1 h2 hc hl hq=>exact .vrows esz n f len a cap g h1 h2 (fun i h=>Zo.mono (⟨fun _ _ h=>by simp [Env.views] at h,hi⟩:E.views.le E'.views) (hc i h)) hl (fun i j c h h'=>hi _ _ (hq i j c h h'))
 | .iface t v,r,hp,h=>by
  cases h with
  | iface t v x hx=>exact .iface t v x (Zb.vplain hi v x (by simpa [AV.vplain] using hp) hx)
 | .agg cs,r,hp,h=>by
  cases h with
  | agg cs vs hc=>exact .agg cs vs (Zo.vplain hi cs vs (by simpa [AV.vplain] using hp) hc)
 | .tuple cs,r,hp,h=>by
  cases h with
  | tuple _ rs hc=>exact .tuple _ rs (Zr.vplain hi cs rs (by simpa [AV.vplain] using hp) hc)
theorem Zo.vplain {E E':Env} (hi:∀a c,E.imm a c->E'.imm a c):∀(l:List AV) (r:List Value),Wi l=true->Zo E l r->Zo E' l r
 | [],r,_,h=>by cases h;exact .nil
 | v::l,r,hp,h=>by
  simp only [Wi,J1] at hp
  cases h with
  | one v c vs cs h0 h1 hv t=>exact .one v c _ cs h0 h1 (Zb.vplain hi v c hp.1 hv) (Zo.vplain hi l cs hp.2 t)
  | arr k n xs vs cs t=>exact .arr k n xs _ cs (Zo.vplain hi l cs hp.2 t)
theorem Zr.vplain {E E':Env} (hi:∀a c,E.imm a c->E'.imm a c):∀(l:List AV) (r:List Value),Wi l=true->Zr E l r->Zr E' l r
 | [],r,_,h=>by cases h;exact .nil
 | v::l,r,hp,h=>by
  simp only [Wi,J1] at hp
  cases h with
  | cons v c vs cs hv t=>exact .cons v c _ cs (Zb.vplain hi v c hp.1 hv) (Zr.vplain hi l cs hp.2 t)
end
def VF (R:AV->Prop):KO:=fun o _=>match o with
 | .ret u=>(match u.vplain with|true=>R u|false=>False)
 | .panic _=>False
theorem Z7i {P:Program} {h:Z7} (hp:Wi args=true) (hc:Zi P f args ⟨0,[]⟩ (VF R)) (hK:∀u,R u->K u):
  Zi P f args h fun o h'=>∃v,o=.ret v/\h'=h/\K v:=by
 intro E w rs he hr
 have hemb:Emb E.views ⟨0,[]⟩ w:=
  ⟨fun x _=>rfl,fun x B h=>by simp [Z7.get,Zz] at h,fun x B h=>by simp [Z7.get,Zz] at h,fun x y B B' b N N' h=>by simp [Z7.get,Zz] at h,he.imm,fun a c x B N _ h=>by simp [Z7.get,Zz] at h⟩
 refine (hc E.views w rs hemb (Zr.vplain (E:=E) (E':=E.views) (fun _ _ h=>h) _ _ hp hr)).mono ?_
 rintro e w' ⟨E₁,o,h',hK0,hev,hor⟩
 cases hor with
 | panic u r hr=>exact hK0.elim
 | ret u r hr=>
  unfold VF at hK0
  simp only at hK0
  split at hK0
  ·rename_i hu
   have hkeep:∀b,b<w.heap.size->w'.heap[b]? =w.heap[b]?:=fun b hb=>hev.keep b hb (fun ⟨x,B,N,hx,_⟩=>by simp [Z7.get,Zz] at hx)
   have hemb':Emb E h w':=by
    refine ⟨he.fresh,he.lt,fun x B hx=>(he.own x B hx).congr fun b N hb=>hkeep b ((he.own x B hx).lt hb),he.disj,fun a c hi=> ?_,he.sep⟩
    have hcc:=he.imm a c hi
    grind [World.cell?]
   exact ⟨E,.ret u,h,⟨u,rfl,rfl,hK u hK0⟩,⟨.refl E,hemb',hev.size,hev.os,hev.tape,hev.output,fun b hb _=>hkeep b hb,fun b ho=>.inl ho,fun _ _ h=>h⟩,.ret _ _ (Zb.vplain (E:=E₁) (E':=E) (fun a c hi=>hev.imm a c hi) _ _ hu hr)⟩
  simp_all
theorem Vz (hG:G.Ok) {n:Nat} {h:Z7} (hp:Wi args=true) (hc:evF G n f args ⟨0,[]⟩ (VF R)) (hK:∀u,R u->K u):
  Zi G.P f args h fun o h'=>∃v,o=.ret v/\h'=h/\K v:=Z7i hp (Z0a hG hc) hK
def orL (b:St->Bool) (S1 S2:Nat->St->KE->Prop):Nat->St->KE->Prop:=fun k s X=>match b s with
 | true=>S1 k s X
 | false=>S2 k s X
theorem Zh.withL_or (hG:G.Ok) {id:Nat} {b:St->Bool} {S1 S2:Nat->St->KE->Prop} (h1:(G.withL f id S1).Ok) (h2:(G.withL f id S2).Ok):(G.withL f id (orL b S1 S2)).Ok where
 draw:=hG.draw
 psumm:=hG.psumm
 fsumm:=hG.fsumm
 lsumm:=fun f' id' S' fn c body hS hf hb hm k s X hs=>by
  simp only [Zh.withL] at hS
  split at hS
  ·rename_i hq
   cases hS
   unfold orL at hs
   have a1:=h1.lsumm f' id' S1 fn c body
   have a2:=h2.lsumm f' id' S2 fn c body
   simp only [Zh.withL,hq] at a1 a2
   split at hs
   ·exact a1 trivial hf hb hm k s X hs
   ·exact a2 trivial hf hb hm k s X hs
  ·exact hG.lsumm f' id' S' fn c body hS hf hb hm k s X hs
end Go.Tk
end
section
namespace Go.Tk
open IntKind (i64 u8 u32 u64 wrap)
inductive Ty where
 | bool
 | int (k:IntKind)
 | str
 | arr (k:IntKind) (n:Nat)
 | ints (k:IntKind)
 | rows (esz:Nat) (ts:List Ty)
def ZaI (P:Program) (r:TypeId->Option (List Ty)) (sz:Nat):Nat->List Field->Option (List Ty)
 | o,[]=>if o=sz then some [] else none
 | o,f::fs=>if f.offset=o then (r f.type).bind fun a=>(ZaI P r sz (o+P.cellsOf f.type) fs).bind fun b=>some (a++b) else none
def Z10 (P:Program):Nat->TypeId->Option (List Ty)
 | 0,_=>none
 | m+1,t=>match P.underlying t with
  | some .bool=>some [.bool]
  | some (.int k)=>some [.int k]
  | some .string=>some [.str]
  | some (.array n e)=>match P.underlying e with
   | some (.int k)=>if P.cellsOf t=n/\P.cellsOf e=1 then some [.arr k n] else none
   | _=>(Z10 P m e).bind fun ts=>if P.cellsOf t=n*P.cellsOf e then some (List.replicate n ts).flatten else none
  | some (.slice e)=>match P.underlying e with
   | some (.int k)=>if P.cellsOf e=1 then some [.ints k] else none
   | _=>(Z10 P m e).bind fun ts=>some [.rows (P.cellsOf e) ts]
  | some (.struct fs)=>ZaI P (Z10 P m) (P.cellsOf t) 0 fs.toList
  | _=>none
mutual
inductive Z0N:Ty->AV->Prop
 | bool (b:Bool):Z0N .bool (.bool b)
 | int (k:IntKind) (n:Int) (h:(Lit.int k n).wf=true):Z0N (.int k) (.int k n)
 | str (s:ByteArray) (h:s.size<=maxLen):Z0N .str (.str s)
 | arr (k:IntKind) (n:Nat) (xs:LI) (h:xs.length=n) (hw:∀i,i<n->(Lit.int k (xs.getD i 0)).wf=true):Z0N (.arr k n) (.arr k n xs)
 | ints (k:IntKind) (xs:LI) (n:Nat) (h:xs.length=n) (hm:n<=maxLen) (hw:∀i,i<n->(Lit.int k (xs.getD i 0)).wf=true):Z0N (.ints k) (.vints k xs n)
 | rows (esz:Nat) (ts:List Ty) (n:Nat) (f:Nat->List AV) (hm:n<=maxLen) (h:∀i,i<n->Fits ts (f i)):Z0N (.rows esz ts) (.vrows esz n f n)
inductive Fits:List Ty->List AV->Prop
 | nil:Fits [] []
 | cons (t:Ty) (a:AV) (ts:List Ty) (vz:List AV) (h:Z0N t a) (r:Fits ts vz):Fits (t::ts) (a::vz)
end
theorem Fits.append:∀{ts wz:List Ty} {vz bs:List AV},Fits ts vz->Fits wz bs->Fits (ts++wz) (vz++bs)
 | _,_,_,_,.nil,h=>h
 | _,_,_,_,.cons t a ts vz h r,k=>.cons t a _ _ h (Fits.append r k)
def tE (w:World):Env:=⟨fun _=>none,fun a c=>w.cell? a=some c⟩
section
variable {H:Type} {enc:TypeId×Value->H} {P:Program} {w:World} {sp:Nat->Bool} {held:Bool}
theorem UU {k:IntKind} {n:Nat} {cs:List Value} (hl:cs.length=n) (h:∀i,i<n->∃z,cs[i]? =some (.int k z)/\(Lit.int k z).wf=true):
  ∃xs:LI,xs.length=n/\(∀i,i<n->(Lit.int k (xs.getD i 0)).wf=true)/\∀i,i<n->cs[i]? =some (.int k (xs.getD i 0)):=by
 refine ⟨cs.map fun v=>match v with|.int _ z=>z|_=>0,by simp [hl],fun i hi=> ?_,fun i hi=> ?_⟩
 all_goals grind
theorem Zcp {α β:Type} {n:Nat} {p:Nat->α->β->Prop} [Inhabited α] [Inhabited β] (h:∀i,i<n->∃a b,p i a b):∃(f:Nat->α) (g:Nat->β),∀i,i<n->p i (f i) (g i):=
 ⟨fun i=>if hi:i<n then Classical.choose (h i hi) else default,fun i=>if hi:i<n then Classical.choose (Classical.choose_spec (h i hi)) else default,fun i hi=>by
  grind⟩
theorem Z1o:∀(m:Nat) (t:TypeId) (ts:List Ty),Z10 P m t=some ts->∀(fuel:Nat) (cs:List Value) (x:DataW H×List MemPlace),DataW.trod enc P w 0 sp held fuel t cs=some x->∃vz,Fits ts vz/\Zo (tE w) vz cs
 | 0,_,_,ht=>by simp [Z10] at ht
 | m+1,t,ts,ht=>by
  intro fuel cs x hx
  unfold Z10 at ht
  split at ht
  ·rename_i hu
   cases ht
   obtain ⟨b,rfl,_⟩:=DataW.trod_bool hu hx
   exact ⟨[.bool b],.cons _ _ _ _ (.bool b) .nil,.one _ _ _ _ rfl rfl (.bool b) .nil⟩
  ·rename_i k hu
   cases ht
   obtain ⟨n,rfl,_,hw⟩:=DataW.trod_int hu hx
   exact ⟨[.int k n],.cons _ _ _ _ (.int k n hw) .nil,.one _ _ _ _ rfl rfl (.int k n) .nil⟩
  ·rename_i hu
   cases ht
   obtain ⟨s,rfl,_,hw⟩:=DataW.trod_string hu hx
   exact ⟨[.str s],.cons _ _ _ _ (.str s hw) .nil,.one _ _ _ _ rfl rfl (.str s) .nil⟩
  ·rename_i n e hu
   split at ht
   ·rename_i k he
    split at ht
    ·rename_i hc
     obtain ⟨hc,h1⟩:=hc
     cases ht
     obtain ⟨xs,q,rfl,rfl,hl,hn,hi⟩:=DataW.trod_array hu hx
     rw [hc] at hl
     obtain ⟨zs,z1,z2,z3⟩:=UU (k:=k) hl fun i hlt=>by
      have:=hi i hlt
      rw [J8 (by omega),h1] at this
      obtain ⟨z,e1,_,e2⟩:=DataW.trod_int he this
      refine ⟨z, ?_,e2⟩
      rw [JJ] at e1
      have:=congrArg (fun l=>l[0]?) e1
      grind
     refine ⟨[.arr k n zs],.cons _ _ _ _ (.arr k n zs z1 z2) .nil, ?_⟩
     have:cs=intCells k n zs++[]:=by
      rw [Jx]
      refine Ke fun i=> ?_
      grind [intCells]
     rw [this]
     exact .arr _ _ _ _ _ .nil
    ·cases ht
   ·obtain ⟨es,e1,e2⟩:=Jr.1 ht
    split at e2
    ·rename_i hc
     cases e2
     obtain ⟨xs,q,rfl,rfl,hl,hn,hi⟩:=DataW.trod_array hu hx
     rw [hc] at hl
     have key:∀j,j<=n->∃vz,Fits (List.replicate j es).flatten vz/\Zo (tE w) vz (cs.take (j*P.cellsOf e)):=by
      intro j
      induction j with
      | zero=>intro _;exact ⟨[],.nil,by simp;exact .nil⟩
      | succ j ih=>
       intro hj
       obtain ⟨vz,f1,f2⟩:=ih (by omega)
       have:=hi j (by omega)
       rw [J8 (by omega)] at this
       obtain ⟨bs,p1,p2⟩:=Z1o m _ _ e1 _ _ _ this
       refine ⟨vz++bs, ?_, ?_⟩
       ·rw [List.replicate_succ',List.flatten_append,List.flatten_singleton]
        exact f1.append p1
       ·rw [Nat.succ_mul,List.take_add]
        exact f2.append p2
     obtain ⟨vz,f1,f2⟩:=key n (J2 _)
     rw [Kd (by omega)] at f2
     grind
    ·cases e2
  ·rename_i e hu
   split at ht
   ·rename_i k he
    split at ht
    ·rename_i hc
     cases ht
     rcases DataW.trod_slice hu hx with ⟨rfl,_⟩|⟨a,len,cap,elems,rest,n,rfl,rfl,_,_,hl,hm,hlen,hi,_,_⟩
     ·exact ⟨[.vints k [] 0],.cons _ _ _ _ (.ints k [] 0 rfl (JK _) fun i hi=>absurd hi (K9 i)) .nil,.one _ _ _ _ rfl rfl (.vintsNil _ _ _ rfl rfl) .nil⟩
     ·obtain ⟨zs,z1,z2,z3⟩:=UU (k:=k) (n:=len) (cs:=(List.range len).map fun i=>(w.cell? (a.add i)).getD undef) (by simp) fun i hlt=>by
       have:=hi i hlt
       rw [J8 (by omega),hc,JJ] at this
       obtain ⟨cs',h1,h2⟩:=Jr.1 this
       grind [DataW.trod_int,Go.ChangeShapes.cell_of_cells?_one]
      refine ⟨[.vints k zs len],.cons _ _ _ _ (.ints k zs len z1 (by omega) z2) .nil,.one _ _ _ _ rfl rfl (.vints k zs len a cap (by omega) (by omega) fun i hlt=> ?_) .nil⟩
      rw [z1] at hlt
      have:=hi i hlt
      rw [J8 (by omega),hc,JJ] at this
      obtain ⟨cs',h1,h2⟩:=Jr.1 this
      obtain ⟨z,rfl,_,e2⟩:=DataW.trod_int he h2
      have h3:=z3 i hlt
      have h4:=Go.ChangeShapes.cell_of_cells?_one h1
      simp [hlt,h4] at h3
      show w.cell? (a.add i)=_
      rw [h4,h3,J5]
    ·cases ht
   ·obtain ⟨es,h1,h2⟩:=Jr.1 ht
    cases h2
    rcases DataW.trod_slice hu hx with ⟨rfl,_⟩|⟨a,len,cap,elems,rest,n,rfl,rfl,_,_,hl,hm,hlen,hi,_,_⟩
    ·exact ⟨[.vrows (P.cellsOf e) 0 (fun _=>[]) 0],.cons _ _ _ _ (.rows _ _ 0 _ (JK _) fun i hi=>absurd hi (K9 i)) .nil,.one _ _ _ _ rfl rfl (.vrowsNil _ _ _ _ rfl rfl) .nil⟩
    ·obtain ⟨f,g,hfg⟩:=Zcp (n:=len) (p:=fun i (vz:List AV) (vs:List Value)=>Fits es vz/\Zo (tE w) vz vs/\w.cells? 0 (a.add (i*P.cellsOf e)) (P.cellsOf e)=some vs) fun i hlt=>by
      have:=hi i hlt
      rw [J8 (by omega)] at this
      obtain ⟨cs',k1,k2⟩:=Jr.1 this
      obtain ⟨vz,f1,f2⟩:=Z1o m _ _ h1 _ _ _ k2
      exact ⟨vz,cs',f1,f2,k1⟩
     refine ⟨[.vrows (P.cellsOf e) len f len],.cons _ _ _ _ (.rows _ _ len f (by omega) fun i hlt=>(hfg i hlt).1) .nil,.one _ _ _ _ rfl rfl (.vrows _ _ _ _ a cap g (J2 _) hl (fun i hlt=>(hfg i hlt).2.1) (fun i hlt=>(World.cells?_some (hfg i hlt).2.2).2.1) fun i j c hlt hj=> ?_) .nil⟩
     obtain ⟨_,hl',hc'⟩:=World.cells?_some (hfg i hlt).2.2
     have hj':j<P.cellsOf e:=by
      grind
     have:=hc' j hj'
     rw [hj] at this
     show w.cell? (a.add (i*P.cellsOf e+j))=some c
     rw [<-this]
     rw [Addr.add_add]
  ·rename_i fs hu
   obtain ⟨xs,n,rfl,rfl,hl,hn,hf⟩:=DataW.trod_struct hu hx
   have key:∀(l:List Field) (o:Nat) (ts:List Ty) (i0:Nat),ZaI P (Z10 P m) (P.cellsOf t) o l=some ts->(∀i f,l[i]? =some f->fs[i0+i]? =some f)->∃vz,Fits ts vz/\Zo (tE w) vz (cs.drop o):=by
    intro l
    induction l with
    | nil=>
     intro o ts i0 h _
     unfold ZaI at h
     split at h
     ·cases h
      exact ⟨[],.nil,by rw [JZ (by omega)];exact .nil⟩
     ·cases h
    | cons f l ih=>
     intro o ts i0 h hl'
     unfold ZaI at h
     split at h
     ·rename_i ho
      obtain ⟨a,h1,h2⟩:=Jr.1 h
      obtain ⟨b,h3,h4⟩:=Jr.1 h2
      cases h4
      have h0:fs[i0]? =some f:=hl' 0 f rfl
      have hlt:i0<fs.size:=by
       grind
      have k:=hf i0 f h0
      rw [J8 (by omega),ho] at k
      obtain ⟨vz,p1,p2⟩:=Z1o m _ _ h1 _ _ _ k
      obtain ⟨bs,q1,q2⟩:=ih (o+P.cellsOf f.type) b (i0+1) h3 fun i g hg=>by
       have:=hl' (i+1) g hg
       grind
      refine ⟨vz++bs,p1.append q1, ?_⟩
      have e:cs.drop o=(cs.drop o).take (P.cellsOf f.type)++cs.drop (o+P.cellsOf f.type):=by
       rw [<-List.drop_drop,List.take_append_drop]
      rw [e]
      exact p2.append q2
     ·cases h
   obtain ⟨vz,h1,h2⟩:=key fs.toList 0 ts 0 ht fun i f h=>by simp_all
   grind
  ·cases ht
def isAgg (P:Program) (t:TypeId):Bool:=match P.underlying t with
 | some (.struct _)|some (.array _ _)=>true
 | _=>false
inductive Z2v:Bool->List Ty->AV->Prop
 | agg (ts:List Ty) (vz:List AV) (h:Fits ts vz):Z2v true ts (.agg vz)
 | one (t:Ty) (a:AV) (h:Z0N t a):Z2v false [t] a
theorem ZaJ {m:Nat} {t:TypeId} {ts:List Ty} (ht:Z10 P m t=some ts) (hg:isAgg P t=false) {v:Value} {r:Reach} {b:Nat} (hv:Value.okWide P w r b t v):
  v.cells.toList=[v]/\∃τ,ts=[τ]/\∀k n,τ≠.arr k n:=by
 cases m with
 | zero=>simp [Z10] at ht
 | succ m=>
  unfold Z10 at ht
  unfold isAgg at hg
  split at ht
  ·rename_i hu;cases ht;obtain ⟨b,rfl⟩:=Go.WideShapes.okWide_bool hu hv;exact ⟨rfl,_,rfl,fun _ _ h=>by cases h⟩
  ·rename_i hu;cases ht;obtain ⟨b,rfl⟩:=Go.WideShapes.okWide_int hu hv;exact ⟨rfl,_,rfl,fun _ _ h=>by cases h⟩
  ·rename_i hu;cases ht;obtain ⟨b,rfl⟩:=Go.WideShapes.okWide_string hu hv;exact ⟨rfl,_,rfl,fun _ _ h=>by cases h⟩
  ·simp_all
  ·rename_i hu
   obtain ⟨a,l,c,rfl⟩:=Go.WideShapes.okWide_slice hu hv
   split at ht
   ·split at ht
    ·cases ht;exact ⟨rfl,_,rfl,fun _ _ h=>by cases h⟩
    ·cases ht
   ·obtain ⟨es,h1,h2⟩:=Jr.1 ht
    cases h2;exact ⟨rfl,_,rfl,fun _ _ h=>by cases h⟩
  all_goals simp_all
theorem ZaK {m:Nat} {t:TypeId} {ts:List Ty} {g:Bool} (ht:Z10 P m t=some ts) (hg:isAgg P t=g) {v:Value} {r:Reach} {b:Nat} (hv:Value.okWide P w r b t v) {d:DataW H} {ps:List MemPlace} (h:DataW.Trod enc P w 0 sp held t v d ps):
  ∃a,Z2v g ts a/\Zb (tE w) a v:=by
 obtain ⟨fuel,hf⟩:=h
 obtain ⟨vz,f1,f2⟩:=Z1o m _ _ ht _ _ _ hf
 cases g with
 | true=>
  have:∃cs,v=.agg cs:=by
   grind [isAgg,Value.okWide]
  obtain ⟨cs,rfl⟩:=this
  refine ⟨.agg vz,.agg _ _ f1, ?_⟩
  exact .agg _ _ f2
 | false=>
  obtain ⟨h1,τ,rfl,h2⟩:=ZaJ ht hg hv
  rw [h1] at f2
  cases f1 with
  | cons _ a _ vz f r=>
   generalize hL:[v]=L at f2
   cases f2 with
   | one _ _ _ _ h0 h1 h t=>cases hL;exact ⟨_,.one _ _ f,h⟩
   | arr k n xs _ cs t=>cases f;simp_all
end
end Go.Tk
end
section
namespace Go.Tk
open IntKind (i64 u8 u32 u64 wrap)
open Go.ChangeShapes Go.WideShapes Go.RowKit
theorem Zeh (w:World):Emb (tE w) ⟨0,[]⟩ w where
 fresh:=fun _ _=>rfl
 lt:=fun x B h=>by simp [Z7.get,Zz] at h
 own:=fun x B h=>by simp [Z7.get,Zz] at h
 disj:=fun x y B B' b N N' h=>absurd h (by simp [Z7.get,Zz])
 imm:=fun _ _ h=>h
 sep:=fun a c x B N _ h=>absurd h (by simp [Z7.get,Zz])
theorem Zi.topT {P:Program} {f:FuncId} {args:List AV} (h:Zi P f args ⟨0,[]⟩ fun o h'=>∃v,o=.ret v/\h'=⟨0,[]⟩/\v=.bool true) {w:World} {rs:List Value} (hl:Zr (tE w) args rs):
  Calls P f rs.toArray w fun e w'=>e=.returned (.bool true)/\Go.RowKit.Below w.heap.size w w':=by
 refine (h (tE w) w rs (Zeh w) hl).mono ?_
 rintro e w' ⟨E',o,h',⟨v,rfl,rfl,hv⟩,hev,hor⟩
 obtain rfl:=hv
 cases hor with
 | ret v r hr=>
  cases hr
  refine ⟨rfl,hev.os,hev.tape,hev.output.1,hev.size,fun k hk=>hev.keep k hk ?_⟩
  rintro ⟨x,B,N,hx,_⟩
  exact absurd hx (by simp [Z7.get,Zz])
def Z7j (P:Program) (m:Nat):List TypeId->Option (List (Bool×List Ty))
 | []=>some []
 | t::r=>(Z10 P m t).bind fun a=>(Z7j P m r).bind fun b=>some ((isAgg P t,a)::b)
inductive Z3O:List (Bool×List Ty)->List AV->Prop
 | nil:Z3O [] []
 | cons (g:Bool) (ts:List Ty) (a:AV) (r:List (Bool×List Ty)) (vz:List AV) (h:Z2v g ts a) (k:Z3O r vz):Z3O ((g,ts)::r) (a::vz)
section
variable {H:Type} {enc:TypeId×Value->H} {P:Program} {w:World}
theorem Z3P {m:Nat} {r:Reach} {b:Nat}:∀{ts:List TypeId} {τs:List (Bool×List Ty)} {vs:List Value} {ds:List (DataW H)} {ps:List MemPlace},Z7j P m ts=some τs->(∀(j:Nat) t v,ts[j]? =some t->vs[j]? =some v->Value.okWide P w r b t v)->
  DataW.TrodAll enc P w 0 (fun _=>true) true ts vs ds ps->∃vz,Z3O τs vz/\Zr (tE w) vz vs
 | [],τs,vs,ds,ps,ha,_,h=>by
  cases ha
  obtain ⟨rfl,_,_⟩:=trodAll_nil h
  exact ⟨[],.nil,.nil⟩
 | t::ts,τs,vs,ds,ps,ha,hv,h=>by
  obtain ⟨a,h1,h2⟩:=Jr.1 ha
  obtain ⟨c,h3,h4⟩:=Jr.1 h2
  cases h4
  obtain ⟨v,vs',d,ds',p,q,rfl,rfl,rfl,k1,k2⟩:=trodAll_cons h
  obtain ⟨x,f1,f2⟩:=ZaK h1 rfl (hv 0 t v rfl rfl) k1
  obtain ⟨vz,g1,g2⟩:=Z3P h3 (fun j t' v' e1 e2=>hv (j+1) t' v' e1 e2) k2
  exact ⟨x::vz,.cons _ _ _ _ _ f1 g1,.cons _ _ _ _ f2 g2⟩
theorem Z0O {sp:Nat->Bool} {held:Bool}:∀{ts:List TypeId} {vs:List Value} {ds:List (DataW H)} {ps:List MemPlace},DataW.TrodAll enc P w 0 sp held ts vs ds ps->ds.length=ts.length
 | [],_,_,_,h=>by obtain ⟨_,rfl,_⟩:=trodAll_nil h;rfl
 | t::ts,_,_,_,h=>by
  obtain ⟨v,vs',d,ds',p,q,rfl,rfl,rfl,k1,k2⟩:=trodAll_cons h
  simp [Z0O k2]
theorem Z3Q {W':World} (laid:laidOutB P=true) (hb:Below w.heap.size w W'):∀{ts:List TypeId} {vs:List Value} {ds:List (DataW H)} {ps:List MemPlace},ts.all (fun t=>P.readableRec t&&decide (t<P.types.size))=true->
  DataW.TrodAll enc P w 0 (fun _=>true) true ts vs ds ps->DataW.TrodAll enc P W' 0 (fun b=>decide (b<w.heap.size)) true ts vs ds ps
 | [],_,_,_,_,h=>by obtain ⟨rfl,rfl,rfl⟩:=trodAll_nil h;exact trodAll_mk0
 | t::ts,_,_,_,hr,h=>by
  obtain ⟨v,vs',d,ds',p,q,rfl,rfl,rfl,k1,k2⟩:=trodAll_cons h
  simp only [List.all_cons,J1,decide_eq_true_eq] at hr
  have lt:∀x∈p,x.block<w.heap.size:=by obtain ⟨m,hm⟩:=k1;exact DataW.trod_lt m _ _ _ hm
  exact trodAll_cons_mk (Below.trod laid hr.1.1 hr.1.2 k1 hb lt) (Z3Q laid hb hr.2 k2)
end
theorem lifted_gen {H:Type} {enc:TypeId×Value->H} {C:Checked} {os:Os} {f:FuncId} {fn:Func} {s:ChangeSpec} {conds:List PathCond} {tb:TypeId} {m:Nat} {τs:List (Bool×List Ty)}
  (own:ownKnob C.prog.godebug=none) (laid:laidOutB C.prog=true) (started:os.Started) (noInit:C.prog.inits.idxOf? f=none) (hfn:C.prog.funcs[f]? =some fn)
  (witness:∃(w:World) (tape:Tape) (i:Input),w.os=os/\(w.forCall tape i).Shaped C.prog/\i.vars=[]/\Input.okWide C.prog (w.forCall tape i) .any w.heap.size f i/\
   s.pre6 enc C.prog fn conds false (w.forCall tape i).memory i.args/\({}:Assume).holds C.prog (lone (Frame.enter C.prog f i.args .normal) [] (w.forCall tape i)))
  (hvars:s.vars=[]) (hr:fn.resultTypes= #[tb]) (hb:C.prog.underlying tb=some .bool) (hread:fn.params.toList.all (fun t=>C.prog.readableRec t&&decide (t<C.prog.types.size))=true) (hτ:Z7j C.prog m fn.params.toList=some τs)
  (hs:∀ds:List (DataW H),ds.length=fn.params.toList.length->s.fn H ds={ results:=[.lit (.bool true)],args:=ds})
  (walk:∀vz,Z3O τs vz->Zi C.prog f vz ⟨0,[]⟩ fun o h'=>∃v,o=.ret v/\h'=⟨0,[]⟩/\v=.bool true):
  ReturnsInHanded {} C os f .any (s.pre6 enc C.prog fn conds false) (s.post enc C.prog fn false true false false):=by
 refine returnsInHanded_of_change own started noInit hfn witness ?_
 intro W base args ds gs before hval hW _ _
 have hW':=hW
 obtain ⟨p,q,hA,hV,rfl,hfz,hnd⟩:=hW
 rw [hvars] at hV
 obtain ⟨rfl,rfl⟩:=trodVars_none hV
 obtain ⟨vz,f1,f2⟩:=Z3P hτ (fun j t v e1 e2=>hval j t v (by simp_all) (by simp_all)) hA
 have key:=(walk vz f1).topT f2
 refine key.mono fun e W' ⟨he,bel⟩=> ?_
 subst he
 have hfn':=hs ds (Z0O hA)
 refine ⟨_,rfl,ds,[],_,[],p,[],hW', ?_, ?_, ?_,bel.frame _,fun h=>by cases h⟩
 ·rw [Jx,hfn',hr]
  exact trodAll_mk1 (shut_bool hb _)
 ·rw [Jx,hfn']
  exact Z3Q laid bel hread hA
 ·rw [Jx,hfn',hvars]
  rfl
end Go.Tk
end
section
namespace Go.Tk
open IntKind (i64 u8 u32 u64 wrap)
variable {α:Type} {f:FuncId} {K:KO} {bl ms:LI} {B j:Nat} {H:LI->LI} {r:Zv} {g g':Nat->List AV} {args:List AV} {τ:Ren}
structure Bytes (xs:LI):Prop where
 h:∀i:Nat,0<=xs.getD i 0/\xs.getD i 0<=255
def inZ:InS:=⟨Zd,0,0,Zd,Zd,Zd⟩
def Zg8:Z0j:=⟨0,0,Zd,Zd,Zd,Zd,0,0⟩
theorem Z8b {a b:Int} (ha:0<=a/\a<256) (hb:0<=b/\b<256):(UF a=UF b↔a=b)/\(UF a<UF b↔a<b):=by
 grind [UF,UInt8.lt_iff_toNat_lt,UInt8.toNat_ofNat']
theorem Bytes.getD {xs:LI} (h:Bytes xs) (i:Nat):0<=xs.getD i 0/\xs.getD i 0<256:=by
 have:=h.h i
 omega
structure TxB (t:TxS):Prop where
 h:∀i,i<t.M->Bytes (t.outs i).owner/\Bytes (t.outs i).other
structure InS.By (x:InS):Prop where
 name:Bytes x.name
 tag:Bytes x.tag
 also:Bytes x.also
 secret:Bytes x.secret
structure Z0j.By (x:Z0j):Prop where
 owner:Bytes x.owner
 other:Bytes x.other
 point:Bytes x.point
 hash:Bytes x.hash
structure Zdw (t:TxS):Prop where
 ins:∀i,i<t.N->(t.ins i).By
 outs:∀i,i<t.M->(t.outs i).By
theorem Zdw.b {t:TxS} (h:Zdw t):TxB t:=⟨fun i hi=>⟨(h.outs i hi).owner,(h.outs i hi).other⟩⟩
theorem pick [Inhabited α] {n:Nat} {p:Nat->α->Prop} (h:∀i,i<n->∃a,p i a):∃f:Nat->α,∀i,i<n->p i (f i):=
 ⟨fun i=>if hi:i<n then Classical.choose (h i hi) else default,fun i hi=>by
  simp only [hi,dite_true]
  exact Classical.choose_spec (h i hi)⟩
instance:Inhabited InS:=⟨inZ⟩
instance:Inhabited Z0j:=⟨Zg8⟩
theorem Zi.conv {P:Program} {us bs:List AV} {h:Z7} (hc:Zi P f bs h K) (hr:∀E rs,Zr E us rs->Zr E bs rs):Zi P f us h K:=
 fun E w rs he hl=>hc E w rs he (hr E rs hl)
def Vi (a b c:Int):Nat->Int
 | 0=>0
 | i+1=>if 2<=u32.wrap (u32.wrap (Int.tmod (Zu .u32 a i) 2+Int.tmod (Zu .u32 b i) 2)+Int.tmod (Zu .u32 c i) 2) then u32.wrap (Vi a b c i+Zy .u32 1 i) else Vi a b c i
def VC (a b c:Int):Nat->Int
 | 0=>0
 | i+1=>u32.wrap (VC a b c i+Zy .u32 (if Int.tmod (Zu .u32 a i) 2=1 then Int.tmod (Zu .u32 b i) 2 else Int.tmod (Zu .u32 c i) 2) i)
def moS (a b c:Int) (o:Int) (i:Nat):St:=⟨33,[(8,.int .u64 i),(0,.int .u32 a),(1,.int .u32 b),(2,.int .u32 c),(7,.int .u32 o)],⟨0,[]⟩,[]⟩
def moR (o:Int):St:=⟨33,[(7,.int .u32 o)],⟨0,[]⟩,[]⟩
theorem Zdx {x:Int} (h:0<=x/\x<18446744073709551616):u64.wrap x=x:=by
 grind [wrap,IntKind.bits,IntKind.signed]
theorem Zei (a b c o o':Int) (i:Nat) (Z1 Z2:Prop) (hi:i<=32) (ho:o'=if 2<=u32.wrap (u32.wrap (Int.tmod (Zu .u32 a i) 2+Int.tmod (Zu .u32 b i) 2)+Int.tmod (Zu .u32 c i) 2) then u32.wrap (o+Zy .u32 1 i) else o) (h1:i<32->Z1) (h2:i=32->Z2):
  ZL G0 20 142 0 0 (moS a b c o i) (rdM 0 0 9 (moS a b c o' (i+1)) (moR o) (moR o) (moR o) Z1 Z2 False False):=by
 refine @Eq.mpr _ (let g:=decide (wrap u64 ((↑i:Int)+1)=(↑(i+1):Int));let f:=decide (a=a);let e:=decide (b=b);let d:=decide (c=c);
 Z8 (decide ((↑i:Int)<32)) (Z8 (decide (wrap u32 (wrap u32 (Int.tmod (Zu u32 a (↑i:Int)) 2+Int.tmod (Zu u32 b (↑i:Int)) 2)+Int.tmod (Zu u32 c (↑i:Int)) 2)>=2)) (Z0 g (Z0 f (Z0 e (Z0 d (Z5 (wrap u32 (o+Zy u32 1 (↑i:Int))=o') Z1))))) (Z0 g (Z0 f (Z0 e (Z0 d (Z5 (o=o') Z1)))))) (Z5 (o=o) Z2)) (by kernel_rfl) ?_
 conv=>zeta
 try simp only [vcA]
 try simp only [vcB]
 try simp only [vcC]
 have hw:u64.wrap ((i:Int)+1)=((i+1:Nat):Int):=Zdx (by omega)
 refine ⟨fun hlt=>⟨fun hc=> ?_,fun hc=> ?_⟩,fun hge=>h2 (by omega)⟩
 ·rw [if_pos hc] at ho
  exact ⟨hw,ho.symm,h1 (by omega)⟩
 ·rw [if_neg hc] at ho
  exact ⟨hw,ho.symm,h1 (by omega)⟩
theorem Zej (a b c o o':Int) (i:Nat) (Z1 Z2:Prop) (hi:i<=32) (ho:o'=u32.wrap (o+Zy .u32 (if Int.tmod (Zu .u32 a i) 2=1 then Int.tmod (Zu .u32 b i) 2 else Int.tmod (Zu .u32 c i) 2) i)) (h1:i<32->Z1) (h2:i=32->Z2):
  ZL G0 20 141 0 0 (moS a b c o i) (rdM 0 0 9 (moS a b c o' (i+1)) (moR o) (moR o) (moR o) Z1 Z2 False False):=by
 refine @Eq.mpr _ (let g:=decide (wrap u64 ((↑i:Int)+1)=(↑(i+1):Int));let f:=decide (a=a);let e:=decide (b=b);let d:=decide (c=c);
 Z8 (decide ((↑i:Int)<32)) (Z8 (Int.tmod (Zu u32 a (↑i:Int)) 2==1) (Z0 g (Z0 f (Z0 e (Z0 d (Z5 (wrap u32 (o+Zy u32 (Int.tmod (Zu u32 b (↑i:Int)) 2) (↑i:Int))=o') Z1))))) (Z0 g (Z0 f (Z0 e (Z0 d (Z5 (wrap u32 (o+Zy u32 (Int.tmod (Zu u32 c (↑i:Int)) 2) (↑i:Int))=o') Z1)))))) (Z5 (o=o) Z2)) (by kernel_rfl) ?_
 conv=>zeta
 try simp only [vcA]
 try simp only [vcB]
 try simp only [vcC]
 have hw:u64.wrap ((i:Int)+1)=((i+1:Nat):Int):=Zdx (by omega)
 refine ⟨fun hlt=>⟨fun hc=> ?_,fun hc=> ?_⟩,fun hge=>h2 (by omega)⟩
 ·rw [if_pos (by simpa using hc)] at ho
  exact ⟨hw,ho.symm,h1 (by omega)⟩
 ·rw [if_neg (by simpa using hc)] at ho
  exact ⟨hw,ho.symm,h1 (by omega)⟩
@[irreducible] def YY (a b c:Int):Int:=Vi a b c 32
@[irreducible] def YS (a b c:Int):Int:=VC a b c 32
noncomputable def Zfe (a b c:Int):Zh:=G0.withL 142 0 (goM 0 (moS a b c 0 0) True (YC 0 32 9 (fun i=>i<32) (fun i=>i=32) (fun _=>False) (fun _=>False) (fun i=>moR (Vi a b c i)) (fun i=>moR (Vi a b c i)) (fun i=>moR (Vi a b c i))))
theorem Zcq (a b c:Int):(Zfe a b c).Ok:=by
 refine Zh.withGoM (N:=20) (S:=fun i=>moS a b c (Vi a b c i) i) ZD (by kernel_rfl) fun hC=>⟨rfl,fun i hi hgo=> ?_⟩
 simp_all [Zei,Vi]
noncomputable def Zff (a b c:Int):Zh:=G0.withL 141 0 (goM 0 (moS a b c 0 0) True (YC 0 32 9 (fun i=>i<32) (fun i=>i=32) (fun _=>False) (fun _=>False) (fun i=>moR (VC a b c i)) (fun i=>moR (VC a b c i)) (fun i=>moR (VC a b c i))))
theorem Zcr (a b c:Int):(Zff a b c).Ok:=by
 refine Zh.withGoM (N:=20) (S:=fun i=>moS a b c (VC a b c i) i) ZD (by kernel_rfl) fun hC=>⟨rfl,fun i hi hgo=> ?_⟩
 simp_all [Zej,VC]
theorem Zek (a b c:Int) (o:Int) (ho:o=Vi a b c 32):
  evF (Zfe a b c) 20 142 [.int .u32 a,.int .u32 b,.int .u32 c] ⟨0,[]⟩ (W5 0 [] (.int .u32 o) 0 []):=by
 refine @Eq.mpr _ (Z5 (a=a) (Z5 (b=b) (Z5 (c=c) (True/\∀(i:Nat),i<=32->(∀(j:Nat),j<i->(fun (i:Nat)=>i<32) j)->(i=32->Z5 (Vi a b c i=o) True)/\(False->False)/\(False->False))))) (by kernel_rfl) ?_
 try simp only [vcA]
 try simp only [vcB]
 try simp only [vcC]
 subst ho
 exact fun i hi _=>⟨fun he=>by subst he;rfl,fun h=>h,fun h=>h⟩
theorem Zel (a b c:Int) (o:Int) (ho:o=VC a b c 32):
  evF (Zff a b c) 20 141 [.int .u32 a,.int .u32 b,.int .u32 c] ⟨0,[]⟩ (W5 0 [] (.int .u32 o) 0 []):=by
 refine @Eq.mpr _ (Z5 (a=a) (Z5 (b=b) (Z5 (c=c) (True/\∀(i:Nat),i<=32->(∀(j:Nat),j<i->(fun (i:Nat)=>i<32) j)->(i=32->Z5 (VC a b c i=o) True)/\(False->False)/\(False->False))))) (by kernel_rfl) ?_
 try simp only [vcA]
 try simp only [vcB]
 try simp only [vcC]
 subst ho
 exact fun i hi _=>⟨fun he=>by subst he;rfl,fun h=>h,fun h=>h⟩
def Z1p (F:Int->Int->Int->Int):YJ:=fun args _ K=>match args with
 | [.int .u32 a,.int .u32 b,.int .u32 c]=>K (.int .u32 (F a b c))
 | _=>False
theorem Z2w {F:Int->Int->Int->Int} (hp:∀a b c,Ya PP f [.int .u32 a,.int .u32 b,.int .u32 c] (.int .u32 (F a b c)) 0 []) (args:List AV) (h:Z7) (K:AV->Prop) (hl:Z1p F args h K):Zi PP f args h fun o h'=>∃v,o=.ret v/\h'=h/\K v:=by
 unfold Z1p at hl
 split at hl
 ·rename_i a b c
  refine QJ (d:=20) (K0:=fun l=>l=[.int .u32 a,.int .u32 b,.int .u32 c]) ?_ fun l e=>⟨_,by simp_all,fun _=>rfl,hl⟩
  rfl
 simp_all
def sg3 (a b c:Int) (w:Int):Int:=Ys .u32 (Ys .u32 (Z75 w (32-a)) (Z75 w (32-b))) (Z75 w (32-c))
def rg3 (a b n:Int) (w:Int):Int:=Ys .u32 (Ys .u32 (Z75 w (32-a)) (Z75 w (32-b))) (Zu .u32 w n)
def Z7k (bl:LI) (t:Nat):Int:=u32.wrap (u32.wrap (u32.wrap (Zy .u32 (u32.wrap (bl.getD (4*t) 0)) 24+Zy .u32 (u32.wrap (bl.getD (4*t+1) 0)) 16)+Zy .u32 (u32.wrap (bl.getD (4*t+2) 0)) 8)+u32.wrap (bl.getD (4*t+3) 0))
def ZaL (m:LI) (t:Nat):Int:=u32.wrap (u32.wrap (u32.wrap (rg3 17 19 10 (m.getD (t-2) 0)+m.getD (t-7) 0)+rg3 7 18 3 (m.getD (t-15) 0))+m.getD (t-16) 0)
def W6 (bl:LI):Nat->LI
 | 0=>List.replicate 64 0
 | t+1=>(W6 bl t).set t (if t<16 then Z7k bl t else ZaL (W6 bl t) t)
theorem Z2x (bl:LI):∀t,(W6 bl t).length=64
 | 0=>rfl
 | t+1=>by simp [W6,Z2x bl t]
def prS (st bl m:LI) (i:Nat):St:=⟨146,[(6,.int .i64 i),(3,pt 1),(5,pt 3),(2,pt 0),(4,pt 2)],⟨4,[(3,.flat [.arr .u32 64 m]),(2,.flat [.arr .u32 8 [0,0,0,0,0,0,0,0]]),(1,.flat [.arr .u8 64 bl]),(0,.flat [.arr .u32 8 st])]⟩,[]⟩
theorem Zg9 (st bl m m':LI) (i:Nat) (Z1 Z2:Prop) (hi:i<=64) (hm:m.length=64) (hm':m'=m.set i (if i<16 then Z7k bl i else ZaL m i)) (h1:i<64->Z1) (h2:i=64->Z2):
  ZL G0 20 110 0 0 (prS st bl m i) (rdM 0 0 9 (prS st bl m' (i+1)) (prS st bl m i) (prS st bl m i) (prS st bl m i) Z1 Z2 False False):=by
 refine @Eq.mpr _ (let b:=wrap i64 (4*(↑i:Int));let A:=0+Int.toNat b;let h:=wrap i64 (b+1);let u:=0+Int.toNat h;let f:=wrap i64 (b+2);let t:=0+Int.toNat f;let e:=wrap i64 (b+3);let s:=0+Int.toNat e;let r:=decide (0<=(↑i:Int)/\(↑i:Int)<64);let d:=0+Int.toNat (↑i:Int);let H:=decide (u32=u32/\d<64/\d<m.length);let G:=decide (wrap i64 ((↑i:Int)+1)=(↑(i+1):Int));let F:=[(0:Int),0,0,0,0,0,0,0];let E:=F=F;let D:=E/\bl=bl/\st=st/\Z1;let q:=wrap i64 ((↑i:Int)-2);let C:=0+Int.toNat q;let p:=wrap i64 ((↑i:Int)-7);let B:=0+Int.toNat p;let o:=decide (B<64);let n:=wrap i64 ((↑i:Int)-15);let z:=0+Int.toNat n;let y:=decide (z<64);let l:=wrap i64 ((↑i:Int)-16);let x:=0+Int.toNat l;let k:=decide (x<64);let j:=List.getD m x 0;let w:=decide (j=j);let a:=List.getD m z 0;let g:=List.getD m B 0;let v:=decide (g=g);let c:=List.getD m C 0;
 Z8 (decide ((↑i:Int)<64)) (Z8 (decide ((↑i:Int)<16)) (Z5 (0<=b/\b<64) (Z5 (A<64) (Z5 (0<=h/\h<64) (Z5 (u<64) (Z5 (0<=f/\f<64) (Z5 (t<64) (Z5 (0<=e/\e<64) (Z5 (s<64) (Z0 r (Z0 H (Z0 G (List.set m d (wrap u32 (wrap u32 (wrap u32 (Zy u32 (wrap u32 (List.getD bl A 0)) 24+Zy u32 (wrap u32 (List.getD bl u 0)) 16)+Zy u32 (wrap u32 (List.getD bl t 0)) 8)+wrap u32 (List.getD bl s 0)))=m'/\D)))))))))))) (Z5 (0<=q/\q<64) (Z5 (C<64) (Z5 (0<=p/\p<64) (Z0 o (Z5 (0<=n/\n<64) (Z0 y (Z5 (0<=l/\l<64) (Z0 k (Z0 k (Z0 w (Z0 y (Z5 (a=a) (Z0 o (Z0 v (Z0 k (Z0 w (Z0 o (Z0 v (Z0 r (Z0 H (Z0 G (List.set m d (wrap u32 (wrap u32 (wrap u32 (Ys u32 (Ys u32 (bOr u32 (Zy u32 c 15) (Zu u32 c 17)) (bOr u32 (Zy u32 c 13) (Zu u32 c 19))) (Zu u32 c 10)+g)+Ys u32 (Ys u32 (bOr u32 (Zy u32 a 25) (Zu u32 a 7)) (bOr u32 (Zy u32 a 14) (Zu u32 a 18))) (Zu u32 a 3))+j))=m'/\D))))))))))))))))))))))) (Z5 ((↑i:Int)=(↑i:Int)) (m=m/\E/\bl=bl/\st=st/\Z2))) (by kernel_rfl) ?_
 conv=>zeta
 try simp only [vcA]
 try simp only [vcB]
 try simp only [vcC]
 have hw:i64.wrap ((i:Int)+1)=((i+1:Nat):Int):=w64 (by omega)
 refine ⟨fun hlt=>⟨fun h16=> ?_,fun h16=> ?_⟩,fun hge=>h2 (by omega)⟩
 ·have e0:i64.wrap (4*(i:Int))=((4*i:Nat):Int):=by rw [w64 (by omega)];omega
  have e1:i64.wrap (((4*i:Nat):Int)+1)=((4*i+1:Nat):Int):=by rw [w64 (by omega)];omega
  have e2:i64.wrap (((4*i:Nat):Int)+2)=((4*i+2:Nat):Int):=by rw [w64 (by omega)];omega
  have e3:i64.wrap (((4*i:Nat):Int)+3)=((4*i+3:Nat):Int):=by rw [w64 (by omega)];omega
  rw [if_pos (by omega)] at hm'
  simp only [e0,e1,e2,e3,hw,JS]
  repeat' (first|(refine Jv ?_ ?_)|intro _)
  all_goals first|omega|exact hm'.symm|exact h1 (by omega)|trivial
 ·have e0:i64.wrap ((i:Int)-2)=((i-2:Nat):Int):=by rw [w64 (by omega)];omega
  have e1:i64.wrap ((i:Int)-7)=((i-7:Nat):Int):=by rw [w64 (by omega)];omega
  have e2:i64.wrap ((i:Int)-15)=((i-15:Nat):Int):=by rw [w64 (by omega)];omega
  have e3:i64.wrap ((i:Int)-16)=((i-16:Nat):Int):=by rw [w64 (by omega)];omega
  rw [if_neg (by omega)] at hm'
  simp only [e0,e1,e2,e3,hw]
  repeat' (first|(refine Jv ?_ ?_))
  all_goals first|omega|exact hm'.symm|exact h1 (by omega)|trivial
noncomputable def Zfg (st bl:LI):Zh:=G0.withL 110 0 (goM 0 (prS st bl (List.replicate 64 0) 0) True (YC 0 64 9 (fun i=>i<64) (fun i=>i=64) (fun _=>False) (fun _=>False) (fun i=>prS st bl (W6 bl i) i) (fun i=>prS st bl (W6 bl i) i) (fun i=>prS st bl (W6 bl i) i)))
theorem Zcs (st bl:LI):(Zfg st bl).Ok:=by
 refine Zh.withGoM (N:=20) (S:=fun i=>prS st bl (W6 bl i) i) ZD (by kernel_rfl) fun hC=>⟨rfl,fun i hi hgo=> ?_⟩
 simp_all [Zg9,W6,Z2x]
noncomputable def E54 (M P:Int->Int->Int->Int):Zh:=(G0.withP 142 (Z1p M)).withP 141 (Z1p P)
theorem Zem:(E54 YY YS).Ok:=Zh.withP_ok (Zh.withP_ok ZD (Z2w fun a b c=>by unfold YY;exact .ev (Zcq a b c) (Zek a b c _ rfl))) (Z2w fun a b c=>by unfold YS;exact .ev (Zcr a b c) (Zel a b c _ rfl))
def Z0P (M P:Int->Int->Int->Int) (k m:Int) (x:LI):LI:=
 let one:=u32.wrap (u32.wrap (u32.wrap (u32.wrap (x.getD 7 0+sg3 6 11 25 (x.getD 4 0))+P (x.getD 4 0) (x.getD 5 0) (x.getD 6 0))+k)+m)
 [u32.wrap (one+u32.wrap (sg3 2 13 22 (x.getD 0 0)+M (x.getD 0 0) (x.getD 1 0) (x.getD 2 0))),x.getD 0 0,x.getD 1 0,x.getD 2 0,u32.wrap (x.getD 3 0+one),x.getD 4 0,x.getD 5 0,x.getD 6 0]
def Ub (M P:Int->Int->Int->Int) (m st:LI):Nat->LI
 | 0=>st
 | t+1=>Z0P M P (WY.getD t 0) (m.getD t 0) (Ub M P m st t)
theorem Z9e (M P:Int->Int->Int->Int) (m st:LI) (t:Nat):Ub M P m st (t+1)=Z0P M P (WY.getD t 0) (m.getD t 0) (Ub M P m st t):=rfl
theorem Z9f (M P:Int->Int->Int->Int) (m st:LI):Ub M P m st 0=st:=rfl
theorem QP {M P:Int->Int->Int->Int} {m st:LI} (h:st.length=8):∀t,(Ub M P m st t).length=8
 | 0=>h
 | _+1=>rfl
def prT (st k m x:LI) (i:Nat):St:=⟨146,[(9,.int .i64 i),(8,pt 6),(7,pt 5),(5,pt 3),(2,pt 0),(4,pt 2)],⟨7,[(6,.flat [.arr .u32 8 x]),(5,.flat [.arr .u32 64 k]),(3,.flat [.arr .u32 64 m]),(2,.flat [.arr .u32 8 [0,0,0,0,0,0,0,0]]),(0,.flat [.arr .u32 8 st])]⟩,[]⟩
def prU (st x:LI):St:=⟨146,[(8,pt 6),(2,pt 0),(4,pt 2)],⟨7,[(6,.flat [.arr .u32 8 x]),(2,.flat [.arr .u32 8 [0,0,0,0,0,0,0,0]]),(0,.flat [.arr .u32 8 st])]⟩,[]⟩
theorem Zga (M P:Int->Int->Int->Int) (st k m x':LI) (x0 x1 x2 x3 x4 x5 x6 x7:Int) (i:Nat) (Z1 Z2:Prop) (hi:i<=64) (hx:x'=Z0P M P (k.getD i 0) (m.getD i 0) [x0,x1,x2,x3,x4,x5,x6,x7]) (h1:i<64->Z1) (h2:i=64->Z2):
  ZL (E54 M P) 20 110 2 0 (prT st k m [x0,x1,x2,x3,x4,x5,x6,x7] i) (rdM 0 2 9 (prT st k m x' (i+1)) (prU st [x0,x1,x2,x3,x4,x5,x6,x7]) (prU st [x0,x1,x2,x3,x4,x5,x6,x7]) (prU st [x0,x1,x2,x3,x4,x5,x6,x7]) Z1 Z2 False False):=by
 refine @Eq.mpr _ (let l:=decide (0<=(↑i:Int)/\(↑i:Int)<64);let a:=0+Int.toNat (↑i:Int);let h:=decide (a<64);let g:=decide (a<64);let c:=List.getD m a 0;let b:=List.getD k a 0;let f:=wrap u32 (wrap u32 (wrap u32 (wrap u32 (x7+Ys u32 (Ys u32 (bOr u32 (Zy u32 x4 26) (Zu u32 x4 6)) (bOr u32 (Zy u32 x4 21) (Zu u32 x4 11))) (bOr u32 (Zy u32 x4 7) (Zu u32 x4 25)))+P x4 x5 x6)+b)+c);let e:=[(0:Int),0,0,0,0,0,0,0];let d:=e=e;let j:=[x0,x1,x2,x3,x4,x5,x6,x7];
 Z8 (decide ((↑i:Int)<64)) (Z0 l (Z0 h (Z0 l (Z0 g (Z0 g (Z5 (c=c) (Z0 h (Z5 (b=b) (Z5 (x6=x6) (Z5 (x5=x5) (Z5 (x4=x4) (Z5 (x7=x7) (Z5 (x2=x2) (Z5 (x1=x1) (Z5 (x0=x0) (Z5 (wrap i64 ((↑i:Int)+1)=(↑(i+1):Int)) ([wrap u32 (f+wrap u32 (Ys u32 (Ys u32 (bOr u32 (Zy u32 x0 30) (Zu u32 x0 2)) (bOr u32 (Zy u32 x0 19) (Zu u32 x0 13))) (bOr u32 (Zy u32 x0 10) (Zu u32 x0 22))+M x0 x1 x2)),x0,x1,x2,wrap u32 (x3+f),x4,x5,x6]=x'/\k=k/\m=m/\d/\st=st/\Z1))))))))))))))))) (j=j/\d/\st=st/\Z2)) (by kernel_rfl) ?_
 conv=>zeta
 try simp only [vcA]
 try simp only [vcB]
 try simp only [vcC]
 have hw:i64.wrap ((i:Int)+1)=((i+1:Nat):Int):=w64 (by omega)
 refine ⟨fun hlt=> ?_,fun hge=>h2 (by omega)⟩
 rw [hw]
 repeat' (first|(refine Jv ?_ ?_)|intro _)
 all_goals first|omega|exact hx.symm|exact h1 (by omega)|trivial
def prV (st x:LI) (i:Nat):St:=⟨146,[(12,.int .i64 i),(8,pt 6),(2,pt 0),(4,pt 2)],⟨7,[(6,.flat [.arr .u32 8 x]),(2,.flat [.arr .u32 8 [0,0,0,0,0,0,0,0]]),(0,.flat [.arr .u32 8 st])]⟩,[]⟩
def Vj (st x:LI):Nat->LI
 | 0=>x
 | i+1=>(Vj st x i).set i (u32.wrap ((Vj st x i).getD i 0+st.getD i 0))
theorem Z2y {st x:LI} (h:x.length=8):∀i,(Vj st x i).length=8
 | 0=>h
 | i+1=>by simp [Vj,Z2y h i]
theorem Zgb (st x x':LI) (i:Nat) (Z1 Z2:Prop) (hi:i<=8) (hl:x.length=8) (hs:st.length=8) (hx:x'=x.set i (u32.wrap (x.getD i 0+st.getD i 0))) (h1:i<8->Z1) (h2:i=8->Z2):
  ZL G0 20 110 4 0 (prV st x i) (rdM 0 4 9 (prV st x' (i+1)) (prU st x) (prU st x) (prU st x) Z1 Z2 False False):=by
 refine @Eq.mpr _ (let b:=decide (0<=(↑i:Int)/\(↑i:Int)<8);let a:=0+Int.toNat (↑i:Int);let d:=[(0:Int),0,0,0,0,0,0,0];let c:=d=d;
 Z8 (decide ((↑i:Int)<8)) (Z0 b (Z5 (a<8) (Z0 b (Z5 (a<8) (Z0 b (Z5 (u32=u32/\a<8/\a<x.length) (Z5 (wrap i64 ((↑i:Int)+1)=(↑(i+1):Int)) (List.set x a (wrap u32 (List.getD x a 0+List.getD st a 0))=x'/\c/\st=st/\Z1)))))))) (x=x/\c/\st=st/\Z2)) (by kernel_rfl) ?_
 conv=>zeta
 try simp only [vcA]
 try simp only [vcB]
 try simp only [vcC]
 have hw:i64.wrap ((i:Int)+1)=((i+1:Nat):Int):=w64 (by omega)
 refine ⟨fun hlt=> ?_,fun hge=>h2 (by omega)⟩
 rw [hw]
 repeat' (first|(refine Jv ?_ ?_)|intro _)
 all_goals first|omega|exact hx.symm|exact h1 (by omega)|trivial
def Zfh (M P:Int->Int->Int->Int) (st m:LI):Nat->St->KE->Prop:=goM 0 (prT st WY m st 0) (st.length=8) (YC 2 64 9 (fun i=>i<64) (fun i=>i=64) (fun _=>False) (fun _=>False) (fun i=>prU st (Ub M P m st i)) (fun i=>prU st (Ub M P m st i)) (fun i=>prU st (Ub M P m st i)))
theorem Zct (st m:LI):((E54 YY YS).withL 110 2 (Zfh YY YS st m)).Ok:=by
 refine Zh.withGoM (N:=20) (S:=fun i=>prT st WY m (Ub YY YS m st i) i) Zem (by kernel_rfl) fun hC=>⟨rfl,fun i hi hgo=> ?_⟩
 obtain ⟨x0,x1,x2,x3,x4,x5,x6,x7,e⟩:=eight _ (QP (M:=YY) (P:=YS) (m:=m) hC i)
 show ZL _ 20 110 2 0 (prT st WY m (Ub YY YS m st i) i) (rdM 0 2 9 (prT st WY m (Z0P YY YS (WY.getD i 0) (m.getD i 0) (Ub YY YS m st i)) (i+1)) _ _ _ _ _ _ _)
 rw [e]
 exact Zga YY YS st WY m _ x0 x1 x2 x3 x4 x5 x6 x7 i _ _ hi rfl (fun h=>⟨h,h⟩) (fun h=>h)
def Zfi (st x:LI):Nat->St->KE->Prop:=goM 0 (prV st x 0) (st.length=8/\x.length=8) (YC 4 8 9 (fun i=>i<8) (fun i=>i=8) (fun _=>False) (fun _=>False) (fun i=>prU st (Vj st x i)) (fun i=>prU st (Vj st x i)) (fun i=>prU st (Vj st x i)))
theorem Zcu (st x:LI):(G0.withL 110 4 (Zfi st x)).Ok:=by
 refine Zh.withGoM (N:=20) (S:=fun i=>prV st (Vj st x i) i) ZD (by kernel_rfl) fun hC=>⟨rfl,fun i hi hgo=> ?_⟩
 simp_all [Zgb,Vj,Z2y]
noncomputable def Zfj (M P:Int->Int->Int->Int) (st bl m x:LI):Zh:=((Zfg st bl).withL 110 2 (Zfh M P st m)).withL 110 4 (Zfi st x)
theorem Zcv (st bl m x:LI):(Zfj YY YS st bl m x).Ok:=by
 exact Zh.withL_join (H:=G0) (Zh.withL_join (H:=E54 YY YS) (Zcs st bl) rfl (Zct st m)) rfl (Zcu st x)
@[irreducible] def Xn (st bl:LI):LI:=Vj st (Ub YY YS (W6 bl 64) st 64) 8
attribute [irreducible] W6 Ub Vj
theorem Zgc (M P:Int->Int->Int->Int) (st bl m x r:LI) (hst:st.length=8) (hm:m=W6 bl 64) (hx:x=Ub M P m st 64) (hr:r=Vj st x 8):
  evF (Zfj M P st bl m x) 20 110 [.agg [.arr .u32 8 st],.agg [.arr .u8 64 bl]] ⟨0,[]⟩ (W5 0 [] (.agg [.arr .u32 8 r]) 0 []):=by
 refine @Eq.mpr _ ((0:Int)::(0:Int)::(0:Int)::(0:Int)::(0:Int)::(0:Int)::(0:Int)::(0:Int)::(0:Int)::(0:Int)::(0:Int)::(0:Int)::(0:Int)::(0:Int)::(0:Int)::(0:Int)::(0:Int)::(0:Int)::(0:Int)::(0:Int)::(0:Int)::(0:Int)::(0:Int)::(0:Int)::(0:Int)::(0:Int)::(0:Int)::(0:Int)::(0:Int)::(0:Int)::(0:Int)::(0:Int)::Zd=(0:Int)::(0:Int)::(0:Int)::(0:Int)::(0:Int)::(0:Int)::(0:Int)::(0:Int)::(0:Int)::(0:Int)::(0:Int)::(0:Int)::(0:Int)::(0:Int)::(0:Int)::(0:Int)::(0:Int)::(0:Int)::(0:Int)::(0:Int)::(0:Int)::(0:Int)::(0:Int)::(0:Int)::(0:Int)::(0:Int)::(0:Int)::(0:Int)::(0:Int)::(0:Int)::(0:Int)::(0:Int)::Zd/\
 [(0:Int),(0:Int),(0:Int),(0:Int),(0:Int),(0:Int),(0:Int),(0:Int)]=[(0:Int),(0:Int),(0:Int),(0:Int),(0:Int),(0:Int),(0:Int),(0:Int)]/\
 bl=bl/\
 st=st/\
 True/\
 ∀(i:Nat),
 i<=(64:Nat)->
 (∀(j:Nat),j<i->(fun (i:Nat)=>i<(64:Nat)) j)->
 (i=(64:Nat)->
 st=st/\
 [(1116352408:Int),(1899447441:Int),(3049323471:Int),(3921009573:Int),(961987163:Int),(1508970993:Int),(2453635748:Int),(2870763221:Int),(3624381080:Int),(310598401:Int),(607225278:Int),(1426881987:Int),(1925078388:Int),(2162078206:Int),(2614888103:Int),(3248222580:Int),(3835390401:Int),(4022224774:Int),(264347078:Int),(604807628:Int),(770255983:Int),(1249150122:Int),(1555081692:Int),(1996064986:Int),(2554220882:Int),(2821834349:Int),(2952996808:Int),(3210313671:Int),(3336571891:Int),(3584528711:Int),(113926993:Int),(338241895:Int),(666307205:Int),(773529912:Int),(1294757372:Int),(1396182291:Int),(1695183700:Int),(1986661051:Int),(2177026350:Int),(2456956037:Int),(2730485921:Int),(2820302411:Int),(3259730800:Int),(3345764771:Int),(3516065817:Int),(3600352804:Int),(4094571909:Int),(275423344:Int),(430227734:Int),(506948616:Int),
 (659060556:Int),(883997877:Int),(958139571:Int),(1322822218:Int),(1537002063:Int),(1747873779:Int),(1955562222:Int),(2024104815:Int),(2227730452:Int),(2361852424:Int),(2428436474:Int),(2756734187:Int),(3204031479:Int),(3329325298:Int)]=
 WY/\
 W6 bl i=m/\
 [(0:Int),(0:Int),(0:Int),(0:Int),(0:Int),(0:Int),(0:Int),(0:Int)]=[(0:Int),(0:Int),(0:Int),(0:Int),(0:Int),(0:Int),(0:Int),(0:Int)]/\st=st/\st.length=(8:Nat)/\∀(i:Nat),i<=(64:Nat)->(∀(j:Nat),j<i->(fun (i:Nat)=>i<(64:Nat)) j)->(i=(64:Nat)->Ub M P m st i=x/\[(0:Int),(0:Int),(0:Int),(0:Int),(0:Int),(0:Int),(0:Int),(0:Int)]=[(0:Int),(0:Int),(0:Int),(0:Int),(0:Int),(0:Int),(0:Int),(0:Int)]/\st=st/\(st.length=(8:Nat)/\x.length=(8:Nat))/\∀(i:Nat),i<=(8:Nat)->(∀(j:Nat),j<i->(fun (i:Nat)=>i<(8:Nat)) j)->(i=(8:Nat)->Vj st x i=r/\True)/\(False->[(0:Int),(0:Int),(0:Int),(0:Int),(0:Int),(0:Int),(0:Int),(0:Int)]=r/\True)/\(False->False))/\(False->[(0:Int),(0:Int),(0:Int),(0:Int),(0:Int),(0:Int),(0:Int),(0:Int)]=r/\True)/\(False->False))/\
 (False->[(0:Int),(0:Int),(0:Int),(0:Int),(0:Int),(0:Int),(0:Int),(0:Int)]=r/\True)/\(False->False)) (by kernel_rfl) ?_
 try simp only [vcA]
 try simp only [vcB]
 try simp only [vcC]
 subst hm
 have hl:x.length=8:=by rw [hx];exact QP hst _
 exact fun i _ _=>⟨fun he=>⟨by kernel_rfl,by rw [he],hst,fun j _ _=>⟨fun hj=>⟨by rw [hj,hx],⟨hst,hl⟩,fun q _ _=>⟨fun hq=>by rw [hq,hr],fun h=>h.elim,fun h=>h⟩⟩,fun h=>h.elim,fun h=>h⟩⟩,fun h=>h.elim,fun h=>h⟩
theorem Z5J (st bl:LI) (h:st.length=8):Ya PP 110 [.agg [.arr .u32 8 st],.agg [.arr .u8 64 bl]] (.agg [.arr .u32 8 (Xn st bl)]) 0 []:=by
 unfold Xn
 exact .ev (Zcv st bl _ _) (Zgc YY YS st bl _ _ _ h rfl rfl rfl)
theorem Z4M {st:LI} (h:st.length=8):(Xn st bl).length=8:=by simp_all [Xn,Z2y,QP]
def Zcw (n i:Int):Int:=u8.wrap (Int.tmod (Zu .u64 (u64.wrap (u64.wrap n*8)) (u64.wrap (i64.wrap (56-i64.wrap (8*i))))) 256)
def W7 (n:Int):Nat->LI
 | 0=>[]
 | i+1=>W7 n i++[Zcw n i]
theorem Z2z (n:Int):∀i,(W7 n i).length=i
 | 0=>rfl
 | i+1=>by rw [W7,J7,Z2z n i];rfl
def paS (bs ys:LI) (n L i:Nat):St:=⟨39,[(5,.int .i64 i),(4,.nslice ⟨3,0,0,0,0⟩ 1 L L),(0,.vints .u8 bs n)],⟨4,[(3,.ints .u8 ys)]⟩,[]⟩
theorem Zfk (bs ys zs:LI) (n L L' i:Nat) (Z1 Z2:Prop) (hi:i<=8) (hL:ys.length=L) (hb:L<10000000000000) (hz:zs=ys++[Zcw n i]) (hL':L'=zs.length) (h1:i<8->Z1) (h2:i=8->Z2):
  ZL G0 20 109 0 0 (paS bs ys n L i) (rdM 0 0 9 (paS bs zs n L' (i+1)) (paS bs ys n L i) (paS bs ys n L i) (paS bs ys n L i) Z1 Z2 False False):=by
 refine @Eq.mpr _ (let d:=wrap u64 (wrap i64 (56-wrap i64 (8*(↑i:Int))));let c:=ys++[wrap u8 (Int.tmod (Zu u64 (wrap u64 (wrap u64 (↑n:Int)*8)) d) 256)];let a:=c.length;let b:=decide (n=n);
 Z8 (decide ((↑i:Int)<8)) (Z5 (0<=d) (Z5 (u8=u8/\ys.length=L) (Z5 (a*1<=140737488355328) (Z5 (wrap i64 ((↑i:Int)+1)=(↑(i+1):Int)) (Z5 (a=L') (Z5 (L'<=a) (bs=bs/\Z0 b (c=zs/\Z1)))))))) (Z5 ((↑i:Int)=(↑i:Int)) (Z5 (L=L) (Z5 (L<=L) (bs=bs/\Z0 b (ys=ys/\Z2)))))) (by kernel_rfl) ?_
 conv=>zeta
 try simp only [vcA]
 try simp only [vcB]
 try simp only [vcC]
 have hw:i64.wrap ((i:Int)+1)=((i+1:Nat):Int):=w64 (by omega)
 refine ⟨fun hlt=> ?_,fun hge=>h2 (by omega)⟩
 have hz':zs.length=L+1:=by rw [hz,J7,hL];rfl
 have h0:0<=u64.wrap (i64.wrap (56-i64.wrap (8*(i:Int)))):=by
  unfold wrap
  simp [IntKind.bits,IntKind.signed]
  omega
 simp only [J7,Jy,List.length_nil]
 rw [hw]
 repeat' (first|(refine Jv ?_ ?_)|intro _)
 all_goals first|exact h0|omega|exact hz.symm|exact h1 (by omega)|trivial
noncomputable def Zfl (bs y:LI) (n:Nat):Zh:=G0.withL 109 0 (goM 0 (paS bs (y++W7 n 0) n (y++W7 n 0).length 0) (y.length<=1000000000000) (YC 0 8 9 (fun i=>i<8) (fun i=>i=8) (fun _=>False) (fun _=>False) (fun i=>paS bs (y++W7 n i) n (y++W7 n i).length i) (fun i=>paS bs (y++W7 n i) n (y++W7 n i).length i) (fun i=>paS bs (y++W7 n i) n (y++W7 n i).length i)))
theorem Zcx (bs y:LI) (n:Nat):(Zfl bs y n).Ok:=by
 refine Zh.withGoM (N:=20) (S:=fun i=>paS bs (y++W7 n i) n (y++W7 n i).length i) ZD (by kernel_rfl) fun hC=>⟨rfl,fun i hi hgo=> ?_⟩
 grind [W7,Z2z,Zfk]
def Z11 (n:Nat):LI:=List.replicate (Int.tmod (i64.wrap (128-Int.tmod (i64.wrap ((n:Int)+9)) 64)) 64).toNat 0
@[irreducible] def Qj (bs:LI):LI:=(bs++[128]++Z11 bs.length)++W7 bs.length 8
theorem Zen (n:Nat) (h:n<=100000000000):Int.tmod (i64.wrap (128-Int.tmod (i64.wrap ((n:Int)+9)) 64)) 64=(128-((n:Int)+9)%64)%64:=by
 have e1:i64.wrap ((n:Int)+9)=(n:Int)+9:=w64 (by omega)
 have e2:Int.tmod ((n:Int)+9) 64=((n:Int)+9)%64:=tm (by omega)
 have e3:i64.wrap (128-((n:Int)+9)%64)=128-((n:Int)+9)%64:=w64 (by omega)
 rw [e1,e2,e3,tm (by omega)]
theorem ZaM (n:Nat) (h:n<=100000000000):(Z11 n).length<=64:=by
 grind [Z11]
theorem Zfm (bs y r:LI) (n L:Nat) (hn:bs.length=n) (hb:n<=100000000000) (hy:y=bs++[128]++Z11 n) (hr:r=y++W7 n 8) (hL:L=r.length):
  evF (Zfl bs y n) 20 109 [.vints .u8 bs n] ⟨0,[]⟩ (Ye 0 (.ret (.nslice ⟨0,0,0,0,0⟩ 1 L L)) 1 [(0,.ints .u8 r)]):=by
 refine @Eq.mpr _ (let o:=[]++List.take n bs;let b:=o.length;let h:=o++[(128:Int)];let a:=h.length;let g:=Int.tmod (wrap i64 (128-Int.tmod (wrap i64 (↑n+9)) 64)) 64;let f:=Int.toNat g;let e:=h++List.replicate f 0;let d:=e.length;let c:=y++W7 (↑n) 0;let m:=c.length;
 Z5 (b*1<=140737488355328) (Z5 (u8=u8/\b=b) (Z5 (a*1<=140737488355328) (Z5 (u8=u8/\a=a) (Z5 ((0:Int)=0/\0<=g/\(a+f)*1<=140737488355328) (Z5 (d=m) (Z5 (m<=d) (bs=bs/\
 Z5 (n=n) (e=c/\
 y.length<=1000000000000/\
 ∀(i:Nat),
 let l:=y++W7 (↑n) i;let k:=l.length;
 i<=8->(∀(j:Nat),j<i->(fun (i:Nat)=>i<8) j)->(i=8->Z5 (k=L) (Z5 (L<=k) (l=r/\True)))/\(False->False)/\(False->False)))))))))) (by kernel_rfl) ?_
 conv=>zeta
 try simp only [vcA]
 try simp only [vcB]
 try simp only [vcC]
 have ht:List.take n bs=bs:=by rw [<-hn];exact K7
 have hz:=ZaM n hb
 have hx:=Zen n hb
 have e0:[]++List.take n bs++[128]++List.replicate (Int.tmod (i64.wrap (128-Int.tmod (i64.wrap ((n:Int)+9)) 64)) 64).toNat 0=y++W7 n 0:=by rw [ht,hy];simp [Z11,W7]
 have hyl:y.length=n+1+(Z11 n).length:=by rw [hy,J7,J7,hn];rfl
 subst hL hr
 simp only [e0,ht,J7,Jy,List.length_nil,hn,List.nil_append]
 refine ⟨by omega,by omega,⟨by omega,by omega⟩, ?_, ?_, ?_,by omega,fun i hi _=>⟨fun he=>by subst he;exact ⟨rfl,J2 _,rfl⟩,fun h=>h,fun h=>h⟩⟩
 ·rw [hyl];unfold Z11 W7;rfl
 ·rw [hyl];unfold Z11 W7;exact J2 _
 ·rw [hy];simp [Z11,W7]
theorem Z9g (bs:LI) (h:bs.length<=100000000000):Ya PP 109 [.vints .u8 bs bs.length] (.nslice ⟨0,0,0,0,0⟩ 1 (Qj bs).length (Qj bs).length) 1 [(0,.ints .u8 (Qj bs))]:=.evM (Zcx bs _ _) (Zfm bs _ _ _ _ rfl h rfl (by unfold Qj;rfl) rfl)
def Zdy (P:LI->LI) (B:Nat):Y2:=fun args h K=>YX none h true 20 args fun a=>Qf a fun xs=>Z5 (xs.length<=B) (K (.ret (.nslice ⟨h.next,0,0,0,0⟩ 1 (P xs).length (P xs).length)) ⟨h.next+1,(h.next,.ints .u8 (P xs))::h.bs⟩)
theorem ZaN (B:Nat) (hB:B<=100000000000) (args:List AV) (h:Z7) (K:KO) (hl:Zdy Qj B args h K):Zi PP 109 args h K:=by
 refine Ya.fsumm (d:=20) (YP _ _ _ _ _ hl fun a ha=> ?_)
 obtain ⟨xs,rfl,hK⟩:=Vg ha
 obtain ⟨hx,hK⟩:=Zf hK
 exact ⟨_,_,_,_,Z9g xs (Jw hx hB),rfl,⟨Nat.one_pos,.ints _ _,trivial⟩,hK⟩
def toE (x d:Int):Int:=u8.wrap (Int.tmod (u32.wrap (Int.tdiv x d)) 256)
def toN (x:LI):Nat->LI
 | 0=>Zd
 | i+1=>((((toN x i).set (4*i) (u8.wrap (u32.wrap (Int.tdiv (x.getD i 0) 16777216)))).set (4*i+1) (toE (x.getD i 0) 65536)).set (4*i+2) (toE (x.getD i 0) 256)).set (4*i+3) (u8.wrap (Int.tmod (x.getD i 0) 256))
theorem Z4N (x:LI):∀i,(toN x i).length=32
 | 0=>rfl
 | i+1=>by simp [toN,Z4N x i]
def toS (x h:LI) (i:Nat):St:=⟨47,[(4,.int .i64 i),(1,pt 0),(3,pt 2),(2,pt 1)],⟨3,[(2,.flat [.arr .u8 32 h]),(1,.flat [.arr .u8 32 Zd]),(0,.flat [.arr .u32 8 x])]⟩,[]⟩
theorem Zgd (x h h':LI) (i:Nat) (Z1 Z2:Prop) (hi:i<=8) (hl:h.length=32) (hh:h'=(((h.set (4*i) (u8.wrap (u32.wrap (Int.tdiv (x.getD i 0) 16777216)))).set (4*i+1) (toE (x.getD i 0) 65536)).set (4*i+2) (toE (x.getD i 0) 256)).set (4*i+3) (u8.wrap (Int.tmod (x.getD i 0) 256))) (h1:i<8->Z1) (h2:i=8->Z2):
  ZL G0 20 111 0 0 (toS x h i) (rdM 0 0 9 (toS x h' (i+1)) (toS x h i) (toS x h i) (toS x h i) Z1 Z2 False False):=by
 refine @Eq.mpr _ (let d:=decide (0<=(↑i:Int)/\(↑i:Int)<8);let o:=0+Int.toNat (↑i:Int);let c:=decide (o<8);let a:=wrap i64 (4*(↑i:Int));let g:=0+Int.toNat a;let f:=wrap i64 (a+1);let e:=0+Int.toNat f;let b:=List.getD x o 0;let n:=List.set h g (wrap u8 (wrap u32 (Int.tdiv b 16777216)));let m:=wrap i64 (a+2);let l:=0+Int.toNat m;let q:=List.set n e (wrap u8 (Int.tmod (wrap u32 (Int.tdiv b 65536)) 256));let k:=wrap i64 (a+3);let j:=0+Int.toNat k;let p:=List.set q l (wrap u8 (Int.tmod (wrap u32 (Int.tdiv b 256)) 256));
 Z8 (decide ((↑i:Int)<8)) (Z0 d (Z0 c (Z5 (0<=a/\a<32) (Z5 (u8=u8/\g<32/\g<h.length) (Z0 d (Z0 c (Z5 (0<=f/\f<32) (Z5 (u8=u8/\e<32/\e<n.length) (Z0 d (Z0 c (Z5 (0<=m/\m<32) (Z5 (u8=u8/\l<32/\l<q.length) (Z0 d (Z0 c (Z5 (0<=k/\k<32) (Z5 (u8=u8/\j<32/\j<p.length) (Z5 (wrap i64 ((↑i:Int)+1)=(↑(i+1):Int)) (List.set p j (wrap u8 (Int.tmod b 256))=h'/\Zd=Zd/\x=x/\Z1)))))))))))))))))) (Z5 ((↑i:Int)=(↑i:Int)) (h=h/\Zd=Zd/\x=x/\Z2))) (by kernel_rfl) ?_
 conv=>zeta
 try simp only [vcA]
 try simp only [vcB]
 try simp only [vcC]
 have hw:i64.wrap ((i:Int)+1)=((i+1:Nat):Int):=w64 (by omega)
 refine ⟨fun hlt=> ?_,fun hge=>h2 (by omega)⟩
 have e0:i64.wrap (4*(i:Int))=((4*i:Nat):Int):=by rw [w64 (by omega)];omega
 have e1:i64.wrap (((4*i:Nat):Int)+1)=((4*i+1:Nat):Int):=by rw [w64 (by omega)];omega
 have e2:i64.wrap (((4*i:Nat):Int)+2)=((4*i+2:Nat):Int):=by rw [w64 (by omega)];omega
 have e3:i64.wrap (((4*i:Nat):Int)+3)=((4*i+3:Nat):Int):=by rw [w64 (by omega)];omega
 simp only [e0,e1,e2,e3,hw,JS,List.length_set]
 repeat' (first|(refine Jv ?_ ?_)|intro _)
 all_goals first|omega|exact hh.symm|exact h1 (by omega)|trivial
noncomputable def Zfn (x:LI):Zh:=G0.withL 111 0 (goM 0 (toS x Zd 0) True (YC 0 8 9 (fun i=>i<8) (fun i=>i=8) (fun _=>False) (fun _=>False) (fun i=>toS x (toN x i) i) (fun i=>toS x (toN x i) i) (fun i=>toS x (toN x i) i)))
theorem Zcy (x:LI):(Zfn x).Ok:=by
 refine Zh.withGoM (N:=20) (S:=fun i=>toS x (toN x i) i) ZD (by kernel_rfl) fun hC=>⟨rfl,fun i hi hgo=> ?_⟩
 simp_all [Zgd,toN,Z4N]
@[irreducible] def UV (x:LI):LI:=toN x 8
attribute [irreducible] toN
theorem Zge (x r:LI) (hr:r=toN x 8):
  evF (Zfn x) 20 111 [.agg [.arr .u32 8 x]] ⟨0,[]⟩ (W5 0 [] (.agg [.arr .u8 32 r]) 0 []):=by
 refine @Eq.mpr _ (Zd=Zd/\Zd=Zd/\x=x/\True/\∀(i:Nat),i<=8->(∀(j:Nat),j<i->(fun (i:Nat)=>i<8) j)->(i=8->toN x i=r/\True)/\(False->Zd=r/\True)/\(False->False)) (by kernel_rfl) ?_
 try simp only [vcA]
 try simp only [vcB]
 try simp only [vcC]
 subst hr
 exact fun i hi _=>⟨fun he=>by subst he;rfl,fun h=>h.elim,fun h=>h⟩
def ZaO (T:LI->LI):YJ:=fun args _ K=>match args with
 | [.agg [.arr .u32 8 x]]=>K (.agg [.arr .u8 32 (T x)])
 | _=>False
theorem ZaP (args:List AV) (h:Z7) (K:AV->Prop) (hl:ZaO UV args h K):Zi PP 111 args h fun o h'=>∃v,o=.ret v/\h'=h/\K v:=by
 unfold ZaO at hl
 split at hl
 ·rename_i x
  refine QJ (d:=20) (K0:=fun l=>l=[.agg [.arr .u32 8 x]]) ?_ fun l e=>⟨_,by rw [e];exact (by unfold UV;exact .ev (Zcy x) (Zge x _ rfl)),fun _=>rfl,hl⟩
  rfl
 simp_all
def Z4O (P:LI->LI->LI):YJ:=fun args _ K=>match args with
 | [.agg [.arr .u32 8 st],.agg [.arr .u8 64 bl]]=>Z5 (st.length=8) (K (.agg [.arr .u32 8 (P st bl)]))
 | _=>False
structure UA (P:LI->LI->LI):Prop where
 pure:∀st bl,st.length=8->Ya PP 110 [.agg [.arr .u32 8 st],.agg [.arr .u8 64 bl]] (.agg [.arr .u32 8 (P st bl)]) 0 []
 len:∀st bl,st.length=8->(P st bl).length=8
theorem Z7l {P:LI->LI->LI} (hP:UA P) (args:List AV) (h:Z7) (K:AV->Prop) (hl:Z4O P args h K):Zi PP 110 args h fun o h'=>∃v,o=.ret v/\h'=h/\K v:=by
 unfold Z4O at hl
 split at hl
 ·rename_i st bl
  obtain ⟨hs,hK⟩:=Zf hl
  refine QJ (d:=20) (K0:=fun l=>l=[.agg [.arr .u32 8 st],.agg [.arr .u8 64 bl]]) ?_ fun l e=>⟨_,by rw [e];exact hP.pure st bl hs,fun _=>rfl,hK⟩
  rfl
 simp_all
noncomputable def E56 (P:LI->LI->LI) (Q:LI->LI) (T:LI->LI) (B:Nat):Zh:=((G0.withP 110 (Z4O P)).withF 109 (Zdy Q B)).withP 111 (ZaO T)
theorem Zeo {P:LI->LI->LI} (hP:UA P) (hB:B<=100000000000):(E56 P Qj UV B).Ok:=Zh.withP_ok (Zh.withF_ok (Zh.withP_ok ZD (Z7l hP)) (ZaN B hB)) ZaP
def Zcz (ys st:LI) (o n:Nat):St:=⟨21,[(4,.nslice ⟨3,0,0,0,o⟩ 1 n n),(3,pt 2),(2,pt 0)],⟨4,[(3,.ints .u8 ys),(2,.flat [.arr .u32 8 st]),(0,.flat [.arr .u8 32 Zd])]⟩,[]⟩
def Z9h (st:LI):St:=⟨21,[(3,pt 2),(2,pt 0)],⟨4,[(2,.flat [.arr .u32 8 st]),(0,.flat [.arr .u8 32 Zd])]⟩,[]⟩
theorem Zfo (P:LI->LI->LI) (Q:LI->LI) (T:LI->LI) (B:Nat) (ys st st':LI) (o o' n n' k i:Nat) (Z1 Z2:Prop) (hi:i<=k) (hk:ys.length=64*k) (ho:o=64*i) (ho':o'=64*(i+1)) (hn:n=64*k-64*i) (hn':n'=64*k-64*(i+1)) (hs:st.length=8) (hst:st'=P st ((ys.drop o).take 64)) (h1:i<k->Z1) (h2:i=k->Z2):
  ZL (E56 P Q T B) 20 77 0 0 (Zcz ys st o n) (rdM 0 0 9 (Zcz ys st' o' n') (Z9h st) (Z9h st) (Z9h st) Z1 Z2 False False):=by
 refine @Eq.mpr _ (let c:=decide (n<=n);let b:=decide ((0:Int)<=64/\64<=(↑n:Int));let a:=Qs n (some 64);
 Z8 (decide ((↑n:Int)>0)) (Z0 c (Z0 b (Z5 (o+0+64<=ys.length) (Z5 (st.length=8) (Z0 c (Z0 b (Z5 (o+64=o') (Z5 (a=n') (Z5 (n'<=a) (ys=ys/\P st (List.take 64 (List.drop (o+0) ys))=st'/\Zd=Zd/\Z1)))))))))) (st=st/\Zd=Zd/\Z2)) (by kernel_rfl) ?_
 conv=>zeta
 try simp only [vcA]
 try simp only [vcB]
 try simp only [vcC]
 refine ⟨fun hlt=> ?_,fun hge=>h2 (by omega)⟩
 have e1:n-64=n':=by omega
 have e2:o+64=o':=by omega
 simp only [Qs,e1,e2,K5]
 repeat' (first|(refine Jv ?_ ?_)|intro _)
 all_goals first|omega|exact hst.symm|exact h1 (by omega)|trivial
def QQ (P:LI->LI->LI) (ys:LI):Nat->LI
 | 0=>YK.st
 | i+1=>P (QQ P ys i) ((ys.drop (64*i)).take 64)
theorem Z5K {P:LI->LI->LI} (hP:UA P) (ys:LI):∀i,(QQ P ys i).length=8
 | 0=>rfl
 | i+1=>hP.len _ _ (Z5K hP ys i)
theorem Z3R (P:LI->LI->LI) (ys:LI):QQ P ys 0=YK.st:=rfl
theorem Z3S (P:LI->LI->LI) (ys:LI) (i:Nat):QQ P ys (i+1)=P (QQ P ys i) ((ys.drop (64*i)).take 64):=rfl
attribute [irreducible] QQ
noncomputable def Zfp (P:LI->LI->LI) (Q:LI->LI) (T:LI->LI) (B:Nat) (ys:LI) (L k:Nat):Zh:=(E56 P Q T B).withL 77 0 (goM 0 (Zcz ys [1779033703,3144134277,1013904242,2773480762,1359893119,2600822924,528734635,1541459225] 0 L) (ys.length=64*k/\L=64*k) (YC 0 k 9 (fun i=>i<k) (fun i=>i=k) (fun _=>False) (fun _=>False) (fun i=>Z9h (QQ P ys i)) (fun i=>Z9h (QQ P ys i)) (fun i=>Z9h (QQ P ys i))))
theorem ZcA {P:LI->LI->LI} (hP:UA P) (hB:B<=100000000000) (ys:LI) (L k:Nat):(Zfp P Qj UV B ys L k).Ok:=by
 refine Zh.withGoM (N:=20) (S:=fun i=>Zcz ys (QQ P ys i) (64*i) (64*k-64*i)) (Zeo hP hB) (by kernel_rfl) fun hC=>⟨?_,fun i hi hgo=> ?_⟩
 ·rw [hC.2,Z3R];rfl
 grind [Zfo,Z5K,Z3S]
theorem Zfq (P:LI->LI->LI) (Q:LI->LI) (T:LI->LI) (B:Nat) (bs ys r:LI) (n L k:Nat) (hn:n=bs.length) (hB:n<=B) (hy:ys=Q bs) (hL:L=ys.length) (hk:ys.length=64*k) (hr:r=T (QQ P ys k)):
  evF (Zfp P Q T B ys L k) 20 77 [.vints .u8 bs n] ⟨0,[]⟩ (W5 0 [] (.agg [.arr .u8 32 r]) 0 []):=by
 refine @Eq.mpr _ (let a:=[(1779033703:Int),3144134277,1013904242,2773480762,1359893119,2600822924,528734635,1541459225];
 Z5 (n=bs.length) (Z5 (bs.length<=B) (Z5 (List.length (Q bs)=L) (Z5 (L<=List.length (Q bs)) (Q bs=ys/\a=a/\Zd=Zd/\(ys.length=64*k/\L=64*k)/\∀(i:Nat),i<=k->(∀(j:Nat),j<i->(fun (i:Nat)=>i<k) j)->(i=k->T (QQ P ys i)=r/\True)/\(False->Zd=r/\True)/\(False->False)))))) (by kernel_rfl) ?_
 conv=>zeta
 try simp only [vcA]
 try simp only [vcB]
 try simp only [vcC]
 subst hy hr
 refine ⟨hn,by omega, ?_⟩
 exact ⟨hL.symm,by omega,rfl,⟨hk,by omega⟩,fun i hi _=>⟨fun he=>by rw [he],fun h=>h.elim,fun h=>h⟩⟩
theorem ZaQ (bs:LI) (h:bs.length<=100000000000):(Qj bs).length=64*((Qj bs).length/64):=by
 grind [Qj,Z11,Zen,Z2z]
@[irreducible] def ZaR (P:LI->LI->LI) (bs:LI):LI:=UV (QQ P (Qj bs) ((Qj bs).length/64))
theorem Z9i {P:LI->LI->LI} (hP:UA P) (bs:LI) (h:bs.length<=100000000000):Ya PP 77 [.vints .u8 bs bs.length] (.agg [.arr .u8 32 (ZaR P bs)]) 0 []:=by
 unfold ZaR
 exact .ev (ZcA hP (J2 _) _ _ _) (Zfq P Qj UV 100000000000 bs _ _ _ _ _ rfl h rfl rfl (ZaQ bs h) rfl)
def Z3T (H:LI->LI) (B:Nat):YJ:=fun args h K=>YX none h true 20 args fun a=>Qf a fun xs=>Z5 (xs.length<=B) (K (.agg [.arr .u8 32 (H xs)]))
theorem ZaS (hp:∀xs:LI,xs.length<=B->Ya PP f [.vints .u8 xs xs.length] (.agg [.arr .u8 32 (H xs)]) 0 []) (args:List AV) (h:Z7) (K:AV->Prop) (hl:Z3T H B args h K):Zi PP f args h fun o h'=>∃v,o=.ret v/\h'=h/\K v:=by
 refine Ya.psumm (d:=20) (YP _ _ _ _ _ hl fun a ha=> ?_)
 obtain ⟨xs,rfl,hK⟩:=Vg ha
 obtain ⟨hx,hK⟩:=Zf hK
 exact ⟨_,hp xs hx,fun _=>rfl,hK⟩
def U32 (x:Int):Prop:=0<=x/\x<4294967296
theorem Z5L (x:Int):u32.wrap x=x%4294967296:=by
 simp_all [wrap,IntKind.bits,IntKind.signed]
theorem Z2A (x:Int):U32 (u32.wrap x):=by rw [Z5L];unfold U32;omega
theorem Xo {x:Int} (h:U32 x):u32.wrap x=x:=by rw [Z5L];unfold U32 at h;omega
theorem wr8 (x:Int):u8.wrap x=x%256:=by
 simp_all [wrap,IntKind.bits,IntKind.signed]
theorem Zfr (x y:Int):U32 (bOr .u32 x y):=Z2A _
theorem WA (x y:Nat) (hx:x<4294967296) (hy:y<4294967296):Ys .u32 x y=((x^^^y:Nat):Int):=by
 unfold Ys
 rw [Xo]
 all_goals grind [U32,IntKind.bits]
theorem Z4P (x y:Nat) (hx:x<4294967296) (hy:y<4294967296):bOr .u32 x y=((x|||y:Nat):Int):=by
 unfold bOr
 rw [Xo]
 ·show (((BitVec.ofInt 32 (x:Int)|||BitVec.ofInt 32 (y:Int)).toNat:Nat):Int)=_
  rw [BitVec.toNat_or,BitVec.ofInt_natCast,BitVec.ofInt_natCast,BitVec.toNat_ofNat,BitVec.toNat_ofNat,JM hx,JM hy]
 grind [U32,IntKind.bits]
theorem Z2B (x y:Nat) (hx:x<4294967296) (hy:y<4294967296):Z0U .u32 x y=((x&&&y:Nat):Int):=by
 unfold Z0U
 rw [Xo]
 ·show (((BitVec.ofInt 32 (x:Int)&&&BitVec.ofInt 32 (y:Int)).toNat:Nat):Int)=_
  rw [BitVec.toNat_and,BitVec.ofInt_natCast,BitVec.ofInt_natCast,BitVec.toNat_ofNat,BitVec.toNat_ofNat,JM hx,JM hy]
 grind [U32,IntKind.bits]
theorem U32.nat {x:Int} (h:U32 x):∃n:Nat,x=n/\n<4294967296:=⟨x.toNat,by unfold U32 at h;omega,by unfold U32 at h;omega⟩
theorem U32.of {n:Nat} (h:n<4294967296):U32 (n:Int):=by unfold U32;omega
theorem Z9j {x y:Int}:Ys .u32 x y=Ys .u32 y x:=by unfold Ys;rw [BitVec.xor_comm]
theorem Z7m {x y z:Int} (hx:U32 x) (hy:U32 y) (hz:U32 z):Ys .u32 (Ys .u32 x y) z=Ys .u32 x (Ys .u32 y z):=by
 obtain ⟨x,rfl,gx⟩:=hx.nat
 obtain ⟨y,rfl,gy⟩:=hy.nat
 obtain ⟨z,rfl,gz⟩:=hz.nat
 rw [WA x y gx gy,WA y z gy gz,WA _ z (Ka (n:=32) gx gy) gz,WA x _ gx (Ka (n:=32) gy gz),Nat.xor_assoc]
theorem Z9k {x:Int} (hx:U32 x):Ys .u32 0 x=x:=by
 obtain ⟨x,rfl,gx⟩:=hx.nat
 have:=WA 0 x (by omega) gx
 simp_all
theorem Z4Q (x n:Nat) (hn:n<=32):Zu .u32 x n=((x/2^n:Nat):Int):=by
 grind [Zu,IntKind.bits]
theorem Zfs {x:Int} (hx:U32 x) (n:Nat) (hn:n<=32):U32 (Zu .u32 x n):=by
 obtain ⟨x,rfl,gx⟩:=hx.nat
 rw [Z4Q x n hn]
 exact U32.of (Jz (Nat.div_le_self x (2^n)) gx)
theorem Z7n (w n:Int):U32 (Z75 w n):=Zfr _ _
theorem Z8c {w:Int} (hw:U32 w) (a b c:Int):sg3 a b c w=Wh 32 [a,b,c] w:=by
 obtain ⟨x,rfl,gx⟩:=hw.nat
 have h0:Zu .u32 (x:Int) 32=0:=by
  rw [show (32:Int)=((32:Nat):Int) from rfl,Z4Q x 32 (by omega),Nat.div_eq_of_lt gx]
  rfl
 simp_all [sg3,Wh,Z9k,Z7n]
theorem Z8d {w:Int} (hw:U32 w) (a b:Int) (n:Nat) (hn:n<=32):rg3 a b n w=Wh n [a,b] w:=by
 have hs:=Zfs hw n hn
 unfold rg3 Wh
 simp only [List.foldl_cons,List.foldl_nil]
 rw [Z9j,Z7m hs (Z7n _ _) (Z7n _ _)]
theorem Wn (x i:Nat) (hi:i<=32):Int.tmod (Zu .u32 x i) 2=(((x.testBit i).toNat:Nat):Int):=by
 rw [Z4Q x i hi]
 rw [Int.tmod_eq_emod_of_nonneg (Int.natCast_nonneg _),Nat.toNat_testBit]
 rfl
theorem Z4R (b:Bool) (i:Nat) (hi:i<32):Zy .u32 ((b.toNat:Nat):Int) i=((2^i*b.toNat:Nat):Int):=by
 unfold Zy
 have:min (i:Int).toNat u32.bits=i:=by simp [IntKind.bits];omega
 rw [this]
 have h2:(2:Nat)^i<2^32:=Nat.pow_lt_pow_right (by decide) hi
 have h3:((2:Nat)^i*b.toNat)<4294967296:=by cases b<;>simp_all
 rw [show ((b.toNat:Nat):Int)*2^i=((2^i*b.toNat:Nat):Int) by push_cast;rw [Int.mul_comm]]
 exact Xo (U32.of h3)
theorem Z8e (x i:Nat):x%2^(i+1)=x%2^i+2^i*(x.testBit i).toNat:=by
 rw [Nat.toNat_testBit,Nat.mod_pow_succ]
theorem Z8f (x i:Nat) (hx:x<4294967296) (hi:i<32):u32.wrap (((x%2^i:Nat):Int)+((2^i*(x.testBit i).toNat:Nat):Int))=((x%2^(i+1):Nat):Int):=by
 rw [Z8e]
 rw [Xo]
 ·omega
 ·rw [show ((x%2^i:Nat):Int)+((2^i*(x.testBit i).toNat:Nat):Int)=((x%2^i+2^i*(x.testBit i).toNat:Nat):Int) by omega,<-Z8e]
  exact U32.of (Jz (Nat.mod_le _ _) hx)
theorem Z3U (a b c:Nat) (ha:a<4294967296) (hb:b<4294967296) (hc:c<4294967296):∀i,i<=32->Vi a b c i=(((a&&&(b|||c)|||b&&&c)%2^i:Nat):Int)
 | 0,_=>by simp [Vi]
 | i+1,hi=>by
  have hm:(a&&&(b|||c)|||b&&&c)<4294967296:=Nat.or_lt_two_pow (n:=32) (Jz Kb ha) (Jz Kb hb)
  rw [Vi,Z3U a b c ha hb hc i (by omega),Wn a i (by omega),Wn b i (by omega),Wn c i (by omega),<-Z8f _ i hm (by omega)]
  have ht:(a&&&(b|||c)|||b&&&c).testBit i=(a.testBit i&&(b.testBit i||c.testBit i)||b.testBit i&&c.testBit i):=by simp
  rw [ht]
  have h1:=Z4R true i (by omega)
  have hx:u32.wrap (((a&&&(b|||c)|||b&&&c)%2^i:Nat):Int)=(((a&&&(b|||c)|||b&&&c)%2^i:Nat):Int):=Xo (U32.of (Jz (Nat.mod_le _ _) hm))
  rw [Z5L,Z5L]
  cases a.testBit i<;>cases b.testBit i<;>cases c.testBit i<;>simp at h1 hx⊢ <;>first|rw [h1]|rw [hx]
theorem ZcB {a b c:Int} (ha:U32 a) (hb:U32 b) (hc:U32 c):YY a b c=bOr .u32 (Z0U .u32 a (bOr .u32 b c)) (Z0U .u32 b c):=by
 obtain ⟨a,rfl,ga⟩:=ha.nat
 obtain ⟨b,rfl,gb⟩:=hb.nat
 obtain ⟨c,rfl,gc⟩:=hc.nat
 have h1:=Nat.or_lt_two_pow (n:=32) gb gc
 have h2:a&&&(b|||c)<4294967296:=Jz Kb ga
 have h3:b&&&c<4294967296:=Jz Kb gb
 rw [Z4P b c gb gc,Z2B a _ ga h1,Z2B b c gb gc,Z4P _ _ h2 h3]
 unfold YY
 rw [Z3U a b c ga gb gc 32 (by omega),JM]
 exact Nat.or_lt_two_pow (n:=32) h2 h3
theorem Z3V (a b c:Nat) (ha:a<4294967296) (hb:b<4294967296) (hc:c<4294967296):∀i,i<=32->VC a b c i=(((c^^^(a&&&(b^^^c)))%2^i:Nat):Int)
 | 0,_=>by simp [VC]
 | i+1,hi=>by
  have hm:(c^^^(a&&&(b^^^c)))<4294967296:=Ka (n:=32) hc (Jz Kb ha)
  rw [VC,Z3V a b c ha hb hc i (by omega),Wn a i (by omega),Wn b i (by omega),Wn c i (by omega),<-Z8f _ i hm (by omega)]
  have ht:(c^^^(a&&&(b^^^c))).testBit i=(c.testBit i^^(a.testBit i&&(b.testBit i^^c.testBit i))):=by simp
  rw [ht]
  have h1:=Z4R true i (by omega)
  have h0:=Z4R false i (by omega)
  cases a.testBit i<;>cases b.testBit i<;>cases c.testBit i<;>simp at h1 h0⊢ <;>first|rw [h1]|rw [h0,Int.add_zero]
theorem ZcC {a b c:Int} (ha:U32 a) (hb:U32 b) (hc:U32 c):YS a b c=Ys .u32 c (Z0U .u32 a (Ys .u32 b c)):=by
 obtain ⟨a,rfl,ga⟩:=ha.nat
 obtain ⟨b,rfl,gb⟩:=hb.nat
 obtain ⟨c,rfl,gc⟩:=hc.nat
 have h1:=Ka (n:=32) gb gc
 have h2:a&&&(b^^^c)<4294967296:=Jz Kb ga
 rw [WA b c gb gc,Z2B a _ ga h1,WA _ _ gc h2]
 unfold YS
 rw [Z3V a b c ga gb gc 32 (by omega),JM]
 exact Ka (n:=32) gc h2
theorem Z3W (bl:LI) (t:Nat):W6 bl (t+1)=(W6 bl t).set t (if t<16 then Z7k bl t else ZaL (W6 bl t) t):=by rw [W6]
theorem Z3X (bl:LI) (s t:Nat) (hs:s<t):∀u,(W6 bl (t+u)).getD s 0=(W6 bl t).getD s 0
 | 0=>rfl
 | u+1=>by
  rw [<-Nat.add_assoc,Z3W,<-Z3X bl s t hs u]
  simp only [J5]
  rw [List.getElem?_set_ne (by omega)]
@[irreducible] def Z12 (bl:LI) (t:Nat):Int:=(W6 bl 64).getD t 0
theorem QR (bl:LI) {s t:Nat} (hs:s<t) (ht:t<=64):(W6 bl t).getD s 0=Z12 bl s:=by
 unfold Z12
 have:=Z3X bl s t hs (64-t)
 rw [show t+(64-t)=64 by omega] at this
 omega
theorem Z8g (bl:LI) {t:Nat} (ht:t<64):Z12 bl t=if t<16 then Z7k bl t else ZaL (W6 bl t) t:=by
 rw [<-QR bl (Nat.lt_succ_self t) (by omega),Z3W]
 simp_all [Z2x]
theorem Z8h (bl:LI) {t:Nat} (ht:t<16):Z12 bl t=Z7k bl t:=by rw [Z8g bl (by omega),if_pos ht]
theorem Z8i (bl:LI) {t:Nat} (h16:16<=t) (ht:t<64):Z12 bl t=u32.wrap (u32.wrap (u32.wrap (rg3 17 19 10 (Z12 bl (t-2))+Z12 bl (t-7))+rg3 7 18 3 (Z12 bl (t-15)))+Z12 bl (t-16)):=by
 rw [Z8g bl (by omega),if_neg (by omega)]
 unfold ZaL
 rw [QR bl (by omega) (by omega),QR bl (by omega) (by omega),QR bl (by omega) (by omega),QR bl (by omega) (by omega)]
theorem ZaT (bl:LI) {t:Nat} (ht:t<64):U32 (Z12 bl t):=by
 by_cases h:t<16
 ·rw [Z8h bl h];exact Z2A _
 simp_all [Z8i,Z2A]
theorem QS (t:Nat):mAt (t:Int)=t%16:=by
 unfold mAt
 rw [tm (by omega)]
 omega
theorem WN (i t:Nat) (hi:i<8) (ht:t<=64):atI (i:Int) (t:Int)=(i+64-t)%8:=by
 grind [atI,w64]
theorem Z2C (l:LI) (i j:Nat) (x:Int) (hi:i<l.length):(l.set i x).getD j 0=if i=j then x else l.getD j 0:=by
 grind
def Ring (bl r:LI) (t:Nat):Prop:=r.length=16/\∀s,s<max 16 t->max 16 t<=s+16->r.getD (s%16) 0=Z12 bl s
theorem Ring.step {r:LI} {t:Nat} (h:Ring bl r t) (ht:t<64):Ring bl (Qd t r) (t+1):=by
 obtain ⟨hl,hr⟩:=h
 refine ⟨by rw [Z5F,hl],fun s h1 h2=> ?_⟩
 unfold Qd
 by_cases h16:t<16
 ·grind
 ·rw [if_pos (by omega)]
  have w1:i64.wrap ((t:Int)+1)=((t+1:Nat):Int):=by rw [w64 (by omega)];omega
  have w9:i64.wrap ((t:Int)+9)=((t+9:Nat):Int):=by rw [w64 (by omega)];omega
  have w14:i64.wrap ((t:Int)+14)=((t+14:Nat):Int):=by rw [w64 (by omega)];omega
  have r0:=hr (t-16) (by omega) (by omega)
  have r1:=hr (t-15) (by omega) (by omega)
  have r9:=hr (t-7) (by omega) (by omega)
  have r14:=hr (t-2) (by omega) (by omega)
  rw [show (t-16)%16=t%16 by omega] at r0
  rw [show (t-15)%16=(t+1)%16 by omega] at r1
  rw [show (t-7)%16=(t+9)%16 by omega] at r9
  rw [show (t-2)%16=(t+14)%16 by omega] at r14
  rw [w1,w9,w14,QS,QS,QS,QS,r0,r1,r9,r14,Z2C _ _ _ _ (by omega)]
  by_cases hs:s=t
  ·subst hs
   rw [if_pos rfl,Z8i bl (by omega) ht]
   have e1:=Z8d (ZaT bl (t:=s-2) (by omega)) 17 19 10 (by omega)
   have e2:=Z8d (ZaT bl (t:=s-15) (by omega)) 7 18 3 (by omega)
   rw [show ((10:Nat):Int)=10 from rfl] at e1
   rw [show ((3:Nat):Int)=3 from rfl] at e2
   simp only [Z5L]
   omega
  grind
def U8 (x:Int):Prop:=0<=x/\x<256
theorem Z1q (x n:Nat) (hn:n<=32) (h:x*2^n<4294967296):Zy .u32 x n=((x*2^n:Nat):Int):=by
 unfold Zy
 have:min (n:Int).toNat u32.bits=n:=by simp [IntKind.bits];omega
 rw [this,show (x:Int)*2^n=((x*2^n:Nat):Int) by simp_all]
 exact Xo (U32.of h)
theorem Z1r (x y:Nat) (hx:x<16777216) (hy:y<256):bOr .u32 (Zy .u32 x 8) y=((x*256+y:Nat):Int):=by
 have:=Z1q x 8 (by omega) (by omega)
 rw [show ((8:Nat):Int)=8 from rfl] at this
 rw [this,Z4P _ _ (by omega) (by omega),<-Nat.shiftLeft_eq,<-Nat.shiftLeft_add_eq_or_of_lt (by omega),Nat.shiftLeft_eq]
theorem Uc {P:Int->Prop} {l:LI} (h:∀x∈l,P x) (h0:P 0) (i:Nat):P (l.getD i 0):=by
 grind
theorem U8.nat {x:Int} (h:U8 x):∃n:Nat,x=n/\n<256:=⟨x.toNat,by unfold U8 at h;omega,by unfold U8 at h;omega⟩
theorem ZcD (bl:LI) (hb:∀x∈bl,U8 x) (t:Nat):Xv bl (4*t)=Z7k bl t:=by
 unfold Xv Z7k
 obtain ⟨a,ea,ha⟩:=(Uc (P:=U8) hb (by unfold U8;omega) (4*t)).nat
 obtain ⟨b,eb,hb'⟩:=(Uc (P:=U8) hb (by unfold U8;omega) (4*t+1)).nat
 obtain ⟨c,ec,hc⟩:=(Uc (P:=U8) hb (by unfold U8;omega) (4*t+2)).nat
 obtain ⟨d,ed,hd⟩:=(Uc (P:=U8) hb (by unfold U8;omega) (4*t+3)).nat
 rw [ea,eb,ec,ed]
 rw [Xo (x:=(a:Int)) (U32.of (by omega)),Xo (x:=(b:Int)) (U32.of (by omega)),Xo (x:=(c:Int)) (U32.of (by omega)),Xo (x:=(d:Int)) (U32.of (by omega))]
 have z:=Z1r 0 a (by omega) ha
 have s0:Zy .u32 0 8=0:=by decide
 rw [show Zy .u32 ((0:Nat):Int) 8=0 from s0] at z
 rw [z,Z1r _ b (by omega) hb',Z1r _ c (by omega) hc,Z1r _ d (by omega) hd]
 have g1:=Z1q a 24 (by omega) (by omega)
 have g2:=Z1q b 16 (by omega) (by omega)
 have g3:=Z1q c 8 (by omega) (by omega)
 rw [show ((24:Nat):Int)=24 from rfl] at g1
 rw [show ((16:Nat):Int)=16 from rfl] at g2
 rw [show ((8:Nat):Int)=8 from rfl] at g3
 simp only [Z5L]
 omega
theorem Ring.first (bl:LI) (hb:∀x∈bl,U8 x):Ring bl (WZ bl) 0:=by
 refine ⟨rfl,fun s h1 _=> ?_⟩
 have h16:s<16:=by omega
 rw [Z8h bl h16,<-ZcD bl hb,JM h16]
 have:s=0\/s=1\/s=2\/s=3\/s=4\/s=5\/s=6\/s=7\/s=8\/s=9\/s=10\/s=11\/s=12\/s=13\/s=14\/s=15:=by omega
 rcases this with rfl|rfl|rfl|rfl|rfl|rfl|rfl|rfl|rfl|rfl|rfl|rfl|rfl|rfl|rfl|rfl<;>rfl
def Z2D (x y:LI) (t:Nat):Prop:=x.length=8/\∀i,i<8->x.getD ((i+64-t)%8) 0=y.getD i 0
theorem Z2D.step {x y m:LI} {w:Int} {t:Nat} (h:Z2D x y t) (hU:∀i,i<8->U32 (y.getD i 0)) (ht:t<64) (hm:m.getD (t%16) 0=w):
  Z2D (Z5E t m x) (Z0P YY YS (WY.getD t 0) w y) (t+1):=by
 obtain ⟨hl,hr⟩:=h
 have a0:=WN 0 t (by omega) (by omega)
 have a1:=WN 1 t (by omega) (by omega)
 have a2:=WN 2 t (by omega) (by omega)
 have a3:=WN 3 t (by omega) (by omega)
 have a4:=WN 4 t (by omega) (by omega)
 have a5:=WN 5 t (by omega) (by omega)
 have a6:=WN 6 t (by omega) (by omega)
 have a7:=WN 7 t (by omega) (by omega)
 have h0:=hr 0 (by omega)
 have h1:=hr 1 (by omega)
 have h2:=hr 2 (by omega)
 have h3:=hr 3 (by omega)
 have h4:=hr 4 (by omega)
 have h5:=hr 5 (by omega)
 have h6:=hr 6 (by omega)
 have h7:=hr 7 (by omega)
 rw [<-a0] at h0
 rw [<-a1] at h1
 rw [<-a2] at h2
 rw [<-a3] at h3
 rw [<-a4] at h4
 rw [<-a5] at h5
 rw [<-a6] at h6
 rw [<-a7] at h7
 refine ⟨by rw [Z5G,hl], ?_⟩
 have hadd:Z4K t m x=u32.wrap (u32.wrap (u32.wrap (u32.wrap (y.getD 7 0+sg3 6 11 25 (y.getD 4 0))+YS (y.getD 4 0) (y.getD 5 0) (y.getD 6 0))+WY.getD t 0)+w):=by
  unfold Z4K
  rw [QS,hm]
  rw [show atI 7 (t:Int)=atI ((7:Nat):Int) t from rfl,show atI 4 (t:Int)=atI ((4:Nat):Int) t from rfl,show atI 5 (t:Int)=atI ((5:Nat):Int) t from rfl,show atI 6 (t:Int)=atI ((6:Nat):Int) t from rfl]
  rw [h4,h5,h6,h7,Z8c (hU 4 (by omega)),ZcC (hU 4 (by omega)) (hU 5 (by omega)) (hU 6 (by omega))]
  rw [Jm,JS]
 unfold Z5E
 rw [hadd]
 rw [show atI 7 (t:Int)=atI ((7:Nat):Int) t from rfl,show atI 3 (t:Int)=atI ((3:Nat):Int) t from rfl,show atI 0 (t:Int)=atI ((0:Nat):Int) t from rfl,show atI 1 (t:Int)=atI ((1:Nat):Int) t from rfl,show atI 2 (t:Int)=atI ((2:Nat):Int) t from rfl]
 rw [h0,h1,h2,h3,<-ZcB (hU 0 (by omega)) (hU 1 (by omega)) (hU 2 (by omega)),<-Z8c (hU 0 (by omega)),a3,a7]
 intro i hi
 rw [Z2C _ _ _ _ (by rw [List.length_set,hl];omega),Z2C _ _ _ _ (by omega)]
 unfold Z0P
 have:i=0\/i=1\/i=2\/i=3\/i=4\/i=5\/i=6\/i=7:=by omega
 rcases this with rfl|rfl|rfl|rfl|rfl|rfl|rfl|rfl
 ·grind [Z5L]
 ·rw [if_neg (by omega),if_neg (by omega),show (1+64-(t+1))%8=(0+64-t)%8 by omega,hr 0 (by omega)];rfl
 ·rw [if_neg (by omega),if_neg (by omega),show (2+64-(t+1))%8=(1+64-t)%8 by omega,hr 1 (by omega)];rfl
 ·rw [if_neg (by omega),if_neg (by omega),show (3+64-(t+1))%8=(2+64-t)%8 by omega,hr 2 (by omega)];rfl
 ·rw [if_neg (by omega),if_pos (by omega)];rfl
 ·rw [if_neg (by omega),if_neg (by omega),show (5+64-(t+1))%8=(4+64-t)%8 by omega,hr 4 (by omega)];rfl
 ·rw [if_neg (by omega),if_neg (by omega),show (6+64-(t+1))%8=(5+64-t)%8 by omega,hr 5 (by omega)];rfl
 ·rw [if_neg (by omega),if_neg (by omega),show (7+64-(t+1))%8=(6+64-t)%8 by omega,hr 6 (by omega)];rfl
theorem ZcE {k w:Int} {y:LI} (hU:∀i,i<8->U32 (y.getD i 0)):∀i,i<8->U32 ((Z0P YY YS k w y).getD i 0):=by
 intro i hi
 unfold Z0P
 have:i=0\/i=1\/i=2\/i=3\/i=4\/i=5\/i=6\/i=7:=by omega
 rcases this with rfl|rfl|rfl|rfl|rfl|rfl|rfl|rfl
 all_goals simp_all [Z2A]
def W8 (st:LI):Prop:=st.length=8/\∀x∈st,U32 x
theorem W8.get {st:LI} (h:W8 st) (i:Nat):U32 (st.getD i 0):=Uc h.2 (by unfold U32;omega) i
theorem Z5M (bl st:LI) (hb:∀x∈bl,U8 x) (hs:W8 st):∀t,t<=64->Ring bl (Vd (WZ bl) st t).1 t/\Z2D (Vd (WZ bl) st t).2 (Ub YY YS (W6 bl 64) st t) t/\∀i,i<8->U32 ((Ub YY YS (W6 bl 64) st t).getD i 0)
 | 0,_=>by
  rw [Z3G,Z9f]
  refine ⟨Ring.first bl hb,⟨hs.1,fun i hi=> ?_⟩,fun i _=>hs.get i⟩
  rw [show (i+64-0)%8=i by omega]
 | t+1,h=>by
  obtain ⟨h1,h2,h3⟩:=Z5M bl st hb hs t (by omega)
  rw [Z3H,Z9e]
  have hR:=h1.step (by omega)
  refine ⟨hR,h2.step h3 (by omega) ?_,ZcE h3⟩
  rw [hR.2 t (by omega) (by omega)]
  unfold Z12
  rfl
theorem Z9l (st x:LI) (i:Nat):Vj st x (i+1)=(Vj st x i).set i (u32.wrap ((Vj st x i).getD i 0+st.getD i 0)):=by rw [Vj]
theorem Z9m (st x:LI):Vj st x 0=x:=by rw [Vj]
theorem ZcF (st x:LI) (hs:st.length=8) (hx:x.length=8):Vj st x 8=Z97 st x:=by
 obtain ⟨a0,a1,a2,a3,a4,a5,a6,a7,rfl⟩:=eight st hs
 obtain ⟨b0,b1,b2,b3,b4,b5,b6,b7,rfl⟩:=eight x hx
 simp_all [Z9l,Z9m,Z97,Int.add_comm]
theorem Z7o {x y:LI} (h:Z2D x y 64) (hy:y.length=8):y=x:=by
 obtain ⟨h4,h5⟩:=h
 obtain ⟨a0,a1,a2,a3,a4,a5,a6,a7,rfl⟩:=eight _ hy
 obtain ⟨b0,b1,b2,b3,b4,b5,b6,b7,rfl⟩:=eight _ h4
 have g0:=h5 0 (by omega)
 have g1:=h5 1 (by omega)
 have g2:=h5 2 (by omega)
 have g3:=h5 3 (by omega)
 have g4:=h5 4 (by omega)
 have g5:=h5 5 (by omega)
 have g6:=h5 6 (by omega)
 have g7:=h5 7 (by omega)
 simp_all
theorem Z5N (st bl:LI) (hb:∀x∈bl,U8 x) (hs:W8 st):Xn st bl=XT st bl:=by
 obtain ⟨_,h2,h3⟩:=Z5M bl st hb hs 64 (by omega)
 have hl:=QP (M:=YY) (P:=YS) (m:=W6 bl 64) hs.1 64
 unfold Xn XT
 rw [ZcF _ _ hs.1 hl]
 congr 1
 exact Z7o h2 hl
theorem Z5O (st bl:LI) (hs:st.length=8):W8 (XT st bl):=by
 refine ⟨Z3I st bl hs,fun x hx=> ?_⟩
 grind [XT,Z97,Jk,Z2A]
def UI (P:LI->LI->LI):Nat->LI->LI->LI
 | 0,st,_=>st
 | n+1,st,ms=>UI P n (P st (ms.take 64)) (ms.drop 64)
theorem Z0p (P:LI->LI->LI):∀(n:Nat) (st ms:LI),UI P (n+1) st ms=P (UI P n st ms) ((ms.drop (64*n)).take 64)
 | 0,_,_=>rfl
 | n+1,st,ms=>by
  rw [UI,Z0p P n,List.drop_drop]
  rw [show 64+64*n=64*(n+1) by omega]
  rfl
theorem Z2E (P:LI->LI->LI):∀(n:Nat) (st ms more:LI),64*n<=ms.length->UI P n st (ms++more)=UI P n st ms
 | 0,_,_,_,_=>rfl
 | n+1,st,ms,more,h=>by
  rw [UI,UI,List.take_append_of_le_length (by omega),JV (by omega),Z2E P n _ _ _ (by rw [Je];omega)]
theorem Z2F:∀(n:Nat) (st ms:LI),W8 st->(∀x∈ms,U8 x)->UI Xn n st ms=UI XT n st ms
 | 0,_,_,_,_=>rfl
 | n+1,st,ms,hs,hm=>by
  rw [UI,UI,Z5N st _ (fun x hx=>hm x (List.mem_of_mem_take hx)) hs]
  exact Z2F n _ _ (Z5O st _ hs.1) fun x hx=>hm x (List.mem_of_mem_drop hx)
structure Rep (r:Zv) (ms:LI):Prop where
 came:r.came=ms.length
 st:r.st=UI XT (ms.length/64) YK.st ms
 len:r.part.length=64
 part:r.part.take (ms.length%64)=ms.drop (64*(ms.length/64))
theorem Rep.ok (h:Rep r ms) (h8:r.st.length=8):r.Ok:=⟨h8,h.len,by rw [h.came];omega⟩
theorem Rep.one (h:Rep r ms) (bs:LI):Rep (r.one bs) (ms++wTk r.came bs):=by
 have ha:wAt r.came=ms.length%64:=by
  unfold wAt
  rw [h.came,tm (by omega)]
  omega
 have hk:(wTk r.came bs).length<=64-ms.length%64:=by
  grind [wTk]
 have hdl:(ms.drop (64*(ms.length/64))).length=ms.length%64:=by rw [Je];omega
 have hp:U9 r.part r.came bs=ms.drop (64*(ms.length/64))++wTk r.came bs++r.part.drop (ms.length%64+(wTk r.came bs).length):=by
  unfold U9 spl
  rw [ha,h.part]
 have hl:(U9 r.part r.came bs).length=64:=by
  rw [hp,J7,J7,hdl,Je,h.len]
  omega
 have hst:(r.one bs).st=if ms.length%64+(wTk r.came bs).length=64 then XT r.st (U9 r.part r.came bs) else r.st:=by
  show wSt _ _ _ _=_
  unfold wSt
  rw [ha]
 have hca:(r.one bs).came=r.came+(wTk r.came bs).length:=rfl
 have hpa:(r.one bs).part=U9 r.part r.came bs:=rfl
 generalize wTk r.came bs=tk at*
 have hal:(ms++tk).length=ms.length+tk.length:=J7
 refine ⟨by rw [hca,h.came,hal];omega, ?_,by rw [hpa];exact hl, ?_⟩
 ·rw [hst,h.st]
  by_cases h64:ms.length%64+tk.length=64
  ·rw [if_pos h64,hal,show (ms.length+tk.length)/64=ms.length/64+1 by omega,Z0p,Z2E _ _ _ _ _ (by omega)]
   rw [JV (by omega),hp,show r.part.drop (ms.length%64+tk.length)=[] from JZ (by rw [h.len];omega),Jx,Kd (by rw [J7,hdl];omega)]
  grind [Z2E]
 ·rw [hpa,hal]
  by_cases h64:ms.length%64+tk.length=64
  ·rw [show (ms.length+tk.length)%64=0 by omega,List.take_zero,JZ (by omega)]
  ·rw [show (ms.length+tk.length)/64=ms.length/64 by omega,show (ms.length+tk.length)%64=ms.length%64+tk.length by omega,hp,JV (by omega)]
   grind
theorem Rep.many:∀(n:Nat) (r:Zv) (ms bs:LI),r.Ok->Rep r ms->bs.length<=n->Rep (Zv.many n r bs).1 (ms++bs)
 | 0,r,ms,bs,_,h,hn=>by
  have:bs=[]:=Ju (by omega)
  subst this
  rw [Jx]
  exact h
 | n+1,r,ms,bs,hr,h,hn=>by
  unfold Zv.many
  split
  ·rw [Jx];exact h
  ·rename_i b bs
   have hp:=Ux hr (bs:=b::bs) (by simp)
   have hb:(b::bs)=wTk r.came (b::bs)++(b::bs).drop (wTk r.came (b::bs)).length:=by
    grind [wTk,List.take_append_drop]
   have:=Rep.many n _ _ ((b::bs).drop (wTk r.came (b::bs)).length) (hr.one _) (h.one (b::bs)) (by rw [Je];omega)
   rw [JT,<-hb] at this
   exact this
theorem Rep.write (hr:r.Ok) (h:Rep r ms) (bs:LI):Rep (r.write bs) (ms++bs):=by
 simp_all [Zv.write,Rep.many]
theorem Rep.init:Rep YK []:=⟨rfl,rfl,rfl,rfl⟩
def Z0q (bs:LI):LI:=bs++UH bs.length++len8 bs.length
def Z7p (P:LI->LI->LI) (bs:LI):LI:=Z3L (UI P ((Z0q bs).length/64) YK.st (Z0q bs))
theorem Rep.fin (hr:r.Ok) (h:Rep r ms):r.fin=Z7p XT ms:=by
 have h1:=h.write hr (UH r.came)
 have h2:=h1.write (Ve _ _ hr) (len8 r.came)
 unfold Zv.fin Z7p
 rw [h2.st,h.came]
 rfl
theorem Z5P (bs:LI):ZB bs=Z7p XT bs:=by
 unfold ZB
 have:=Rep.init.write Vf bs
 exact this.fin (Ve _ _ Vf)
theorem Z5Q:W8 YK.st:=by
 refine ⟨rfl,fun x hx=> ?_⟩
 simp only [YK,J6,JC,or_false] at hx
 unfold U32
 rcases hx with rfl|rfl|rfl|rfl|rfl|rfl|rfl|rfl<;>omega
theorem ZcG (n:Int):∀x∈UH n,U8 x:=by
 grind [UH,U8]
theorem ZaU (x:Int):U8 (u8.wrap x):=by rw [wr8];unfold U8;omega
theorem ZcH (n:Int):∀x∈len8 n,U8 x:=by
 intro x hx
 unfold len8 QN at hx
 simp only [J6,JC,or_false] at hx
 rcases hx with h|h|h|h|h|h|h|h<;>rw [h]<;>exact ZaU _
theorem Z9n {bs:LI} (h:∀x∈bs,U8 x):∀x∈Z0q bs,U8 x:=by
 grind [Z0q,ZcG,ZcH]
theorem ZaV (n:Int):∀x∈WM n,U8 x:=by
 intro x hx
 unfold WM at hx
 simp only [J6,JC,or_false] at hx
 rcases hx with h|h|h|h<;>rw [h]<;>exact ZaU _
theorem ZaW (st:LI):∀x∈Z3L st,U8 x:=by
 intro x hx
 unfold Z3L at hx
 simp only [List.mem_append] at hx
 rcases hx with (((((((h|h)|h)|h)|h)|h)|h)|h)<;>exact ZaV _ x h
theorem ZcI (bs:LI):∀x∈ZB bs,U8 x:=by rw [Z5P];exact ZaW _
theorem ZcJ:UA Xn:=⟨fun st bl h=>Z5J st bl h,fun _ _ h=>Z4M h⟩
def four (x:Int):LI:=[u8.wrap (u32.wrap (Int.tdiv x 16777216)),toE x 65536,toE x 256,u8.wrap (Int.tmod x 256)]
theorem Z9o (x:LI):(UV x).length=32:=by unfold UV;exact Z4N x 8
theorem Z7q (x:LI) (h:x.length=8):UV x=four (x.getD 0 0)++four (x.getD 1 0)++four (x.getD 2 0)++four (x.getD 3 0)++four (x.getD 4 0)++four (x.getD 5 0)++four (x.getD 6 0)++four (x.getD 7 0):=by
 kernel_rfl
theorem Zft (x:Int):u64.wrap x=x%18446744073709551616:=by
 simp_all [wrap,IntKind.bits,IntKind.signed]
theorem Z8j (x n:Nat) (hn:n<=64):Zu .u64 x n=((x/2^n:Nat):Int):=by
 grind [Zu,IntKind.bits]
theorem Xa {x:Int} (h:U32 x):four x=WM (u64.wrap x):=by
 obtain ⟨x,rfl,gx⟩:=h.nat
 have e:u64.wrap (x:Int)=x:=by rw [Zft];omega
 have s24:=Z8j x 24 (by omega)
 have s16:=Z8j x 16 (by omega)
 have s8:=Z8j x 8 (by omega)
 have s0:=Z8j x 0 (by omega)
 rw [show ((24:Nat):Int)=24 from rfl] at s24
 rw [show ((16:Nat):Int)=16 from rfl] at s16
 rw [show ((8:Nat):Int)=8 from rfl] at s8
 rw [show ((0:Nat):Int)=0 from rfl] at s0
 have d1:Int.tdiv (x:Int) 16777216=(x:Int)/16777216:=Int.tdiv_eq_ediv_of_nonneg (by omega)
 have d2:Int.tdiv (x:Int) 65536=(x:Int)/65536:=Int.tdiv_eq_ediv_of_nonneg (by omega)
 have d3:Int.tdiv (x:Int) 256=(x:Int)/256:=Int.tdiv_eq_ediv_of_nonneg (by omega)
 unfold four WM toE
 rw [e,s24,s16,s8,s0,d1,d2,d3]
 simp only [wr8,Z5L]
 rw [tm (a:=(x:Int)/65536%4294967296) (by omega),tm (a:=(x:Int)/256%4294967296) (by omega),tm (a:=(x:Int)) (by omega)]
 simp_all
theorem Z7r {x:LI} (h:W8 x):UV x=Z3L x:=by
 rw [Z7q x h.1]
 unfold Z3L
 rw [Xa (h.get 0),Xa (h.get 1),Xa (h.get 2),Xa (h.get 3),Xa (h.get 4),Xa (h.get 5),Xa (h.get 6),Xa (h.get 7)]
theorem Xb (n:Nat) (i:Nat) (hi:i<8):Zcw n i=u8.wrap (Zu .u64 (u64.wrap (u64.wrap n*8)) ((56-8*i:Nat):Int)):=by
 grind [Zcw,w64,Zft,wr8]
theorem Z9p (n:Nat):W7 n 8=len8 n:=by
 simp only [W7,List.nil_append]
 rw [Xb n 0 (by omega),Xb n 1 (by omega),Xb n 2 (by omega),Xb n 3 (by omega),Xb n 4 (by omega),Xb n 5 (by omega),Xb n 6 (by omega),Xb n 7 (by omega)]
 rfl
theorem Z9q (n:Nat) (h:n<=100000000000):[128]++Z11 n=UH n:=by
 unfold Z11 UH
 have e1:Int.tmod (n:Int) 64=(n:Int)%64:=tm (by omega)
 have e2:i64.wrap (119-(n:Int)%64)=119-(n:Int)%64:=w64 (by omega)
 rw [Zen n h,e1,e2,tm (by omega)]
 grind
theorem ZaX (bs:LI) (h:bs.length<=100000000000):Qj bs=Z0q bs:=by
 unfold Qj Z0q
 rw [Z9p,JT bs,Z9q _ h]
theorem Z3Y (P:LI->LI->LI) (ys:LI):∀i,QQ P ys i=UI P i YK.st ys
 | 0=>Z3R P ys
 | i+1=>by rw [Z3S,Z0p,Z3Y P ys i]
theorem Z8k:∀(n:Nat) (st ms:LI),W8 st->W8 (UI XT n st ms)
 | 0,_,_,h=>h
 | n+1,st,_,h=>Z8k n _ _ (Z5O st _ h.1)
@[irreducible] def ZP (bs:LI):LI:=ZaR Xn bs
theorem Y6 (bs:LI):(ZP bs).length=32:=by unfold ZP ZaR;exact Z9o _
theorem ZcK {bs:LI} (h:∀x∈bs,U8 x) (hl:bs.length<=100000000000):ZP bs=ZB bs:=by
 unfold ZP ZaR
 rw [Z3Y,ZaX bs hl,Z2F _ _ _ Z5Q (Z9n h),Z7r (Z8k _ _ _ Z5Q),Z5P]
 rfl
theorem Z9r (xs:LI) (h:xs.length<=100000000000):Ya PP 77 [.vints .u8 xs xs.length] (.agg [.arr .u8 32 (ZP xs)]) 0 []:=by
 unfold ZP
 exact Z9i ZcJ xs h
def XV {α:Type} (lt:α->α->Bool) (x:α):List α->List α
 | []=>[x]
 | y::r=>match lt x y with
  | true=>x::y::r
  | false=>y::XV lt x r
def Z2G {α:Type} (lt:α->α->Bool) (l:List α):Prop:=l.Pairwise fun a b=>lt b a=false
structure WO {α:Type} (lt:α->α->Bool):Prop where
 asym:∀x y,lt x y=true->lt y x=false
 neg:∀x y z,lt x y=true->lt z y=false->lt x z=true
theorem Z5R {α:Type} {lt:α->α->Bool} {x z:α}:∀{l:List α},z∈XV lt x l↔z=x\/z∈l
 | []=>by simp [XV]
 | y::r=>by
  unfold XV
  split
  ·simp
  ·simp only [J6,Z5R (l:=r)]
   constructor<;>(intro h;rcases h with h|h|h<;>simp [h])
theorem Ud {α:Type} {lt:α->α->Bool} {x:α}:∀{l:List α},(XV lt x l).length=l.length+1
 | []=>rfl
 | y::r=>by
  unfold XV
  split
  ·simp
  ·simp [Ud (l:=r)]
theorem Z3Z {α:Type} {lt:α->α->Bool} {x:α}:∀{l:List α},(XV lt x l).Perm (x::l)
 | []=>.refl _
 | y::r=>by
  unfold XV
  split
  ·exact .refl _
  ·exact (List.Perm.cons y Z3Z).trans (List.Perm.swap x y r)
theorem Z5S {α:Type} {lt:α->α->Bool} (wo:WO lt) {x:α}:∀{l:List α},Z2G lt l->Z2G lt (XV lt x l)
 | [],_=>by simp [XV,Z2G]
 | y::r,h=>by
  unfold Z2G at h
  rw [Kc] at h
  unfold XV
  split
  ·rename_i hx
   unfold Z2G
   rw [Kc,Kc]
   refine ⟨fun z hz=> ?_,h.1,h.2⟩
   rcases J6.1 hz with rfl|hz
   ·exact wo.asym _ _ hx
   ·cases hzx:lt z x with
    | false=>rfl
    | true=>
     have:=h.1 z hz
     -- z < x < y, so z < y
     have h2:=wo.neg z x y hzx (wo.asym _ _ hx)
     rw [h2] at this;cases this
  ·rename_i hx
   unfold Z2G
   rw [Kc]
   refine ⟨fun z hz=> ?_,Z5S wo h.2⟩
   rcases Z5R.1 hz with rfl|hz
   ·exact hx
   ·exact h.1 z hz
theorem Z0Q {α:Type} {lt:α->α->Bool}:∀{l m:List α},l.Perm m->Z2G lt l->Z2G lt m->(∀a∈l,∀b∈l,lt a b=false->lt b a=false->a=b)->l=m
 | [],m,hp,_,_,_=>by simpa using hp.symm
 | x::r,[],hp,_,_,_=>by simp at hp
 | x::r,y::q,hp,hl,hm,hu=>by
  unfold Z2G at hl hm
  rw [Kc] at hl hm
  have hyx:y=x:=by
   by_cases e:y=x
   ·exact e
   ·have hx:x∈q:=by
     have:=hp.subset (Jq ..)
     rcases J6.1 this with h|h
     ·exact absurd h.symm e
     ·exact h
    have hy:y∈r:=by
     have:=hp.symm.subset (Jq ..)
     rcases J6.1 this with h|h
     ·exact absurd h e
     ·exact h
    exact hu y (Jf _ hy) x (Jq ..) (hl.1 y hy) (hm.1 x hx)
  subst hyx
  rw [List.perm_cons] at hp
  rw [Z0Q hp hl.2 hm.2 fun a ha b hb=>hu a (Jf _ ha) b (Jf _ hb)]
def ZY:LI->LI->Int
 | [],_=>0
 | a::r,l=>match l with
  | []=>0
  | b::s=>if a<b then -1 else if b<a then 1 else ZY r s
theorem XH (a b:Int) (r s:LI):ZY (a::r) (b::s)=if a<b then -1 else if b<a then 1 else ZY r s:=rfl
theorem Z2H:∀a b,ZY a b= -1\/ZY a b=0\/ZY a b=1
 | [],_=>.inr (.inl rfl)
 | _::_,[]=>.inr (.inl rfl)
 | a::r,b::s=>by
  rw [XH]
  split
  ·exact .inl rfl
  ·split
   ·exact .inr (.inr rfl)
   ·exact Z2H r s
theorem Wo:∀a b,ZY b a= -ZY a b
 | [],[]=>rfl
 | [],_::_=>rfl
 | _::_,[]=>rfl
 | a::r,b::s=>by
  have:=Wo r s
  rw [XH,XH]
  split<;>split<;>(try split)<;>omega
theorem Z9s (a:LI):ZY a a=0:=by
 have:=Wo a a
 omega
theorem Z8l:∀{a b:LI},a.length=b.length->ZY a b=0->a=b
 | [],[],_,_=>rfl
 | [],_::_,h,_=>by simp at h
 | _::_,[],h,_=>by simp at h
 | a::r,b::s,h,h0=>by
  rw [XH] at h0
  split at h0
  ·omega
  ·split at h0
   ·omega
   ·have:a=b:=by omega
    rw [this,Z8l (by simpa using h) h0]
theorem Z2I:∀{a b c:LI},a.length=b.length->b.length=c.length->ZY a b<0->ZY b c<0->ZY a c<0
 | [],_,_,_,_,h,_=>by simp [ZY] at h
 | _::_,[],_,h,_,_,_=>by simp at h
 | _::_,_::_,[],_,h,_,_=>by simp at h
 | a::r,b::s,c::t,l1,l2,h1,h2=>by
  have ih:=Z2I (a:=r) (b:=s) (c:=t) (by simpa using l1) (by simpa using l2)
  rw [XH] at h1 h2⊢
  split at h1
  ·split at h2
   ·rw [if_pos (by omega)];omega
   ·split at h2
    ·omega
    ·rw [if_pos (by omega)];omega
  ·split at h1
   ·omega
   ·split at h2
    ·rw [if_pos (by omega)];omega
    ·split at h2
     ·omega
     ·rw [if_neg (by omega),if_neg (by omega)]
      exact ih h1 h2
structure H32 where
 v:LI
 l:v.length=32
 b:∀x∈v,0<=x/\x<=255
theorem H32.ext {a b:H32} (h:a.v=b.v):a=b:=by
 cases a;cases b;cases h;rfl
theorem H32.cmp {a b:H32} (h:ZY a.v b.v=0):a=b:=H32.ext (Z8l (a.l.trans b.l.symm) h)
def h0:H32:=⟨List.replicate 32 0,by simp,fun x hx=>by obtain ⟨_,rfl⟩:=List.mem_replicate.1 hx;omega⟩
structure Zj where
 inn:H32
 inID:Int
 out:H32
 outID:Int
variable {D:List Zj}
def Zq:Zj:=⟨h0,0,h0,0⟩
instance:Inhabited Zj:=⟨Zq⟩
def Zep (a b:Int):Int:=if a<b then -1 else if b<a then 1 else 0
def cfT (x y:Zj):Int:=if ZY x.out.v y.out.v≠0 then ZY x.out.v y.out.v else Zep x.outID y.outID
def ltT (x y:Zj):Bool:=decide (cfT x y<0)
theorem Z4S (x y:Zj):ltT x y=true↔ZY x.out.v y.out.v<0\/(ZY x.out.v y.out.v=0/\x.outID<y.outID):=by
 unfold ltT cfT Zep
 rw [decide_eq_true_iff]
 split<;>(try split)<;>(try split)<;>omega
theorem Z4T (x y:Zj):ltT x y=false↔¬(ZY x.out.v y.out.v<0\/(ZY x.out.v y.out.v=0/\x.outID<y.outID)):=by
 rw [<-Z4S,Bool.not_eq_true]
theorem Z5T (a b c:H32):(ZY a.v b.v<0->ZY b.v c.v<0->ZY a.v c.v<0)/\(ZY a.v b.v=0->ZY a.v c.v=ZY b.v c.v)/\(ZY b.v c.v=0->ZY a.v c.v=ZY a.v b.v):=
 ⟨Z2I (a.l.trans b.l.symm) (b.l.trans c.l.symm),fun h=>by rw [H32.cmp h],fun h=>by rw [H32.cmp h]⟩
theorem Z8m (x:Zj):ltT x x=false:=by
 rw [Z4T,Z9s]
 omega
theorem Z40 (x y z:Zj) (h1:ltT x y=true) (h2:ltT y z=true):ltT x z=true:=by
 rw [Z4S] at*
 obtain ⟨q1,q2,q3⟩:=Z5T x.out y.out z.out
 rcases h1 with h1|h1<;>rcases h2 with h2|h2
 ·exact .inl (q1 h1 h2)
 ·rw [q3 h2.1];exact .inl h1
 ·rw [q2 h1.1];exact .inl h2
 ·rw [q2 h1.1];exact .inr ⟨h2.1,by omega⟩
theorem Z2J (x y z:Zj) (h1:ltT x y=false) (h2:ltT y z=false):ltT x z=false:=by
 rw [Z4T] at*
 obtain ⟨q1,q2,q3⟩:=Z5T z.out y.out x.out
 have a:=Wo x.out.v y.out.v
 have b:=Wo y.out.v z.out.v
 have c:=Wo x.out.v z.out.v
 rcases Z2H x.out.v y.out.v with e|e|e<;>rcases Z2H y.out.v z.out.v with e'|e'|e'
 all_goals first
  | omega
  | (have:=q1 (by omega) (by omega);omega)
  | (have:=q2 (by omega);omega)
  | (have:=q3 (by omega);omega)
theorem Zeq:WO ltT where
 asym x y h:=by
  cases h2:ltT y x with
  | false=>rfl
  | true=>
   have:=Z40 x y x h h2
   rw [Z8m] at this
   cases this
 neg x y z h1 h2:=by
  cases h3:ltT x z with
  | true=>rfl
  | false=>
   have:=Z2J x z y h3 h2
   rw [h1] at this
   cases this
def ZR (o:LI) (id:Int) (y:Zj):Bool:=y.out.v==o&&y.outID==id
def V0 (o:LI) (id:Int) (y:Zj):Bool:=y.inn.v==o&&y.inID==id
theorem ZcL {x y:Zj} (h1:ltT x y=false) (h2:ltT y x=false):ZR y.out.v y.outID x=true:=by
 rw [Z4T] at*
 have a:=Wo x.out.v y.out.v
 have:ZY x.out.v y.out.v=0:=by omega
 unfold ZR
 rw [J1,beq_iff_eq,beq_iff_eq]
 exact ⟨congrArg H32.v (H32.cmp this),by omega⟩
theorem Z2K (p:Nat->Bool) (n:Nat):Nat.blt (Zm p n) n=(List.range n).any p:=by
 rw [JF,JI]
 rcases Yz p n with ⟨h1,h2⟩|⟨h1,h2,h3⟩
 ·rw [h1]
  constructor
  ·intro h;have:=Xm h;omega
  ·rintro ⟨j,hj,hp⟩;rw [h2 j (JW.1 hj)] at hp;cases hp
 ·exact ⟨fun _=>⟨_,JW.2 h1,h2⟩,fun _=>Yt h1⟩
theorem Z41 (d:α) (T:List α) (q:α->Bool):(List.range T.length).any (fun j=>q (T.getD j d))=T.any q:=by
 rw [JF,JI,JI]
 constructor
 ·rintro ⟨j,hj,hq⟩
  have hj:=JW.1 hj
  exact ⟨_,K6 hj,by rw [J5,J8 hj] at hq;exact hq⟩
 ·rintro ⟨x,hx,hq⟩
  obtain ⟨j,hj,rfl⟩:=Jk hx
  exact ⟨j,JW.2 hj,by rw [J5,J8 hj];exact hq⟩
theorem getD_lt (d:α) {T:List α} (x:α) (h:j<T.length):(T++[x]).getD j d=T.getD j d:=by
 rw [J5,J5,Ja h]
theorem QT (d:α) {T:List α} (x:α):(T++[x]).getD T.length d=x:=by
 rw [J5,Jj (J2 _),Nat.sub_self]
 rfl
def VD (x:Zj):Bool:=decide (0<=x.inID/\x.inID<=2147483647)&&decide (0<=x.outID/\x.outID<=2147483647)
def Z2L (x y:Zj):Bool:=V0 x.inn.v x.inID y||ZR x.out.v x.outID y
def clash (T:List Zj) (x:Zj):Bool:=T.any fun y=>V0 x.inn.v x.inID y||ZR x.out.v x.outID y
def Xd (T:List Zj) (x:Zj):Int:=if VD x=true then (if clash T x=true then 360 else if 48<=T.length then 3 else 0) else 2
def VG (T:List Zj) (x:Zj):List Zj:=if Xd T x=0 then T++[x] else T
def QU (T:List Zj) (x:Zj):List Zj:=if Xd T x=0 then XV ltT x T else T
def atO (T:List Zj) (o:LI) (id:Int):Nat:=Zm (fun j=>ZR o id (T.getD j Zq)) T.length
def unP (T:List Zj) (o:LI) (id:Int):List Zj:=T.eraseIdx (atO T o id)
def unF (T:List Zj) (o:LI) (id:Int):List Zj:=T.filter fun y=> !ZR o id y
structure TR (T D:List Zj):Prop where
 perm:D.Perm T
 ord:Z2G ltT D
 outs:T.Pairwise fun a b=>ZR b.out.v b.outID a=false
 len:T.length<=48
theorem Z9t (a b:Zj):ZR b.out.v b.outID a=ZR a.out.v a.outID b:=by
 unfold ZR
 rw [JF,J1,J1,beq_iff_eq,beq_iff_eq,beq_iff_eq,beq_iff_eq]
 exact ⟨fun h=>⟨h.1.symm,h.2.symm⟩,fun h=>⟨h.1.symm,h.2.symm⟩⟩
theorem TR.nil:TR [] []:=⟨.refl _,.nil,.nil,by simp⟩
theorem Z7s {T:List Zj} (h:D.Perm T) (x:Zj):clash D x=clash T x:=by
 unfold clash
 rw [JF,JI,JI]
 exact ⟨fun ⟨y,hy,hp⟩=>⟨y,h.mem_iff.1 hy,hp⟩,fun ⟨y,hy,hp⟩=>⟨y,h.mem_iff.2 hy,hp⟩⟩
theorem Z9u {T:List Zj} (h:D.Perm T) (x:Zj):Xd D x=Xd T x:=by
 unfold Xd
 rw [Z7s h,h.length_eq]
theorem Z7t {T:List Zj} {x:Zj} (h:Xd T x=0):VD x=true/\clash T x=false/\T.length<48:=by
 unfold Xd at h
 split at h
 ·split at h
  ·omega
  ·split at h
   ·omega
   ·exact ⟨by assumption,by simpa using ‹¬clash T x=true›,by omega⟩
 ·omega
theorem TR.dOuts {T:List Zj} (h:TR T D):D.Pairwise fun a b=>ZR b.out.v b.outID a=false:=h.perm.pairwise_iff (fun {a b} hab=>by rw [Z9t];exact hab)|>.2 h.outs
theorem TR.tie {T:List Zj} (h:TR T D) (x:Zj):TR (VG T x) (QU D x):=by
 unfold VG QU
 rw [Z9u h.perm]
 split
 ·rename_i he
  obtain ⟨h1,h2,h3⟩:=Z7t he
  refine ⟨Z3Z.trans ((List.Perm.cons x h.perm).trans (List.perm_append_singleton x T).symm),Z5S Zeq h.ord, ?_,by rw [J7];simp;omega⟩
  rw [List.pairwise_append]
  refine ⟨h.outs,by simp,fun a ha b hb=> ?_⟩
  rw [List.mem_singleton.1 hb]
  have:=(K3.1 h2) a ha
  simp only [JE,not_or,Bool.not_eq_true] at this
  exact this.2
 ·exact h
theorem Z42 {p:Zj->Bool}:∀{l:List Zj} {j:Nat},(hj:j<l.length)->p l[j]=true->(∀i,(hi:i<l.length)->i≠j->p l[i]=false)->l.eraseIdx j=l.filter fun y=> !p y
 | [],_,hj,_,_=>by simp at hj
 | a::l,0,_,h0,h=>by
  have h0:p a=true:=h0
  have:l.filter (fun y=> !p y)=l:=by
   rw [List.filter_eq_self]
   intro y hy
   obtain ⟨i,hi,rfl⟩:=Jk hy
   have:=h (i+1) (by simp;omega) (by omega)
   simp only [List.getElem_cons_succ] at this
   rw [this]
   rfl
  rw [List.eraseIdx_cons_zero,List.filter_cons,h0,this]
  rfl
 | a::l,j+1,hj,h0,h=>by
  have ha:p a=false:=h 0 (by simp) (by omega)
  rw [List.eraseIdx_cons_succ,List.filter_cons,ha,Z42 (l:=l) (j:=j) (by simpa using hj) h0 fun i hi hne=>by
   have:=h (i+1) (by simp;omega) (by omega)
   simpa using this]
  rfl
theorem XI {T:List Zj} (h:T.Pairwise fun a b=>ZR b.out.v b.outID a=false) {o:LI} {id:Int}:∀{i j:Nat} (hi:i<T.length) (hj:j<T.length),i<j->ZR o id T[i]=true->ZR o id T[j]=true->False:=by
 intro i j hi hj hlt h1 h2
 have:=JP.1 h i j hi hj hlt
 unfold ZR at*
 rw [J1,beq_iff_eq,beq_iff_eq] at h1 h2
 rw [h1.1,h1.2,h2.1,h2.2] at this
 simp at this
theorem getD_at {T:List Zj} {i:Nat} (h:i<T.length):T.getD i Zq=T[i]:=by
 rw [J5,J8 h]
 rfl
theorem Zer {T:List Zj} (h:T.Pairwise fun a b=>ZR b.out.v b.outID a=false) (o:LI) (id:Int):unP T o id=unF T o id:=by
 unfold unP unF
 rcases Yz (fun j=>ZR o id (T.getD j Zq)) T.length with ⟨h1,h2⟩|⟨h1,h2,h3⟩
 ·have e:atO T o id=T.length:=h1
  rw [e,JL (J2 _),eq_comm,List.filter_eq_self]
  intro y hy
  obtain ⟨i,hi,rfl⟩:=Jk hy
  have:=h2 i hi
  rw [getD_at hi] at this
  rw [this]
  rfl
 ·have hj:atO T o id<T.length:=h1
  refine Z42 hj (by rw [<-getD_at hj];exact h2) fun i hi hne=> ?_
  cases hp:ZR o id T[i] with
  | false=>rfl
  | true=>
   have hq:ZR o id T[atO T o id]=true:=by rw [<-getD_at hj];exact h2
   rcases Nat.lt_or_gt_of_ne hne with hlt|hgt
   ·exact (XI h hi hj hlt hp hq).elim
   ·exact (XI h hj hi hgt hq hp).elim
theorem TR.untie {T:List Zj} (h:TR T D) (o:LI) (id:Int):TR (unP T o id) (unF D o id):=by
 rw [Zer h.outs]
 unfold unF
 exact ⟨h.perm.filter _,List.Pairwise.sublist List.filter_sublist h.ord,List.Pairwise.sublist List.filter_sublist h.outs,Jw (K1 _ _) h.len⟩
theorem TR.sorted {T M:List Zj} (h:TR T D) (hm:M.Perm T) (ho:Z2G ltT M):M=D:=by
 refine Z0Q (lt:=ltT) (hm.trans h.perm.symm) ho h.ord fun a ha b hb h1 h2=> ?_
 have ha:=hm.mem_iff.1 ha
 have hb:=hm.mem_iff.1 hb
 obtain ⟨i,hi,rfl⟩:=Jk ha
 obtain ⟨j,hj,rfl⟩:=Jk hb
 have hk:=ZcL h1 h2
 have hs:ZR T[j].out.v T[j].outID T[j]=true:=by unfold ZR;simp
 rcases Nat.lt_trichotomy i j with hlt|rfl|hgt
 ·exact (XI h.outs hi hj hlt hk hs).elim
 ·rfl
 ·exact (XI h.outs hj hi hgt hs hk).elim
structure ZH where
 hash:H32
 key:H32
 amount:Int
 least:Int
 secret:H32
def ZK:ZH:=⟨h0,h0,0,0,h0⟩
instance:Inhabited H32:=⟨h0⟩
instance:Inhabited ZH:=⟨ZK⟩
def ltS (a b:H32):Bool:=decide (ZY a.v b.v<0)
def ltQ (a b:ZH):Bool:=decide (ZY a.hash.v b.hash.v<0)
def Xt (H:LI->LI) (S:List H32) (h:LI):Nat:=Zm (fun j=>h==H (S.getD j h0).v) S.length
def atQ (Q:List ZH) (h:LI):Nat:=Zm (fun j=>h==(Q.getD j ZK).hash.v) Q.length
def ZaY (H:LI->LI) (S:List H32) (s:H32):Int:=if Xt H S (H s.v)<S.length then 0 else if 64<=S.length then 3 else 0
def QV (H:LI->LI) (S:List H32) (s:H32):List H32:=if Xt H S (H s.v)<S.length then S.set (Xt H S (H s.v)) s else if 64<=S.length then S else S++[s]
def Z13 (H:LI->LI) (S:List H32) (h:LI):Int:=if Xt H S h<S.length then 0 else 5
def Z14 (H:LI->LI) (S:List H32) (h:LI):List H32:=S.eraseIdx (Xt H S h)
def Vk (H:LI->LI) (q:ZH):Bool:=decide (1<=q.amount/\q.amount<=1125899906842624)&&decide (1<=q.least/\q.least<=1000)&&(H q.secret.v==q.hash.v)
def W9 (H:LI->LI) (Q:List ZH) (q:ZH):Int:=if Vk H q=true then (if atQ Q q.hash.v<Q.length then 360 else if 16<=Q.length then 3 else 0) else 2
def Z0r (H:LI->LI) (Q:List ZH) (q:ZH):List ZH:=if W9 H Q q=0 then Q++[q] else Q
def Z15 (Q:List ZH) (h:LI):Int:=if atQ Q h<Q.length then 0 else 5
def Z16 (Q:List ZH) (h:LI):List ZH:=Q.eraseIdx (atQ Q h)
def Z0s (S:List H32) (s:H32):List H32:=if (S.any fun y=>decide (ZY s.v y.v=0))=true then S else if 64<=S.length then S else XV ltS s S
def Z2M (S:List H32) (s:H32):Int:=if (S.any fun y=>decide (ZY s.v y.v=0))=true then 0 else if 64<=S.length then 3 else 0
def Z17 (H:LI->LI) (S:List H32) (h:LI):List H32:=if Xt H S h<S.length then S.filter (fun y=> !(y.v==(S.getD (Xt H S h) h0).v)) else S
def Z18 (H:LI->LI) (Q:List ZH) (q:ZH):List ZH:=if W9 H Q q=0 then XV ltQ q Q else Q
def Z19 (Q:List ZH) (h:LI):List ZH:=if atQ Q h<Q.length then Q.filter (fun y=> !(y.hash.v==h)) else Q
structure Ze where
 T:List Zj
 S:List H32
 Q:List ZH
variable {X:Ze}
structure Ze.Lim (x:Ze):Prop where
 t:x.T.length<=48
 s:x.S.length<=64
 q:x.Q.length<=16
 ko:x.T.Pairwise fun a b=>ZR b.out.v b.outID a=false
 ki:x.T.Pairwise fun a b=>V0 b.inn.v b.inID a=false
theorem Ze.Lim.nil:Ze.Lim ⟨[],[],[]⟩:=⟨by simp,by simp,by simp,.nil,.nil⟩
theorem Ze.Lim.tie (h:X.Lim) (x:Zj):Ze.Lim ⟨VG X.T x,X.S,X.Q⟩:=by
 by_cases he:Xd X.T x=0
 ·have e:VG X.T x=X.T++[x]:=by unfold VG;rw [if_pos he]
  obtain ⟨h1,h2,h3⟩:=Z7t he
  have hc:∀a∈X.T,V0 x.inn.v x.inID a=false/\ZR x.out.v x.outID a=false:=fun a ha=>by
   have:=(K3.1 h2) a ha
   simp only [JE,not_or,Bool.not_eq_true] at this
   exact this
  rw [e]
  refine ⟨by show (X.T++[x]).length<=48;rw [J7];simp;omega,h.s,h.q, ?_, ?_⟩
  ·exact List.pairwise_append.2 ⟨h.ko,by simp,fun a ha b hb=>by rw [List.mem_singleton.1 hb];exact (hc a ha).2⟩
  ·exact List.pairwise_append.2 ⟨h.ki,by simp,fun a ha b hb=>by rw [List.mem_singleton.1 hb];exact (hc a ha).1⟩
 ·have e:VG X.T x=X.T:=by unfold VG;rw [if_neg he]
  rw [e]
  exact h
theorem Ze.Lim.untie (h:X.Lim) (o:LI) (id:Int):Ze.Lim ⟨unP X.T o id,X.S,X.Q⟩:=
 ⟨Jw (List.length_eraseIdx_le ..) h.t,h.s,h.q,List.Pairwise.sublist (List.eraseIdx_sublist ..) h.ko,List.Pairwise.sublist (List.eraseIdx_sublist ..) h.ki⟩
theorem Zfu {T:List Zj} (hi:T.Pairwise fun a b=>V0 b.inn.v b.inID a=false) (hj:j<T.length):Zm (fun i=>V0 (T.getD j Zq).inn.v (T.getD j Zq).inID (T.getD i Zq)) T.length=j:=by
 refine VP hj ?_ fun i hlt=> ?_
 ·unfold V0;simp
 ·have:=JP.1 hi i j (by omega) hj hlt
  rw [getD_at hj,getD_at (by omega)]
  exact this
theorem Z43 (d:α) {T:List α} {i:Nat}:(T.eraseIdx j).getD i d=if i<j then T.getD i d else T.getD (i+1) d:=by
 rw [J5,List.getElem?_eraseIdx]
 split<;>rw [J5]
theorem ZaZ {S:List H32} {s:H32} (h:S.length<=64):(QV H S s).length<=64:=by
 unfold QV
 split
 ·simpa using h
 ·split
  ·exact h
  ·rw [J7];simp;omega
theorem Zb0 {S:List H32} {s:H32} (h:S.length<=64):(Z0s S s).length<=64:=by
 unfold Z0s
 split
 ·exact h
 ·split
  ·exact h
  ·rw [Ud];omega
theorem Zb1 {S:List H32} {s:LI} (h:S.length<=64):(Z14 H S s).length<=64:=Jw (List.length_eraseIdx_le ..) h
theorem Zb2 {S:List H32} {s:LI} (h:S.length<=64):(Z17 H S s).length<=64:=by
 unfold Z17
 split
 ·exact Jw (K1 _ _) h
 ·exact h
theorem Zb3 {Q:List ZH} {q:ZH} (h:W9 H Q q=0):Q.length<16:=by
 unfold W9 at h
 split at h
 ·split at h
  ·omega
  ·split at h<;>omega
 ·omega
theorem Zb4 {Q:List ZH} {q:ZH} (h:Q.length<=16):(Z0r H Q q).length<=16:=by
 unfold Z0r
 split
 ·rename_i he
  have:=Zb3 he
  rw [J7];simp;omega
 ·exact h
theorem Zb5 {Q:List ZH} {q:ZH} (h:Q.length<=16):(Z18 H Q q).length<=16:=by
 unfold Z18
 split
 ·rename_i he
  have:=Zb3 he
  rw [Ud];omega
 ·exact h
theorem Zb6 {Q:List ZH} {q:LI} (h:Q.length<=16):(Z16 Q q).length<=16:=Jw (List.length_eraseIdx_le ..) h
theorem Zb7 {Q:List ZH} {q:LI} (h:Q.length<=16):(Z19 Q q).length<=16:=by
 unfold Z19
 split
 ·exact Jw (K1 _ _) h
 ·exact h
def ZS {α:Type} (lt:α->α->Bool) (x:α) (D:List α) (i:Nat):Bool:=(D.take i).any (lt x)
def ZT {α:Type} (lt:α->α->Bool) (x:α) (D:List α) (i:Nat):List α:=if ZS lt x D i=true then XV lt x (D.take i) else D.take i
theorem Z5U {α:Type} {lt:α->α->Bool} {x y:α}:∀{l:List α},XV lt x (l++[y])=if l.any (lt x)=true then XV lt x l++[y] else if lt x y=true then l++[x,y] else l++[y,x]
 | []=>by
  simp only [List.nil_append,XV,List.any_nil,Bool.false_eq_true,if_false]
  cases lt x y<;>rfl
 | z::l=>by
  simp only [List.cons_append,XV,List.any_cons]
  cases h:lt x z with
  | true=>simp
  | false=>
   simp only [Bool.false_or,Z5U (l:=l)]
   split
   ·rfl
   ·split<;>rfl
theorem Z44 {α:Type} {lt:α->α->Bool} {x:α}:∀{l:List α},l.any (lt x)=false->XV lt x l=l++[x]
 | [],_=>rfl
 | z::l,h=>by
  simp only [List.any_cons,Bool.or_eq_false_iff] at h
  simp only [XV,h.1,Z44 h.2,List.cons_append]
theorem Z0t (d:α) {D:List α} {i:Nat} (h:i<D.length):D.take (i+1)=D.take i++[D.getD i d]:=by
 rw [List.take_succ_eq_append_getElem h,J5,J8 h]
 rfl
theorem Wj (d:α) {lt:α->α->Bool} {x:α} {D:List α} {i:Nat} (h:i<D.length):ZS lt x D (i+1)=(ZS lt x D i||lt x (D.getD i d)):=by
 unfold ZS
 rw [Z0t d h,List.any_append]
 simp
theorem Ue (d:α) {lt:α->α->Bool} {x:α} {D:List α} {i:Nat} (h:i<D.length):ZT lt x D (i+1)=ZT lt x D i++(if (!ZS lt x D i&&lt x (D.getD i d))=true then [x,D.getD i d] else [D.getD i d]):=by
 unfold ZT
 rw [Wj d h,Z0t d h,Z5U]
 unfold ZS
 cases h1:(D.take i).any (lt x)<;>cases h2:lt x (D.getD i d)<;>simp
theorem Qk {lt:α->α->Bool} {x:α} {D:List α}:XV lt x D=if ZS lt x D D.length=true then ZT lt x D D.length else ZT lt x D D.length++[x]:=by
 unfold ZT ZS
 rw [K7]
 cases h:D.any (lt x) with
 | true=>simp
 | false=>simp [Z44 h]
theorem YA {lt:α->α->Bool} {x:α} {D:List α} {i:Nat}:(ZT lt x D i).length<=D.length+1:=by
 unfold ZT
 split
 ·rw [Ud,Ji];omega
 ·rw [Ji];omega
def Wk {α:Type} (p:α->Bool) (D:List α) (i:Nat):List α:=(D.take i).filter p
theorem Z0u (d:α) {p:α->Bool} {D:List α} {i:Nat} (h:i<D.length):Wk p D (i+1)=Wk p D i++(if p (D.getD i d)=true then [D.getD i d] else []):=by
 unfold Wk
 rw [Z0t d h,List.filter_append,List.filter_cons]
 split<;>rfl
theorem Z2N {p:α->Bool} {D:List α}:Wk p D D.length=D.filter p:=by
 unfold Wk
 rw [K7]
theorem Z2O {p:α->Bool} {D:List α} {i:Nat}:(Wk p D i).length<=D.length:=by
 refine Jw (K1 _ _) ?_
 rw [Ji]
 omega
def Vl (y x:Zj):Bool:=y.inn.v==x.inn.v&&(y.inID==x.inID&&(y.out.v==x.out.v&&y.outID==x.outID))
def unD (D:List Zj) (o:LI) (id:Int):List Zj:=if atO D o id<D.length then D.filter (fun y=> !Vl y (D.getD (atO D o id) Zq)) else D
theorem Zes (h:D.Pairwise fun a b=>ZR b.out.v b.outID a=false) (o:LI) (id:Int):unD D o id=unF D o id:=by
 unfold unD unF
 rcases Yz (fun j=>ZR o id (D.getD j Zq)) D.length with ⟨h1,h2⟩|⟨h1,h2,h3⟩
 ·have e:atO D o id=D.length:=h1
  rw [if_neg (by omega),eq_comm,List.filter_eq_self]
  intro y hy
  obtain ⟨i,hi,rfl⟩:=Jk hy
  have:=h2 i hi
  rw [getD_at hi] at this
  rw [this]
  rfl
 ·have hj:atO D o id<D.length:=h1
  rw [if_pos hj]
  have hq:ZR o id (D.getD (atO D o id) Zq)=true:=h2
  refine List.filter_congr fun y hy=> ?_
  congr 1
  obtain ⟨i,hi,rfl⟩:=Jk hy
  by_cases hij:i=atO D o id
  ·subst hij
   rw [getD_at hi] at hq⊢
   rw [hq]
   unfold Vl
   simp
  ·have hne:ZR o id D[i]=false:=by
    cases hp:ZR o id D[i] with
    | false=>rfl
    | true=>
     rw [getD_at hj] at hq
     rcases Nat.lt_or_gt_of_ne hij with hlt|hgt
     ·exact (XI h hi hj hlt hp hq).elim
     ·exact (XI h hj hi hgt hq hp).elim
   rw [hne]
   cases he:Vl D[i] (D.getD (atO D o id) Zq) with
   | false=>rfl
   | true=>
    unfold Vl at he
    simp only [J1,beq_iff_eq] at he
    unfold ZR at hq hne
    rw [he.2.2.1,he.2.2.2] at hne
    rw [hq] at hne
    cases hne
theorem and_mk {a b:Bool} (h1:a=true) (h2:b=true):(a&&b)=true:=by rw [h1,h2];rfl
theorem Zb8 {E:Env} {w:World} {sz n:Nat} (hg:∀i,i<n->g' i=g i) (he:Emb E ⟨1,[(0,.rows sz n g')]⟩ w):Emb E ⟨1,[(0,.rows sz n g)]⟩ w:=by
 have hget:∀(f:Nat->List AV) x B,(Z7.mk 1 [(0,.rows sz n f)]).get x=some B->x=0/\B=.rows sz n f:=fun f x B hx=>by
  grind [Z7.get,Zz,J0]
 have h0:∀f:Nat->List AV,(Z7.mk 1 [(0,.rows sz n f)]).get 0=some (.rows sz n f):=fun f=>rfl
 refine ⟨he.fresh,fun x B hx=> ?_,fun x B hx=> ?_,fun x y B B' b N N' hx hy h1 h2=> ?_,he.imm,fun a c x B N hi hx hb=> ?_⟩
 ·grind
 ·obtain ⟨rfl,rfl⟩:=hget _ _ _ hx
  have:=he.own 0 _ (h0 g')
  cases this with
  | rows0 _ _ _ hn hb=>exact .rows0 _ _ _ hn hb
  | rows _ _ _ b cells elem fr gv hb hw hf hc hl hv=>exact .rows _ _ _ b cells elem fr gv hb hw hf (fun i hi=>hg i hi▸hc i hi) hl hv
 ·grind
 ·obtain ⟨rfl,rfl⟩:=hget _ _ _ hx
  exact he.sep a c 0 _ N hi (h0 g') hb
theorem Spec.rows {P:Program} {sz n:Nat} {o:Out} {nx:Nat} {bs:List (Nat×Blk)} (hg:∀i,i<n->g' i=g i) (h:Spec P f args ⟨1,[(0,.rows sz n g)]⟩ o nx bs):Spec P f args ⟨1,[(0,.rows sz n g')]⟩ o nx bs:=by
 intro E w rs he hl
 have he':=Zb8 hg he
 refine (h E w rs he' hl).mono ?_
 rintro e w' ⟨E',hev,ho⟩
 have own:∀b,YI E ⟨1,[(0,.rows sz n g)]⟩ b↔YI E ⟨1,[(0,.rows sz n g')]⟩ b:=fun b=>by
  grind [YI,Z7.get,Zz]
 exact ⟨E',⟨hev.le,hev.emb,hev.size,hev.os,hev.tape,hev.output,fun b hb hn=>hev.keep b hb (fun h=>hn ((own b).1 h)),fun b hb=>(hev.own b hb).imp (own b).1 id,hev.imm⟩,ho⟩
structure HB (x:LI):Prop where
 l:x.length=32
 b:∀v∈x,0<=v/\v<=255
theorem H32.hb (a:H32):HB a.v:=⟨a.l,a.b⟩
theorem H32.u8 (a:H32):∀x∈a.v,U8 x:=fun x hx=>by
 have:=a.b x hx
 unfold U8
 omega
theorem Zb9:∀{x y:LI},x.length=y.length->(∀v∈x,0<=v/\v<=255)->(∀v∈y,0<=v/\v<=255)->cmpI x y=ZY x y
 | [],[],_,_,_=>rfl
 | [],_::_,h,_,_=>by simp at h
 | _::_,[],h,_,_=>by simp at h
 | a::r,b::s,h,hx,hy=>by
  have ih:=Zb9 (x:=r) (y:=s) (by simpa using h) (fun v hv=>hx v (Jf _ hv)) fun v hv=>hy v (Jf _ hv)
  have ha:=hx a (Jq ..)
  have hb:=hy b (Jq ..)
  have k1:=(Z8b (a:=a) (b:=b) (by omega) (by omega)).2
  have k2:=(Z8b (a:=b) (b:=a) (by omega) (by omega)).2
  have e:cmpI (a::r) (b::s)=if UF a<UF b then -1 else if UF b<UF a then 1 else cmpI r s:=rfl
  rw [e,XH,ih]
  simp only [k1,k2]
theorem H32.cmpI (a b:H32):cmpI a.v b.v=ZY a.v b.v:=Zb9 (a.l.trans b.l.symm) a.b b.b
theorem Zet {x y:LI} {b:Int} {i:Nat} {P:Prop} (hx:i<x.length) (hy:i<y.length) (hb:b=ZY (x.drop i) (y.drop i)) (hP:b=ZY (x.drop (i+1)) (y.drop (i+1))->P):
  Z8 (decide (x.getD i 0<y.getD i 0)) (AV.int .i64 (-1)=AV.int .i64 b) (Z8 (decide (x.getD i 0>y.getD i 0)) (AV.int .i64 1=AV.int .i64 b) P):=by
 have e1:x.drop i=x.getD i 0::x.drop (i+1):=by simp_all
 have e2:y.drop i=y.getD i 0::y.drop (i+1):=by rw [List.drop_eq_getElem_cons hy];grind
 rw [e1,e2,XH] at hb
 by_cases h1:x.getD i 0<y.getD i 0
 ·rw [if_pos h1] at hb
  rw [decide_eq_true h1,hb]
  rfl
 ·rw [if_neg h1] at hb
  rw [decide_eq_false h1]
  by_cases h2:y.getD i 0<x.getD i 0
  ·rw [if_pos h2] at hb
   rw [decide_eq_true (show x.getD i 0>y.getD i 0 from h2),hb]
   rfl
  ·rw [if_neg h2] at hb
   rw [decide_eq_false (show ¬x.getD i 0>y.getD i 0 from h2)]
   exact hP hb
theorem Zfv (x y:LI) (b:Int) (hx:x.length=32) (hy:y.length=32) (hb:b=ZY (x.drop 0) (y.drop 0)):
  evF G0 20 74 [.agg [.arr .u8 32 x],.agg [.arr .u8 32 y]] ⟨0,[]⟩ (VF (fun v=>v=.int .i64 b)):=by
 refine @Eq.mpr _ (let d:=AV.int i64 b;let c:=AV.int i64 (-1)=d;let a:=AV.int i64 1=d;
 Z8 (decide (List.getD x 0 0<List.getD y 0 0)) c
 (Z8 (decide (List.getD x 0 0>List.getD y 0 0)) a
 (Z8 (decide (List.getD x 1 0<List.getD y 1 0)) c
 (Z8 (decide (List.getD x 1 0>List.getD y 1 0)) a
 (Z8 (decide (List.getD x 2 0<List.getD y 2 0)) c
 (Z8 (decide (List.getD x 2 0>List.getD y 2 0)) a
 (Z8 (decide (List.getD x 3 0<List.getD y 3 0)) c
 (Z8 (decide (List.getD x 3 0>List.getD y 3 0)) a
 (Z8 (decide (List.getD x 4 0<List.getD y 4 0)) c
 (Z8 (decide (List.getD x 4 0>List.getD y 4 0)) a
 (Z8 (decide (List.getD x 5 0<List.getD y 5 0)) c
 (Z8 (decide (List.getD x 5 0>List.getD y 5 0)) a
 (Z8 (decide (List.getD x 6 0<List.getD y 6 0)) c
 (Z8 (decide (List.getD x 6 0>List.getD y 6 0)) a
 (Z8 (decide (List.getD x 7 0<List.getD y 7 0)) c
 (Z8 (decide (List.getD x 7 0>List.getD y 7 0)) a
 (Z8 (decide (List.getD x 8 0<List.getD y 8 0)) c
 (Z8 (decide (List.getD x 8 0>List.getD y 8 0)) a
 (Z8 (decide (List.getD x 9 0<List.getD y 9 0)) c
 (Z8 (decide (List.getD x 9 0>List.getD y 9 0)) a
 (Z8 (decide (List.getD x 10 0<List.getD y 10 0)) c
 (Z8 (decide (List.getD x 10 0>List.getD y 10 0)) a
 (Z8 (decide (List.getD x 11 0<List.getD y 11 0)) c
 (Z8 (decide (List.getD x 11 0>List.getD y 11 0)) a
 (Z8 (decide (List.getD x 12 0<List.getD y 12 0)) c
 (Z8 (decide (List.getD x 12 0>List.getD y 12 0)) a
 (Z8 (decide (List.getD x 13 0<List.getD y 13 0)) c
 (Z8 (decide (List.getD x 13 0>List.getD y 13 0)) a
 (Z8 (decide (List.getD x 14 0<List.getD y 14 0)) c
 (Z8 (decide (List.getD x 14 0>List.getD y 14 0)) a
 (Z8 (decide (List.getD x 15 0<List.getD y 15 0)) c
 (Z8 (decide (List.getD x 15 0>List.getD y 15 0)) a
 (Z8 (decide (List.getD x 16 0<List.getD y 16 0)) c
 (Z8 (decide (List.getD x 16 0>List.getD y 16 0)) a
 (Z8 (decide (List.getD x 17 0<List.getD y 17 0)) c
 (Z8 (decide (List.getD x 17 0>List.getD y 17 0)) a
 (Z8 (decide (List.getD x 18 0<List.getD y 18 0)) c
 (Z8 (decide (List.getD x 18 0>List.getD y 18 0)) a
 (Z8 (decide (List.getD x 19 0<List.getD y 19 0)) c
 (Z8 (decide (List.getD x 19 0>List.getD y 19 0)) a
 (Z8 (decide (List.getD x 20 0<List.getD y 20 0)) c
 (Z8 (decide (List.getD x 20 0>List.getD y 20 0)) a
 (Z8 (decide (List.getD x 21 0<List.getD y 21 0)) c
 (Z8 (decide (List.getD x 21 0>List.getD y 21 0)) a
 (Z8 (decide (List.getD x 22 0<List.getD y 22 0)) c
 (Z8 (decide (List.getD x 22 0>List.getD y 22 0)) a
 (Z8 (decide (List.getD x 23 0<List.getD y 23 0)) c
 (Z8 (decide (List.getD x 23 0>List.getD y 23 0)) a
 (Z8 (decide (List.getD x 24 0<List.getD y 24 0)) c (Z8 (decide (List.getD x 24 0>List.getD y 24 0)) a (Z8 (decide (List.getD x 25 0<List.getD y 25 0)) c (Z8 (decide (List.getD x 25 0>List.getD y 25 0)) a (Z8 (decide (List.getD x 26 0<List.getD y 26 0)) c (Z8 (decide (List.getD x 26 0>List.getD y 26 0)) a (Z8 (decide (List.getD x 27 0<List.getD y 27 0)) c (Z8 (decide (List.getD x 27 0>List.getD y 27 0)) a (Z8 (decide (List.getD x 28 0<List.getD y 28 0)) c (Z8 (decide (List.getD x 28 0>List.getD y 28 0)) a (Z8 (decide (List.getD x 29 0<List.getD y 29 0)) c (Z8 (decide (List.getD x 29 0>List.getD y 29 0)) a (Z8 (decide (List.getD x 30 0<List.getD y 30 0)) c (Z8 (decide (List.getD x 30 0>List.getD y 30 0)) a (Z8 (decide (List.getD x 31 0<List.getD y 31 0)) c (Z8 (decide (List.getD x 31 0>List.getD y 31 0)) a (AV.int i64 0=d))))))))))))))))))))))))))))))))))))))))))))))))))))))))))))))))) (by kernel_rfl) ?_
 conv=>zeta
 iterate 32 refine Zet (by omega) (by omega) hb fun hb=> ?_
 rw [JZ (by omega),JZ (by omega)] at hb
 have h0:ZY [] []=0:=rfl
 rw [hb,h0]
def Zeu:YJ:=fun args _ K=>match args with
 | [.agg [.arr .u8 32 x],.agg [.arr .u8 32 y]]=>(x.length=32/\y.length=32)/\K (.int .i64 (ZY x y))
 | _=>False
theorem ZcM (args:List AV) (h:Z7) (K:AV->Prop) (hl:Zeu args h K):Zi PP 74 args h fun o h'=>∃v,o=.ret v/\h'=h/\K v:=by
 unfold Zeu at hl
 split at hl
 ·obtain ⟨⟨h1,h2⟩,hK⟩:=hl
  exact Vz ZD rfl (Zfv _ _ _ h1 h2 rfl) (fun u hu=>hu▸hK)
 ·exact hl.elim
def Zj.c (x:Zj):List AV:=[.arr .u8 32 x.inn.v,.int .i64 x.inID,.arr .u8 32 x.out.v,.int .i64 x.outID]
theorem Zgf (x y:Zj) (r:Int) (hr:r=cfT x y):
  evF G0 40 60 [.agg x.c,.agg y.c] ⟨0,[]⟩ (VF (fun v=>v=.int .i64 r)):=by
 refine @Eq.mpr _ (let l:=x.out.v;let h:=y.out.v;let b:=y.outID;let a:=x.outID;let g:=b !=b;let f:=cmpI l h;let e:=f !=0;let c:=AV.int i64 r;let d:=AV.int i64 f=c;let k:=Z8 e d (AV.int i64 0=c);let j:=Z8 e d (AV.int i64 (-1)=c);let i:=Z8 e d (AV.int i64 1=c);
 Z5 (u8=u8/\l.length=32) (Z5 (u8=u8/\h.length=32) (Z5 (b=b) (Z5 (a=a) (Z8 (a !=a) (Z8 g k j) (Z8 g i (Z8 (decide (a<b)) j (Z8 (decide (a>b)) i k)))))))) (by kernel_rfl) ?_
 conv=>zeta
 try simp only [vcA]
 try simp only [vcB]
 try simp only [vcC]
 simp only [H32.cmpI,bne_self_eq_false,Bool.false_eq_true,false_implies,true_and,forall_const,true_implies]
 refine ⟨x.out.l,y.out.l,fun h1=>⟨fun h=> ?_,fun h=> ?_⟩,fun h1=>⟨fun h2=>⟨fun h=> ?_,fun h=> ?_⟩,fun h2=>⟨fun h=> ?_,fun h=> ?_⟩⟩⟩
 all_goals
  congr 1
  simp only [bne_iff_ne,ne_eq,bne_eq_false_iff_eq] at h
  rw [hr]
  unfold cfT Zep
  split<;>(try split)<;>(try split)<;>omega
def ekV (o:LI) (id:Int):AV:=.agg [.arr .u8 32 o,.int .i64 id]
def tiV (T:List Zj) (j:Nat):AV:=.agg [.arr .u8 32 (T.getD j Zq).inn.v,.int .i64 (T.getD j Zq).inID,.arr .u8 32 (T.getD j Zq).out.v,.int .i64 (T.getD j Zq).outID]
def tkO (T:List Zj) (j:Nat):AV:=.agg [.arr .u8 32 (T.getD j Zq).out.v,.int .i64 (T.getD j Zq).outID]
def tkI (T:List Zj) (j:Nat):AV:=.agg [.arr .u8 32 (T.getD j Zq).inn.v,.int .i64 (T.getD j Zq).inID]
def skV (H:LI->LI) (S:List H32) (j:Nat):AV:=.agg [.arr .u8 32 (H (S.getD j h0).v)]
def seV (S:List H32) (j:Nat):AV:=.agg [.arr .u8 32 (S.getD j h0).v]
def qkV (Q:List ZH) (j:Nat):AV:=.agg [.arr .u8 32 (Q.getD j ZK).hash.v]
def quV (Q:List ZH) (j:Nat):AV:=.agg [.arr .u8 32 (Q.getD j ZK).hash.v,.arr .u8 32 (Q.getD j ZK).key.v,.int .i64 (Q.getD j ZK).amount,.int .i64 (Q.getD j ZK).least,.arr .u8 32 (Q.getD j ZK).secret.v]
def tbO (H:LI->LI) (x:Ze):List (Nat×Blk):=[(0,.flat [.map (some 1),.map (some 2),.map (some 3),.map (some 4)]),(1,.fmap x.T.length (tkO x.T) (tiV x.T)),(2,.fmap x.T.length (tkI x.T) (tiV x.T)),(3,.fmap x.S.length (skV H x.S) (seV x.S)),(4,.fmap x.Q.length (qkV x.Q) (quV x.Q))]
theorem Zfw (a b:LI) (i j:Int) (ha:a.length=32) (hb:b.length=32):
  Z7K PP 122 (ekV a i) (ekV b j):=by
 refine @Eq.mpr _ (Z5 (a.length=32/\b.length=32) ((a==b&&i==j)=Zx (AV.agg [AV.arr u8 32 a,AV.int i64 i]) (AV.agg [AV.arr u8 32 b,AV.int i64 j]))) (by kernel_rfl) ?_
 try simp only [vcA]
 try simp only [vcB]
 try simp only [vcC]
 exact ⟨⟨ha,hb⟩,rfl⟩
def agP (v:AV):Prop:=∃cs,v=.agg cs/\YH cs=true/\∀v∈cs,v.isCell=true\/∃k n xs,v=.arr k n xs
theorem Z8n {k:Nat} {v:AV} (h:agP v):eqV k τ v v True:=by
 obtain ⟨cs,rfl,h1,h2⟩:=h
 unfold eqV
 exact Z0n h1 trivial h2
theorem Zn {k:Nat} {n:Nat} {kf vf kf' vf':Nat->AV} (hp:∀j,agP (kf j)/\agP (vf j)) (h:∀j,j<n->kf' j=kf j/\vf' j=vf j):Zc k τ n kf vf kf' vf':=
 ⟨fun j hj=>by
  obtain ⟨e1,e2⟩:=h j hj
  rw [e1,e2]
  exact ⟨Z8n (hp j).1,Z8n (hp j).2⟩⟩
theorem Xp (T:List Zj) (j:Nat):agP (tkO T j)/\agP (tiV T j):=by
 constructor<;>(refine ⟨_,rfl,rfl,fun v hv=> ?_⟩;simp only [J6,JC,or_false] at hv;rcases hv with rfl|rfl|rfl|rfl<;>first|exact .inl rfl|exact .inr ⟨_,_,_,rfl⟩)
theorem XW (T:List Zj) (j:Nat):agP (tkI T j)/\agP (tiV T j):=by
 constructor<;>(refine ⟨_,rfl,rfl,fun v hv=> ?_⟩;simp only [J6,JC,or_false] at hv;rcases hv with rfl|rfl|rfl|rfl<;>first|exact .inl rfl|exact .inr ⟨_,_,_,rfl⟩)
theorem Xw (H:LI->LI) (S:List H32) (j:Nat):agP (skV H S j)/\agP (seV S j):=by
 constructor<;>(refine ⟨_,rfl,rfl,fun v hv=> ?_⟩;simp only [J6,JC,or_false] at hv;rcases hv with rfl<;>first|exact .inl rfl|exact .inr ⟨_,_,_,rfl⟩)
theorem XX (Q:List ZH) (j:Nat):agP (qkV Q j)/\agP (quV Q j):=by
 constructor<;>(refine ⟨_,rfl,rfl,fun v hv=> ?_⟩;simp only [J6,JC,or_false] at hv;rcases hv with rfl|rfl|rfl|rfl|rfl<;>first|exact .inl rfl|exact .inr ⟨_,_,_,rfl⟩)
theorem Z1a (H:LI->LI) (x:Ze) (k:Nat) (τ:Ren):Zc k τ x.T.length (tkO x.T) (tiV x.T) (tkO x.T) (tiV x.T)/\Zc k τ x.T.length (tkI x.T) (tiV x.T) (tkI x.T) (tiV x.T)/\Zc k τ x.S.length (skV H x.S) (seV x.S) (skV H x.S) (seV x.S)/\Zc k τ x.Q.length (qkV x.Q) (quV x.Q) (qkV x.Q) (quV x.Q):=
 ⟨Zn (Xp _) fun _ _=>⟨rfl,rfl⟩,Zn (XW _) fun _ _=>⟨rfl,rfl⟩,Zn (Xw H _) fun _ _=>⟨rfl,rfl⟩,Zn (XX _) fun _ _=>⟨rfl,rfl⟩⟩
theorem Zba (T:List Zj) {o:LI} (id:Int) (ho:o.length=32):Y5 PP 122 (ekV o id) T.length (tkO T):=⟨fun j _=>Zfw _ _ _ _ ho (T.getD j Zq).out.l⟩
theorem Zbb (T:List Zj) {o:LI} (id:Int) (ho:o.length=32):Y5 PP 122 (ekV o id) T.length (tkI T):=⟨fun j _=>Zfw _ _ _ _ ho (T.getD j Zq).inn.l⟩
theorem QW (a b:LI) (i j:Int):Zx (ekV a i) (ekV b j)=(b==a&&j==i):=by
 rw [JF]
 simp only [ekV,Zx,Un,Z04,decide_true,Jg,Bool.true_and,J1,beq_iff_eq]
 exact ⟨fun h=>⟨h.1.symm,h.2.symm⟩,fun h=>⟨h.1.symm,h.2.symm⟩⟩
theorem Zfx (T:List Zj) (o:LI) (id:Int):Zm (fun j=>Zx (ekV o id) (tkO T j)) T.length=atO T o id:=by
 unfold atO
 congr 1
 funext j
 exact QW ..
theorem Zfy (T:List Zj) (o:LI) (id:Int):Nat.blt (Zm (fun j=>Zx (ekV o id) (tkO T j)) T.length) T.length=T.any (ZR o id):=by
 rw [Z2K,<-Z41 Zq]
 congr 1
 funext j
 exact QW ..
theorem Zfz (T:List Zj) (o:LI) (id:Int):Nat.blt (Zm (fun j=>Zx (ekV o id) (tkI T j)) T.length) T.length=T.any (V0 o id):=by
 rw [Z2K,<-Z41 Zq]
 congr 1
 funext j
 exact QW ..
theorem Zbc (T:List Zj) (x:Zj):clash T x=(T.any (V0 x.inn.v x.inID)||T.any (ZR x.out.v x.outID)):=by
 unfold clash
 induction T with
 | nil=>rfl
 | cons a T ih=>
  simp only [List.any_cons,ih]
  cases V0 x.inn.v x.inID a<;>cases ZR x.out.v x.outID a<;>cases T.any (V0 x.inn.v x.inID)<;>rfl
theorem Zgg (H:LI->LI) (X:Ze) (x:Zj) (T':List Zj) (e:Int) (hL:X.Lim) (he:e=Xd X.T x) (hT:T'=VG X.T x):
  evF G0 40 17 [pt 0,.agg x.c] ⟨5,tbO H X⟩ (Ye 5 (.ret (.int .i64 e)) 5 (tbO H ⟨T',X.S,X.Q⟩)):=by
 refine @Eq.mpr _ (let j:=x.outID;let f:=decide (j=j);let z:=x.out.v;let d:=z=z;let r:=x.inn.v;let G:=AV.arr u8 (32:Nat) r;let h:=x.inID;let F:=AV.int i64 h;let q:=AV.agg [G,F];let c:=X.T;let a:=c.length;let E:=tkI c;let a2:=Y5 PP (122:Nat) q a E;let a1:=Zm (fun (i:Nat)=>Zx q (AV.agg [AV.arr u8 (32:Nat) (List.getD c i Zq).inn.v,AV.int i64 (List.getD c i Zq).inID])) a;let a0:=[AV.arr u8 (32:Nat) z,AV.int i64 j];let D:=AV.agg a0;let C:=tkO c;let B:=Y5 PP (122:Nat) D a C;let Z:=Zm (fun (i:Nat)=>Zx D (AV.agg [AV.arr u8 (32:Nat) (List.getD c i Zq).out.v,AV.int i64 (List.getD c i Zq).outID])) a;let Y:=Nat.blt Z a;let W:=decide ((0:Int)<=h);let V:= !decide (h<=(2147483647:Int));let p:=X.S;let o:=X.Q;let A:=Ze.mk T' p o;let n:=A.T;let g:=n.length;let U:=decide (a=g);let R:=tkO n;let m:=tiV n;let y:=tiV c;let P:=tkI n;let w:=A.S;let O:=w.length;let u:=A.Q;let N:=u.length;let M:=Z5 (p.length=O) (Zc (5:Nat) [] O (skV H w) (seV w) (skV H p) (seV p)/\Z5 (o.length=N) (Zc (5:Nat) [] N (qkV u) (quV u) (qkV o) (quV o)/\True));let t:=Z0 U (Zc (5:Nat) [] g R m C y/\Z0 U (Zc (5:Nat) [] g P m E y/\M));let b:=Z5 ((2:Int)=e) t;let L:=decide ((0:Int)<=j);let K:= !decide (j<=(2147483647:Int));let s:=Z8 W (Z8 V b (Z8 L (Z8 K b (Z5 ((360:Int)=e) t)) b)) b;let l:=r=r;let k:=decide (h=h);let J:=decide (a+(1:Nat)=g);let I:=W2 y a (AV.agg (G::F::a0));
 Z0 f (d/\a2/\Z8 (Nat.blt a1 a) (B/\Z8 Y s s) (B/\Z8 Y s (Z8 W (Z8 V b (Z8 L (Z8 K b (Z8 (decide ((↑a:Int)>=(48:Int))) (Z5 ((3:Int)=e) t) (a2/\Z5 (a1=a) (l/\Z0 k (d/\Z0 f (l/\Z0 k (d/\Z0 f (d/\Z0 f (l/\Z0 k (d/\Z0 f (d/\Z0 f (B/\Z5 (Z=a) (l/\Z0 k (d/\Z0 f (Z5 ((0:Int)=e) (Z0 J (Zc (5:Nat) [] g R m (W2 C a D) I/\Z0 J (Zc (5:Nat) [] g P m (W2 E a q) I/\M)))))))))))))))))) b)) b)))) (by kernel_rfl) ?_
 conv=>zeta
 try simp only [vcA]
 try simp only [vcB]
 try simp only [vcC]
 have hKI:=Zbb X.T x.inID x.inn.l
 have hKO:=Zba X.T x.outID x.out.l
 have bI:=Zfz X.T x.inn.v x.inID
 have bO:=Zfy X.T x.out.v x.outID
 have hcl:=Zbc X.T x
 obtain ⟨t1,t2,t3,t4⟩:=Z1a H X 5 []
 have hk:∀k:Int,k≠0->Xd X.T x=k->k=e/\X.T.length=T'.length/\Zc 5 [] T'.length (tkO T') (tiV T') (tkO X.T) (tiV X.T)/\X.T.length=T'.length/\Zc 5 [] T'.length (tkI T') (tiV T') (tkI X.T) (tiV X.T)/\Zc 5 [] X.S.length (skV H X.S) (seV X.S) (skV H X.S) (seV X.S)/\Zc 5 [] X.Q.length (qkV X.Q) (quV X.Q) (qkV X.Q) (quV X.Q):=fun k h0 hk=>by
  have:T'=X.T:=by
   rw [hT]
   unfold VG
   rw [if_neg (by omega)]
  rw [this,he,hk]
  exact ⟨rfl,rfl,t1,rfl,t2,t3,t4⟩
 have no:∀{a b:Bool},a=b->a= !b->False:=fun h1 h2=>by subst h1;simp at h2
 have k2:(¬(0<=x.inID/\x.inID<=2147483647)\/¬(0<=x.outID/\x.outID<=2147483647))->Xd X.T x=2:=fun h=>by
  unfold Xd VD
  rw [if_neg]
  rw [J1,decide_eq_true_eq,decide_eq_true_eq]
  omega
 have k3:(0<=x.inID/\x.inID<=2147483647)->(0<=x.outID/\x.outID<=2147483647)->Xd X.T x=if clash X.T x=true then 360 else if 48<=X.T.length then 3 else 0:=fun h1 h2=>by
  unfold Xd VD
  rw [if_pos (by rw [decide_eq_true h1,decide_eq_true h2];rfl)]
 refine ⟨hKI,fun c1=>⟨hKO,fun c2=> ?_,fun c2=> ?_⟩,fun c1=>⟨hKO,fun c2=> ?_,fun c2=> ?_⟩⟩
 all_goals
  have c1':=bI.symm.trans c1
  have c2':=bO.symm.trans c2
  rw [c1',c2'] at hcl
  refine ⟨fun a0=>⟨fun a1=>hk 2 (by decide) (k2 (.inl ?_)),fun a1=>⟨fun b0=>⟨fun b1=>hk 2 (by decide) (k2 (.inr ?_)),fun b1=> ?_⟩,fun b0=>hk 2 (by decide) (k2 (.inr ?_))⟩⟩,fun a0=>hk 2 (by decide) (k2 (.inl ?_))⟩
  ·simp only [Jl,decide_eq_false_iff_not] at a1;omega
  ·simp only [Jl,decide_eq_false_iff_not] at b1;omega
  rotate_left
  ·omega
  ·omega
  simp only [Bool.not_eq_false',decide_eq_true_eq] at a1 b1
  have k3:=k3 ⟨a0,a1⟩ ⟨b0,b1⟩
  rw [hcl] at k3
 ·exact hk 360 (by decide) k3
 ·exact hk 360 (by decide) k3
 ·exact hk 360 (by decide) k3
 ·refine ⟨fun l=>hk 3 (by decide) (by rw [k3,if_neg (by decide),if_pos (by omega)]),fun l=> ?_⟩
  have k3:Xd X.T x=0:=by rw [k3,if_neg (by decide),if_neg (by omega)]
  have hT:T'=X.T++[x]:=by rw [hT];unfold VG;rw [if_pos k3]
  have el:X.T.length+1=T'.length:=by rw [hT,J7];rfl
  have fI:Zm (fun j=>Zx (ekV x.inn.v x.inID) (tkI X.T j)) X.T.length=X.T.length:=by
   rcases Yz (fun j=>Zx (ekV x.inn.v x.inID) (tkI X.T j)) X.T.length with h|h
   ·exact h.1
   ·rw [Yt h.1] at bI
    rw [c1'] at bI
    cases bI
  have fO:Zm (fun j=>Zx (ekV x.out.v x.outID) (tkO X.T j)) X.T.length=X.T.length:=by
   rcases Yz (fun j=>Zx (ekV x.out.v x.outID) (tkO X.T j)) X.T.length with h|h
   ·exact h.1
   ·rw [Yt h.1] at bO
    rw [c2'] at bO
    cases bO
  refine ⟨hKI,fI,hKO,fO,by rw [he,k3],el,Zn (Xp _) fun j hj=> ?_,el,Zn (XW _) fun j hj=> ?_,t3,t4⟩
  all_goals
   rw [hT]
   unfold W2
   rcases Jh j X.T.length with h|h
   ·rw [Zs (by omega)]
    first|unfold tkO tiV|unfold tkI tiV
    rw [getD_lt _ _ h]
    exact ⟨rfl,rfl⟩
   ·obtain rfl:j=X.T.length:=by omega
    rw [Jg]
    first|unfold tkO tiV|unfold tkI tiV
    rw [QT]
    exact ⟨rfl,rfl⟩
structure Ym (H:LI->LI) (X:Ze) (cs:List AV) (n1:Nat) (k1 v1:Nat->AV) (n2:Nat) (k2 v2:Nat->AV) (n3:Nat) (k3 v3:Nat->AV) (n4:Nat) (k4 v4:Nat->AV):Prop where
 c:cs=[.map (some 1),.map (some 2),.map (some 3),.map (some 4)]
 o:n1=X.T.length/\k1=tkO X.T/\v1=tiV X.T
 i:n2=X.T.length/\k2=tkI X.T/\v2=tiV X.T
 s:n3=X.S.length/\k3=skV H X.S/\v3=seV X.S
 q:n4=X.Q.length/\k4=qkV X.Q/\v4=quV X.Q
 lim:X.Lim
theorem Wd (H:LI->LI) (h:X.Lim):Ym H X [.map (some 1),.map (some 2),.map (some 3),.map (some 4)] X.T.length (tkO X.T) (tiV X.T) X.T.length (tkI X.T) (tiV X.T) X.S.length (skV H X.S) (seV X.S) X.Q.length (qkV X.Q) (quV X.Q):=⟨rfl,⟨rfl,rfl,rfl⟩,⟨rfl,rfl,rfl⟩,⟨rfl,rfl,rfl⟩,⟨rfl,rfl,rfl⟩,h⟩
def Uf (H:LI->LI) (X:Ze) (h:Z7) (t o i s a:Nat):List (Nat×Blk):=(t,.flat [.map (some o),.map (some i),.map (some s),.map (some a)])::(o,.fmap X.T.length (tkO X.T) (tiV X.T))::(i,.fmap X.T.length (tkI X.T) (tiV X.T))::(s,.fmap X.S.length (skV H X.S) (seV X.S))::(a,.fmap X.Q.length (qkV X.Q) (quV X.Q))::YF (YF (YF (YF (YF h.bs t) o) i) s) a
def Z1b (H:LI->LI) (h:Z7) (args:List AV) (K0:Ze->Nat->Nat->Nat->Nat->Nat->List AV->Prop):Prop:=match args with
 | .ptr (some ⟨t,0,0,0,0⟩)::_=>match h.get t with
  |some (.flat [.map (some o),.map (some i),.map (some s),.map (some a)])=>frA [t,o,i,s,a] h 60 args fun Bs az=>match Bs with
   | [.flat cs,.fmap n1 k1 v1,.fmap n2 k2 v2,.fmap n3 k3 v3,.fmap n4 k4 v4]=>∃X,Ym H X cs n1 k1 v1 n2 k2 v2 n3 k3 v3 n4 k4 v4/\K0 X t o i s a az
   | _=>False
  | _=>False
 | _=>False
theorem Z4U (H:LI->LI) (X:Ze) (j:Nat):(plainW (tkO X.T j)=true/\plainW (tiV X.T j)=true)/\(plainW (tkI X.T j)=true)/\(plainW (skV H X.S j)=true/\plainW (seV X.S j)=true)/\plainW (qkV X.Q j)=true/\plainW (quV X.Q j)=true:=⟨⟨rfl,rfl⟩,rfl,⟨rfl,rfl⟩,rfl,rfl⟩
theorem Xq {h:Z7} {g:FuncId} {K0:Ze->Nat->Nat->Nat->Nat->Nat->List AV->Prop} (hl:Z1b H h args K0) (hK:∀X t o i s a az,X.Lim->K0 X t o i s a az->∃v X',(∀d,mvV [t,o,i,s,a] d v=some v)/\Spec PP g az ⟨5,tbO H X⟩ (.ret v) 5 (tbO H X')/\K (.ret v) ⟨h.next,Uf H X' h t o i s a⟩):Zi PP g args h K:=by
 unfold Z1b at hl
 split at hl
 ·split at hl
  ·refine Spec.fsumm hl fun Bs a hlen hK0=> ?_
   split at hK0
   ·obtain ⟨X,⟨rfl,⟨rfl,rfl,rfl⟩,⟨rfl,rfl,rfl⟩,⟨rfl,rfl,rfl⟩,⟨rfl,rfl,rfl⟩,hL⟩,hK0⟩:=hK0
    obtain ⟨v,X',hv,hs,hK⟩:=hK X _ _ _ _ _ _ hL hK0
    have q:=Z4U H X'
    exact ⟨_,_,_,_,_,hs,by simp,.ret _ _ (hv _),.cons _ _ _ _ _ _ rfl (.flat _ _ rfl) (.cons _ _ _ _ _ _ rfl (.fmap _ _ _ (fun i _=>(q i).1)) (.cons _ _ _ _ _ _ rfl (.fmap _ _ _ (fun i _=>⟨(q i).2.1,(q i).1.2⟩)) (.cons _ _ _ _ _ _ rfl (.fmap _ _ _ (fun i _=>(q i).2.2.1)) (.cons _ _ _ _ _ _ rfl (.fmap _ _ _ (fun i _=>(q i).2.2.2)) .nil)))),hK⟩
   ·exact hK0.elim
  ·exact hl.elim
 ·exact hl.elim
structure Z2P (cs:List AV) (x:Zj):Prop where
 h:cs=x.c
def Zev (H:LI->LI):Y2:=fun args h K=>Z1b H h args fun X t o i s a az=>match az with
 | [.ptr (some ⟨0,0,0,0,0⟩),.agg cs]=>∃x,Z2P cs x/\K (.ret (.int .i64 (Xd X.T x))) ⟨h.next,Uf H ⟨VG X.T x,X.S,X.Q⟩ h t o i s a⟩
 | _=>False
theorem Z8o (H:LI->LI) (args:List AV) (h:Z7) (K:KO) (hl:Zev H args h K):Zi PP 17 args h K:=by
 refine Xq hl fun X t o i s a az hL ha=> ?_
 split at ha
 ·obtain ⟨x,⟨rfl⟩,hK⟩:=ha
  exact ⟨_,_,fun _=>rfl,.evM ZD (Zgg H X x _ _ hL rfl rfl),hK⟩
 ·exact ha.elim
theorem Zgh (H:LI->LI) (X:Ze) (o:LI) (id:Int) (J:Nat) (x:Zj) (T':List Zj) (e:Int) (hL:X.Lim) (ho:o.length=32) (hJ:J=atO X.T o id) (hx:x=X.T.getD J Zq) (he:e=if J<X.T.length then 0 else 5) (hT:T'=unP X.T o id):
  evF G0 40 18 [pt 0,.agg [.arr .u8 32 o],.int .i64 id] ⟨5,tbO H X⟩ (Ye 5 (.ret (.tuple [.agg x.c,.int .i64 e])) 5 (tbO H ⟨T',X.S,X.Q⟩)):=by
 refine @Eq.mpr _ (let q1:=AV.agg [AV.arr u8 (32:Nat) o,AV.int i64 id];let b:=X.T;let a:=b.length;let h:=tkO b;let F:=Zm (fun (i:Nat)=>Zx q1 (AV.agg [AV.arr u8 (32:Nat) (List.getD b i Zq).out.v,AV.int i64 (List.getD b i Zq).outID])) a;let g:=List.getD b F Zq;let f:=g.outID;let d:=g.out.v;let E:=g.inn.v;let a1:=g.inID;let a0:=AV.agg [AV.arr u8 (32:Nat) E,AV.int i64 a1];let D:=tkI b;let C:=Zm (fun (i:Nat)=>Zx a0 (AV.agg [AV.arr u8 (32:Nat) (List.getD b i Zq).inn.v,AV.int i64 (List.getD b i Zq).inID])) a;let Z:=AV.agg [AV.arr u8 (32:Nat) d,AV.int i64 f];let Y:=Y5 PP (122:Nat) Z a h;let B:=Zm (fun (i:Nat)=>Zx Z (AV.agg [AV.arr u8 (32:Nat) (List.getD b i Zq).out.v,AV.int i64 (List.getD b i Zq).outID])) a;let W:=Nat.blt B a;let V:=x.inn.v;let t:=E=V;let s:=decide (a1=x.inID);let U:=x.out.v;let r:=d=U;let q:=decide (f=x.outID);let p:=decide ((0:Int)=e);let n:=X.S;let m:=X.Q;let A:=Ze.mk T' n m;let l:=A.T;let c:=l.length;let z:=decide (a-(1:Nat)=c);let R:=tkO l;let k:=tiV l;let j:=tiV b;let P:=Zc (5:Nat) [] c R k (X8 h B) (X8 j B);let O:=tkI l;let y:=A.S;let N:=y.length;let w:=A.Q;let M:=w.length;let L:=Z5 (n.length=N) (Zc (5:Nat) [] N (skV H y) (seV y) (skV H n) (seV n)/\Z5 (m.length=M) (Zc (5:Nat) [] M (qkV w) (quV w) (qkV m) (quV m)/\True));let K:=Z0 z (Zc (5:Nat) [] c O k (X8 D C) (X8 j C)/\L);let u:=decide (a=c);let J:=Zc (5:Nat) [] c R k h j;let I:=Z0 u (Zc (5:Nat) [] c O k D j/\L);let G:=Z0 u (J/\I);
 Y5 PP (122:Nat) q1 a h/\Z8 (Nat.blt F a) (Z5 (f=f) (d=d/\Y5 PP (122:Nat) a0 a D/\Z8 (Nat.blt C a) (Y/\Z8 W (t/\Z0 s (r/\Z0 q (Z0 p (Z0 z (P/\K))))) (t/\Z0 s (r/\Z0 q (Z0 p (Z0 u (J/\K)))))) (Y/\Z8 W (t/\Z0 s (r/\Z0 q (Z0 p (Z0 z (P/\I))))) (t/\Z0 s (r/\Z0 q (Z0 p G)))))) (Zd=V/\Z5 ((0:Int)=x.inID) (Zd=U/\Z5 ((0:Int)=x.outID) (Z5 ((5:Int)=e) G)))) (by kernel_rfl) ?_
 conv=>zeta
 try simp only [vcA]
 try simp only [vcB]
 try simp only [vcC]
 have hF:Zm (fun i=>Zx (.agg [.arr .u8 32 o,.int .i64 id]) (.agg [.arr .u8 32 (X.T.getD i Zq).out.v,.int .i64 (X.T.getD i Zq).outID])) X.T.length=J:=(Zfx X.T o id).trans hJ.symm
 have hKO:Y5 PP 122 (.agg [.arr .u8 32 o,.int .i64 id]) X.T.length (tkO X.T):=Zba X.T id ho
 obtain ⟨t1,t2,t3,t4⟩:=Z1a H X 5 []
 simp only [hF,hx.symm,hKO,true_and]
 have hcase:Nat.blt J X.T.length=decide (J<X.T.length):=by
  rw [JF,decide_eq_true_eq]
  exact ⟨Xm,Yt⟩
 have hE:T'=X.T.eraseIdx J:=by rw [hT,hJ];rfl
 clear hT
 rw [hcase]
 refine ⟨fun hj=> ?_,fun hj=> ?_⟩
 ·have hj:J<X.T.length:=by simpa using hj
  have hp:ZR o id x=true:=by
   rcases Yz (fun j=>ZR o id (X.T.getD j Zq)) X.T.length with h|h
   ·have:J=X.T.length:=hJ.trans h.1
    omega
   ·have:=h.2.1
    rw [show Zm (fun j=>ZR o id (X.T.getD j Zq)) X.T.length=J from hJ.symm,<-hx] at this
    exact this
  unfold ZR at hp
  rw [J1,beq_iff_eq,beq_iff_eq] at hp
  obtain ⟨rfl,rfl⟩:=hp
  have hKI:Y5 PP 122 (.agg [.arr .u8 32 x.inn.v,.int .i64 x.inID]) X.T.length (tkI X.T):=Zbb X.T x.inID x.inn.l
  have hI:Zm (fun i=>Zx (.agg [.arr .u8 32 x.inn.v,.int .i64 x.inID]) (.agg [.arr .u8 32 (X.T.getD i Zq).inn.v,.int .i64 (X.T.getD i Zq).inID])) X.T.length=J:=by
   have:=Zfu hL.ki hj
   rw [<-hx] at this
   refine Eq.trans ?_ this
   congr 1
   funext i
   exact QW ..
  have el:X.T.length-1=T'.length:=by rw [hE,K2 hj]
  have he:0=e:=by rw [he,if_pos hj]
  have hd:∀(f:List Zj->Nat->AV),(∀(T:List Zj) (i:Nat),f T i=f [T.getD i Zq] 0)->∀i,X8 (f X.T) J i=f T' i:=fun f hf i=>by
   unfold X8
   rw [hf T',hE,Z43]
   cases hb:Nat.blt i J with
   | true=>rw [if_pos (Xm hb)];exact hf X.T i
   | false=>rw [if_neg (fun h=>by rw [Yt h] at hb;cases hb)];exact hf X.T (i+1)
  simp only [hKI,hI,hKO,hF,hcase,decide_eq_true hj,reduceCtorEq,false_implies,true_implies,forall_const,and_true,true_and,t3,t4]
  exact ⟨he,el,Zn (Xp _) fun i _=>⟨hd tkO (fun _ _=>rfl) i,hd tiV (fun _ _=>rfl) i⟩,el,Zn (XW _) fun i _=>⟨hd tkI (fun _ _=>rfl) i,hd tiV (fun _ _=>rfl) i⟩⟩
 ·have hj:¬J<X.T.length:=by simpa using hj
  have ex:x=Zq:=by
   rw [hx,J5,Jo (by omega)]
   rfl
  have e2:T'=X.T:=by rw [hE,JL (by omega)]
  have he:5=e:=by rw [he,if_neg hj]
  rw [e2,ex]
  exact ⟨rfl,rfl,rfl,rfl,he,rfl,t1,rfl,t2,t3,t4⟩
theorem Zgi (H:LI->LI) (X:Ze) (o:LI) (id:Int) (J:Nat) (x:Zj) (b:Bool) (hL:X.Lim) (ho:o.length=32) (hJ:J=atO X.T o id) (hx:x=X.T.getD J Zq) (hb:b=Nat.blt J X.T.length):
  evF G0 40 31 [pt 0,.agg [.arr .u8 32 o],.int .i64 id] ⟨5,tbO H X⟩ (Ye 5 (.ret (.tuple [.agg x.c,.bool b])) 5 (tbO H X)):=by
 refine @Eq.mpr _ (let y:=AV.agg [AV.arr u8 (32:Nat) o,AV.int i64 id];let c:=X.T;let a:=c.length;let f:=tkO c;let p:=Zm (fun (i:Nat)=>Zx y (AV.agg [AV.arr u8 (32:Nat) (List.getD c i Zq).out.v,AV.int i64 (List.getD c i Zq).outID])) a;let d:=List.getD c p Zq;let n:=x.inn.v;let m:=x.out.v;let l:=decide (a=a);let e:=tiV c;let w:=tkI c;let k:=X.S;let j:=k.length;let u:=skV H k;let t:=seV k;let h:=X.Q;let g:=h.length;let s:=qkV h;let r:=quV h;let q:=Z0 l (Zc (5:Nat) [] a f e f e/\Z0 l (Zc (5:Nat) [] a w e w e/\Z5 (j=j) (Zc (5:Nat) [] j u t u t/\Z5 (g=g) (Zc (5:Nat) [] g s r s r/\True))));
 Y5 PP (122:Nat) y a f/\Z8 (Nat.blt p a) (d.inn.v=n/\Z5 (d.inID=x.inID) (d.out.v=m/\Z5 (d.outID=x.outID) (Z5 (true=b) q))) (Zd=n/\Z5 ((0:Int)=x.inID) (Zd=m/\Z5 ((0:Int)=x.outID) (Z5 (false=b) q)))) (by kernel_rfl) ?_
 conv=>zeta
 try simp only [vcA]
 try simp only [vcB]
 try simp only [vcC]
 have hF:Zm (fun i=>Zx (.agg [.arr .u8 32 o,.int .i64 id]) (.agg [.arr .u8 32 (X.T.getD i Zq).out.v,.int .i64 (X.T.getD i Zq).outID])) X.T.length=J:=(Zfx X.T o id).trans hJ.symm
 have hKO:Y5 PP 122 (.agg [.arr .u8 32 o,.int .i64 id]) X.T.length (tkO X.T):=Zba X.T id ho
 obtain ⟨t1,t2,t3,t4⟩:=Z1a H X 5 []
 simp only [hF,hx.symm,hKO,true_and]
 have hcase:Nat.blt J X.T.length=decide (J<X.T.length):=by
  rw [JF,decide_eq_true_eq]
  exact ⟨Xm,Yt⟩
 refine ⟨fun hj=> ?_,fun hj=> ?_⟩
 ·rw [hb,hj]
  simp only [t1,t2,t3,t4,and_self]
 ·have ex:x=Zq:=by
   rw [hx,J5,Jo (by rw [hcase] at hj;simp at hj;omega)]
   rfl
  rw [ex,hb,hj]
  exact ⟨rfl,rfl,rfl,rfl,rfl,t1,t2,t3,t4⟩
theorem ZfA (H:LI->LI) (X:Ze) (o:LI) (id:Int) (J:Nat) (x:Zj) (b:Bool) (hL:X.Lim) (ho:o.length=32) (hJ:J=Zm (fun i=>V0 o id (X.T.getD i Zq)) X.T.length) (hx:x=X.T.getD J Zq) (hb:b=Nat.blt J X.T.length):
  evF G0 40 33 [pt 0,.agg [.arr .u8 32 o],.int .i64 id] ⟨5,tbO H X⟩ (Ye 5 (.ret (.tuple [.agg x.c,.bool b])) 5 (tbO H X)):=by
 refine @Eq.mpr _ (let y:=AV.agg [AV.arr u8 (32:Nat) o,AV.int i64 id];let c:=X.T;let a:=c.length;let f:=tkI c;let p:=Zm (fun (i:Nat)=>Zx y (AV.agg [AV.arr u8 (32:Nat) (List.getD c i Zq).inn.v,AV.int i64 (List.getD c i Zq).inID])) a;let d:=List.getD c p Zq;let n:=x.inn.v;let m:=x.out.v;let l:=decide (a=a);let w:=tkO c;let e:=tiV c;let k:=X.S;let j:=k.length;let u:=skV H k;let t:=seV k;let h:=X.Q;let g:=h.length;let s:=qkV h;let r:=quV h;let q:=Z0 l (Zc (5:Nat) [] a w e w e/\Z0 l (Zc (5:Nat) [] a f e f e/\Z5 (j=j) (Zc (5:Nat) [] j u t u t/\Z5 (g=g) (Zc (5:Nat) [] g s r s r/\True))));
 Y5 PP (122:Nat) y a f/\Z8 (Nat.blt p a) (d.inn.v=n/\Z5 (d.inID=x.inID) (d.out.v=m/\Z5 (d.outID=x.outID) (Z5 (true=b) q))) (Zd=n/\Z5 ((0:Int)=x.inID) (Zd=m/\Z5 ((0:Int)=x.outID) (Z5 (false=b) q)))) (by kernel_rfl) ?_
 conv=>zeta
 try simp only [vcA]
 try simp only [vcB]
 try simp only [vcC]
 have hF:Zm (fun i=>Zx (.agg [.arr .u8 32 o,.int .i64 id]) (.agg [.arr .u8 32 (X.T.getD i Zq).inn.v,.int .i64 (X.T.getD i Zq).inID])) X.T.length=J:=by
  rw [hJ]
  congr 1
  funext i
  exact QW ..
 have hKI:Y5 PP 122 (.agg [.arr .u8 32 o,.int .i64 id]) X.T.length (tkI X.T):=Zbb X.T id ho
 obtain ⟨t1,t2,t3,t4⟩:=Z1a H X 5 []
 simp only [hF,hx.symm,hKI,true_and]
 have hcase:Nat.blt J X.T.length=decide (J<X.T.length):=by
  rw [JF,decide_eq_true_eq]
  exact ⟨Xm,Yt⟩
 refine ⟨fun hj=> ?_,fun hj=> ?_⟩
 ·rw [hb,hj]
  simp only [t1,t2,t3,t4,and_self]
 ·have ex:x=Zq:=by
   rw [hx,J5,Jo (by rw [hcase] at hj;simp at hj;omega)]
   rfl
  rw [ex,hb,hj]
  exact ⟨rfl,rfl,rfl,rfl,rfl,t1,t2,t3,t4⟩
def Zew (H:LI->LI):Y2:=fun args h K=>Z1b H h args fun X t o i s a az=>match az with
 | [.ptr (some ⟨0,0,0,0,0⟩),.agg [.arr .u8 32 k],.int .i64 id]=>k.length=32/\K (.ret (.tuple [.agg (X.T.getD (atO X.T k id) Zq).c,.int .i64 (if atO X.T k id<X.T.length then 0 else 5)])) ⟨h.next,Uf H ⟨unP X.T k id,X.S,X.Q⟩ h t o i s a⟩
 | _=>False
theorem Z8p (H:LI->LI) (args:List AV) (h:Z7) (K:KO) (hl:Zew H args h K):Zi PP 18 args h K:=by
 refine Xq hl fun X t o i s a az hL ha=> ?_
 split at ha
 ·exact ⟨_,_,fun _=>rfl,.evM ZD (Zgh H X _ _ _ _ _ _ hL ha.1 rfl rfl rfl rfl),ha.2⟩
 ·exact ha.elim
def Z0R (H:LI->LI):Y2:=fun args h K=>Z1b H h args fun X t o i s a az=>match az with
 | [.ptr (some ⟨0,0,0,0,0⟩),.agg [.arr .u8 32 k],.int .i64 id]=>k.length=32/\∀x b,K (.ret (.tuple [.agg (Zj.c x),.bool b])) ⟨h.next,Uf H X h t o i s a⟩
 | _=>False
theorem Z2Q (H:LI->LI) (args:List AV) (h:Z7) (K:KO) (hl:Z0R H args h K):Zi PP 31 args h K:=by
 refine Xq hl fun X t o i s a az hL ha=> ?_
 split at ha
 ·exact ⟨_,_,fun _=>rfl,.evM ZD (Zgi H X _ _ _ _ _ hL ha.1 rfl rfl rfl),ha.2 _ _⟩
 ·exact ha.elim
theorem Z4V (H:LI->LI) (args:List AV) (h:Z7) (K:KO) (hl:Z0R H args h K):Zi PP 33 args h K:=by
 refine Xq hl fun X t o i s a az hL ha=> ?_
 split at ha
 ·exact ⟨_,_,fun _=>rfl,.evM ZD (ZfA H X _ _ _ _ _ hL ha.1 rfl rfl rfl),ha.2 _ _⟩
 ·exact ha.elim
noncomputable def Zex (H:LI->LI) (H2:LI->LI->LI) (B:Nat):Zh:=G0.withP 75 (Zfc H H2 B)
theorem Z8q:(Zex ZB Z7c 100).Ok:=Zh.withP_ok ZD (Zch 100 (by decide))
theorem ZfB (a b:LI) (ha:a.length=32) (hb:b.length=32):
  Z7K PP 31 (.agg [.arr .u8 32 a]) (.agg [.arr .u8 32 b]):=by
 refine @Eq.mpr _ (Z5 (a.length=32/\b.length=32) ((a==b)=Zx (AV.agg [AV.arr u8 32 a]) (AV.agg [AV.arr u8 32 b]))) (by kernel_rfl) ?_
 try simp only [vcA]
 try simp only [vcB]
 try simp only [vcC]
 exact ⟨⟨ha,hb⟩,rfl⟩
theorem Zbd (H:LI->LI) (hH:∀x,(H x).length=32) (S:List H32) {o:LI} (ho:o.length=32):Y5 PP 31 (.agg [.arr .u8 32 o]) S.length (skV H S):=⟨fun j _=>ZfB _ _ ho (hH _)⟩
theorem Z8r (Q:List ZH) {o:LI} (ho:o.length=32):Y5 PP 31 (.agg [.arr .u8 32 o]) Q.length (qkV Q):=⟨fun j _=>ZfB _ _ ho (Q.getD j ZK).hash.l⟩
theorem Zey (H:LI->LI) (S:List H32) (o:LI):Zm (fun i=>Zx (.agg [.arr .u8 32 o]) (.agg [.arr .u8 32 (H (S.getD i h0).v)])) S.length=Xt H S o:=by
 unfold Xt
 congr 1
theorem ZcN (Q:List ZH) (o:LI):Zm (fun i=>Zx (.agg [.arr .u8 32 o]) (.agg [.arr .u8 32 (Q.getD i ZK).hash.v])) Q.length=atQ Q o:=by
 unfold atQ
 congr 1
theorem YZ (a b:Nat):Nat.blt a b=decide (a<b):=by
 rw [JF,decide_eq_true_eq]
 exact ⟨Xm,Yt⟩
theorem QX (d:α) (f:List α->Nat->AV) (hf:∀(T:List α) (i:Nat),f T i=f [T.getD i d] 0) (T:List α) (J i:Nat):X8 (f T) J i=f (T.eraseIdx J) i:=by
 unfold X8
 rw [hf (T.eraseIdx J),Z43]
 cases hb:Nat.blt i J with
 | true=>rw [if_pos (Xm hb)];exact hf T i
 | false=>rw [if_neg (fun h=>by rw [Yt h] at hb;cases hb)];exact hf T (i+1)
theorem Z1s (d:α) (f:List α->Nat->AV) (hf:∀(T:List α) (i:Nat),f T i=f [T.getD i d] 0) (T:List α) (x:α) (hj:j<T.length+1):W2 (f T) T.length (f [x] 0) j=f (T++[x]) j:=by
 unfold W2
 rcases Jh j T.length with h|h
 ·rw [Zs (by omega),hf (T++[x]),getD_lt _ _ h]
  exact hf T j
 ·obtain rfl:j=T.length:=by omega
  rw [Jg,hf (T++[x]),QT]
theorem ZcO (d:α) {T:List α} {x:α} {J:Nat} (hJ:J<T.length):(T.set J x).getD j d=if j=J then x else T.getD j d:=by
 rw [J5,Kf]
 by_cases h:J=j
 ·rw [if_pos h,if_pos hJ,if_pos h.symm];rfl
 ·rw [if_neg h,if_neg (fun e=>h e.symm),J5]
theorem Zez {S:List H32} {o:LI} (h:Xt H S o<S.length):o=H (S.getD (Xt H S o) h0).v:=by
 rcases Yz (fun j=>o==H (S.getD j h0).v) S.length with h1|h1
 ·have:Xt H S o=S.length:=h1.1
  omega
 ·exact beq_iff_eq.1 h1.2.1
theorem Zgj (H:LI->LI) (X:Ze) (o:LI) (J:Nat) (x:H32) (b:Bool) (hH:∀x,(H x).length=32) (ho:o.length=32) (hJ:J=Xt H X.S o) (hx:x=X.S.getD J h0) (hb:b=Nat.blt J X.S.length):
  evF G0 40 35 [pt 0,.agg [.arr .u8 32 o]] ⟨5,tbO H X⟩ (Ye 5 (.ret (.tuple [.agg [.arr .u8 32 x.v],.bool b])) 5 (tbO H X)):=by
 refine @Eq.mpr _ (let t:=AV.agg [AV.arr u8 (32:Nat) o];let c:=X.S;let a:=c.length;let g:=skV H c;let m:=Zm (fun (i:Nat)=>Zx t (AV.agg [AV.arr u8 (32:Nat) (H (List.getD c i h0).v)])) a;let e:=X.T;let d:=e.length;let l:=decide (d=d);let k:=tkO e;let f:=tiV e;let s:=tkI e;let r:=seV c;let j:=X.Q;let h:=j.length;let q:=qkV j;let p:=quV j;let n:=Z0 l (Zc (5:Nat) [] d k f k f/\Z0 l (Zc (5:Nat) [] d s f s f/\Z5 (a=a) (Zc (5:Nat) [] a g r g r/\Z5 (h=h) (Zc (5:Nat) [] h q p q p/\True))));
 Y5 PP (31:Nat) t a g/\Z8 (Nat.blt m a) ((List.getD c m h0).v=x.v/\Z5 (true=b) n) (Zd=x.v/\Z5 (false=b) n)) (by kernel_rfl) ?_
 conv=>zeta
 try simp only [vcA]
 try simp only [vcB]
 try simp only [vcC]
 have hF:=(Zey H X.S o).trans hJ.symm
 have hK:=Zbd H hH X.S ho
 obtain ⟨t1,t2,t3,t4⟩:=Z1a H X 5 []
 simp only [hF,hx.symm,hK,true_and]
 cases hc:Nat.blt J X.S.length with
 | true=>
  rw [hb,hc]
  simp only [t1,t2,t3,t4,and_self,reduceCtorEq,false_implies,forall_const]
 | false=>
  have ex:x=h0:=by
   rw [hx,J5,Jo (by rw [YZ] at hc;simp at hc;omega)]
   rfl
  rw [hb,hc,ex]
  exact ⟨nofun,fun _=>⟨rfl,rfl,t1,t2,t3,t4⟩⟩
theorem Zgk (H:LI->LI) (H2:LI->LI->LI) (B:Nat) (X:Ze) (s:H32) (J:Nat) (S':List H32) (e:Int) (hB:B=100) (hL:X.Lim) (hH:∀x,(H x).length=32) (hJ:J=Xt H X.S (H s.v)) (he:e=ZaY H X.S s) (hS:S'=QV H X.S s):
  evF (Zex H H2 B) 40 23 [pt 0,.agg [.arr .u8 32 s.v]] ⟨5,tbO H X⟩ (Ye 5 (.ret (.int .i64 e)) 5 (tbO H ⟨X.T,S',X.Q⟩)):=by
 refine @Eq.mpr _ (let y:=s.v;let t:=y.length;let l:=AV.agg [AV.arr u8 (32:Nat) (H y)];let g:=X.S;let a:=g.length;let f:=skV H g;let C:=Y5 PP (31:Nat) l a f;let A:=Zm (fun (i:Nat)=>Zx l (AV.agg [AV.arr u8 (32:Nat) (H (List.getD g i h0).v)])) a;let z:=Nat.blt A a;let K:=decide ((0:Int)=e);let d:=X.T;let j:=X.Q;let x:=Ze.mk d S' j;let h:=x.T;let w:=h.length;let b:=decide (d.length=w);let J:=tiV h;let I:=tiV d;let u:=Zc (5:Nat) [] w (tkO h) J (tkO d) I;let r:=Zc (5:Nat) [] w (tkI h) J (tkI d) I;let q:=x.S;let c:=q.length;let G:=decide (a=c);let p:=skV H q;let o:=seV q;let n:=seV g;let F:=AV.agg [AV.arr u8 (32:Nat) y];let m:=x.Q;let E:=m.length;let k:=Z5 (j.length=E) (Zc (5:Nat) [] E (qkV m) (quV m) (qkV j) (quV j)/\True);let D:=C/\Z8 z (Z0 K (Z0 b (u/\Z0 b (r/\Z0 G (Zc (5:Nat) [] c p o f (W2 n A F)/\k))))) (Z0 K (Z0 b (u/\Z0 b (r/\Z5 (a+(1:Nat)=c) (Zc (5:Nat) [] c p o (W2 f a l) (W2 n a F)/\k)))));
 Z5 (t=(32:Nat)) (Z5 ((32:Nat)=t) (Z5 (t<=B) (C/\Z8 z D (Z8 (decide ((↑a:Int)>=(64:Int))) (Z5 ((3:Int)=e) (Z0 b (u/\Z0 b (r/\Z0 G (Zc (5:Nat) [] c p o f n/\k))))) D))))) (by kernel_rfl) ?_
 conv=>zeta
 try simp only [vcA]
 try simp only [vcB]
 try simp only [vcC]
 have hF:=(Zey H X.S (H s.v)).trans hJ.symm
 have hK:=Zbd H hH X.S (hH s.v)
 obtain ⟨t1,t2,t3,t4⟩:=Z1a H X 5 []
 simp only [hF,hK,true_and]
 subst hB
 have hl:=s.l
 cases hc:Nat.blt J X.S.length with
 | true=>
  have hj:J<X.S.length:=Xm hc
  have hk:H s.v=H (X.S.getD J h0).v:=by rw [hJ] at hj⊢;exact Zez hj
  have hS:S'=X.S.set J s:=by rw [hS,QV,<-hJ,if_pos hj]
  have he:0=e:=by rw [he,ZaY,<-hJ,if_pos hj]
  have el:X.S.length=S'.length:=by rw [hS,List.length_set]
  have hm:Zc 5 [] S'.length (skV H S') (seV S') (skV H X.S) (W2 (seV X.S) J (AV.agg [AV.arr u8 32 s.v])):=Zn (Xw H _) fun j hj'=>by
   rw [hS]
   unfold W2 skV seV
   rw [ZcO h0 hj]
   by_cases h:j=J
   ·subst h
    rw [if_pos rfl,Jg,hk]
    exact ⟨rfl,rfl⟩
   ·rw [if_neg h,Zs h]
    exact ⟨rfl,rfl⟩
  simp only [t1,t2,t4,hl,he.symm,el,hm,and_self,reduceCtorEq,false_implies,forall_const,Nat.reduceLeDiff]
 | false=>
  have hj:¬J<X.S.length:=fun h=>by rw [Yt h] at hc;cases hc
  refine ⟨hl,hl.symm,by omega,nofun,fun _=>⟨fun g=> ?_,fun g=>⟨nofun,fun _=> ?_⟩⟩⟩
  ·have hS:S'=X.S:=by rw [hS,QV,<-hJ,if_neg hj,if_pos (by omega)]
   have he:3=e:=by rw [he,ZaY,<-hJ,if_neg hj,if_pos (by omega)]
   rw [hS]
   exact ⟨he,t1,t2,rfl,t3,t4⟩
  ·have hS:S'=X.S++[s]:=by rw [hS,QV,<-hJ,if_neg hj,if_neg (by omega)]
   have he:0=e:=by rw [he,ZaY,<-hJ,if_neg hj,if_neg (by omega)]
   have el:X.S.length+1=S'.length:=by rw [hS,J7];rfl
   refine ⟨he,t1,t2,el,Zn (Xw H _) fun j hj'=> ?_,t4⟩
   rw [hS]
   exact ⟨Z1s h0 (skV H) (fun _ _=>rfl) X.S s (by omega),Z1s h0 seV (fun _ _=>rfl) X.S s (by omega)⟩
theorem Zgl (H:LI->LI) (X:Ze) (o:LI) (J:Nat) (S':List H32) (e:Int) (hL:X.Lim) (hH:∀x,(H x).length=32) (ho:o.length=32) (hJ:J=Xt H X.S o) (he:e=Z13 H X.S o) (hS:S'=Z14 H X.S o):
  evF G0 40 30 [pt 0,.agg [.arr .u8 32 o]] ⟨5,tbO H X⟩ (Ye 5 (.ret (.int .i64 e)) 5 (tbO H ⟨X.T,S',X.Q⟩)):=by
 refine @Eq.mpr _ (let E:=AV.agg [AV.arr u8 (32:Nat) o];let d:=X.S;let b:=d.length;let k:=skV H d;let s:=Y5 PP (31:Nat) E b k;let j:=Zm (fun (i:Nat)=>Zx E (AV.agg [AV.arr u8 (32:Nat) (H (List.getD d i h0).v)])) b;let r:=Nat.blt j b;let q:=decide ((0:Int)=e);let a:=X.T;let h:=X.Q;let p:=Ze.mk a S' h;let g:=p.T;let n:=g.length;let f:=decide (a.length=n);let D:=tiV g;let C:=tiV a;let B:=Zc (5:Nat) [] n (tkO g) D (tkO a) C;let A:=Zc (5:Nat) [] n (tkI g) D (tkI a) C;let m:=p.S;let c:=m.length;let z:=skV H m;let y:=seV m;let x:=seV d;let l:=p.Q;let w:=l.length;let u:=Z5 (h.length=w) (Zc (5:Nat) [] w (qkV l) (quV l) (qkV h) (quV h)/\True);let t:=Z0 f (B/\Z0 f (A/\Z5 (b=c) (Zc (5:Nat) [] c z y k x/\u)));
 s/\Z8 r (s/\Z8 r (Z0 q (Z0 f (B/\Z0 f (A/\Z5 (b-(1:Nat)=c) (Zc (5:Nat) [] c z y (X8 k j) (X8 x j)/\u))))) (Z0 q t)) (Z5 ((5:Int)=e) t)) (by kernel_rfl) ?_
 conv=>zeta
 try simp only [vcA]
 try simp only [vcB]
 try simp only [vcC]
 have hF:=(Zey H X.S o).trans hJ.symm
 have hK:=Zbd H hH X.S ho
 obtain ⟨t1,t2,t3,t4⟩:=Z1a H X 5 []
 simp only [hF,hK,true_and]
 cases hc:Nat.blt J X.S.length with
 | true=>
  have hj:J<X.S.length:=Xm hc
  have hS:S'=X.S.eraseIdx J:=by rw [hS,Z14,<-hJ]
  have he:0=e:=by rw [he,Z13,<-hJ,if_pos hj]
  have el:X.S.length-1=S'.length:=by rw [hS,K2 hj]
  refine ⟨fun _=>⟨fun _=>⟨he,t1,t2,el,Zn (Xw H _) fun j hj'=> ?_,t4⟩,nofun⟩,nofun⟩
  rw [hS]
  exact ⟨QX h0 (skV H) (fun _ _=>rfl) X.S J j,QX h0 seV (fun _ _=>rfl) X.S J j⟩
 | false=>
  have hj:¬J<X.S.length:=fun h=>by rw [Yt h] at hc;cases hc
  have hS:S'=X.S:=by rw [hS,Z14,<-hJ,JL (by omega)]
  have he:5=e:=by rw [he,Z13,<-hJ,if_neg hj]
  rw [hS]
  exact ⟨nofun,fun _=>⟨he,t1,t2,rfl,t3,t4⟩⟩
def ZeA (H:LI->LI):Y2:=fun args h K=>Z1b H h args fun X t o i s a az=>match az with
 | [.ptr (some ⟨0,0,0,0,0⟩),.agg [.arr .u8 32 k]]=>∃x:H32,k=x.v/\K (.ret (.int .i64 (ZaY H X.S x))) ⟨h.next,Uf H ⟨X.T,QV H X.S x,X.Q⟩ h t o i s a⟩
 | _=>False
theorem Z8s (args:List AV) (h:Z7) (K:KO) (hl:ZeA ZB args h K):Zi PP 23 args h K:=by
 refine Xq hl fun X t o i s a az hL ha=> ?_
 split at ha
 ·obtain ⟨x,rfl,hK⟩:=ha
  exact ⟨_,_,fun _=>rfl,.evM Z8q (Zgk ZB Z7c 100 X x _ _ _ rfl hL QO rfl rfl rfl),hK⟩
 ·exact ha.elim
def ZeB (H:LI->LI):Y2:=fun args h K=>Z1b H h args fun X t o i s a az=>match az with
 | [.ptr (some ⟨0,0,0,0,0⟩),.agg [.arr .u8 32 k]]=>k.length=32/\K (.ret (.int .i64 (Z13 H X.S k))) ⟨h.next,Uf H ⟨X.T,Z14 H X.S k,X.Q⟩ h t o i s a⟩
 | _=>False
theorem Z8t (args:List AV) (h:Z7) (K:KO) (hl:ZeB ZB args h K):Zi PP 30 args h K:=by
 refine Xq hl fun X t o i s a az hL ha=> ?_
 split at ha
 ·exact ⟨_,_,fun _=>rfl,.evM ZD (Zgl ZB X _ _ _ _ hL QO ha.1 rfl rfl rfl),ha.2⟩
 ·exact ha.elim
def ZcP (H:LI->LI):Y2:=fun args h K=>Z1b H h args fun X t o i s a az=>match az with
 | [.ptr (some ⟨0,0,0,0,0⟩),.agg [.arr .u8 32 k]]=>k.length=32/\∀(x:H32) b,K (.ret (.tuple [.agg [.arr .u8 32 x.v],.bool b])) ⟨h.next,Uf H X h t o i s a⟩
 | _=>False
theorem Z4W (args:List AV) (h:Z7) (K:KO) (hl:ZcP ZB args h K):Zi PP 35 args h K:=by
 refine Xq hl fun X t o i s a az hL ha=> ?_
 split at ha
 ·exact ⟨_,_,fun _=>rfl,.evM ZD (Zgj ZB X _ _ _ _ QO ha.1 rfl rfl rfl),ha.2 _ _⟩
 ·exact ha.elim
end Go.Tk
end
