/- F: part 4 of an engine (a symbolic evaluator, proved against the model) and of the walk by it. -/
import Derived.Test.YthnfcmaoiebelaaGreatF3
import Derived.OpenShut
import Derived.WideShapes
import Derived.ChangeSlices
import Derived.WalkKit
import Derived.ProofKit
import Derived.Below
import Derived.Handed
import Derived.Carry
set_option linter.unusedVariables false
set_option linter.unusedSimpArgs false
set_option maxRecDepth 100000
set_option maxHeartbeats 0
section
namespace Go.Tk
open IntKind (i64 u8 u32 u64 wrap)
variable {E E':Env} {σ:List Nat} {B:Blk} {r:Value} {args:List AV} {K0:List Blk->List AV->Prop} {nx:Nat} {K:KO}
def Xf:List Nat->Nat->Option Nat
 | [],_=>none
 | x::_,0=>some x
 | _::r,n+1=>Xf r n
def Xx:List Nat->Nat->Option Nat
 | [],_=>none
 | y::r,x=>match Nat.beq y x with
  | true=>some 0
  | false=>match Xx r x with|some i=>some (i+1)|none=>none
theorem Vx:∀{σ:List Nat} {x i:Nat},Xx σ x=some i->Xf σ i=some x
 | [],_,_,h=>by simp [Xx] at h
 | y::r,x,i,h=>by
  unfold Xx at h
  split at h
  ·grind [J0,Xf]
  ·split at h
   ·rename_i j hj
    cases h
    exact (Vx (σ:=r) hj:Xf r _=some x)
   ·cases h
theorem Z18:∀{σ:List Nat} {x:Nat},Xx σ x=none->x∉σ
 | [],_,_=>by simp
 | y::r,x,h=>by
  unfold Xx at h
  split at h
  ·cases h
  ·rename_i hb
   split at h
   ·cases h
   ·rename_i hj
    intro hm
    rcases J7.1 hm with rfl|hm
    ·simp [Jj] at hb
    ·exact Z18 hj hm
theorem Xs:∀{σ:List Nat} {i x:Nat},Xf σ i=some x->x∈σ
 | [],_,_,h=>by simp [Xf] at h
 | y::r,0,x,h=>by simp [Xf] at h;simp [h]
 | y::r,i+1,x,h=>Jh _ (Xs (σ:=r) h)
theorem Z9a:∀{σ:List Nat} {i:Nat},σ.length<=i->Xf σ i=none
 | [],_,_=>by simp [Xf]
 | y::r,0,h=>by simp at h
 | y::r,i+1,h=>by simp at h;exact Z9a (σ:=r) h
def Env.borL (E:Env) (σ:List Nat) (w:World) (t:Bool):Env:=
 ⟨fun y=>match t with|true=>(match Xf σ y with|some x=>E.blk x|none=>none)|false=>none,fun a c=>w.cell? a=some c/\∀x,x∈σ->∀N,E.blk x=some (a.block,N)->False⟩
mutual
def vwV (σ:List Nat) (h:Z6) (t:Bool):Nat->AV->(AV->Prop)->Prop
 | 0,_,_=>False
 | d+1,v,K=>match v with
  | .top=>K .top
  | .bool b=>K (.bool b)
  | .int k n=>K (.int k n)
  | .str s=>K (.str s)
  | .ptr none=>K (.ptr none)
  | .eslice=>K .eslice
  | .fslice=>K .fslice
  | .nilslice=>K .nilslice
  | .map none=>K (.map none)
  | .nilFunc=>K .nilFunc
  | .nilIface=>K .nilIface
  | .pview cs inn=>K (.pview cs inn)
  | .vints k xs len=>K (.vints k xs len)
  | .vrows esz n f len=>K (.vrows esz n f len)
  | .ptr (some p)=>match Xx σ p.blk with
   | some i=>match t with|false=>False|true=>K (.ptr (some ⟨i,p.row,p.sz,p.off,p.inn⟩))
   | none=>match h.get p.blk with
    | some (.flat cs)=>match p.row,Ym p.off cs with
     | 0,some rest=>vwC σ h false d rest fun rest'=>K (.pview rest' p.inn)
     | _,_=>False
    | some (.rows sz n f)=>match Nat.beq sz p.sz with
     | true=>Z4 (p.row<n) (match Ym p.off (f p.row) with
      | some rest=>vwC σ h false d rest fun rest'=>K (.pview rest' p.inn)
      | none=>False)
     | false=>False
    | _=>False
  | .map (some x)=>match Xx σ x,t with
   | some i,true=>K (.map (some i))
   | _,_=>False
  | .nslice p esz len lo=>match Xx σ p.blk with
   | some i=>match t with|false=>False|true=>K (.nslice ⟨i,p.row,p.sz,p.off,p.inn⟩ esz len lo)
   | none=>match h.get p.blk with
    | some (.ints k xs)=>match Nat.beq esz 1 with
     | true=>Z4 (p.tot+len<=xs.length) (K (.vints k ((Y2 p.tot xs).take len) len))
     | false=>False
    | some (.rows sz n f)=>match Nat.beq sz esz&&Nat.beq p.off 0&&Nat.beq p.inn 0&&(Nat.beq p.sz esz||Nat.beq p.row 0) with
     | true=>Z4 (p.row+len<=n) ((∀i,i<len->YA (Yk p.row f i)=true)/\K (.vrows esz len (Yk p.row f) len))
     | false=>False
    | some (.flat cs)=>match p.row,Ym p.off cs with
     | 0,some rest=>match Z97 rest&&Nat.beq esz 1 with
      | true=>match rest with
       | .arr k n xs::_=>match Nat.beq esz 1,Nat.beq p.inn 0&&Nat.beq len n with
        | true,true=>Z4 (xs.length=n) (K (.vints k xs len))
        | true,false=>Z4 (xs.length=n/\p.inn+len<=n) (K (.vints k ((Y2 p.inn xs).take len) len))
        | false,_=>False
       | _=>False
      | false=>match Nat.beq p.inn 0,takeC (len*esz) rest with
       | true,some part=>vwC σ h false d part fun part'=>match QC part' 0 esz len with
        | true=>K (.vrows esz len (XD part' 0 esz) len)
        | false=>False
       | _,_=>False
     | _,_=>False
    | _=>False
  | .func (.func g) fs cs=>vwL σ h t d fs fun fs'=>vwL σ h t d cs fun cs'=>K (.func (.func g) fs' cs')
  | .iface T u=>vwV σ h t d u fun u'=>K (.iface T u')
  | .agg cs=>vwC σ h t d cs fun cs'=>K (.agg cs')
  | .tuple vs=>vwL σ h t d vs fun vs'=>K (.tuple vs')
  | _=>False
def vwC (σ:List Nat) (h:Z6) (t:Bool):Nat->List AV->(List AV->Prop)->Prop
 | 0,_,_=>False
 | d+1,l,K=>match l with
  | []=>K []
  | .arr k n xs::r=>vwC σ h t d r fun r'=>K (.arr k n xs::r')
  | v::r=>vwV σ h t d v fun v'=>match v'.isCell with
   | true=>vwC σ h t d r fun r'=>K (v'::r')
   | false=>False
def vwL (σ:List Nat) (h:Z6) (t:Bool):Nat->List AV->(List AV->Prop)->Prop
 | 0,_,_=>False
 | d+1,l,K=>match l with
  | []=>K []
  | v::r=>vwV σ h t d v fun v'=>vwL σ h t d r fun r'=>K (v'::r')
end
theorem Z3h {w:World} {t:Bool} {h:Z6} (he:Emb E h w) (hm:∀x,x∈σ->∃B,h.get x=some B):E.views.le (E.borL σ w t).views:=
 ⟨fun _ _ hq=>by simp [Env.views] at hq,fun a c hi=>⟨he.imm a c hi,fun x hx N hb=>let ⟨B,hB⟩:=hm x hx;he.sep a c x B N hi hB hb⟩⟩
theorem Z3i {w:World} {t:Bool} {h:Z6} (he:Emb E h w) (hm:∀x,x∈σ->∃B,h.get x=some B) {a:Addr} {c:Value} (hi:E.imm a c):(E.borL σ w t).imm a c:=
 ⟨he.imm a c hi,fun x hx N hb=>let ⟨B,hB⟩:=hm x hx;he.sep a c x B N hi hB hb⟩
theorem XK {w:World} {t:Bool} {h:Z6} (he:Emb E h w) (hm:∀x,x∈σ->∃B,h.get x=some B) {y b N o:Nat} (hy:h.get y=some B) (hb:E.blk y=some (b,N)) (hn:Xx σ y=none) {c:Value}
  (hc:w.cell? ⟨b,o,none⟩=some c):(E.borL σ w t).imm ⟨b,o,none⟩ c:=
 ⟨hc,fun x hx N' hbx=>by
  obtain ⟨C,hC⟩:=hm x hx
  have:=he.disj x y C B b N' N hC hy hbx hb
  subst this
  exact Z18 hn hx⟩
theorem Xg {w:World} {x i:Nat} (h:Xx σ x=some i):(E.borL σ w true).blk i=E.blk x:=by
 show (match Xf σ i with|some x=>E.blk x|none=>none)=_
 rw [Vx h]
set_option maxHeartbeats 2000000 in
mutual
theorem Z8d {σ:List Nat} {h:Z6} (hm:∀x,x∈σ->∃B,h.get x=some B):∀(d:Nat) (t:Bool) (v:AV) (K:AV->Prop),vwV σ h t d v K->∃v₀,K v₀/\∀(E:Env) (w:World) (r:Value),Emb E h w->Zc E v r->Zc (E.borL σ w t) v₀ r
 | 0,t,v,K,hl=>by unfold vwV at hl;simp_all
 | d+1,t,v,K,hl=>by
  unfold vwV at hl
  split at hl
  ·exact ⟨_,hl,fun E w r he hv=>.top r⟩
  ·exact ⟨_,hl,fun E w r he hv=>hv.plain rfl⟩
  ·exact ⟨_,hl,fun E w r he hv=>hv.plain rfl⟩
  ·exact ⟨_,hl,fun E w r he hv=>hv.plain rfl⟩
  ·exact ⟨_,hl,fun E w r he hv=>hv.plain rfl⟩
  ·exact ⟨_,hl,fun E w r he hv=>hv.plain rfl⟩
  ·exact ⟨_,hl,fun E w r he hv=>hv.plain rfl⟩
  ·exact ⟨_,hl,fun E w r he hv=>hv.plain rfl⟩
  ·exact ⟨_,hl,fun E w r he hv=>hv.plain rfl⟩
  ·exact ⟨_,hl,fun E w r he hv=>hv.plain rfl⟩
  ·exact ⟨_,hl,fun E w r he hv=>hv.plain rfl⟩
  ·refine ⟨_,hl,fun E w r he hv=> ?_⟩
   cases hv with
   | pview cs inn a vs hc hi=>exact .pview _ _ a vs (hc.mono (Z3h he hm)) (fun j c hj=>Z3i he hm (hi j c hj))
  ·refine ⟨_,hl,fun E w r he hv=> ?_⟩
   cases hv with
   | vintsNil k xs len h1 h2=>exact .vintsNil _ _ _ h1 h2
   | vints k xs len a cap h1 h2 hi=>exact .vints _ _ _ a cap h1 h2 (fun i hi'=>Z3i he hm (hi i hi'))
  ·refine ⟨_,hl,fun E w r he hv=> ?_⟩
   cases hv with
   | vrowsNil esz n f len h1 h2=>exact .vrowsNil _ _ _ _ h1 h2
   | vrows esz n f len a cap g h1 h2 hc hl' hi=>exact .vrows _ _ _ _ a cap g h1 h2 (fun i hi'=>(hc i hi').mono (Z3h he hm)) hl' (fun i j c hi' hj=>Z3i he hm (hi i j c hi' hj))
  ·rename_i p
   split at hl
   ·rename_i ix hmv
    split at hl
    ·simp_all
    ·refine ⟨_,hl,fun E w r he hv=> ?_⟩
     cases hv with
     | ptr p b N hb=>exact .ptr ⟨ix,p.row,p.sz,p.off,p.inn⟩ b N (by rw [Xg hmv];exact hb)
   ·rename_i hmv
    split at hl
    ·rename_i cs hg
     split at hl
     ·rename_i rest hrow hrest
      obtain ⟨rest',hK,hr⟩:=QS hm d false rest _ hl
      refine ⟨_,hK,fun E w r he hv=> ?_⟩
      cases hv with
      | ptr p b N hb=>
       cases he.own _ _ hg with
       | flat0 cs h0 hn=>rw [hn] at hb;cases hb
       | flat cs b' cells elem fr vs hb' hw hf hc hvs=>
        rw [hb] at hb'
        cases hb'
        have hd:=(ZN _ _ _ _ hrest hc).1
        have e:(⟨b,p.tot,none⟩:Addr)=(⟨b,p.off,none⟩:Addr).add p.inn:=by rw [addr_add];simp [ZI.tot,hrow]
        rw [e]
        refine .pview _ _ ⟨b,p.off,none⟩ _ (hr E w _ he hd) (fun j c hj=> ?_)
        rw [addr_add]
        grind [XK,Z28]
     simp_all
    ·rename_i sz n f hg
     split at hl
     ·rename_i hsz
      have hsz:=J0 hsz
      obtain ⟨hrow,hl⟩:=Zd hl
      split at hl
      ·rename_i rest hrest
       obtain ⟨rest',hK,hr⟩:=QS hm d false rest _ hl
       refine ⟨_,hK,fun E w r he hv=> ?_⟩
       cases hv with
       | ptr p b N hb=>
        cases he.own _ _ hg with
        | rows0 sz n f h0 hn=>omega
        | rows sz n f b' cells elem fr g hb' hw hf hc hlg hvs=>
         rw [hb] at hb'
         cases hb'
         have hd:=(ZN _ _ _ _ hrest (hc _ hrow)).1
         have e:(⟨b,p.tot,none⟩:Addr)=(⟨b,p.row*sz+p.off,none⟩:Addr).add p.inn:=by rw [addr_add];simp [ZI.tot,hsz]
         rw [e]
         refine .pview _ _ ⟨b,p.row*sz+p.off,none⟩ _ (hr E w _ he hd) (fun j c hj=> ?_)
         rw [addr_add]
         grind [XK,cell_of_heap]
      simp_all
     simp_all
    simp_all
  ·rename_i x
   split at hl
   ·rename_i ix hmv
    refine ⟨_,hl,fun E w r he hv=> ?_⟩
    cases hv with
    | map x b N hb=>exact .map ix b N (by rw [Xg hmv];exact hb)
   ·exact hl.elim
  ·rename_i p esz len lo
   split at hl
   ·rename_i ix hmv
    split at hl
    ·simp_all
    ·refine ⟨_,hl,fun E w r he hv=> ?_⟩
     cases hv with
     | nslice0 p esz len lo a h1 h2=>exact .nslice0 _ _ _ _ a h1 h2
     | nslice p esz len lo b N cap hb h1 h2 h3=>exact .nslice ⟨ix,p.row,p.sz,p.off,p.inn⟩ _ _ _ b N cap (by rw [Xg hmv];exact hb) h1 h2 h3
   ·rename_i hmv
    split at hl
    ·rename_i k xs hg
     split at hl
     ·rename_i hes
      have hes:=J0 hes
      subst hes
      obtain ⟨hle,hK⟩:=Zd hl
      have hlen:((Y2 p.tot xs).take len).length=len:=by rw [ZU,Jc,J9];omega
      refine ⟨_,hK,fun E w r he hv=> ?_⟩
      cases hv with
      | nslice0 p esz len lo a h1 h2=>
       subst h1
       cases a with
       | none=>exact .vintsNil _ _ _ (by simp) rfl
       | some a=>exact .vints _ _ _ a 0 (by simp) (by simp) (fun i hi=>by simp at hi)
      | nslice p esz len lo b N cap hb h1 h2 h3=>
       refine .vints _ _ _ _ cap (by omega) (by omega) (fun i hi=> ?_)
       rw [hlen] at hi
       rw [addr_add]
       refine XK he hm hg hb hmv ?_
       cases he.own _ _ hg with
       | ints0 k xs h0 hn=>rw [hn] at hb;cases hb
       | ints k xs b' cells elem fr hb' hw hf hvs=>
        rw [hb] at hb'
        cases hb'
        rw [cell_of_heap hw,hvs _ (by omega)]
        congr 2
        rw [ZU]
        simp_all
     simp_all
    ·rename_i sz n f hg
     split at hl
     ·rename_i hb
      simp only [J2,JJ] at hb
      obtain ⟨⟨⟨q1,q2⟩,q3⟩,q4⟩:=hb
      have q1:=J0 q1
      have q2:=J0 q2
      have q3:=J0 q3
      obtain ⟨hle,hpl,hK⟩:=Zd hl
      refine ⟨_,hK,fun E w r he hv=> ?_⟩
      have htot:p.tot=p.row*sz:=by
       grind [J0,ZI.tot]
      cases hv with
      | nslice0 p esz len lo a h1 h2=>
       subst h1
       cases a with
       | none=>exact .vrowsNil _ _ _ _ rfl rfl
       | some a=>exact .vrows _ _ _ _ a 0 (fun _=>[]) (by omega) (by omega) (fun i hi=>by omega) (fun i hi=>by omega) (fun i j c hi=>by omega)
      | nslice p esz len lo b N cap hb h1 h2 h3=>
       cases he.own _ _ hg with
       | rows0 sz n f h0 hn=>rw [hn] at hb;cases hb
       | rows sz n f b' cells elem fr g hb' hw hf hc hlg hvs=>
        rw [hb] at hb'
        cases hb'
        refine .vrows _ _ _ _ _ cap (fun i=>g (p.row+i)) (by omega) h1 (fun i hi=> ?_) (fun i hi=>by rw [<-q1];grind) (fun i j c hi hj=> ?_)
        ·have:=hc (p.row+i) (by omega)
         have hp:=hpl i hi
         rw [Wy] at hp⊢
         exact this.plain hp
        ·rw [addr_add]
         refine XK he hm hg hb hmv ?_
         rw [cell_of_heap hw,htot,<-q1]
         have:=hvs (p.row+i) j c (by omega) hj
         rw [K7] at this
         rw [show p.row*sz+(i*sz+j)=p.row*sz+i*sz+j by omega]
         exact this
     simp_all
    ·rename_i cs hg
     split at hl
     ·rename_i rest hrow hrest
      have hbase:∀(E:Env) (w:World) (b N:Nat),Emb E h w->E.blk p.blk=some (b,N)->∃vs,Zm E rest vs/\∀j c,vs[j]? =some c->w.cell? ⟨b,p.off+j,none⟩=some c:=by
       intro E w b N he hb
       cases he.own _ _ hg with
       | flat0 cs h0 hn=>rw [hn] at hb;cases hb
       | flat cs b' cells elem fr vs hb' hw hf hc hvs=>
        rw [hb] at hb'
        cases hb'
        refine ⟨_,(ZN _ _ _ _ hrest hc).1,fun j c hj=> ?_⟩
        rw [JF] at hj
        exact Z28 hvs hw hj
      split at hl
      ·split at hl
       ·rename_i k n xs rest2 harr
        split at hl
        ·rename_i hes hbb
         have hes:=J0 hes
         subst hes
         rw [J2] at hbb
         have e1:=J0 hbb.1
         have e2:=J0 hbb.2
         obtain ⟨hxl,hK⟩:=Zd hl
         refine ⟨_,hK,fun E w r he hv=> ?_⟩
         cases hv with
         | nslice0 p esz len lo a h1 h2=>
          have hx0:xs=[]:=by
           grind
          subst hx0
          subst h1
          cases a with
          | none=>exact .vintsNil _ _ _ rfl rfl
          | some a=>exact .vints _ _ _ a 0 (by simp) (by simp) (fun i hi=>by simp at hi)
         | nslice p esz len lo b N cap hb h1 h2 h3=>
          obtain ⟨vs,hcr,hcell⟩:=hbase E w b N he hb
          obtain ⟨ws,rfl,_⟩:=Zm.cons_arr hcr
          refine .vints _ _ _ _ cap (by omega) (by omega) (fun i hi=> ?_)
          rw [addr_add]
          refine XK he hm hg hb hmv ?_
          have:=hcell i (.int k (xs.getD i 0)) (by
           rw [Jb (by rw [Z9];omega),Zj (by omega)])
          rw [show p.tot+i=p.off+i by simp [ZI.tot,hrow,e1]]
          exact this
        ·rename_i hes hbb
         have hes:=J0 hes
         subst hes
         obtain ⟨⟨hxl,hle⟩,hK⟩:=Zd hl
         have hlen:((Y2 p.inn xs).take len).length=len:=by rw [ZU,Jc,J9];omega
         refine ⟨_,hK,fun E w r he hv=> ?_⟩
         cases hv with
         | nslice0 p esz len lo a h1 h2=>
          subst h1
          cases a with
          | none=>exact .vintsNil _ _ _ (by simp) rfl
          | some a=>exact .vints _ _ _ a 0 (by simp) (by simp) (fun i hi=>by simp at hi)
         | nslice p esz len lo b N cap hb h1 h2 h3=>
          obtain ⟨vs,hcr,hcell⟩:=hbase E w b N he hb
          obtain ⟨ws,rfl,_⟩:=Zm.cons_arr hcr
          refine .vints _ _ _ _ cap (by omega) (by omega) (fun i hi=> ?_)
          rw [hlen] at hi
          rw [addr_add]
          refine XK he hm hg hb hmv ?_
          have:=hcell (p.inn+i) (.int k (xs.getD (p.inn+i) 0)) (by
           rw [Jb (by rw [Z9];omega),Zj (by omega)])
          rw [show p.tot+i=p.off+(p.inn+i) by simp [ZI.tot,hrow];omega]
          rw [this]
          congr 2
          rw [ZU]
          simp_all
        simp_all
       simp_all
      ·split at hl
       ·rename_i part hinn hpart
        have hinn:=J0 hinn
        obtain ⟨part',hK,hr⟩:=QS hm d false part _ hl
        split at hK
        ·rename_i hrows
         refine ⟨_,hK,fun E w r he hv=> ?_⟩
         cases hv with
         | nslice0 p esz len lo a h1 h2=>
          subst h1
          cases a with
          | none=>exact .vrowsNil _ _ _ _ rfl rfl
          | some a=>exact .vrows _ _ _ _ a 0 (fun _=>[]) (by omega) (by omega) (fun i hi=>by omega) (fun i hi=>by omega) (fun i j c hi=>by omega)
         | nslice p esz len lo b N cap hb h1 h2 h3=>
          obtain ⟨vs,hcr,hcell⟩:=hbase E w b N he hb
          have hpr:=(Vh _ _ _ _ hpart hcr).1
          have hpr':=hr E w _ he hpr
          refine .vrows _ _ _ _ _ cap (fun i=>((vs.take (len*esz)).drop (0+i*esz)).take esz) (by omega) h1 (fun i hi=>(Xh (YG hrows i hi) hpr').1) (fun i hi=>(Xh (YG hrows i hi) hpr').2) (fun i j c hi hj=> ?_)
          rw [addr_add]
          grind [XK,ZI.tot]
        simp_all
       simp_all
     simp_all
    simp_all
  ·obtain ⟨fs',hl,h1⟩:=Z3j hm d t _ _ hl
   obtain ⟨cs',hl,h2⟩:=Z3j hm d t _ _ hl
   refine ⟨_,hl,fun E w r he hv=> ?_⟩
   cases hv with
   | func fn first captured fs cs ha hb=>exact .func _ _ _ _ _ (h1 E w _ he ha) (h2 E w _ he hb)
  ·obtain ⟨u',hl,h1⟩:=Z8d hm d t _ _ hl
   refine ⟨_,hl,fun E w r he hv=> ?_⟩
   cases hv with
   | iface T v x hx=>exact .iface _ _ _ (h1 E w _ he hx)
  ·obtain ⟨cs',hl,h1⟩:=QS hm d t _ _ hl
   refine ⟨_,hl,fun E w r he hv=> ?_⟩
   cases hv with
   | agg cs vs hc=>exact .agg _ _ (h1 E w _ he hc)
  ·obtain ⟨vs',hl,h1⟩:=Z3j hm d t _ _ hl
   refine ⟨_,hl,fun E w r he hv=> ?_⟩
   cases hv with
   | tuple vs rs hc=>exact .tuple _ _ (h1 E w _ he hc)
  simp_all
theorem QS {σ:List Nat} {h:Z6} (hm:∀x,x∈σ->∃B,h.get x=some B):∀(d:Nat) (t:Bool) (l:List AV) (K:List AV->Prop),vwC σ h t d l K->∃l₀,K l₀/\∀(E:Env) (w:World) (r:List Value),Emb E h w->Zm E l r->Zm (E.borL σ w t) l₀ r
 | 0,t,l,K,hl=>by unfold vwC at hl;simp_all
 | d+1,t,l,K,hl=>by
  unfold vwC at hl
  split at hl
  ·exact ⟨_,hl,fun E w r he hv=>by cases hv;exact .nil⟩
  ·obtain ⟨r',hl,h1⟩:=QS hm d t _ _ hl
   refine ⟨_,hl,fun E w r he hv=> ?_⟩
   obtain ⟨ws,rfl,ht⟩:=Zm.cons_arr hv
   exact .arr _ _ _ _ _ (h1 E w _ he ht)
  ·rename_i v r hna
   obtain ⟨v',hl,h1⟩:=Z8d hm d t _ _ hl
   split at hl
   ·rename_i hcell
    obtain ⟨r',hl,h2⟩:=QS hm d t _ _ hl
    refine ⟨_,hl,fun E w q he hv=> ?_⟩
    obtain ⟨c,ws,rfl,q1,q2,q3,q4⟩:=Zm.cons_cell hv (fun k m xs e=>hna k m xs e)
    exact .one _ _ _ _ hcell q2 (h1 E w _ he q3) (h2 E w _ he q4)
   ·exact hl.elim
theorem Z3j {σ:List Nat} {h:Z6} (hm:∀x,x∈σ->∃B,h.get x=some B):∀(d:Nat) (t:Bool) (l:List AV) (K:List AV->Prop),vwL σ h t d l K->∃l₀,K l₀/\∀(E:Env) (w:World) (r:List Value),Emb E h w->Zt E l r->Zt (E.borL σ w t) l₀ r
 | 0,t,l,K,hl=>by unfold vwL at hl;simp_all
 | d+1,t,l,K,hl=>by
  unfold vwL at hl
  split at hl
  ·exact ⟨_,hl,fun E w r he hv=>by cases hv;exact .nil⟩
  ·obtain ⟨v',hl,h1⟩:=Z8d hm d t _ _ hl
   obtain ⟨r',hl,h2⟩:=Z3j hm d t _ _ hl
   refine ⟨_,hl,fun E w q he hv=> ?_⟩
   cases hv with
   | cons v c vs cs ha hb=>exact .cons _ _ _ _ (h1 E w _ he ha) (h2 E w _ he hb)
end
def plainW:AV->Bool
 | .agg cs=>YA cs
 | v=>v.plain
theorem Zc.plainW {v:AV} (h:Zc E v r) (hp:plainW v=true):Zc E' v r:=by
 cases v with
 | agg cs=>cases h with|agg _ vs hc=>exact .agg _ vs (hc.plain hp)
 | _=>exact h.plain hp
def vwB (σ:List Nat) (h:Z6) (d:Nat) (B:Blk) (K:Blk->Prop):Prop:=
 match B with
 | .ints k xs=>K (.ints k xs)
 | .flat cs=>vwC σ h true d cs fun cs'=>match Nat.beq (csz cs') (csz cs) with|true=>K (.flat cs')|false=>False
 | .rows sz n f=>(∀i,i<n->YA (f i)=true)/\K (.rows sz n f)
 | .fmap n kf vf=>(∀i,i<n->plainW (kf i)=true/\plainW (vf i)=true)/\K (.fmap n kf vf)
 | _=>False
theorem ZgQ {h:Z6} (hm:∀x,x∈σ->∃B,h.get x=some B) {d:Nat} {K:Blk->Prop} (hl:vwB σ h d B K):
  ∃B₀,K B₀/\∀(E:Env) (w:World) (x i:Nat),Emb E h w->Xx σ x=some i->ZV E w x B->ZV (E.borL σ w true) w i B₀:=by
 unfold vwB at hl
 split at hl
 ·refine ⟨_,hl,fun E w x i he hi hb=> ?_⟩
  have hq:=Xg (E:=E) (w:=w) hi
  cases hb with
  | ints0 k xs h0 hn=>exact .ints0 _ _ h0 (hq.trans hn)
  | ints k xs b cells elem fr hb hw hf hv=>exact .ints _ _ b cells elem fr (hq.trans hb) hw hf hv
 ·obtain ⟨cs',hl,hr⟩:=QS hm _ _ _ _ hl
  split at hl
  ·rename_i hz
   have hz:=J0 hz
   refine ⟨_,hl,fun E w x i he hi hb=> ?_⟩
   have hq:=Xg (E:=E) (w:=w) hi
   cases hb with
   | flat0 cs h0 hn=>exact .flat0 _ (hz.trans h0) (hq.trans hn)
   | flat cs b cells elem fr vs hb hw hf hc hv=>exact .flat _ b cells elem fr vs (hq.trans hb) hw hf (hr E w vs he hc) hv
  simp_all
 ·obtain ⟨hp,hl⟩:=hl
  refine ⟨_,hl,fun E w x i he hi hb=> ?_⟩
  have hq:=Xg (E:=E) (w:=w) hi
  cases hb with
  | rows0 sz n f h0 hn=>exact .rows0 _ _ _ h0 (hq.trans hn)
  | rows sz n f b cells elem fr g hb hw hf hc hl hv=>exact .rows _ _ _ b cells elem fr g (hq.trans hb) hw hf (fun i hi=>(hc i hi).plain (hp i hi)) hl hv
 ·obtain ⟨hp,hl⟩:=hl
  refine ⟨_,hl,fun E w x i he hi hb=> ?_⟩
  have hq:=Xg (E:=E) (w:=w) hi
  cases hb with
  | fmap n kf vf b ents clock hb hw hll hk hv hbn=>exact .fmap _ _ _ b ents clock (hq.trans hb) hw hll (fun i e he=>(hk i e he).plainW (hp i (hll▸(Ja.1 he).1)).1) (fun i e he=>(hv i e he).plainW (hp i (hll▸(Ja.1 he).1)).2) hbn
 simp_all
def Zem (σ:List Nat) (h:Z6) (d:Nat):List Nat->(List Blk->Prop)->Prop
 | [],K=>K []
 | x::r,K=>match h.get x with
  | some B=>vwB σ h d B fun B'=>Zem σ h d r fun Bs=>K (B'::Bs)
  | none=>False
theorem Z9b {σ:List Nat} {h:Z6} (hm:∀x,x∈σ->∃B,h.get x=some B) {d:Nat}:∀(r:List Nat) (K:List Blk->Prop),Zem σ h d r K->
  ∃Bs,K Bs/\Bs.length=r.length/\∀(i x:Nat) (B:Blk),r[i]? =some x->Bs[i]? =some B->∃B',h.get x=some B'/\∀(E:Env) (w:World) (j:Nat),Emb E h w->Xx σ x=some j->ZV E w x B'->ZV (E.borL σ w true) w j B
 | [],K,hl=>⟨[],hl,rfl,fun i x B h=>by simp at h⟩
 | y::r,K,hl=>by
  unfold Zem at hl
  split at hl
  ·rename_i B' hB'
   obtain ⟨B₀,hl,hr⟩:=ZgQ hm hl
   obtain ⟨Bs,hK,hlen,hall⟩:=Z9b hm r _ hl
   refine ⟨B₀::Bs,hK,by simp [hlen],fun i x B h1 h2=> ?_⟩
   match i with
   | 0=>simp at h1 h2;subst h1;subst h2;exact ⟨B',hB',fun E w j he hj hb=>hr E w _ j he hj hb⟩
   | i+1=>exact hall i x B (by simpa using h1) (by simpa using h2)
  ·exact hl.elim
def hasB (h:Z6):List Nat->Bool
 | []=>true
 | x::r=>match h.get x with|some _=>hasB h r|none=>false
theorem Z9c {h:Z6}:∀{σ:List Nat},hasB h σ=true->∀x,x∈σ->∃B,h.get x=some B
 | [],_,x,hx=>by simp at hx
 | y::r,hl,x,hx=>by
  unfold hasB at hl
  split at hl
  ·rename_i B hB
   rcases J7.1 hx with rfl|hx
   ·exact ⟨B,hB⟩
   ·exact Z9c hl x hx
  ·cases hl
def Z4y:List Nat->Bool
 | []=>true
 | x::r=>match Xx r x with|some _=>false|none=>Z4y r
theorem UF:∀{σ:List Nat},Z4y σ=true->∀(i x:Nat),Xf σ i=some x->Xx σ x=some i
 | [],_,i,x,h=>by simp [Xf] at h
 | y::r,hd,0,x,h=>by simp_all [Xf,Xx]
 | y::r,hd,i+1,x,h=>by
  unfold Z4y at hd
  split at hd
  ·cases hd
  ·rename_i hn
   have h1:Xf r i=some x:=h
   have h2:=UF hd i x h1
   have hne:y≠x:=fun e=>Z18 hn (e▸Xs h1)
   simp [Xx,Zu hne,h2]
def frA (σ:List Nat) (h:Z6) (d:Nat) (args:List AV) (K0:List Blk->List AV->Prop):Prop:=
 match hasB h σ&&Z4y σ with
 | true=>Zem σ h d σ fun Bs=>vwL σ h true d args fun a=>K0 Bs a
 | false=>False
theorem Z3k:∀{σ:List Nat} {i:Nat},Xf σ i=σ[i]?
 | [],_=>by simp [Xf]
 | x::r,0=>by simp [Xf]
 | x::r,i+1=>by simp [Xf,Z3k (σ:=r)]
theorem ZgR {h:Z6} {d:Nat} (hl:frA σ h d args K0):
  (∀x,x∈σ->∃B,h.get x=some B)/\Z4y σ=true/\∃Bs a,K0 Bs a/\Bs.length=σ.length/\
   (∀(i x:Nat) (B:Blk),Xf σ i=some x->Bs[i]? =some B->∃B',h.get x=some B'/\∀(E:Env) (w:World),Emb E h w->ZV E w x B'->ZV (E.borL σ w true) w i B)/\
   ∀(E:Env) (w:World) (r:List Value),Emb E h w->Zt E args r->Zt (E.borL σ w true) a r:=by
 unfold frA at hl
 split at hl
 ·rename_i hc
  rw [J2] at hc
  have hm:=Z9c hc.1
  grind [Z9b,Z3j,Z3k,UF]
 simp_all
def Spec (P:Program) (f:FuncId) (args:List AV) (h0:Z6) (o:Out) (nx:Nat) (bs:List (Nat×Blk)):Prop:=
 ∀(E:Env) (w:World) (rs:List Value),Emb E h0 w->Zt E args rs->Calls P f rs.toArray w fun e w'=>∃E',Evo E h0 w E' ⟨nx,bs⟩ w'/\QG E' o e
theorem Z9d {k:Nat} {τ:Ren} {v u:AV} {bs:List (Nat×Blk)} {h0 h:Z6} (hk:k=h0.next) (hl:Uy k τ ⟨1,[(0,v)],⟨nx,bs⟩,[]⟩ ⟨1,[(0,u)],h,[]⟩ True) {E0:Env} {w0 w:World}
  (he0:Emb E0 h0 w0) (hev:Evo E0 h0 w0 E h w) (hr:Zc E u r):∃E',Evo E0 h0 w0 E' ⟨nx,bs⟩ w/\Zc E' v r:=by
 obtain ⟨_,hw⟩:=Xr hl
 have hs:WN E ⟨1,[(0,u)],h,[]⟩ { tmps:= #[r],defers:=[]} w:=by
  refine ⟨hev.emb,⟨rfl,fun x v' hx=> ?_⟩,.nil⟩
  simp only [ZD] at hx
  split at hx
  all_goals simp_all
 obtain ⟨E₂,hs2,hev2⟩:=hw E0 h0 w0 E _ w (fun x hx=>he0.fresh x (hk▸hx)) hs hev
 refine ⟨E₂,hev2, ?_⟩
 have:=hs2.tmps.get 0 v (by simp [ZD])
 simp_all
def mvN:List Nat->Nat->Nat->Nat
 | [],d,y=>d+y
 | x::_,_,0=>x
 | _::r,d,y+1=>mvN r d y
theorem Z8e:∀{σ:List Nat} {d y x:Nat},Xf σ y=some x->mvN σ d y=x
 | [],_,_,_,h=>by simp [Xf] at h
 | x::r,d,0,_,h=>by simpa [Xf,mvN] using h
 | x::r,d,y+1,_,h=>Z8e (σ:=r) h
theorem Z8f:∀{σ:List Nat} {d y:Nat},σ.length<=y->mvN σ d y=d+(y-σ.length)
 | [],d,y,_=>by simp [mvN]
 | x::r,d,0,h=>by simp at h
 | x::r,d,y+1,h=>by
  simp at h
  have:=Z8f (σ:=r) (d:=d) h
  simp [mvN,this]
theorem QT:∀{σ:List Nat} {y:Nat},y<σ.length->∃x,Xf σ y=some x
 | [],_,h=>by simp at h
 | x::r,0,_=>⟨x,rfl⟩
 | x::r,y+1,h=>QT (σ:=r) (by simp_all)
mutual
/-- Names moved. -/
def mvV (σ:List Nat) (d:Nat):AV->Option AV
 | .top=>some .top
 | .bool b=>some (.bool b)
 | .int k n=>some (.int k n)
 | .str s=>some (.str s)
 | .ptr none=>some (.ptr none)
 | .ptr (some p)=>some (.ptr (some ⟨mvN σ d p.blk,p.row,p.sz,p.off,p.inn⟩))
 | .nslice p esz len lo=>some (.nslice ⟨mvN σ d p.blk,p.row,p.sz,p.off,p.inn⟩ esz len lo)
 | .eslice=>some .eslice
 | .fslice=>some .fslice
 | .nilslice=>some .nilslice
 | .map none=>some (.map none)
 | .map (some x)=>some (.map (some (mvN σ d x)))
 | .nilFunc=>some .nilFunc
 | .nilIface=>some .nilIface
 | .func (.func g) fs cs=>match mvL σ d fs,mvL σ d cs with
  | some fs',some cs'=>some (.func (.func g) fs' cs')
  | _,_=>none
 | .iface t v=>match mvV σ d v with|some v'=>some (.iface t v')|none=>none
 | .agg cs=>match mvC σ d cs with|some cs'=>some (.agg cs')|none=>none
 | .tuple vs=>match mvL σ d vs with|some vs'=>some (.tuple vs')|none=>none
 | _=>none
def mvC (σ:List Nat) (d:Nat):List AV->Option (List AV)
 | []=>some []
 | .arr k n xs::r=>match mvC σ d r with|some r'=>some (.arr k n xs::r')|none=>none
 | v::r=>match mvV σ d v,mvC σ d r with
  | some v',some r'=>match v'.isCell with|true=>some (v'::r')|false=>none
  | _,_=>none
def mvL (σ:List Nat) (d:Nat):List AV->Option (List AV)
 | []=>some []
 | v::r=>match mvV σ d v,mvL σ d r with
  | some v',some r'=>some (v'::r')
  | _,_=>none
end
theorem Z19 {v:AV} (h:v.isCell=true) (r:List AV):csz (v::r)=1+csz r:=by
 cases v<;>simp_all [AV.isCell,csz]
set_option maxHeartbeats 1000000 in
mutual
theorem Z3l {σ:List Nat} {d:Nat} {E E':Env} (hb:∀x r,E.blk x=some r->E'.blk (mvN σ d x)=some r):∀(v v':AV) (r:Value),mvV σ d v=some v'->Zc E v r->Zc E' v' r:=by
 intro v v' r h hv
 unfold mvV at h
 split at h
 ·cases h;exact .top r
 ·cases h;exact hv.plain rfl
 ·cases h;exact hv.plain rfl
 ·cases h;exact hv.plain rfl
 ·cases h;exact hv.plain rfl
 ·cases h
  cases hv with
  | ptr p b N hq=>exact .ptr ⟨mvN σ d _,_,_,_,_⟩ b N (hb _ _ hq)
 ·cases h
  cases hv with
  | nslice0 p esz len lo a h1 h2=>exact .nslice0 _ _ _ _ a h1 h2
  | nslice p esz len lo b N cap hq h1 h2 h3=>exact .nslice ⟨mvN σ d _,_,_,_,_⟩ _ _ _ b N cap (hb _ _ hq) h1 h2 h3
 ·cases h;exact hv.plain rfl
 ·cases h;exact hv.plain rfl
 ·cases h;exact hv.plain rfl
 ·cases h;exact hv.plain rfl
 ·cases h
  cases hv with
  | map x b N hq=>exact .map _ b N (hb _ _ hq)
 ·cases h;exact hv.plain rfl
 ·cases h;exact hv.plain rfl
 ·split at h
  ·rename_i fs' cs' h1 h2
   cases h
   cases hv with
   | func fn first captured fs cs ha hc=>exact .func _ _ _ _ _ (Z1a hb _ _ _ h1 ha) (Z1a hb _ _ _ h2 hc)
  ·cases h
 ·split at h
  ·rename_i v1 h1
   cases h
   cases hv with
   | iface t v x hx=>exact .iface _ _ _ (Z3l hb _ _ _ h1 hx)
  ·cases h
 ·split at h
  ·rename_i cs' h1
   cases h
   cases hv with
   | agg cs vs hc=>exact .agg _ _ (Z3m hb _ _ _ h1 hc).1
  ·cases h
 ·split at h
  ·rename_i vs' h1
   cases h
   cases hv with
   | tuple vs rs hc=>exact .tuple _ _ (Z1a hb _ _ _ h1 hc)
  ·cases h
 ·cases h
theorem Z3m {σ:List Nat} {d:Nat} {E E':Env} (hb:∀x r,E.blk x=some r->E'.blk (mvN σ d x)=some r):∀(l l':List AV) (r:List Value),mvC σ d l=some l'->Zm E l r->Zm E' l' r/\csz l'=csz l:=by
 intro l l' r h hv
 unfold mvC at h
 split at h
 ·cases h;cases hv;exact ⟨.nil,rfl⟩
 ·split at h
  ·rename_i r' h1
   cases h
   obtain ⟨ws,rfl,ht⟩:=Zm.cons_arr hv
   have:=Z3m hb _ _ _ h1 ht
   exact ⟨.arr _ _ _ _ _ this.1,by simp [csz,this.2]⟩
  ·cases h
 ·rename_i v r2 hna
  split at h
  ·rename_i v1 r1 h1 h2
   split at h
   ·rename_i hcell
    cases h
    obtain ⟨c,ws,rfl,q1,q2,q3,q4⟩:=Zm.cons_cell hv (fun k m xs e=>hna k m xs e)
    have:=Z3m hb _ _ _ h2 q4
    exact ⟨.one _ _ _ _ hcell q2 (Z3l hb _ _ _ h1 q3) this.1,by rw [Z19 hcell,Z19 q1,this.2]⟩
   ·cases h
  ·cases h
theorem Z1a {σ:List Nat} {d:Nat} {E E':Env} (hb:∀x r,E.blk x=some r->E'.blk (mvN σ d x)=some r):∀(l l':List AV) (r:List Value),mvL σ d l=some l'->Zt E l r->Zt E' l' r:=by
 intro l l' r h hv
 unfold mvL at h
 split at h
 ·cases h;cases hv;exact .nil
 ·split at h
  ·rename_i v1 r1 h1 h2
   cases h
   cases hv with
   | cons v c vs cs ha hc=>exact .cons _ _ _ _ (Z3l hb _ _ _ h1 ha) (Z1a hb _ _ _ h2 hc)
  ·cases h
end
theorem Zen {d:Nat}:∀(l l':List AV),mvC σ d l=some l'->csz l'=csz l:=by
 intro l
 induction l with
 | nil=>intro l' h;unfold mvC at h;simp_all
 | cons v r ih=>
  intro l' h
  unfold mvC at h
  grind [csz,Z19]
inductive MvB (σ:List Nat) (d:Nat):Blk->Blk->Prop
 | ints (k:IntKind) (xs:LI):MvB σ d (.ints k xs) (.ints k xs)
 | flat (cs cs':List AV) (h:mvC σ d cs=some cs'):MvB σ d (.flat cs) (.flat cs')
 | rows (sz n:Nat) (f:Nat->List AV) (h:∀i,i<n->YA (f i)=true):MvB σ d (.rows sz n f) (.rows sz n f)
 | rowsM (sz n:Nat) (f f':Nat->List AV) (h:∀i,i<n->mvC σ d (f i)=some (f' i)):MvB σ d (.rows sz n f) (.rows sz n f')
 | pmap (es es':List (AV×AV)) (h1:mvL σ d (es.map (·.1))=some (es'.map (·.1))) (h2:mvL σ d (es.map (·.2))=some (es'.map (·.2))):MvB σ d (.pmap es) (.pmap es')
 | fmap (n:Nat) (kf vf:Nat->AV) (h:∀i,i<n->plainW (kf i)=true/\plainW (vf i)=true):MvB σ d (.fmap n kf vf) (.fmap n kf vf)
inductive Z8g (σ:List Nat) (d:Nat):List (Nat×Blk)->List (Nat×Blk)->Prop
 | nil:Z8g σ d [] []
 | cons (y x:Nat) (B B':Blk) (r r':List (Nat×Blk)) (hx:mvN σ d y=x) (h:MvB σ d B B') (t:Z8g σ d r r'):Z8g σ d ((y,B)::r) ((x,B')::r')
inductive MvO (σ:List Nat) (d:Nat):Out->Out->Prop
 | ret (v v':AV) (h:mvV σ d v=some v'):MvO σ d (.ret v) (.ret v')
 | panic (v v':AV) (h:mvV σ d v=some v'):MvO σ d (.panic v) (.panic v')
theorem Z8g.get {d:Nat}:∀{bs bs':List (Nat×Blk)},Z8g σ d bs bs'->∀x B',ZC bs' x=some B'->∃y B,mvN σ d y=x/\ZC bs y=some B/\MvB σ d B B'
 | _,_,.nil,x,B',h=>by simp [ZC] at h
 | _,_,.cons y x0 B B0 r r' hx hm t,x,B',h=>by
  unfold ZC at h
  split at h
  ·grind [J0,ZC,Jj]
  ·obtain ⟨z,C,h1,h2,h3⟩:=t.get x B' h
   grind [Jj,ZC,Zu]
theorem MvB.move {d:Nat} {B':Blk} (hm:MvB σ d B B') {w:World} {y:Nat} (hb:∀x r,E.blk x=some r->E'.blk (mvN σ d x)=some r) (hn:E.blk y=none->E'.blk (mvN σ d y)=none) (h:ZV E w y B):ZV E' w (mvN σ d y) B':=by
 cases hm with
 | ints k xs=>cases h with
  | ints0 k xs h0 hq=>exact .ints0 _ _ h0 (hn hq)
  | ints k xs b cells elem fr hq hw hf hv=>exact .ints _ _ b cells elem fr (hb _ _ hq) hw hf hv
 | flat cs cs' hc=>cases h with
  | flat0 cs h0 hq=>exact .flat0 _ ((Zen _ _ hc).trans h0) (hn hq)
  | flat cs b cells elem fr vs hq hw hf hcr hv=>exact .flat _ b cells elem fr vs (hb _ _ hq) hw hf (Z3m hb _ _ _ hc hcr).1 hv
 | rows sz n f hp=>cases h with
  | rows0 sz n f h0 hq=>exact .rows0 _ _ _ h0 (hn hq)
  | rows sz n f b cells elem fr g hq hw hf hcr hl hv=>exact .rows _ _ _ b cells elem fr g (hb _ _ hq) hw hf (fun i hi=>(hcr i hi).plain (hp i hi)) hl hv
 | rowsM sz n f f' hp=>cases h with
  | rows0 sz n f h0 hq=>exact .rows0 _ _ _ h0 (hn hq)
  | rows sz n f b cells elem fr g hq hw hf hcr hl hv=>exact .rows _ _ _ b cells elem fr g (hb _ _ hq) hw hf (fun i hi=>(Z3m hb _ _ _ (hp i hi) (hcr i hi)).1) hl hv
 | pmap es es' h1 h2=>cases h with
  | pmap es b k ents ents' clock hq hw hpp hnn hi hk hv=>exact .pmap _ b k ents ents' clock (hb _ _ hq) hw hpp hnn hi (Z1a hb _ _ _ h1 hk) (Z1a hb _ _ _ h2 hv)
 | fmap n kf vf hp=>cases h with
  | fmap n kf vf b ents clock hq hw hll hk hv hbn=>exact .fmap _ _ _ b ents clock (hb _ _ hq) hw hll (fun i e he=>(hk i e he).plainW (hp i (hll▸(Ja.1 he).1)).1) (fun i e he=>(hv i e he).plainW (hp i (hll▸(Ja.1 he).1)).2) hbn
def Q8 (σ:List Nat) (bs:List (Nat×Blk)):List (Nat×Blk):=match σ with
 | []=>bs
 | x::r=>Q8 r (ZK bs x)
theorem Z1E:∀{σ:List Nat} {bs:List (Nat×Blk)} {x:Nat} {B:Blk},ZC (Q8 σ bs) x=some B->ZC bs x=some B/\x∉σ
 | [],bs,x,B,h=>⟨h,by simp⟩
 | y::r,bs,x,B,h=>by
  obtain ⟨h1,h2⟩:=Z1E (σ:=r) h
  by_cases hn:y=x
  all_goals simp_all [Qk,WA,Ne.symm]
theorem Spec.calls {P:Program} {f:FuncId} {args₀:List AV} {Bs:List Blk} {o o':Out} {bs bs':List (Nat×Blk)} {h:Z6} (hc:Spec P f args₀ ⟨σ.length,Wk 0 σ Bs⟩ o nx bs)
  (hlen:Bs.length=σ.length) (hm:∀x,x∈σ->∃B,h.get x=some B) (hd:Z4y σ=true)
  (hx:∀(i x:Nat) (B:Blk),Xf σ i=some x->Bs[i]? =some B->∃B',h.get x=some B'/\∀(E:Env) (w:World),Emb E h w->ZV E w x B'->ZV (E.borL σ w true) w i B)
  (ha:∀(E:Env) (w:World) (r:List Value),Emb E h w->Zt E args r->Zt (E.borL σ w true) args₀ r)
  (hnx:σ.length<=nx) (ho:MvO σ h.next o o') (hb:Z8g σ h.next bs bs') (hK:K o' ⟨h.next+(nx-σ.length),UC bs' (Q8 σ h.bs)⟩):Zh P f args h K:=by
 intro E w rs he hr
 let E0:=E.borL σ w true
 have hsub:∀i x,Xf σ i=some x->E0.blk i=E.blk x:=fun i x hi=>by
  show (match Xf σ i with|some x=>E.blk x|none=>none)=_
  rw [hi]
 have hnone:∀i,σ.length<=i->E0.blk i=none:=fun i hi=>by
  show (match Xf σ i with|some x=>E.blk x|none=>none)=_
  rw [Z9a hi]
 have hσlt:∀x,x∈σ->x<h.next:=fun x hx=>let ⟨B,hB⟩:=hm x hx;he.lt x B hB
 have hsb:∀y B,ZC (Wk 0 σ Bs) y=some B->∃x,Xf σ y=some x/\Bs[y]? =some B:=fun y B hy=>by
  obtain ⟨i,x,rfl,h1,h2⟩:=XJ σ Bs 0 y B hy
  rw [Jq]
  exact ⟨x,by rw [Z3k];exact h1,h2⟩
 have hinj:∀y z x,Xf σ y=some x->Xf σ z=some x->y=z:=fun y z x h1 h2=>by
  have a:=UF hd y x h1
  have b:=UF hd z x h2
  rw [a] at b
  simp_all
 have hemb:Emb E0 ⟨σ.length,Wk 0 σ Bs⟩ w:=by
  refine ⟨hnone, ?_, ?_, ?_,fun _ _ h=>h.1, ?_⟩
  ·intro y B hy
   obtain ⟨x,h1,_⟩:=hsb y B hy
   grind
  ·intro y B hy
   obtain ⟨x,h1,h2⟩:=hsb y B hy
   obtain ⟨B',hB',hq⟩:=hx y x B h1 h2
   exact hq E w he (he.own x B' hB')
  ·intro y z B C b N N' hy hz hby hbz
   obtain ⟨x,h1,h2⟩:=hsb y B hy
   obtain ⟨x',h3,h4⟩:=hsb z C hz
   rw [hsub y x h1] at hby
   rw [hsub z x' h3] at hbz
   obtain ⟨B',hB'⟩:=hm x (Xs h1)
   obtain ⟨C',hC'⟩:=hm x' (Xs h3)
   have:=he.disj x x' B' C' b N N' hB' hC' hby hbz
   grind
  ·intro a c y B N hi hy hbb
   obtain ⟨x,h1,_⟩:=hsb y B hy
   rw [hsub y x h1] at hbb
   exact hi.2 x (Xs h1) N hbb
 refine (hc E0 w rs hemb (ha E w rs he hr)).mono ?_
 rintro e w' ⟨E₁,hev,hor⟩
 let E':Env:=⟨fun x=>match Xx σ x with
  | some i=>E₁.blk i
  | none=>if x<h.next then E.blk x else E₁.blk (x-h.next+σ.length),E.imm⟩
 have hρ:∀y,E'.blk (mvN σ h.next y)=E₁.blk y:=fun y=>by
  rcases Jo y σ.length with hlt|hge
  ·obtain ⟨x,hx'⟩:=QT hlt
   rw [Z8e hx']
   show (match Xx σ x with|some i=>_|none=>_)=_
   rw [UF hd y x hx']
  ·rw [Z8f hge]
   have hn:Xx σ (h.next+(y-σ.length))=none:=by
    cases hq:Xx σ (h.next+(y-σ.length)) with
    | none=>rfl
    | some i=>have:=hσlt _ (Xs (Vx hq));omega
   grind
 have hold:∀x,x<h.next->Xx σ x=none->E'.blk x=E.blk x:=fun x hx hn=>by
  grind
 have hfresh:∀x,E.blk x≠none->x<h.next:=fun x hx=>by
  rcases Jo x h.next with hl|hg
  ·exact hl
  ·exact absurd (he.fresh x hg) hx
 have hle:E.le E':=⟨fun x q hq=>by
  cases hi:Xx σ x with
  | some i=>
   show (match Xx σ x with|some i=>_|none=>_)=_
   rw [hi]
   exact hev.le.blk i q ((hsub i x (Vx hi)).trans hq)
  | none=>rw [hold x (hfresh x (by rw [hq];simp)) hi];exact hq,fun _ _ h=>h⟩
 have hown0:∀b,X5 E0 ⟨σ.length,Wk 0 σ Bs⟩ b->∃x N,x∈σ/\E.blk x=some (b,N):=fun b ⟨y,B,N,hy,hbb⟩=>by
  obtain ⟨x,h1,_⟩:=hsb y B hy
  grind [Xs]
 have hkeep:∀b,b<w.heap.size->(∀x N,x∈σ->E.blk x=some (b,N)->False)->w'.heap[b]? =w.heap[b]?:=fun b hb hn=>hev.keep b hb (fun ho=>let ⟨x,N,h1,h2⟩:=hown0 b ho;hn x N h1 h2)
 have hget:∀x B',Z6.get ⟨h.next+(nx-σ.length),UC bs' (Q8 σ h.bs)⟩ x=some B'->
   (∃y B,mvN σ h.next y=x/\ZC bs y=some B/\MvB σ h.next B B')\/(x<h.next/\x∉σ/\h.get x=some B'):=fun x B' hx=>by
  simp only [Z6.get,Z4q] at hx
  split at hx
  ·rename_i B0 hq
   cases hx
   exact .inl (hb.get x _ hq)
  ·obtain ⟨h1,h2⟩:=Z1E hx
   exact .inr ⟨he.lt x B' h1,h2,h1⟩
 have hni:∀x,x∉σ->Xx σ x=none:=fun x hx=>by
  cases hq:Xx σ x with
  | none=>rfl
  | some i=>exact absurd (Xs (Vx hq)) hx
 have hmix:∀y B z C b N N',ZC bs y=some B->E₁.blk y=some (b,N)->z∉σ->h.get z=some C->E.blk z=some (b,N')->False:=fun y B z C b N N' hy hby hz hz' hbz=>by
  rcases hev.own b ⟨y,B,N,hy,hby⟩ with ho|hs
  ·obtain ⟨x,M,h1,h2⟩:=hown0 b ho
   obtain ⟨D,hD⟩:=hm x h1
   have:=he.disj x z D C b M N' hD hz' h2 hbz
   subst this
   exact hz h1
  ·have:=(he.own z C hz').lt hbz
   omega
 have himm0:∀a c,E.imm a c->E0.imm a c:=fun a c hi=>⟨he.imm a c hi,fun x hx N hbb=>let ⟨B,hB⟩:=hm x hx;he.sep a c x B N hi hB hbb⟩
 have hemb':Emb E' ⟨h.next+(nx-σ.length),UC bs' (Q8 σ h.bs)⟩ w':=by
  refine ⟨?_, ?_, ?_, ?_, ?_, ?_⟩
  ·intro x hx
   have hx':h.next+(nx-σ.length)<=x:=hx
   have hn:Xx σ x=none:=hni x (fun hq=>by have:=hσlt x hq;omega)
   show (match Xx σ x with|some i=>_|none=>_)=_
   rw [hn]
   show (if _ then _ else _)=_
   rw [if_neg (by omega)]
   exact hev.emb.fresh _ (by show nx<=_;omega)
  ·intro x B hx
   show x<h.next+(nx-σ.length)
   rcases hget x B hx with ⟨y,B0,rfl,hy,_⟩|⟨hlt,_,_⟩
   ·have hyn:y<nx:=hev.emb.lt y B0 hy
    rcases Jo y σ.length with hlt|hge
    ·obtain ⟨x,hx'⟩:=QT hlt
     rw [Z8e hx']
     have:=hσlt x (Xs hx')
     omega
    ·rw [Z8f hge]
     omega
   ·omega
  ·intro x B hx
   rcases hget x B hx with ⟨y,B0,rfl,hy,hmv⟩|⟨hlt,hnσ,hx'⟩
   ·exact hmv.move (E:=E₁) (fun x r hq=>by rw [hρ];exact hq) (fun hq=>by rw [hρ];exact hq) (hev.emb.own y B0 hy)
   ·have h1:=(he.own x B hx').mono hle (fun hn=>by rw [hold x hlt (hni x hnσ)];exact hn)
    refine h1.congr fun b N hbb=> ?_
    rw [hold x hlt (hni x hnσ)] at hbb
    refine hkeep b ((he.own x B hx').lt hbb) fun z M hz hbz=> ?_
    obtain ⟨D,hD⟩:=hm z hz
    have:=he.disj x z B D b N M hx' hD hbb hbz
    subst this
    exact hnσ hz
  ·intro x z B C b N N' hx hz hbx hbz
   rcases hget x B hx with ⟨y,B0,rfl,hy,hmv⟩|⟨hlt,hnσ,hx'⟩<;>rcases hget z C hz with ⟨y',C0,rfl,hy',hmv'⟩|⟨hlt',hnσ',hz'⟩
   ·rw [hρ] at hbx hbz
    rw [hev.emb.disj y y' B0 C0 b N N' hy hy' hbx hbz]
   ·rw [hρ] at hbx
    rw [hold z hlt' (hni z hnσ')] at hbz
    exact (hmix y B0 z C b N N' hy hbx hnσ' hz' hbz).elim
   ·rw [hρ] at hbz
    rw [hold x hlt (hni x hnσ)] at hbx
    exact (hmix y' C0 x B b N' N hy' hbz hnσ hx' hbx).elim
   ·rw [hold x hlt (hni x hnσ)] at hbx
    rw [hold z hlt' (hni z hnσ')] at hbz
    exact he.disj x z B C b N N' hx' hz' hbx hbz
  ·intro a c hi
   exact hev.emb.imm a c (hev.le.imm a c (himm0 a c hi))
  ·intro a c x B N hi hx hbx
   rcases hget x B hx with ⟨y,B0,rfl,hy,hmv⟩|⟨hlt,hnσ,hx'⟩
   ·rw [hρ] at hbx
    exact hev.emb.sep a c y B0 N (hev.le.imm a c (himm0 a c hi)) hy hbx
   ·rw [hold x hlt (hni x hnσ)] at hbx
    exact he.sep a c x B N hi hx' hbx
 refine ⟨E',o',_,hK,⟨hle,hemb',hev.size,hev.os,hev.tape,hev.output,fun b hb' hno=>hkeep b hb' (fun x N hx hbx=> ?_), ?_,fun _ _ h=>h⟩, ?_⟩
 ·obtain ⟨B,hB⟩:=hm x hx
  exact hno ⟨x,B,N,hB,hbx⟩
 ·rintro b ⟨x,B,N,hx,hbx⟩
  rcases hget x B hx with ⟨y,B0,rfl,hy,hmv⟩|⟨hlt,hnσ,hx'⟩
  ·rw [hρ] at hbx
   rcases hev.own b ⟨y,B0,N,hy,hbx⟩ with ho|hs
   ·obtain ⟨z,M,h1,h2⟩:=hown0 b ho
    obtain ⟨D,hD⟩:=hm z h1
    exact .inl ⟨z,D,M,hD,h2⟩
   ·exact .inr hs
  ·rw [hold x hlt (hni x hnσ)] at hbx
   exact .inl ⟨x,B,N,hx',hbx⟩
 ·cases ho with
  | ret v v' hv=>cases hor with
   | ret v r hr=>exact .ret _ _ (Z3l (fun x q hq=>by rw [hρ];exact hq) _ _ _ hv hr)
  | panic v v' hv=>cases hor with
   | panic v r hr=>exact .panic _ _ (Z3l (fun x q hq=>by rw [hρ];exact hq) _ _ _ hv hr)
theorem Spec.fsumm {P:Program} {f:FuncId} {h:Z6} {d:Nat} (hl:frA σ h d args K0)
  (hK:∀Bs a₀,Bs.length=σ.length->K0 Bs a₀->∃o nx bs o' bs',Spec P f a₀ ⟨σ.length,Wk 0 σ Bs⟩ o nx bs/\σ.length<=nx/\MvO σ h.next o o'/\Z8g σ h.next bs bs'/\K o' ⟨h.next+(nx-σ.length),UC bs' (Q8 σ h.bs)⟩):Zh P f args h K:=by
 obtain ⟨hm,hd,Bs,a,hK0,hlen,hx,ha⟩:=ZgR hl
 grind [Spec.calls]
end Go.Tk
end
section
namespace Go.Tk
open IntKind (i64 u8 u32 u64 wrap)
def Yn (id n l:Nat) (go ex re jm:Nat->Prop) (En Rn Jn:Nat->St):KE->Prop:=fun X=>
 ∀i,i<=n->(∀j,j<i->go j)->(ex i->X (.exit id) (En i))/\(re i->X .ret (Rn i))/\(jm i->X (.goto l) (Jn i))
theorem Q9 {p x:Prop} [Decidable p]:Z8 (decide p) x False=(p/\x):=by
 by_cases h:p
 all_goals simp_all [Z8]
theorem Zeo {p x:Prop} [Decidable p]:Z8 (decide p) False x=(¬p/\x):=by
 by_cases h:p
 all_goals simp_all [Z8]
theorem Z5G {p x y:Prop} [Decidable p]:Z8 (decide p) x y=((p->x)/\(¬p->y)):=by
 by_cases h:p
 all_goals simp_all [Z8]
theorem Z9e {b:Bool} {x:Prop}:Z8 b x False=(b=true/\x):=by cases b<;>simp [Z8]
theorem Zep {b:Bool} {x:Prop}:Z8 b False x=(b=false/\x):=by cases b<;>simp [Z8]
theorem Zeq {b:Bool} {x y:Prop}:Z8 b x y=((b=true->x)/\(b=false->y)):=by cases b<;>simp [Z8]
def Z0 (b:Bool) (x:Prop):Prop:=Z8 b x False
theorem vcA:(∀(p x:Prop) [Decidable p],Z8 (decide p) x False=(p/\x))/\(∀(p x:Prop) [Decidable p],Z4 p x=(p/\x))/\(∀(p x:Prop) [Decidable p],Z0 (decide p) x=(p/\x))/\∀(p x:Prop) [Decidable p],Z8 (decide p) False x=(¬p/\x):=
 ⟨fun _ _ _=>Q9,fun _ _ _=>Q9,fun _ _ _=>Q9,fun _ _ _=>Zeo⟩
theorem vcB:(∀(p x y:Prop) [Decidable p],Z8 (decide p) x y=((p->x)/\(¬p->y)))/\(∀(b:Bool) (x:Prop),Z8 b x False=(b=true/\x))/\(∀(b:Bool) (x:Prop),Z0 b x=(b=true/\x))/\∀(b:Bool) (x:Prop),Z8 b False x=(b=false/\x):=
 ⟨fun _ _ _ _=>Z5G,fun _ _=>Z9e,fun _ _=>Z9e,fun _ _=>Zep⟩
theorem Zi9:(∀(p x:Prop) [Decidable p],Z8 (decide p) x False=(p/\x))/\(∀(p x:Prop) [Decidable p],Z4 p x=(p/\x))/\(∀(p x:Prop) [Decidable p],Z0 (decide p) x=(p/\x))/\(∀(b:Bool) (x:Prop),Z0 b x=Z8 b x False):=
 ⟨fun _ _ _=>Q9,fun _ _ _=>Q9,fun _ _ _=>Q9,fun _ _=>rfl⟩
theorem Zia:∀(p x y:Prop) [Decidable p],Z8 (decide p) x y=((p->x)/\(¬p->y)):=fun _ _ _ _=>Z5G
theorem vcC:(∀(b:Bool) (x y:Prop),Z8 b x y=((b=true->x)/\(b=false->y)))/\(∀n:Nat,((n:Int)).toNat=n)/\(∀n:Nat,0+n=n)/\(∀p:Prop,(True/\p)=p)/\(∀p:Prop,(p/\True)=p)/\∀n:Nat,(n<=n)=True:=
 ⟨fun _ _ _=>Zeq,JR,Jq,true_and,and_true,fun n=>eq_true (J1 n)⟩
theorem Zav {k:Nat} {τ:Ren} {v:AV} (hp:v.plain=true) (hc:v.isCell=true) {Z:Prop} (hZ:Z):eqV k τ v v Z:=by
 cases v with
 | ptr p=>cases p<;>simp_all [AV.plain,eqV]
 | map r=>cases r<;>simp_all [AV.plain,eqV]
 | _=>simp_all [AV.plain,eqV,UU,AV.isCell]
theorem Z1b {k:Nat} {τ:Ren}:∀{l:List AV},YA l=true->∀{Z:Prop},Z->(∀v∈l,v.isCell=true\/∃k n xs,v=.arr k n xs)->eqC k τ l l Z
 | [],_,Z,hZ,_=>by simp [eqC,hZ]
 | v::r,hp,Z,hZ,hc=>by
  simp only [YA,J2] at hp
  have hr:=Z1b (k:=k) (τ:=τ) hp.2 hZ (fun u hu=>hc u (Jh _ hu))
  rcases hc v (by simp) with hv|⟨kk,n,xs,rfl⟩
  ·have hna:∀a b c,v≠.arr a b c:=fun a b c e=>by subst e;simp [AV.isCell] at hv
   simp_all [eqC,Zav]
  ·unfold eqC
   simp_all
theorem Qa {k:Nat} {τ:Ren} {n:Nat} {f f':Nat->List AV} (h:∀i,i<n->f' i=f i) (hp:∀i,i<n->YA (f i)=true) (hc:∀i,i<n->∀v∈f i,v.isCell=true\/∃k n xs,v=.arr k n xs):Z5 k τ n f f':=
 ⟨fun i hi=>by rw [h i hi];exact Z1b (hp i hi) trivial (hc i hi)⟩
theorem YI {a b:Nat} (h:a<b):Nat.blt a b=true:=by rw [Nat.blt_eq];exact h
theorem XL {a b:Nat} (h:Nat.blt a b=true):a<b:=by rw [Nat.blt_eq] at h;exact h
theorem Z9f {n i:Nat} {f g:Nat->List AV} (h:i<n):X8 n f g i=f i:=by unfold X8;rw [YI h]
theorem Z9g {n i:Nat} {f g:Nat->List AV} (h:n<=i):X8 n f g i=g (i-n):=by
 unfold X8
 have:Nat.blt i n=false:=by
  cases hq:Nat.blt i n with
  | false=>rfl
  | true=>have:=XL hq;omega
 rw [this]
theorem Y8.vints0 {P:Program} {f:FuncId} {k:IntKind} {v:AV} {nx:Nat} {bs:List (Nat×Blk)} (h1:Y8 P f [.nilslice] v nx bs) (h2:Y8 P f [.fslice] v nx bs):Y8 P f [.vints k [] 0] v nx bs:=by
 intro E w rs he hr
 cases hr with
 | cons v r vs rs hv ht=>cases ht with
  | nil=>cases hv with
   | vintsNil k xs len _ _=>exact h1 E w _ he (.cons _ _ _ _ .nilslice .nil)
   | vints k xs len a cap _ _ _=>exact h2 E w _ he (.cons _ _ _ _ (.fslice a cap) .nil)
end Go.Tk
namespace Go.Tk
open IntKind (i64 u8 u32 u64 wrap)
mutual
theorem QU {mv:Option Nat} {h:Z6}:∀(d:Nat) (t:Bool) (v:AV) (K K':AV->Prop),UB mv h t d v K->(∀a,K a->K' a)->UB mv h t d v K'
 | 0,t,v,K,K',hl,hK=>by unfold UB at hl;simp_all
 | d+1,t,v,K,K',hl,hK=>by
  unfold UB at hl⊢
  split at hl
  all_goals try exact hK _ hl
  all_goals try exact hl.elim
  ·split at hl
   ·split at hl
    ·exact hl.elim
    ·exact hK _ hl
   ·split at hl
    ·split at hl
     ·exact XM _ _ _ _ _ hl fun _ h=>hK _ h
     ·exact hl.elim
    ·split at hl
     ·obtain ⟨h1,h2⟩:=Zd hl
      refine UU h1 ?_
      split at h2
      ·exact XM _ _ _ _ _ h2 fun _ h=>hK _ h
      ·exact h2.elim
     ·exact hl.elim
    ·exact hl.elim
  ·split at hl
   ·split at hl
    ·exact hl.elim
    ·exact hK _ hl
   ·split at hl
    ·split at hl
     ·obtain ⟨h1,h2⟩:=Zd hl
      exact UU h1 (hK _ h2)
     ·exact hl.elim
    ·split at hl
     ·obtain ⟨h1,h2,h3⟩:=Zd hl
      exact UU h1 ⟨h2,hK _ h3⟩
     ·exact hl.elim
    ·split at hl
     ·split at hl
      ·split at hl
       ·split at hl
        ·obtain ⟨h1,h2⟩:=Zd hl
         exact UU h1 (hK _ h2)
        ·obtain ⟨h1,h2⟩:=Zd hl
         exact UU h1 (hK _ h2)
        ·exact hl.elim
       ·exact hl.elim
      ·split at hl
       ·refine XM _ _ _ _ _ hl fun _ h=> ?_
        split at h
        ·exact hK _ h
        ·exact h.elim
       ·exact hl.elim
     ·exact hl.elim
    ·exact hl.elim
  ·exact YJ _ _ _ _ _ hl fun _ h=>YJ _ _ _ _ _ h fun _ h=>hK _ h
  ·exact QU _ _ _ _ _ hl fun _ h=>hK _ h
  ·exact XM _ _ _ _ _ hl fun _ h=>hK _ h
  ·exact YJ _ _ _ _ _ hl fun _ h=>hK _ h
theorem XM {mv:Option Nat} {h:Z6}:∀(d:Nat) (t:Bool) (l:List AV) (K K':List AV->Prop),Vr mv h t d l K->(∀a,K a->K' a)->Vr mv h t d l K'
 | 0,t,l,K,K',hl,hK=>by unfold Vr at hl;simp_all
 | d+1,t,l,K,K',hl,hK=>by
  unfold Vr at hl⊢
  split at hl
  ·exact hK _ hl
  ·exact XM _ _ _ _ _ hl fun _ h=>hK _ h
  ·refine QU _ _ _ _ _ hl fun _ h=> ?_
   split at h
   ·exact XM _ _ _ _ _ h fun _ h=>hK _ h
   ·exact h.elim
theorem YJ {mv:Option Nat} {h:Z6}:∀(d:Nat) (t:Bool) (l:List AV) (K K':List AV->Prop),X1 mv h t d l K->(∀a,K a->K' a)->X1 mv h t d l K'
 | 0,t,l,K,K',hl,hK=>by unfold X1 at hl;simp_all
 | d+1,t,l,K,K',hl,hK=>by
  unfold X1 at hl⊢
  split at hl
  ·exact hK _ hl
  ·exact QU _ _ _ _ _ hl fun _ h=>YJ _ _ _ _ _ h fun _ h=>hK _ h
end
end Go.Tk
end
section
namespace Go.Tk
open IntKind (i64 u8 u32 u64 wrap)
variable {E:Env}
theorem Zc.rowsC {esz n:Nat} {f f':Nat->List AV} {r:Value} (h:Zc E (.vrows esz n f n) r) (hf:∀i,i<n->f i=f' i):Zc E (.vrows esz n f' n) r:=by
 cases h with
 | vrowsNil esz n f len h1 h2=>exact .vrowsNil _ _ _ _ h1 h2
 | vrows esz n f len a cap g h1 h2 hc hl hi=>exact .vrows _ _ _ _ a cap g h1 h2 (fun i h=>by simp_all) hl hi
structure TxS where
 num:Int
 N:Nat
 ins:Nat->InS
 M:Nat
 outs:Nat->Z8c
structure TxS.Ok (t:TxS):Prop where
 n:t.N<900000000000
 m:t.M<900000000000
 ins:∀i,i<t.N->(t.ins i).Ok
 outs:∀i,i<t.M->(t.outs i).Ok
theorem Y8.conv {P:Program} {f:FuncId} {args args₀:List AV} {v:AV} {nx:Nat} {bs:List (Nat×Blk)} (h:Y8 P f args₀ v nx bs) (hc:∀E r,Zt E args r->Zt E args₀ r):Y8 P f args v nx bs:=
 fun E w rs he hr=>h E w rs he (hc E rs hr)
theorem Zt.head {v v':AV} {r l:List AV} {rs:List Value} (h:Zt E (v::l) rs) (hv:∀c,Zc E v c->Zc E v' c) (ht:∀cs,Zt E l cs->Zt E r cs):Zt E (v'::r) rs:=by
 cases h with
 | cons v c vs cs h t=>exact .cons _ _ _ _ (hv c h) (ht cs t)
end Go.Tk
end
section
namespace Go.Tk
open IntKind (i64 u8 u32 u64 wrap)
def Z6E (k:Nat) (τ:Ren) (y x:Nat):Ren:=match Nat.blt y k with
 | true=>τ
 | false=>match Z7Z τ y with
  | some _=>τ
  | none=>(y,x)::τ
mutual
def ZgS (k:Nat) (τ:Ren):AV->AV->Ren
 | .ptr (some q),v=>match v with|.ptr (some p)=>Z6E k τ q.blk p.blk|_=>τ
 | .nslice q _ _ _,v=>match v with|.nslice p _ _ _=>Z6E k τ q.blk p.blk|_=>τ
 | .map (some y),v=>match v with|.map (some x)=>Z6E k τ y x|_=>τ
 | .yield y,v=>match v with|.yield x=>Z6E k τ y x|_=>τ
 | .func _ fs cs,v=>match v with|.func _ fs' cs'=>Z1c k (Z1c k τ fs fs') cs cs'|_=>τ
 | .iface _ u,v=>match v with|.iface _ u'=>ZgS k τ u u'|_=>τ
 | .agg cs,v=>match v with|.agg cs'=>Z1c k τ cs cs'|_=>τ
 | .tuple cs,v=>match v with|.tuple cs'=>Z1c k τ cs cs'|_=>τ
 | _,_=>τ
def Z1c (k:Nat) (τ:Ren):List AV->List AV->Ren
 | [],_=>τ
 | v::r,l=>match l with|v'::r'=>Z1c k (ZgS k τ v v') r r'|[]=>τ
end
def ZkI (k:Nat) (τ:Ren):Blk->Blk->Ren
 | .flat cs,B=>match B with|.flat cs'=>Z1c k τ cs cs'|_=>τ
 | .map es,B=>match B with|.map es'=>Z1c k (Z1c k τ (es.map (·.1)) (es'.map (·.1))) (es.map (·.2)) (es'.map (·.2))|_=>τ
 | .pmap es,B=>match B with|.pmap es'=>Z1c k (Z1c k τ (es.map (·.1)) (es'.map (·.1))) (es.map (·.2)) (es'.map (·.2))|_=>τ
 | .git m y _,B=>match B with|.git m' y' _=>Z6E k (Z6E k τ m m') y y'|_=>τ
 | .froz C y,B=>match B with|.froz C' y'=>Z6E k (infZ C C') y y'|_=>τ
 | _,_=>τ
where infZ (C C':Blk):Ren:=match C with
 | .map es=>match C' with|.map es'=>Z1c k (Z1c k τ (es.map (·.1)) (es'.map (·.1))) (es.map (·.2)) (es'.map (·.2))|_=>τ
 | _=>τ
def Zib (k:Nat) (t:ZM):ZM->Ren->Ren
 | [],τ=>τ
 | (x,v)::r,τ=>Zib k t r (match ZD t x with|some u=>ZgS k τ v u|none=>τ)
def ZgT (k:Nat):List Ua->List Ua->Ren->Ren
 | .call _ a::r,l,τ=>match l with|.call _ b::r'=>ZgT k r r' (Z1c k τ a b)|_=>τ
 | .mark y::r,l,τ=>match l with|.mark x::r'=>ZgT k r r' (Z6E k τ y x)|_=>τ
 | [],_,τ=>τ
def Zer (k:Nat) (bs:List (Nat×Blk)):List (Nat×Blk)->Ren->Ren
 | [],τ=>τ
 | (y,B)::r,τ=>Zer k bs r (match rn k τ y with
  | some x=>match ZC bs x with|some C=>ZkI k τ B C|none=>τ
  | none=>τ)
def ZkJ (k:Nat) (s₂ s:St):Ren:=Zer k s.h.bs s₂.h.bs (Zer k s.h.bs s₂.h.bs (Zer k s.h.bs s₂.h.bs (ZgT k s₂.d s.d (Zib k s.t s₂.t []))))
def WK (k:Nat) (s₂ s:St) (Z:Prop):Prop:=Uy k (ZkJ k s₂ s) s₂ s Z
theorem Yv {k:Nat} {s₂ s:St} {Z:Prop} (hl:WK k s₂ s Z):Z/\Z0o k s s₂:=Xr hl
def Y4 (k:Nat) (o:Out) (nx:Nat) (bs:List (Nat×Blk)):KO:=fun o' h=>match o with
 | .ret v=>match o' with
  | .ret u=>WK k ⟨1,[(0,v)],⟨nx,bs⟩,[]⟩ ⟨1,[(0,u)],h,[]⟩ True
  | .panic _=>False
 | .panic v=>match o' with
  | .panic u=>WK k ⟨1,[(0,v)],⟨nx,bs⟩,[]⟩ ⟨1,[(0,u)],h,[]⟩ True
  | .ret _=>False
theorem Spec.evM {G:Zg} (hG:G.Ok) {n:Nat} {f:FuncId} {args:List AV} {h0:Z6} {o:Out} {nx:Nat} {bs:List (Nat×Blk)} (h:evF G n f args h0 (Y4 h0.next o nx bs)):Spec G.P f args h0 o nx bs:=by
 intro E w rs he hl
 refine (Z0Z hG h E w rs he hl).mono ?_
 rintro e w' ⟨E',o',h',hK,hev,hor⟩
 unfold Y4 at hK
 cases o with
 | ret v=>
  cases hor with
  | ret u r hr=>
   obtain ⟨E₂,h1,h2⟩:=Z9d rfl hK he hev hr
   exact ⟨E₂,h1,.ret _ _ h2⟩
  | panic u r hr=>simp_all
 | panic v=>
  cases hor with
  | panic u r hr=>
   obtain ⟨E₂,h1,h2⟩:=Z9d rfl hK he hev hr
   exact ⟨E₂,h1,.panic _ _ h2⟩
  | ret u r hr=>simp_all
theorem Spec.pure {P:Program} {f:FuncId} {args:List AV} {v:AV} {nx:Nat} {bs:List (Nat×Blk)} (h:Spec P f args ⟨0,[]⟩ (.ret v) nx bs):Y8 P f args v nx bs:=by
 intro E w rs he hl
 refine (h E w rs he hl).mono ?_
 rintro e w' ⟨E',hev,hor⟩
 cases hor with
 | ret v r hr=>grind
theorem Y8.evM {G:Zg} (hG:G.Ok) {n:Nat} {f:FuncId} {args:List AV} {v:AV} {nx:Nat} {bs:List (Nat×Blk)} (h:evF G n f args ⟨0,[]⟩ (Y4 0 (.ret v) nx bs)):Y8 G.P f args v nx bs:=(Spec.evM hG h).pure
def goM (k:Nat) (S0:St) (C:Prop) (ends:KE->Prop):Nat->St->KE->Prop:=fun k' s X=>match Nat.beq k' k with
 | true=>WK k S0 s (C/\ends X)
 | false=>False
def rdM (k id l:Nat) (S1 En Rn Jn:St) (go ex re jm:Prop):KE:=fun e s=>match e with
 | .normal=>WK k S1 s go
 | .exit x=>(match Nat.beq x id with|true=>WK k En s ex|false=>False)
 | .ret=>WK k Rn s re
 | .goto x=>(match Nat.beq x l with|true=>WK k Jn s jm|false=>False)
 | .panic _=>False
theorem Zg.withGoM {G:Zg} (hG:G.Ok) {f:FuncId} {id k N n l:Nat} {S En Rn Jn:Nat->St} {S0:St} {C:Prop} {go ex re jm:Nat->Prop} (h1:W2 G.P f id=true) (hC:C->S 0=S0/\
   ∀i,i<=n->(∀j,j<i->go j)->ZA G N f id k (S i) (rdM k id l (S (i+1)) (En i) (Rn i) (Jn i) (go i/\i<n) (ex i) (re i) (jm i))):
  (G.withL f id (goM k S0 C (Yn id n l go ex re jm En Rn Jn))).Ok:=by
 refine Zg.withL_ok hG h1 ?_
 intro k' s X hl
 unfold goM at hl
 split at hl
 ·rename_i hk
  have:=J0 hk
  subst this
  obtain ⟨⟨hc,hX⟩,hw⟩:=Yv hl
  obtain ⟨e0,hr⟩:=hC hc
  refine ⟨{ t:Nat//t<=n/\∀j,j<t->go j},fun t=>n-t.1,fun t=>S t.1,⟨0,JI _,fun j hj=>by omega⟩,N,by simp_all, ?_⟩
  rintro ⟨t,ht,hgo⟩
  refine ⟨_,hr t ht hgo, ?_⟩
  intro e s' hY
  unfold rdM at hY
  split at hY
  ·obtain ⟨⟨hg,hlt⟩,hw'⟩:=Yv hY
   refine ⟨⟨t+1,hlt,fun j hj=> ?_⟩,by show n-(t+1)<n-t;omega,hw'⟩
   grind
  ·split at hY
   ·rename_i hi
    have:=J0 hi
    subst this
    obtain ⟨hex,hw'⟩:=Yv hY
    exact ⟨_,hw',(hX t ht hgo).1 hex⟩
   simp_all
  ·obtain ⟨hre,hw'⟩:=Yv hY
   exact ⟨_,hw',(hX t ht hgo).2.1 hre⟩
  ·split at hY
   ·rename_i hi
    have:=J0 hi
    subst this
    obtain ⟨hjm,hw'⟩:=Yv hY
    exact ⟨_,hw',(hX t ht hgo).2.2 hjm⟩
   ·exact hY.elim
  ·exact hY.elim
 ·exact hl.elim
end Go.Tk
namespace Go.Tk
open IntKind (i64 u8 u32 u64 wrap)
theorem Zg.withL_join {G H:Zg} (hG:G.Ok) (hP:G.P=H.P) {f:FuncId} {id:Nat} {S:Nat->St->KE->Prop} (h:(H.withL f id S).Ok):(G.withL f id S).Ok where
 draw:=hG.draw
 psumm:=hG.psumm
 fsumm:=hG.fsumm
 lsumm:=fun f' id' S' fn c body hS hf hb hm k s X hs=>by
  simp only [Zg.withL] at hS
  split at hS
  ·have:=h.lsumm f' id' S' fn c body
   simp_all [Zg.withL]
  ·exact hG.lsumm f' id' S' fn c body hS hf hb hm k s X hs
end Go.Tk
end
section
namespace Go.Tk
open IntKind (i64 u8 u32 u64 wrap)
variable {args:List AV} {W:Int->LI} {xs:LI} {G:Zg} {K R:AV->Prop}
def b8 (n k:Int):Int:=u8.wrap (Zo .i64 n k)
@[irreducible] def Zp (n:Int):LI:=
 if n<253 then [u8.wrap n] else if n<65536 then [253,b8 n 8,b8 n 0] else if n<4294967296 then [254,b8 n 24,b8 n 16,b8 n 8,b8 n 0]
 else [255,b8 n 56,b8 n 48,b8 n 40,b8 n 32,b8 n 24,b8 n 16,b8 n 8,b8 n 0]
theorem UG (n:Int):1<=(Zp n).length/\(Zp n).length<=9:=by
 unfold Zp
 split
 ·simp
 ·split
  ·simp
  ·split<;>simp
theorem Z6F {n:Int} (h:n<253):Zp n=[u8.wrap n]:=by unfold Zp;rw [if_pos h]
theorem Z9h {n:Int} (h:¬n<253) (h2:n<65536):Zp n=[253,b8 n 8,b8 n 0]:=by unfold Zp;rw [if_neg h,if_pos h2]
theorem Z9i {n:Int} (h:¬n<253) (h2:¬n<65536) (h3:n<4294967296):Zp n=[254,b8 n 24,b8 n 16,b8 n 8,b8 n 0]:=by unfold Zp;rw [if_neg h,if_neg h2,if_pos h3]
theorem Z9j {n:Int} (h:¬n<253) (h2:¬n<65536) (h3:¬n<4294967296):Zp n=[255,b8 n 56,b8 n 48,b8 n 40,b8 n 32,b8 n 24,b8 n 16,b8 n 8,b8 n 0]:=by unfold Zp;rw [if_neg h,if_neg h2,if_neg h3]
theorem Zic (xs ys:LI) (N L s lo:Nat) (n:Int) (hN:xs.length=N) (hB:N<90000000000000) (hy:ys=Zp n) (hL:L=(xs++ys).length):
  evF G0 20 91 [.nslice ⟨0,0,s,0,0⟩ 1 N lo,.int .i64 n] ⟨1,[(0,.ints .u8 xs)]⟩ (Y4 1 (.ret (.nslice ⟨1,0,0,0,0⟩ 1 L L)) 2 [(1,.ints .u8 (xs++ys))]):=by
 refine @Eq.mpr _ (let b:=decide (u8=u8/\xs.length=N);let K:=xs++[wrap u8 n];let m:=K.length;let a:=xs++ys;let y:=xs++[(253:Int)];let e:=y.length;let d:=[wrap u8 (Zo i64 n 8)];let x:=y++d;let c:=x.length;let w:=[wrap u8 (Zo i64 n 0)];let S:=x++w;let v:=S.length;let R:=xs++[(254:Int)];let u:=R.length;let Q:=[wrap u8 (Zo i64 n 24)];let P:=R++Q;let t:=P.length;let O:=[wrap u8 (Zo i64 n 16)];let M:=P++O;let s:=M.length;let J:=M++d;let r:=J.length;let I:=J++w;let q:=I.length;let H:=xs++[(255:Int)];let p:=H.length;let G:=H++[wrap u8 (Zo i64 n 56)];let o:=G.length;let F:=G++[wrap u8 (Zo i64 n 48)];let l:=F.length;let E:=F++[wrap u8 (Zo i64 n 40)];let k:=E.length;let D:=E++[wrap u8 (Zo i64 n 32)];let j:=D.length;let C:=D++Q;let i:=C.length;let B:=C++O;let h:=B.length;let A:=B++d;let g:=A.length;let z:=A++w;let f:=z.length;
 Z8 (decide (n<253)) (Z0 b (Z4 (m*1<=140737488355328) (Z4 (m=L) (Z4 (L<=m) (K=a/\True))))) (Z8 (decide (n<65536)) (Z0 b (Z4 (e*1<=140737488355328) (Z4 (u8=u8/\e=e) (Z4 (c*1<=140737488355328) (Z4 (u8=u8/\c=c) (Z4 (v*1<=140737488355328) (Z4 (v=L) (Z4 (L<=v) (S=a/\True))))))))) (Z8 (decide (n<4294967296)) (Z0 b (Z4 (u*1<=140737488355328) (Z4 (u8=u8/\u=u) (Z4 (t*1<=140737488355328) (Z4 (u8=u8/\t=t) (Z4 (s*1<=140737488355328) (Z4 (u8=u8/\s=s) (Z4 (r*1<=140737488355328) (Z4 (u8=u8/\r=r) (Z4 (q*1<=140737488355328) (Z4 (q=L) (Z4 (L<=q) (I=a/\True))))))))))))) (Z0 b (Z4 (p*1<=140737488355328) (Z4 (u8=u8/\p=p) (Z4 (o*1<=140737488355328) (Z4 (u8=u8/\o=o) (Z4 (l*1<=140737488355328) (Z4 (u8=u8/\l=l) (Z4 (k*1<=140737488355328) (Z4 (u8=u8/\k=k) (Z4 (j*1<=140737488355328) (Z4 (u8=u8/\j=j) (Z4 (i*1<=140737488355328) (Z4 (u8=u8/\i=i) (Z4 (h*1<=140737488355328) (Z4 (u8=u8/\h=h) (Z4 (g*1<=140737488355328) (Z4 (u8=u8/\g=g) (Z4 (f*1<=140737488355328) (Z4 (f=L) (Z4 (L<=f) (z=a/\True)))))))))))))))))))))))) (by kernel_rfl) ?_
 conv=>zeta
 try simp only [Zi9]
 try simp only [Zia]
 try simp only [vcC]
 subst hy hL hN
 refine ⟨fun h1=> ?_,fun h1=>⟨fun h2=> ?_,fun h2=>⟨fun h3=> ?_,fun h3=> ?_⟩⟩⟩
 ·rw [Z6F h1]
  simp only [J3,Jt,JZ]
  and_intros<;>first|trivial|omega
 ·rw [Z9h h1 h2]
  simp only [J3,Jt,JZ]
  and_intros<;>first|trivial|omega|simp [b8]
 ·rw [Z9i h1 h2 h3]
  simp only [J3,Jt,JZ]
  and_intros<;>first|trivial|omega|simp [b8]
 ·rw [Z9j h1 h2 h3]
  simp only [J3,Jt,JZ]
  and_intros<;>first|trivial|omega|simp [b8]
theorem Zid (ys:LI) (L:Nat) (n:Int) (hy:ys=Zp n) (hL:L=ys.length):
  evF G0 20 91 [.nilslice,.int .i64 n] ⟨0,[]⟩ (Y4 0 (.ret (.nslice ⟨0,0,0,0,0⟩ 1 L L)) 1 [(0,.ints .u8 ys)]):=by
 refine @Eq.mpr _ (let b:=[wrap u8 (Zo i64 n 8),wrap u8 (Zo i64 n 0)];let a:=wrap u8 (Zo i64 n 24)::wrap u8 (Zo i64 n 16)::b;
 Z8 (decide (n<253)) (Z4 (1=L) (Z4 (L<=1) ([wrap u8 n]=ys/\True))) (Z8 (decide (n<65536)) (Z4 (3=L) (Z4 (L<=3) ((253:Int)::b=ys/\True))) (Z8 (decide (n<4294967296)) (Z4 (5=L) (Z4 (L<=5) ((254:Int)::a=ys/\True))) (Z4 (9=L) (Z4 (L<=9) ((255:Int)::wrap u8 (Zo i64 n 56)::wrap u8 (Zo i64 n 48)::wrap u8 (Zo i64 n 40)::wrap u8 (Zo i64 n 32)::a=ys/\True)))))) (by kernel_rfl) ?_
 conv=>zeta
 try simp only [Zi9]
 try simp only [Zia]
 try simp only [vcC]
 subst hy hL
 refine ⟨fun h1=> ?_,fun h1=>⟨fun h2=> ?_,fun h2=>⟨fun h3=> ?_,fun h3=> ?_⟩⟩⟩
 ·rw [Z6F h1];simp
 ·rw [Z9h h1 h2];simp [b8]
 ·rw [Z9i h1 h2 h3];simp [b8]
 ·rw [Z9j h1 h2 h3];simp [b8]
def ZgU (W:Int->LI):ZJ:=fun args h K=>match args with
 | [.nslice ⟨b,0,_,0,0⟩ 1 _ _,.int .i64 _]=>frA [b] h 20 args fun Bs a=>match Bs,a with
  | [.ints .u8 xs],[.nslice ⟨0,0,_,0,0⟩ 1 len _,.int .i64 n]=>Z4 (xs.length=len/\len<90000000000000) (K (.ret (.nslice ⟨h.next,0,0,0,0⟩ 1 (xs++W n).length (xs++W n).length)) ⟨h.next+1,(h.next,.ints .u8 (xs++W n))::ZK h.bs b⟩)
  | _,_=>False
 | [.nilslice,.int .i64 n]=>K (.ret (.nslice ⟨h.next,0,0,0,0⟩ 1 (W n).length (W n).length)) ⟨h.next+1,(h.next,.ints .u8 (W n))::h.bs⟩
 | _=>False
theorem Zes (args:List AV) (h:Z6) (K:KO) (hl:ZgU Zp args h K):Zh PP 91 args h K:=by
 unfold ZgU at hl
 split at hl
 ·refine Spec.fsumm hl fun Bs a hlen hK0=> ?_
  split at hK0
  ·obtain ⟨⟨h1,h2⟩,hK⟩:=Zd hK0
   exact ⟨_,_,_,_,_,.evM Zv (Zic _ _ _ _ _ _ _ h1 h2 rfl rfl),by simp,.ret _ _ rfl,.cons _ _ _ _ _ _ rfl (.ints _ _) .nil,hK⟩
  simp_all
 ·exact (Y8.evM Zv (Zid _ _ _ rfl rfl)).calls (fun E w rs he hr=>by
   cases hr with
   | cons v r vs rs h1 h2=>cases h2 with
    | cons v r vs rs h2 h3=>cases h3;exact .cons _ _ _ _ (h1.plain rfl) (.cons _ _ _ _ (h2.plain rfl) .nil)) rfl ⟨Ks,.ints _ _,trivial⟩ hl
 simp_all
theorem Zca (x:Int) (xs:LI) (N:Nat) (hN:(x::xs).length=N) (hB:N<90000000000000):
  evF G0 20 82 [.vints .u8 (x::xs) N] ⟨0,[]⟩ (Y4 0 (.ret (.nslice ⟨0,0,0,0,0⟩ 1 N N)) 1 [(0,.ints .u8 (x::xs))]):=by
 refine @Eq.mpr _ (let b:=[]++List.take N (x::xs);let a:=b.length;
 Z4 (a*1<=140737488355328) (Z4 (a=N) (Z4 (N<=a) (b=x::xs/\True)))) (by kernel_rfl) ?_
 conv=>zeta
 try simp only [vcA]
 try simp only [vcB]
 try simp only [vcC]
 subst hN
 simp only [Kl,Jr]
 and_intros<;>first|trivial|omega
theorem Zcb (u:Unit) :
  evF G0 20 82 [.nilslice] ⟨0,[]⟩ (Y4 0 (.ret (.nslice ⟨0,0,0,0,0⟩ 1 0 0)) 1 [(0,.ints .u8 [])]):=by
 refine @Eq.mpr _ (([]:LI)=[]/\True) (by kernel_rfl) ?_
 trivial
theorem Zcc (u:Unit) :
  evF G0 20 82 [.fslice] ⟨0,[]⟩ (Y4 0 (.ret (.nslice ⟨0,0,0,0,0⟩ 1 0 0)) 1 [(0,.ints .u8 [])]):=by
 refine @Eq.mpr _ (([]:LI)=[]/\True) (by kernel_rfl) ?_
 trivial
theorem Z6G (xs:LI) (N:Nat) (hN:xs.length=N) (hB:N<90000000000000):Y8 PP 82 [.vints .u8 xs N] (.nslice ⟨0,0,0,0,0⟩ 1 N N) 1 [(0,.ints .u8 xs)]:=by
 cases xs with
 | nil=>subst hN;exact Y8.vints0 (.evM Zv (Zcb ())) (.evM Zv (Zcc ()))
 | cons x r=>exact .evM Zv (Zca x r N hN hB)
def Z2a:ZJ:=fun args h K=>X1 none h true 20 args fun a=>match a with
 | [.vints .u8 xs n]=>Z4 (xs.length=n/\n<90000000000000) (K (.ret (.nslice ⟨h.next,0,0,0,0⟩ 1 n n)) ⟨h.next+1,(h.next,.ints .u8 xs)::h.bs⟩)
 | _=>False
theorem QV (args:List AV) (h:Z6) (K:KO) (hl:Z2a args h K):Zh PP 82 args h K:=by
 refine Y8.fsumm (d:=20) (YJ _ _ _ _ _ hl fun a ha=> ?_)
 split at ha
 ·obtain ⟨⟨h1,h2⟩,hK⟩:=Zd ha
  exact ⟨_,_,_,_,Z6G _ _ h1 h2,rfl,⟨Ks,.ints _ _,trivial⟩,hK⟩
 simp_all
theorem Spec.conv {P:Program} {f:FuncId} {args₀:List AV} {h0:Z6} {o:Out} {nx:Nat} {bs:List (Nat×Blk)} (h:Spec P f args₀ h0 o nx bs) (hc:∀E r,Zt E args r->Zt E args₀ r):Spec P f args h0 o nx bs:=
 fun E w rs he hr=>h E w rs he (hc E rs hr)
noncomputable def Zcd (W:Int->LI):Zg:=G0.withF 91 (ZgU W)
theorem Z2b:(Zcd Zp).Ok:=Zg.withF_ok Zv Zes
theorem ZgV (W:Int->LI) (T:Int) (xs ys:LI) (N L lo:Nat) (n:Int) (hT:T=4611686018427387904) (hN:xs.length=N) (hB:N<90000000000000) (hn:0<=n/\n<=T) (hy:ys=xs++W n) (hL:L=ys.length):
  evF (Zcd W) 20 50 [.ptr (some ⟨0,0,0,0,0⟩),.vints .i64 [n] 1] ⟨2,[(0,.flat [.nslice ⟨1,0,0,0,0⟩ 1 N lo,.bool true]),(1,.ints .u8 xs)]⟩ (Y4 2 (.ret (.int .i64 0)) 3 [(0,.flat [.nslice ⟨2,0,0,0,0⟩ 1 L L,.bool true]),(2,.ints .u8 ys)]):=by
 refine @Eq.mpr _ (let b:=xs++W n;let a:=b.length;
 Z8 (decide (n<0)) False (Z8 (decide (n>4611686018427387904)) False (Z4 (xs.length=N/\N<90000000000000) (Z4 (a=L) (Z4 (L<=a) (b=ys/\True)))))) (by kernel_rfl) ?_
 conv=>zeta
 try simp only [vcA]
 try simp only [vcB]
 try simp only [vcC]
 subst hT hN hy hL
 exact ⟨by omega,by omega,⟨rfl,hB⟩,rfl,J1 _,rfl⟩
theorem ZgW (W:Int->LI) (T:Int) (xs ys:LI) (N L lo:Nat) (n m:Int) (hT:T=4611686018427387904) (hW:W=Zp) (hN:xs.length=N) (hB:N<80000000000000) (hn:0<=n/\n<=T) (hm:0<=m/\m<=T) (hy:ys=xs++W n++W m) (hL:L=ys.length):
  evF (Zcd W) 20 50 [.ptr (some ⟨0,0,0,0,0⟩),.vints .i64 [n,m] 2] ⟨2,[(0,.flat [.nslice ⟨1,0,0,0,0⟩ 1 N lo,.bool true]),(1,.ints .u8 xs)]⟩ (Y4 2 (.ret (.int .i64 0)) 3 [(0,.flat [.nslice ⟨2,0,0,0,0⟩ 1 L L,.bool true]),(2,.ints .u8 ys)]):=by
 refine @Eq.mpr _ (let d:=xs++W n;let a:=d.length;let c:=d++W m;let b:=c.length;
 Z8 (decide (n<0)) False (Z8 (decide (n>4611686018427387904)) False (Z8 (decide (m<0)) False (Z8 (decide (m>4611686018427387904)) False (Z4 (xs.length=N/\N<90000000000000) (Z4 (a=a/\a<90000000000000) (Z4 (b=L) (Z4 (L<=b) (c=ys/\True))))))))) (by kernel_rfl) ?_
 conv=>zeta
 try simp only [vcA]
 try simp only [vcB]
 try simp only [vcC]
 subst hT hN hy hL hW
 have:=UG n
 refine ⟨by omega,by omega,by omega,by omega,⟨rfl,by omega⟩, ?_⟩
 simp only [J3]
 and_intros<;>first|trivial|omega
def Z1F (n c:Int):Int:=bOr .i64 (Zx .i64 n 8) c
theorem ZgX:Zx .i64 0 8=0:=by decide
def goN:Nat->LI->Nat->Int->Option Int
 | 0,_,_,n=>some n
 | m+1,xs,k,n=>if n>36028797018963968 then none else goN m xs (k+1) (Z1F n (i64.wrap (xs.getD k 0)))
def X2 (c:Int):Nat:=if c=253 then 2 else if c=254 then 4 else if c=255 then 8 else 0
@[irreducible] def Zy (W:Int->LI) (xs:LI):Int×Int:=
 if xs.length=0 then (0,0)
 else if X2 (xs.getD 0 0)=0 then (i64.wrap (xs.getD 0 0),1)
 else if xs.length<=X2 (xs.getD 0 0) then (0,0)
 else match goN (X2 (xs.getD 0 0)) (xs.drop 1) 0 0 with
  | none=>(0, -1)
  | some n=>if n>4611686018427387904 then (0, -1) else if (W n).length=1+X2 (xs.getD 0 0) then (n,1+X2 (xs.getD 0 0)) else (0, -1)
theorem Z3n (h:xs.length=0):Zy W xs=(0,0):=by unfold Zy;rw [if_pos h]
theorem QW (h:xs.length≠0) (hm:X2 (xs.getD 0 0)=0):Zy W xs=(i64.wrap (xs.getD 0 0),1):=by unfold Zy;rw [if_neg h,if_pos hm]
theorem V0 {m:Nat} (h:xs.length≠0) (hm:X2 (xs.getD 0 0)=m) (hm0:m≠0) (hl:xs.length<=m):Zy W xs=(0,0):=by unfold Zy;rw [if_neg h,if_neg (by omega),if_pos (by omega)]
theorem Vy {m:Nat} (h:xs.length≠0) (hm:X2 (xs.getD 0 0)=m) (hm0:m≠0) (hl:m<xs.length):Zy W xs=match goN m (xs.drop 1) 0 0 with
  | none=>(0, -1)
  | some n=>if n>4611686018427387904 then (0, -1) else if (W n).length=1+m then (n,1+m) else (0, -1):=by
 unfold Zy;rw [if_neg h,if_neg (by omega),if_neg (by omega),hm]
theorem Zce {c:Int} (h:c=253):X2 c=2:=by unfold X2;rw [if_pos h]
theorem Zcf {c:Int} (h:¬c=253) (h2:c=254):X2 c=4:=by unfold X2;rw [if_neg h,if_pos h2]
theorem Zcg {c:Int} (h:¬c=253) (h2:¬c=254) (h3:c=255):X2 c=8:=by unfold X2;rw [if_neg h,if_neg h2,if_pos h3]
theorem Zg2 {c:Int} (h:¬c=253) (h2:¬c=254) (h3:¬c=255):X2 c=0:=by unfold X2;rw [if_neg h,if_neg h2,if_neg h3]
theorem Zie:¬((0:Int)>36028797018963968):=by decide
theorem Zet (W:Int->LI) (xs:LI) (N:Nat) (F:Int×Int) (hN:xs.length=N) (hF:F=Zy W xs):
  evF (Zcd W) 20 143 [.vints .u8 xs N] ⟨0,[]⟩ (Y4 0 (.ret (.tuple [.int .i64 F.1,.int .i64 F.2])) 0 []):=by
 refine @Eq.mpr _ (let s:=decide (0=F.fst);let f:=Z0 s (Z4 (0=F.snd) True);let l:=decide ((0:Int)<=0/\0<(↑N:Int));let e:=List.getD xs 0 0;let i:=decide (N<=xs.length);let h:=(↑(xs.length):Int);let b:=Z1p (some 1) xs;let k:=bOr i64 0 (wrap i64 (List.getD b 0 0));let g:=decide (k>36028797018963968);let a:=Z0 s (Z4 (-1=F.snd) True);let d:=bOr i64 (Zx i64 k 8) (wrap i64 (List.getD b 1 0));let r:=decide (d>36028797018963968);let q:=bOr i64 (Zx i64 d 8) (wrap i64 (List.getD b 2 0));let p:=decide (q>36028797018963968);let c:=bOr i64 (Zx i64 q 8) (wrap i64 (List.getD b 3 0));let o:=bOr i64 (Zx i64 c 8) (wrap i64 (List.getD b 4 0));let n:=bOr i64 (Zx i64 o 8) (wrap i64 (List.getD b 5 0));let m:=bOr i64 (Zx i64 n 8) (wrap i64 (List.getD b 6 0));let j:=bOr i64 (Zx i64 m 8) (wrap i64 (List.getD b 7 0));
 Z8 ((↑N:Int)==0) f (Z0 l (Z8 (decide (e=253)) (Z8 (decide ((↑N:Int)<=2)) f (Z0 i (Z4 ((0:Int)<=1/\(1:Int)<=3/\3<=h) (Z8 g a (Z8 (decide (d>4611686018427387904)) a (Z8 ((↑(List.length (W d)):Int) !=3) a (Z4 (d=F.fst) (Z4 (3=F.snd) True)))))))) (Z8 (decide (e=254)) (Z8 (decide ((↑N:Int)<=4)) f (Z0 i (Z4 ((0:Int)<=1/\(1:Int)<=5/\5<=h) (Z8 g a (Z8 r a (Z8 p a (Z8 (decide (c>4611686018427387904)) a (Z8 ((↑(List.length (W c)):Int) !=5) a (Z4 (c=F.fst) (Z4 (5=F.snd) True)))))))))) (Z8 (decide (e=255)) (Z8 (decide ((↑N:Int)<=8)) f (Z0 i (Z4 ((0:Int)<=1/\(1:Int)<=9/\9<=h) (Z8 g a (Z8 r a (Z8 p a (Z8 (decide (c>36028797018963968)) a (Z8 (decide (o>36028797018963968)) a (Z8 (decide (n>36028797018963968)) a (Z8 (decide (m>36028797018963968)) a (Z8 (decide (j>4611686018427387904)) a (Z8 ((↑(List.length (W j)):Int) !=9) a (Z4 (j=F.fst) (Z4 (9=F.snd) True)))))))))))))) (Z0 l (Z4 (wrap i64 e=F.fst) (Z4 (1=F.snd) True)))))))) (by kernel_rfl) ?_
 conv=>zeta
 try simp only [vcA]
 try simp only [vcB]
 try simp only [vcC]
 subst hN
 refine ⟨fun h0=> ?_,fun h0=> ?_⟩
 ·rw [hF,Z3n (by simp_all)];omega
 have h0:xs.length≠0:=by simp_all
 have ed:Z1p (some 1) xs=xs.drop 1:=rfl
 rw [ed]
 refine ⟨by omega,fun c1=>⟨fun l1=> ?_,fun l1=>⟨by omega, ?_⟩⟩,fun c1=>⟨fun c2=>⟨fun l1=> ?_,fun l1=>⟨by omega, ?_⟩⟩,fun c2=>⟨fun c3=>⟨fun l1=> ?_,fun l1=>⟨by omega, ?_⟩⟩,fun c3=> ?_⟩⟩⟩
 ·rw [hF,V0 h0 (Zce c1) (by decide) (by omega)];omega
 ·rw [hF,Vy h0 (Zce c1) (by decide) (by omega)]
  simp only [goN,Z1F,ZgX,Zie,if_false,Jq,Nat.reduceAdd]
  grind
 ·rw [hF,V0 h0 (Zcf c1 c2) (by decide) (by omega)];omega
 ·rw [hF,Vy h0 (Zcf c1 c2) (by decide) (by omega)]
  simp only [goN,Z1F,ZgX,Zie,if_false,Jq,Nat.reduceAdd]
  repeat' (first|(refine JG ?_ ?_)|intro _)
  all_goals first|omega|(simp only [*,if_true,if_false];done)|(simp only [*,if_true,if_false];rfl)|skip
  all_goals grind
 ·rw [hF,V0 h0 (Zcg c1 c2 c3) (by decide) (by omega)];omega
 ·rw [hF,Vy h0 (Zcg c1 c2 c3) (by decide) (by omega)]
  simp only [goN,Z1F,ZgX,Jq]
  repeat' (first|(refine JG ?_ ?_)|intro _)
  all_goals grind
 grind [QW,Zg2]
def Zch (F:LI->Int×Int):YK:=fun args h K=>X1 none h true 20 args fun a=>match a with
 | [.vints .u8 xs n]=>Z4 (xs.length=n) (K (.tuple [.int .i64 (F xs).1,.int .i64 (F xs).2]))
 | _=>False
theorem Zaw (args:List AV) (h:Z6) (K:AV->Prop) (hl:Zch (Zy Zp) args h K):Zh PP 143 args h fun o h'=>∃v,o=.ret v/\h'=h/\K v:=by
 refine Y8.psumm (d:=20) (YJ _ _ _ _ _ hl fun a ha=> ?_)
 split at ha
 ·obtain ⟨h1,hK⟩:=Zd ha
  exact ⟨_,.evM Z2b (Zet _ _ _ _ h1 rfl),fun _=>rfl,hK⟩
 simp_all
def AV.plain2:AV->Bool
 | .iface _ v=>v.plain
 | v=>v.plain
theorem Zc.plain2 {E E':Env} {v:AV} {r:Value} (h:Zc E v r) (hp:v.plain2=true):Zc E' v r:=by
 cases v with
 | iface t u=>cases h with|iface t u x hx=>exact .iface _ _ _ (hx.plain hp)
 | _=>exact h.plain hp
def Z6H {ι:Type} (k:Nat) (m:ι->Nat) (S:ι->St) (i:ι) (X:KE):KE:=fun e s=>match e with
 | .normal=>∃j,m j<m i/\Z0o k s (S j)
 | .panic v=>v.plain2=true/\∃s₂,Z0o k s s₂/\X (.panic v) s₂
 | .exit id=>∃s₂,Z0o k s s₂/\X (.exit id) s₂
 | .goto l=>∃s₂,Z0o k s s₂/\X (.goto l) s₂
 | .ret=>∃s₂,Z0o k s s₂/\X .ret s₂
theorem Z8h {P:Program} {k:Nat} {ro:Option Nat} {c:Code} {ι:Type} (m:ι->Nat) (S:ι->St) (X:KE)
  (h:∀i,Yj P k ro c (S i) (Z6H k m S i X)):∀i,Yj P k ro (.loop c) (S i) X:=by
 have key:∀N i,m i<N->∀(E0:Env) (h0:Z6) (w0:World) (E:Env) (a:Act) (w:World) (n:Nat),(∀x,k<=x->E0.blk x=none)->WN E (S i) a w->Evo E0 h0 w0 E (S i).h w->
   Code.roundsIn (Fr ro) n P c (Vl E0 h0 w0 X) N a w:=by
  intro N
  induction N with
  | zero=>omega
  | succ N ih=>
   intro i hi E0 h0 w0 E a w n hk hs hev
   refine wpIn_mono (h i E0 h0 w0 E a w n hk hs hev) ?_
   rintro e a' w' ⟨E',x,s',hx,hev',hs',he⟩
   cases he with
   | normal=>
    obtain ⟨j,hj,hw⟩:=hx
    obtain ⟨E₂,hs₂,hev₂⟩:=hw E0 h0 w0 E' a' w' hk hs' hev'
    exact ih j (by omega) E0 h0 w0 E₂ a' w' n hk hs₂ hev₂
   | exit id=>
    obtain ⟨s₂,hw,hx⟩:=hx
    obtain ⟨E₂,hs₂,hev₂⟩:=hw E0 h0 w0 E' a' w' hk hs' hev'
    exact ⟨E₂,_,s₂,hx,hev₂,hs₂,.exit id⟩
   | goto l=>
    obtain ⟨s₂,hw,hx⟩:=hx
    obtain ⟨E₂,hs₂,hev₂⟩:=hw E0 h0 w0 E' a' w' hk hs' hev'
    exact ⟨E₂,_,s₂,hx,hev₂,hs₂,.goto l⟩
   | ret=>
    obtain ⟨s₂,hw,hx⟩:=hx
    obtain ⟨E₂,hs₂,hev₂⟩:=hw E0 h0 w0 E' a' w' hk hs' hev'
    exact ⟨E₂,_,s₂,hx,hev₂,hs₂,.ret⟩
   | panic v r hv=>
    obtain ⟨hp,s₂,hw,hx⟩:=hx
    obtain ⟨E₂,hs₂,hev₂⟩:=hw E0 h0 w0 E' a' w' hk hs' hev'
    exact ⟨E₂,_,s₂,hx,hev₂,hs₂,.panic v r (hv.plain2 hp)⟩
 intro i E0 h0 w0 E a w n hk hs hev
 exact wpIn_loop_rounds (m i+1) (key (m i+1) i (Kr _) E0 h0 w0 E a w n hk hs hev)
theorem Zg.withL_okP (hG:G.Ok) {f:FuncId} {id:Nat} {S:Nat->St->KE->Prop} (h1:W2 G.P f id=true)
  (h:∀k s X,S k s X->∃ι:Type,∃m:ι->Nat,∃I:ι->St,∃i n,Z0o k s (I i)/\∀i,∃Y,ZA G n f id k (I i) Y/\∀e s,Y e s->Z6H k m I i X e s):(G.withL f id S).Ok where
 draw:=hG.draw
 psumm:=hG.psumm
 fsumm:=hG.fsumm
 lsumm:=fun f' id' S' fn c body hS hf hb hm k s X hs=>by
  simp only [Zg.withL] at hS
  split at hS
  ·rename_i hq
   rw [J2] at hq
   have e1:=J0 hq.1
   have e2:=J0 hq.2
   subst e1 e2
   cases hS
   have hc:=Z1D h1 hf hb hm
   obtain ⟨ι,m,I,i,n,hw,hr⟩:=h k s X hs
   subst hc
   refine Yj.weak (Z8h m I X (fun i=> ?_) i) hw
   have hk:=Z0i hG n f' none
   obtain ⟨Y,hY,hYX⟩:=hr i
   unfold ZA at hY
   refine Yj.mono ?_ hYX
   refine Z35 (k:=k) (ro:=none) hG hk.1 (fun _=>rfl) (fun _=>rfl) (fun _=>⟨fn,body,by rw [hk.2.1];exact hf,hb,fun b hbm=>Uz body id' _ hm b (by simpa [Zs] using hbm)⟩) hY
  ·exact hG.lsumm f' id' S' fn c body hS hf hb hm k s X hs
def rdP (k id l:Nat) (pv:AV) (S1 En Rn Jn Pn:St) (go ex re jm pa:Prop):KE:=fun e s=>match e with
 | .normal=>WK k S1 s go
 | .exit x=>(match Nat.beq x id with|true=>WK k En s ex|false=>False)
 | .ret=>WK k Rn s re
 | .goto x=>(match Nat.beq x l with|true=>WK k Jn s jm|false=>False)
 | .panic v=>Yu pv v (WK k Pn s pa)
def Zg3 (id n l:Nat) (pv:AV) (go ex re jm pa:Nat->Prop) (En Rn Jn Pn:Nat->St):KE->Prop:=fun X=>
 ∀i,i<=n->(∀j,j<i->go j)->(ex i->X (.exit id) (En i))/\(re i->X .ret (Rn i))/\(jm i->X (.goto l) (Jn i))/\(pa i->X (.panic pv) (Pn i))
theorem Zg.withGoP (hG:G.Ok) {f:FuncId} {id k N n l:Nat} {pv:AV} {S En Rn Jn Pn:Nat->St} {S0:St} {C:Prop} {go ex re jm pa:Nat->Prop} (hpv:pv.plain2=true) (h1:W2 G.P f id=true) (hC:C->S 0=S0/\
   ∀i,i<=n->(∀j,j<i->go j)->ZA G N f id k (S i) (rdP k id l pv (S (i+1)) (En i) (Rn i) (Jn i) (Pn i) (go i/\i<n) (ex i) (re i) (jm i) (pa i))):
  (G.withL f id (goM k S0 C (Zg3 id n l pv go ex re jm pa En Rn Jn Pn))).Ok:=by
 refine Zg.withL_okP hG h1 ?_
 intro k' s X hl
 unfold goM at hl
 split at hl
 ·rename_i hk
  have:=J0 hk
  subst this
  obtain ⟨⟨hc,hX⟩,hw⟩:=Yv hl
  obtain ⟨e0,hr⟩:=hC hc
  refine ⟨{ t:Nat//t<=n/\∀j,j<t->go j},fun t=>n-t.1,fun t=>S t.1,⟨0,JI _,fun j hj=>by omega⟩,N,by simp_all, ?_⟩
  rintro ⟨t,ht,hgo⟩
  refine ⟨_,hr t ht hgo, ?_⟩
  intro e s' hY
  unfold rdP at hY
  split at hY
  ·obtain ⟨⟨hg,hlt⟩,hw'⟩:=Yv hY
   refine ⟨⟨t+1,hlt,fun j hj=> ?_⟩,by show n-(t+1)<n-t;omega,hw'⟩
   grind
  ·split at hY
   ·rename_i hi
    have:=J0 hi
    subst this
    obtain ⟨hex,hw'⟩:=Yv hY
    exact ⟨_,hw',(hX t ht hgo).1 hex⟩
   simp_all
  ·obtain ⟨hre,hw'⟩:=Yv hY
   exact ⟨_,hw',(hX t ht hgo).2.1 hre⟩
  ·split at hY
   ·rename_i hi
    have:=J0 hi
    subst this
    obtain ⟨hjm,hw'⟩:=Yv hY
    exact ⟨_,hw',(hX t ht hgo).2.2.1 hjm⟩
   ·exact hY.elim
  ·obtain ⟨hv,hY2⟩:=Z0l _ _ _ hY
   subst hv
   obtain ⟨hpa,hw'⟩:=Yv hY2
   exact ⟨hpv,_,hw',(hX t ht hgo).2.2.2 hpa⟩
 ·exact hl.elim
mutual
/-- Without names; views may be. -/
def AV.vplain:AV->Bool
 | .top|.bool _|.int _ _|.str _|.ptr none|.eslice|.fslice|.nilslice|.map none|.nilFunc|.nilIface|.arr _ _ _=>true
 | .vints _ _ _|.vrows _ _ _ _|.pview _ _=>true
 | .agg cs=>Wq cs
 | .tuple cs=>Wq cs
 | .iface _ v=>v.vplain
 | _=>false
def Wq:List AV->Bool
 | []=>true
 | v::r=>v.vplain&&Wq r
end
mutual
theorem Zc.vplain {E E':Env} (hi:∀a c,E.imm a c->E'.imm a c):∀(v:AV) (r:Value),v.vplain=true->Zc E v r->Zc E' v r
 | .top,r,_,_=>.top r
 | .bool b,r,_,h=>h.plain rfl
 | .int k n,r,_,h=>h.plain rfl
 | .str s,r,_,h=>h.plain rfl
 | .ptr none,r,_,h=>h.plain rfl
 | .eslice,r,_,h=>h.plain rfl
 | .fslice,r,_,h=>h.plain rfl
 | .nilslice,r,_,h=>h.plain rfl
 | .map none,r,_,h=>h.plain rfl
 | .nilFunc,r,_,h=>h.plain rfl
 | .nilIface,r,_,h=>h.plain rfl
 | .arr k n xs,r,_,h=>h.plain rfl
 | .ptr (some p),r,hp,_=>by simp [AV.vplain] at hp
 | .nslice p a b c,r,hp,_=>by simp [AV.vplain] at hp
 | .map (some x),r,hp,_=>by simp [AV.vplain] at hp
 | .func a b c,r,hp,_=>by simp [AV.vplain] at hp
 | .yield x,r,hp,_=>by simp [AV.vplain] at hp
 | .stamp x,r,hp,_=>by simp [AV.vplain] at hp
 | .pview cs inn,r,_,h=>by
  cases h with
  | pview cs inn a vs hc hq=>exact .pview cs inn a vs (Zm.mono (⟨fun _ _ h=>by simp [Env.views] at h,hi⟩:E.views.le E'.views) hc) (fun j c h=>hi _ _ (hq j c h))
 | .vints k xs len,r,_,h=>by
  cases h with
  | vintsNil k xs len h1 h2=>exact .vintsNil k xs len h1 h2
  | vints k xs len a cap h1 h2 hq=>exact .vints k xs len a cap h1 h2 (fun i h=>hi _ _ (hq i h))
 | .vrows esz n f len,r,_,h=>by
  cases h with
  | vrowsNil esz n f len h1 h2=>exact .vrowsNil esz n f len h1 h2
  | vrows esz n f len a cap g h1 h2 hc hl hq=>exact .vrows esz n f len a cap g h1 h2 (fun i h=>Zm.mono (⟨fun _ _ h=>by simp [Env.views] at h,hi⟩:E.views.le E'.views) (hc i h)) hl (fun i j c h h'=>hi _ _ (hq i j c h h'))
 | .iface t v,r,hp,h=>by
  cases h with
  | iface t v x hx=>exact .iface t v x (Zc.vplain hi v x (by simpa [AV.vplain] using hp) hx)
 | .agg cs,r,hp,h=>by
  cases h with
  | agg cs vs hc=>exact .agg cs vs (Zm.vplain hi cs vs (by simpa [AV.vplain] using hp) hc)
 | .tuple cs,r,hp,h=>by
  cases h with
  | tuple _ rs hc=>exact .tuple _ rs (Zt.vplain hi cs rs (by simpa [AV.vplain] using hp) hc)
theorem Zm.vplain {E E':Env} (hi:∀a c,E.imm a c->E'.imm a c):∀(l:List AV) (r:List Value),Wq l=true->Zm E l r->Zm E' l r
 | [],r,_,h=>by cases h;exact .nil
 | v::l,r,hp,h=>by
  simp only [Wq,J2] at hp
  cases h with
  | one v c vs cs h0 h1 hv t=>exact .one v c _ cs h0 h1 (Zc.vplain hi v c hp.1 hv) (Zm.vplain hi l cs hp.2 t)
  | arr k n xs vs cs t=>exact .arr k n xs _ cs (Zm.vplain hi l cs hp.2 t)
theorem Zt.vplain {E E':Env} (hi:∀a c,E.imm a c->E'.imm a c):∀(l:List AV) (r:List Value),Wq l=true->Zt E l r->Zt E' l r
 | [],r,_,h=>by cases h;exact .nil
 | v::l,r,hp,h=>by
  simp only [Wq,J2] at hp
  cases h with
  | cons v c vs cs hv t=>exact .cons v c _ cs (Zc.vplain hi v c hp.1 hv) (Zt.vplain hi l cs hp.2 t)
end
def Vz (R:AV->Prop):KO:=fun o _=>match o with
 | .ret u=>(match u.vplain with|true=>R u|false=>False)
 | .panic _=>False
theorem Z8i {P:Program} {f:FuncId} {h:Z6} (hp:Wq args=true) (hc:Zh P f args ⟨0,[]⟩ (Vz R)) (hK:∀u,R u->K u):
  Zh P f args h fun o h'=>∃v,o=.ret v/\h'=h/\K v:=by
 intro E w rs he hr
 have hemb:Emb E.views ⟨0,[]⟩ w:=
  ⟨fun x _=>rfl,fun x B h=>by simp [Z6.get,ZC] at h,fun x B h=>by simp [Z6.get,ZC] at h,fun x y B B' b N N' h=>by simp [Z6.get,ZC] at h,he.imm,fun a c x B N _ h=>by simp [Z6.get,ZC] at h⟩
 refine (hc E.views w rs hemb (Zt.vplain (E:=E) (E':=E.views) (fun _ _ h=>h) _ _ hp hr)).mono ?_
 rintro e w' ⟨E₁,o,h',hK0,hev,hor⟩
 cases hor with
 | panic u r hr=>exact hK0.elim
 | ret u r hr=>
  unfold Vz at hK0
  simp only at hK0
  split at hK0
  ·rename_i hu
   have hkeep:∀b,b<w.heap.size->w'.heap[b]? =w.heap[b]?:=fun b hb=>hev.keep b hb (fun ⟨x,B,N,hx,_⟩=>by simp [Z6.get,ZC] at hx)
   have hemb':Emb E h w':=by
    refine ⟨he.fresh,he.lt,fun x B hx=>(he.own x B hx).congr fun b N hb=>hkeep b ((he.own x B hx).lt hb),he.disj,fun a c hi=> ?_,he.sep⟩
    have hcc:=he.imm a c hi
    grind [World.cell?]
   exact ⟨E,.ret u,h,⟨u,rfl,rfl,hK u hK0⟩,⟨.refl E,hemb',hev.size,hev.os,hev.tape,hev.output,fun b hb _=>hkeep b hb,fun b ho=>.inl ho,fun _ _ h=>h⟩,.ret _ _ (Zc.vplain (E:=E₁) (E':=E) (fun a c hi=>hev.imm a c hi) _ _ hu hr)⟩
  simp_all
theorem V1 (hG:G.Ok) {n:Nat} {f:FuncId} {h:Z6} (hp:Wq args=true) (hc:evF G n f args ⟨0,[]⟩ (Vz R)) (hK:∀u,R u->K u):
  Zh G.P f args h fun o h'=>∃v,o=.ret v/\h'=h/\K v:=Z8i hp (Z0Z hG hc) hK
end Go.Tk
end
section
namespace Go.Tk
open IntKind (i64 u8 u32 u64 wrap)
inductive Ty where
 | bool
 | int (k:IntKind)
 | str
 | arr (k:IntKind) (n:Nat)
 | ints (k:IntKind)
 | rows (esz:Nat) (ts:List Ty)
def Zci (P:Program) (r:TypeId->Option (List Ty)) (sz:Nat):Nat->List Field->Option (List Ty)
 | o,[]=>if o=sz then some [] else none
 | o,f::fs=>if f.offset=o then (r f.type).bind fun a=>(Zci P r sz (o+P.cellsOf f.type) fs).bind fun b=>some (a++b) else none
def Z1U (P:Program):Nat->TypeId->Option (List Ty)
 | 0,_=>none
 | m+1,t=>match P.underlying t with
  | some .bool=>some [.bool]
  | some (.int k)=>some [.int k]
  | some .string=>some [.str]
  | some (.array n e)=>match P.underlying e with
   | some (.int k)=>if P.cellsOf t=n/\P.cellsOf e=1 then some [.arr k n] else none
   | _=>(Z1U P m e).bind fun ts=>if P.cellsOf t=n*P.cellsOf e then some (List.replicate n ts).flatten else none
  | some (.slice e)=>match P.underlying e with
   | some (.int k)=>if P.cellsOf e=1 then some [.ints k] else none
   | _=>(Z1U P m e).bind fun ts=>some [.rows (P.cellsOf e) ts]
  | some (.struct fs)=>Zci P (Z1U P m) (P.cellsOf t) 0 fs.toList
  | _=>none
mutual
inductive Z1G:Ty->AV->Prop
 | bool (b:Bool):Z1G .bool (.bool b)
 | int (k:IntKind) (n:Int) (h:(Lit.int k n).wf=true):Z1G (.int k) (.int k n)
 | str (s:ByteArray) (h:s.size<=maxLen):Z1G .str (.str s)
 | arr (k:IntKind) (n:Nat) (xs:LI) (h:xs.length=n) (hw:∀i,i<n->(Lit.int k (xs.getD i 0)).wf=true):Z1G (.arr k n) (.arr k n xs)
 | ints (k:IntKind) (xs:LI) (n:Nat) (h:xs.length=n) (hm:n<=maxLen) (hw:∀i,i<n->(Lit.int k (xs.getD i 0)).wf=true):Z1G (.ints k) (.vints k xs n)
 | rows (esz:Nat) (ts:List Ty) (n:Nat) (f:Nat->List AV) (hm:n<=maxLen) (h:∀i,i<n->Fits ts (f i)):Z1G (.rows esz ts) (.vrows esz n f n)
inductive Fits:List Ty->List AV->Prop
 | nil:Fits [] []
 | cons (t:Ty) (a:AV) (ts:List Ty) (vz:List AV) (h:Z1G t a) (r:Fits ts vz):Fits (t::ts) (a::vz)
end
theorem Fits.append:∀{ts wz:List Ty} {vz bs:List AV},Fits ts vz->Fits wz bs->Fits (ts++wz) (vz++bs)
 | _,_,_,_,.nil,h=>h
 | _,_,_,_,.cons t a ts vz h r,k=>.cons t a _ _ h (Fits.append r k)
def tE (w:World):Env:=⟨fun _=>none,fun a c=>w.cell? a=some c⟩
section
variable {H:Type} {enc:TypeId×Value->H} {P:Program} {w:World} {sp:Nat->Bool} {held:Bool}
theorem Qu {k:IntKind} {n:Nat} {cs:List Value} (hl:cs.length=n) (h:∀i,i<n->∃z,cs[i]? =some (.int k z)/\(Lit.int k z).wf=true):
  ∃xs:LI,xs.length=n/\(∀i,i<n->(Lit.int k (xs.getD i 0)).wf=true)/\∀i,i<n->cs[i]? =some (.int k (xs.getD i 0)):=by
 refine ⟨cs.map fun v=>match v with|.int _ z=>z|_=>0,by simp [hl],fun i hi=> ?_,fun i hi=> ?_⟩
 all_goals grind
theorem Zeu {α β:Type} {n:Nat} {p:Nat->α->β->Prop} [Inhabited α] [Inhabited β] (h:∀i,i<n->∃a b,p i a b):∃(f:Nat->α) (g:Nat->β),∀i,i<n->p i (f i) (g i):=
 ⟨fun i=>if hi:i<n then Classical.choose (h i hi) else default,fun i=>if hi:i<n then Classical.choose (Classical.choose_spec (h i hi)) else default,fun i hi=>by
  grind⟩
theorem Z2c:∀(m:Nat) (t:TypeId) (ts:List Ty),Z1U P m t=some ts->∀(fuel:Nat) (cs:List Value) (x:DataW H×List MemPlace),DataW.trod enc P w 0 sp held fuel t cs=some x->∃vz,Fits ts vz/\Zm (tE w) vz cs
 | 0,_,_,ht=>by simp [Z1U] at ht
 | m+1,t,ts,ht=>by
  intro fuel cs x hx
  unfold Z1U at ht
  split at ht
  ·rename_i hu
   cases ht
   obtain ⟨b,rfl,_⟩:=DataW.trod_bool hu hx
   exact ⟨[.bool b],.cons _ _ _ _ (.bool b) .nil,.one _ _ _ _ rfl rfl (.bool b) .nil⟩
  ·rename_i k hu
   cases ht
   obtain ⟨n,rfl,_,hw⟩:=DataW.trod_int hu hx
   exact ⟨[.int k n],.cons _ _ _ _ (.int k n hw) .nil,.one _ _ _ _ rfl rfl (.int k n) .nil⟩
  ·rename_i hu
   cases ht
   obtain ⟨s,rfl,_,hw⟩:=DataW.trod_string hu hx
   exact ⟨[.str s],.cons _ _ _ _ (.str s hw) .nil,.one _ _ _ _ rfl rfl (.str s) .nil⟩
  ·rename_i n e hu
   split at ht
   ·rename_i k he
    split at ht
    ·rename_i hc
     obtain ⟨hc,h1⟩:=hc
     cases ht
     obtain ⟨xs,q,rfl,rfl,hl,hn,hi⟩:=DataW.trod_array hu hx
     rw [hc] at hl
     obtain ⟨zs,z1,z2,z3⟩:=Qu (k:=k) hl fun i hlt=>by
      have:=hi i hlt
      rw [J8 (by omega),h1] at this
      obtain ⟨z,e1,_,e2⟩:=DataW.trod_int he this
      refine ⟨z, ?_,e2⟩
      rw [JT] at e1
      have:=congrArg (fun l=>l[0]?) e1
      grind
     refine ⟨[.arr k n zs],.cons _ _ _ _ (.arr k n zs z1 z2) .nil, ?_⟩
     have:cs=intCells k n zs++[]:=by
      rw [JE]
      refine Kp fun i=> ?_
      grind [intCells]
     rw [this]
     exact .arr _ _ _ _ _ .nil
    ·cases ht
   ·obtain ⟨es,e1,e2⟩:=Ji.1 ht
    split at e2
    ·rename_i hc
     cases e2
     obtain ⟨xs,q,rfl,rfl,hl,hn,hi⟩:=DataW.trod_array hu hx
     rw [hc] at hl
     have key:∀j,j<=n->∃vz,Fits (List.replicate j es).flatten vz/\Zm (tE w) vz (cs.take (j*P.cellsOf e)):=by
      intro j
      induction j with
      | zero=>intro _;exact ⟨[],.nil,by simp;exact .nil⟩
      | succ j ih=>
       intro hj
       obtain ⟨vz,f1,f2⟩:=ih (by omega)
       have:=hi j (by omega)
       rw [J8 (by omega)] at this
       obtain ⟨bs,p1,p2⟩:=Z2c m _ _ e1 _ _ _ this
       refine ⟨vz++bs, ?_, ?_⟩
       ·rw [List.replicate_succ',List.flatten_append,List.flatten_singleton]
        exact f1.append p1
       ·rw [Nat.succ_mul,List.take_add]
        exact f2.append p2
     obtain ⟨vz,f1,f2⟩:=key n (J1 _)
     rw [JW (by omega)] at f2
     grind
    ·cases e2
  ·rename_i e hu
   split at ht
   ·rename_i k he
    split at ht
    ·rename_i hc
     cases ht
     rcases DataW.trod_slice hu hx with ⟨rfl,_⟩|⟨a,len,cap,elems,rest,n,rfl,rfl,_,_,hl,hm,hlen,hi,_,_⟩
     ·exact ⟨[.vints k [] 0],.cons _ _ _ _ (.ints k [] 0 rfl (JI _) fun i hi=>absurd hi (JC i)) .nil,.one _ _ _ _ rfl rfl (.vintsNil _ _ _ rfl rfl) .nil⟩
     ·obtain ⟨zs,z1,z2,z3⟩:=Qu (k:=k) (n:=len) (cs:=(List.range len).map fun i=>(w.cell? (a.add i)).getD undef) (by simp) fun i hlt=>by
       have:=hi i hlt
       rw [J8 (by omega),hc,JT] at this
       obtain ⟨cs',h1,h2⟩:=Ji.1 this
       grind [DataW.trod_int,Go.ChangeShapes.cell_of_cells?_one]
      refine ⟨[.vints k zs len],.cons _ _ _ _ (.ints k zs len z1 (by omega) z2) .nil,.one _ _ _ _ rfl rfl (.vints k zs len a cap (by omega) (by omega) fun i hlt=> ?_) .nil⟩
      rw [z1] at hlt
      have:=hi i hlt
      rw [J8 (by omega),hc,JT] at this
      obtain ⟨cs',h1,h2⟩:=Ji.1 this
      obtain ⟨z,rfl,_,e2⟩:=DataW.trod_int he h2
      have h3:=z3 i hlt
      have h4:=Go.ChangeShapes.cell_of_cells?_one h1
      simp [hlt,h4] at h3
      show w.cell? (a.add i)=_
      rw [h4,h3,J5]
    ·cases ht
   ·obtain ⟨es,h1,h2⟩:=Ji.1 ht
    cases h2
    rcases DataW.trod_slice hu hx with ⟨rfl,_⟩|⟨a,len,cap,elems,rest,n,rfl,rfl,_,_,hl,hm,hlen,hi,_,_⟩
    ·exact ⟨[.vrows (P.cellsOf e) 0 (fun _=>[]) 0],.cons _ _ _ _ (.rows _ _ 0 _ (JI _) fun i hi=>absurd hi (JC i)) .nil,.one _ _ _ _ rfl rfl (.vrowsNil _ _ _ _ rfl rfl) .nil⟩
    ·obtain ⟨f,g,hfg⟩:=Zeu (n:=len) (p:=fun i (vz:List AV) (vs:List Value)=>Fits es vz/\Zm (tE w) vz vs/\w.cells? 0 (a.add (i*P.cellsOf e)) (P.cellsOf e)=some vs) fun i hlt=>by
      have:=hi i hlt
      rw [J8 (by omega)] at this
      obtain ⟨cs',k1,k2⟩:=Ji.1 this
      obtain ⟨vz,f1,f2⟩:=Z2c m _ _ h1 _ _ _ k2
      exact ⟨vz,cs',f1,f2,k1⟩
     refine ⟨[.vrows (P.cellsOf e) len f len],.cons _ _ _ _ (.rows _ _ len f (by omega) fun i hlt=>(hfg i hlt).1) .nil,.one _ _ _ _ rfl rfl (.vrows _ _ _ _ a cap g (J1 _) hl (fun i hlt=>(hfg i hlt).2.1) (fun i hlt=>(World.cells?_some (hfg i hlt).2.2).2.1) fun i j c hlt hj=> ?_) .nil⟩
     obtain ⟨_,hl',hc'⟩:=World.cells?_some (hfg i hlt).2.2
     have hj':j<P.cellsOf e:=by
      grind
     have:=hc' j hj'
     rw [hj] at this
     show w.cell? (a.add (i*P.cellsOf e+j))=some c
     rw [<-this]
     rw [Addr.add_add]
  ·rename_i fs hu
   obtain ⟨xs,n,rfl,rfl,hl,hn,hf⟩:=DataW.trod_struct hu hx
   have key:∀(l:List Field) (o:Nat) (ts:List Ty) (i0:Nat),Zci P (Z1U P m) (P.cellsOf t) o l=some ts->(∀i f,l[i]? =some f->fs[i0+i]? =some f)->∃vz,Fits ts vz/\Zm (tE w) vz (cs.drop o):=by
    intro l
    induction l with
    | nil=>
     intro o ts i0 h _
     unfold Zci at h
     split at h
     ·cases h
      exact ⟨[],.nil,by rw [K9 (by omega)];exact .nil⟩
     ·cases h
    | cons f l ih=>
     intro o ts i0 h hl'
     unfold Zci at h
     split at h
     ·rename_i ho
      obtain ⟨a,h1,h2⟩:=Ji.1 h
      obtain ⟨b,h3,h4⟩:=Ji.1 h2
      cases h4
      have h0:fs[i0]? =some f:=hl' 0 f rfl
      have hlt:i0<fs.size:=by
       grind
      have k:=hf i0 f h0
      rw [J8 (by omega),ho] at k
      obtain ⟨vz,p1,p2⟩:=Z2c m _ _ h1 _ _ _ k
      obtain ⟨bs,q1,q2⟩:=ih (o+P.cellsOf f.type) b (i0+1) h3 fun i g hg=>by
       have:=hl' (i+1) g hg
       grind
      refine ⟨vz++bs,p1.append q1, ?_⟩
      have e:cs.drop o=(cs.drop o).take (P.cellsOf f.type)++cs.drop (o+P.cellsOf f.type):=by
       rw [<-List.drop_drop,List.take_append_drop]
      rw [e]
      exact p2.append q2
     ·cases h
   obtain ⟨vz,h1,h2⟩:=key fs.toList 0 ts 0 ht fun i f h=>by simp_all
   grind
  ·cases ht
def isAgg (P:Program) (t:TypeId):Bool:=match P.underlying t with
 | some (.struct _)|some (.array _ _)=>true
 | _=>false
inductive Z6I:Bool->List Ty->AV->Prop
 | agg (ts:List Ty) (vz:List AV) (h:Fits ts vz):Z6I true ts (.agg vz)
 | one (t:Ty) (a:AV) (h:Z1G t a):Z6I false [t] a
theorem Zcj {m:Nat} {t:TypeId} {ts:List Ty} (ht:Z1U P m t=some ts) (hg:isAgg P t=false) {v:Value} {r:Reach} {b:Nat} (hv:Value.okWide P w r b t v):
  v.cells.toList=[v]/\∃τ,ts=[τ]/\∀k n,τ≠.arr k n:=by
 cases m with
 | zero=>simp [Z1U] at ht
 | succ m=>
  unfold Z1U at ht
  unfold isAgg at hg
  split at ht
  ·rename_i hu;cases ht;obtain ⟨b,rfl⟩:=Go.WideShapes.okWide_bool hu hv;exact ⟨rfl,_,rfl,fun _ _ h=>by cases h⟩
  ·rename_i hu;cases ht;obtain ⟨b,rfl⟩:=Go.WideShapes.okWide_int hu hv;exact ⟨rfl,_,rfl,fun _ _ h=>by cases h⟩
  ·rename_i hu;cases ht;obtain ⟨b,rfl⟩:=Go.WideShapes.okWide_string hu hv;exact ⟨rfl,_,rfl,fun _ _ h=>by cases h⟩
  ·simp_all
  ·rename_i hu
   obtain ⟨a,l,c,rfl⟩:=Go.WideShapes.okWide_slice hu hv
   split at ht
   ·split at ht
    ·cases ht;exact ⟨rfl,_,rfl,fun _ _ h=>by cases h⟩
    ·cases ht
   ·obtain ⟨es,h1,h2⟩:=Ji.1 ht
    cases h2;exact ⟨rfl,_,rfl,fun _ _ h=>by cases h⟩
  all_goals simp_all
theorem Zck {m:Nat} {t:TypeId} {ts:List Ty} {g:Bool} (ht:Z1U P m t=some ts) (hg:isAgg P t=g) {v:Value} {r:Reach} {b:Nat} (hv:Value.okWide P w r b t v) {d:DataW H} {ps:List MemPlace} (h:DataW.Trod enc P w 0 sp held t v d ps):
  ∃a,Z6I g ts a/\Zc (tE w) a v:=by
 obtain ⟨fuel,hf⟩:=h
 obtain ⟨vz,f1,f2⟩:=Z2c m _ _ ht _ _ _ hf
 cases g with
 | true=>
  have:∃cs,v=.agg cs:=by
   grind [isAgg,Value.okWide]
  obtain ⟨cs,rfl⟩:=this
  refine ⟨.agg vz,.agg _ _ f1, ?_⟩
  exact .agg _ _ f2
 | false=>
  obtain ⟨h1,τ,rfl,h2⟩:=Zcj ht hg hv
  rw [h1] at f2
  cases f1 with
  | cons _ a _ vz f r=>
   generalize hL:[v]=L at f2
   cases f2 with
   | one _ _ _ _ h0 h1 h t=>cases hL;exact ⟨_,.one _ _ f,h⟩
   | arr k n xs _ cs t=>cases f;simp_all
end
end Go.Tk
end
section
namespace Go.Tk
open IntKind (i64 u8 u32 u64 wrap)
open Go.ChangeShapes Go.WideShapes Go.RowKit
theorem ZgY (w:World):Emb (tE w) ⟨0,[]⟩ w where
 fresh:=fun _ _=>rfl
 lt:=fun x B h=>by simp [Z6.get,ZC] at h
 own:=fun x B h=>by simp [Z6.get,ZC] at h
 disj:=fun x y B B' b N N' h=>absurd h (by simp [Z6.get,ZC])
 imm:=fun _ _ h=>h
 sep:=fun a c x B N _ h=>absurd h (by simp [Z6.get,ZC])
theorem Zh.topT {P:Program} {f:FuncId} {args:List AV} (h:Zh P f args ⟨0,[]⟩ fun o h'=>∃v,o=.ret v/\h'=⟨0,[]⟩/\v=.bool true) {w:World} {rs:List Value} (hl:Zt (tE w) args rs):
  Calls P f rs.toArray w fun e w'=>e=.returned (.bool true)/\Go.RowKit.Below w.heap.size w w':=by
 refine (h (tE w) w rs (ZgY w) hl).mono ?_
 rintro e w' ⟨E',o,h',⟨v,rfl,rfl,hv⟩,hev,hor⟩
 obtain rfl:=hv
 cases hor with
 | ret v r hr=>
  cases hr
  refine ⟨rfl,hev.os,hev.tape,hev.output.1,hev.size,fun k hk=>hev.keep k hk ?_⟩
  rintro ⟨x,B,N,hx,_⟩
  exact absurd hx (by simp [Z6.get,ZC])
def Z8j (P:Program) (m:Nat):List TypeId->Option (List (Bool×List Ty))
 | []=>some []
 | t::r=>(Z1U P m t).bind fun a=>(Z8j P m r).bind fun b=>some ((isAgg P t,a)::b)
inductive Z4z:List (Bool×List Ty)->List AV->Prop
 | nil:Z4z [] []
 | cons (g:Bool) (ts:List Ty) (a:AV) (r:List (Bool×List Ty)) (vz:List AV) (h:Z6I g ts a) (k:Z4z r vz):Z4z ((g,ts)::r) (a::vz)
section
variable {H:Type} {enc:TypeId×Value->H} {P:Program} {w:World}
theorem Z4A {m:Nat} {r:Reach} {b:Nat}:∀{ts:List TypeId} {τs:List (Bool×List Ty)} {vs:List Value} {ds:List (DataW H)} {ps:List MemPlace},Z8j P m ts=some τs->(∀(j:Nat) t v,ts[j]? =some t->vs[j]? =some v->Value.okWide P w r b t v)->
  DataW.TrodAll enc P w 0 (fun _=>true) true ts vs ds ps->∃vz,Z4z τs vz/\Zt (tE w) vz vs
 | [],τs,vs,ds,ps,ha,_,h=>by
  cases ha
  obtain ⟨rfl,_,_⟩:=trodAll_nil h
  exact ⟨[],.nil,.nil⟩
 | t::ts,τs,vs,ds,ps,ha,hv,h=>by
  obtain ⟨a,h1,h2⟩:=Ji.1 ha
  obtain ⟨c,h3,h4⟩:=Ji.1 h2
  cases h4
  obtain ⟨v,vs',d,ds',p,q,rfl,rfl,rfl,k1,k2⟩:=trodAll_cons h
  obtain ⟨x,f1,f2⟩:=Zck h1 rfl (hv 0 t v rfl rfl) k1
  obtain ⟨vz,g1,g2⟩:=Z4A h3 (fun j t' v' e1 e2=>hv (j+1) t' v' e1 e2) k2
  exact ⟨x::vz,.cons _ _ _ _ _ f1 g1,.cons _ _ _ _ f2 g2⟩
theorem Z1H {sp:Nat->Bool} {held:Bool}:∀{ts:List TypeId} {vs:List Value} {ds:List (DataW H)} {ps:List MemPlace},DataW.TrodAll enc P w 0 sp held ts vs ds ps->ds.length=ts.length
 | [],_,_,_,h=>by obtain ⟨_,rfl,_⟩:=trodAll_nil h;rfl
 | t::ts,_,_,_,h=>by
  obtain ⟨v,vs',d,ds',p,q,rfl,rfl,rfl,k1,k2⟩:=trodAll_cons h
  simp [Z1H k2]
theorem Z4B {W':World} (laid:laidOutB P=true) (hb:Below w.heap.size w W'):∀{ts:List TypeId} {vs:List Value} {ds:List (DataW H)} {ps:List MemPlace},ts.all (fun t=>P.readableRec t&&decide (t<P.types.size))=true->
  DataW.TrodAll enc P w 0 (fun _=>true) true ts vs ds ps->DataW.TrodAll enc P W' 0 (fun b=>decide (b<w.heap.size)) true ts vs ds ps
 | [],_,_,_,_,h=>by obtain ⟨rfl,rfl,rfl⟩:=trodAll_nil h;exact trodAll_mk0
 | t::ts,_,_,_,hr,h=>by
  obtain ⟨v,vs',d,ds',p,q,rfl,rfl,rfl,k1,k2⟩:=trodAll_cons h
  simp only [List.all_cons,J2,decide_eq_true_eq] at hr
  have lt:∀x∈p,x.block<w.heap.size:=by obtain ⟨m,hm⟩:=k1;exact DataW.trod_lt m _ _ _ hm
  exact trodAll_cons_mk (Below.trod laid hr.1.1 hr.1.2 k1 hb lt) (Z4B laid hb hr.2 k2)
end
theorem lifted_gen {H:Type} {enc:TypeId×Value->H} {C:Checked} {os:Os} {f:FuncId} {fn:Func} {s:ChangeSpec} {conds:List PathCond} {tb:TypeId} {m:Nat} {τs:List (Bool×List Ty)}
  (own:ownKnob C.prog.godebug=none) (laid:laidOutB C.prog=true) (started:os.Started) (noInit:C.prog.inits.idxOf? f=none) (hfn:C.prog.funcs[f]? =some fn)
  (witness:∃(w:World) (tape:Tape) (i:Input),w.os=os/\(w.forCall tape i).Shaped C.prog/\i.vars=[]/\Input.okWide C.prog (w.forCall tape i) .any w.heap.size f i/\
   s.pre6 enc C.prog fn conds false (w.forCall tape i).memory i.args/\({}:Assume).holds C.prog (lone (Frame.enter C.prog f i.args .normal) [] (w.forCall tape i)))
  (hvars:s.vars=[]) (hr:fn.resultTypes= #[tb]) (hb:C.prog.underlying tb=some .bool) (hread:fn.params.toList.all (fun t=>C.prog.readableRec t&&decide (t<C.prog.types.size))=true) (hτ:Z8j C.prog m fn.params.toList=some τs)
  (hs:∀ds:List (DataW H),ds.length=fn.params.toList.length->s.fn H ds={ results:=[.lit (.bool true)],args:=ds})
  (walk:∀vz,Z4z τs vz->Zh C.prog f vz ⟨0,[]⟩ fun o h'=>∃v,o=.ret v/\h'=⟨0,[]⟩/\v=.bool true):
  ReturnsInHanded {} C os f .any (s.pre6 enc C.prog fn conds false) (s.post enc C.prog fn false true false false):=by
 refine returnsInHanded_of_change own started noInit hfn witness ?_
 intro W base args ds gs before hval hW _ _
 have hW':=hW
 obtain ⟨p,q,hA,hV,rfl,hfz,hnd⟩:=hW
 rw [hvars] at hV
 obtain ⟨rfl,rfl⟩:=trodVars_none hV
 obtain ⟨vz,f1,f2⟩:=Z4A hτ (fun j t v e1 e2=>hval j t v (by simp_all) (by simp_all)) hA
 have key:=(walk vz f1).topT f2
 refine key.mono fun e W' ⟨he,bel⟩=> ?_
 subst he
 have hfn':=hs ds (Z1H hA)
 refine ⟨_,rfl,ds,[],_,[],p,[],hW', ?_, ?_, ?_,bel.frame _,fun h=>by cases h⟩
 ·rw [JE,hfn',hr]
  exact trodAll_mk1 (shut_bool hb _)
 ·rw [JE,hfn']
  exact Z4B laid bel hread hA
 ·rw [JE,hfn',hvars]
  rfl
end Go.Tk
end
section
namespace Go.Tk
open IntKind (i64 u8 u32 u64 wrap)
variable {α:Type} {bl ms:LI} {B j:Nat} {H:LI->LI} {r:Zw} {τ:Ren}
theorem w8m (x:Int) (h:0<=x):u8.wrap (Int.tmod x 256)=u8.wrap x:=by
 rw [tm h]
 simp_all [wrap,IntKind.bits]
theorem Zev {n k:Int} (h:0<=n):0<=Zo .i64 n k:=by
 unfold Zo
 rw [Int.fdiv_eq_ediv_of_nonneg _ (by grind)]
 exact Int.ediv_nonneg h (by grind)
theorem b8m {n k:Int} (h:0<=n):u8.wrap (Int.tmod (Zo .i64 n k) 256)=b8 n k:=w8m _ (Zev h)
theorem ZgZ (n:Int) (ys:LI) (L:Nat) (hn:0<=n) (hy:ys=Zp n) (hL:L=ys.length):
  evF G0 20 127 [.int .i64 n] ⟨0,[]⟩ (Y4 0 (.ret (.nslice ⟨0,0,0,0,0⟩ 1 L L)) 1 [(0,.ints .u8 ys)]):=by
 refine @Eq.mpr _ (let b:=[wrap u8 (Int.tmod (Zo i64 n 8) 256),wrap u8 (Int.tmod (Zo i64 n 0) 256)];let a:=wrap u8 (Int.tmod (Zo i64 n 24) 256)::wrap u8 (Int.tmod (Zo i64 n 16) 256)::b;
 Z8 (decide (n<253)) (Z4 (1=L) (Z4 (L<=1) ([wrap u8 n]=ys/\True))) (Z8 (decide (n<65536)) (Z4 (3=L) (Z4 (L<=3) ((253:Int)::b=ys/\True))) (Z8 (decide (n<4294967296)) (Z4 (5=L) (Z4 (L<=5) ((254:Int)::a=ys/\True))) (Z4 (9=L) (Z4 (L<=9) ((255:Int)::wrap u8 (Int.tmod (Zo i64 n 56) 256)::wrap u8 (Int.tmod (Zo i64 n 48) 256)::wrap u8 (Int.tmod (Zo i64 n 40) 256)::wrap u8 (Int.tmod (Zo i64 n 32) 256)::a=ys/\True)))))) (by kernel_rfl) ?_
 conv=>zeta
 try simp only [vcA]
 try simp only [vcB]
 try simp only [vcC]
 subst hy hL
 refine ⟨fun h1=> ?_,fun h1=>⟨fun h2=> ?_,fun h2=>⟨fun h3=> ?_,fun h3=> ?_⟩⟩⟩
 ·rw [Z6F h1];simp
 ·rw [Z9h h1 h2];simp [b8m hn]
 ·rw [Z9i h1 h2 h3];simp [b8m hn]
 ·rw [Z9j h1 h2 h3];simp [b8m hn]
def Zcl (W:Int->LI):ZJ:=fun args h K=>match args with
 | [.int .i64 n]=>Z4 (0<=n) (K (.ret (.nslice ⟨h.next,0,0,0,0⟩ 1 (W n).length (W n).length)) ⟨h.next+1,(h.next,.ints .u8 (W n))::h.bs⟩)
 | _=>False
theorem Zcm (args:List AV) (h:Z6) (K:KO) (hl:Zcl Zp args h K):Zh PP 127 args h K:=by
 unfold Zcl at hl
 split at hl
 ·obtain ⟨hn,hK⟩:=Zd hl
  exact (Y8.evM Zv (ZgZ _ _ _ hn rfl rfl)).calls (fun E w rs he hr=>by
   cases hr with
   | cons v r vs rs h1 h2=>cases h2;exact .cons _ _ _ _ (h1.plain rfl) .nil) rfl ⟨Ks,.ints _ _,trivial⟩ hK
 simp_all
def Qg:Nat->LI->Nat->Int->Int
 | 0,_,_,n=>n
 | m+1,xs,k,n=>Qg m xs (k+1) (256*n+xs.getD k 0)
structure Bytes (xs:LI):Prop where
 h:∀i:Nat,0<=xs.getD i 0/\xs.getD i 0<=255
theorem Bytes.drop {xs:LI} (h:Bytes xs) (n:Nat):Bytes (xs.drop n):=⟨fun i=>by
 have:=h.h (n+i)
 rw [J5,JF]
 exact this⟩
def inZ:InS:=⟨Ze,0,0,Ze,Ze,Ze⟩
def ZkK:Z8c:=⟨0,0,Ze,Ze,Ze,Ze,0,0⟩
theorem Z9k {a b:Int} (ha:0<=a/\a<256) (hb:0<=b/\b<256):(Qd a=Qd b↔a=b)/\(Qd a<Qd b↔a<b):=by
 grind [Qd,UInt8.lt_iff_toNat_lt,UInt8.toNat_ofNat']
def ZkL {ι:Type} (S:ι->Nat->St->KE->Prop):Nat->St->KE->Prop:=fun k s X=>∃i,S i k s X
theorem Zg.withL_ex {ι:Type} {G:Zg} (hG:G.Ok) {f:FuncId} {id:Nat} {S:ι->Nat->St->KE->Prop} (h1:∀i,(G.withL f id (S i)).Ok):(G.withL f id (ZkL S)).Ok where
 draw:=hG.draw
 psumm:=hG.psumm
 fsumm:=hG.fsumm
 lsumm:=fun f' id' S' fn c body hS hf hb hm k s X hs=>by
  simp only [Zg.withL] at hS
  split at hS
  ·cases hS
   obtain ⟨i,hs⟩:=hs
   have a1:=(h1 i).lsumm f' id' (S i) fn c body
   simp_all [Zg.withL]
  ·exact hG.lsumm f' id' S' fn c body hS hf hb hm k s X hs
structure TxB (t:TxS):Prop where
 h:∀i,i<t.M->Bytes (t.outs i).owner/\Bytes (t.outs i).other
structure InS.By (x:InS):Prop where
 name:Bytes x.name
 tag:Bytes x.tag
 also:Bytes x.also
 secret:Bytes x.secret
structure Z8c.By (x:Z8c):Prop where
 owner:Bytes x.owner
 other:Bytes x.other
 point:Bytes x.point
 hash:Bytes x.hash
structure Zg4 (t:TxS):Prop where
 ins:∀i,i<t.N->(t.ins i).By
 outs:∀i,i<t.M->(t.outs i).By
theorem Zg4.b {t:TxS} (h:Zg4 t):TxB t:=⟨fun i hi=>⟨(h.outs i hi).owner,(h.outs i hi).other⟩⟩
theorem pick [Inhabited α] {n:Nat} {p:Nat->α->Prop} (h:∀i,i<n->∃a,p i a):∃f:Nat->α,∀i,i<n->p i (f i):=
 ⟨fun i=>if hi:i<n then Classical.choose (h i hi) else default,fun i hi=>by
  simp only [hi,dite_true]
  exact Classical.choose_spec (h i hi)⟩
instance:Inhabited InS:=⟨inZ⟩
instance:Inhabited Z8c:=⟨ZkK⟩
theorem Zh0 (x:Int):0<=u8.wrap x/\u8.wrap x<=255:=by
 unfold wrap
 simp [IntKind.bits,IntKind.signed]
 omega
def VA (a b c:Int):Nat->Int
 | 0=>0
 | i+1=>if 2<=u32.wrap (u32.wrap (Int.tmod (Zo .u32 a i) 2+Int.tmod (Zo .u32 b i) 2)+Int.tmod (Zo .u32 c i) 2) then u32.wrap (VA a b c i+Zx .u32 1 i) else VA a b c i
def U5 (a b c:Int):Nat->Int
 | 0=>0
 | i+1=>u32.wrap (U5 a b c i+Zx .u32 (if Int.tmod (Zo .u32 a i) 2=1 then Int.tmod (Zo .u32 b i) 2 else Int.tmod (Zo .u32 c i) 2) i)
def moS (a b c:Int) (o:Int) (i:Nat):St:=⟨33,[(8,.int .u64 i),(0,.int .u32 a),(1,.int .u32 b),(2,.int .u32 c),(7,.int .u32 o)],⟨0,[]⟩,[]⟩
def moR (o:Int):St:=⟨33,[(7,.int .u32 o)],⟨0,[]⟩,[]⟩
theorem Zg5 {x:Int} (h:0<=x/\x<18446744073709551616):u64.wrap x=x:=by
 grind [wrap,IntKind.bits,IntKind.signed]
theorem Zh1 (a b c o o':Int) (i:Nat) (Z1 Z2:Prop) (hi:i<=32) (ho:o'=if 2<=u32.wrap (u32.wrap (Int.tmod (Zo .u32 a i) 2+Int.tmod (Zo .u32 b i) 2)+Int.tmod (Zo .u32 c i) 2) then u32.wrap (o+Zx .u32 1 i) else o) (h1:i<32->Z1) (h2:i=32->Z2):
  ZA G0 20 142 0 0 (moS a b c o i) (rdM 0 0 9 (moS a b c o' (i+1)) (moR o) (moR o) (moR o) Z1 Z2 False False):=by
 refine @Eq.mpr _ (let g:=decide (wrap u64 ((↑i:Int)+1)=(↑(i+1):Int));let f:=decide (a=a);let e:=decide (b=b);let d:=decide (c=c);
 Z8 (decide ((↑i:Int)<32)) (Z8 (decide (wrap u32 (wrap u32 (Int.tmod (Zo u32 a (↑i:Int)) 2+Int.tmod (Zo u32 b (↑i:Int)) 2)+Int.tmod (Zo u32 c (↑i:Int)) 2)>=2)) (Z0 g (Z0 f (Z0 e (Z0 d (Z4 (wrap u32 (o+Zx u32 1 (↑i:Int))=o') Z1))))) (Z0 g (Z0 f (Z0 e (Z0 d (Z4 (o=o') Z1)))))) (Z4 (o=o) Z2)) (by kernel_rfl) ?_
 conv=>zeta
 try simp only [vcA]
 try simp only [vcB]
 try simp only [vcC]
 have hw:u64.wrap ((i:Int)+1)=((i+1:Nat):Int):=Zg5 (by omega)
 refine ⟨fun hlt=>⟨fun hc=> ?_,fun hc=> ?_⟩,fun hge=>h2 (by omega)⟩
 ·rw [if_pos hc] at ho
  exact ⟨hw,ho.symm,h1 (by omega)⟩
 ·rw [if_neg hc] at ho
  exact ⟨hw,ho.symm,h1 (by omega)⟩
theorem Zh2 (a b c o o':Int) (i:Nat) (Z1 Z2:Prop) (hi:i<=32) (ho:o'=u32.wrap (o+Zx .u32 (if Int.tmod (Zo .u32 a i) 2=1 then Int.tmod (Zo .u32 b i) 2 else Int.tmod (Zo .u32 c i) 2) i)) (h1:i<32->Z1) (h2:i=32->Z2):
  ZA G0 20 141 0 0 (moS a b c o i) (rdM 0 0 9 (moS a b c o' (i+1)) (moR o) (moR o) (moR o) Z1 Z2 False False):=by
 refine @Eq.mpr _ (let g:=decide (wrap u64 ((↑i:Int)+1)=(↑(i+1):Int));let f:=decide (a=a);let e:=decide (b=b);let d:=decide (c=c);
 Z8 (decide ((↑i:Int)<32)) (Z8 (Int.tmod (Zo u32 a (↑i:Int)) 2==1) (Z0 g (Z0 f (Z0 e (Z0 d (Z4 (wrap u32 (o+Zx u32 (Int.tmod (Zo u32 b (↑i:Int)) 2) (↑i:Int))=o') Z1))))) (Z0 g (Z0 f (Z0 e (Z0 d (Z4 (wrap u32 (o+Zx u32 (Int.tmod (Zo u32 c (↑i:Int)) 2) (↑i:Int))=o') Z1)))))) (Z4 (o=o) Z2)) (by kernel_rfl) ?_
 conv=>zeta
 try simp only [vcA]
 try simp only [vcB]
 try simp only [vcC]
 have hw:u64.wrap ((i:Int)+1)=((i+1:Nat):Int):=Zg5 (by omega)
 refine ⟨fun hlt=>⟨fun hc=> ?_,fun hc=> ?_⟩,fun hge=>h2 (by omega)⟩
 ·rw [if_pos (by simpa using hc)] at ho
  exact ⟨hw,ho.symm,h1 (by omega)⟩
 ·rw [if_neg (by simpa using hc)] at ho
  exact ⟨hw,ho.symm,h1 (by omega)⟩
@[irreducible] def X9 (a b c:Int):Int:=VA a b c 32
@[irreducible] def X3 (a b c:Int):Int:=U5 a b c 32
noncomputable def Zif (a b c:Int):Zg:=G0.withL 142 0 (goM 0 (moS a b c 0 0) True (Yn 0 32 9 (fun i=>i<32) (fun i=>i=32) (fun _=>False) (fun _=>False) (fun i=>moR (VA a b c i)) (fun i=>moR (VA a b c i)) (fun i=>moR (VA a b c i))))
theorem Zew (a b c:Int):(Zif a b c).Ok:=by
 refine Zg.withGoM (N:=20) (S:=fun i=>moS a b c (VA a b c i) i) Zv (by kernel_rfl) fun hC=>⟨rfl,fun i hi hgo=> ?_⟩
 simp_all [Zh1,VA]
noncomputable def Zig (a b c:Int):Zg:=G0.withL 141 0 (goM 0 (moS a b c 0 0) True (Yn 0 32 9 (fun i=>i<32) (fun i=>i=32) (fun _=>False) (fun _=>False) (fun i=>moR (U5 a b c i)) (fun i=>moR (U5 a b c i)) (fun i=>moR (U5 a b c i))))
theorem Zex (a b c:Int):(Zig a b c).Ok:=by
 refine Zg.withGoM (N:=20) (S:=fun i=>moS a b c (U5 a b c i) i) Zv (by kernel_rfl) fun hC=>⟨rfl,fun i hi hgo=> ?_⟩
 simp_all [Zh2,U5]
theorem Zh3 (a b c:Int) (o:Int) (ho:o=VA a b c 32):
  evF (Zif a b c) 20 142 [.int .u32 a,.int .u32 b,.int .u32 c] ⟨0,[]⟩ (Wd 0 [] (.int .u32 o) 0 []):=by
 refine @Eq.mpr _ (Z4 (a=a) (Z4 (b=b) (Z4 (c=c) (True/\∀(i:Nat),i<=32->(∀(j:Nat),j<i->(fun (i:Nat)=>i<32) j)->(i=32->Z4 (VA a b c i=o) True)/\(False->False)/\(False->False))))) (by kernel_rfl) ?_
 try simp only [vcA]
 try simp only [vcB]
 try simp only [vcC]
 subst ho
 exact fun i hi _=>⟨fun he=>by subst he;rfl,fun h=>h,fun h=>h⟩
theorem Zh4 (a b c:Int) (o:Int) (ho:o=U5 a b c 32):
  evF (Zig a b c) 20 141 [.int .u32 a,.int .u32 b,.int .u32 c] ⟨0,[]⟩ (Wd 0 [] (.int .u32 o) 0 []):=by
 refine @Eq.mpr _ (Z4 (a=a) (Z4 (b=b) (Z4 (c=c) (True/\∀(i:Nat),i<=32->(∀(j:Nat),j<i->(fun (i:Nat)=>i<32) j)->(i=32->Z4 (U5 a b c i=o) True)/\(False->False)/\(False->False))))) (by kernel_rfl) ?_
 try simp only [vcA]
 try simp only [vcB]
 try simp only [vcC]
 subst ho
 exact fun i hi _=>⟨fun he=>by subst he;rfl,fun h=>h,fun h=>h⟩
def Z2d (F:Int->Int->Int->Int):YK:=fun args _ K=>match args with
 | [.int .u32 a,.int .u32 b,.int .u32 c]=>K (.int .u32 (F a b c))
 | _=>False
theorem Z3o {f:FuncId} {F:Int->Int->Int->Int} (hp:∀a b c,Y8 PP f [.int .u32 a,.int .u32 b,.int .u32 c] (.int .u32 (F a b c)) 0 []) (args:List AV) (h:Z6) (K:AV->Prop) (hl:Z2d F args h K):Zh PP f args h fun o h'=>∃v,o=.ret v/\h'=h/\K v:=by
 unfold Z2d at hl
 split at hl
 ·rename_i a b c
  refine Z0q (d:=20) (K0:=fun l=>l=[.int .u32 a,.int .u32 b,.int .u32 c]) ?_ fun l e=>⟨_,by simp_all,fun _=>rfl,hl⟩
  rfl
 simp_all
def sg3 (a b c:Int) (w:Int):Int:=Yz .u32 (Yz .u32 (Z84 w (32-a)) (Z84 w (32-b))) (Z84 w (32-c))
def rg3 (a b n:Int) (w:Int):Int:=Yz .u32 (Yz .u32 (Z84 w (32-a)) (Z84 w (32-b))) (Zo .u32 w n)
def Z8k (bl:LI) (t:Nat):Int:=u32.wrap (u32.wrap (u32.wrap (Zx .u32 (u32.wrap (bl.getD (4*t) 0)) 24+Zx .u32 (u32.wrap (bl.getD (4*t+1) 0)) 16)+Zx .u32 (u32.wrap (bl.getD (4*t+2) 0)) 8)+u32.wrap (bl.getD (4*t+3) 0))
def Zcn (m:LI) (t:Nat):Int:=u32.wrap (u32.wrap (u32.wrap (rg3 17 19 10 (m.getD (t-2) 0)+m.getD (t-7) 0)+rg3 7 18 3 (m.getD (t-15) 0))+m.getD (t-16) 0)
def We (bl:LI):Nat->LI
 | 0=>List.replicate 64 0
 | t+1=>(We bl t).set t (if t<16 then Z8k bl t else Zcn (We bl t) t)
theorem Z3p (bl:LI):∀t,(We bl t).length=64
 | 0=>rfl
 | t+1=>by simp [We,Z3p bl t]
def prS (st bl m:LI) (i:Nat):St:=⟨146,[(6,.int .i64 i),(3,pt 1),(5,pt 3),(2,pt 0),(4,pt 2)],⟨4,[(3,.flat [.arr .u32 64 m]),(2,.flat [.arr .u32 8 [0,0,0,0,0,0,0,0]]),(1,.flat [.arr .u8 64 bl]),(0,.flat [.arr .u32 8 st])]⟩,[]⟩
theorem ZkM (st bl m m':LI) (i:Nat) (Z1 Z2:Prop) (hi:i<=64) (hm:m.length=64) (hm':m'=m.set i (if i<16 then Z8k bl i else Zcn m i)) (h1:i<64->Z1) (h2:i=64->Z2):
  ZA G0 20 110 0 0 (prS st bl m i) (rdM 0 0 9 (prS st bl m' (i+1)) (prS st bl m i) (prS st bl m i) (prS st bl m i) Z1 Z2 False False):=by
 refine @Eq.mpr _ (let b:=wrap i64 (4*(↑i:Int));let A:=0+Int.toNat b;let h:=wrap i64 (b+1);let u:=0+Int.toNat h;let f:=wrap i64 (b+2);let t:=0+Int.toNat f;let e:=wrap i64 (b+3);let s:=0+Int.toNat e;let r:=decide (0<=(↑i:Int)/\(↑i:Int)<64);let d:=0+Int.toNat (↑i:Int);let H:=decide (u32=u32/\d<64/\d<m.length);let G:=decide (wrap i64 ((↑i:Int)+1)=(↑(i+1):Int));let F:=[(0:Int),0,0,0,0,0,0,0];let E:=F=F;let D:=E/\bl=bl/\st=st/\Z1;let q:=wrap i64 ((↑i:Int)-2);let C:=0+Int.toNat q;let p:=wrap i64 ((↑i:Int)-7);let B:=0+Int.toNat p;let o:=decide (B<64);let n:=wrap i64 ((↑i:Int)-15);let z:=0+Int.toNat n;let y:=decide (z<64);let l:=wrap i64 ((↑i:Int)-16);let x:=0+Int.toNat l;let k:=decide (x<64);let j:=List.getD m x 0;let w:=decide (j=j);let a:=List.getD m z 0;let g:=List.getD m B 0;let v:=decide (g=g);let c:=List.getD m C 0;
 Z8 (decide ((↑i:Int)<64)) (Z8 (decide ((↑i:Int)<16)) (Z4 (0<=b/\b<64) (Z4 (A<64) (Z4 (0<=h/\h<64) (Z4 (u<64) (Z4 (0<=f/\f<64) (Z4 (t<64) (Z4 (0<=e/\e<64) (Z4 (s<64) (Z0 r (Z0 H (Z0 G (List.set m d (wrap u32 (wrap u32 (wrap u32 (Zx u32 (wrap u32 (List.getD bl A 0)) 24+Zx u32 (wrap u32 (List.getD bl u 0)) 16)+Zx u32 (wrap u32 (List.getD bl t 0)) 8)+wrap u32 (List.getD bl s 0)))=m'/\D)))))))))))) (Z4 (0<=q/\q<64) (Z4 (C<64) (Z4 (0<=p/\p<64) (Z0 o (Z4 (0<=n/\n<64) (Z0 y (Z4 (0<=l/\l<64) (Z0 k (Z0 k (Z0 w (Z0 y (Z4 (a=a) (Z0 o (Z0 v (Z0 k (Z0 w (Z0 o (Z0 v (Z0 r (Z0 H (Z0 G (List.set m d (wrap u32 (wrap u32 (wrap u32 (Yz u32 (Yz u32 (bOr u32 (Zx u32 c 15) (Zo u32 c 17)) (bOr u32 (Zx u32 c 13) (Zo u32 c 19))) (Zo u32 c 10)+g)+Yz u32 (Yz u32 (bOr u32 (Zx u32 a 25) (Zo u32 a 7)) (bOr u32 (Zx u32 a 14) (Zo u32 a 18))) (Zo u32 a 3))+j))=m'/\D))))))))))))))))))))))) (Z4 ((↑i:Int)=(↑i:Int)) (m=m/\E/\bl=bl/\st=st/\Z2))) (by kernel_rfl) ?_
 conv=>zeta
 try simp only [vcA]
 try simp only [vcB]
 try simp only [vcC]
 have hw:i64.wrap ((i:Int)+1)=((i+1:Nat):Int):=w64 (by omega)
 refine ⟨fun hlt=>⟨fun h16=> ?_,fun h16=> ?_⟩,fun hge=>h2 (by omega)⟩
 ·have e0:i64.wrap (4*(i:Int))=((4*i:Nat):Int):=by rw [w64 (by omega)];omega
  have e1:i64.wrap (((4*i:Nat):Int)+1)=((4*i+1:Nat):Int):=by rw [w64 (by omega)];omega
  have e2:i64.wrap (((4*i:Nat):Int)+2)=((4*i+2:Nat):Int):=by rw [w64 (by omega)];omega
  have e3:i64.wrap (((4*i:Nat):Int)+3)=((4*i+3:Nat):Int):=by rw [w64 (by omega)];omega
  rw [if_pos (by omega)] at hm'
  simp only [e0,e1,e2,e3,hw,JR]
  repeat' (first|(refine JG ?_ ?_)|intro _)
  all_goals first|omega|exact hm'.symm|exact h1 (by omega)|trivial
 ·have e0:i64.wrap ((i:Int)-2)=((i-2:Nat):Int):=by rw [w64 (by omega)];omega
  have e1:i64.wrap ((i:Int)-7)=((i-7:Nat):Int):=by rw [w64 (by omega)];omega
  have e2:i64.wrap ((i:Int)-15)=((i-15:Nat):Int):=by rw [w64 (by omega)];omega
  have e3:i64.wrap ((i:Int)-16)=((i-16:Nat):Int):=by rw [w64 (by omega)];omega
  rw [if_neg (by omega)] at hm'
  simp only [e0,e1,e2,e3,hw]
  repeat' (first|(refine JG ?_ ?_))
  all_goals first|omega|exact hm'.symm|exact h1 (by omega)|trivial
noncomputable def Zih (st bl:LI):Zg:=G0.withL 110 0 (goM 0 (prS st bl (List.replicate 64 0) 0) True (Yn 0 64 9 (fun i=>i<64) (fun i=>i=64) (fun _=>False) (fun _=>False) (fun i=>prS st bl (We bl i) i) (fun i=>prS st bl (We bl i) i) (fun i=>prS st bl (We bl i) i)))
theorem Zey (st bl:LI):(Zih st bl).Ok:=by
 refine Zg.withGoM (N:=20) (S:=fun i=>prS st bl (We bl i) i) Zv (by kernel_rfl) fun hC=>⟨rfl,fun i hi hgo=> ?_⟩
 simp_all [ZkM,We,Z3p]
noncomputable def E54 (M P:Int->Int->Int->Int):Zg:=(G0.withP 142 (Z2d M)).withP 141 (Z2d P)
theorem Zh5:(E54 X9 X3).Ok:=Zg.withP_ok (Zg.withP_ok Zv (Z3o fun a b c=>by unfold X9;exact .ev (Zew a b c) (Zh3 a b c _ rfl))) (Z3o fun a b c=>by unfold X3;exact .ev (Zex a b c) (Zh4 a b c _ rfl))
def Z1I (M P:Int->Int->Int->Int) (k m:Int) (x:LI):LI:=
 let one:=u32.wrap (u32.wrap (u32.wrap (u32.wrap (x.getD 7 0+sg3 6 11 25 (x.getD 4 0))+P (x.getD 4 0) (x.getD 5 0) (x.getD 6 0))+k)+m)
 [u32.wrap (one+u32.wrap (sg3 2 13 22 (x.getD 0 0)+M (x.getD 0 0) (x.getD 1 0) (x.getD 2 0))),x.getD 0 0,x.getD 1 0,x.getD 2 0,u32.wrap (x.getD 3 0+one),x.getD 4 0,x.getD 5 0,x.getD 6 0]
def UH (M P:Int->Int->Int->Int) (m st:LI):Nat->LI
 | 0=>st
 | t+1=>Z1I M P (Ve.getD t 0) (m.getD t 0) (UH M P m st t)
theorem Zax (M P:Int->Int->Int->Int) (m st:LI) (t:Nat):UH M P m st (t+1)=Z1I M P (Ve.getD t 0) (m.getD t 0) (UH M P m st t):=rfl
theorem Zay (M P:Int->Int->Int->Int) (m st:LI):UH M P m st 0=st:=rfl
theorem Z0w {M P:Int->Int->Int->Int} {m st:LI} (h:st.length=8):∀t,(UH M P m st t).length=8
 | 0=>h
 | _+1=>rfl
def prT (st k m x:LI) (i:Nat):St:=⟨146,[(9,.int .i64 i),(8,pt 6),(7,pt 5),(5,pt 3),(2,pt 0),(4,pt 2)],⟨7,[(6,.flat [.arr .u32 8 x]),(5,.flat [.arr .u32 64 k]),(3,.flat [.arr .u32 64 m]),(2,.flat [.arr .u32 8 [0,0,0,0,0,0,0,0]]),(0,.flat [.arr .u32 8 st])]⟩,[]⟩
def prU (st x:LI):St:=⟨146,[(8,pt 6),(2,pt 0),(4,pt 2)],⟨7,[(6,.flat [.arr .u32 8 x]),(2,.flat [.arr .u32 8 [0,0,0,0,0,0,0,0]]),(0,.flat [.arr .u32 8 st])]⟩,[]⟩
theorem ZkN (M P:Int->Int->Int->Int) (st k m x':LI) (x0 x1 x2 x3 x4 x5 x6 x7:Int) (i:Nat) (Z1 Z2:Prop) (hi:i<=64) (hx:x'=Z1I M P (k.getD i 0) (m.getD i 0) [x0,x1,x2,x3,x4,x5,x6,x7]) (h1:i<64->Z1) (h2:i=64->Z2):
  ZA (E54 M P) 20 110 2 0 (prT st k m [x0,x1,x2,x3,x4,x5,x6,x7] i) (rdM 0 2 9 (prT st k m x' (i+1)) (prU st [x0,x1,x2,x3,x4,x5,x6,x7]) (prU st [x0,x1,x2,x3,x4,x5,x6,x7]) (prU st [x0,x1,x2,x3,x4,x5,x6,x7]) Z1 Z2 False False):=by
 refine @Eq.mpr _ (let l:=decide (0<=(↑i:Int)/\(↑i:Int)<64);let a:=0+Int.toNat (↑i:Int);let h:=decide (a<64);let g:=decide (a<64);let c:=List.getD m a 0;let b:=List.getD k a 0;let f:=wrap u32 (wrap u32 (wrap u32 (wrap u32 (x7+Yz u32 (Yz u32 (bOr u32 (Zx u32 x4 26) (Zo u32 x4 6)) (bOr u32 (Zx u32 x4 21) (Zo u32 x4 11))) (bOr u32 (Zx u32 x4 7) (Zo u32 x4 25)))+P x4 x5 x6)+b)+c);let e:=[(0:Int),0,0,0,0,0,0,0];let d:=e=e;let j:=[x0,x1,x2,x3,x4,x5,x6,x7];
 Z8 (decide ((↑i:Int)<64)) (Z0 l (Z0 h (Z0 l (Z0 g (Z0 g (Z4 (c=c) (Z0 h (Z4 (b=b) (Z4 (x6=x6) (Z4 (x5=x5) (Z4 (x4=x4) (Z4 (x7=x7) (Z4 (x2=x2) (Z4 (x1=x1) (Z4 (x0=x0) (Z4 (wrap i64 ((↑i:Int)+1)=(↑(i+1):Int)) ([wrap u32 (f+wrap u32 (Yz u32 (Yz u32 (bOr u32 (Zx u32 x0 30) (Zo u32 x0 2)) (bOr u32 (Zx u32 x0 19) (Zo u32 x0 13))) (bOr u32 (Zx u32 x0 10) (Zo u32 x0 22))+M x0 x1 x2)),x0,x1,x2,wrap u32 (x3+f),x4,x5,x6]=x'/\k=k/\m=m/\d/\st=st/\Z1))))))))))))))))) (j=j/\d/\st=st/\Z2)) (by kernel_rfl) ?_
 conv=>zeta
 try simp only [vcA]
 try simp only [vcB]
 try simp only [vcC]
 have hw:i64.wrap ((i:Int)+1)=((i+1:Nat):Int):=w64 (by omega)
 refine ⟨fun hlt=> ?_,fun hge=>h2 (by omega)⟩
 rw [hw]
 repeat' (first|(refine JG ?_ ?_)|intro _)
 all_goals first|omega|exact hx.symm|exact h1 (by omega)|trivial
def prV (st x:LI) (i:Nat):St:=⟨146,[(12,.int .i64 i),(8,pt 6),(2,pt 0),(4,pt 2)],⟨7,[(6,.flat [.arr .u32 8 x]),(2,.flat [.arr .u32 8 [0,0,0,0,0,0,0,0]]),(0,.flat [.arr .u32 8 st])]⟩,[]⟩
def VB (st x:LI):Nat->LI
 | 0=>x
 | i+1=>(VB st x i).set i (u32.wrap ((VB st x i).getD i 0+st.getD i 0))
theorem Z3q {st x:LI} (h:x.length=8):∀i,(VB st x i).length=8
 | 0=>h
 | i+1=>by simp [VB,Z3q h i]
theorem ZkO (st x x':LI) (i:Nat) (Z1 Z2:Prop) (hi:i<=8) (hl:x.length=8) (hs:st.length=8) (hx:x'=x.set i (u32.wrap (x.getD i 0+st.getD i 0))) (h1:i<8->Z1) (h2:i=8->Z2):
  ZA G0 20 110 4 0 (prV st x i) (rdM 0 4 9 (prV st x' (i+1)) (prU st x) (prU st x) (prU st x) Z1 Z2 False False):=by
 refine @Eq.mpr _ (let b:=decide (0<=(↑i:Int)/\(↑i:Int)<8);let a:=0+Int.toNat (↑i:Int);let d:=[(0:Int),0,0,0,0,0,0,0];let c:=d=d;
 Z8 (decide ((↑i:Int)<8)) (Z0 b (Z4 (a<8) (Z0 b (Z4 (a<8) (Z0 b (Z4 (u32=u32/\a<8/\a<x.length) (Z4 (wrap i64 ((↑i:Int)+1)=(↑(i+1):Int)) (List.set x a (wrap u32 (List.getD x a 0+List.getD st a 0))=x'/\c/\st=st/\Z1)))))))) (x=x/\c/\st=st/\Z2)) (by kernel_rfl) ?_
 conv=>zeta
 try simp only [vcA]
 try simp only [vcB]
 try simp only [vcC]
 have hw:i64.wrap ((i:Int)+1)=((i+1:Nat):Int):=w64 (by omega)
 refine ⟨fun hlt=> ?_,fun hge=>h2 (by omega)⟩
 rw [hw]
 repeat' (first|(refine JG ?_ ?_)|intro _)
 all_goals first|omega|exact hx.symm|exact h1 (by omega)|trivial
def Zii (M P:Int->Int->Int->Int) (st m:LI):Nat->St->KE->Prop:=goM 0 (prT st Ve m st 0) (st.length=8) (Yn 2 64 9 (fun i=>i<64) (fun i=>i=64) (fun _=>False) (fun _=>False) (fun i=>prU st (UH M P m st i)) (fun i=>prU st (UH M P m st i)) (fun i=>prU st (UH M P m st i)))
theorem Zez (st m:LI):((E54 X9 X3).withL 110 2 (Zii X9 X3 st m)).Ok:=by
 refine Zg.withGoM (N:=20) (S:=fun i=>prT st Ve m (UH X9 X3 m st i) i) Zh5 (by kernel_rfl) fun hC=>⟨rfl,fun i hi hgo=> ?_⟩
 obtain ⟨x0,x1,x2,x3,x4,x5,x6,x7,e⟩:=eight _ (Z0w (M:=X9) (P:=X3) (m:=m) hC i)
 show ZA _ 20 110 2 0 (prT st Ve m (UH X9 X3 m st i) i) (rdM 0 2 9 (prT st Ve m (Z1I X9 X3 (Ve.getD i 0) (m.getD i 0) (UH X9 X3 m st i)) (i+1)) _ _ _ _ _ _ _)
 rw [e]
 exact ZkN X9 X3 st Ve m _ x0 x1 x2 x3 x4 x5 x6 x7 i _ _ hi rfl (fun h=>⟨h,h⟩) (fun h=>h)
def Zij (st x:LI):Nat->St->KE->Prop:=goM 0 (prV st x 0) (st.length=8/\x.length=8) (Yn 4 8 9 (fun i=>i<8) (fun i=>i=8) (fun _=>False) (fun _=>False) (fun i=>prU st (VB st x i)) (fun i=>prU st (VB st x i)) (fun i=>prU st (VB st x i)))
theorem ZeA (st x:LI):(G0.withL 110 4 (Zij st x)).Ok:=by
 refine Zg.withGoM (N:=20) (S:=fun i=>prV st (VB st x i) i) Zv (by kernel_rfl) fun hC=>⟨rfl,fun i hi hgo=> ?_⟩
 simp_all [ZkO,VB,Z3q]
noncomputable def Zik (M P:Int->Int->Int->Int) (st bl m x:LI):Zg:=((Zih st bl).withL 110 2 (Zii M P st m)).withL 110 4 (Zij st x)
theorem ZeB (st bl m x:LI):(Zik X9 X3 st bl m x).Ok:=by
 exact Zg.withL_join (H:=G0) (Zg.withL_join (H:=E54 X9 X3) (Zey st bl) rfl (Zez st m)) rfl (ZeA st x)
@[irreducible] def Xt (st bl:LI):LI:=VB st (UH X9 X3 (We bl 64) st 64) 8
attribute [irreducible] We UH VB
theorem ZkP (M P:Int->Int->Int->Int) (st bl m x r:LI) (hst:st.length=8) (hm:m=We bl 64) (hx:x=UH M P m st 64) (hr:r=VB st x 8):
  evF (Zik M P st bl m x) 20 110 [.agg [.arr .u32 8 st],.agg [.arr .u8 64 bl]] ⟨0,[]⟩ (Wd 0 [] (.agg [.arr .u32 8 r]) 0 []):=by
 refine @Eq.mpr _ ((0:Int)::(0:Int)::(0:Int)::(0:Int)::(0:Int)::(0:Int)::(0:Int)::(0:Int)::(0:Int)::(0:Int)::(0:Int)::(0:Int)::(0:Int)::(0:Int)::(0:Int)::(0:Int)::(0:Int)::(0:Int)::(0:Int)::(0:Int)::(0:Int)::(0:Int)::(0:Int)::(0:Int)::(0:Int)::(0:Int)::(0:Int)::(0:Int)::(0:Int)::(0:Int)::(0:Int)::(0:Int)::Ze=(0:Int)::(0:Int)::(0:Int)::(0:Int)::(0:Int)::(0:Int)::(0:Int)::(0:Int)::(0:Int)::(0:Int)::(0:Int)::(0:Int)::(0:Int)::(0:Int)::(0:Int)::(0:Int)::(0:Int)::(0:Int)::(0:Int)::(0:Int)::(0:Int)::(0:Int)::(0:Int)::(0:Int)::(0:Int)::(0:Int)::(0:Int)::(0:Int)::(0:Int)::(0:Int)::(0:Int)::(0:Int)::Ze/\
 [(0:Int),(0:Int),(0:Int),(0:Int),(0:Int),(0:Int),(0:Int),(0:Int)]=[(0:Int),(0:Int),(0:Int),(0:Int),(0:Int),(0:Int),(0:Int),(0:Int)]/\
 bl=bl/\
 st=st/\
 True/\
 ∀(i:Nat),
 i<=(64:Nat)->
 (∀(j:Nat),j<i->(fun (i:Nat)=>i<(64:Nat)) j)->
 (i=(64:Nat)->
 st=st/\
 [(1116352408:Int),(1899447441:Int),(3049323471:Int),(3921009573:Int),(961987163:Int),(1508970993:Int),(2453635748:Int),(2870763221:Int),(3624381080:Int),(310598401:Int),(607225278:Int),(1426881987:Int),(1925078388:Int),(2162078206:Int),(2614888103:Int),(3248222580:Int),(3835390401:Int),(4022224774:Int),(264347078:Int),(604807628:Int),(770255983:Int),(1249150122:Int),(1555081692:Int),(1996064986:Int),(2554220882:Int),(2821834349:Int),(2952996808:Int),(3210313671:Int),(3336571891:Int),(3584528711:Int),(113926993:Int),(338241895:Int),(666307205:Int),(773529912:Int),(1294757372:Int),(1396182291:Int),(1695183700:Int),(1986661051:Int),(2177026350:Int),(2456956037:Int),(2730485921:Int),(2820302411:Int),(3259730800:Int),(3345764771:Int),(3516065817:Int),(3600352804:Int),(4094571909:Int),(275423344:Int),(430227734:Int),(506948616:Int),
 (659060556:Int),(883997877:Int),(958139571:Int),(1322822218:Int),(1537002063:Int),(1747873779:Int),(1955562222:Int),(2024104815:Int),(2227730452:Int),(2361852424:Int),(2428436474:Int),(2756734187:Int),(3204031479:Int),(3329325298:Int)]=
 Ve/\
 We bl i=m/\
 [(0:Int),(0:Int),(0:Int),(0:Int),(0:Int),(0:Int),(0:Int),(0:Int)]=[(0:Int),(0:Int),(0:Int),(0:Int),(0:Int),(0:Int),(0:Int),(0:Int)]/\st=st/\st.length=(8:Nat)/\∀(i:Nat),i<=(64:Nat)->(∀(j:Nat),j<i->(fun (i:Nat)=>i<(64:Nat)) j)->(i=(64:Nat)->UH M P m st i=x/\[(0:Int),(0:Int),(0:Int),(0:Int),(0:Int),(0:Int),(0:Int),(0:Int)]=[(0:Int),(0:Int),(0:Int),(0:Int),(0:Int),(0:Int),(0:Int),(0:Int)]/\st=st/\(st.length=(8:Nat)/\x.length=(8:Nat))/\∀(i:Nat),i<=(8:Nat)->(∀(j:Nat),j<i->(fun (i:Nat)=>i<(8:Nat)) j)->(i=(8:Nat)->VB st x i=r/\True)/\(False->[(0:Int),(0:Int),(0:Int),(0:Int),(0:Int),(0:Int),(0:Int),(0:Int)]=r/\True)/\(False->False))/\(False->[(0:Int),(0:Int),(0:Int),(0:Int),(0:Int),(0:Int),(0:Int),(0:Int)]=r/\True)/\(False->False))/\
 (False->[(0:Int),(0:Int),(0:Int),(0:Int),(0:Int),(0:Int),(0:Int),(0:Int)]=r/\True)/\(False->False)) (by kernel_rfl) ?_
 try simp only [vcA]
 try simp only [vcB]
 try simp only [vcC]
 subst hm
 have hl:x.length=8:=by rw [hx];exact Z0w hst _
 exact fun i _ _=>⟨fun he=>⟨by kernel_rfl,by rw [he],hst,fun j _ _=>⟨fun hj=>⟨by rw [hj,hx],⟨hst,hl⟩,fun q _ _=>⟨fun hq=>by rw [hq,hr],fun h=>h.elim,fun h=>h⟩⟩,fun h=>h.elim,fun h=>h⟩⟩,fun h=>h.elim,fun h=>h⟩
theorem Z6J (st bl:LI) (h:st.length=8):Y8 PP 110 [.agg [.arr .u32 8 st],.agg [.arr .u8 64 bl]] (.agg [.arr .u32 8 (Xt st bl)]) 0 []:=by
 unfold Xt
 exact .ev (ZeB st bl _ _) (ZkP X9 X3 st bl _ _ _ h rfl rfl rfl)
theorem Z5H {st:LI} (h:st.length=8):(Xt st bl).length=8:=by simp_all [Xt,Z3q,Z0w]
def ZeC (n i:Int):Int:=u8.wrap (Int.tmod (Zo .u64 (u64.wrap (u64.wrap n*8)) (u64.wrap (i64.wrap (56-i64.wrap (8*i))))) 256)
def Wf (n:Int):Nat->LI
 | 0=>[]
 | i+1=>Wf n i++[ZeC n i]
theorem Z3r (n:Int):∀i,(Wf n i).length=i
 | 0=>rfl
 | i+1=>by rw [Wf,J3,Z3r n i];rfl
def paS (bs ys:LI) (n L i:Nat):St:=⟨39,[(5,.int .i64 i),(4,.nslice ⟨3,0,0,0,0⟩ 1 L L),(0,.vints .u8 bs n)],⟨4,[(3,.ints .u8 ys)]⟩,[]⟩
theorem Zil (bs ys zs:LI) (n L L' i:Nat) (Z1 Z2:Prop) (hi:i<=8) (hL:ys.length=L) (hb:L<10000000000000) (hz:zs=ys++[ZeC n i]) (hL':L'=zs.length) (h1:i<8->Z1) (h2:i=8->Z2):
  ZA G0 20 109 0 0 (paS bs ys n L i) (rdM 0 0 9 (paS bs zs n L' (i+1)) (paS bs ys n L i) (paS bs ys n L i) (paS bs ys n L i) Z1 Z2 False False):=by
 refine @Eq.mpr _ (let d:=wrap u64 (wrap i64 (56-wrap i64 (8*(↑i:Int))));let c:=ys++[wrap u8 (Int.tmod (Zo u64 (wrap u64 (wrap u64 (↑n:Int)*8)) d) 256)];let a:=c.length;let b:=decide (n=n);
 Z8 (decide ((↑i:Int)<8)) (Z4 (0<=d) (Z4 (u8=u8/\ys.length=L) (Z4 (a*1<=140737488355328) (Z4 (wrap i64 ((↑i:Int)+1)=(↑(i+1):Int)) (Z4 (a=L') (Z4 (L'<=a) (bs=bs/\Z0 b (c=zs/\Z1)))))))) (Z4 ((↑i:Int)=(↑i:Int)) (Z4 (L=L) (Z4 (L<=L) (bs=bs/\Z0 b (ys=ys/\Z2)))))) (by kernel_rfl) ?_
 conv=>zeta
 try simp only [vcA]
 try simp only [vcB]
 try simp only [vcC]
 have hw:i64.wrap ((i:Int)+1)=((i+1:Nat):Int):=w64 (by omega)
 refine ⟨fun hlt=> ?_,fun hge=>h2 (by omega)⟩
 have hz':zs.length=L+1:=by rw [hz,J3,hL];rfl
 have h0:0<=u64.wrap (i64.wrap (56-i64.wrap (8*(i:Int)))):=by
  unfold wrap
  simp [IntKind.bits,IntKind.signed]
  omega
 simp only [J3,Jt,JZ]
 rw [hw]
 repeat' (first|(refine JG ?_ ?_)|intro _)
 all_goals first|exact h0|omega|exact hz.symm|exact h1 (by omega)|trivial
noncomputable def Zim (bs y:LI) (n:Nat):Zg:=G0.withL 109 0 (goM 0 (paS bs (y++Wf n 0) n (y++Wf n 0).length 0) (y.length<=1000000000000) (Yn 0 8 9 (fun i=>i<8) (fun i=>i=8) (fun _=>False) (fun _=>False) (fun i=>paS bs (y++Wf n i) n (y++Wf n i).length i) (fun i=>paS bs (y++Wf n i) n (y++Wf n i).length i) (fun i=>paS bs (y++Wf n i) n (y++Wf n i).length i)))
theorem ZeD (bs y:LI) (n:Nat):(Zim bs y n).Ok:=by
 refine Zg.withGoM (N:=20) (S:=fun i=>paS bs (y++Wf n i) n (y++Wf n i).length i) Zv (by kernel_rfl) fun hC=>⟨rfl,fun i hi hgo=> ?_⟩
 grind [Wf,Z3r,Zil]
def Z1V (n:Nat):LI:=List.replicate (Int.tmod (i64.wrap (128-Int.tmod (i64.wrap ((n:Int)+9)) 64)) 64).toNat 0
@[irreducible] def QX (bs:LI):LI:=(bs++[128]++Z1V bs.length)++Wf bs.length 8
theorem Zh6 (n:Nat) (h:n<=100000000000):Int.tmod (i64.wrap (128-Int.tmod (i64.wrap ((n:Int)+9)) 64)) 64=(128-((n:Int)+9)%64)%64:=by
 have e1:i64.wrap ((n:Int)+9)=(n:Int)+9:=w64 (by omega)
 have e2:Int.tmod ((n:Int)+9) 64=((n:Int)+9)%64:=tm (by omega)
 have e3:i64.wrap (128-((n:Int)+9)%64)=128-((n:Int)+9)%64:=w64 (by omega)
 rw [e1,e2,e3,tm (by omega)]
theorem Zco (n:Nat) (h:n<=100000000000):(Z1V n).length<=64:=by
 grind [Z1V]
theorem Zin (bs y r:LI) (n L:Nat) (hn:bs.length=n) (hb:n<=100000000000) (hy:y=bs++[128]++Z1V n) (hr:r=y++Wf n 8) (hL:L=r.length):
  evF (Zim bs y n) 20 109 [.vints .u8 bs n] ⟨0,[]⟩ (Y4 0 (.ret (.nslice ⟨0,0,0,0,0⟩ 1 L L)) 1 [(0,.ints .u8 r)]):=by
 refine @Eq.mpr _ (let o:=[]++List.take n bs;let b:=o.length;let h:=o++[(128:Int)];let a:=h.length;let g:=Int.tmod (wrap i64 (128-Int.tmod (wrap i64 (↑n+9)) 64)) 64;let f:=Int.toNat g;let e:=h++List.replicate f 0;let d:=e.length;let c:=y++Wf (↑n) 0;let m:=c.length;
 Z4 (b*1<=140737488355328) (Z4 (u8=u8/\b=b) (Z4 (a*1<=140737488355328) (Z4 (u8=u8/\a=a) (Z4 ((0:Int)=0/\0<=g/\(a+f)*1<=140737488355328) (Z4 (d=m) (Z4 (m<=d) (bs=bs/\
 Z4 (n=n) (e=c/\
 y.length<=1000000000000/\
 ∀(i:Nat),
 let l:=y++Wf (↑n) i;let k:=l.length;
 i<=8->(∀(j:Nat),j<i->(fun (i:Nat)=>i<8) j)->(i=8->Z4 (k=L) (Z4 (L<=k) (l=r/\True)))/\(False->False)/\(False->False)))))))))) (by kernel_rfl) ?_
 conv=>zeta
 try simp only [vcA]
 try simp only [vcB]
 try simp only [vcC]
 have ht:List.take n bs=bs:=by rw [<-hn];exact Jr
 have hz:=Zco n hb
 have hx:=Zh6 n hb
 have e0:[]++List.take n bs++[128]++List.replicate (Int.tmod (i64.wrap (128-Int.tmod (i64.wrap ((n:Int)+9)) 64)) 64).toNat 0=y++Wf n 0:=by rw [ht,hy];simp [Z1V,Wf]
 have hyl:y.length=n+1+(Z1V n).length:=by rw [hy,J3,J3,hn];rfl
 subst hL hr
 simp only [e0,ht,J3,Jt,JZ,hn,Kl]
 refine ⟨by omega,by omega,⟨by omega,by omega⟩, ?_, ?_, ?_,by omega,fun i hi _=>⟨fun he=>by subst he;exact ⟨rfl,J1 _,rfl⟩,fun h=>h,fun h=>h⟩⟩
 ·rw [hyl];unfold Z1V Wf;rfl
 ·rw [hyl];unfold Z1V Wf;exact J1 _
 ·rw [hy];simp [Z1V,Wf]
theorem Zaz (bs:LI) (h:bs.length<=100000000000):Y8 PP 109 [.vints .u8 bs bs.length] (.nslice ⟨0,0,0,0,0⟩ 1 (QX bs).length (QX bs).length) 1 [(0,.ints .u8 (QX bs))]:=.evM (ZeD bs _ _) (Zin bs _ _ _ _ rfl h rfl (by unfold QX;rfl) rfl)
def Zg6 (P:LI->LI) (B:Nat):ZJ:=fun args h K=>X1 none h true 20 args fun a=>QR a fun xs=>Z4 (xs.length<=B) (K (.ret (.nslice ⟨h.next,0,0,0,0⟩ 1 (P xs).length (P xs).length)) ⟨h.next+1,(h.next,.ints .u8 (P xs))::h.bs⟩)
theorem Zcp (B:Nat) (hB:B<=100000000000) (args:List AV) (h:Z6) (K:KO) (hl:Zg6 QX B args h K):Zh PP 109 args h K:=by
 refine Y8.fsumm (d:=20) (YJ _ _ _ _ _ hl fun a ha=> ?_)
 obtain ⟨xs,rfl,hK⟩:=Vw ha
 obtain ⟨hx,hK⟩:=Zd hK
 exact ⟨_,_,_,_,Zaz xs (Ka hx hB),rfl,⟨Ks,.ints _ _,trivial⟩,hK⟩
def toE (x d:Int):Int:=u8.wrap (Int.tmod (u32.wrap (Int.tdiv x d)) 256)
def toN (x:LI):Nat->LI
 | 0=>Ze
 | i+1=>((((toN x i).set (4*i) (u8.wrap (u32.wrap (Int.tdiv (x.getD i 0) 16777216)))).set (4*i+1) (toE (x.getD i 0) 65536)).set (4*i+2) (toE (x.getD i 0) 256)).set (4*i+3) (u8.wrap (Int.tmod (x.getD i 0) 256))
theorem Z5I (x:LI):∀i,(toN x i).length=32
 | 0=>rfl
 | i+1=>by simp [toN,Z5I x i]
def toS (x h:LI) (i:Nat):St:=⟨47,[(4,.int .i64 i),(1,pt 0),(3,pt 2),(2,pt 1)],⟨3,[(2,.flat [.arr .u8 32 h]),(1,.flat [.arr .u8 32 Ze]),(0,.flat [.arr .u32 8 x])]⟩,[]⟩
theorem ZkQ (x h h':LI) (i:Nat) (Z1 Z2:Prop) (hi:i<=8) (hl:h.length=32) (hh:h'=(((h.set (4*i) (u8.wrap (u32.wrap (Int.tdiv (x.getD i 0) 16777216)))).set (4*i+1) (toE (x.getD i 0) 65536)).set (4*i+2) (toE (x.getD i 0) 256)).set (4*i+3) (u8.wrap (Int.tmod (x.getD i 0) 256))) (h1:i<8->Z1) (h2:i=8->Z2):
  ZA G0 20 111 0 0 (toS x h i) (rdM 0 0 9 (toS x h' (i+1)) (toS x h i) (toS x h i) (toS x h i) Z1 Z2 False False):=by
 refine @Eq.mpr _ (let d:=decide (0<=(↑i:Int)/\(↑i:Int)<8);let o:=0+Int.toNat (↑i:Int);let c:=decide (o<8);let a:=wrap i64 (4*(↑i:Int));let g:=0+Int.toNat a;let f:=wrap i64 (a+1);let e:=0+Int.toNat f;let b:=List.getD x o 0;let n:=List.set h g (wrap u8 (wrap u32 (Int.tdiv b 16777216)));let m:=wrap i64 (a+2);let l:=0+Int.toNat m;let q:=List.set n e (wrap u8 (Int.tmod (wrap u32 (Int.tdiv b 65536)) 256));let k:=wrap i64 (a+3);let j:=0+Int.toNat k;let p:=List.set q l (wrap u8 (Int.tmod (wrap u32 (Int.tdiv b 256)) 256));
 Z8 (decide ((↑i:Int)<8)) (Z0 d (Z0 c (Z4 (0<=a/\a<32) (Z4 (u8=u8/\g<32/\g<h.length) (Z0 d (Z0 c (Z4 (0<=f/\f<32) (Z4 (u8=u8/\e<32/\e<n.length) (Z0 d (Z0 c (Z4 (0<=m/\m<32) (Z4 (u8=u8/\l<32/\l<q.length) (Z0 d (Z0 c (Z4 (0<=k/\k<32) (Z4 (u8=u8/\j<32/\j<p.length) (Z4 (wrap i64 ((↑i:Int)+1)=(↑(i+1):Int)) (List.set p j (wrap u8 (Int.tmod b 256))=h'/\Ze=Ze/\x=x/\Z1)))))))))))))))))) (Z4 ((↑i:Int)=(↑i:Int)) (h=h/\Ze=Ze/\x=x/\Z2))) (by kernel_rfl) ?_
 conv=>zeta
 try simp only [vcA]
 try simp only [vcB]
 try simp only [vcC]
 have hw:i64.wrap ((i:Int)+1)=((i+1:Nat):Int):=w64 (by omega)
 refine ⟨fun hlt=> ?_,fun hge=>h2 (by omega)⟩
 have e0:i64.wrap (4*(i:Int))=((4*i:Nat):Int):=by rw [w64 (by omega)];omega
 have e1:i64.wrap (((4*i:Nat):Int)+1)=((4*i+1:Nat):Int):=by rw [w64 (by omega)];omega
 have e2:i64.wrap (((4*i:Nat):Int)+2)=((4*i+2:Nat):Int):=by rw [w64 (by omega)];omega
 have e3:i64.wrap (((4*i:Nat):Int)+3)=((4*i+3:Nat):Int):=by rw [w64 (by omega)];omega
 simp only [e0,e1,e2,e3,hw,JR,Kk]
 repeat' (first|(refine JG ?_ ?_)|intro _)
 all_goals first|omega|exact hh.symm|exact h1 (by omega)|trivial
noncomputable def Zio (x:LI):Zg:=G0.withL 111 0 (goM 0 (toS x Ze 0) True (Yn 0 8 9 (fun i=>i<8) (fun i=>i=8) (fun _=>False) (fun _=>False) (fun i=>toS x (toN x i) i) (fun i=>toS x (toN x i) i) (fun i=>toS x (toN x i) i)))
theorem ZeE (x:LI):(Zio x).Ok:=by
 refine Zg.withGoM (N:=20) (S:=fun i=>toS x (toN x i) i) Zv (by kernel_rfl) fun hC=>⟨rfl,fun i hi hgo=> ?_⟩
 simp_all [ZkQ,toN,Z5I]
@[irreducible] def Qv (x:LI):LI:=toN x 8
attribute [irreducible] toN
theorem ZkR (x r:LI) (hr:r=toN x 8):
  evF (Zio x) 20 111 [.agg [.arr .u32 8 x]] ⟨0,[]⟩ (Wd 0 [] (.agg [.arr .u8 32 r]) 0 []):=by
 refine @Eq.mpr _ (Ze=Ze/\Ze=Ze/\x=x/\True/\∀(i:Nat),i<=8->(∀(j:Nat),j<i->(fun (i:Nat)=>i<8) j)->(i=8->toN x i=r/\True)/\(False->Ze=r/\True)/\(False->False)) (by kernel_rfl) ?_
 try simp only [vcA]
 try simp only [vcB]
 try simp only [vcC]
 subst hr
 exact fun i hi _=>⟨fun he=>by subst he;rfl,fun h=>h.elim,fun h=>h⟩
def Zcq (T:LI->LI):YK:=fun args _ K=>match args with
 | [.agg [.arr .u32 8 x]]=>K (.agg [.arr .u8 32 (T x)])
 | _=>False
theorem Zcr (args:List AV) (h:Z6) (K:AV->Prop) (hl:Zcq Qv args h K):Zh PP 111 args h fun o h'=>∃v,o=.ret v/\h'=h/\K v:=by
 unfold Zcq at hl
 split at hl
 ·rename_i x
  refine Z0q (d:=20) (K0:=fun l=>l=[.agg [.arr .u32 8 x]]) ?_ fun l e=>⟨_,by rw [e];exact (by unfold Qv;exact .ev (ZeE x) (ZkR x _ rfl)),fun _=>rfl,hl⟩
  rfl
 simp_all
def Z5J (P:LI->LI->LI):YK:=fun args _ K=>match args with
 | [.agg [.arr .u32 8 st],.agg [.arr .u8 64 bl]]=>Z4 (st.length=8) (K (.agg [.arr .u32 8 (P st bl)]))
 | _=>False
structure Qb (P:LI->LI->LI):Prop where
 pure:∀st bl,st.length=8->Y8 PP 110 [.agg [.arr .u32 8 st],.agg [.arr .u8 64 bl]] (.agg [.arr .u32 8 (P st bl)]) 0 []
 len:∀st bl,st.length=8->(P st bl).length=8
theorem Z8l {P:LI->LI->LI} (hP:Qb P) (args:List AV) (h:Z6) (K:AV->Prop) (hl:Z5J P args h K):Zh PP 110 args h fun o h'=>∃v,o=.ret v/\h'=h/\K v:=by
 unfold Z5J at hl
 split at hl
 ·rename_i st bl
  obtain ⟨hs,hK⟩:=Zd hl
  refine Z0q (d:=20) (K0:=fun l=>l=[.agg [.arr .u32 8 st],.agg [.arr .u8 64 bl]]) ?_ fun l e=>⟨_,by rw [e];exact hP.pure st bl hs,fun _=>rfl,hK⟩
  rfl
 simp_all
noncomputable def E56 (P:LI->LI->LI) (Q:LI->LI) (T:LI->LI) (B:Nat):Zg:=((G0.withP 110 (Z5J P)).withF 109 (Zg6 Q B)).withP 111 (Zcq T)
theorem Zh7 {P:LI->LI->LI} (hP:Qb P) (hB:B<=100000000000):(E56 P QX Qv B).Ok:=Zg.withP_ok (Zg.withF_ok (Zg.withP_ok Zv (Z8l hP)) (Zcp B hB)) Zcr
def ZeF (ys st:LI) (o n:Nat):St:=⟨21,[(4,.nslice ⟨3,0,0,0,o⟩ 1 n n),(3,pt 2),(2,pt 0)],⟨4,[(3,.ints .u8 ys),(2,.flat [.arr .u32 8 st]),(0,.flat [.arr .u8 32 Ze])]⟩,[]⟩
def ZaA (st:LI):St:=⟨21,[(3,pt 2),(2,pt 0)],⟨4,[(2,.flat [.arr .u32 8 st]),(0,.flat [.arr .u8 32 Ze])]⟩,[]⟩
theorem Zip (P:LI->LI->LI) (Q:LI->LI) (T:LI->LI) (B:Nat) (ys st st':LI) (o o' n n' k i:Nat) (Z1 Z2:Prop) (hi:i<=k) (hk:ys.length=64*k) (ho:o=64*i) (ho':o'=64*(i+1)) (hn:n=64*k-64*i) (hn':n'=64*k-64*(i+1)) (hs:st.length=8) (hst:st'=P st ((ys.drop o).take 64)) (h1:i<k->Z1) (h2:i=k->Z2):
  ZA (E56 P Q T B) 20 77 0 0 (ZeF ys st o n) (rdM 0 0 9 (ZeF ys st' o' n') (ZaA st) (ZaA st) (ZaA st) Z1 Z2 False False):=by
 refine @Eq.mpr _ (let c:=decide (n<=n);let b:=decide ((0:Int)<=64/\64<=(↑n:Int));let a:=U9 n (some 64);
 Z8 (decide ((↑n:Int)>0)) (Z0 c (Z0 b (Z4 (o+0+64<=ys.length) (Z4 (st.length=8) (Z0 c (Z0 b (Z4 (o+64=o') (Z4 (a=n') (Z4 (n'<=a) (ys=ys/\P st (List.take 64 (List.drop (o+0) ys))=st'/\Ze=Ze/\Z1)))))))))) (st=st/\Ze=Ze/\Z2)) (by kernel_rfl) ?_
 conv=>zeta
 try simp only [vcA]
 try simp only [vcB]
 try simp only [vcC]
 refine ⟨fun hlt=> ?_,fun hge=>h2 (by omega)⟩
 have e1:n-64=n':=by omega
 have e2:o+64=o':=by omega
 simp only [U9,e1,e2,Ki]
 repeat' (first|(refine JG ?_ ?_)|intro _)
 all_goals first|omega|exact hst.symm|exact h1 (by omega)|trivial
def Z0x (P:LI->LI->LI) (ys:LI):Nat->LI
 | 0=>YR.st
 | i+1=>P (Z0x P ys i) ((ys.drop (64*i)).take 64)
theorem Z6K {P:LI->LI->LI} (hP:Qb P) (ys:LI):∀i,(Z0x P ys i).length=8
 | 0=>rfl
 | i+1=>hP.len _ _ (Z6K hP ys i)
theorem Z4C (P:LI->LI->LI) (ys:LI):Z0x P ys 0=YR.st:=rfl
theorem Z4D (P:LI->LI->LI) (ys:LI) (i:Nat):Z0x P ys (i+1)=P (Z0x P ys i) ((ys.drop (64*i)).take 64):=rfl
attribute [irreducible] Z0x
noncomputable def Ziq (P:LI->LI->LI) (Q:LI->LI) (T:LI->LI) (B:Nat) (ys:LI) (L k:Nat):Zg:=(E56 P Q T B).withL 77 0 (goM 0 (ZeF ys [1779033703,3144134277,1013904242,2773480762,1359893119,2600822924,528734635,1541459225] 0 L) (ys.length=64*k/\L=64*k) (Yn 0 k 9 (fun i=>i<k) (fun i=>i=k) (fun _=>False) (fun _=>False) (fun i=>ZaA (Z0x P ys i)) (fun i=>ZaA (Z0x P ys i)) (fun i=>ZaA (Z0x P ys i))))
theorem ZeG {P:LI->LI->LI} (hP:Qb P) (hB:B<=100000000000) (ys:LI) (L k:Nat):(Ziq P QX Qv B ys L k).Ok:=by
 refine Zg.withGoM (N:=20) (S:=fun i=>ZeF ys (Z0x P ys i) (64*i) (64*k-64*i)) (Zh7 hP hB) (by kernel_rfl) fun hC=>⟨?_,fun i hi hgo=> ?_⟩
 ·rw [hC.2,Z4C];rfl
 grind [Zip,Z6K,Z4D]
theorem Zir (P:LI->LI->LI) (Q:LI->LI) (T:LI->LI) (B:Nat) (bs ys r:LI) (n L k:Nat) (hn:n=bs.length) (hB:n<=B) (hy:ys=Q bs) (hL:L=ys.length) (hk:ys.length=64*k) (hr:r=T (Z0x P ys k)):
  evF (Ziq P Q T B ys L k) 20 77 [.vints .u8 bs n] ⟨0,[]⟩ (Wd 0 [] (.agg [.arr .u8 32 r]) 0 []):=by
 refine @Eq.mpr _ (let a:=[(1779033703:Int),3144134277,1013904242,2773480762,1359893119,2600822924,528734635,1541459225];
 Z4 (n=bs.length) (Z4 (bs.length<=B) (Z4 (List.length (Q bs)=L) (Z4 (L<=List.length (Q bs)) (Q bs=ys/\a=a/\Ze=Ze/\(ys.length=64*k/\L=64*k)/\∀(i:Nat),i<=k->(∀(j:Nat),j<i->(fun (i:Nat)=>i<k) j)->(i=k->T (Z0x P ys i)=r/\True)/\(False->Ze=r/\True)/\(False->False)))))) (by kernel_rfl) ?_
 conv=>zeta
 try simp only [vcA]
 try simp only [vcB]
 try simp only [vcC]
 subst hy hr
 refine ⟨hn,by omega, ?_⟩
 exact ⟨hL.symm,by omega,rfl,⟨hk,by omega⟩,fun i hi _=>⟨fun he=>by rw [he],fun h=>h.elim,fun h=>h⟩⟩
theorem Zcs (bs:LI) (h:bs.length<=100000000000):(QX bs).length=64*((QX bs).length/64):=by
 grind [QX,Z1V,Zh6,Z3r]
@[irreducible] def Zct (P:LI->LI->LI) (bs:LI):LI:=Qv (Z0x P (QX bs) ((QX bs).length/64))
theorem ZaB {P:LI->LI->LI} (hP:Qb P) (bs:LI) (h:bs.length<=100000000000):Y8 PP 77 [.vints .u8 bs bs.length] (.agg [.arr .u8 32 (Zct P bs)]) 0 []:=by
 unfold Zct
 exact .ev (ZeG hP (J1 _) _ _ _) (Zir P QX Qv 100000000000 bs _ _ _ _ _ rfl h rfl rfl (Zcs bs h) rfl)
def Z9l (H:LI->LI) (B:Nat):YK:=fun args h K=>X1 none h true 20 args fun a=>QR a fun xs=>Z4 (xs.length<=B) (K (.agg [.arr .u8 32 (H xs)]))
theorem Zcu {f:FuncId} (hp:∀xs:LI,xs.length<=B->Y8 PP f [.vints .u8 xs xs.length] (.agg [.arr .u8 32 (H xs)]) 0 []) (args:List AV) (h:Z6) (K:AV->Prop) (hl:Z9l H B args h K):Zh PP f args h fun o h'=>∃v,o=.ret v/\h'=h/\K v:=by
 refine Y8.psumm (d:=20) (YJ _ _ _ _ _ hl fun a ha=> ?_)
 obtain ⟨xs,rfl,hK⟩:=Vw ha
 obtain ⟨hx,hK⟩:=Zd hK
 exact ⟨_,hp xs hx,fun _=>rfl,hK⟩
def U32 (x:Int):Prop:=0<=x/\x<4294967296
theorem Z6L (x:Int):u32.wrap x=x%4294967296:=by
 simp_all [wrap,IntKind.bits,IntKind.signed]
theorem Z3s (x:Int):U32 (u32.wrap x):=by rw [Z6L];unfold U32;omega
theorem Xu {x:Int} (h:U32 x):u32.wrap x=x:=by rw [Z6L];unfold U32 at h;omega
theorem wr8 (x:Int):u8.wrap x=x%256:=by
 simp_all [wrap,IntKind.bits,IntKind.signed]
theorem Zis (x y:Int):U32 (bOr .u32 x y):=Z3s _
theorem WL (x y:Nat) (hx:x<4294967296) (hy:y<4294967296):Yz .u32 x y=((x^^^y:Nat):Int):=by
 unfold Yz
 rw [Xu]
 all_goals grind [U32,IntKind.bits]
theorem Z5K (x y:Nat) (hx:x<4294967296) (hy:y<4294967296):bOr .u32 x y=((x|||y:Nat):Int):=by
 unfold bOr
 rw [Xu]
 ·show (((BitVec.ofInt 32 (x:Int)|||BitVec.ofInt 32 (y:Int)).toNat:Nat):Int)=_
  rw [BitVec.toNat_or,Kf,Kf,Kb,Kb,JP hx,JP hy]
 grind [U32,IntKind.bits]
theorem Z3t (x y:Nat) (hx:x<4294967296) (hy:y<4294967296):Z1O .u32 x y=((x&&&y:Nat):Int):=by
 unfold Z1O
 rw [Xu]
 ·show (((BitVec.ofInt 32 (x:Int)&&&BitVec.ofInt 32 (y:Int)).toNat:Nat):Int)=_
  rw [BitVec.toNat_and,Kf,Kf,Kb,Kb,JP hx,JP hy]
 grind [U32,IntKind.bits]
theorem U32.nat {x:Int} (h:U32 x):∃n:Nat,x=n/\n<4294967296:=⟨x.toNat,by unfold U32 at h;omega,by unfold U32 at h;omega⟩
theorem U32.of {n:Nat} (h:n<4294967296):U32 (n:Int):=by unfold U32;omega
theorem ZaC {x y:Int}:Yz .u32 x y=Yz .u32 y x:=by unfold Yz;rw [BitVec.xor_comm]
theorem Z8m {x y z:Int} (hx:U32 x) (hy:U32 y) (hz:U32 z):Yz .u32 (Yz .u32 x y) z=Yz .u32 x (Yz .u32 y z):=by
 obtain ⟨x,rfl,gx⟩:=hx.nat
 obtain ⟨y,rfl,gy⟩:=hy.nat
 obtain ⟨z,rfl,gz⟩:=hz.nat
 rw [WL x y gx gy,WL y z gy gz,WL _ z (Km (n:=32) gx gy) gz,WL x _ gx (Km (n:=32) gy gz),Nat.xor_assoc]
theorem ZaD {x:Int} (hx:U32 x):Yz .u32 0 x=x:=by
 obtain ⟨x,rfl,gx⟩:=hx.nat
 have:=WL 0 x (by omega) gx
 simp_all
theorem Z5L (x n:Nat) (hn:n<=32):Zo .u32 x n=((x/2^n:Nat):Int):=by
 grind [Zo,IntKind.bits]
theorem Zit {x:Int} (hx:U32 x) (n:Nat) (hn:n<=32):U32 (Zo .u32 x n):=by
 obtain ⟨x,rfl,gx⟩:=hx.nat
 rw [Z5L x n hn]
 exact U32.of (JM (Nat.div_le_self x (2^n)) gx)
theorem Z8n (w n:Int):U32 (Z84 w n):=Zis _ _
theorem Z9m {w:Int} (hw:U32 w) (a b c:Int):sg3 a b c w=Wp 32 [a,b,c] w:=by
 obtain ⟨x,rfl,gx⟩:=hw.nat
 have h0:Zo .u32 (x:Int) 32=0:=by
  rw [show (32:Int)=((32:Nat):Int) from rfl,Z5L x 32 (by omega),Nat.div_eq_of_lt gx]
  rfl
 simp_all [sg3,Wp,ZaD,Z8n]
theorem Z9n {w:Int} (hw:U32 w) (a b:Int) (n:Nat) (hn:n<=32):rg3 a b n w=Wp n [a,b] w:=by
 have hs:=Zit hw n hn
 unfold rg3 Wp
 simp only [List.foldl_cons,List.foldl_nil]
 rw [ZaC,Z8m hs (Z8n _ _) (Z8n _ _)]
theorem Wz (x i:Nat) (hi:i<=32):Int.tmod (Zo .u32 x i) 2=(((x.testBit i).toNat:Nat):Int):=by
 rw [Z5L x i hi]
 rw [Int.tmod_eq_emod_of_nonneg (Int.natCast_nonneg _),Nat.toNat_testBit]
 rfl
theorem Z5M (b:Bool) (i:Nat) (hi:i<32):Zx .u32 ((b.toNat:Nat):Int) i=((2^i*b.toNat:Nat):Int):=by
 unfold Zx
 have:min (i:Int).toNat u32.bits=i:=by simp [IntKind.bits];omega
 rw [this]
 have h2:(2:Nat)^i<2^32:=Nat.pow_lt_pow_right (by decide) hi
 have h3:((2:Nat)^i*b.toNat)<4294967296:=by cases b<;>simp_all
 rw [show ((b.toNat:Nat):Int)*2^i=((2^i*b.toNat:Nat):Int) by push_cast;rw [Int.mul_comm]]
 exact Xu (U32.of h3)
theorem Z9o (x i:Nat):x%2^(i+1)=x%2^i+2^i*(x.testBit i).toNat:=by
 rw [Nat.toNat_testBit,Nat.mod_pow_succ]
theorem Z9p (x i:Nat) (hx:x<4294967296) (hi:i<32):u32.wrap (((x%2^i:Nat):Int)+((2^i*(x.testBit i).toNat:Nat):Int))=((x%2^(i+1):Nat):Int):=by
 rw [Z9o]
 rw [Xu]
 ·omega
 ·rw [show ((x%2^i:Nat):Int)+((2^i*(x.testBit i).toNat:Nat):Int)=((x%2^i+2^i*(x.testBit i).toNat:Nat):Int) by omega,<-Z9o]
  exact U32.of (JM (Nat.mod_le _ _) hx)
theorem Z4E (a b c:Nat) (ha:a<4294967296) (hb:b<4294967296) (hc:c<4294967296):∀i,i<=32->VA a b c i=(((a&&&(b|||c)|||b&&&c)%2^i:Nat):Int)
 | 0,_=>by simp [VA]
 | i+1,hi=>by
  have hm:(a&&&(b|||c)|||b&&&c)<4294967296:=Nat.or_lt_two_pow (n:=32) (JM Kn ha) (JM Kn hb)
  rw [VA,Z4E a b c ha hb hc i (by omega),Wz a i (by omega),Wz b i (by omega),Wz c i (by omega),<-Z9p _ i hm (by omega)]
  have ht:(a&&&(b|||c)|||b&&&c).testBit i=(a.testBit i&&(b.testBit i||c.testBit i)||b.testBit i&&c.testBit i):=by simp
  rw [ht]
  have h1:=Z5M true i (by omega)
  have hx:u32.wrap (((a&&&(b|||c)|||b&&&c)%2^i:Nat):Int)=(((a&&&(b|||c)|||b&&&c)%2^i:Nat):Int):=Xu (U32.of (JM (Nat.mod_le _ _) hm))
  rw [Z6L,Z6L]
  cases a.testBit i<;>cases b.testBit i<;>cases c.testBit i<;>simp at h1 hx⊢ <;>first|rw [h1]|rw [hx]
theorem ZeH {a b c:Int} (ha:U32 a) (hb:U32 b) (hc:U32 c):X9 a b c=bOr .u32 (Z1O .u32 a (bOr .u32 b c)) (Z1O .u32 b c):=by
 obtain ⟨a,rfl,ga⟩:=ha.nat
 obtain ⟨b,rfl,gb⟩:=hb.nat
 obtain ⟨c,rfl,gc⟩:=hc.nat
 have h1:=Nat.or_lt_two_pow (n:=32) gb gc
 have h2:a&&&(b|||c)<4294967296:=JM Kn ga
 have h3:b&&&c<4294967296:=JM Kn gb
 rw [Z5K b c gb gc,Z3t a _ ga h1,Z3t b c gb gc,Z5K _ _ h2 h3]
 unfold X9
 rw [Z4E a b c ga gb gc 32 (by omega),JP]
 exact Nat.or_lt_two_pow (n:=32) h2 h3
theorem Z4F (a b c:Nat) (ha:a<4294967296) (hb:b<4294967296) (hc:c<4294967296):∀i,i<=32->U5 a b c i=(((c^^^(a&&&(b^^^c)))%2^i:Nat):Int)
 | 0,_=>by simp [U5]
 | i+1,hi=>by
  have hm:(c^^^(a&&&(b^^^c)))<4294967296:=Km (n:=32) hc (JM Kn ha)
  rw [U5,Z4F a b c ha hb hc i (by omega),Wz a i (by omega),Wz b i (by omega),Wz c i (by omega),<-Z9p _ i hm (by omega)]
  have ht:(c^^^(a&&&(b^^^c))).testBit i=(c.testBit i^^(a.testBit i&&(b.testBit i^^c.testBit i))):=by simp
  rw [ht]
  have h1:=Z5M true i (by omega)
  have h0:=Z5M false i (by omega)
  cases a.testBit i<;>cases b.testBit i<;>cases c.testBit i<;>simp at h1 h0⊢ <;>first|rw [h1]|rw [h0,Int.add_zero]
theorem ZeI {a b c:Int} (ha:U32 a) (hb:U32 b) (hc:U32 c):X3 a b c=Yz .u32 c (Z1O .u32 a (Yz .u32 b c)):=by
 obtain ⟨a,rfl,ga⟩:=ha.nat
 obtain ⟨b,rfl,gb⟩:=hb.nat
 obtain ⟨c,rfl,gc⟩:=hc.nat
 have h1:=Km (n:=32) gb gc
 have h2:a&&&(b^^^c)<4294967296:=JM Kn ga
 rw [WL b c gb gc,Z3t a _ ga h1,WL _ _ gc h2]
 unfold X3
 rw [Z4F a b c ga gb gc 32 (by omega),JP]
 exact Km (n:=32) gc h2
theorem Z4G (bl:LI) (t:Nat):We bl (t+1)=(We bl t).set t (if t<16 then Z8k bl t else Zcn (We bl t) t):=by rw [We]
theorem Z4H (bl:LI) (s t:Nat) (hs:s<t):∀u,(We bl (t+u)).getD s 0=(We bl t).getD s 0
 | 0=>rfl
 | u+1=>by
  rw [<-Nat.add_assoc,Z4G,<-Z4H bl s t hs u]
  simp only [J5]
  rw [List.getElem?_set_ne (by omega)]
@[irreducible] def Z1W (bl:LI) (t:Nat):Int:=(We bl 64).getD t 0
theorem Z0y (bl:LI) {s t:Nat} (hs:s<t) (ht:t<=64):(We bl t).getD s 0=Z1W bl s:=by
 unfold Z1W
 have:=Z4H bl s t hs (64-t)
 rw [show t+(64-t)=64 by omega] at this
 omega
theorem Z9q (bl:LI) {t:Nat} (ht:t<64):Z1W bl t=if t<16 then Z8k bl t else Zcn (We bl t) t:=by
 rw [<-Z0y bl (Kr t) (by omega),Z4G]
 simp_all [Z3p]
theorem Z9r (bl:LI) {t:Nat} (ht:t<16):Z1W bl t=Z8k bl t:=by rw [Z9q bl (by omega),if_pos ht]
theorem Z9s (bl:LI) {t:Nat} (h16:16<=t) (ht:t<64):Z1W bl t=u32.wrap (u32.wrap (u32.wrap (rg3 17 19 10 (Z1W bl (t-2))+Z1W bl (t-7))+rg3 7 18 3 (Z1W bl (t-15)))+Z1W bl (t-16)):=by
 rw [Z9q bl (by omega),if_neg (by omega)]
 unfold Zcn
 rw [Z0y bl (by omega) (by omega),Z0y bl (by omega) (by omega),Z0y bl (by omega) (by omega),Z0y bl (by omega) (by omega)]
theorem Zcv (bl:LI) {t:Nat} (ht:t<64):U32 (Z1W bl t):=by
 by_cases h:t<16
 ·rw [Z9r bl h];exact Z3s _
 simp_all [Z9s,Z3s]
theorem Z0z (t:Nat):mAt (t:Int)=t%16:=by
 unfold mAt
 rw [tm (by omega)]
 omega
theorem V2 (i t:Nat) (hi:i<8) (ht:t<=64):atI (i:Int) (t:Int)=(i+64-t)%8:=by
 grind [atI,w64]
theorem Z3u (l:LI) (i j:Nat) (x:Int) (hi:i<l.length):(l.set i x).getD j 0=if i=j then x else l.getD j 0:=by
 grind
def Ring (bl r:LI) (t:Nat):Prop:=r.length=16/\∀s,s<max 16 t->max 16 t<=s+16->r.getD (s%16) 0=Z1W bl s
theorem Ring.step {r:LI} {t:Nat} (h:Ring bl r t) (ht:t<64):Ring bl (QP t r) (t+1):=by
 obtain ⟨hl,hr⟩:=h
 refine ⟨by rw [Z6C,hl],fun s h1 h2=> ?_⟩
 unfold QP
 by_cases h16:t<16
 ·grind
 ·rw [if_pos (by omega)]
  have w1:i64.wrap ((t:Int)+1)=((t+1:Nat):Int):=by rw [w64 (by omega)];omega
  have w9:i64.wrap ((t:Int)+9)=((t+9:Nat):Int):=by rw [w64 (by omega)];omega
  have w14:i64.wrap ((t:Int)+14)=((t+14:Nat):Int):=by rw [w64 (by omega)];omega
  have r0:=hr (t-16) (by omega) (by omega)
  have r1:=hr (t-15) (by omega) (by omega)
  have r9:=hr (t-7) (by omega) (by omega)
  have r14:=hr (t-2) (by omega) (by omega)
  rw [show (t-16)%16=t%16 by omega] at r0
  rw [show (t-15)%16=(t+1)%16 by omega] at r1
  rw [show (t-7)%16=(t+9)%16 by omega] at r9
  rw [show (t-2)%16=(t+14)%16 by omega] at r14
  rw [w1,w9,w14,Z0z,Z0z,Z0z,Z0z,r0,r1,r9,r14,Z3u _ _ _ _ (by omega)]
  by_cases hs:s=t
  ·subst hs
   rw [if_pos rfl,Z9s bl (by omega) ht]
   have e1:=Z9n (Zcv bl (t:=s-2) (by omega)) 17 19 10 (by omega)
   have e2:=Z9n (Zcv bl (t:=s-15) (by omega)) 7 18 3 (by omega)
   rw [show ((10:Nat):Int)=10 from rfl] at e1
   rw [show ((3:Nat):Int)=3 from rfl] at e2
   simp only [Z6L]
   omega
  grind
def U8 (x:Int):Prop:=0<=x/\x<256
theorem Z2e (x n:Nat) (hn:n<=32) (h:x*2^n<4294967296):Zx .u32 x n=((x*2^n:Nat):Int):=by
 unfold Zx
 have:min (n:Int).toNat u32.bits=n:=by simp [IntKind.bits];omega
 rw [this,show (x:Int)*2^n=((x*2^n:Nat):Int) by simp_all]
 exact Xu (U32.of h)
theorem Z2f (x y:Nat) (hx:x<16777216) (hy:y<256):bOr .u32 (Zx .u32 x 8) y=((x*256+y:Nat):Int):=by
 have:=Z2e x 8 (by omega) (by omega)
 rw [show ((8:Nat):Int)=8 from rfl] at this
 rw [this,Z5K _ _ (by omega) (by omega),<-Nat.shiftLeft_eq,<-Nat.shiftLeft_add_eq_or_of_lt (by omega),Nat.shiftLeft_eq]
theorem UI {P:Int->Prop} {l:LI} (h:∀x∈l,P x) (h0:P 0) (i:Nat):P (l.getD i 0):=by
 grind
theorem U8.nat {x:Int} (h:U8 x):∃n:Nat,x=n/\n<256:=⟨x.toNat,by unfold U8 at h;omega,by unfold U8 at h;omega⟩
theorem ZeJ (bl:LI) (hb:∀x∈bl,U8 x) (t:Nat):XB bl (4*t)=Z8k bl t:=by
 unfold XB Z8k
 obtain ⟨a,ea,ha⟩:=(UI (P:=U8) hb (by unfold U8;omega) (4*t)).nat
 obtain ⟨b,eb,hb'⟩:=(UI (P:=U8) hb (by unfold U8;omega) (4*t+1)).nat
 obtain ⟨c,ec,hc⟩:=(UI (P:=U8) hb (by unfold U8;omega) (4*t+2)).nat
 obtain ⟨d,ed,hd⟩:=(UI (P:=U8) hb (by unfold U8;omega) (4*t+3)).nat
 rw [ea,eb,ec,ed]
 rw [Xu (x:=(a:Int)) (U32.of (by omega)),Xu (x:=(b:Int)) (U32.of (by omega)),Xu (x:=(c:Int)) (U32.of (by omega)),Xu (x:=(d:Int)) (U32.of (by omega))]
 have z:=Z2f 0 a (by omega) ha
 have s0:Zx .u32 0 8=0:=by decide
 rw [show Zx .u32 ((0:Nat):Int) 8=0 from s0] at z
 rw [z,Z2f _ b (by omega) hb',Z2f _ c (by omega) hc,Z2f _ d (by omega) hd]
 have g1:=Z2e a 24 (by omega) (by omega)
 have g2:=Z2e b 16 (by omega) (by omega)
 have g3:=Z2e c 8 (by omega) (by omega)
 rw [show ((24:Nat):Int)=24 from rfl] at g1
 rw [show ((16:Nat):Int)=16 from rfl] at g2
 rw [show ((8:Nat):Int)=8 from rfl] at g3
 simp only [Z6L]
 omega
theorem Ring.first (bl:LI) (hb:∀x∈bl,U8 x):Ring bl (Vf bl) 0:=by
 refine ⟨rfl,fun s h1 _=> ?_⟩
 have h16:s<16:=by omega
 rw [Z9r bl h16,<-ZeJ bl hb,JP h16]
 have:s=0\/s=1\/s=2\/s=3\/s=4\/s=5\/s=6\/s=7\/s=8\/s=9\/s=10\/s=11\/s=12\/s=13\/s=14\/s=15:=by omega
 rcases this with rfl|rfl|rfl|rfl|rfl|rfl|rfl|rfl|rfl|rfl|rfl|rfl|rfl|rfl|rfl|rfl<;>rfl
def Z3v (x y:LI) (t:Nat):Prop:=x.length=8/\∀i,i<8->x.getD ((i+64-t)%8) 0=y.getD i 0
theorem Z3v.step {x y m:LI} {w:Int} {t:Nat} (h:Z3v x y t) (hU:∀i,i<8->U32 (y.getD i 0)) (ht:t<64) (hm:m.getD (t%16) 0=w):
  Z3v (Z6B t m x) (Z1I X9 X3 (Ve.getD t 0) w y) (t+1):=by
 obtain ⟨hl,hr⟩:=h
 have a0:=V2 0 t (by omega) (by omega)
 have a1:=V2 1 t (by omega) (by omega)
 have a2:=V2 2 t (by omega) (by omega)
 have a3:=V2 3 t (by omega) (by omega)
 have a4:=V2 4 t (by omega) (by omega)
 have a5:=V2 5 t (by omega) (by omega)
 have a6:=V2 6 t (by omega) (by omega)
 have a7:=V2 7 t (by omega) (by omega)
 have h0:=hr 0 (by omega)
 have h1:=hr 1 (by omega)
 have h2:=hr 2 (by omega)
 have h3:=hr 3 (by omega)
 have h4:=hr 4 (by omega)
 have h5:=hr 5 (by omega)
 have h6:=hr 6 (by omega)
 have h7:=hr 7 (by omega)
 rw [<-a0] at h0
 rw [<-a1] at h1
 rw [<-a2] at h2
 rw [<-a3] at h3
 rw [<-a4] at h4
 rw [<-a5] at h5
 rw [<-a6] at h6
 rw [<-a7] at h7
 refine ⟨by rw [Z6D,hl], ?_⟩
 have hadd:Z5E t m x=u32.wrap (u32.wrap (u32.wrap (u32.wrap (y.getD 7 0+sg3 6 11 25 (y.getD 4 0))+X3 (y.getD 4 0) (y.getD 5 0) (y.getD 6 0))+Ve.getD t 0)+w):=by
  unfold Z5E
  rw [Z0z,hm]
  rw [show atI 7 (t:Int)=atI ((7:Nat):Int) t from rfl,show atI 4 (t:Int)=atI ((4:Nat):Int) t from rfl,show atI 5 (t:Int)=atI ((5:Nat):Int) t from rfl,show atI 6 (t:Int)=atI ((6:Nat):Int) t from rfl]
  rw [h4,h5,h6,h7,Z9m (hU 4 (by omega)),ZeI (hU 4 (by omega)) (hU 5 (by omega)) (hU 6 (by omega))]
  rw [Jq,JR]
 unfold Z6B
 rw [hadd]
 rw [show atI 7 (t:Int)=atI ((7:Nat):Int) t from rfl,show atI 3 (t:Int)=atI ((3:Nat):Int) t from rfl,show atI 0 (t:Int)=atI ((0:Nat):Int) t from rfl,show atI 1 (t:Int)=atI ((1:Nat):Int) t from rfl,show atI 2 (t:Int)=atI ((2:Nat):Int) t from rfl]
 rw [h0,h1,h2,h3,<-ZeH (hU 0 (by omega)) (hU 1 (by omega)) (hU 2 (by omega)),<-Z9m (hU 0 (by omega)),a3,a7]
 intro i hi
 rw [Z3u _ _ _ _ (by rw [Kk,hl];omega),Z3u _ _ _ _ (by omega)]
 unfold Z1I
 have:i=0\/i=1\/i=2\/i=3\/i=4\/i=5\/i=6\/i=7:=by omega
 rcases this with rfl|rfl|rfl|rfl|rfl|rfl|rfl|rfl
 ·grind [Z6L]
 ·rw [if_neg (by omega),if_neg (by omega),show (1+64-(t+1))%8=(0+64-t)%8 by omega,hr 0 (by omega)];rfl
 ·rw [if_neg (by omega),if_neg (by omega),show (2+64-(t+1))%8=(1+64-t)%8 by omega,hr 1 (by omega)];rfl
 ·rw [if_neg (by omega),if_neg (by omega),show (3+64-(t+1))%8=(2+64-t)%8 by omega,hr 2 (by omega)];rfl
 ·rw [if_neg (by omega),if_pos (by omega)];rfl
 ·rw [if_neg (by omega),if_neg (by omega),show (5+64-(t+1))%8=(4+64-t)%8 by omega,hr 4 (by omega)];rfl
 ·rw [if_neg (by omega),if_neg (by omega),show (6+64-(t+1))%8=(5+64-t)%8 by omega,hr 5 (by omega)];rfl
 ·rw [if_neg (by omega),if_neg (by omega),show (7+64-(t+1))%8=(6+64-t)%8 by omega,hr 6 (by omega)];rfl
theorem ZeK {k w:Int} {y:LI} (hU:∀i,i<8->U32 (y.getD i 0)):∀i,i<8->U32 ((Z1I X9 X3 k w y).getD i 0):=by
 intro i hi
 unfold Z1I
 have:i=0\/i=1\/i=2\/i=3\/i=4\/i=5\/i=6\/i=7:=by omega
 rcases this with rfl|rfl|rfl|rfl|rfl|rfl|rfl|rfl
 all_goals simp_all [Z3s]
def W8 (st:LI):Prop:=st.length=8/\∀x∈st,U32 x
theorem W8.get {st:LI} (h:W8 st) (i:Nat):U32 (st.getD i 0):=UI h.2 (by unfold U32;omega) i
theorem Z6M (bl st:LI) (hb:∀x∈bl,U8 x) (hs:W8 st):∀t,t<=64->Ring bl (Vt (Vf bl) st t).1 t/\Z3v (Vt (Vf bl) st t).2 (UH X9 X3 (We bl 64) st t) t/\∀i,i<8->U32 ((UH X9 X3 (We bl 64) st t).getD i 0)
 | 0,_=>by
  rw [Z4s,Zay]
  refine ⟨Ring.first bl hb,⟨hs.1,fun i hi=> ?_⟩,fun i _=>hs.get i⟩
  rw [show (i+64-0)%8=i by omega]
 | t+1,h=>by
  obtain ⟨h1,h2,h3⟩:=Z6M bl st hb hs t (by omega)
  rw [Z4t,Zax]
  have hR:=h1.step (by omega)
  refine ⟨hR,h2.step h3 (by omega) ?_,ZeK h3⟩
  rw [hR.2 t (by omega) (by omega)]
  unfold Z1W
  rfl
theorem ZaE (st x:LI) (i:Nat):VB st x (i+1)=(VB st x i).set i (u32.wrap ((VB st x i).getD i 0+st.getD i 0)):=by rw [VB]
theorem ZaF (st x:LI):VB st x 0=x:=by rw [VB]
theorem ZeL (st x:LI) (hs:st.length=8) (hx:x.length=8):VB st x 8=Zap st x:=by
 obtain ⟨a0,a1,a2,a3,a4,a5,a6,a7,rfl⟩:=eight st hs
 obtain ⟨b0,b1,b2,b3,b4,b5,b6,b7,rfl⟩:=eight x hx
 simp_all [ZaE,ZaF,Zap,Int.add_comm]
theorem Z8o {x y:LI} (h:Z3v x y 64) (hy:y.length=8):y=x:=by
 obtain ⟨h4,h5⟩:=h
 obtain ⟨a0,a1,a2,a3,a4,a5,a6,a7,rfl⟩:=eight _ hy
 obtain ⟨b0,b1,b2,b3,b4,b5,b6,b7,rfl⟩:=eight _ h4
 have g0:=h5 0 (by omega)
 have g1:=h5 1 (by omega)
 have g2:=h5 2 (by omega)
 have g3:=h5 3 (by omega)
 have g4:=h5 4 (by omega)
 have g5:=h5 5 (by omega)
 have g6:=h5 6 (by omega)
 have g7:=h5 7 (by omega)
 simp_all
theorem Z6N (st bl:LI) (hb:∀x∈bl,U8 x) (hs:W8 st):Xt st bl=W4 st bl:=by
 obtain ⟨_,h2,h3⟩:=Z6M bl st hb hs 64 (by omega)
 have hl:=Z0w (M:=X9) (P:=X3) (m:=We bl 64) hs.1 64
 unfold Xt W4
 rw [ZeL _ _ hs.1 hl]
 congr 1
 exact Z8o h2 hl
theorem Z6O (st bl:LI) (hs:st.length=8):W8 (W4 st bl):=by
 refine ⟨Z4u st bl hs,fun x hx=> ?_⟩
 grind [W4,Zap,Ju,Z3s]
def Qh (P:LI->LI->LI):Nat->LI->LI->LI
 | 0,st,_=>st
 | n+1,st,ms=>Qh P n (P st (ms.take 64)) (ms.drop 64)
theorem Z1d (P:LI->LI->LI):∀(n:Nat) (st ms:LI),Qh P (n+1) st ms=P (Qh P n st ms) ((ms.drop (64*n)).take 64)
 | 0,_,_=>rfl
 | n+1,st,ms=>by
  rw [Qh,Z1d P n,List.drop_drop]
  rw [show 64+64*n=64*(n+1) by omega]
  rfl
theorem Z3w (P:LI->LI->LI):∀(n:Nat) (st ms more:LI),64*n<=ms.length->Qh P n st (ms++more)=Qh P n st ms
 | 0,_,_,_,_=>rfl
 | n+1,st,ms,more,h=>by
  rw [Qh,Qh,List.take_append_of_le_length (by omega),K4 (by omega),Z3w P n _ _ _ (by rw [J9];omega)]
theorem Z3x:∀(n:Nat) (st ms:LI),W8 st->(∀x∈ms,U8 x)->Qh Xt n st ms=Qh W4 n st ms
 | 0,_,_,_,_=>rfl
 | n+1,st,ms,hs,hm=>by
  rw [Qh,Qh,Z6N st _ (fun x hx=>hm x (List.mem_of_mem_take hx)) hs]
  exact Z3x n _ _ (Z6O st _ hs.1) fun x hx=>hm x (List.mem_of_mem_drop hx)
structure Rep (r:Zw) (ms:LI):Prop where
 came:r.came=ms.length
 st:r.st=Qh W4 (ms.length/64) YR.st ms
 len:r.part.length=64
 part:r.part.take (ms.length%64)=ms.drop (64*(ms.length/64))
theorem Rep.ok (h:Rep r ms) (h8:r.st.length=8):r.Ok:=⟨h8,h.len,by rw [h.came];omega⟩
theorem Rep.one (h:Rep r ms) (bs:LI):Rep (r.one bs) (ms++wTk r.came bs):=by
 have ha:wAt r.came=ms.length%64:=by
  unfold wAt
  rw [h.came,tm (by omega)]
  omega
 have hk:(wTk r.came bs).length<=64-ms.length%64:=by
  grind [wTk]
 have hdl:(ms.drop (64*(ms.length/64))).length=ms.length%64:=by rw [J9];omega
 have hp:UE r.part r.came bs=ms.drop (64*(ms.length/64))++wTk r.came bs++r.part.drop (ms.length%64+(wTk r.came bs).length):=by
  unfold UE spl
  rw [ha,h.part]
 have hl:(UE r.part r.came bs).length=64:=by
  rw [hp,J3,J3,hdl,J9,h.len]
  omega
 have hst:(r.one bs).st=if ms.length%64+(wTk r.came bs).length=64 then W4 r.st (UE r.part r.came bs) else r.st:=by
  show wSt _ _ _ _=_
  unfold wSt
  rw [ha]
 have hca:(r.one bs).came=r.came+(wTk r.came bs).length:=rfl
 have hpa:(r.one bs).part=UE r.part r.came bs:=rfl
 generalize wTk r.came bs=tk at*
 have hal:(ms++tk).length=ms.length+tk.length:=J3
 refine ⟨by rw [hca,h.came,hal];omega, ?_,by rw [hpa];exact hl, ?_⟩
 ·rw [hst,h.st]
  by_cases h64:ms.length%64+tk.length=64
  ·rw [if_pos h64,hal,show (ms.length+tk.length)/64=ms.length/64+1 by omega,Z1d,Z3w _ _ _ _ _ (by omega)]
   rw [K4 (by omega),hp,show r.part.drop (ms.length%64+tk.length)=[] from K9 (by rw [h.len];omega),JE,JW (by rw [J3,hdl];omega)]
  grind [Z3w]
 ·rw [hpa,hal]
  by_cases h64:ms.length%64+tk.length=64
  ·rw [show (ms.length+tk.length)%64=0 by omega,List.take_zero,K9 (by omega)]
  ·rw [show (ms.length+tk.length)/64=ms.length/64 by omega,show (ms.length+tk.length)%64=ms.length%64+tk.length by omega,hp,K4 (by omega)]
   grind
theorem Rep.many:∀(n:Nat) (r:Zw) (ms bs:LI),r.Ok->Rep r ms->bs.length<=n->Rep (Zw.many n r bs).1 (ms++bs)
 | 0,r,ms,bs,_,h,hn=>by
  have:bs=[]:=Jm (by omega)
  subst this
  rw [JE]
  exact h
 | n+1,r,ms,bs,hr,h,hn=>by
  unfold Zw.many
  split
  ·rw [JE];exact h
  ·rename_i b bs
   have hp:=Q7 hr (bs:=b::bs) (by simp)
   have hb:(b::bs)=wTk r.came (b::bs)++(b::bs).drop (wTk r.came (b::bs)).length:=by
    grind [wTk,List.take_append_drop]
   have:=Rep.many n _ _ ((b::bs).drop (wTk r.came (b::bs)).length) (hr.one _) (h.one (b::bs)) (by rw [J9];omega)
   rw [Jl,<-hb] at this
   exact this
theorem Rep.write (hr:r.Ok) (h:Rep r ms) (bs:LI):Rep (r.write bs) (ms++bs):=by
 simp_all [Zw.write,Rep.many]
theorem Rep.init:Rep YR []:=⟨rfl,rfl,rfl,rfl⟩
def Z1e (bs:LI):LI:=bs++Qf bs.length++len8 bs.length
def Z8p (P:LI->LI->LI) (bs:LI):LI:=Z4x (Qh P ((Z1e bs).length/64) YR.st (Z1e bs))
theorem Rep.fin (hr:r.Ok) (h:Rep r ms):r.fin=Z8p W4 ms:=by
 have h1:=h.write hr (Qf r.came)
 have h2:=h1.write (Vu _ _ hr) (len8 r.came)
 unfold Zw.fin Z8p
 rw [h2.st,h.came]
 rfl
theorem Z6P (bs:LI):Zf bs=Z8p W4 bs:=by
 unfold Zf
 have:=Rep.init.write Vv bs
 exact this.fin (Vu _ _ Vv)
theorem Z6Q:W8 YR.st:=by
 refine ⟨rfl,fun x hx=> ?_⟩
 simp only [YR,J7,JH,or_false] at hx
 unfold U32
 rcases hx with rfl|rfl|rfl|rfl|rfl|rfl|rfl|rfl<;>omega
theorem ZeM (n:Int):∀x∈Qf n,U8 x:=by
 grind [Qf,U8]
theorem Zcw (x:Int):U8 (u8.wrap x):=by rw [wr8];unfold U8;omega
theorem ZeN (n:Int):∀x∈len8 n,U8 x:=by
 intro x hx
 unfold len8 Z0u at hx
 simp only [J7,JH,or_false] at hx
 rcases hx with h|h|h|h|h|h|h|h<;>rw [h]<;>exact Zcw _
theorem ZaG {bs:LI} (h:∀x∈bs,U8 x):∀x∈Z1e bs,U8 x:=by
 grind [Z1e,ZeM,ZeN]
theorem Zcx (n:Int):∀x∈WZ n,U8 x:=by
 intro x hx
 unfold WZ at hx
 simp only [J7,JH,or_false] at hx
 rcases hx with h|h|h|h<;>rw [h]<;>exact Zcw _
theorem Zcy (st:LI):∀x∈Z4x st,U8 x:=by
 intro x hx
 unfold Z4x at hx
 simp only [JV] at hx
 rcases hx with (((((((h|h)|h)|h)|h)|h)|h)|h)<;>exact Zcx _ x h
theorem ZeO (bs:LI):∀x∈Zf bs,U8 x:=by rw [Z6P];exact Zcy _
theorem ZeP:Qb Xt:=⟨fun st bl h=>Z6J st bl h,fun _ _ h=>Z5H h⟩
def four (x:Int):LI:=[u8.wrap (u32.wrap (Int.tdiv x 16777216)),toE x 65536,toE x 256,u8.wrap (Int.tmod x 256)]
theorem ZaH (x:LI):(Qv x).length=32:=by unfold Qv;exact Z5I x 8
theorem Z8q (x:LI) (h:x.length=8):Qv x=four (x.getD 0 0)++four (x.getD 1 0)++four (x.getD 2 0)++four (x.getD 3 0)++four (x.getD 4 0)++four (x.getD 5 0)++four (x.getD 6 0)++four (x.getD 7 0):=by
 kernel_rfl
theorem Ziu (x:Int):u64.wrap x=x%18446744073709551616:=by
 simp_all [wrap,IntKind.bits,IntKind.signed]
theorem Z9t (x n:Nat) (hn:n<=64):Zo .u64 x n=((x/2^n:Nat):Int):=by
 grind [Zo,IntKind.bits]
theorem Xk {x:Int} (h:U32 x):four x=WZ (u64.wrap x):=by
 obtain ⟨x,rfl,gx⟩:=h.nat
 have e:u64.wrap (x:Int)=x:=by rw [Ziu];omega
 have s24:=Z9t x 24 (by omega)
 have s16:=Z9t x 16 (by omega)
 have s8:=Z9t x 8 (by omega)
 have s0:=Z9t x 0 (by omega)
 rw [show ((24:Nat):Int)=24 from rfl] at s24
 rw [show ((16:Nat):Int)=16 from rfl] at s16
 rw [show ((8:Nat):Int)=8 from rfl] at s8
 rw [show ((0:Nat):Int)=0 from rfl] at s0
 have d1:Int.tdiv (x:Int) 16777216=(x:Int)/16777216:=Int.tdiv_eq_ediv_of_nonneg (by omega)
 have d2:Int.tdiv (x:Int) 65536=(x:Int)/65536:=Int.tdiv_eq_ediv_of_nonneg (by omega)
 have d3:Int.tdiv (x:Int) 256=(x:Int)/256:=Int.tdiv_eq_ediv_of_nonneg (by omega)
 unfold four WZ toE
 rw [e,s24,s16,s8,s0,d1,d2,d3]
 simp only [wr8,Z6L]
 rw [tm (a:=(x:Int)/65536%4294967296) (by omega),tm (a:=(x:Int)/256%4294967296) (by omega),tm (a:=(x:Int)) (by omega)]
 simp_all
theorem Z8r {x:LI} (h:W8 x):Qv x=Z4x x:=by
 rw [Z8q x h.1]
 unfold Z4x
 rw [Xk (h.get 0),Xk (h.get 1),Xk (h.get 2),Xk (h.get 3),Xk (h.get 4),Xk (h.get 5),Xk (h.get 6),Xk (h.get 7)]
theorem Xl (n:Nat) (i:Nat) (hi:i<8):ZeC n i=u8.wrap (Zo .u64 (u64.wrap (u64.wrap n*8)) ((56-8*i:Nat):Int)):=by
 grind [ZeC,w64,Ziu,wr8]
theorem ZaI (n:Nat):Wf n 8=len8 n:=by
 simp only [Wf,Kl]
 rw [Xl n 0 (by omega),Xl n 1 (by omega),Xl n 2 (by omega),Xl n 3 (by omega),Xl n 4 (by omega),Xl n 5 (by omega),Xl n 6 (by omega),Xl n 7 (by omega)]
 rfl
theorem ZaJ (n:Nat) (h:n<=100000000000):[128]++Z1V n=Qf n:=by
 unfold Z1V Qf
 have e1:Int.tmod (n:Int) 64=(n:Int)%64:=tm (by omega)
 have e2:i64.wrap (119-(n:Int)%64)=119-(n:Int)%64:=w64 (by omega)
 rw [Zh6 n h,e1,e2,tm (by omega)]
 grind
theorem Zcz (bs:LI) (h:bs.length<=100000000000):QX bs=Z1e bs:=by
 unfold QX Z1e
 rw [ZaI,Jl bs,ZaJ _ h]
theorem Z4I (P:LI->LI->LI) (ys:LI):∀i,Z0x P ys i=Qh P i YR.st ys
 | 0=>Z4C P ys
 | i+1=>by rw [Z4D,Z1d,Z4I P ys i]
theorem Z9u:∀(n:Nat) (st ms:LI),W8 st->W8 (Qh W4 n st ms)
 | 0,_,_,h=>h
 | n+1,st,_,h=>Z9u n _ _ (Z6O st _ h.1)
@[irreducible] def ZR (bs:LI):LI:=Zct Xt bs
theorem VC (bs:LI):(ZR bs).length=32:=by unfold ZR Zct;exact ZaH _
theorem Z9v {bs:LI} (h:∀x∈bs,U8 x) (hl:bs.length<=100000000000):ZR bs=Zf bs:=by
 unfold ZR Zct
 rw [Z4I,Zcz bs hl,Z3x _ _ _ Z6Q (ZaG h),Z8r (Z9u _ _ _ Z6Q),Z6P]
 rfl
theorem ZaK (xs:LI) (h:xs.length<=100000000000):Y8 PP 77 [.vints .u8 xs xs.length] (.agg [.arr .u8 32 (ZR xs)]) 0 []:=by
 unfold ZR
 exact ZaB ZeP xs h
def Xy {α:Type} (lt:α->α->Bool) (x:α):List α->List α
 | []=>[x]
 | y::r=>match lt x y with
  | true=>x::y::r
  | false=>y::Xy lt x r
def Z3y {α:Type} (lt:α->α->Bool):List α->List α->List α
 | acc,[]=>acc
 | acc,x::r=>Z3y lt (Xy lt x acc) r
def Uc {α:Type} (lt:α->α->Bool) (l:List α):Prop:=l.Pairwise fun a b=>lt b a=false
structure WO {α:Type} (lt:α->α->Bool):Prop where
 asym:∀x y,lt x y=true->lt y x=false
 neg:∀x y z,lt x y=true->lt z y=false->lt x z=true
theorem Z6R {α:Type} {lt:α->α->Bool} {x z:α}:∀{l:List α},z∈Xy lt x l↔z=x\/z∈l
 | []=>by simp [Xy]
 | y::r=>by
  unfold Xy
  split
  ·simp
  ·simp only [J7,Z6R (l:=r)]
   constructor<;>(intro h;rcases h with h|h|h<;>simp [h])
theorem UJ {α:Type} {lt:α->α->Bool} {x:α}:∀{l:List α},(Xy lt x l).length=l.length+1
 | []=>rfl
 | y::r=>by
  unfold Xy
  split
  ·simp
  ·simp [UJ (l:=r)]
theorem VD {α:Type} {lt:α->α->Bool} {x:α}:∀{l:List α},(Xy lt x l).Perm (x::l)
 | []=>.refl _
 | y::r=>by
  unfold Xy
  split
  ·exact .refl _
  ·exact (List.Perm.cons y VD).trans (List.Perm.swap x y r)
theorem UK {α:Type} {lt:α->α->Bool} (wo:WO lt) {x:α}:∀{l:List α},Uc lt l->Uc lt (Xy lt x l)
 | [],_=>by simp [Xy,Uc]
 | y::r,h=>by
  unfold Uc at h
  rw [Ko] at h
  unfold Xy
  split
  ·rename_i hx
   unfold Uc
   rw [Ko,Ko]
   refine ⟨fun z hz=> ?_,h.1,h.2⟩
   rcases J7.1 hz with rfl|hz
   ·exact wo.asym _ _ hx
   ·cases hzx:lt z x with
    | false=>rfl
    | true=>
     have:=h.1 z hz
     -- z < x < y, so z < y
     have h2:=wo.neg z x y hzx (wo.asym _ _ hx)
     rw [h2] at this;cases this
  ·rename_i hx
   unfold Uc
   rw [Ko]
   refine ⟨fun z hz=> ?_,UK wo h.2⟩
   rcases Z6R.1 hz with rfl|hz
   ·exact hx
   ·exact h.1 z hz
theorem Z4J {α:Type} {lt:α->α->Bool} (wo:WO lt):∀{l acc:List α},Uc lt acc->Uc lt (Z3y lt acc l)
 | [],_,h=>h
 | _::_,_,h=>by unfold Z3y;exact Z4J wo (UK wo h)
theorem Z3z {α:Type} {lt:α->α->Bool}:∀{l acc:List α},(Z3y lt acc l).Perm (acc++l)
 | [],acc=>by simp [Z3y]
 | x::r,acc=>by
  unfold Z3y
  refine Z3z.trans ?_
  refine (List.Perm.append_right r VD).trans ?_
  rw [List.cons_append]
  exact List.perm_middle.symm
theorem V3 {α:Type} {lt:α->α->Bool}:∀{l m:List α},l.Perm m->Uc lt l->Uc lt m->(∀a∈l,∀b∈l,lt a b=false->lt b a=false->a=b)->l=m
 | [],m,hp,_,_,_=>by simpa using hp.symm
 | x::r,[],hp,_,_,_=>by simp at hp
 | x::r,y::q,hp,hl,hm,hu=>by
  unfold Uc at hl hm
  rw [Ko] at hl hm
  have hyx:y=x:=by
   by_cases e:y=x
   ·exact e
   ·have hx:x∈q:=by
     have:=hp.subset (Jz ..)
     rcases J7.1 this with h|h
     ·exact absurd h.symm e
     ·exact h
    have hy:y∈r:=by
     have:=hp.symm.subset (Jz ..)
     rcases J7.1 this with h|h
     ·exact absurd h e
     ·exact h
    exact hu y (Jh _ hy) x (Jz ..) (hl.1 y hy) (hm.1 x hx)
  subst hyx
  rw [List.perm_cons] at hp
  rw [V3 hp hl.2 hm.2 fun a ha b hb=>hu a (Jh _ ha) b (Jh _ hb)]
def ZQ:LI->LI->Int
 | [],_=>0
 | a::r,l=>match l with
  | []=>0
  | b::s=>if a<b then -1 else if b<a then 1 else ZQ r s
theorem XN (a b:Int) (r s:LI):ZQ (a::r) (b::s)=if a<b then -1 else if b<a then 1 else ZQ r s:=rfl
theorem UL:∀a b,ZQ a b= -1\/ZQ a b=0\/ZQ a b=1
 | [],_=>.inr (.inl rfl)
 | _::_,[]=>.inr (.inl rfl)
 | a::r,b::s=>by
  rw [XN]
  split
  ·exact .inl rfl
  ·split
   ·exact .inr (.inr rfl)
   ·exact UL r s
theorem YO:∀a b,ZQ b a= -ZQ a b
 | [],[]=>rfl
 | [],_::_=>rfl
 | _::_,[]=>rfl
 | a::r,b::s=>by
  have:=YO r s
  rw [XN,XN]
  split<;>split<;>(try split)<;>omega
theorem Z4K (a:LI):ZQ a a=0:=by
 have:=YO a a
 omega
theorem Z9w:∀{a b:LI},a.length=b.length->ZQ a b=0->a=b
 | [],[],_,_=>rfl
 | [],_::_,h,_=>by simp at h
 | _::_,[],h,_=>by simp at h
 | a::r,b::s,h,h0=>by
  rw [XN] at h0
  split at h0
  ·omega
  ·split at h0
   ·omega
   ·have:a=b:=by omega
    rw [this,Z9w (by simpa using h) h0]
theorem Z3A:∀{a b c:LI},a.length=b.length->b.length=c.length->ZQ a b<0->ZQ b c<0->ZQ a c<0
 | [],_,_,_,_,h,_=>by simp [ZQ] at h
 | _::_,[],_,h,_,_,_=>by simp at h
 | _::_,_::_,[],_,h,_,_=>by simp at h
 | a::r,b::s,c::t,l1,l2,h1,h2=>by
  have ih:=Z3A (a:=r) (b:=s) (c:=t) (by simpa using l1) (by simpa using l2)
  rw [XN] at h1 h2⊢
  split at h1
  ·split at h2
   ·rw [if_pos (by omega)];omega
   ·split at h2
    ·omega
    ·rw [if_pos (by omega)];omega
  ·split at h1
   ·omega
   ·split at h2
    ·rw [if_pos (by omega)];omega
    ·split at h2
     ·omega
     ·rw [if_neg (by omega),if_neg (by omega)]
      exact ih h1 h2
structure H32 where
 v:LI
 l:v.length=32
 b:∀x∈v,0<=x/\x<=255
theorem H32.ext {a b:H32} (h:a.v=b.v):a=b:=by
 cases a;cases b;cases h;rfl
theorem H32.cmp {a b:H32} (h:ZQ a.v b.v=0):a=b:=H32.ext (Z9w (a.l.trans b.l.symm) h)
def h0:H32:=⟨List.replicate 32 0,by simp,fun x hx=>by obtain ⟨_,rfl⟩:=List.mem_replicate.1 hx;omega⟩
structure Zl where
 inn:H32
 inID:Int
 out:H32
 outID:Int
variable {D:List Zl}
def Zr:Zl:=⟨h0,0,h0,0⟩
instance:Inhabited Zl:=⟨Zr⟩
def Zh8 (a b:Int):Int:=if a<b then -1 else if b<a then 1 else 0
def cfT (x y:Zl):Int:=if ZQ x.out.v y.out.v≠0 then ZQ x.out.v y.out.v else Zh8 x.outID y.outID
def ltT (x y:Zl):Bool:=decide (cfT x y<0)
theorem Z5N (x y:Zl):ltT x y=true↔ZQ x.out.v y.out.v<0\/(ZQ x.out.v y.out.v=0/\x.outID<y.outID):=by
 unfold ltT cfT Zh8
 rw [decide_eq_true_iff]
 split<;>(try split)<;>(try split)<;>omega
theorem Z5O (x y:Zl):ltT x y=false↔¬(ZQ x.out.v y.out.v<0\/(ZQ x.out.v y.out.v=0/\x.outID<y.outID)):=by
 rw [<-Z5N,Bool.not_eq_true]
theorem VE (a b c:H32):(ZQ a.v b.v<0->ZQ b.v c.v<0->ZQ a.v c.v<0)/\(ZQ a.v b.v=0->ZQ a.v c.v=ZQ b.v c.v)/\(ZQ b.v c.v=0->ZQ a.v c.v=ZQ a.v b.v):=
 ⟨Z3A (a.l.trans b.l.symm) (b.l.trans c.l.symm),fun h=>by rw [H32.cmp h],fun h=>by rw [H32.cmp h]⟩
theorem Z9x (x:Zl):ltT x x=false:=by
 rw [Z5O,Z4K]
 omega
theorem Z4L (x y z:Zl) (h1:ltT x y=true) (h2:ltT y z=true):ltT x z=true:=by
 rw [Z5N] at*
 obtain ⟨q1,q2,q3⟩:=VE x.out y.out z.out
 rcases h1 with h1|h1<;>rcases h2 with h2|h2
 ·exact .inl (q1 h1 h2)
 ·rw [q3 h2.1];exact .inl h1
 ·rw [q2 h1.1];exact .inl h2
 ·rw [q2 h1.1];exact .inr ⟨h2.1,by omega⟩
theorem Z3B (x y z:Zl) (h1:ltT x y=false) (h2:ltT y z=false):ltT x z=false:=by
 rw [Z5O] at*
 obtain ⟨q1,q2,q3⟩:=VE z.out y.out x.out
 have a:=YO x.out.v y.out.v
 have b:=YO y.out.v z.out.v
 have c:=YO x.out.v z.out.v
 rcases UL x.out.v y.out.v with e|e|e<;>rcases UL y.out.v z.out.v with e'|e'|e'
 all_goals first
  | omega
  | (have:=q1 (by omega) (by omega);omega)
  | (have:=q2 (by omega);omega)
  | (have:=q3 (by omega);omega)
theorem Z8s:WO ltT where
 asym x y h:=by
  cases h2:ltT y x with
  | false=>rfl
  | true=>
   have:=Z4L x y x h h2
   rw [Z9x] at this
   cases this
 neg x y z h1 h2:=by
  cases h3:ltT x z with
  | true=>rfl
  | false=>
   have:=Z3B x z y h3 h2
   rw [h1] at this
   cases this
def Yf (o:LI) (id:Int) (y:Zl):Bool:=y.out.v==o&&y.outID==id
def Wg (o:LI) (id:Int) (y:Zl):Bool:=y.inn.v==o&&y.inID==id
theorem ZeQ {x y:Zl} (h1:ltT x y=false) (h2:ltT y x=false):Yf y.out.v y.outID x=true:=by
 rw [Z5O] at*
 have a:=YO x.out.v y.out.v
 have:ZQ x.out.v y.out.v=0:=by omega
 unfold Yf
 rw [J2,beq_iff_eq,beq_iff_eq]
 exact ⟨congrArg H32.v (H32.cmp this),by omega⟩
theorem Z3C (p:Nat->Bool) (n:Nat):Nat.blt (Zn p n) n=(List.range n).any p:=by
 rw [JK,K5]
 rcases Yt p n with ⟨h1,h2⟩|⟨h1,h2,h3⟩
 ·rw [h1]
  constructor
  ·intro h;have:=XL h;omega
  ·rintro ⟨j,hj,hp⟩;rw [h2 j (JU.1 hj)] at hp;cases hp
 ·exact ⟨fun _=>⟨_,JU.2 h1,h2⟩,fun _=>YI h1⟩
theorem Z4M (d:α) (T:List α) (q:α->Bool):(List.range T.length).any (fun j=>q (T.getD j d))=T.any q:=by
 rw [JK,K5,K5]
 constructor
 ·rintro ⟨j,hj,hq⟩
  have hj:=JU.1 hj
  exact ⟨_,Jx hj,by rw [J5,J8 hj] at hq;exact hq⟩
 ·rintro ⟨x,hx,hq⟩
  obtain ⟨j,hj,rfl⟩:=Ju hx
  exact ⟨j,JU.2 hj,by rw [J5,J8 hj];exact hq⟩
theorem getD_lt (d:α) {T:List α} (x:α) (h:j<T.length):(T++[x]).getD j d=T.getD j d:=by
 rw [J5,J5,Jb h]
theorem Z0A (d:α) {T:List α} (x:α):(T++[x]).getD T.length d=x:=by
 rw [J5,Js (J1 _),Nat.sub_self]
 rfl
def W5 (x:Zl):Bool:=decide (0<=x.inID/\x.inID<=2147483647)&&decide (0<=x.outID/\x.outID<=2147483647)
def Z6S (x y:Zl):Bool:=Wg x.inn.v x.inID y||Yf x.out.v x.outID y
def clash (T:List Zl) (x:Zl):Bool:=T.any fun y=>Wg x.inn.v x.inID y||Yf x.out.v x.outID y
def YQ (T:List Zl) (x:Zl):Int:=if W5 x=true then (if clash T x=true then 360 else if 48<=T.length then 3 else 0) else 2
def W6 (T:List Zl) (x:Zl):List Zl:=if YQ T x=0 then T++[x] else T
def Qi (T:List Zl) (x:Zl):List Zl:=if YQ T x=0 then Xy ltT x T else T
def atO (T:List Zl) (o:LI) (id:Int):Nat:=Zn (fun j=>Yf o id (T.getD j Zr)) T.length
def unP (T:List Zl) (o:LI) (id:Int):List Zl:=T.eraseIdx (atO T o id)
structure TR (T D:List Zl):Prop where
 perm:D.Perm T
 ord:Uc ltT D
 outs:T.Pairwise fun a b=>Yf b.out.v b.outID a=false
 len:T.length<=48
theorem ZaL (a b:Zl):Yf b.out.v b.outID a=Yf a.out.v a.outID b:=by
 unfold Yf
 rw [JK,J2,J2,beq_iff_eq,beq_iff_eq,beq_iff_eq,beq_iff_eq]
 exact ⟨fun h=>⟨h.1.symm,h.2.symm⟩,fun h=>⟨h.1.symm,h.2.symm⟩⟩
theorem TR.nil:TR [] []:=⟨.refl _,.nil,.nil,by simp⟩
theorem Z8t {T:List Zl} (h:D.Perm T) (x:Zl):clash D x=clash T x:=by
 unfold clash
 rw [JK,K5,K5]
 exact ⟨fun ⟨y,hy,hp⟩=>⟨y,h.mem_iff.1 hy,hp⟩,fun ⟨y,hy,hp⟩=>⟨y,h.mem_iff.2 hy,hp⟩⟩
theorem Z4N {T:List Zl} (h:D.Perm T) (x:Zl):YQ D x=YQ T x:=by
 unfold YQ
 rw [Z8t h,h.length_eq]
theorem Z5P {T:List Zl} {x:Zl} (h:YQ T x=0):W5 x=true/\clash T x=false/\T.length<48:=by
 unfold YQ at h
 split at h
 ·split at h
  ·omega
  ·split at h
   ·omega
   ·exact ⟨by assumption,by simpa using ‹¬clash T x=true›,by omega⟩
 ·omega
theorem TR.dOuts {T:List Zl} (h:TR T D):D.Pairwise fun a b=>Yf b.out.v b.outID a=false:=h.perm.pairwise_iff (fun {a b} hab=>by rw [ZaL];exact hab)|>.2 h.outs
theorem TR.tie {T:List Zl} (h:TR T D) (x:Zl):TR (W6 T x) (Qi D x):=by
 unfold W6 Qi
 rw [Z4N h.perm]
 split
 ·rename_i he
  obtain ⟨h1,h2,h3⟩:=Z5P he
  refine ⟨VD.trans ((List.Perm.cons x h.perm).trans (List.perm_append_singleton x T).symm),UK Z8s h.ord, ?_,by rw [J3];simp;omega⟩
  rw [Kg]
  refine ⟨h.outs,by simp,fun a ha b hb=> ?_⟩
  rw [JL.1 hb]
  have:=(Ke.1 h2) a ha
  simp only [JJ,not_or,Bool.not_eq_true] at this
  exact this.2
 ·exact h
theorem Z3D {T:List Zl} (h:T.Pairwise fun a b=>Yf b.out.v b.outID a=false) {o:LI} {id:Int}:∀{i j:Nat} (hi:i<T.length) (hj:j<T.length),i<j->Yf o id T[i]=true->Yf o id T[j]=true->False:=by
 intro i j hi hj hlt h1 h2
 have:=Jk.1 h i j hi hj hlt
 unfold Yf at*
 rw [J2,beq_iff_eq,beq_iff_eq] at h1 h2
 rw [h1.1,h1.2,h2.1,h2.2] at this
 simp at this
theorem getD_at {T:List Zl} {i:Nat} (h:i<T.length):T.getD i Zr=T[i]:=by
 rw [J5,J8 h]
 rfl
theorem TR.sorted {T M:List Zl} (h:TR T D) (hm:M.Perm T) (ho:Uc ltT M):M=D:=by
 refine V3 (lt:=ltT) (hm.trans h.perm.symm) ho h.ord fun a ha b hb h1 h2=> ?_
 have ha:=hm.mem_iff.1 ha
 have hb:=hm.mem_iff.1 hb
 obtain ⟨i,hi,rfl⟩:=Ju ha
 obtain ⟨j,hj,rfl⟩:=Ju hb
 have hk:=ZeQ h1 h2
 have hs:Yf T[j].out.v T[j].outID T[j]=true:=by unfold Yf;simp
 rcases Nat.lt_trichotomy i j with hlt|rfl|hgt
 ·exact (Z3D h.outs hi hj hlt hk hs).elim
 ·rfl
 ·exact (Z3D h.outs hj hi hgt hs hk).elim
structure Zq where
 hash:H32
 key:H32
 amount:Int
 least:Int
 secret:H32
def ZB:Zq:=⟨h0,h0,0,0,h0⟩
instance:Inhabited H32:=⟨h0⟩
instance:Inhabited Zq:=⟨ZB⟩
def ltS (a b:H32):Bool:=decide (ZQ a.v b.v<0)
def ltQ (a b:Zq):Bool:=decide (ZQ a.hash.v b.hash.v<0)
def XO (H:LI->LI) (S:List H32) (h:LI):Nat:=Zn (fun j=>h==H (S.getD j h0).v) S.length
def atQ (Q:List Zq) (h:LI):Nat:=Zn (fun j=>h==(Q.getD j ZB).hash.v) Q.length
def Qj (H:LI->LI) (S:List H32) (s:H32):Int:=if XO H S (H s.v)<S.length then 0 else if 64<=S.length then 3 else 0
def Xz (H:LI->LI) (S:List H32) (s:H32):List H32:=if XO H S (H s.v)<S.length then S.set (XO H S (H s.v)) s else if 64<=S.length then S else S++[s]
def Z6T (H:LI->LI) (S:List H32) (h:LI):Int:=if XO H S h<S.length then 0 else 5
def ZcA (H:LI->LI) (S:List H32) (h:LI):List H32:=S.eraseIdx (XO H S h)
def Xa (H:LI->LI) (q:Zq):Bool:=decide (1<=q.amount/\q.amount<=1125899906842624)&&decide (1<=q.least/\q.least<=1000)&&(H q.secret.v==q.hash.v)
def YS (H:LI->LI) (Q:List Zq) (q:Zq):Int:=if Xa H q=true then (if atQ Q q.hash.v<Q.length then 360 else if 16<=Q.length then 3 else 0) else 2
def Wh (H:LI->LI) (Q:List Zq) (q:Zq):List Zq:=if YS H Q q=0 then Q++[q] else Q
def Z6U (Q:List Zq) (h:LI):Int:=if atQ Q h<Q.length then 0 else 5
def ZcB (Q:List Zq) (h:LI):List Zq:=Q.eraseIdx (atQ Q h)
def U0 (S:List H32) (s:H32):List H32:=if (S.any fun y=>decide (ZQ s.v y.v=0))=true then S else if 64<=S.length then S else Xy ltS s S
def Z3V (S:List H32) (s:H32):Int:=if (S.any fun y=>decide (ZQ s.v y.v=0))=true then 0 else if 64<=S.length then 3 else 0
def ZaM (H:LI->LI) (S:List H32) (h:LI):List H32:=if XO H S h<S.length then S.filter (fun y=> !(y.v==(S.getD (XO H S h) h0).v)) else S
def Ud (H:LI->LI) (Q:List Zq) (q:Zq):List Zq:=if YS H Q q=0 then Xy ltQ q Q else Q
def ZaN (Q:List Zq) (h:LI):List Zq:=if atQ Q h<Q.length then Q.filter (fun y=> !(y.hash.v==h)) else Q
structure Za where
 T:List Zl
 S:List H32
 Q:List Zq
variable {X:Za}
structure Za.Lim (x:Za):Prop where
 t:x.T.length<=48
 s:x.S.length<=64
 q:x.Q.length<=16
 ko:x.T.Pairwise fun a b=>Yf b.out.v b.outID a=false
 ki:x.T.Pairwise fun a b=>Wg b.inn.v b.inID a=false
theorem Za.Lim.nil:Za.Lim ⟨[],[],[]⟩:=⟨by simp,by simp,by simp,.nil,.nil⟩
theorem Za.Lim.tie (h:X.Lim) (x:Zl):Za.Lim ⟨W6 X.T x,X.S,X.Q⟩:=by
 by_cases he:YQ X.T x=0
 ·have e:W6 X.T x=X.T++[x]:=by unfold W6;rw [if_pos he]
  obtain ⟨h1,h2,h3⟩:=Z5P he
  have hc:∀a∈X.T,Wg x.inn.v x.inID a=false/\Yf x.out.v x.outID a=false:=fun a ha=>by
   have:=(Ke.1 h2) a ha
   simp only [JJ,not_or,Bool.not_eq_true] at this
   exact this
  rw [e]
  refine ⟨by show (X.T++[x]).length<=48;rw [J3];simp;omega,h.s,h.q, ?_, ?_⟩
  ·exact Kg.2 ⟨h.ko,by simp,fun a ha b hb=>by rw [JL.1 hb];exact (hc a ha).2⟩
  ·exact Kg.2 ⟨h.ki,by simp,fun a ha b hb=>by rw [JL.1 hb];exact (hc a ha).1⟩
 ·have e:W6 X.T x=X.T:=by unfold W6;rw [if_neg he]
  rw [e]
  exact h
theorem Ziv {T:List Zl} (hi:T.Pairwise fun a b=>Wg b.inn.v b.inID a=false) (hj:j<T.length):Zn (fun i=>Wg (T.getD j Zr).inn.v (T.getD j Zr).inID (T.getD i Zr)) T.length=j:=by
 refine Um hj ?_ fun i hlt=> ?_
 ·unfold Wg;simp
 ·have:=Jk.1 hi i j (by omega) hj hlt
  rw [getD_at hj,getD_at (by omega)]
  exact this
theorem Z4O (d:α) {T:List α} {i:Nat}:(T.eraseIdx j).getD i d=if i<j then T.getD i d else T.getD (i+1) d:=by
 rw [J5,List.getElem?_eraseIdx]
 split<;>rw [J5]
theorem ZcC {S:List H32} {s:H32} (h:S.length<=64):(Xz H S s).length<=64:=by
 unfold Xz
 split
 ·simpa using h
 ·split
  ·exact h
  ·rw [J3];simp;omega
theorem ZcD {S:List H32} {s:H32} (h:S.length<=64):(U0 S s).length<=64:=by
 unfold U0
 split
 ·exact h
 ·split
  ·exact h
  ·rw [UJ];omega
theorem ZcE {Q:List Zq} {q:Zq} (h:YS H Q q=0):Q.length<16:=by
 unfold YS at h
 split at h
 ·split at h
  ·omega
  ·split at h<;>omega
 ·omega
theorem ZcF {Q:List Zq} {q:Zq} (h:Q.length<=16):(Wh H Q q).length<=16:=by
 unfold Wh
 split
 ·rename_i he
  have:=ZcE he
  rw [J3];simp;omega
 ·exact h
theorem ZcG {Q:List Zq} {q:Zq} (h:Q.length<=16):(Ud H Q q).length<=16:=by
 unfold Ud
 split
 ·rename_i he
  have:=ZcE he
  rw [UJ];omega
 ·exact h
def ZZ {α:Type} (lt:α->α->Bool) (x:α) (D:List α) (i:Nat):Bool:=(D.take i).any (lt x)
def Y0 {α:Type} (lt:α->α->Bool) (x:α) (D:List α) (i:Nat):List α:=if ZZ lt x D i=true then Xy lt x (D.take i) else D.take i
theorem Z6V {α:Type} {lt:α->α->Bool} {x y:α}:∀{l:List α},Xy lt x (l++[y])=if l.any (lt x)=true then Xy lt x l++[y] else if lt x y=true then l++[x,y] else l++[y,x]
 | []=>by
  simp only [Kl,Xy,List.any_nil,Bool.false_eq_true,if_false]
  cases lt x y<;>rfl
 | z::l=>by
  simp only [List.cons_append,Xy,List.any_cons]
  cases h:lt x z with
  | true=>simp
  | false=>
   simp only [Bool.false_or,Z6V (l:=l)]
   split
   ·rfl
   ·split<;>rfl
theorem Z4P {α:Type} {lt:α->α->Bool} {x:α}:∀{l:List α},l.any (lt x)=false->Xy lt x l=l++[x]
 | [],_=>rfl
 | z::l,h=>by
  simp only [List.any_cons,Bool.or_eq_false_iff] at h
  simp only [Xy,h.1,Z4P h.2,List.cons_append]
theorem YZ (d:α) {D:List α} {i:Nat} (h:i<D.length):D.take (i+1)=D.take i++[D.getD i d]:=by
 rw [List.take_succ_eq_append_getElem h,J5,J8 h]
 rfl
theorem Wr (d:α) {lt:α->α->Bool} {x:α} {D:List α} {i:Nat} (h:i<D.length):ZZ lt x D (i+1)=(ZZ lt x D i||lt x (D.getD i d)):=by
 unfold ZZ
 rw [YZ d h,List.any_append]
 simp
theorem UM (d:α) {lt:α->α->Bool} {x:α} {D:List α} {i:Nat} (h:i<D.length):Y0 lt x D (i+1)=Y0 lt x D i++(if (!ZZ lt x D i&&lt x (D.getD i d))=true then [x,D.getD i d] else [D.getD i d]):=by
 unfold Y0
 rw [Wr d h,YZ d h,Z6V]
 unfold ZZ
 cases h1:(D.take i).any (lt x)<;>cases h2:lt x (D.getD i d)<;>simp
theorem QY {lt:α->α->Bool} {x:α} {D:List α}:Xy lt x D=if ZZ lt x D D.length=true then Y0 lt x D D.length else Y0 lt x D D.length++[x]:=by
 unfold Y0 ZZ
 rw [Jr]
 cases h:D.any (lt x) with
 | true=>simp
 | false=>simp [Z4P h]
theorem XP {lt:α->α->Bool} {x:α} {D:List α} {i:Nat}:(Y0 lt x D i).length<=D.length+1:=by
 unfold Y0
 split
 ·rw [UJ,Jc];omega
 ·rw [Jc];omega
def Ws {α:Type} (p:α->Bool) (D:List α) (i:Nat):List α:=(D.take i).filter p
theorem Z1f (d:α) {p:α->Bool} {D:List α} {i:Nat} (h:i<D.length):Ws p D (i+1)=Ws p D i++(if p (D.getD i d)=true then [D.getD i d] else []):=by
 unfold Ws
 rw [YZ d h,List.filter_append,List.filter_cons]
 split<;>rfl
theorem Z3E {p:α->Bool} {D:List α}:Ws p D D.length=D.filter p:=by
 unfold Ws
 rw [Jr]
theorem Z3F {p:α->Bool} {D:List α} {i:Nat}:(Ws p D i).length<=D.length:=by
 refine Ka (List.length_filter_le _ _) ?_
 rw [Jc]
 omega
def Qw (y x:Zl):Bool:=y.inn.v==x.inn.v&&(y.inID==x.inID&&(y.out.v==x.out.v&&y.outID==x.outID))
def unD (D:List Zl) (o:LI) (id:Int):List Zl:=if atO D o id<D.length then D.filter (fun y=> !Qw y (D.getD (atO D o id) Zr)) else D
theorem and_mk {a b:Bool} (h1:a=true) (h2:b=true):(a&&b)=true:=by rw [h1,h2];rfl
theorem H32.u8 (a:H32):∀x∈a.v,U8 x:=fun x hx=>by
 have:=a.b x hx
 unfold U8
 omega
theorem ZcH:∀{x y:LI},x.length=y.length->(∀v∈x,0<=v/\v<=255)->(∀v∈y,0<=v/\v<=255)->cmpI x y=ZQ x y
 | [],[],_,_,_=>rfl
 | [],_::_,h,_,_=>by simp at h
 | _::_,[],h,_,_=>by simp at h
 | a::r,b::s,h,hx,hy=>by
  have ih:=ZcH (x:=r) (y:=s) (by simpa using h) (fun v hv=>hx v (Jh _ hv)) fun v hv=>hy v (Jh _ hv)
  have ha:=hx a (Jz ..)
  have hb:=hy b (Jz ..)
  have k1:=(Z9k (a:=a) (b:=b) (by omega) (by omega)).2
  have k2:=(Z9k (a:=b) (b:=a) (by omega) (by omega)).2
  have e:cmpI (a::r) (b::s)=if Qd a<Qd b then -1 else if Qd b<Qd a then 1 else cmpI r s:=rfl
  rw [e,XN,ih]
  simp only [k1,k2]
theorem H32.cmpI (a b:H32):cmpI a.v b.v=ZQ a.v b.v:=ZcH (a.l.trans b.l.symm) a.b b.b
theorem Zh9 {x y:LI} {b:Int} {i:Nat} {P:Prop} (hx:i<x.length) (hy:i<y.length) (hb:b=ZQ (x.drop i) (y.drop i)) (hP:b=ZQ (x.drop (i+1)) (y.drop (i+1))->P):
  Z8 (decide (x.getD i 0<y.getD i 0)) (AV.int .i64 (-1)=AV.int .i64 b) (Z8 (decide (x.getD i 0>y.getD i 0)) (AV.int .i64 1=AV.int .i64 b) P):=by
 have e1:x.drop i=x.getD i 0::x.drop (i+1):=by simp_all
 have e2:y.drop i=y.getD i 0::y.drop (i+1):=by rw [List.drop_eq_getElem_cons hy];grind
 rw [e1,e2,XN] at hb
 by_cases h1:x.getD i 0<y.getD i 0
 ·rw [if_pos h1] at hb
  rw [decide_eq_true h1,hb]
  rfl
 ·rw [if_neg h1] at hb
  rw [decide_eq_false h1]
  by_cases h2:y.getD i 0<x.getD i 0
  ·rw [if_pos h2] at hb
   rw [decide_eq_true (show x.getD i 0>y.getD i 0 from h2),hb]
   rfl
  ·rw [if_neg h2] at hb
   rw [decide_eq_false (show ¬x.getD i 0>y.getD i 0 from h2)]
   exact hP hb
theorem Ziw (x y:LI) (b:Int) (hx:x.length=32) (hy:y.length=32) (hb:b=ZQ (x.drop 0) (y.drop 0)):
  evF G0 20 74 [.agg [.arr .u8 32 x],.agg [.arr .u8 32 y]] ⟨0,[]⟩ (Vz (fun v=>v=.int .i64 b)):=by
 refine @Eq.mpr _ (let d:=AV.int i64 b;let c:=AV.int i64 (-1)=d;let a:=AV.int i64 1=d;
 Z8 (decide (List.getD x 0 0<List.getD y 0 0)) c
 (Z8 (decide (List.getD x 0 0>List.getD y 0 0)) a
 (Z8 (decide (List.getD x 1 0<List.getD y 1 0)) c
 (Z8 (decide (List.getD x 1 0>List.getD y 1 0)) a
 (Z8 (decide (List.getD x 2 0<List.getD y 2 0)) c
 (Z8 (decide (List.getD x 2 0>List.getD y 2 0)) a
 (Z8 (decide (List.getD x 3 0<List.getD y 3 0)) c
 (Z8 (decide (List.getD x 3 0>List.getD y 3 0)) a
 (Z8 (decide (List.getD x 4 0<List.getD y 4 0)) c
 (Z8 (decide (List.getD x 4 0>List.getD y 4 0)) a
 (Z8 (decide (List.getD x 5 0<List.getD y 5 0)) c
 (Z8 (decide (List.getD x 5 0>List.getD y 5 0)) a
 (Z8 (decide (List.getD x 6 0<List.getD y 6 0)) c
 (Z8 (decide (List.getD x 6 0>List.getD y 6 0)) a
 (Z8 (decide (List.getD x 7 0<List.getD y 7 0)) c
 (Z8 (decide (List.getD x 7 0>List.getD y 7 0)) a
 (Z8 (decide (List.getD x 8 0<List.getD y 8 0)) c
 (Z8 (decide (List.getD x 8 0>List.getD y 8 0)) a
 (Z8 (decide (List.getD x 9 0<List.getD y 9 0)) c
 (Z8 (decide (List.getD x 9 0>List.getD y 9 0)) a
 (Z8 (decide (List.getD x 10 0<List.getD y 10 0)) c
 (Z8 (decide (List.getD x 10 0>List.getD y 10 0)) a
 (Z8 (decide (List.getD x 11 0<List.getD y 11 0)) c
 (Z8 (decide (List.getD x 11 0>List.getD y 11 0)) a
 (Z8 (decide (List.getD x 12 0<List.getD y 12 0)) c
 (Z8 (decide (List.getD x 12 0>List.getD y 12 0)) a
 (Z8 (decide (List.getD x 13 0<List.getD y 13 0)) c
 (Z8 (decide (List.getD x 13 0>List.getD y 13 0)) a
 (Z8 (decide (List.getD x 14 0<List.getD y 14 0)) c
 (Z8 (decide (List.getD x 14 0>List.getD y 14 0)) a
 (Z8 (decide (List.getD x 15 0<List.getD y 15 0)) c
 (Z8 (decide (List.getD x 15 0>List.getD y 15 0)) a
 (Z8 (decide (List.getD x 16 0<List.getD y 16 0)) c
 (Z8 (decide (List.getD x 16 0>List.getD y 16 0)) a
 (Z8 (decide (List.getD x 17 0<List.getD y 17 0)) c
 (Z8 (decide (List.getD x 17 0>List.getD y 17 0)) a
 (Z8 (decide (List.getD x 18 0<List.getD y 18 0)) c
 (Z8 (decide (List.getD x 18 0>List.getD y 18 0)) a
 (Z8 (decide (List.getD x 19 0<List.getD y 19 0)) c
 (Z8 (decide (List.getD x 19 0>List.getD y 19 0)) a
 (Z8 (decide (List.getD x 20 0<List.getD y 20 0)) c
 (Z8 (decide (List.getD x 20 0>List.getD y 20 0)) a
 (Z8 (decide (List.getD x 21 0<List.getD y 21 0)) c
 (Z8 (decide (List.getD x 21 0>List.getD y 21 0)) a
 (Z8 (decide (List.getD x 22 0<List.getD y 22 0)) c
 (Z8 (decide (List.getD x 22 0>List.getD y 22 0)) a
 (Z8 (decide (List.getD x 23 0<List.getD y 23 0)) c
 (Z8 (decide (List.getD x 23 0>List.getD y 23 0)) a
 (Z8 (decide (List.getD x 24 0<List.getD y 24 0)) c (Z8 (decide (List.getD x 24 0>List.getD y 24 0)) a (Z8 (decide (List.getD x 25 0<List.getD y 25 0)) c (Z8 (decide (List.getD x 25 0>List.getD y 25 0)) a (Z8 (decide (List.getD x 26 0<List.getD y 26 0)) c (Z8 (decide (List.getD x 26 0>List.getD y 26 0)) a (Z8 (decide (List.getD x 27 0<List.getD y 27 0)) c (Z8 (decide (List.getD x 27 0>List.getD y 27 0)) a (Z8 (decide (List.getD x 28 0<List.getD y 28 0)) c (Z8 (decide (List.getD x 28 0>List.getD y 28 0)) a (Z8 (decide (List.getD x 29 0<List.getD y 29 0)) c (Z8 (decide (List.getD x 29 0>List.getD y 29 0)) a (Z8 (decide (List.getD x 30 0<List.getD y 30 0)) c (Z8 (decide (List.getD x 30 0>List.getD y 30 0)) a (Z8 (decide (List.getD x 31 0<List.getD y 31 0)) c (Z8 (decide (List.getD x 31 0>List.getD y 31 0)) a (AV.int i64 0=d))))))))))))))))))))))))))))))))))))))))))))))))))))))))))))))))) (by kernel_rfl) ?_
 conv=>zeta
 iterate 32 refine Zh9 (by omega) (by omega) hb fun hb=> ?_
 rw [K9 (by omega),K9 (by omega)] at hb
 have h0:ZQ [] []=0:=rfl
 rw [hb,h0]
def Zha:YK:=fun args _ K=>match args with
 | [.agg [.arr .u8 32 x],.agg [.arr .u8 32 y]]=>(x.length=32/\y.length=32)/\K (.int .i64 (ZQ x y))
 | _=>False
theorem ZeR (args:List AV) (h:Z6) (K:AV->Prop) (hl:Zha args h K):Zh PP 74 args h fun o h'=>∃v,o=.ret v/\h'=h/\K v:=by
 unfold Zha at hl
 split at hl
 ·obtain ⟨⟨h1,h2⟩,hK⟩:=hl
  exact V1 Zv rfl (Ziw _ _ _ h1 h2 rfl) (fun u hu=>hu▸hK)
 ·exact hl.elim
def Zl.c (x:Zl):List AV:=[.arr .u8 32 x.inn.v,.int .i64 x.inID,.arr .u8 32 x.out.v,.int .i64 x.outID]
theorem ZkS (x y:Zl) (r:Int) (hr:r=cfT x y):
  evF G0 40 60 [.agg x.c,.agg y.c] ⟨0,[]⟩ (Vz (fun v=>v=.int .i64 r)):=by
 refine @Eq.mpr _ (let l:=x.out.v;let h:=y.out.v;let b:=y.outID;let a:=x.outID;let g:=b !=b;let f:=cmpI l h;let e:=f !=0;let c:=AV.int i64 r;let d:=AV.int i64 f=c;let k:=Z8 e d (AV.int i64 0=c);let j:=Z8 e d (AV.int i64 (-1)=c);let i:=Z8 e d (AV.int i64 1=c);
 Z4 (u8=u8/\l.length=32) (Z4 (u8=u8/\h.length=32) (Z4 (b=b) (Z4 (a=a) (Z8 (a !=a) (Z8 g k j) (Z8 g i (Z8 (decide (a<b)) j (Z8 (decide (a>b)) i k)))))))) (by kernel_rfl) ?_
 conv=>zeta
 try simp only [vcA]
 try simp only [vcB]
 try simp only [vcC]
 simp only [H32.cmpI,bne_self_eq_false,Bool.false_eq_true,false_implies,true_and,forall_const,true_implies]
 refine ⟨x.out.l,y.out.l,fun h1=>⟨fun h=> ?_,fun h=> ?_⟩,fun h1=>⟨fun h2=>⟨fun h=> ?_,fun h=> ?_⟩,fun h2=>⟨fun h=> ?_,fun h=> ?_⟩⟩⟩
 all_goals
  congr 1
  simp only [bne_iff_ne,ne_eq,bne_eq_false_iff_eq] at h
  rw [hr]
  unfold cfT Zh8
  split<;>(try split)<;>(try split)<;>omega
def ekV (o:LI) (id:Int):AV:=.agg [.arr .u8 32 o,.int .i64 id]
def tiV (T:List Zl) (j:Nat):AV:=.agg [.arr .u8 32 (T.getD j Zr).inn.v,.int .i64 (T.getD j Zr).inID,.arr .u8 32 (T.getD j Zr).out.v,.int .i64 (T.getD j Zr).outID]
def tkO (T:List Zl) (j:Nat):AV:=.agg [.arr .u8 32 (T.getD j Zr).out.v,.int .i64 (T.getD j Zr).outID]
def tkI (T:List Zl) (j:Nat):AV:=.agg [.arr .u8 32 (T.getD j Zr).inn.v,.int .i64 (T.getD j Zr).inID]
def skV (H:LI->LI) (S:List H32) (j:Nat):AV:=.agg [.arr .u8 32 (H (S.getD j h0).v)]
def seV (S:List H32) (j:Nat):AV:=.agg [.arr .u8 32 (S.getD j h0).v]
def qkV (Q:List Zq) (j:Nat):AV:=.agg [.arr .u8 32 (Q.getD j ZB).hash.v]
def quV (Q:List Zq) (j:Nat):AV:=.agg [.arr .u8 32 (Q.getD j ZB).hash.v,.arr .u8 32 (Q.getD j ZB).key.v,.int .i64 (Q.getD j ZB).amount,.int .i64 (Q.getD j ZB).least,.arr .u8 32 (Q.getD j ZB).secret.v]
def tbO (H:LI->LI) (x:Za):List (Nat×Blk):=[(0,.flat [.map (some 1),.map (some 2),.map (some 3),.map (some 4)]),(1,.fmap x.T.length (tkO x.T) (tiV x.T)),(2,.fmap x.T.length (tkI x.T) (tiV x.T)),(3,.fmap x.S.length (skV H x.S) (seV x.S)),(4,.fmap x.Q.length (qkV x.Q) (quV x.Q))]
theorem Zix (a b:LI) (i j:Int) (ha:a.length=32) (hb:b.length=32):
  Z8S PP 122 (ekV a i) (ekV b j):=by
 refine @Eq.mpr _ (Z4 (a.length=32/\b.length=32) ((a==b&&i==j)=Zz (AV.agg [AV.arr u8 32 a,AV.int i64 i]) (AV.agg [AV.arr u8 32 b,AV.int i64 j]))) (by kernel_rfl) ?_
 try simp only [vcA]
 try simp only [vcB]
 try simp only [vcC]
 exact ⟨⟨ha,hb⟩,rfl⟩
def agP (v:AV):Prop:=∃cs,v=.agg cs/\YA cs=true/\∀v∈cs,v.isCell=true\/∃k n xs,v=.arr k n xs
theorem Z9y {k:Nat} {v:AV} (h:agP v):eqV k τ v v True:=by
 obtain ⟨cs,rfl,h1,h2⟩:=h
 unfold eqV
 exact Z1b h1 trivial h2
theorem ZT {k:Nat} {n:Nat} {kf vf kf' vf':Nat->AV} (hp:∀j,agP (kf j)/\agP (vf j)) (h:∀j,j<n->kf' j=kf j/\vf' j=vf j):Z7 k τ n kf vf kf' vf':=
 ⟨fun j hj=>by
  obtain ⟨e1,e2⟩:=h j hj
  rw [e1,e2]
  exact ⟨Z9y (hp j).1,Z9y (hp j).2⟩⟩
theorem Z1J (T:List Zl) (j:Nat):agP (tkO T j)/\agP (tiV T j):=by
 constructor<;>(refine ⟨_,rfl,rfl,fun v hv=> ?_⟩;simp only [J7,JH,or_false] at hv;rcases hv with rfl|rfl|rfl|rfl<;>first|exact .inl rfl|exact .inr ⟨_,_,_,rfl⟩)
theorem Z4Q (T:List Zl) (j:Nat):agP (tkI T j)/\agP (tiV T j):=by
 constructor<;>(refine ⟨_,rfl,rfl,fun v hv=> ?_⟩;simp only [J7,JH,or_false] at hv;rcases hv with rfl|rfl|rfl|rfl<;>first|exact .inl rfl|exact .inr ⟨_,_,_,rfl⟩)
theorem Z0B (H:LI->LI) (S:List H32) (j:Nat):agP (skV H S j)/\agP (seV S j):=by
 constructor<;>(refine ⟨_,rfl,rfl,fun v hv=> ?_⟩;simp only [J7,JH,or_false] at hv;rcases hv with rfl<;>first|exact .inl rfl|exact .inr ⟨_,_,_,rfl⟩)
theorem Z1K (Q:List Zq) (j:Nat):agP (qkV Q j)/\agP (quV Q j):=by
 constructor<;>(refine ⟨_,rfl,rfl,fun v hv=> ?_⟩;simp only [J7,JH,or_false] at hv;rcases hv with rfl|rfl|rfl|rfl|rfl<;>first|exact .inl rfl|exact .inr ⟨_,_,_,rfl⟩)
theorem Xb (H:LI->LI) (x:Za) (k:Nat) (τ:Ren):Z7 k τ x.T.length (tkO x.T) (tiV x.T) (tkO x.T) (tiV x.T)/\Z7 k τ x.T.length (tkI x.T) (tiV x.T) (tkI x.T) (tiV x.T)/\Z7 k τ x.S.length (skV H x.S) (seV x.S) (skV H x.S) (seV x.S)/\Z7 k τ x.Q.length (qkV x.Q) (quV x.Q) (qkV x.Q) (quV x.Q):=
 ⟨ZT (Z1J _) fun _ _=>⟨rfl,rfl⟩,ZT (Z4Q _) fun _ _=>⟨rfl,rfl⟩,ZT (Z0B H _) fun _ _=>⟨rfl,rfl⟩,ZT (Z1K _) fun _ _=>⟨rfl,rfl⟩⟩
theorem ZcI (T:List Zl) {o:LI} (id:Int) (ho:o.length=32):Y3 PP 122 (ekV o id) T.length (tkO T):=⟨fun j _=>Zix _ _ _ _ ho (T.getD j Zr).out.l⟩
theorem ZcJ (T:List Zl) {o:LI} (id:Int) (ho:o.length=32):Y3 PP 122 (ekV o id) T.length (tkI T):=⟨fun j _=>Zix _ _ _ _ ho (T.getD j Zr).inn.l⟩
theorem Z0C (a b:LI) (i j:Int):Zz (ekV a i) (ekV b j)=(b==a&&j==i):=by
 rw [JK]
 simp only [ekV,Zz,UX,Z0T,decide_true,Jj,Bool.true_and,J2,beq_iff_eq]
 exact ⟨fun h=>⟨h.1.symm,h.2.symm⟩,fun h=>⟨h.1.symm,h.2.symm⟩⟩
theorem Ziy (T:List Zl) (o:LI) (id:Int):Zn (fun j=>Zz (ekV o id) (tkO T j)) T.length=atO T o id:=by
 unfold atO
 congr 1
 funext j
 exact Z0C ..
theorem Ziz (T:List Zl) (o:LI) (id:Int):Nat.blt (Zn (fun j=>Zz (ekV o id) (tkO T j)) T.length) T.length=T.any (Yf o id):=by
 rw [Z3C,<-Z4M Zr]
 congr 1
 funext j
 exact Z0C ..
theorem ZiA (T:List Zl) (o:LI) (id:Int):Nat.blt (Zn (fun j=>Zz (ekV o id) (tkI T j)) T.length) T.length=T.any (Wg o id):=by
 rw [Z3C,<-Z4M Zr]
 congr 1
 funext j
 exact Z0C ..
theorem ZcK (T:List Zl) (x:Zl):clash T x=(T.any (Wg x.inn.v x.inID)||T.any (Yf x.out.v x.outID)):=by
 unfold clash
 induction T with
 | nil=>rfl
 | cons a T ih=>
  simp only [List.any_cons,ih]
  cases Wg x.inn.v x.inID a<;>cases Yf x.out.v x.outID a<;>cases T.any (Wg x.inn.v x.inID)<;>rfl
theorem ZkT (H:LI->LI) (X:Za) (x:Zl) (T':List Zl) (e:Int) (hL:X.Lim) (he:e=YQ X.T x) (hT:T'=W6 X.T x):
  evF G0 40 17 [pt 0,.agg x.c] ⟨5,tbO H X⟩ (Y4 5 (.ret (.int .i64 e)) 5 (tbO H ⟨T',X.S,X.Q⟩)):=by
 refine @Eq.mpr _ (let j:=x.outID;let f:=decide (j=j);let z:=x.out.v;let d:=z=z;let r:=x.inn.v;let G:=AV.arr u8 (32:Nat) r;let h:=x.inID;let F:=AV.int i64 h;let q:=AV.agg [G,F];let c:=X.T;let a:=c.length;let E:=tkI c;let a2:=Y3 PP (122:Nat) q a E;let a1:=Zn (fun (i:Nat)=>Zz q (AV.agg [AV.arr u8 (32:Nat) (List.getD c i Zr).inn.v,AV.int i64 (List.getD c i Zr).inID])) a;let a0:=[AV.arr u8 (32:Nat) z,AV.int i64 j];let D:=AV.agg a0;let C:=tkO c;let B:=Y3 PP (122:Nat) D a C;let Z:=Zn (fun (i:Nat)=>Zz D (AV.agg [AV.arr u8 (32:Nat) (List.getD c i Zr).out.v,AV.int i64 (List.getD c i Zr).outID])) a;let Y:=Nat.blt Z a;let W:=decide ((0:Int)<=h);let V:= !decide (h<=(2147483647:Int));let p:=X.S;let o:=X.Q;let A:=Za.mk T' p o;let n:=A.T;let g:=n.length;let U:=decide (a=g);let R:=tkO n;let m:=tiV n;let y:=tiV c;let P:=tkI n;let w:=A.S;let O:=w.length;let u:=A.Q;let N:=u.length;let M:=Z4 (p.length=O) (Z7 (5:Nat) [] O (skV H w) (seV w) (skV H p) (seV p)/\Z4 (o.length=N) (Z7 (5:Nat) [] N (qkV u) (quV u) (qkV o) (quV o)/\True));let t:=Z0 U (Z7 (5:Nat) [] g R m C y/\Z0 U (Z7 (5:Nat) [] g P m E y/\M));let b:=Z4 ((2:Int)=e) t;let L:=decide ((0:Int)<=j);let K:= !decide (j<=(2147483647:Int));let s:=Z8 W (Z8 V b (Z8 L (Z8 K b (Z4 ((360:Int)=e) t)) b)) b;let l:=r=r;let k:=decide (h=h);let J:=decide (a+(1:Nat)=g);let I:=Wa y a (AV.agg (G::F::a0));
 Z0 f (d/\a2/\Z8 (Nat.blt a1 a) (B/\Z8 Y s s) (B/\Z8 Y s (Z8 W (Z8 V b (Z8 L (Z8 K b (Z8 (decide ((↑a:Int)>=(48:Int))) (Z4 ((3:Int)=e) t) (a2/\Z4 (a1=a) (l/\Z0 k (d/\Z0 f (l/\Z0 k (d/\Z0 f (d/\Z0 f (l/\Z0 k (d/\Z0 f (d/\Z0 f (B/\Z4 (Z=a) (l/\Z0 k (d/\Z0 f (Z4 ((0:Int)=e) (Z0 J (Z7 (5:Nat) [] g R m (Wa C a D) I/\Z0 J (Z7 (5:Nat) [] g P m (Wa E a q) I/\M)))))))))))))))))) b)) b)))) (by kernel_rfl) ?_
 conv=>zeta
 try simp only [vcA]
 try simp only [vcB]
 try simp only [vcC]
 have hKI:=ZcJ X.T x.inID x.inn.l
 have hKO:=ZcI X.T x.outID x.out.l
 have bI:=ZiA X.T x.inn.v x.inID
 have bO:=Ziz X.T x.out.v x.outID
 have hcl:=ZcK X.T x
 obtain ⟨t1,t2,t3,t4⟩:=Xb H X 5 []
 have hk:∀k:Int,k≠0->YQ X.T x=k->k=e/\X.T.length=T'.length/\Z7 5 [] T'.length (tkO T') (tiV T') (tkO X.T) (tiV X.T)/\X.T.length=T'.length/\Z7 5 [] T'.length (tkI T') (tiV T') (tkI X.T) (tiV X.T)/\Z7 5 [] X.S.length (skV H X.S) (seV X.S) (skV H X.S) (seV X.S)/\Z7 5 [] X.Q.length (qkV X.Q) (quV X.Q) (qkV X.Q) (quV X.Q):=fun k h0 hk=>by
  have:T'=X.T:=by
   rw [hT]
   unfold W6
   rw [if_neg (by omega)]
  rw [this,he,hk]
  exact ⟨rfl,rfl,t1,rfl,t2,t3,t4⟩
 have no:∀{a b:Bool},a=b->a= !b->False:=fun h1 h2=>by subst h1;simp at h2
 have k2:(¬(0<=x.inID/\x.inID<=2147483647)\/¬(0<=x.outID/\x.outID<=2147483647))->YQ X.T x=2:=fun h=>by
  unfold YQ W5
  rw [if_neg]
  rw [J2,decide_eq_true_eq,decide_eq_true_eq]
  omega
 have k3:(0<=x.inID/\x.inID<=2147483647)->(0<=x.outID/\x.outID<=2147483647)->YQ X.T x=if clash X.T x=true then 360 else if 48<=X.T.length then 3 else 0:=fun h1 h2=>by
  unfold YQ W5
  rw [if_pos (by rw [decide_eq_true h1,decide_eq_true h2];rfl)]
 refine ⟨hKI,fun c1=>⟨hKO,fun c2=> ?_,fun c2=> ?_⟩,fun c1=>⟨hKO,fun c2=> ?_,fun c2=> ?_⟩⟩
 all_goals
  have c1':=bI.symm.trans c1
  have c2':=bO.symm.trans c2
  rw [c1',c2'] at hcl
  refine ⟨fun a0=>⟨fun a1=>hk 2 (by decide) (k2 (.inl ?_)),fun a1=>⟨fun b0=>⟨fun b1=>hk 2 (by decide) (k2 (.inr ?_)),fun b1=> ?_⟩,fun b0=>hk 2 (by decide) (k2 (.inr ?_))⟩⟩,fun a0=>hk 2 (by decide) (k2 (.inl ?_))⟩
  ·simp only [Jy,decide_eq_false_iff_not] at a1;omega
  ·simp only [Jy,decide_eq_false_iff_not] at b1;omega
  rotate_left
  ·omega
  ·omega
  simp only [Bool.not_eq_false',decide_eq_true_eq] at a1 b1
  have k3:=k3 ⟨a0,a1⟩ ⟨b0,b1⟩
  rw [hcl] at k3
 ·exact hk 360 (by decide) k3
 ·exact hk 360 (by decide) k3
 ·exact hk 360 (by decide) k3
 ·refine ⟨fun l=>hk 3 (by decide) (by rw [k3,if_neg (by decide),if_pos (by omega)]),fun l=> ?_⟩
  have k3:YQ X.T x=0:=by rw [k3,if_neg (by decide),if_neg (by omega)]
  have hT:T'=X.T++[x]:=by rw [hT];unfold W6;rw [if_pos k3]
  have el:X.T.length+1=T'.length:=by rw [hT,J3];rfl
  have fI:Zn (fun j=>Zz (ekV x.inn.v x.inID) (tkI X.T j)) X.T.length=X.T.length:=by
   rcases Yt (fun j=>Zz (ekV x.inn.v x.inID) (tkI X.T j)) X.T.length with h|h
   ·exact h.1
   ·rw [YI h.1] at bI
    rw [c1'] at bI
    cases bI
  have fO:Zn (fun j=>Zz (ekV x.out.v x.outID) (tkO X.T j)) X.T.length=X.T.length:=by
   rcases Yt (fun j=>Zz (ekV x.out.v x.outID) (tkO X.T j)) X.T.length with h|h
   ·exact h.1
   ·rw [YI h.1] at bO
    rw [c2'] at bO
    cases bO
  refine ⟨hKI,fI,hKO,fO,by rw [he,k3],el,ZT (Z1J _) fun j hj=> ?_,el,ZT (Z4Q _) fun j hj=> ?_,t3,t4⟩
  all_goals
   rw [hT]
   unfold Wa
   rcases Jo j X.T.length with h|h
   ·rw [Zu (by omega)]
    first|unfold tkO tiV|unfold tkI tiV
    rw [getD_lt _ _ h]
    exact ⟨rfl,rfl⟩
   ·obtain rfl:j=X.T.length:=by omega
    rw [Jj]
    first|unfold tkO tiV|unfold tkI tiV
    rw [Z0A]
    exact ⟨rfl,rfl⟩
structure Xc (H:LI->LI) (X:Za) (cs:List AV) (n1:Nat) (k1 v1:Nat->AV) (n2:Nat) (k2 v2:Nat->AV) (n3:Nat) (k3 v3:Nat->AV) (n4:Nat) (k4 v4:Nat->AV):Prop where
 c:cs=[.map (some 1),.map (some 2),.map (some 3),.map (some 4)]
 o:n1=X.T.length/\k1=tkO X.T/\v1=tiV X.T
 i:n2=X.T.length/\k2=tkI X.T/\v2=tiV X.T
 s:n3=X.S.length/\k3=skV H X.S/\v3=seV X.S
 q:n4=X.Q.length/\k4=qkV X.Q/\v4=quV X.Q
 lim:X.Lim
theorem Wl (H:LI->LI) (h:X.Lim):Xc H X [.map (some 1),.map (some 2),.map (some 3),.map (some 4)] X.T.length (tkO X.T) (tiV X.T) X.T.length (tkI X.T) (tiV X.T) X.S.length (skV H X.S) (seV X.S) X.Q.length (qkV X.Q) (quV X.Q):=⟨rfl,⟨rfl,rfl,rfl⟩,⟨rfl,rfl,rfl⟩,⟨rfl,rfl,rfl⟩,⟨rfl,rfl,rfl⟩,h⟩
def U6 (H:LI->LI) (X:Za) (h:Z6) (t o i s a:Nat):List (Nat×Blk):=(t,.flat [.map (some o),.map (some i),.map (some s),.map (some a)])::(o,.fmap X.T.length (tkO X.T) (tiV X.T))::(i,.fmap X.T.length (tkI X.T) (tiV X.T))::(s,.fmap X.S.length (skV H X.S) (seV X.S))::(a,.fmap X.Q.length (qkV X.Q) (quV X.Q))::ZK (ZK (ZK (ZK (ZK h.bs t) o) i) s) a
def Z0D (H:LI->LI) (h:Z6) (args:List AV) (K0:Za->Nat->Nat->Nat->Nat->Nat->List AV->Prop):Prop:=match args with
 | .ptr (some ⟨t,0,0,0,0⟩)::_=>match h.get t with
  |some (.flat [.map (some o),.map (some i),.map (some s),.map (some a)])=>frA [t,o,i,s,a] h 60 args fun Bs az=>match Bs with
   | [.flat cs,.fmap n1 k1 v1,.fmap n2 k2 v2,.fmap n3 k3 v3,.fmap n4 k4 v4]=>∃X,Xc H X cs n1 k1 v1 n2 k2 v2 n3 k3 v3 n4 k4 v4/\K0 X t o i s a az
   | _=>False
  | _=>False
 | _=>False
theorem U1 (H:LI->LI) (X:Za) (j:Nat):(plainW (tkO X.T j)=true/\plainW (tiV X.T j)=true)/\(plainW (tkI X.T j)=true)/\(plainW (skV H X.S j)=true/\plainW (seV X.S j)=true)/\plainW (qkV X.Q j)=true/\plainW (quV X.Q j)=true:=⟨⟨rfl,rfl⟩,rfl,⟨rfl,rfl⟩,rfl,rfl⟩
theorem Xv {h:Z6} {args:List AV} {g:FuncId} {K:KO} {K0:Za->Nat->Nat->Nat->Nat->Nat->List AV->Prop} (hl:Z0D H h args K0) (hK:∀X t o i s a az,X.Lim->K0 X t o i s a az->∃v X',(∀d,mvV [t,o,i,s,a] d v=some v)/\Spec PP g az ⟨5,tbO H X⟩ (.ret v) 5 (tbO H X')/\K (.ret v) ⟨h.next,U6 H X' h t o i s a⟩):Zh PP g args h K:=by
 unfold Z0D at hl
 split at hl
 ·split at hl
  ·refine Spec.fsumm hl fun Bs a hlen hK0=> ?_
   split at hK0
   ·obtain ⟨X,⟨rfl,⟨rfl,rfl,rfl⟩,⟨rfl,rfl,rfl⟩,⟨rfl,rfl,rfl⟩,⟨rfl,rfl,rfl⟩,hL⟩,hK0⟩:=hK0
    obtain ⟨v,X',hv,hs,hK⟩:=hK X _ _ _ _ _ _ hL hK0
    have q:=U1 H X'
    exact ⟨_,_,_,_,_,hs,by simp,.ret _ _ (hv _),.cons _ _ _ _ _ _ rfl (.flat _ _ rfl) (.cons _ _ _ _ _ _ rfl (.fmap _ _ _ (fun i _=>(q i).1)) (.cons _ _ _ _ _ _ rfl (.fmap _ _ _ (fun i _=>⟨(q i).2.1,(q i).1.2⟩)) (.cons _ _ _ _ _ _ rfl (.fmap _ _ _ (fun i _=>(q i).2.2.1)) (.cons _ _ _ _ _ _ rfl (.fmap _ _ _ (fun i _=>(q i).2.2.2)) .nil)))),hK⟩
   ·exact hK0.elim
  ·exact hl.elim
 ·exact hl.elim
structure Z6W (cs:List AV) (x:Zl):Prop where
 h:cs=x.c
def Zhb (H:LI->LI):ZJ:=fun args h K=>Z0D H h args fun X t o i s a az=>match az with
 | [.ptr (some ⟨0,0,0,0,0⟩),.agg cs]=>∃x,Z6W cs x/\K (.ret (.int .i64 (YQ X.T x))) ⟨h.next,U6 H ⟨W6 X.T x,X.S,X.Q⟩ h t o i s a⟩
 | _=>False
theorem Z9z (H:LI->LI) (args:List AV) (h:Z6) (K:KO) (hl:Zhb H args h K):Zh PP 17 args h K:=by
 refine Xv hl fun X t o i s a az hL ha=> ?_
 split at ha
 ·obtain ⟨x,⟨rfl⟩,hK⟩:=ha
  exact ⟨_,_,fun _=>rfl,.evM Zv (ZkT H X x _ _ hL rfl rfl),hK⟩
 ·exact ha.elim
end Go.Tk
end
