/- W: part 4 of an engine (a symbolic evaluator, proved against the model) and of the walk by it. -/
import Derived.Test.YtdfjhgjefkkkbaaGreatW3
import Derived.OpenShut
import Derived.WideShapes
import Derived.ChangeSlices
import Derived.WalkKit
import Derived.ProofKit
import Derived.Below
import Derived.Handed
import Derived.Carry
set_option linter.unusedVariables false
set_option linter.unusedSimpArgs false
set_option maxRecDepth 100000
set_option maxHeartbeats 0
section
namespace Go.Tk
open IntKind (i64 u8 u32 u64 wrap)
variable {v:AV} {nx:Nat} {σ:List Nat} {args:List AV}
def Spec (P:Program) (f:FuncId) (args:List AV) (h0:Z8) (o:Out) (nx:Nat) (bs:List (Nat×Blk)):Prop:=
 ∀(E:Env) (w:World) (rs:List Value),Emb E h0 w->ZH E args rs->Calls P f rs.toArray w fun e w'=>∃E',Evo E h0 w E' ⟨nx,bs⟩ w'/\Z0b E' o e
theorem Z2k {k:Nat} {τ:Ren} {u:AV} {bs:List (Nat×Blk)} {h0 h:Z8} (hk:k=h0.next) (hl:Y9 k τ ⟨1,[(0,v)],⟨nx,bs⟩,[]⟩ ⟨1,[(0,u)],h,[]⟩ True) {E0 E:Env} {w0 w:World} {r:Value}
  (he0:Emb E0 h0 w0) (hev:Evo E0 h0 w0 E h w) (hr:Zk E u r):∃E',Evo E0 h0 w0 E' ⟨nx,bs⟩ w/\Zk E' v r:=by
 obtain ⟨_,hw⟩:=Ye hl
 have hs:VG E ⟨1,[(0,u)],h,[]⟩ { tmps:= #[r],defers:=[]} w:=by
  refine ⟨hev.emb,⟨rfl,fun x v' hx=> ?_⟩,.nil⟩
  simp only [ZT] at hx
  split at hx
  all_goals simp_all
 obtain ⟨E₂,hs2,hev2⟩:=hw E0 h0 w0 E _ w (fun x hx=>he0.fresh x (hk▸hx)) hs hev
 refine ⟨E₂,hev2, ?_⟩
 have:=hs2.tmps.get 0 v (by simp [ZT])
 simp_all
def mvN:List Nat->Nat->Nat->Nat
 | [],d,y=>d+y
 | x::_,_,0=>x
 | _::r,d,y+1=>mvN r d y
theorem Z8Y:∀{σ:List Nat} {d y x:Nat},XF σ y=some x->mvN σ d y=x
 | [],_,_,_,h=>by simp [XF] at h
 | x::r,d,0,_,h=>by simpa [XF,mvN] using h
 | x::r,d,y+1,_,h=>Z8Y (σ:=r) h
theorem Z8Z:∀{σ:List Nat} {d y:Nat},σ.length<=y->mvN σ d y=d+(y-σ.length)
 | [],d,y,_=>by simp [mvN]
 | x::r,d,0,h=>by simp at h
 | x::r,d,y+1,h=>by
  simp at h
  have:=Z8Z (σ:=r) (d:=d) h
  simp [mvN,this]
theorem Z0o:∀{σ:List Nat} {y:Nat},y<σ.length->∃x,XF σ y=some x
 | [],_,h=>by simp at h
 | x::r,0,_=>⟨x,rfl⟩
 | x::r,y+1,h=>Z0o (σ:=r) (by simp_all)
mutual
/-- Names moved. -/
def mvV (σ:List Nat) (d:Nat):AV->Option AV
 | .top=>some .top
 | .bool b=>some (.bool b)
 | .int k n=>some (.int k n)
 | .str s=>some (.str s)
 | .ptr none=>some (.ptr none)
 | .ptr (some p)=>some (.ptr (some ⟨mvN σ d p.blk,p.row,p.sz,p.off,p.inn⟩))
 | .nslice p esz len lo=>some (.nslice ⟨mvN σ d p.blk,p.row,p.sz,p.off,p.inn⟩ esz len lo)
 | .eslice=>some .eslice
 | .fslice=>some .fslice
 | .nilslice=>some .nilslice
 | .map none=>some (.map none)
 | .map (some x)=>some (.map (some (mvN σ d x)))
 | .nilFunc=>some .nilFunc
 | .nilIface=>some .nilIface
 | .func (.func g) fs cs=>match mvL σ d fs,mvL σ d cs with
  | some fs',some cs'=>some (.func (.func g) fs' cs')
  | _,_=>none
 | .iface t v=>match mvV σ d v with|some v'=>some (.iface t v')|none=>none
 | .agg cs=>match mvC σ d cs with|some cs'=>some (.agg cs')|none=>none
 | .tuple vs=>match mvL σ d vs with|some vs'=>some (.tuple vs')|none=>none
 | _=>none
def mvC (σ:List Nat) (d:Nat):List AV->Option (List AV)
 | []=>some []
 | .arr k n xs::r=>match mvC σ d r with|some r'=>some (.arr k n xs::r')|none=>none
 | v::r=>match mvV σ d v,mvC σ d r with
  | some v',some r'=>match v'.isCell with|true=>some (v'::r')|false=>none
  | _,_=>none
def mvL (σ:List Nat) (d:Nat):List AV->Option (List AV)
 | []=>some []
 | v::r=>match mvV σ d v,mvL σ d r with
  | some v',some r'=>some (v'::r')
  | _,_=>none
end
theorem Z1x (h:v.isCell=true) (r:List AV):csz (v::r)=1+csz r:=by
 cases v<;>simp_all [AV.isCell,csz]
set_option maxHeartbeats 1000000 in
mutual
theorem Z3A {σ:List Nat} {d:Nat} {E E':Env} (hb:∀x r,E.blk x=some r->E'.blk (mvN σ d x)=some r):∀(v v':AV) (r:Value),mvV σ d v=some v'->Zk E v r->Zk E' v' r:=by
 intro v v' r h hv
 unfold mvV at h
 split at h
 ·cases h;exact .top r
 ·cases h;exact hv.plain rfl
 ·cases h;exact hv.plain rfl
 ·cases h;exact hv.plain rfl
 ·cases h;exact hv.plain rfl
 ·cases h
  cases hv with
  | ptr p b N hq=>exact .ptr ⟨mvN σ d _,_,_,_,_⟩ b N (hb _ _ hq)
 ·cases h
  cases hv with
  | nslice0 p esz len lo a h1 h2=>exact .nslice0 _ _ _ _ a h1 h2
  | nslice p esz len lo b N cap hq h1 h2 h3=>exact .nslice ⟨mvN σ d _,_,_,_,_⟩ _ _ _ b N cap (hb _ _ hq) h1 h2 h3
 ·cases h;exact hv.plain rfl
 ·cases h;exact hv.plain rfl
 ·cases h;exact hv.plain rfl
 ·cases h;exact hv.plain rfl
 ·cases h
  cases hv with
  | map x b N hq=>exact .map _ b N (hb _ _ hq)
 ·cases h;exact hv.plain rfl
 ·cases h;exact hv.plain rfl
 ·split at h
  ·rename_i fs' cs' h1 h2
   cases h
   cases hv with
   | func fn first captured fs cs ha hc=>exact .func _ _ _ _ _ (Z1y hb _ _ _ h1 ha) (Z1y hb _ _ _ h2 hc)
  ·cases h
 ·split at h
  ·rename_i v1 h1
   cases h
   cases hv with
   | iface t v x hx=>exact .iface _ _ _ (Z3A hb _ _ _ h1 hx)
  ·cases h
 ·split at h
  ·rename_i cs' h1
   cases h
   cases hv with
   | agg cs vs hc=>exact .agg _ _ (Z3B hb _ _ _ h1 hc).1
  ·cases h
 ·split at h
  ·rename_i vs' h1
   cases h
   cases hv with
   | tuple vs rs hc=>exact .tuple _ _ (Z1y hb _ _ _ h1 hc)
  ·cases h
 ·cases h
theorem Z3B {σ:List Nat} {d:Nat} {E E':Env} (hb:∀x r,E.blk x=some r->E'.blk (mvN σ d x)=some r):∀(l l':List AV) (r:List Value),mvC σ d l=some l'->Zz E l r->Zz E' l' r/\csz l'=csz l:=by
 intro l l' r h hv
 unfold mvC at h
 split at h
 ·cases h;cases hv;exact ⟨.nil,rfl⟩
 ·split at h
  ·rename_i r' h1
   cases h
   obtain ⟨ws,rfl,ht⟩:=Zz.cons_arr hv
   have:=Z3B hb _ _ _ h1 ht
   exact ⟨.arr _ _ _ _ _ this.1,by simp [csz,this.2]⟩
  ·cases h
 ·rename_i v r2 hna
  split at h
  ·rename_i v1 r1 h1 h2
   split at h
   ·rename_i hcell
    cases h
    obtain ⟨c,ws,rfl,q1,q2,q3,q4⟩:=Zz.cons_cell hv (fun k m xs e=>hna k m xs e)
    have:=Z3B hb _ _ _ h2 q4
    exact ⟨.one _ _ _ _ hcell q2 (Z3A hb _ _ _ h1 q3) this.1,by rw [Z1x hcell,Z1x q1,this.2]⟩
   ·cases h
  ·cases h
theorem Z1y {σ:List Nat} {d:Nat} {E E':Env} (hb:∀x r,E.blk x=some r->E'.blk (mvN σ d x)=some r):∀(l l':List AV) (r:List Value),mvL σ d l=some l'->ZH E l r->ZH E' l' r:=by
 intro l l' r h hv
 unfold mvL at h
 split at h
 ·cases h;cases hv;exact .nil
 ·split at h
  ·rename_i v1 r1 h1 h2
   cases h
   cases hv with
   | cons v c vs cs ha hc=>exact .cons _ _ _ _ (Z3A hb _ _ _ h1 ha) (Z1y hb _ _ _ h2 hc)
  ·cases h
end
theorem ZgN {d:Nat}:∀(l l':List AV),mvC σ d l=some l'->csz l'=csz l:=by
 intro l
 induction l with
 | nil=>intro l' h;unfold mvC at h;simp_all
 | cons v r ih=>
  intro l' h
  unfold mvC at h
  grind [csz,Z1x]
inductive MvB (σ:List Nat) (d:Nat):Blk->Blk->Prop
 | ints (k:IntKind) (xs:LI):MvB σ d (.ints k xs) (.ints k xs)
 | flat (cs cs':List AV) (h:mvC σ d cs=some cs'):MvB σ d (.flat cs) (.flat cs')
 | rows (sz n:Nat) (f:Nat->List AV) (h:∀i,i<n->plainC (f i)=true):MvB σ d (.rows sz n f) (.rows sz n f)
 | rowsM (sz n:Nat) (f f':Nat->List AV) (h:∀i,i<n->mvC σ d (f i)=some (f' i)):MvB σ d (.rows sz n f) (.rows sz n f')
 | pmap (es es':List (AV×AV)) (h1:mvL σ d (es.map (·.1))=some (es'.map (·.1))) (h2:mvL σ d (es.map (·.2))=some (es'.map (·.2))):MvB σ d (.pmap es) (.pmap es')
inductive Z90 (σ:List Nat) (d:Nat):List (Nat×Blk)->List (Nat×Blk)->Prop
 | nil:Z90 σ d [] []
 | cons (y x:Nat) (B B':Blk) (r r':List (Nat×Blk)) (hx:mvN σ d y=x) (h:MvB σ d B B') (t:Z90 σ d r r'):Z90 σ d ((y,B)::r) ((x,B')::r')
inductive MvO (σ:List Nat) (d:Nat):Out->Out->Prop
 | ret (v v':AV) (h:mvV σ d v=some v'):MvO σ d (.ret v) (.ret v')
 | panic (v v':AV) (h:mvV σ d v=some v'):MvO σ d (.panic v) (.panic v')
theorem Z90.get {d:Nat}:∀{bs bs':List (Nat×Blk)},Z90 σ d bs bs'->∀x B',ZZ bs' x=some B'->∃y B,mvN σ d y=x/\ZZ bs y=some B/\MvB σ d B B'
 | _,_,.nil,x,B',h=>by simp [ZZ] at h
 | _,_,.cons y x0 B B0 r r' hx hm t,x,B',h=>by
  unfold ZZ at h
  split at h
  ·grind [J0,ZZ,Jj]
  ·obtain ⟨z,C,h1,h2,h3⟩:=t.get x B' h
   grind [Jj,ZZ,ZD]
theorem MvB.move {d:Nat} {B B':Blk} (hm:MvB σ d B B') {E E':Env} {w:World} {y:Nat} (hb:∀x r,E.blk x=some r->E'.blk (mvN σ d x)=some r) (hn:E.blk y=none->E'.blk (mvN σ d y)=none) (h:YG E w y B):YG E' w (mvN σ d y) B':=by
 cases hm with
 | ints k xs=>cases h with
  | ints0 k xs h0 hq=>exact .ints0 _ _ h0 (hn hq)
  | ints k xs b cells elem fr hq hw hf hv=>exact .ints _ _ b cells elem fr (hb _ _ hq) hw hf hv
 | flat cs cs' hc=>cases h with
  | flat0 cs h0 hq=>exact .flat0 _ ((ZgN _ _ hc).trans h0) (hn hq)
  | flat cs b cells elem fr vs hq hw hf hcr hv=>exact .flat _ b cells elem fr vs (hb _ _ hq) hw hf (Z3B hb _ _ _ hc hcr).1 hv
 | rows sz n f hp=>cases h with
  | rows0 sz n f h0 hq=>exact .rows0 _ _ _ h0 (hn hq)
  | rows sz n f b cells elem fr g hq hw hf hcr hl hv=>exact .rows _ _ _ b cells elem fr g (hb _ _ hq) hw hf (fun i hi=>(hcr i hi).plain (hp i hi)) hl hv
 | rowsM sz n f f' hp=>cases h with
  | rows0 sz n f h0 hq=>exact .rows0 _ _ _ h0 (hn hq)
  | rows sz n f b cells elem fr g hq hw hf hcr hl hv=>exact .rows _ _ _ b cells elem fr g (hb _ _ hq) hw hf (fun i hi=>(Z3B hb _ _ _ (hp i hi) (hcr i hi)).1) hl hv
 | pmap es es' h1 h2=>cases h with
  | pmap es b k ents ents' clock hq hw hpp hnn hi hk hv=>exact .pmap _ b k ents ents' clock (hb _ _ hq) hw hpp hnn hi (Z1y hb _ _ _ h1 hk) (Z1y hb _ _ _ h2 hv)
def QA (σ:List Nat) (bs:List (Nat×Blk)):List (Nat×Blk):=match σ with
 | []=>bs
 | x::r=>QA r (Yc bs x)
theorem Z1W:∀{σ:List Nat} {bs:List (Nat×Blk)} {x:Nat} {B:Blk},ZZ (QA σ bs) x=some B->ZZ bs x=some B/\x∉σ
 | [],bs,x,B,h=>⟨h,by simp⟩
 | y::r,bs,x,B,h=>by
  obtain ⟨h1,h2⟩:=Z1W (σ:=r) h
  by_cases hn:y=x
  all_goals simp_all [QO,WV,Ne.symm]
theorem Spec.calls {P:Program} {f:FuncId} {args₀:List AV} {Bs:List Blk} {o o':Out} {bs bs':List (Nat×Blk)} {h:Z8} {K:KO} (hc:Spec P f args₀ ⟨σ.length,WJ 0 σ Bs⟩ o nx bs)
  (hlen:Bs.length=σ.length) (hm:∀x,x∈σ->∃B,h.get x=some B) (hd:Z4Y σ=true)
  (hx:∀(i x:Nat) (B:Blk),XF σ i=some x->Bs[i]? =some B->∃B',h.get x=some B'/\∀(E:Env) (w:World),Emb E h w->YG E w x B'->YG (E.borL σ w true) w i B)
  (ha:∀(E:Env) (w:World) (r:List Value),Emb E h w->ZH E args r->ZH (E.borL σ w true) args₀ r)
  (hnx:σ.length<=nx) (ho:MvO σ h.next o o') (hb:Z90 σ h.next bs bs') (hK:K o' ⟨h.next+(nx-σ.length),Q1 bs' (QA σ h.bs)⟩):Zd P f args h K:=by
 intro E w rs he hr
 let E0:=E.borL σ w true
 have hsub:∀i x,XF σ i=some x->E0.blk i=E.blk x:=fun i x hi=>by
  show (match XF σ i with|some x=>E.blk x|none=>none)=_
  rw [hi]
 have hnone:∀i,σ.length<=i->E0.blk i=none:=fun i hi=>by
  show (match XF σ i with|some x=>E.blk x|none=>none)=_
  rw [Zaj hi]
 have hσlt:∀x,x∈σ->x<h.next:=fun x hx=>let ⟨B,hB⟩:=hm x hx;he.lt x B hB
 have hsb:∀y B,ZZ (WJ 0 σ Bs) y=some B->∃x,XF σ y=some x/\Bs[y]? =some B:=fun y B hy=>by
  obtain ⟨i,x,rfl,h1,h2⟩:=Wb σ Bs 0 y B hy
  rw [Jf]
  exact ⟨x,by rw [Z3z];exact h1,h2⟩
 have hinj:∀y z x,XF σ y=some x->XF σ z=some x->y=z:=fun y z x h1 h2=>by
  have a:=Q8 hd y x h1
  have b:=Q8 hd z x h2
  rw [a] at b
  simp_all
 have hemb:Emb E0 ⟨σ.length,WJ 0 σ Bs⟩ w:=by
  refine ⟨hnone, ?_, ?_, ?_,fun _ _ h=>h.1, ?_⟩
  ·intro y B hy
   obtain ⟨x,h1,_⟩:=hsb y B hy
   grind
  ·intro y B hy
   obtain ⟨x,h1,h2⟩:=hsb y B hy
   obtain ⟨B',hB',hq⟩:=hx y x B h1 h2
   exact hq E w he (he.own x B' hB')
  ·intro y z B C b N N' hy hz hby hbz
   obtain ⟨x,h1,h2⟩:=hsb y B hy
   obtain ⟨x',h3,h4⟩:=hsb z C hz
   rw [hsub y x h1] at hby
   rw [hsub z x' h3] at hbz
   obtain ⟨B',hB'⟩:=hm x (XX h1)
   obtain ⟨C',hC'⟩:=hm x' (XX h3)
   have:=he.disj x x' B' C' b N N' hB' hC' hby hbz
   grind
  ·intro a c y B N hi hy hbb
   obtain ⟨x,h1,_⟩:=hsb y B hy
   rw [hsub y x h1] at hbb
   exact hi.2 x (XX h1) N hbb
 refine (hc E0 w rs hemb (ha E w rs he hr)).mono ?_
 rintro e w' ⟨E₁,hev,hor⟩
 let E':Env:=⟨fun x=>match We σ x with
  | some i=>E₁.blk i
  | none=>if x<h.next then E.blk x else E₁.blk (x-h.next+σ.length),E.imm⟩
 have hρ:∀y,E'.blk (mvN σ h.next y)=E₁.blk y:=fun y=>by
  rcases Jo y σ.length with hlt|hge
  ·obtain ⟨x,hx'⟩:=Z0o hlt
   rw [Z8Y hx']
   show (match We σ x with|some i=>_|none=>_)=_
   rw [Q8 hd y x hx']
  ·rw [Z8Z hge]
   have hn:We σ (h.next+(y-σ.length))=none:=by
    cases hq:We σ (h.next+(y-σ.length)) with
    | none=>rfl
    | some i=>have:=hσlt _ (XX (U2 hq));omega
   grind
 have hold:∀x,x<h.next->We σ x=none->E'.blk x=E.blk x:=fun x hx hn=>by
  grind
 have hfresh:∀x,E.blk x≠none->x<h.next:=fun x hx=>by
  rcases Jo x h.next with hl|hg
  ·exact hl
  ·exact absurd (he.fresh x hg) hx
 have hle:E.le E':=⟨fun x q hq=>by
  cases hi:We σ x with
  | some i=>
   show (match We σ x with|some i=>_|none=>_)=_
   rw [hi]
   exact hev.le.blk i q ((hsub i x (U2 hi)).trans hq)
  | none=>rw [hold x (hfresh x (by rw [hq];simp)) hi];exact hq,fun _ _ h=>h⟩
 have hown0:∀b,Xu E0 ⟨σ.length,WJ 0 σ Bs⟩ b->∃x N,x∈σ/\E.blk x=some (b,N):=fun b ⟨y,B,N,hy,hbb⟩=>by
  obtain ⟨x,h1,_⟩:=hsb y B hy
  grind [XX]
 have hkeep:∀b,b<w.heap.size->(∀x N,x∈σ->E.blk x=some (b,N)->False)->w'.heap[b]? =w.heap[b]?:=fun b hb hn=>hev.keep b hb (fun ho=>let ⟨x,N,h1,h2⟩:=hown0 b ho;hn x N h1 h2)
 have hget:∀x B',Z8.get ⟨h.next+(nx-σ.length),Q1 bs' (QA σ h.bs)⟩ x=some B'->
   (∃y B,mvN σ h.next y=x/\ZZ bs y=some B/\MvB σ h.next B B')\/(x<h.next/\x∉σ/\h.get x=some B'):=fun x B' hx=>by
  simp only [Z8.get,Z4O] at hx
  split at hx
  ·rename_i B0 hq
   cases hx
   exact .inl (hb.get x _ hq)
  ·obtain ⟨h1,h2⟩:=Z1W hx
   exact .inr ⟨he.lt x B' h1,h2,h1⟩
 have hni:∀x,x∉σ->We σ x=none:=fun x hx=>by
  cases hq:We σ x with
  | none=>rfl
  | some i=>exact absurd (XX (U2 hq)) hx
 have hmix:∀y B z C b N N',ZZ bs y=some B->E₁.blk y=some (b,N)->z∉σ->h.get z=some C->E.blk z=some (b,N')->False:=fun y B z C b N N' hy hby hz hz' hbz=>by
  rcases hev.own b ⟨y,B,N,hy,hby⟩ with ho|hs
  ·obtain ⟨x,M,h1,h2⟩:=hown0 b ho
   obtain ⟨D,hD⟩:=hm x h1
   have:=he.disj x z D C b M N' hD hz' h2 hbz
   subst this
   exact hz h1
  ·have:=(he.own z C hz').lt hbz
   omega
 have himm0:∀a c,E.imm a c->E0.imm a c:=fun a c hi=>⟨he.imm a c hi,fun x hx N hbb=>let ⟨B,hB⟩:=hm x hx;he.sep a c x B N hi hB hbb⟩
 have hemb':Emb E' ⟨h.next+(nx-σ.length),Q1 bs' (QA σ h.bs)⟩ w':=by
  refine ⟨?_, ?_, ?_, ?_, ?_, ?_⟩
  ·intro x hx
   have hx':h.next+(nx-σ.length)<=x:=hx
   have hn:We σ x=none:=hni x (fun hq=>by have:=hσlt x hq;omega)
   show (match We σ x with|some i=>_|none=>_)=_
   rw [hn]
   show (if _ then _ else _)=_
   rw [if_neg (by omega)]
   exact hev.emb.fresh _ (by show nx<=_;omega)
  ·intro x B hx
   show x<h.next+(nx-σ.length)
   rcases hget x B hx with ⟨y,B0,rfl,hy,_⟩|⟨hlt,_,_⟩
   ·have hyn:y<nx:=hev.emb.lt y B0 hy
    rcases Jo y σ.length with hlt|hge
    ·obtain ⟨x,hx'⟩:=Z0o hlt
     rw [Z8Y hx']
     have:=hσlt x (XX hx')
     omega
    ·rw [Z8Z hge]
     omega
   ·omega
  ·intro x B hx
   rcases hget x B hx with ⟨y,B0,rfl,hy,hmv⟩|⟨hlt,hnσ,hx'⟩
   ·exact hmv.move (E:=E₁) (fun x r hq=>by rw [hρ];exact hq) (fun hq=>by rw [hρ];exact hq) (hev.emb.own y B0 hy)
   ·have h1:=(he.own x B hx').mono hle (fun hn=>by rw [hold x hlt (hni x hnσ)];exact hn)
    refine h1.congr fun b N hbb=> ?_
    rw [hold x hlt (hni x hnσ)] at hbb
    refine hkeep b ((he.own x B hx').lt hbb) fun z M hz hbz=> ?_
    obtain ⟨D,hD⟩:=hm z hz
    have:=he.disj x z B D b N M hx' hD hbb hbz
    subst this
    exact hnσ hz
  ·intro x z B C b N N' hx hz hbx hbz
   rcases hget x B hx with ⟨y,B0,rfl,hy,hmv⟩|⟨hlt,hnσ,hx'⟩<;>rcases hget z C hz with ⟨y',C0,rfl,hy',hmv'⟩|⟨hlt',hnσ',hz'⟩
   ·rw [hρ] at hbx hbz
    rw [hev.emb.disj y y' B0 C0 b N N' hy hy' hbx hbz]
   ·rw [hρ] at hbx
    rw [hold z hlt' (hni z hnσ')] at hbz
    exact (hmix y B0 z C b N N' hy hbx hnσ' hz' hbz).elim
   ·rw [hρ] at hbz
    rw [hold x hlt (hni x hnσ)] at hbx
    exact (hmix y' C0 x B b N' N hy' hbz hnσ hx' hbx).elim
   ·rw [hold x hlt (hni x hnσ)] at hbx
    rw [hold z hlt' (hni z hnσ')] at hbz
    exact he.disj x z B C b N N' hx' hz' hbx hbz
  ·intro a c hi
   exact hev.emb.imm a c (hev.le.imm a c (himm0 a c hi))
  ·intro a c x B N hi hx hbx
   rcases hget x B hx with ⟨y,B0,rfl,hy,hmv⟩|⟨hlt,hnσ,hx'⟩
   ·rw [hρ] at hbx
    exact hev.emb.sep a c y B0 N (hev.le.imm a c (himm0 a c hi)) hy hbx
   ·rw [hold x hlt (hni x hnσ)] at hbx
    exact he.sep a c x B N hi hx' hbx
 refine ⟨E',o',_,hK,⟨hle,hemb',hev.size,hev.os,hev.tape,hev.output,fun b hb' hno=>hkeep b hb' (fun x N hx hbx=> ?_), ?_,fun _ _ h=>h⟩, ?_⟩
 ·obtain ⟨B,hB⟩:=hm x hx
  exact hno ⟨x,B,N,hB,hbx⟩
 ·rintro b ⟨x,B,N,hx,hbx⟩
  rcases hget x B hx with ⟨y,B0,rfl,hy,hmv⟩|⟨hlt,hnσ,hx'⟩
  ·rw [hρ] at hbx
   rcases hev.own b ⟨y,B0,N,hy,hbx⟩ with ho|hs
   ·obtain ⟨z,M,h1,h2⟩:=hown0 b ho
    obtain ⟨D,hD⟩:=hm z h1
    exact .inl ⟨z,D,M,hD,h2⟩
   ·exact .inr hs
  ·rw [hold x hlt (hni x hnσ)] at hbx
   exact .inl ⟨x,B,N,hx',hbx⟩
 ·cases ho with
  | ret v v' hv=>cases hor with
   | ret v r hr=>exact .ret _ _ (Z3A (fun x q hq=>by rw [hρ];exact hq) _ _ _ hv hr)
  | panic v v' hv=>cases hor with
   | panic v r hr=>exact .panic _ _ (Z3A (fun x q hq=>by rw [hρ];exact hq) _ _ _ hv hr)
theorem Spec.fsumm {P:Program} {f:FuncId} {h:Z8} {d:Nat} {K0:List Blk->List AV->Prop} {K:KO} (hl:frA σ h d args K0)
  (hK:∀Bs a₀,Bs.length=σ.length->K0 Bs a₀->∃o nx bs o' bs',Spec P f a₀ ⟨σ.length,WJ 0 σ Bs⟩ o nx bs/\σ.length<=nx/\MvO σ h.next o o'/\Z90 σ h.next bs bs'/\K o' ⟨h.next+(nx-σ.length),Q1 bs' (QA σ h.bs)⟩):Zd P f args h K:=by
 obtain ⟨hm,hd,Bs,a,hK0,hlen,hx,ha⟩:=ZjN hl
 grind [Spec.calls]
end Go.Tk
end
section
namespace Go.Tk
open IntKind (i64 u8 u32 u64 wrap)
def goL (k:Nat) (τ:Ren) (S0:St) (C:Prop) (ends:KE->Prop):Nat->St->KE->Prop:=fun k' s X=>match Nat.beq k' k with
 | true=>Y9 k τ S0 s (C/\ends X)
 | false=>False
def Z1X (id n:Nat) (go ex re:Nat->Prop) (En Rn:Nat->St):KE->Prop:=fun X=>
 ∀i,i<=n->(∀j,j<i->go j)->(ex i->X (.exit id) (En i))/\(re i->X .ret (Rn i))
theorem Za.withGo {G:Za} (hG:G.Ok) {f:FuncId} {id k N n:Nat} {τ0 τ1 τ2 τ3:Ren} {S En Rn:Nat->St} {S0:St} {C:Prop} {go ex re:Nat->Prop} (h1:VX G.P f id=true) (hC:C->S 0=S0/\
   ∀i,i<=n->(∀j,j<i->go j)->ZL G N f id k (S i) fun e s=>match e with
    | .normal=>Y9 k τ1 (S (i+1)) s (go i/\i<n)
    | .exit x=>(match Nat.beq x id with|true=>Y9 k τ2 (En i) s (ex i)|false=>False)
    | .ret=>Y9 k τ3 (Rn i) s (re i)
    | _=>False):
  (G.withL f id (goL k τ0 S0 C (Z1X id n go ex re En Rn))).Ok:=by
 refine Za.withL_ok hG h1 ?_
 intro k' s X hl
 unfold goL at hl
 split at hl
 ·rename_i hk
  have:=J0 hk
  subst this
  obtain ⟨⟨hc,hX⟩,hw⟩:=Ye hl
  obtain ⟨e0,hr⟩:=hC hc
  refine ⟨{ t:Nat//t<=n/\∀j,j<t->go j},fun t=>n-t.1,fun t=>S t.1,⟨0,JB _,fun j hj=>by omega⟩,N,by simp_all, ?_⟩
  rintro ⟨t,ht,hgo⟩
  refine ⟨_,hr t ht hgo, ?_⟩
  intro e s' hY
  split at hY
  ·obtain ⟨⟨hg,hlt⟩,hw'⟩:=Ye hY
   refine ⟨⟨t+1,hlt,fun j hj=> ?_⟩,by show n-(t+1)<n-t;omega,hw'⟩
   grind
  ·split at hY
   ·rename_i hi
    have:=J0 hi
    subst this
    obtain ⟨hex,hw'⟩:=Ye hY
    exact ⟨_,hw',(hX t ht hgo).1 hex⟩
   simp_all
  ·obtain ⟨hre,hw'⟩:=Ye hY
   exact ⟨_,hw',(hX t ht hgo).2 hre⟩
  simp_all
 simp_all
def YB (id n l:Nat) (go ex re jm:Nat->Prop) (En Rn Jn:Nat->St):KE->Prop:=fun X=>
 ∀i,i<=n->(∀j,j<i->go j)->(ex i->X (.exit id) (En i))/\(re i->X .ret (Rn i))/\(jm i->X (.goto l) (Jn i))
theorem Za.withGoJ {G:Za} (hG:G.Ok) {f:FuncId} {id k N n l:Nat} {τ0 τ1 τ2 τ3 τ4:Ren} {S En Rn Jn:Nat->St} {S0:St} {C:Prop} {go ex re jm:Nat->Prop} (h1:VX G.P f id=true) (hC:C->S 0=S0/\
   ∀i,i<=n->(∀j,j<i->go j)->ZL G N f id k (S i) fun e s=>match e with
    | .normal=>Y9 k τ1 (S (i+1)) s (go i/\i<n)
    | .exit x=>(match Nat.beq x id with|true=>Y9 k τ2 (En i) s (ex i)|false=>False)
    | .ret=>Y9 k τ3 (Rn i) s (re i)
    | .goto x=>(match Nat.beq x l with|true=>Y9 k τ4 (Jn i) s (jm i)|false=>False)
    | _=>False):
  (G.withL f id (goL k τ0 S0 C (YB id n l go ex re jm En Rn Jn))).Ok:=by
 refine Za.withL_ok hG h1 ?_
 intro k' s X hl
 unfold goL at hl
 split at hl
 ·rename_i hk
  have:=J0 hk
  subst this
  obtain ⟨⟨hc,hX⟩,hw⟩:=Ye hl
  obtain ⟨e0,hr⟩:=hC hc
  refine ⟨{ t:Nat//t<=n/\∀j,j<t->go j},fun t=>n-t.1,fun t=>S t.1,⟨0,JB _,fun j hj=>by omega⟩,N,by simp_all, ?_⟩
  rintro ⟨t,ht,hgo⟩
  refine ⟨_,hr t ht hgo, ?_⟩
  intro e s' hY
  split at hY
  ·obtain ⟨⟨hg,hlt⟩,hw'⟩:=Ye hY
   refine ⟨⟨t+1,hlt,fun j hj=> ?_⟩,by show n-(t+1)<n-t;omega,hw'⟩
   grind
  ·split at hY
   ·rename_i hi
    have:=J0 hi
    subst this
    obtain ⟨hex,hw'⟩:=Ye hY
    exact ⟨_,hw',(hX t ht hgo).1 hex⟩
   simp_all
  ·obtain ⟨hre,hw'⟩:=Ye hY
   exact ⟨_,hw',(hX t ht hgo).2.1 hre⟩
  ·split at hY
   ·rename_i hi
    have:=J0 hi
    subst this
    obtain ⟨hjm,hw'⟩:=Ye hY
    exact ⟨_,hw',(hX t ht hgo).2.2 hjm⟩
   simp_all
  simp_all
 simp_all
theorem Zc {p x:Prop} [Decidable p]:Z0 (decide p) x False=(p/\x):=by
 by_cases h:p
 all_goals simp_all [Z0]
theorem Zl {p x:Prop} [Decidable p]:Z0 (decide p) False x=(¬p/\x):=by
 by_cases h:p
 all_goals simp_all [Z0]
theorem Zg {p x y:Prop} [Decidable p]:Z0 (decide p) x y=((p->x)/\(¬p->y)):=by
 by_cases h:p
 all_goals simp_all [Z0]
theorem Zm {b:Bool} {x:Prop}:Z0 b x False=(b=true/\x):=by cases b<;>simp [Z0]
theorem Zn {b:Bool} {x:Prop}:Z0 b False x=(b=false/\x):=by cases b<;>simp [Z0]
theorem Zh {b:Bool} {x y:Prop}:Z0 b x y=((b=true->x)/\(b=false->y)):=by cases b<;>simp [Z0]
def Z7 (b:Bool) (x:Prop):Prop:=Z0 b x False
theorem vcA:(∀(p x:Prop) [Decidable p],Z0 (decide p) x False=(p/\x))/\(∀(p x:Prop) [Decidable p],Z6 p x=(p/\x))/\(∀(p x:Prop) [Decidable p],Z7 (decide p) x=(p/\x))/\∀(p x:Prop) [Decidable p],Z0 (decide p) False x=(¬p/\x):=
 ⟨fun _ _ _=>Zc,fun _ _ _=>Zc,fun _ _ _=>Zc,fun _ _ _=>Zl⟩
theorem vcB:(∀(p x y:Prop) [Decidable p],Z0 (decide p) x y=((p->x)/\(¬p->y)))/\(∀(b:Bool) (x:Prop),Z0 b x False=(b=true/\x))/\(∀(b:Bool) (x:Prop),Z7 b x=(b=true/\x))/\∀(b:Bool) (x:Prop),Z0 b False x=(b=false/\x):=
 ⟨fun _ _ _ _=>Zg,fun _ _=>Zm,fun _ _=>Zm,fun _ _=>Zn⟩
theorem Zp5:(∀(p x:Prop) [Decidable p],Z0 (decide p) x False=(p/\x))/\(∀(p x:Prop) [Decidable p],Z6 p x=(p/\x))/\(∀(p x:Prop) [Decidable p],Z7 (decide p) x=(p/\x))/\(∀(b:Bool) (x:Prop),Z7 b x=Z0 b x False):=
 ⟨fun _ _ _=>Zc,fun _ _ _=>Zc,fun _ _ _=>Zc,fun _ _=>rfl⟩
theorem Zp6:∀(p x y:Prop) [Decidable p],Z0 (decide p) x y=((p->x)/\(¬p->y)):=fun _ _ _ _=>Zg
theorem vcC:(∀(b:Bool) (x y:Prop),Z0 b x y=((b=true->x)/\(b=false->y)))/\(∀n:Nat,((n:Int)).toNat=n)/\(∀n:Nat,0+n=n)/\(∀p:Prop,(True/\p)=p)/\(∀p:Prop,(p/\True)=p)/\∀n:Nat,(n<=n)=True:=
 ⟨fun _ _ _=>Zh,Jk,Jf,true_and,and_true,fun n=>eq_true (J2 n)⟩
theorem ZbM {k:Nat} {τ:Ren} {v:AV} (hp:v.plain=true) (hc:v.isCell=true) {Z:Prop} (hZ:Z):eqV k τ v v Z:=by
 cases v with
 | ptr p=>cases p<;>simp_all [AV.plain,eqV]
 | map r=>cases r<;>simp_all [AV.plain,eqV]
 | _=>simp_all [AV.plain,eqV,Qo,AV.isCell]
theorem Z4Z {k:Nat} {τ:Ren}:∀{l:List AV},plainC l=true->∀{Z:Prop},Z->(∀v∈l,v.isCell=true\/∃k n xs,v=.arr k n xs)->eqC k τ l l Z
 | [],_,Z,hZ,_=>by simp [eqC,hZ]
 | v::r,hp,Z,hZ,hc=>by
  simp only [plainC,J3] at hp
  have hr:=Z4Z (k:=k) (τ:=τ) hp.2 hZ (fun u hu=>hc u (Jq _ hu))
  rcases hc v (by simp) with hv|⟨kk,n,xs,rfl⟩
  ·have hna:∀a b c,v≠.arr a b c:=fun a b c e=>by subst e;simp [AV.isCell] at hv
   simp_all [eqC,ZbM]
  ·unfold eqC
   simp_all
theorem Z1z {k:Nat} {τ:Ren} {n:Nat} {f f':Nat->List AV} (h:∀i,i<n->f' i=f i) (hp:∀i,i<n->plainC (f i)=true) (hc:∀i,i<n->∀v∈f i,v.isCell=true\/∃k n xs,v=.arr k n xs):Zu k τ n f f':=
 ⟨fun i hi=>by rw [h i hi];exact Z4Z (hp i hi) trivial (hc i hi)⟩
theorem ZjO {a b:Nat} (h:a<b):Nat.blt a b=true:=by rw [Nat.blt_eq];exact h
theorem ZjP {a b:Nat} (h:Nat.blt a b=true):a<b:=by rw [Nat.blt_eq] at h;exact h
theorem Z2l {n i:Nat} {f g:Nat->List AV} (h:i<n):Y3 n f g i=f i:=by unfold Y3;rw [ZjO h]
theorem QB {n i:Nat} {f g:Nat->List AV} (h:n<=i):Y3 n f g i=g (i-n):=by
 unfold Y3
 have:Nat.blt i n=false:=by
  cases hq:Nat.blt i n with
  | false=>rfl
  | true=>have:=ZjP hq;omega
 rw [this]
theorem Zx.vrows0 {P:Program} {f:FuncId} {esz:Nat} {g:Nat->List AV} {v:AV} {nx:Nat} {bs:List (Nat×Blk)} (h1:Zx P f [.nilslice] v nx bs) (h2:Zx P f [.fslice] v nx bs):Zx P f [.vrows esz 0 g 0] v nx bs:=by
 intro E w rs he hr
 cases hr with
 | cons v r vs rs hv ht=>cases ht with
  | nil=>cases hv with
   | vrowsNil esz n f len _ _=>exact h1 E w _ he (.cons _ _ _ _ .nilslice .nil)
   | vrows esz n f len a cap g _ _ _ _ _=>exact h2 E w _ he (.cons _ _ _ _ (.fslice a cap) .nil)
theorem Zx.vints0 {P:Program} {f:FuncId} {k:IntKind} {v:AV} {nx:Nat} {bs:List (Nat×Blk)} (h1:Zx P f [.nilslice] v nx bs) (h2:Zx P f [.fslice] v nx bs):Zx P f [.vints k [] 0] v nx bs:=by
 intro E w rs he hr
 cases hr with
 | cons v r vs rs hv ht=>cases ht with
  | nil=>cases hv with
   | vintsNil k xs len _ _=>exact h1 E w _ he (.cons _ _ _ _ .nilslice .nil)
   | vints k xs len a cap _ _ _=>exact h2 E w _ he (.cons _ _ _ _ (.fslice a cap) .nil)
end Go.Tk
namespace Go.Tk
open IntKind (i64 u8 u32 u64 wrap)
mutual
theorem Z0p {mv:Option Nat} {h:Z8}:∀(d:Nat) (t:Bool) (v:AV) (K K':AV->Prop),Q0 mv h t d v K->(∀a,K a->K' a)->Q0 mv h t d v K'
 | 0,t,v,K,K',hl,hK=>by unfold Q0 at hl;simp_all
 | d+1,t,v,K,K',hl,hK=>by
  unfold Q0 at hl⊢
  split at hl
  all_goals try exact hK _ hl
  all_goals try exact hl.elim
  ·split at hl
   ·split at hl
    ·exact hl.elim
    ·exact hK _ hl
   ·split at hl
    ·split at hl
     ·exact Wg _ _ _ _ _ hl fun _ h=>hK _ h
     ·exact hl.elim
    ·split at hl
     ·obtain ⟨h1,h2⟩:=Zf hl
      refine Qo h1 ?_
      split at h2
      ·exact Wg _ _ _ _ _ h2 fun _ h=>hK _ h
      ·exact h2.elim
     ·exact hl.elim
    ·exact hl.elim
  ·split at hl
   ·split at hl
    ·exact hl.elim
    ·exact hK _ hl
   ·split at hl
    ·split at hl
     ·obtain ⟨h1,h2⟩:=Zf hl
      exact Qo h1 (hK _ h2)
     ·exact hl.elim
    ·split at hl
     ·obtain ⟨h1,h2,h3⟩:=Zf hl
      exact Qo h1 ⟨h2,hK _ h3⟩
     ·exact hl.elim
    ·split at hl
     ·split at hl
      ·split at hl
       ·split at hl
        ·obtain ⟨h1,h2⟩:=Zf hl
         exact Qo h1 (hK _ h2)
        ·obtain ⟨h1,h2⟩:=Zf hl
         exact Qo h1 (hK _ h2)
        ·exact hl.elim
       ·exact hl.elim
      ·split at hl
       ·refine Wg _ _ _ _ _ hl fun _ h=> ?_
        split at h
        ·exact hK _ h
        ·exact h.elim
       ·exact hl.elim
     ·exact hl.elim
    ·exact hl.elim
  ·exact Zq _ _ _ _ _ hl fun _ h=>Zq _ _ _ _ _ h fun _ h=>hK _ h
  ·exact Z0p _ _ _ _ _ hl fun _ h=>hK _ h
  ·exact Wg _ _ _ _ _ hl fun _ h=>hK _ h
  ·exact Zq _ _ _ _ _ hl fun _ h=>hK _ h
theorem Wg {mv:Option Nat} {h:Z8}:∀(d:Nat) (t:Bool) (l:List AV) (K K':List AV->Prop),VY mv h t d l K->(∀a,K a->K' a)->VY mv h t d l K'
 | 0,t,l,K,K',hl,hK=>by unfold VY at hl;simp_all
 | d+1,t,l,K,K',hl,hK=>by
  unfold VY at hl⊢
  split at hl
  ·exact hK _ hl
  ·exact Wg _ _ _ _ _ hl fun _ h=>hK _ h
  ·refine Z0p _ _ _ _ _ hl fun _ h=> ?_
   split at h
   ·exact Wg _ _ _ _ _ h fun _ h=>hK _ h
   ·exact h.elim
theorem Zq {mv:Option Nat} {h:Z8}:∀(d:Nat) (t:Bool) (l:List AV) (K K':List AV->Prop),ZG mv h t d l K->(∀a,K a->K' a)->ZG mv h t d l K'
 | 0,t,l,K,K',hl,hK=>by unfold ZG at hl;simp_all
 | d+1,t,l,K,K',hl,hK=>by
  unfold ZG at hl⊢
  split at hl
  ·exact hK _ hl
  ·exact Z0p _ _ _ _ _ hl fun _ h=>Zq _ _ _ _ _ h fun _ h=>hK _ h
end
end Go.Tk
end
section
namespace Go.Tk
open IntKind (i64 u8 u32 u64 wrap)
variable {τ:Ren} {xs:LI} {esz:Nat} {v:AV}
def Zj (g:Nat->InS):Nat->List AV:=fun q=>(g q).c
def Zi (g:Nat->ZM):Nat->List AV:=fun q=>(g q).c
theorem InS.plainC (x:InS):plainC x.c=true:=rfl
theorem ZM.plainC (x:ZM):plainC x.c=true:=rfl
theorem InS.cells (x:InS):∀v∈x.c,v.isCell=true\/∃k n xs,v=.arr k n xs:=by simp [InS.c,AV.isCell]
theorem ZM.cells (x:ZM):∀v∈x.c,v.isCell=true\/∃k n xs,v=.arr k n xs:=by simp [ZM.c,AV.isCell]
theorem Yl {k:Nat} {n:Nat} {g:Nat->InS} {f:Nat->List AV} (h:∀i,i<n->f i=(g i).c):Zu k τ n (Zj g) f:=Z1z h (fun i _=>(g i).plainC) (fun i _=>(g i).cells)
theorem ZS {k:Nat} {n:Nat} {g:Nat->ZM} {f:Nat->List AV} (h:∀i,i<n->f i=(g i).c):Zu k τ n (Zi g) f:=Z1z h (fun i _=>(g i).plainC) (fun i _=>(g i).cells)
theorem ZgO (N:Nat) (g:Nat->InS) (hN:N+1<900000000000):
  evF G0 20 91 [.vrows 130 (N+1) (Zj g) (N+1)] ⟨0,[]⟩ (YC 0 [(0,0)] (.nslice ⟨0,0,130,0,0⟩ 130 (N+1) (N+1)) 1 [(0,.rows 130 (N+1) (Zj g))]):=by
 refine @Eq.mpr _ (let a:=N+1;let b:=0+a;let c:=decide (b=a);
 Z0 (decide (b*144<=140737488355328)) (Z0 c (Z0 (decide (a<=b)) (Z0 c (Zu 0 [(0,0)] a (Zj g) (Y3 0 (fun (x:Nat)=>[]) (Zj g))/\True) False) False) False) False) (by kernel_rfl) ?_
 conv=>zeta
 refine nd (by omega) (nd (by omega) (nd (by omega) (nd (by omega) ⟨Yl fun i hi=> ?_,trivial⟩)))
 rfl
theorem ZgP (g:Nat->InS) :
  evF G0 20 91 [.nilslice] ⟨0,[]⟩ (YC 0 [] (.nslice ⟨0,0,130,0,0⟩ 130 0 0) 1 [(0,.rows 130 0 (Zj g))]):=by
 refine @Eq.mpr _ (True) (by kernel_rfl) ?_
 trivial
theorem ZgQ (g:Nat->InS) :
  evF G0 20 91 [.fslice] ⟨0,[]⟩ (YC 0 [(0,0)] (.nslice ⟨0,0,130,0,0⟩ 130 0 0) 1 [(0,.rows 130 0 (Zj g))]):=by
 refine @Eq.mpr _ (Zu 0 [(0,0)] 0 (Zj g) (Y3 0 (fun (x:Nat)=>[]) fun (x:Nat)=>[])/\True) (by kernel_rfl) ?_
 simp_all [Yl]
theorem Z91 (N:Nat) (g:Nat->InS) (hN:N<900000000000):Zx PP 91 [.vrows 130 N (Zj g) N] (.nslice ⟨0,0,130,0,0⟩ 130 N N) 1 [(0,.rows 130 N (Zj g))]:=by
 cases N with
 | zero=>exact Zx.vrows0 (.ev Zr (ZgP g)) (.ev Zr (ZgQ g))
 | succ n=>exact .ev Zr (ZgO n g hN)
def ZdP (N:Nat) (g:Nat->InS) (Z:Prop):ZQ:=fun args h K=>ZG none h true 20 args fun a=>match a with
 | [.vrows 130 n f m]=>Z6 (n=N) (Z6 (m=N) (f=Zj g/\Z/\K (.ret (.nslice ⟨h.next,0,130,0,0⟩ 130 N N)) ⟨h.next+1,(h.next,.rows 130 N (Zj g))::h.bs⟩))
 | _=>False
theorem ZbN (N:Nat) (g:Nat->InS) (args:List AV) (h:Z8) (K:KO) (hl:ZdP N g (N<900000000000) args h K):Zd PP 91 args h K:=by
 refine Zx.fsumm (d:=20) (Zq _ _ _ _ _ hl fun a ha=> ?_)
 split at ha
 ·obtain ⟨rfl,ha⟩:=Zf ha
  obtain ⟨rfl,rfl,hN,hK⟩:=Zf ha
  exact ⟨_,_,_,_,Z91 _ _ hN,rfl,⟨JC,.rows _ _ _ (fun i _=>(g i).plainC),trivial⟩,hK⟩
 simp_all
def U3 (N:Nat) (g:Nat->InS) (t:Nat):Nat->InS:=fun q=>if q<t\/N<q+t+1 then g (N-1-q) else g q
def Z0q (N:Nat) (g:Nat->InS):Nat->InS:=fun q=>g (N-1-q)
def Z92 (N:Nat) (g:Nat->InS) (t:Nat):St:=⟨28,[(0,.nslice ⟨0,0,130,0,0⟩ 130 N N),(3,.int .i64 ((N:Int)-1-t)),(2,.int .i64 t)],⟨1,[(0,.rows 130 N (Zj (U3 N g t)))]⟩,[]⟩
theorem ZlW (N:Nat) (g:Nat->InS) (t:Nat) (hN:N<900000000000) (ht:t<=N) (hgo:∀j:Nat,j<t->(j:Int)<(N:Int)-1-j):
  ZL G0 20 244 0 1 (Z92 N g t) (fun e s=>match e with|.normal=>Y9 1 [] (Z92 N g (t+1)) s (((t:Int)<(N:Int)-1-t)/\t<N)|.exit x=>(match Nat.beq x 0 with|true=>Y9 1 [] (Z92 N g t) s (¬(t:Int)<(N:Int)-1-t)|false=>False)|.ret=>Y9 1 [] (Z92 N g t) s False|_=>False):=by
 refine @Eq.mpr _ (let m:=(↑N:Int)-1;let a:=m-(↑t:Int);let l:=decide (0<=a/\a<(↑N:Int));let f:=0+Int.toNat a;let k:=decide (0<=(↑t:Int)/\(↑t:Int)<(↑N:Int));let e:=0+Int.toNat (↑t:Int);let d:=decide (N=N);let j:=decide (N<=N);let i:=(↑(t+1):Int);let h:=Zj (U3 N g t);let c:=U3 N g t f;let b:=U3 N g t e;
 Z0 (decide ((↑t:Int)<a)) (Z0 l (Z0 (decide (f<N)) (Z0 k (Z0 (decide (e<N)) (Z0 k (Z0 (decide (e<N)) (Z0 l (Z0 (decide (f<N)) (Z0 d (Z0 j (Z0 (decide (wrap i64 (a-1)=m-i)) (Z0 (decide (wrap i64 ((↑t:Int)+1)=i)) (Z0 d (Zu 1 [] N (Zj (U3 N g (t+1))) (Z02 (Z02 h e [AV.arr u8 32 c.name,AV.int i64 c.index,AV.int i64 c.way,AV.arr u8 32 c.tag,AV.arr u8 32 c.also,AV.arr u8 32 c.secret]) f [AV.arr u8 32 b.name,AV.int i64 b.index,AV.int i64 b.way,AV.arr u8 32 b.tag,AV.arr u8 32 b.also,AV.arr u8 32 b.secret])/\(↑t:Int)<a/\t<N) False) False) False) False) False) False) False) False) False) False) False) False) False)
 (Z0 d (Z0 j (Z0 (decide (a=a)) (Z0 (decide ((↑t:Int)=(↑t:Int))) (Z0 d (Zu 1 [] N h h/\((↑t:Int)<a->False)) False) False) False) False) False)) (by kernel_rfl) ?_
 conv=>zeta
 simp only [Zc]
 simp only [Zg]
 have hrows:Zu 1 [] N (Zj (U3 N g t)) (Zj (U3 N g t)):=Yl fun _ _=>rfl
 refine ⟨fun h1=> ?_,fun h1=>by simp_all⟩
 have hw1:i64.wrap ((t:Int)+1)=(t:Int)+1:=w64 (by omega)
 have hw2:i64.wrap ((N:Int)-1-t-1)=(N:Int)-1-t-1:=w64 (by omega)
 have e1:0+((N:Int)-1-t).toNat=N-1-t:=by omega
 have e2:0+(t:Int).toNat=t:=by omega
 simp only [e1,e2,hw1]
 refine ⟨by omega,by omega,by omega,by omega,by omega,by omega,by omega,by omega,trivial,by omega,by omega,by omega,trivial,Yl fun q hq=> ?_,h1,by omega⟩
 rw [Vi,Vi]
 have g1:U3 N g t (N-1-t)=g (N-1-t):=by unfold U3;rw [if_neg (by omega)]
 have g2:U3 N g t t=g t:=by unfold U3;rw [if_neg (by omega)]
 rw [g1,g2]
 by_cases q1:q=N-1-t
 ·subst q1
  rw [Jj]
  show (g t).c=_
  unfold U3
  grind
 ·rw [ZD q1]
  by_cases q2:q=t
  ·subst q2
   rw [Jj]
   show (g (N-1-q)).c=_
   unfold U3
   rw [if_pos (by omega)]
  ·rw [ZD q2]
   show (U3 N g t q).c=_
   unfold U3
   grind
noncomputable def E10 (N:Nat) (g:Nat->InS):Za:=(G0.withL 244 0 (goL 1 [] (Z92 N g 0) (N<900000000000) (Z1X 0 N (fun t=>(t:Int)<(N:Int)-1-t) (fun t=>¬(t:Int)<(N:Int)-1-t) (fun _=>False) (Z92 N g) (Z92 N g)))).withF 91 (ZdP N g (N<900000000000))
theorem ZjQ (N:Nat) (g:Nat->InS):(E10 N g).Ok:=
 Za.withF_ok (Za.withGo (τ1:=[]) (τ2:=[]) (τ3:=[]) (N:=20) Zr (by kernel_rfl) fun hC=>⟨rfl,fun i hi hgo=>ZlW N g i hC hi hgo⟩) (ZbN N g)
theorem Z93 (N:Nat) (g:Nat->InS) (hN:N<900000000000):
  evF (E10 N g) 20 180 [.vrows 130 N (Zj g) N] ⟨0,[]⟩ (YC 0 [(0,0)] (.nslice ⟨0,0,130,0,0⟩ 130 N N) 1 [(0,.rows 130 N (Zj (Z0q N g)))]):=by
 refine @Eq.mpr _ (let a:=decide (N=N);let c:=Zj g;let e:=decide (N<=N);let b:=(↑N:Int)-1;
 Z0 a
 (Z0 a
 (c=c/\
 N<900000000000/\
 Z0 a
 (Z0 e
 (Z0 (decide (wrap i64 b=b-0))
 (Z0 a
 (Zu 1 [] N (Zj (U3 N g 0)) c/\
 N<900000000000/\
 ∀(i:Nat),
 let d:=Z0 a (Z0 e (Z0 a (Zu 0 [(0,0)] N (Zj (Z0q N g)) (Zj (U3 N g i))/\True) False) False) False;
 i<=N->(∀(j:Nat),j<i->(fun (t:Nat)=>(↑t:Int)<b-(↑t:Int)) j)->(¬(↑i:Int)<b-(↑i:Int)->d)/\(False->d))
 False)
 False)
 False)
 False)
 False)
 False) (by kernel_rfl) ?_
 conv=>zeta
 simp only [Zc,true_and,and_true]
 refine ⟨hN,by omega,by rw [w64 (by omega)];omega,Yl fun i hi=> ?_,hN,fun i hi hgo=>⟨fun hex=>⟨by omega,Yl fun q hq=> ?_⟩,fun h=>h.elim⟩⟩
 ·show (g i).c=_
  unfold U3
  rw [if_neg (by omega)]
 ·show (U3 N g i q).c=_
  unfold U3 Z0q
  grind
theorem Z4k (N:Nat) (g:Nat->InS) (hN:N<900000000000):Zx PP 180 [.vrows 130 N (Zj g) N] (.nslice ⟨0,0,130,0,0⟩ 130 N N) 1 [(0,.rows 130 N (Zj (Z0q N g)))]:=.ev (ZjQ N g) (Z93 N g hN)
def YJ (p:Nat->Bool) (n:Nat):Int:=match (List.range n).find? p with|some i=>i|none=> -1
theorem Va {p:Nat->Bool} {n i:Nat} (hi:i<n) (hgo:∀j,j<i->p j=false) (hp:p i=true):YJ p n=i:=by
 unfold YJ
 have:(List.range n).find? p=some i:=by
  simp_all
 rw [this]
theorem Vb {p:Nat->Bool} {n:Nat} (hgo:∀j,j<n->p j=false):YJ p n= -1:=by
 unfold YJ
 have:(List.range n).find? p=none:=by
  simp_all
 rw [this]
theorem Vu (p:Nat->Bool) (n:Nat):(YJ p n= -1/\∀j,j<n->p j=false)\/∃i,i<n/\YJ p n=(i:Nat)/\p i=true/\∀j,j<i->p j=false:=by
 unfold YJ
 cases h:(List.range n).find? p with
 | none=>
  simp_all
 | some i=>
  rw [List.find?_range_eq_some] at h
  grind
theorem Z7l (p:Nat->Bool) (n:Nat): -1<=YJ p n/\YJ p n<n+1:=by
 rcases Vu p n with ⟨h,_⟩|⟨i,hi,h,_⟩<;>omega
def Q9 (x y:InS):Bool:=(y.name==x.name)&&(y.index==x.index)
theorem ZjR (x y:InS) (hx:x.Ok) (hy:y.Ok):
  evF G0 20 178 [.agg y.c,.pview x.c 0] ⟨0,[]⟩ (YC 0 [] (.bool (Q9 x y)) 0 []):=by
 refine @Eq.mpr _ (Z0 (decide (y.name.length=32/\x.name.length=32)) (Z0 (y.name==x.name) (Z0 (decide ((y.index==x.index)=Q9 x y)) True False) (Z0 (decide (false=Q9 x y)) True False)) False) (by kernel_rfl) ?_
 try simp only [Zc]
 try simp only [Zg]
 try simp only [Zh]
 try simp only [and_true]
 unfold Q9
 refine ⟨⟨hy.name,hx.name⟩,fun h=> ?_,fun h=> ?_⟩<;>simp [h]
def Zj1:ZF:=fun args h K=>ZG none h true 20 args fun a=>match a with
 | [.agg cs,.pview ds 0]=>∃x y,cs=InS.c y/\ds=InS.c x/\(x.Ok/\y.Ok)/\K (.bool (Q9 x y))
 | _=>False
theorem ZdQ (args:List AV) (h:Z8) (K:AV->Prop) (hl:Zj1 args h K):Zd PP 178 args h fun o h'=>∃v,o=.ret v/\h'=h/\K v:=by
 refine Zx.psumm (d:=20) (Zq _ _ _ _ _ hl fun a ha=> ?_)
 split at ha
 ·obtain ⟨x,y,rfl,rfl,⟨h1,h2⟩,hK⟩:=ha
  exact ⟨_,.ev Zr (ZjR x y h1 h2),fun _=>rfl,hK⟩
 simp_all
noncomputable def ZjS:Za:=G0.withP 178 Zj1
theorem ZgR:ZjS.Ok:=Za.withP_ok Zr ZdQ
def ixS (N:Nat) (g:Nat->InS) (x:InS) (i:Nat):St:=⟨19,[(1,.func (Fn.func 178) [] [.pview (InS.c x) 0]),(0,.vrows 130 N (Zj g) N),(7,.int .i64 N),(8,.int .i64 i)],⟨0,[]⟩,[]⟩
def ixR (i:Nat):St:=⟨19,[(4,.int .i64 i)],⟨0,[]⟩,[]⟩
def ixE (_:Nat):St:=⟨19,[],⟨0,[]⟩,[]⟩
theorem Zp7 (N:Nat) (g:Nat->InS) (x:InS) (i:Nat) (Z1 Z2 Z3:Prop) (hN:N<900000000000) (hx:x.Ok) (hg:∀i,i<N->(g i).Ok) (hi:i<=N) (h1:i<N->Q9 x (g i)=false->Z1) (h2:i=N->Z2) (h3:i<N->Q9 x (g i)=true->Z3):
  ZL ZjS 20 179 0 0 (ixS N g x i) (fun e s=>match e with|.normal=>Y9 0 [] (ixS N g x (i+1)) s Z1|.exit x=>(match Nat.beq x 0 with|true=>Y9 0 [] (ixE i) s Z2|false=>False)|.ret=>Y9 0 [] (ixR i) s Z3|_=>False):=by
 refine @Eq.mpr _ (let a:=g (Int.toNat (↑i:Int));let b:=InS.c x;let d:=decide (N=N);
 Z0 (decide ((↑i:Int)<(↑N:Int))) (Z0 (decide (0<=(↑i:Int)/\(↑i:Int)<(↑N:Int))) (∃(x:InS),∃(y:InS),[AV.arr u8 32 a.name,AV.int i64 a.index,AV.int i64 a.way,AV.arr u8 32 a.tag,AV.arr u8 32 a.also,AV.arr u8 32 a.secret]=InS.c y/\b=InS.c x/\(InS.Ok x/\InS.Ok y)/\Z0 (Q9 x y) (Z0 (decide ((↑i:Int)=(↑i:Int))) Z3 False) (b=b/\Z0 d (Zj g=Zj g/\Z0 d (Z0 (decide ((↑N:Int)=(↑N:Int))) (Z0 (decide (wrap i64 ((↑i:Int)+1)=(↑(i+1):Int))) Z1 False) False) False) False)) False) Z2) (by kernel_rfl) ?_
 conv=>zeta
 try simp only [Zc]
 try simp only [Zg]
 try simp only [Zh]
 try simp only [true_and,and_true]
 refine ⟨fun hlt=>⟨by omega,x,g i,rfl,rfl,⟨hx,hg i (by omega)⟩,fun h=>h3 (by omega) h,fun h=>⟨w64 (by omega),h1 (by omega) h⟩⟩,fun hge=>h2 (by omega)⟩
def sameAt (g:Nat->InS) (x:InS):Nat->Bool:=fun j=>Q9 x (g j)
noncomputable def ZlX (N:Nat) (g:Nat->InS) (x:InS):Za:=ZjS.withL 179 0 (goL 0 [] (ixS N g x 0) (N<900000000000/\x.Ok/\∀i,i<N->(g i).Ok) (Z1X 0 N (fun i=>sameAt g x i=false) (fun i=>i=N) (fun i=>i<N/\sameAt g x i=true) ixE ixR))
theorem ZgS (N:Nat) (g:Nat->InS) (x:InS):(ZlX N g x).Ok:=
 Za.withGo (τ1:=[]) (τ2:=[]) (τ3:=[]) (N:=20) ZgR (by kernel_rfl) fun hC=>⟨rfl,fun i hi _=>Zp7 N g x i _ _ _ hC.1 hC.2.1 hC.2.2 hi (fun h1 h2=>⟨h2,h1⟩) (fun h=>h) (fun h1 h2=>⟨h1,h2⟩)⟩
theorem ZgT (N:Nat) (g:Nat->InS) (x:InS) (F:Int) (hN:N<900000000000) (hx:x.Ok) (hg:∀i,i<N->(g i).Ok) (hF:F=YJ (sameAt g x) N):
  evF (ZlX N g x) 20 179 [.vrows 130 N (Zj g) N,.func (.func 178) [] [.pview x.c 0]] ⟨0,[]⟩ (YC 0 [] (.int .i64 F) 0 []):=by
 refine @Eq.mpr _ (let a:=decide (N=N);
 InS.c x=InS.c x/\Z0 a (Zj g=Zj g/\Z0 a (Z0 (decide ((↑N:Int)=(↑N:Int))) ((N<900000000000/\InS.Ok x/\∀(i:Nat),i<N->InS.Ok (g i))/\∀(i:Nat),i<=N->(∀(j:Nat),j<i->(fun (i:Nat)=>sameAt g x i=false) j)->(i=N->Z0 (decide (-1=F)) True False)/\(i<N/\sameAt g x i=true->Z0 (decide ((↑i:Int)=F)) True False)) False) False) False) (by kernel_rfl) ?_
 conv=>zeta
 try simp only [Zc]
 try simp only [Zg]
 try simp only [Zh]
 try simp only [and_true]
 grind [Vb,Va]
theorem Z94 (N:Nat) (g:Nat->InS) (x:InS) (hN:N<900000000000) (hx:x.Ok) (hg:∀i,i<N->(g i).Ok):Zx PP 179 [.vrows 130 N (Zj g) N,.func (.func 178) [] [.pview x.c 0]] (.int .i64 (YJ (sameAt g x) N)) 0 []:=.ev (ZgS N g x) (ZgT N g x _ hN hx hg rfl)
def ZdR:ZF:=fun args h K=>ZG none h true 20 args fun a=>match a with
 | [.vrows 130 n f m,.func (.func 178) [] [.pview cs 0]]=>∃g x,f=Zj g/\cs=InS.c x/\(m=n/\n<900000000000/\x.Ok/\∀i,i<n->(g i).Ok)/\K (.int .i64 (YJ (sameAt g x) n))
 | _=>False
theorem ZbO (args:List AV) (h:Z8) (K:AV->Prop) (hl:ZdR args h K):Zd PP 179 args h fun o h'=>∃v,o=.ret v/\h'=h/\K v:=by
 refine Zx.psumm (d:=20) (Zq _ _ _ _ _ hl fun a ha=> ?_)
 split at ha
 ·obtain ⟨g,x,rfl,rfl,⟨rfl,h1,h2,h3⟩,hK⟩:=ha
  exact ⟨_,Z94 _ g x h1 h2 h3,fun _=>rfl,hK⟩
 simp_all
def Z50:ZQ:=fun args h K=>ZG none h true 20 args fun a=>match a with
 | [.vrows 130 n f m]=>∃g,f=Zj g/\(m=n/\n<900000000000)/\K (.ret (.nslice ⟨h.next,0,130,0,0⟩ 130 n n)) ⟨h.next+1,(h.next,.rows 130 n (Zj (Z0q n g)))::h.bs⟩
 | _=>False
theorem Z65 (args:List AV) (h:Z8) (K:KO) (hl:Z50 args h K):Zd PP 180 args h K:=by
 refine Zx.fsumm (d:=20) (Zq _ _ _ _ _ hl fun a ha=> ?_)
 split at ha
 ·obtain ⟨g,rfl,⟨rfl,hN⟩,hK⟩:=ha
  exact ⟨_,_,_,_,Z4k _ _ hN,rfl,⟨JC,.rows _ _ _ (fun i _=>(Z0q _ g i).plainC),trivial⟩,hK⟩
 simp_all
noncomputable def ZlY:Za:=(G0.withP 179 ZdR).withF 180 Z50
theorem ZgU:ZlY.Ok:=Za.withF_ok (Za.withP_ok Zr ZbO) Z65
@[irreducible] def Qa (N:Nat) (g:Nat->InS) (x:InS):Bool:=YJ (sameAt g x) N !=(N:Int)-1-YJ (sameAt (Z0q N g) x) N
theorem ZgV (N:Nat) (g:Nat->InS) (x:InS) (num:Int) (outs:AV) (F:Bool) (hN:N<900000000000) (hx:x.Ok) (hg:∀i,i<N->(g i).Ok) (hF:F=Qa N g x):
  evF ZlY 20 177 [.agg x.c,.pview [.int .i64 num,.vrows 130 N (Zj g) N,outs] 0] ⟨0,[]⟩ (YC 0 [] (.bool F) 0 []):=by
 refine @Eq.mpr _ (let a:=Zj g;let d:=decide (N=N);
 ∃(g:Nat->InS),
 ∃(x_1:InS),
 let b:=[AV.arr u8 32 x.name,AV.int i64 x.index,AV.int i64 x.way,AV.arr u8 32 x.tag,AV.arr u8 32 x.also,AV.arr u8 32 x.secret];
 a=Zj g/\b=InS.c x_1/\(N=N/\N<900000000000/\InS.Ok x_1/\∀(i:Nat),i<N->InS.Ok (g i))/\∃(g_1:Nat->InS),a=Zj g_1/\(N=N/\N<900000000000)/\Z0 (decide ((↑N:Int)=(↑N:Int))) (Z0 d (a=a/\Z0 d (Z0 (decide (0+N<=N)) ((∀(i:Nat),i<N->true=true)/\∃(g_2:Nat->InS),∃(x:InS),Yt 0 (Zj (Z0q N g_1))=Zj g_2/\b=InS.c x/\(N=N/\N<900000000000/\InS.Ok x/\∀(i:Nat),i<N->InS.Ok (g_2 i))/\Z0 (decide ((YJ (sameAt g x_1) N !=wrap i64 (wrap i64 ((↑N:Int)-1)-YJ (sameAt g_2 x) N))=F)) True False) False) False) False) False) (by kernel_rfl) ?_
 conv=>zeta
 try simp only [Zc]
 try simp only [Zg]
 try simp only [Zh]
 try simp only [Jf,true_and,and_true,J2]
 subst hF
 have hr:∀i,i<N->(Z0q N g i).Ok:=fun i hi=>hg _ (by omega)
 refine ⟨g,x,rfl,rfl,⟨hN,hx,hg⟩,g,rfl,hN,fun _ _=>trivial,Z0q N g,x,rfl,rfl,⟨hN,hx,hr⟩, ?_⟩
 have hb:=Z7l (sameAt (Z0q N g) x) N
 rw [w64 (x:=(N:Int)-1) (by omega),w64 (by omega)]
 unfold Qa
 rfl
theorem Z95 (N:Nat) (g:Nat->InS) (x:InS) (num:Int) (outs:AV) (hN:N<900000000000) (hx:x.Ok) (hg:∀i,i<N->(g i).Ok):Zx PP 177 [.agg x.c,.pview [.int .i64 num,.vrows 130 N (Zj g) N,outs] 0] (.bool (Qa N g x)) 0 []:=.ev ZgU (ZgV N g x num outs _ hN hx hg rfl)
def ZdS:ZF:=fun args h K=>ZG none h true 20 args fun a=>match a with
 | [.agg cs,.pview [.int .i64 num,.vrows 130 n f m,outs] 0]=>∃g x,f=Zj g/\cs=InS.c x/\(m=n/\n<900000000000/\x.Ok/\∀i,i<n->(g i).Ok)/\K (.bool (Qa n g x))
 | _=>False
theorem ZbP (args:List AV) (h:Z8) (K:AV->Prop) (hl:ZdS args h K):Zd PP 177 args h fun o h'=>∃v,o=.ret v/\h'=h/\K v:=by
 refine Zx.psumm (d:=20) (Zq _ _ _ _ _ hl fun a ha=> ?_)
 split at ha
 ·obtain ⟨g,x,rfl,rfl,⟨rfl,h1,h2,h3⟩,hK⟩:=ha
  exact ⟨_,Z95 _ g x _ _ h1 h2 h3,fun _=>rfl,hK⟩
 simp_all
def Uq (N:Nat) (g:Nat->InS) (y:InS):Bool:= !Yh y||Qa N g y
noncomputable def ZlZ:Za:=(G0.withP 177 ZdS).withP 182 (inS Yh)
theorem ZgW:ZlZ.Ok:=Za.withP_ok (Za.withP_ok Zr ZbP) ZjK
theorem ZgX (N:Nat) (g:Nat->InS) (y:InS) (num:Int) (outs:AV) (F:Bool) (hN:N<900000000000) (hy:y.Ok) (hg:∀i,i<N->(g i).Ok) (hF:F=Uq N g y):
  evF ZlZ 20 181 [.agg y.c,.pview [.func (.func 177) [] [.pview [.int .i64 num,.vrows 130 N (Zj g) N,outs] 0]] 0] ⟨0,[]⟩ (YC 0 [] (.bool F) 0 []):=by
 refine @Eq.mpr _ (let e:=y.name;let d:=y.tag;let b:=y.also;let a:=y.secret;
 Z0 (decide (e.length=32/\d.length=32/\b.length=32/\a.length=32)) (Z0 (!Yh (InS.mk e y.index y.way d b a)) (Z0 (decide (true=F)) True False) (∃(g_1:Nat->InS),∃(x:InS),Zj g=Zj g_1/\[AV.arr u8 32 e,AV.int i64 y.index,AV.int i64 y.way,AV.arr u8 32 d,AV.arr u8 32 b,AV.arr u8 32 a]=InS.c x/\(N=N/\N<900000000000/\InS.Ok x/\∀(i:Nat),i<N->InS.Ok (g_1 i))/\Z0 (decide (Qa N g_1 x=F)) True False)) False) (by kernel_rfl) ?_
 conv=>zeta
 try simp only [Zc]
 try simp only [Zg]
 try simp only [Zh]
 try simp only [true_and,and_true]
 refine ⟨⟨hy.name,hy.tag,hy.also,hy.secret⟩, ?_, ?_⟩
 ·simp_all [Uq]
 ·intro h
  refine ⟨g,y,rfl,rfl,⟨hN,hy,hg⟩, ?_⟩
  grind [Yh,Uq]
def ZdT:ZF:=fun args h K=>ZG none h true 20 args fun a=>match a with
 | [.agg cs,.pview [.func (.func 177) [] [.pview [.int .i64 num,.vrows 130 n f m,outs] 0]] 0]=>∃g y,f=Zj g/\cs=InS.c y/\(m=n/\n<900000000000/\y.Ok/\∀i,i<n->(g i).Ok)/\K (.bool (Uq n g y))
 | _=>False
theorem ZbQ (args:List AV) (h:Z8) (K:AV->Prop) (hl:ZdT args h K):Zd PP 181 args h fun o h'=>∃v,o=.ret v/\h'=h/\K v:=by
 refine Zx.psumm (d:=20) (Zq _ _ _ _ _ hl fun a ha=> ?_)
 split at ha
 ·obtain ⟨g,x,rfl,rfl,⟨rfl,h1,h2,h3⟩,hK⟩:=ha
  exact ⟨_,.ev ZgW (ZgX _ g x _ _ _ h1 h2 h3 rfl),fun _=>rfl,hK⟩
 simp_all
noncomputable def ZjT:Za:=G0.withP 181 ZdT
theorem ZgY:ZjT.Ok:=Za.withP_ok Zr ZbQ
def X1 (N:Nat) (g:Nat->InS):Nat->Bool:=fun j=>Uq N g (g j)
def ZjU (N:Nat) (g:Nat->InS) (num:Int) (outs:AV) (i:Nat):St:=⟨19,[(1,.func (.func 181) [] [.pview [.func (.func 177) [] [.pview [.int .i64 num,.vrows 130 N (Zj g) N,outs] 0]] 0]),(0,.vrows 130 N (Zj g) N),(7,.int .i64 N),(8,.int .i64 i)],⟨0,[]⟩,[]⟩
def Zm0 (i:Nat):St:=⟨19,[(4,.int .i64 i)],⟨0,[]⟩,[]⟩
def Zm1 (_:Nat):St:=⟨19,[],⟨0,[]⟩,[]⟩
theorem Zm2 (N:Nat) (g:Nat->InS) (num:Int) (outs:AV) (i:Nat) (Z1 Z2 Z3:Prop) (hC:N<900000000000/\∀i,i<N->(g i).Ok) (hi:i<=N) (h1:i<N->X1 N g i=false->Z1) (h2:i=N->Z2) (h3:i<N->X1 N g i=true->Z3):
  ZL ZjT 20 179 0 0 (ZjU N g num outs i) (fun e s=>match e with|.normal=>Y9 0 [] (ZjU N g num outs (i+1)) s Z1|.exit x=>(match Nat.beq x 0 with|true=>Y9 0 [] (Zm1 i) s Z2|false=>False)|.ret=>Y9 0 [] (Zm0 i) s Z3|_=>False):=by
 refine @Eq.mpr _ (let b:=Zj g;let a:=g (Int.toNat (↑i:Int));let e:=[AV.func (Fn.func 177) [] [AV.pview [AV.int i64 num,AV.vrows 130 N b N,outs] 0]];let d:=decide (N=N);
 Z0 (decide ((↑i:Int)<(↑N:Int))) (Z0 (decide (0<=(↑i:Int)/\(↑i:Int)<(↑N:Int))) (∃(g:Nat->InS),∃(y:InS),b=Zj g/\[AV.arr u8 32 a.name,AV.int i64 a.index,AV.int i64 a.way,AV.arr u8 32 a.tag,AV.arr u8 32 a.also,AV.arr u8 32 a.secret]=InS.c y/\(N=N/\N<900000000000/\InS.Ok y/\∀(i:Nat),i<N->InS.Ok (g i))/\Z0 (Uq N g y) (Z0 (decide ((↑i:Int)=(↑i:Int))) Z3 False) (e=e/\Z0 d (b=b/\Z0 d (Z0 (decide ((↑N:Int)=(↑N:Int))) (Z0 (decide (wrap i64 ((↑i:Int)+1)=(↑(i+1):Int))) Z1 False) False) False) False)) False) Z2) (by kernel_rfl) ?_
 conv=>zeta
 try simp only [Zc]
 try simp only [Zg]
 try simp only [Zh]
 try simp only [true_and,and_true]
 refine ⟨fun hlt=>⟨by omega,g,g i,rfl,rfl,⟨hC.1,hC.2 i (by omega),hC.2⟩,fun h=>h3 (by omega) h,fun h=>⟨w64 (by omega),h1 (by omega) h⟩⟩,fun hge=>h2 (by omega)⟩
noncomputable def Zm3 (N:Nat) (g:Nat->InS) (num:Int) (outs:AV):Za:=ZjT.withL 179 0 (goL 0 [] (ZjU N g num outs 0) (N<900000000000/\∀i,i<N->(g i).Ok) (Z1X 0 N (fun i=>X1 N g i=false) (fun i=>i=N) (fun i=>i<N/\X1 N g i=true) Zm1 Zm0))
theorem ZgZ (N:Nat) (g:Nat->InS) (num:Int) (outs:AV):(Zm3 N g num outs).Ok:=
 Za.withGo (τ1:=[]) (τ2:=[]) (τ3:=[]) (N:=20) ZgY (by kernel_rfl) fun hC=>⟨rfl,fun i hi _=>Zm2 N g num outs i _ _ _ hC hi (fun h1 h2=>⟨h2,h1⟩) (fun h=>h) (fun h1 h2=>⟨h1,h2⟩)⟩
theorem Zm4 (N:Nat) (g:Nat->InS) (num:Int) (outs:AV) (F:Int) (hC:N<900000000000/\∀i,i<N->(g i).Ok) (hF:F=YJ (X1 N g) N):
  evF (Zm3 N g num outs) 20 179 [.vrows 130 N (Zj g) N,.func (.func 181) [] [.pview [.func (.func 177) [] [.pview [.int .i64 num,.vrows 130 N (Zj g) N,outs] 0]] 0]] ⟨0,[]⟩ (YC 0 [] (.int .i64 F) 0 []):=by
 refine @Eq.mpr _ (let a:=Zj g;let c:=[AV.func (Fn.func 177) [] [AV.pview [AV.int i64 num,AV.vrows 130 N a N,outs] 0]];let b:=decide (N=N);
 c=c/\Z0 b (a=a/\Z0 b (Z0 (decide ((↑N:Int)=(↑N:Int))) ((N<900000000000/\∀(i:Nat),i<N->InS.Ok (g i))/\∀(i:Nat),i<=N->(∀(j:Nat),j<i->(fun (i:Nat)=>X1 N g i=false) j)->(i=N->Z0 (decide (-1=F)) True False)/\(i<N/\X1 N g i=true->Z0 (decide ((↑i:Int)=F)) True False)) False) False) False) (by kernel_rfl) ?_
 conv=>zeta
 try simp only [Zc]
 try simp only [Zg]
 try simp only [Zh]
 try simp only [and_true]
 grind [Vb,Va]
theorem ZdU (N:Nat) (g:Nat->InS) (num:Int) (outs:AV) (hC:N<900000000000/\∀i,i<N->(g i).Ok):Zx PP 179 [.vrows 130 N (Zj g) N,.func (.func 181) [] [.pview [.func (.func 177) [] [.pview [.int .i64 num,.vrows 130 N (Zj g) N,outs] 0]] 0]] (.int .i64 (YJ (X1 N g) N)) 0 []:=.ev (ZgZ N g num outs) (Zm4 N g num outs _ hC rfl)
theorem U4 (p:Nat->Bool) (n:Nat):decide (0<=YJ p n)=(List.range n).any p:=by
 grind [Vu]
def Zm5:ZF:=fun args h K=>ZG none h true 20 args fun a=>match a with
 | [.vrows 130 n f m,.func (.func 181) [] [.pview [.func (.func 177) [] [.pview [.int .i64 num,.vrows 130 n' f' m',outs] 0]] 0]]=>∃g,f=Zj g/\f'=Zj g/\(m=n/\n'=n/\m'=n/\n<900000000000/\∀i,i<n->(g i).Ok)/\K (.int .i64 (YJ (X1 n g) n))
 | _=>False
theorem Zh0 (args:List AV) (h:Z8) (K:AV->Prop) (hl:Zm5 args h K):Zd PP 179 args h fun o h'=>∃v,o=.ret v/\h'=h/\K v:=by
 refine Zx.psumm (d:=20) (Zq _ _ _ _ _ hl fun a ha=> ?_)
 split at ha
 ·obtain ⟨g,rfl,rfl,⟨rfl,rfl,rfl,h1,h2⟩,hK⟩:=ha
  exact ⟨_,ZdU _ g _ _ ⟨h1,h2⟩,fun _=>rfl,hK⟩
 simp_all
noncomputable def Zm6:Za:=G0.withP 49 (ZjL ZP)
theorem Zh1:Zm6.Ok:=Za.withP_ok Zr ZgK
def Z0r (o:ZM):Bool:= !ZP o
theorem ZdV (o:ZM) (F:Bool) (ho:o.Ok) (hF:F=Z0r o):
  evF Zm6 20 186 [.agg o.c] ⟨0,[]⟩ (YC 0 [] (.bool F) 0 []):=by
 refine @Eq.mpr _ (Z0 (decide (o.owner.length=32/\o.other.length=32/\o.point.length=32/\o.hash.length=32)) (Z0 (decide ((!ZP (ZM.mk o.kind o.amount o.owner o.other o.point o.hash o.delay o.expiry))=F)) True False) False) (by kernel_rfl) ?_
 try simp only [Zc]
 try simp only [Zg]
 try simp only [Zh]
 try simp only [and_true]
 subst hF
 exact ⟨⟨ho.owner,ho.other,ho.point,ho.hash⟩,rfl⟩
def Zam:ZF:=fun args h K=>ZG none h true 20 args fun a=>match a with
 | [.agg cs]=>∃o,cs=ZM.c o/\o.Ok/\K (.bool (Z0r o))
 | _=>False
theorem Z96 (args:List AV) (h:Z8) (K:AV->Prop) (hl:Zam args h K):Zd PP 186 args h fun o h'=>∃v,o=.ret v/\h'=h/\K v:=by
 refine Zx.psumm (d:=20) (Zq _ _ _ _ _ hl fun a ha=> ?_)
 split at ha
 ·obtain ⟨x,rfl,h1,hK⟩:=ha
  exact ⟨_,.ev Zh1 (ZdV x _ h1 rfl),fun _=>rfl,hK⟩
 simp_all
noncomputable def ZjV:Za:=G0.withP 186 Zam
theorem Zh2:ZjV.Ok:=Za.withP_ok Zr Z96
def YI (g:Nat->ZM):Nat->Bool:=fun j=>Z0r (g j)
def ZjW (N:Nat) (g:Nat->ZM) (i:Nat):St:=⟨19,[(1,.func (.func 186) [] []),(0,.vrows 132 N (Zi g) N),(7,.int .i64 N),(8,.int .i64 i)],⟨0,[]⟩,[]⟩
def Zm7 (i:Nat):St:=⟨19,[(4,.int .i64 i)],⟨0,[]⟩,[]⟩
def Zm8 (_:Nat):St:=⟨19,[],⟨0,[]⟩,[]⟩
theorem Zm9 (N:Nat) (g:Nat->ZM) (i:Nat) (Z1 Z2 Z3:Prop) (hC:N<900000000000/\∀i,i<N->(g i).Ok) (hi:i<=N) (h1:i<N->YI g i=false->Z1) (h2:i=N->Z2) (h3:i<N->YI g i=true->Z3):
  ZL ZjV 20 245 0 0 (ZjW N g i) (fun e s=>match e with|.normal=>Y9 0 [] (ZjW N g (i+1)) s Z1|.exit x=>(match Nat.beq x 0 with|true=>Y9 0 [] (Zm8 i) s Z2|false=>False)|.ret=>Y9 0 [] (Zm7 i) s Z3|_=>False):=by
 refine @Eq.mpr _ (let a:=g (Int.toNat (↑i:Int));let b:=decide (N=N);
 Z0 (decide ((↑i:Int)<(↑N:Int))) (Z0 (decide (0<=(↑i:Int)/\(↑i:Int)<(↑N:Int))) (∃(o:ZM),[AV.int i64 a.kind,AV.int i64 a.amount,AV.arr u8 32 a.owner,AV.arr u8 32 a.other,AV.arr u8 32 a.point,AV.arr u8 32 a.hash,AV.int i64 a.delay,AV.int i64 a.expiry]=ZM.c o/\ZM.Ok o/\Z0 (Z0r o) (Z0 (decide ((↑i:Int)=(↑i:Int))) Z3 False) (Z0 b (Zi g=Zi g/\Z0 b (Z0 (decide ((↑N:Int)=(↑N:Int))) (Z0 (decide (wrap i64 ((↑i:Int)+1)=(↑(i+1):Int))) Z1 False) False) False) False)) False) Z2) (by kernel_rfl) ?_
 conv=>zeta
 try simp only [Zc]
 try simp only [Zg]
 try simp only [Zh]
 try simp only [true_and,and_true]
 refine ⟨fun hlt=>⟨by omega,g i,rfl,hC.2 i (by omega),fun h=>h3 (by omega) h,fun h=>⟨w64 (by omega),h1 (by omega) h⟩⟩,fun hge=>h2 (by omega)⟩
noncomputable def Zma (N:Nat) (g:Nat->ZM):Za:=ZjV.withL 245 0 (goL 0 [] (ZjW N g 0) (N<900000000000/\∀i,i<N->(g i).Ok) (Z1X 0 N (fun i=>YI g i=false) (fun i=>i=N) (fun i=>i<N/\YI g i=true) Zm8 Zm7))
theorem Zh3 (N:Nat) (g:Nat->ZM):(Zma N g).Ok:=
 Za.withGo (τ1:=[]) (τ2:=[]) (τ3:=[]) (N:=20) Zh2 (by kernel_rfl) fun hC=>⟨rfl,fun i hi _=>Zm9 N g i _ _ _ hC hi (fun h1 h2=>⟨h2,h1⟩) (fun h=>h) (fun h1 h2=>⟨h1,h2⟩)⟩
theorem Zmb (N:Nat) (g:Nat->ZM) (F:Int) (hC:N<900000000000/\∀i,i<N->(g i).Ok) (hF:F=YJ (YI g) N):
  evF (Zma N g) 20 245 [.vrows 132 N (Zi g) N,.func (.func 186) [] []] ⟨0,[]⟩ (YC 0 [] (.int .i64 F) 0 []):=by
 refine @Eq.mpr _ (let a:=decide (N=N);
 Z0 a (Zi g=Zi g/\Z0 a (Z0 (decide ((↑N:Int)=(↑N:Int))) ((N<900000000000/\∀(i:Nat),i<N->ZM.Ok (g i))/\∀(i:Nat),i<=N->(∀(j:Nat),j<i->(fun (i:Nat)=>YI g i=false) j)->(i=N->Z0 (decide (-1=F)) True False)/\(i<N/\YI g i=true->Z0 (decide ((↑i:Int)=F)) True False)) False) False) False) (by kernel_rfl) ?_
 conv=>zeta
 try simp only [Zc]
 try simp only [Zg]
 try simp only [Zh]
 try simp only [and_true]
 grind [Vb,Va]
theorem ZdW (N:Nat) (g:Nat->ZM) (hC:N<900000000000/\∀i,i<N->(g i).Ok):Zx PP 245 [.vrows 132 N (Zi g) N,.func (.func 186) [] []] (.int .i64 (YJ (YI g) N)) 0 []:=.ev (Zh3 N g) (Zmb N g _ hC rfl)
def Zmc:ZF:=fun args h K=>ZG none h true 20 args fun a=>match a with
 | [.vrows 132 n f m,.func (.func 186) [] []]=>∃g,f=Zi g/\(m=n/\n<900000000000/\∀i,i<n->(g i).Ok)/\K (.int .i64 (YJ (YI g) n))
 | _=>False
theorem Zh4 (args:List AV) (h:Z8) (K:AV->Prop) (hl:Zmc args h K):Zd PP 245 args h fun o h'=>∃v,o=.ret v/\h'=h/\K v:=by
 refine Zx.psumm (d:=20) (Zq _ _ _ _ _ hl fun a ha=> ?_)
 split at ha
 ·obtain ⟨g,rfl,⟨rfl,h1,h2⟩,hK⟩:=ha
  exact ⟨_,ZdW _ g ⟨h1,h2⟩,fun _=>rfl,hK⟩
 simp_all
def UA (m x:Int):Bool:=decide (x<0\/x>m)
theorem ZjX (m x:Int) (F:Bool) (hF:F=UA m x):
  evF G0 20 236 [.int .i64 x,.pview [.int .i64 m] 0] ⟨0,[]⟩ (YC 0 [] (.bool F) 0 []):=by
 refine @Eq.mpr _ (Z0 (decide (x<0)) (Z0 (decide (true=F)) True False) (Z0 (decide (decide (x>m)=F)) True False)) (by kernel_rfl) ?_
 try simp only [Zc]
 try simp only [Zg]
 try simp only [Zh]
 try simp only [and_true]
 subst hF
 unfold UA
 refine ⟨fun h=> ?_,fun h=> ?_⟩<;>simp [h]
theorem Zh5 (x:Int) (F:Bool) (hF:F=UA 4611686018427387904 x):
  evF G0 20 117 [.int .i64 x] ⟨0,[]⟩ (YC 0 [] (.bool F) 0 []):=by
 refine @Eq.mpr _ (Z0 (decide (x<0)) (Z0 (decide (true=F)) True False) (Z0 (decide (decide (x>4611686018427387904)=F)) True False)) (by kernel_rfl) ?_
 try simp only [Zc]
 try simp only [Zg]
 try simp only [Zh]
 try simp only [and_true]
 subst hF
 unfold UA
 refine ⟨fun h=> ?_,fun h=> ?_⟩<;>simp [h]
def Zj2:ZF:=fun args h K=>ZG none h true 20 args fun a=>match a with
 | [.int .i64 x,.pview [.int .i64 m] 0]=>K (.bool (UA m x))
 | _=>False
theorem ZdX (args:List AV) (h:Z8) (K:AV->Prop) (hl:Zj2 args h K):Zd PP 236 args h fun o h'=>∃v,o=.ret v/\h'=h/\K v:=by
 refine Zx.psumm (d:=20) (Zq _ _ _ _ _ hl fun a ha=> ?_)
 split at ha
 ·exact ⟨_,.ev Zr (ZjX _ _ _ rfl),fun _=>rfl,ha⟩
 simp_all
def ZdY (T:Int):ZF:=fun args h K=>ZG none h true 20 args fun a=>match a with
 | [.int .i64 x]=>K (.bool (UA T x))
 | _=>False
theorem ZbR (args:List AV) (h:Z8) (K:AV->Prop) (hl:ZdY 4611686018427387904 args h K):Zd PP 117 args h fun o h'=>∃v,o=.ret v/\h'=h/\K v:=by
 refine Zx.psumm (d:=20) (Zq _ _ _ _ _ hl fun a ha=> ?_)
 split at ha
 ·exact ⟨_,.ev Zr (Zh5 _ _ rfl),fun _=>rfl,ha⟩
 simp_all
noncomputable def Zmd (T:Int):Za:=(G0.withP 236 Zj2).withP 117 (ZdY T)
theorem Zh6:(Zmd 4611686018427387904).Ok:=Za.withP_ok (Za.withP_ok Zr ZdX) ZbR
def YN (m:Int) (xs:LI):Nat->Bool:=fun j=>UA m (xs.getD j 0)
noncomputable def ZdZ:Za:=Zmd 4611686018427387904
theorem Zan:ZdZ.Ok:=Zh6
def ZjY (xs:LI) (N:Nat) (m:Int) (i:Nat):St:=⟨19,[(1,.func (.func 236) [] [.pview [.int .i64 m] 0]),(0,.vints .i64 xs N),(7,.int .i64 N),(8,.int .i64 i)],⟨0,[]⟩,[]⟩
def Zme (i:Nat):St:=⟨19,[(4,.int .i64 i)],⟨0,[]⟩,[]⟩
def Zmf (_:Nat):St:=⟨19,[],⟨0,[]⟩,[]⟩
theorem Zmg (xs:LI) (N:Nat) (m:Int) (i:Nat) (Z1 Z2 Z3:Prop) (hC:N<900000000000/\xs.length=N) (hi:i<=N) (h1:i<N->YN m xs i=false->Z1) (h2:i=N->Z2) (h3:i<N->YN m xs i=true->Z3):
  ZL ZdZ 20 165 0 0 (ZjY xs N m i) (fun e s=>match e with|.normal=>Y9 0 [] (ZjY xs N m (i+1)) s Z1|.exit x=>(match Nat.beq x 0 with|true=>Y9 0 [] (Zmf i) s Z2|false=>False)|.ret=>Y9 0 [] (Zme i) s Z3|_=>False):=by
 refine @Eq.mpr _ (let a:=[AV.int i64 m];
 Z0 (decide ((↑i:Int)<(↑N:Int))) (Z0 (decide (0<=(↑i:Int)/\(↑i:Int)<(↑N:Int))) (Z0 (UA m (List.getD xs (Int.toNat (↑i:Int)) 0)) (Z0 (decide ((↑i:Int)=(↑i:Int))) Z3 False) (a=a/\xs=xs/\Z0 (decide (N=N)) (Z0 (decide ((↑N:Int)=(↑N:Int))) (Z0 (decide (wrap i64 ((↑i:Int)+1)=(↑(i+1):Int))) Z1 False) False) False)) False) Z2) (by kernel_rfl) ?_
 conv=>zeta
 try simp only [Zc]
 try simp only [Zg]
 try simp only [Zh]
 try simp only [true_and,and_true]
 refine ⟨fun hlt=>⟨by omega,fun h=>h3 (by omega) h,fun h=>⟨w64 (by omega),h1 (by omega) h⟩⟩,fun hge=>h2 (by omega)⟩
noncomputable def Zmh (xs:LI) (N:Nat) (m:Int):Za:=ZdZ.withL 165 0 (goL 0 [] (ZjY xs N m 0) (N<900000000000/\xs.length=N) (Z1X 0 N (fun i=>YN m xs i=false) (fun i=>i=N) (fun i=>i<N/\YN m xs i=true) Zmf Zme))
theorem Zh7 (xs:LI) (N:Nat) (m:Int):(Zmh xs N m).Ok:=
 Za.withGo (τ1:=[]) (τ2:=[]) (τ3:=[]) (N:=20) Zan (by kernel_rfl) fun hC=>⟨rfl,fun i hi _=>Zmg xs N m i _ _ _ hC hi (fun h1 h2=>⟨h2,h1⟩) (fun h=>h) (fun h1 h2=>⟨h1,h2⟩)⟩
theorem Zmi (xs:LI) (N:Nat) (m:Int) (F:Int) (hC:N<900000000000/\xs.length=N) (hF:F=YJ (YN m xs) N):
  evF (Zmh xs N m) 20 165 [.vints .i64 xs N,.func (.func 236) [] [.pview [.int .i64 m] 0]] ⟨0,[]⟩ (YC 0 [] (.int .i64 F) 0 []):=by
 refine @Eq.mpr _ (let a:=[AV.int i64 m];
 a=a/\xs=xs/\Z0 (decide (N=N)) (Z0 (decide ((↑N:Int)=(↑N:Int))) ((N<900000000000/\xs.length=N)/\∀(i:Nat),i<=N->(∀(j:Nat),j<i->(fun (i:Nat)=>YN m xs i=false) j)->(i=N->Z0 (decide (-1=F)) True False)/\(i<N/\YN m xs i=true->Z0 (decide ((↑i:Int)=F)) True False)) False) False) (by kernel_rfl) ?_
 conv=>zeta
 try simp only [Zc]
 try simp only [Zg]
 try simp only [Zh]
 try simp only [and_true]
 grind [Vb,Va]
theorem Ze0 (xs:LI) (N:Nat) (m:Int) (hC:N<900000000000/\xs.length=N):Zx PP 165 [.vints .i64 xs N,.func (.func 236) [] [.pview [.int .i64 m] 0]] (.int .i64 (YJ (YN m xs) N)) 0 []:=.ev (Zh7 xs N m) (Zmi xs N m _ hC rfl)
def ZjZ (xs:LI) (N:Nat) (i:Nat):St:=⟨19,[(1,.func (.func 117) [] []),(0,.vints .i64 xs N),(7,.int .i64 N),(8,.int .i64 i)],⟨0,[]⟩,[]⟩
def Zmj (i:Nat):St:=⟨19,[(4,.int .i64 i)],⟨0,[]⟩,[]⟩
def Zmk (_:Nat):St:=⟨19,[],⟨0,[]⟩,[]⟩
theorem Zml (xs:LI) (N:Nat) (i:Nat) (Z1 Z2 Z3:Prop) (hC:N<900000000000/\xs.length=N) (hi:i<=N) (h1:i<N->YN 4611686018427387904 xs i=false->Z1) (h2:i=N->Z2) (h3:i<N->YN 4611686018427387904 xs i=true->Z3):
  ZL ZdZ 20 165 0 0 (ZjZ xs N i) (fun e s=>match e with|.normal=>Y9 0 [] (ZjZ xs N (i+1)) s Z1|.exit x=>(match Nat.beq x 0 with|true=>Y9 0 [] (Zmk i) s Z2|false=>False)|.ret=>Y9 0 [] (Zmj i) s Z3|_=>False):=by
 refine @Eq.mpr _ (Z0 (decide ((↑i:Int)<(↑N:Int))) (Z0 (decide (0<=(↑i:Int)/\(↑i:Int)<(↑N:Int))) (Z0 (UA 4611686018427387904 (List.getD xs (Int.toNat (↑i:Int)) 0)) (Z0 (decide ((↑i:Int)=(↑i:Int))) Z3 False) (xs=xs/\Z0 (decide (N=N)) (Z0 (decide ((↑N:Int)=(↑N:Int))) (Z0 (decide (wrap i64 ((↑i:Int)+1)=(↑(i+1):Int))) Z1 False) False) False)) False) Z2) (by kernel_rfl) ?_
 try simp only [Zc]
 try simp only [Zg]
 try simp only [Zh]
 try simp only [true_and,and_true]
 refine ⟨fun hlt=>⟨by omega,fun h=>h3 (by omega) h,fun h=>⟨w64 (by omega),h1 (by omega) h⟩⟩,fun hge=>h2 (by omega)⟩
noncomputable def Zmm (xs:LI) (N:Nat):Za:=ZdZ.withL 165 0 (goL 0 [] (ZjZ xs N 0) (N<900000000000/\xs.length=N) (Z1X 0 N (fun i=>YN 4611686018427387904 xs i=false) (fun i=>i=N) (fun i=>i<N/\YN 4611686018427387904 xs i=true) Zmk Zmj))
theorem Zh8 (xs:LI) (N:Nat):(Zmm xs N).Ok:=
 Za.withGo (τ1:=[]) (τ2:=[]) (τ3:=[]) (N:=20) Zan (by kernel_rfl) fun hC=>⟨rfl,fun i hi _=>Zml xs N i _ _ _ hC hi (fun h1 h2=>⟨h2,h1⟩) (fun h=>h) (fun h1 h2=>⟨h1,h2⟩)⟩
theorem Zmn (xs:LI) (N:Nat) (F:Int) (hC:N<900000000000/\xs.length=N) (hF:F=YJ (YN 4611686018427387904 xs) N):
  evF (Zmm xs N) 20 165 [.vints .i64 xs N,.func (.func 117) [] []] ⟨0,[]⟩ (YC 0 [] (.int .i64 F) 0 []):=by
 refine @Eq.mpr _ (xs=xs/\Z0 (decide (N=N)) (Z0 (decide ((↑N:Int)=(↑N:Int))) ((N<900000000000/\xs.length=N)/\∀(i:Nat),i<=N->(∀(j:Nat),j<i->(fun (i:Nat)=>YN 4611686018427387904 xs i=false) j)->(i=N->Z0 (decide (-1=F)) True False)/\(i<N/\YN 4611686018427387904 xs i=true->Z0 (decide ((↑i:Int)=F)) True False)) False) False) (by kernel_rfl) ?_
 try simp only [Zc]
 try simp only [Zg]
 try simp only [Zh]
 try simp only [and_true]
 grind [Vb,Va]
theorem Ze1 (xs:LI) (N:Nat) (hC:N<900000000000/\xs.length=N):Zx PP 165 [.vints .i64 xs N,.func (.func 117) [] []] (.int .i64 (YJ (YN 4611686018427387904 xs) N)) 0 []:=.ev (Zh8 xs N) (Zmn xs N _ hC rfl)
def Zmo (T:Int):ZF:=fun args h K=>ZG none h true 20 args fun a=>match a with
 | [.vints .i64 xs n,.func (.func 236) [] [.pview [.int .i64 m] 0]]=>Z6 (xs.length=n/\n<900000000000) (K (.int .i64 (YJ (YN m xs) n)))
 | [.vints .i64 xs n,.func (.func 117) [] []]=>Z6 (xs.length=n/\n<900000000000) (K (.int .i64 (YJ (YN T xs) n)))
 | _=>False
theorem Zh9 (args:List AV) (h:Z8) (K:AV->Prop) (hl:Zmo 4611686018427387904 args h K):Zd PP 165 args h fun o h'=>∃v,o=.ret v/\h'=h/\K v:=by
 refine Zx.psumm (d:=20) (Zq _ _ _ _ _ hl fun a ha=> ?_)
 split at ha
 ·obtain ⟨⟨h1,h2⟩,hK⟩:=Zf ha
  exact ⟨_,Ze0 _ _ _ ⟨h2,h1⟩,fun _=>rfl,hK⟩
 ·obtain ⟨⟨h1,h2⟩,hK⟩:=Zf ha
  exact ⟨_,Ze1 _ _ ⟨h2,h1⟩,fun _=>rfl,hK⟩
 simp_all
noncomputable def Zmp (T:Int):Za:=G0.withP 165 (Zmo T)
theorem Zha:(Zmp 4611686018427387904).Ok:=Za.withP_ok Zr Zh9
@[irreducible] def allIn (m:Int) (xs:LI):Bool:= !((List.range xs.length).any (YN m xs))
theorem Zhb (T:Int) (xs:LI) (N:Nat) (F:Int) (hC:N<900000000000/\xs.length=N) (hF:F=if allIn 1125899906842624 xs then 0 else 2):
  evF (Zmp T) 20 80 [.vints .i64 xs N] ⟨0,[]⟩ (YC 0 [] (.int .i64 F) 0 []):=by
 refine @Eq.mpr _ (Z0 (decide (xs.length=N/\N<900000000000)) (Z0 (!!decide (YJ (YN 1125899906842624 xs) N>=0)) (Z0 (decide (2=F)) True False) (Z0 (decide (0=F)) True False)) False) (by kernel_rfl) ?_
 try simp only [Zc]
 try simp only [Zg]
 try simp only [Zh]
 try simp only [and_true]
 grind [U4,allIn]
def Ze2 (m:Int):ZF:=fun args h K=>ZG none h true 20 args fun a=>match a with
 | [.vints .i64 xs n]=>Z6 (xs.length=n/\n<900000000000) (Z0 (allIn m xs) (K (.int .i64 0)) (K (.int .i64 2)))
 | _=>False
theorem ZbS (args:List AV) (h:Z8) (K:AV->Prop) (hl:Ze2 1125899906842624 args h K):Zd PP 80 args h fun o h'=>∃v,o=.ret v/\h'=h/\K v:=by
 refine Zx.psumm (d:=20) (Zq _ _ _ _ _ hl fun a ha=> ?_)
 split at ha
 ·obtain ⟨⟨h1,h2⟩,hK⟩:=Zf ha
  refine ⟨_,.ev (Zha) (Zhb _ _ _ _ ⟨h2,h1⟩ rfl),fun _=>rfl, ?_⟩
  rw [Zh] at hK
  grind
 simp_all
def Vc (xs:LI) (i:Nat):Int:=(xs.take i).sum
theorem Z1A {i:Nat} (h:i<xs.length):Vc xs (i+1)=Vc xs i+xs.getD i 0:=by
 grind [Vc,List.take_succ_eq_append_getElem]
theorem Z1B {m:Int} (h:allIn m xs=true) {i:Nat} (hi:i<xs.length):0<=xs.getD i 0/\xs.getD i 0<=m:=by
 simp_all [allIn,YN,UA]
theorem Z7m {m:Int} {xs:LI} (h:allIn m xs=true):∀{i:Nat},i<=xs.length->0<=Vc xs i
 | 0,_=>by simp [Vc]
 | i+1,hi=>by
  rw [Z1A (by omega)]
  have:=Z1B h (i:=i) (by omega)
  have:=Z7m h (i:=i) (by omega)
  omega
theorem Z51 {m:Int} {xs:LI} (h:allIn m xs=true):∀(d i:Nat),i+d<=xs.length->Vc xs i<=Vc xs (i+d)
 | 0,i,_=>Int.le_refl _
 | d+1,i,hi=>by
  have h1:=Z51 h d i (by omega)
  rw [<-Nat.add_assoc,Z1A (by omega)]
  have:=Z1B h (i:=i+d) (by omega)
  omega
def adS (xs:LI) (i:Nat):St:=⟨24,[(10,.vints .i64 xs xs.length),(3,.int .i64 150),(11,.int .i64 xs.length),(12,.int .i64 i),(2,.int .i64 (Vc xs i))],⟨0,[]⟩,[]⟩
def adE (xs:LI) (i:Nat):St:=⟨24,[(3,.int .i64 150),(2,.int .i64 (Vc xs i))],⟨0,[]⟩,[]⟩
def adJ (_:Nat):St:=⟨24,[(3,.int .i64 150)],⟨0,[]⟩,[]⟩
theorem Zmq (xs:LI) (i:Nat) (Z1 Z2 Z4:Prop) (M:Int) (hM:M=1125899906842624) (hn:xs.length<900000000000) (hall:allIn M xs=true) (hi:i<=xs.length) (hgo:∀j,j<i->Vc xs (j+1)<=M) (h1:i<xs.length->Vc xs (i+1)<=M->Z1) (h2:i=xs.length->Z2) (h4:i<xs.length->M<Vc xs (i+1)->Z4):
  ZL G0 20 74 0 0 (adS xs i) (fun e s=>match e with|.normal=>Y9 0 [] (adS xs (i+1)) s Z1|.exit x=>(match Nat.beq x 0 with|true=>Y9 0 [] (adE xs i) s Z2|false=>False)|.ret=>Y9 0 [] (adJ i) s False|.goto x=>(match Nat.beq x 0 with|true=>Y9 0 [] (adJ i) s Z4|false=>False)|_=>False):=by
 refine @Eq.mpr _ (let c:=xs.length;let a:=(↑c:Int);let b:=Vc xs i;let d:=wrap i64 (b+List.getD xs (Int.toNat (↑i:Int)) 0);
 Z0 (decide ((↑i:Int)<a)) (Z0 (decide (0<=(↑i:Int)/\(↑i:Int)<a)) (Z0 (decide (d>1125899906842624)) Z4 (xs=xs/\Z0 (decide (c=c)) (Z0 (decide (a=a)) (Z0 (decide (wrap i64 ((↑i:Int)+1)=(↑(i+1):Int))) (Z0 (decide (d=Vc xs (i+1))) Z1 False) False) False) False)) False) (Z0 (decide (b=b)) Z2 False)) (by kernel_rfl) ?_
 conv=>zeta
 try simp only [Zc]
 try simp only [Zg]
 try simp only [Zh]
 try simp only [true_and,and_true]
 refine ⟨fun hlt=>⟨by omega, ?_⟩,fun hge=>h2 (by omega)⟩
 have hs:=Z1A (xs:=xs) (i:=i) (by omega)
 have hx:=Z1B hall (i:=i) (by omega)
 have hp:=Z7m hall hi
 have hq:Vc xs i<=1125899906842624:=by
  cases i with
  | zero=>simp [Vc]
  | succ j=>simp_all
 grind [w64]
noncomputable def Zmr (m M:Int) (xs:LI):Za:=(G0.withL 74 0 (goL 0 [] (adS xs 0) (allIn M xs=true/\xs.length<900000000000) (YB 0 xs.length 0 (fun i=>Vc xs (i+1)<=M) (fun i=>i=xs.length) (fun _=>False) (fun i=>i<xs.length/\M<Vc xs (i+1)) (adE xs) adJ adJ))).withP 80 (Ze2 m)
theorem Zhc (xs:LI):(Zmr 1125899906842624 1125899906842624 xs).Ok:=
 Za.withP_ok (Za.withGoJ (τ1:=[]) (τ2:=[]) (τ3:=[]) (τ4:=[]) (N:=20) Zr (by kernel_rfl) fun hC=>⟨rfl,fun i hi hgo=>Zmq xs i _ _ _ _ rfl hC.2 hC.1 hi hgo (fun h1 h2=>⟨h2,h1⟩) (fun h=>h) (fun h1 h2=>⟨h1,h2⟩)⟩) ZbS
@[irreducible] def ZJ (xs:LI):Int×Int:=if allIn 1125899906842624 xs=true then (if xs.sum<=1125899906842624 then (xs.sum,0) else (0,150)) else (0,2)
theorem Zms (xs:LI) (m M:Int) (F:Int×Int) (hm:m=1125899906842624) (hM:M=1125899906842624) (hn:xs.length<900000000000) (hF:F=ZJ xs):
  evF (Zmr m M xs) 20 74 [.vints .i64 xs xs.length] ⟨0,[]⟩ (YC 0 [] (.tuple [.int .i64 F.1,.int .i64 F.2]) 0 []):=by
 refine @Eq.mpr _ (let a:=xs.length;let c:=(↑a:Int);let b:=decide (0=F.fst);
 Z0 (decide (a=a/\a<900000000000)) (Z0 (allIn m xs) (xs=xs/\Z0 (decide (a=a)) (Z0 (decide (c=c)) ((allIn M xs=true/\a<900000000000)/\∀(i:Nat),i<=a->(∀(j:Nat),j<i->(fun (i:Nat)=>Vc xs (i+1)<=M) j)->(i=a->Z0 (decide (Vc xs i=F.fst)) (Z0 (decide (0=F.snd)) True False) False)/\(False->False)/\(i<a/\M<Vc xs (i+1)->Z0 b (Z0 (decide (150=F.snd)) True False) False)) False) False) (Z0 b (Z0 (decide (2=F.snd)) True False) False)) False) (by kernel_rfl) ?_
 conv=>zeta
 try simp only [Zc]
 try simp only [Zg]
 try simp only [Zh]
 try simp only [true_and,and_true]
 subst hm hM hF
 have ht:Vc xs xs.length=xs.sum:=by simp [Vc]
 refine ⟨hn,fun hall=>⟨⟨hall,hn⟩,fun i hi hgo=>⟨fun he=> ?_,fun h=>h.elim,fun he=> ?_⟩⟩,fun hall=> ?_⟩
 ·have hle:xs.sum<=1125899906842624:=by
   rcases JA xs.length with h0|h0
   all_goals grind [Nat.sub_add_cancel]
  simp_all [ZJ]
 ·have hmono:=Z51 hall (xs.length-(i+1)) (i+1) (by omega)
  grind [ZJ]
 simp_all [ZJ]
def Zao (A:LI->Int×Int):ZF:=fun args h K=>ZG none h true 20 args fun a=>match a with
 | [.vints .i64 xs n]=>Z6 (n=xs.length/\n<900000000000) (K (.tuple [.int .i64 (A xs).1,.int .i64 (A xs).2]))
 | _=>False
theorem Z3C (args:List AV) (h:Z8) (K:AV->Prop) (hl:Zao ZJ args h K):Zd PP 74 args h fun o h'=>∃v,o=.ret v/\h'=h/\K v:=by
 refine Zx.psumm (d:=20) (Zq _ _ _ _ _ hl fun a ha=> ?_)
 split at ha
 ·obtain ⟨⟨rfl,h1⟩,hK⟩:=Zf ha
  exact ⟨_,.ev (Zhc _) (Zms _ _ _ _ rfl rfl h1 rfl),fun _=>rfl,hK⟩
 simp_all
def amL (g:Nat->ZM) (n:Nat):LI:=(List.range n).map fun j=>(g j).amount
theorem Z3D (g:Nat->ZM) (n:Nat):amL g (n+1)=amL g n++[(g n).amount]:=by simp [amL,List.range_succ]
theorem Z2m (g:Nat->ZM) (n:Nat):(amL g n).length=n:=by simp [amL]
def suS (M:Nat) (g:Nat->ZM) (i:Nat):St:=⟨24,[(8,.vrows 132 M (Zi g) M),(9,.int .i64 M),(10,.int .i64 i),(4,.nslice ⟨0,0,0,0,0⟩ 1 i i)],⟨1,[(0,.ints .i64 (amL g i))]⟩,[]⟩
def suE (g:Nat->ZM) (i:Nat):St:=⟨24,[(4,.nslice ⟨0,0,0,0,0⟩ 1 i i)],⟨1,[(0,.ints .i64 (amL g i))]⟩,[]⟩
theorem Zmt (M i:Nat) (g:Nat->ZM) (Z1 Z2:Prop) (hn:M<900000000000) (hi:i<=M) (h1:i<M->Z1) (h2:i=M->Z2):
  ZL G0 20 187 0 0 (suS M g i) (fun e s=>match e with|.normal=>Y9 0 [(0,3)] (suS M g (i+1)) s Z1|.exit x=>(match Nat.beq x 0 with|true=>Y9 0 [(0,0)] (suE g i) s Z2|false=>False)|.ret=>Y9 0 [] (suE g i) s False|_=>False):=by
 refine @Eq.mpr _ (let b:=amL g i;let e:=b++[(g (Int.toNat (↑i:Int))).amount];let c:=e.length;let d:=decide (M=M);let a:=i+1;
 Z0 (decide ((↑i:Int)<(↑M:Int))) (Z0 (decide (0<=(↑i:Int)/\(↑i:Int)<(↑M:Int))) (Z0 (decide (i64=i64/\b.length=i)) (Z0 (decide (c*8<=140737488355328)) (Z0 d (Zi g=Zi g/\Z0 d (Z0 (decide ((↑M:Int)=(↑M:Int))) (Z0 (decide (wrap i64 ((↑i:Int)+1)=(↑a:Int))) (Z0 (decide (c=a)) (Z0 (decide (a<=c)) (e=amL g a/\Z1) False) False) False) False) False) False) False) False) False) (Z0 (decide (i=i)) (Z0 (decide (i<=i)) (b=b/\Z2) False) False)) (by kernel_rfl) ?_
 conv=>zeta
 try simp only [Zc]
 try simp only [Zg]
 try simp only [Zh]
 try simp only [Jk,true_and,J2]
 refine ⟨fun hlt=>⟨by omega,Z2m g i, ?_⟩,fun hge=>h2 (by omega)⟩
 rw [<-Z3D,Z2m]
 exact ⟨by omega,w64 (by omega),rfl,J2 _,rfl,h1 (by omega)⟩
noncomputable def Zmu (A:LI->Int×Int) (M:Nat) (g:Nat->ZM):Za:=(G0.withL 187 0 (goL 0 [] (suS M g 0) (M<900000000000) (Z1X 0 M (fun i=>i<M) (fun i=>i=M) (fun _=>False) (suE g) (suE g)))).withP 74 (Zao A)
theorem Zhd (M:Nat) (g:Nat->ZM):(Zmu ZJ M g).Ok:=
 Za.withP_ok (Za.withGo (τ1:=[(0,3)]) (τ2:=[(0,0)]) (τ3:=[]) (N:=20) Zr (by kernel_rfl) fun hC=>⟨rfl,fun i hi hgo=>Zmt M i g _ _ hC hi (fun h=>⟨h,h⟩) (fun h=>h)⟩) Z3C
theorem Zmv (A:LI->Int×Int) (M N:Nat) (f:Nat->InS) (g:Nat->ZM) (num:Int) (F:Int×Int) (hn:M<900000000000) (hF:F=A (amL g M)):
  evF (Zmu A M g) 20 187 [.agg [.int .i64 num,.vrows 130 N (Zj f) N,.vrows 132 M (Zi g) M]] ⟨0,[]⟩ (YC 0 [] (.tuple [.int .i64 F.1,.int .i64 F.2]) 0 []):=by
 refine @Eq.mpr _ (let c:=decide (M=M);
 Z0 c
 (Zi g=Zi g/\
 Z0 c
 (Z0 (decide ((↑M:Int)=(↑M:Int)))
 (amL g 0=[]/\
 M<900000000000/\
 ∀(i:Nat),
 let b:=List.take i (ZV 0 (amL g i));let a:=A b;
 i<=M->(∀(j:Nat),j<i->(fun (i:Nat)=>i<M) j)->(i=M->Z0 (decide (0+i<=List.length (amL g i))) (Z0 (decide (i=b.length/\i<900000000000)) (Z0 (decide (a.fst=F.fst)) (Z0 (decide (a.snd=F.snd)) True False) False) False) False)/\(False->False))
 False)
 False)
 False) (by kernel_rfl) ?_
 conv=>zeta
 try simp only [Zc]
 try simp only [Zg]
 try simp only [Zh]
 try simp only [true_and,and_true]
 refine ⟨rfl,hn,fun i hi hgo=>⟨fun he=> ?_,fun h=>h.elim⟩⟩
 simp_all [Y6,Ju,Z2m]
def Z97 (A:LI->Int×Int):ZF:=fun args h K=>ZG none h true 20 args fun a=>match a with
 | [.agg [.int .i64 num,.vrows 130 N f n,.vrows 132 M f' m]]=>∃g g',f=Zj g/\f'=Zi g'/\(n=N/\m=M/\M<900000000000)/\K (.tuple [.int .i64 (A (amL g' M)).1,.int .i64 (A (amL g' M)).2])
 | _=>False
theorem Z52 (args:List AV) (h:Z8) (K:AV->Prop) (hl:Z97 ZJ args h K):Zd PP 187 args h fun o h'=>∃v,o=.ret v/\h'=h/\K v:=by
 refine Zx.psumm (d:=20) (Zq _ _ _ _ _ hl fun a ha=> ?_)
 split at ha
 ·obtain ⟨g,g',rfl,rfl,⟨rfl,rfl,h1⟩,hK⟩:=ha
  exact ⟨_,.ev (Zhd _ g') (Zmv _ _ _ g g' _ _ h1 rfl),fun _=>rfl,hK⟩
 simp_all
def Z4l (v:AV) (N:Nat) (g:Nat->InS):Prop:=match v with
 | .vrows 130 n f m=>(m=n/\N=n)/\∀i,i<n->f i=(g i).c
 | .nilslice=>N=0
 | .eslice=>N=0
 | .fslice=>N=0
 | _=>False
def Z1Y (v:AV) (N:Nat) (g:Nat->ZM):Prop:=match v with
 | .vrows 132 n f m=>(m=n/\N=n)/\∀i,i<n->f i=(g i).c
 | .nilslice=>N=0
 | .eslice=>N=0
 | .fslice=>N=0
 | _=>False
theorem Zk.rows0 {E:Env} {f:Nat->List AV} {r:Value} {a:Option Addr} {c:Nat} (h:r=.slice a 0 c) (hc:a=none->c=0):Zk E (.vrows esz 0 f 0) r:=by
 subst h
 cases a with
 | none=>rw [hc rfl];exact .vrowsNil _ _ _ _ rfl rfl
 | some a=>exact .vrows _ _ _ _ a c (fun _=>[]) (J2 _) (JB _) (fun i h=>by omega) (fun i h=>by omega) (fun i j c h=>by omega)
theorem Zk.rowsC {E:Env} {n:Nat} {f f':Nat->List AV} {r:Value} (h:Zk E (.vrows esz n f n) r) (hf:∀i,i<n->f i=f' i):Zk E (.vrows esz n f' n) r:=by
 cases h with
 | vrowsNil esz n f len h1 h2=>exact .vrowsNil _ _ _ _ h1 h2
 | vrows esz n f len a cap g h1 h2 hc hl hi=>exact .vrows _ _ _ _ a cap g h1 h2 (fun i h=>by rw [<-hf i h];exact hc i h) hl hi
theorem Z4l.rel {N:Nat} {g:Nat->InS} (h:Z4l v N g) {E:Env} {r:Value} (hv:Zk E v r):Zk E (.vrows 130 N (Zj g) N) r:=by
 unfold Z4l at h
 split at h
 ·obtain ⟨⟨rfl,rfl⟩,hf⟩:=h
  exact hv.rowsC hf
 ·subst h;cases hv;exact .rows0 rfl (fun _=>rfl)
 ·subst h;cases hv with|eslice a=>exact .rows0 rfl (fun _=>rfl)
 ·subst h;cases hv with|fslice a c=>exact .rows0 rfl (fun h=>by cases h)
 ·exact h.elim
theorem Z1Y.rel {N:Nat} {g:Nat->ZM} (h:Z1Y v N g) {E:Env} {r:Value} (hv:Zk E v r):Zk E (.vrows 132 N (Zi g) N) r:=by
 unfold Z1Y at h
 split at h
 ·obtain ⟨⟨rfl,rfl⟩,hf⟩:=h
  exact hv.rowsC hf
 ·subst h;cases hv;exact .rows0 rfl (fun _=>rfl)
 ·subst h;cases hv with|eslice a=>exact .rows0 rfl (fun _=>rfl)
 ·subst h;cases hv with|fslice a c=>exact .rows0 rfl (fun h=>by cases h)
 ·exact h.elim
theorem Z4l.cell {N:Nat} {g:Nat->InS} (h:Z4l v N g):v.isCell=true/\∀k n xs,v≠.arr k n xs:=by
 unfold Z4l at h;split at h<;>simp_all [AV.isCell]
theorem Z1Y.cell {N:Nat} {g:Nat->ZM} (h:Z1Y v N g):v.isCell=true/\∀k n xs,v≠.arr k n xs:=by
 unfold Z1Y at h;split at h<;>simp_all [AV.isCell]
structure TxS where
 num:Int
 N:Nat
 ins:Nat->InS
 M:Nat
 outs:Nat->ZM
def TxS.c (t:TxS):List AV:=[.int .i64 t.num,.vrows 130 t.N (Zj t.ins) t.N,.vrows 132 t.M (Zi t.outs) t.M]
structure TxS.Ok (t:TxS):Prop where
 n:t.N<900000000000
 m:t.M<900000000000
 ins:∀i,i<t.N->(t.ins i).Ok
 outs:∀i,i<t.M->(t.outs i).Ok
def Z0s (l:List AV) (t:TxS):Prop:=match l with
 | [.int .i64 num,a,b]=>t.num=num/\Z4l a t.N t.ins/\Z1Y b t.M t.outs
 | _=>False
theorem Z0s.rel {l:List AV} {t:TxS} (h:Z0s l t) {E:Env} {r:Value} (hv:Zk E (.agg l) r):Zk E (.agg t.c) r:=by
 unfold Z0s at h
 split at h
 ·rename_i num a b
  obtain ⟨h0,h1,h2⟩:=h
  cases hv with
  | agg cs vs hc=>
   obtain ⟨c1,ws,rfl,_,q1,p1,hc⟩:=Zz.cons_cell hc (fun _ _ _ h=>by cases h)
   obtain ⟨c2,ws,rfl,_,q2,p2,hc⟩:=Zz.cons_cell hc h1.cell.2
   obtain ⟨c3,ws,rfl,_,q3,p3,hc⟩:=Zz.cons_cell hc h2.cell.2
   cases hc
   refine .agg _ _ (.one _ _ _ _ rfl q1 (by rw [h0];exact p1) (.one _ _ _ _ rfl q2 (h1.rel p2) (.one _ _ _ _ rfl q3 (h2.rel p3) .nil)))
 ·exact h.elim
theorem Zx.conv {P:Program} {f:FuncId} {args args₀:List AV} {nx:Nat} {bs:List (Nat×Blk)} (h:Zx P f args₀ v nx bs) (hc:∀E r,ZH E args r->ZH E args₀ r):Zx P f args v nx bs:=
 fun E w rs he hr=>h E w rs he (hc E rs hr)
theorem ZH.head {E:Env} {v':AV} {r l:List AV} {rs:List Value} (h:ZH E (v::l) rs) (hv:∀c,Zk E v c->Zk E v' c) (ht:∀cs,ZH E l cs->ZH E r cs):ZH E (v'::r) rs:=by
 cases h with
 | cons v c vs cs h t=>exact .cons _ _ _ _ (hv c h) (ht cs t)
@[irreducible] def Yp (A:LI->Int×Int) (t:TxS):Bool:=
 decide (0<=t.num/\t.num<=2147483647)&&decide (1<=t.N/\t.N<=24)&&decide (1<=t.M/\t.M<=24)&& !((List.range t.N).any (X1 t.N t.ins))&& !((List.range t.M).any (YI t.outs))&&((A (amL t.outs t.M)).2==0)
noncomputable def Zmw (A:LI->Int×Int):Za:=((G0.withP 179 Zm5).withP 245 Zmc).withP 187 (Z97 A)
theorem Zhe:(Zmw ZJ).Ok:=Za.withP_ok (Za.withP_ok (Za.withP_ok Zr Zh0) Zh4) Z52
theorem Zp8 (A:LI->Int×Int) (t:TxS) (F:Int) (ht:t.Ok) (hF:F=if Yp A t=true then 0 else 2):
  evF (Zmw A) 20 89 [.agg t.c] ⟨0,[]⟩ (YC 0 [] (.int .i64 F) 0 []):=by
 refine @Eq.mpr _ (let a:=Z6 (2=F) True;let c:=t.N;let k:=(↑c:Int);let b:=t.M;let j:=(↑b:Int);let h:=Zj t.ins;let d:=c=c;let f:=b=b;let e:=b<900000000000;
 Z0 (decide (0<=t.num)) (Z0 (!decide (t.num<=2147483647)) a (Z0 (decide (1<=k)) (Z0 (!decide (k<=24)) a (Z0 (decide (1<=j)) (Z0 (!decide (j<=24)) a (∃(g:Nat->InS),
 let m:=h=Zj g;
 m/\
 m/\
 (d/\d/\d/\c<900000000000/\∀(i:Nat),i<c->InS.Ok (g i))/\
 Z0 (decide (YJ (X1 c g) c>=0)) a (∃(g:Nat->ZM),
 let l:=Zi t.outs;
 l=Zi g/\(f/\e/\∀(i:Nat),i<b->ZM.Ok (g i))/\Z0 (decide (YJ (YI g) b>=0)) a (∃(g:Nat->InS),∃(g':Nat->ZM),h=Zj g/\l=Zi g'/\(d/\f/\e)/\Z0 ((A (amL g' b)).snd !=0) a (Z6 (0=F) True))))) a)) a)) a) (by kernel_rfl) ?_
 conv=>zeta
 try simp only [Zp5]
 try simp only [Zp6]
 try simp only [vcC]
 have h2:Yp A t=false->2=F:=fun h=>by rw [hF,h];rfl
 have h0:Yp A t=true->0=F:=fun h=>by rw [hF,h];rfl
 clear hF
 refine ⟨fun a1=>⟨fun a2=>h2 ?_,fun a2=>⟨fun a3=>⟨fun a4=>h2 ?_,fun a4=>⟨fun a5=>⟨fun a6=>h2 ?_,fun a6=> ?_⟩,fun a5=>h2 ?_⟩⟩,fun a3=>h2 ?_⟩⟩,fun a1=>h2 ?_⟩
 ·unfold Yp;rw [decide_eq_false (p:=0<=t.num/\_) (by simp at a2;omega)];simp
 ·unfold Yp;rw [decide_eq_false (p:=1<=t.N/\_) (by simp at a4;omega)];simp
 ·unfold Yp;rw [decide_eq_false (p:=1<=t.M/\_) (by simp at a6;omega)];simp
 ·refine ⟨t.ins,rfl,rfl,⟨ht.n,ht.ins⟩,fun b1=>h2 ?_,fun b1=>⟨t.outs,rfl,⟨ht.m,ht.outs⟩,fun b2=>h2 ?_,fun b2=>⟨t.ins,t.outs,rfl,rfl,ht.m,fun b3=>h2 ?_,fun b3=>h0 ?_⟩⟩⟩
  ·have:=U4 (X1 t.N t.ins) t.N
   rw [decide_eq_true b1] at this
   unfold Yp;rw [<-this];simp
  ·have:=U4 (YI t.outs) t.M
   rw [decide_eq_true b2] at this
   unfold Yp;rw [<-this];simp
  ·unfold Yp;simp at b3;simp [b3]
  ·have e1:=U4 (X1 t.N t.ins) t.N
   rw [decide_eq_false b1] at e1
   have e2:=U4 (YI t.outs) t.M
   rw [decide_eq_false b2] at e2
   unfold Yp
   rw [<-e1,<-e2]
   simp at a2 a4 a6 b3
   simp [b3]
   omega
 ·unfold Yp;rw [decide_eq_false (p:=1<=t.M/\_) (by omega)];simp
 ·unfold Yp;rw [decide_eq_false (p:=1<=t.N/\_) (by omega)];simp
 ·unfold Yp;rw [decide_eq_false (p:=0<=t.num/\_) (by omega)];simp
def ckS (A:LI->Int×Int):ZF:=fun args h K=>ZG none h true 20 args fun a=>match a with
 | [.agg l]=>∃t,Z0s l t/\t.Ok/\Z0 (Yp A t) (K (.int .i64 0)) (K (.int .i64 2))
 | _=>False
theorem Ze3 (args:List AV) (h:Z8) (K:AV->Prop) (hl:ckS ZJ args h K):Zd PP 89 args h fun o h'=>∃v,o=.ret v/\h'=h/\K v:=by
 refine Zx.psumm (d:=20) (Zq _ _ _ _ _ hl fun a ha=> ?_)
 split at ha
 ·obtain ⟨t,h1,h2,hK⟩:=ha
  refine ⟨_,(Zx.ev Zhe (Zp8 _ t _ h2 rfl)).conv fun E r hr=>hr.head (fun _ hc=>h1.rel hc) (fun _ hc=>hc),fun _=>rfl, ?_⟩
  rw [Zh] at hK
  split
  ·rename_i h;exact hK.1 h
  ·rename_i h;exact hK.2 (by simpa using h)
 ·exact ha.elim
end Go.Tk
end
section
namespace Go.Tk
open IntKind (i64 u8 u32 u64 wrap)
def Ze4 (k:Nat) (τ:Ren) (y x:Nat):Ren:=match Nat.blt y k with
 | true=>τ
 | false=>match Z8L τ y with
  | some _=>τ
  | none=>(y,x)::τ
mutual
def Zk0 (k:Nat) (τ:Ren):AV->AV->Ren
 | .ptr (some q),v=>match v with|.ptr (some p)=>Ze4 k τ q.blk p.blk|_=>τ
 | .nslice q _ _ _,v=>match v with|.nslice p _ _ _=>Ze4 k τ q.blk p.blk|_=>τ
 | .map (some y),v=>match v with|.map (some x)=>Ze4 k τ y x|_=>τ
 | .yield y,v=>match v with|.yield x=>Ze4 k τ y x|_=>τ
 | .func _ fs cs,v=>match v with|.func _ fs' cs'=>Z3E k (Z3E k τ fs fs') cs cs'|_=>τ
 | .iface _ u,v=>match v with|.iface _ u'=>Zk0 k τ u u'|_=>τ
 | .agg cs,v=>match v with|.agg cs'=>Z3E k τ cs cs'|_=>τ
 | .tuple cs,v=>match v with|.tuple cs'=>Z3E k τ cs cs'|_=>τ
 | _,_=>τ
def Z3E (k:Nat) (τ:Ren):List AV->List AV->Ren
 | [],_=>τ
 | v::r,l=>match l with|v'::r'=>Z3E k (Zk0 k τ v v') r r'|[]=>τ
end
def Zp9 (k:Nat) (τ:Ren):Blk->Blk->Ren
 | .flat cs,B=>match B with|.flat cs'=>Z3E k τ cs cs'|_=>τ
 | .map es,B=>match B with|.map es'=>Z3E k (Z3E k τ (es.map (·.1)) (es'.map (·.1))) (es.map (·.2)) (es'.map (·.2))|_=>τ
 | .pmap es,B=>match B with|.pmap es'=>Z3E k (Z3E k τ (es.map (·.1)) (es'.map (·.1))) (es.map (·.2)) (es'.map (·.2))|_=>τ
 | _,_=>τ
def Zmx (k:Nat) (t:Y2):Y2->Ren->Ren
 | [],τ=>τ
 | (x,v)::r,τ=>Zmx k t r (match ZT t x with|some u=>Zk0 k τ v u|none=>τ)
def Zk1 (k:Nat):List UN->List UN->Ren->Ren
 | .call _ a::r,l,τ=>match l with|.call _ b::r'=>Zk1 k r r' (Z3E k τ a b)|_=>τ
 | .mark y::r,l,τ=>match l with|.mark x::r'=>Zk1 k r r' (Ze4 k τ y x)|_=>τ
 | [],_,τ=>τ
def Zhf (k:Nat) (bs:List (Nat×Blk)):List (Nat×Blk)->Ren->Ren
 | [],τ=>τ
 | (y,B)::r,τ=>Zhf k bs r (match rn k τ y with
  | some x=>match ZZ bs x with|some C=>Zp9 k τ B C|none=>τ
  | none=>τ)
def Zpa (k:Nat) (s₂ s:St):Ren:=Zhf k s.h.bs s₂.h.bs (Zhf k s.h.bs s₂.h.bs (Zhf k s.h.bs s₂.h.bs (Zk1 k s₂.d s.d (Zmx k s.t s₂.t []))))
def QY (k:Nat) (s₂ s:St) (Z:Prop):Prop:=Y9 k (Zpa k s₂ s) s₂ s Z
theorem Vd {k:Nat} {s₂ s:St} {Z:Prop} (hl:QY k s₂ s Z):Z/\Z4g k s s₂:=Ye hl
def ZK (k:Nat) (o:Out) (nx:Nat) (bs:List (Nat×Blk)):KO:=fun o' h=>match o with
 | .ret v=>match o' with
  | .ret u=>QY k ⟨1,[(0,v)],⟨nx,bs⟩,[]⟩ ⟨1,[(0,u)],h,[]⟩ True
  | .panic _=>False
 | .panic v=>match o' with
  | .panic u=>QY k ⟨1,[(0,v)],⟨nx,bs⟩,[]⟩ ⟨1,[(0,u)],h,[]⟩ True
  | .ret _=>False
theorem Spec.evM {G:Za} (hG:G.Ok) {n:Nat} {f:FuncId} {args:List AV} {h0:Z8} {o:Out} {nx:Nat} {bs:List (Nat×Blk)} (h:evF G n f args h0 (ZK h0.next o nx bs)):Spec G.P f args h0 o nx bs:=by
 intro E w rs he hl
 refine (Y5 hG h E w rs he hl).mono ?_
 rintro e w' ⟨E',o',h',hK,hev,hor⟩
 unfold ZK at hK
 cases o with
 | ret v=>
  cases hor with
  | ret u r hr=>
   obtain ⟨E₂,h1,h2⟩:=Z2k rfl hK he hev hr
   exact ⟨E₂,h1,.ret _ _ h2⟩
  | panic u r hr=>simp_all
 | panic v=>
  cases hor with
  | panic u r hr=>
   obtain ⟨E₂,h1,h2⟩:=Z2k rfl hK he hev hr
   exact ⟨E₂,h1,.panic _ _ h2⟩
  | ret u r hr=>simp_all
theorem Spec.pure {P:Program} {f:FuncId} {args:List AV} {v:AV} {nx:Nat} {bs:List (Nat×Blk)} (h:Spec P f args ⟨0,[]⟩ (.ret v) nx bs):Zx P f args v nx bs:=by
 intro E w rs he hl
 refine (h E w rs he hl).mono ?_
 rintro e w' ⟨E',hev,hor⟩
 cases hor with
 | ret v r hr=>grind
theorem Zx.evM {G:Za} (hG:G.Ok) {n:Nat} {f:FuncId} {args:List AV} {v:AV} {nx:Nat} {bs:List (Nat×Blk)} (h:evF G n f args ⟨0,[]⟩ (ZK 0 (.ret v) nx bs)):Zx G.P f args v nx bs:=(Spec.evM hG h).pure
def goM (k:Nat) (S0:St) (C:Prop) (ends:KE->Prop):Nat->St->KE->Prop:=fun k' s X=>match Nat.beq k' k with
 | true=>QY k S0 s (C/\ends X)
 | false=>False
def rdM (k id l:Nat) (S1 En Rn Jn:St) (go ex re jm:Prop):KE:=fun e s=>match e with
 | .normal=>QY k S1 s go
 | .exit x=>(match Nat.beq x id with|true=>QY k En s ex|false=>False)
 | .ret=>QY k Rn s re
 | .goto x=>(match Nat.beq x l with|true=>QY k Jn s jm|false=>False)
 | .panic _=>False
theorem Za.withGoM {G:Za} (hG:G.Ok) {f:FuncId} {id k N n l:Nat} {S En Rn Jn:Nat->St} {S0:St} {C:Prop} {go ex re jm:Nat->Prop} (h1:VX G.P f id=true) (hC:C->S 0=S0/\
   ∀i,i<=n->(∀j,j<i->go j)->ZL G N f id k (S i) (rdM k id l (S (i+1)) (En i) (Rn i) (Jn i) (go i/\i<n) (ex i) (re i) (jm i))):
  (G.withL f id (goM k S0 C (YB id n l go ex re jm En Rn Jn))).Ok:=by
 refine Za.withL_ok hG h1 ?_
 intro k' s X hl
 unfold goM at hl
 split at hl
 ·rename_i hk
  have:=J0 hk
  subst this
  obtain ⟨⟨hc,hX⟩,hw⟩:=Vd hl
  obtain ⟨e0,hr⟩:=hC hc
  refine ⟨{ t:Nat//t<=n/\∀j,j<t->go j},fun t=>n-t.1,fun t=>S t.1,⟨0,JB _,fun j hj=>by omega⟩,N,by simp_all, ?_⟩
  rintro ⟨t,ht,hgo⟩
  refine ⟨_,hr t ht hgo, ?_⟩
  intro e s' hY
  unfold rdM at hY
  split at hY
  ·obtain ⟨⟨hg,hlt⟩,hw'⟩:=Vd hY
   refine ⟨⟨t+1,hlt,fun j hj=> ?_⟩,by show n-(t+1)<n-t;omega,hw'⟩
   grind
  ·split at hY
   ·rename_i hi
    have:=J0 hi
    subst this
    obtain ⟨hex,hw'⟩:=Vd hY
    exact ⟨_,hw',(hX t ht hgo).1 hex⟩
   simp_all
  ·obtain ⟨hre,hw'⟩:=Vd hY
   exact ⟨_,hw',(hX t ht hgo).2.1 hre⟩
  ·split at hY
   ·rename_i hi
    have:=J0 hi
    subst this
    obtain ⟨hjm,hw'⟩:=Vd hY
    exact ⟨_,hw',(hX t ht hgo).2.2 hjm⟩
   ·exact hY.elim
  ·exact hY.elim
 ·exact hl.elim
end Go.Tk
namespace Go.Tk
open IntKind (i64 u8 u32 u64 wrap)
theorem Za.withL_join {G H:Za} (hG:G.Ok) (hP:G.P=H.P) {f:FuncId} {id:Nat} {S:Nat->St->KE->Prop} (h:(H.withL f id S).Ok):(G.withL f id S).Ok where
 draw:=hG.draw
 psumm:=hG.psumm
 fsumm:=hG.fsumm
 lsumm:=fun f' id' S' fn c body hS hf hb hm k s X hs=>by
  simp only [Za.withL] at hS
  split at hS
  ·have:=h.lsumm f' id' S' fn c body
   simp_all [Za.withL]
  ·exact hG.lsumm f' id' S' fn c body hS hf hb hm k s X hs
end Go.Tk
end
section
namespace Go.Tk
open IntKind (i64 u8 u32 u64 wrap)
variable {args:List AV} {R:AV->Prop}
def b8 (n k:Int):Int:=u8.wrap (Zw .i64 n k)
@[irreducible] def Zt (n:Int):LI:=
 if n<253 then [u8.wrap n] else if n<65536 then [253,b8 n 8,b8 n 0] else if n<4294967296 then [254,b8 n 24,b8 n 16,b8 n 8,b8 n 0]
 else [255,b8 n 56,b8 n 48,b8 n 40,b8 n 32,b8 n 24,b8 n 16,b8 n 8,b8 n 0]
theorem Y1 (n:Int):1<=(Zt n).length/\(Zt n).length<=9:=by
 unfold Zt
 split
 ·simp
 ·split
  ·simp
  ·split<;>simp
theorem Zap {n:Int} (h:n<253):Zt n=[u8.wrap n]:=by unfold Zt;rw [if_pos h]
theorem Ze5 {n:Int} (h:¬n<253) (h2:n<65536):Zt n=[253,b8 n 8,b8 n 0]:=by unfold Zt;rw [if_neg h,if_pos h2]
theorem Ze6 {n:Int} (h:¬n<253) (h2:¬n<65536) (h3:n<4294967296):Zt n=[254,b8 n 24,b8 n 16,b8 n 8,b8 n 0]:=by unfold Zt;rw [if_neg h,if_neg h2,if_pos h3]
theorem Ze7 {n:Int} (h:¬n<253) (h2:¬n<65536) (h3:¬n<4294967296):Zt n=[255,b8 n 56,b8 n 48,b8 n 40,b8 n 32,b8 n 24,b8 n 16,b8 n 8,b8 n 0]:=by unfold Zt;rw [if_neg h,if_neg h2,if_neg h3]
theorem Zmy (xs ys:LI) (N L s lo:Nat) (n:Int) (hN:xs.length=N) (hB:N<90000000000000) (hy:ys=Zt n) (hL:L=(xs++ys).length):
  evF G0 20 118 [.nslice ⟨0,0,s,0,0⟩ 1 N lo,.int .i64 n] ⟨1,[(0,.ints .u8 xs)]⟩ (ZK 1 (.ret (.nslice ⟨1,0,0,0,0⟩ 1 L L)) 2 [(1,.ints .u8 (xs++ys))]):=by
 refine @Eq.mpr _ (let b:=decide (u8=u8/\xs.length=N);let K:=xs++[wrap u8 n];let m:=K.length;let a:=xs++ys;let y:=xs++[(253:Int)];let e:=y.length;let d:=[wrap u8 (Zw i64 n 8)];let x:=y++d;let c:=x.length;let w:=[wrap u8 (Zw i64 n 0)];let S:=x++w;let v:=S.length;let R:=xs++[(254:Int)];let u:=R.length;let Q:=[wrap u8 (Zw i64 n 24)];let P:=R++Q;let t:=P.length;let O:=[wrap u8 (Zw i64 n 16)];let M:=P++O;let s:=M.length;let J:=M++d;let r:=J.length;let I:=J++w;let q:=I.length;let H:=xs++[(255:Int)];let p:=H.length;let G:=H++[wrap u8 (Zw i64 n 56)];let o:=G.length;let F:=G++[wrap u8 (Zw i64 n 48)];let l:=F.length;let E:=F++[wrap u8 (Zw i64 n 40)];let k:=E.length;let D:=E++[wrap u8 (Zw i64 n 32)];let j:=D.length;let C:=D++Q;let i:=C.length;let B:=C++O;let h:=B.length;let A:=B++d;let g:=A.length;let z:=A++w;let f:=z.length;
 Z0 (decide (n<253)) (Z0 b (Z0 (decide (m*1<=140737488355328)) (Z0 (decide (m=L)) (Z0 (decide (L<=m)) (K=a/\True) False) False) False) False)
 (Z0 (decide (n<65536)) (Z0 b (Z0 (decide (e*1<=140737488355328)) (Z0 (decide (u8=u8/\e=e)) (Z0 (decide (c*1<=140737488355328)) (Z0 (decide (u8=u8/\c=c)) (Z0 (decide (v*1<=140737488355328)) (Z0 (decide (v=L)) (Z0 (decide (L<=v)) (S=a/\True) False) False) False) False) False) False) False) False)
 (Z0 (decide (n<4294967296)) (Z0 b (Z0 (decide (u*1<=140737488355328)) (Z0 (decide (u8=u8/\u=u)) (Z0 (decide (t*1<=140737488355328)) (Z0 (decide (u8=u8/\t=t)) (Z0 (decide (s*1<=140737488355328)) (Z0 (decide (u8=u8/\s=s)) (Z0 (decide (r*1<=140737488355328)) (Z0 (decide (u8=u8/\r=r)) (Z0 (decide (q*1<=140737488355328)) (Z0 (decide (q=L)) (Z0 (decide (L<=q)) (I=a/\True) False) False) False) False) False) False) False) False) False) False) False) False)
 (Z0 b
 (Z0 (decide (p*1<=140737488355328))
 (Z0 (decide (u8=u8/\p=p)) (Z0 (decide (o*1<=140737488355328)) (Z0 (decide (u8=u8/\o=o)) (Z0 (decide (l*1<=140737488355328)) (Z0 (decide (u8=u8/\l=l)) (Z0 (decide (k*1<=140737488355328)) (Z0 (decide (u8=u8/\k=k)) (Z0 (decide (j*1<=140737488355328)) (Z0 (decide (u8=u8/\j=j)) (Z0 (decide (i*1<=140737488355328)) (Z0 (decide (u8=u8/\i=i)) (Z0 (decide (h*1<=140737488355328)) (Z0 (decide (u8=u8/\h=h)) (Z0 (decide (g*1<=140737488355328)) (Z0 (decide (u8=u8/\g=g)) (Z0 (decide (f*1<=140737488355328)) (Z0 (decide (f=L)) (Z0 (decide (L<=f)) (z=a/\True) False) False) False) False) False) False) False) False) False) False) False) False) False) False) False) False) False) False) False)
 False)))) (by kernel_rfl) ?_
 conv=>zeta
 try simp only [Zc]
 try simp only [Zg]
 try simp only [Zh]
 try simp only [and_true]
 subst hy hL hN
 refine ⟨fun h1=> ?_,fun h1=>⟨fun h2=> ?_,fun h2=>⟨fun h3=> ?_,fun h3=> ?_⟩⟩⟩
 ·rw [Zap h1]
  simp only [J9,Jl,JD]
  and_intros<;>first|trivial|omega
 ·rw [Ze5 h1 h2]
  simp only [J9,Jl,JD]
  and_intros<;>first|omega|simp [b8]
 ·rw [Ze6 h1 h2 h3]
  simp only [J9,Jl,JD]
  and_intros<;>first|omega|simp [b8]
 ·rw [Ze7 h1 h2 h3]
  simp only [J9,Jl,JD]
  and_intros<;>first|omega|simp [b8]
theorem Zmz (ys:LI) (L:Nat) (n:Int) (hy:ys=Zt n) (hL:L=ys.length):
  evF G0 20 118 [.nilslice,.int .i64 n] ⟨0,[]⟩ (ZK 0 (.ret (.nslice ⟨0,0,0,0,0⟩ 1 L L)) 1 [(0,.ints .u8 ys)]):=by
 refine @Eq.mpr _ (let b:=[wrap u8 (Zw i64 n 8),wrap u8 (Zw i64 n 0)];let a:=wrap u8 (Zw i64 n 24)::wrap u8 (Zw i64 n 16)::b;
 Z0 (decide (n<253)) (Z0 (decide (1=L)) (Z0 (decide (L<=1)) ([wrap u8 n]=ys/\True) False) False) (Z0 (decide (n<65536)) (Z0 (decide (3=L)) (Z0 (decide (L<=3)) ((253:Int)::b=ys/\True) False) False) (Z0 (decide (n<4294967296)) (Z0 (decide (5=L)) (Z0 (decide (L<=5)) ((254:Int)::a=ys/\True) False) False) (Z0 (decide (9=L)) (Z0 (decide (L<=9)) ((255:Int)::wrap u8 (Zw i64 n 56)::wrap u8 (Zw i64 n 48)::wrap u8 (Zw i64 n 40)::wrap u8 (Zw i64 n 32)::a=ys/\True) False) False)))) (by kernel_rfl) ?_
 conv=>zeta
 try simp only [Zc]
 try simp only [Zg]
 try simp only [Zh]
 try simp only [and_true]
 simp_all [Zap,Ze5,b8,Ze6,Ze7]
def Zk2 (W:Int->LI):ZQ:=fun args h K=>match args with
 | [.nslice ⟨b,0,_,0,0⟩ 1 _ _,.int .i64 _]=>frA [b] h 20 args fun Bs a=>match Bs,a with
  | [.ints .u8 xs],[.nslice ⟨0,0,_,0,0⟩ 1 len _,.int .i64 n]=>Z6 (xs.length=len/\len<90000000000000) (K (.ret (.nslice ⟨h.next,0,0,0,0⟩ 1 (xs++W n).length (xs++W n).length)) ⟨h.next+1,(h.next,.ints .u8 (xs++W n))::Yc h.bs b⟩)
  | _,_=>False
 | [.nilslice,.int .i64 n]=>K (.ret (.nslice ⟨h.next,0,0,0,0⟩ 1 (W n).length (W n).length)) ⟨h.next+1,(h.next,.ints .u8 (W n))::h.bs⟩
 | _=>False
theorem Zhg (args:List AV) (h:Z8) (K:KO) (hl:Zk2 Zt args h K):Zd PP 118 args h K:=by
 unfold Zk2 at hl
 split at hl
 ·refine Spec.fsumm hl fun Bs a hlen hK0=> ?_
  split at hK0
  ·obtain ⟨⟨h1,h2⟩,hK⟩:=Zf hK0
   exact ⟨_,_,_,_,_,.evM Zr (Zmy _ _ _ _ _ _ _ h1 h2 rfl rfl),by simp,.ret _ _ rfl,.cons _ _ _ _ _ _ rfl (.ints _ _) .nil,hK⟩
  simp_all
 ·exact (Zx.evM Zr (Zmz _ _ _ rfl rfl)).calls (fun E w rs he hr=>by
   cases hr with
   | cons v r vs rs h1 h2=>cases h2 with
    | cons v r vs rs h2 h3=>cases h3;exact .cons _ _ _ _ (h1.plain rfl) (.cons _ _ _ _ (h2.plain rfl) .nil)) rfl ⟨JC,.ints _ _,trivial⟩ hl
 simp_all
theorem Ze8 (x:Int) (xs:LI) (N:Nat) (hN:(x::xs).length=N) (hB:N<90000000000000):
  evF G0 20 119 [.vints .u8 (x::xs) N] ⟨0,[]⟩ (ZK 0 (.ret (.nslice ⟨0,0,0,0,0⟩ 1 N N)) 1 [(0,.ints .u8 (x::xs))]):=by
 refine @Eq.mpr _ (let b:=[]++List.take N (x::xs);let a:=b.length;
 Z0 (decide (a*1<=140737488355328)) (Z0 (decide (a=N)) (Z0 (decide (N<=a)) (b=x::xs/\True) False) False) False) (by kernel_rfl) ?_
 conv=>zeta
 try simp only [Zc]
 try simp only [Zl]
 try simp only [Zg]
 try simp only [Zm]
 try simp only [Zn]
 try simp only [Zh]
 try simp only [and_true]
 subst hN
 simp only [Kg,Jv]
 and_intros<;>first|trivial|omega
theorem Ze9 (u:Unit) :
  evF G0 20 119 [.nilslice] ⟨0,[]⟩ (ZK 0 (.ret (.nslice ⟨0,0,0,0,0⟩ 1 0 0)) 1 [(0,.ints .u8 [])]):=by
 refine @Eq.mpr _ (([]:LI)=[]/\True) (by kernel_rfl) ?_
 trivial
theorem Zea (u:Unit) :
  evF G0 20 119 [.fslice] ⟨0,[]⟩ (ZK 0 (.ret (.nslice ⟨0,0,0,0,0⟩ 1 0 0)) 1 [(0,.ints .u8 [])]):=by
 refine @Eq.mpr _ (([]:LI)=[]/\True) (by kernel_rfl) ?_
 trivial
theorem Z7n (xs:LI) (N:Nat) (hN:xs.length=N) (hB:N<90000000000000):Zx PP 119 [.vints .u8 xs N] (.nslice ⟨0,0,0,0,0⟩ 1 N N) 1 [(0,.ints .u8 xs)]:=by
 cases xs with
 | nil=>subst hN;exact Zx.vints0 (.evM Zr (Ze9 ())) (.evM Zr (Zea ()))
 | cons x r=>exact .evM Zr (Ze8 x r N hN hB)
def Z0Z:ZQ:=fun args h K=>ZG none h true 20 args fun a=>match a with
 | [.vints .u8 xs n]=>Z6 (xs.length=n/\n<90000000000000) (K (.ret (.nslice ⟨h.next,0,0,0,0⟩ 1 n n)) ⟨h.next+1,(h.next,.ints .u8 xs)::h.bs⟩)
 | _=>False
theorem Z0t (args:List AV) (h:Z8) (K:KO) (hl:Z0Z args h K):Zd PP 119 args h K:=by
 refine Zx.fsumm (d:=20) (Zq _ _ _ _ _ hl fun a ha=> ?_)
 split at ha
 ·obtain ⟨⟨h1,h2⟩,hK⟩:=Zf ha
  exact ⟨_,_,_,_,Z7n _ _ h1 h2,rfl,⟨JC,.ints _ _,trivial⟩,hK⟩
 simp_all
theorem Spec.conv {P:Program} {f:FuncId} {args₀:List AV} {h0:Z8} {o:Out} {nx:Nat} {bs:List (Nat×Blk)} (h:Spec P f args₀ h0 o nx bs) (hc:∀E r,ZH E args r->ZH E args₀ r):Spec P f args h0 o nx bs:=
 fun E w rs he hr=>h E w rs he (hc E rs hr)
noncomputable def Zeb (W:Int->LI):Za:=G0.withF 118 (Zk2 W)
theorem Z10:(Zeb Zt).Ok:=Za.withF_ok Zr Zhg
theorem Zec (W:Int->LI) (T:Int) (xs ys:LI) (N L lo:Nat) (n:Int) (hT:T=4611686018427387904) (hN:xs.length=N) (hB:N<90000000000000) (hn:0<=n/\n<=T) (hy:ys=xs++W n) (hL:L=ys.length):
  evF (Zeb W) 20 54 [.ptr (some ⟨0,0,0,0,0⟩),.vints .i64 [n] 1] ⟨2,[(0,.flat [.nslice ⟨1,0,0,0,0⟩ 1 N lo,.bool true]),(1,.ints .u8 xs)]⟩ (ZK 2 (.ret (.int .i64 0)) 3 [(0,.flat [.nslice ⟨2,0,0,0,0⟩ 1 L L,.bool true]),(2,.ints .u8 ys)]):=by
 refine @Eq.mpr _ (let b:=xs++W n;let a:=b.length;
 Z0 (decide (n<0)) False (Z0 (decide (n>4611686018427387904)) False (Z6 (xs.length=N/\N<90000000000000) (Z6 (a=L) (Z6 (L<=a) (b=ys/\True)))))) (by kernel_rfl) ?_
 conv=>zeta
 try simp only [vcA]
 try simp only [vcB]
 try simp only [vcC]
 subst hT hN hy hL
 exact ⟨by omega,by omega,⟨rfl,hB⟩,rfl,J2 _,rfl⟩
theorem Zk3 (W:Int->LI) (T:Int) (xs ys:LI) (N L lo:Nat) (n m:Int) (hT:T=4611686018427387904) (hW:W=Zt) (hN:xs.length=N) (hB:N<80000000000000) (hn:0<=n/\n<=T) (hm:0<=m/\m<=T) (hy:ys=xs++W n++W m) (hL:L=ys.length):
  evF (Zeb W) 20 54 [.ptr (some ⟨0,0,0,0,0⟩),.vints .i64 [n,m] 2] ⟨2,[(0,.flat [.nslice ⟨1,0,0,0,0⟩ 1 N lo,.bool true]),(1,.ints .u8 xs)]⟩ (ZK 2 (.ret (.int .i64 0)) 3 [(0,.flat [.nslice ⟨2,0,0,0,0⟩ 1 L L,.bool true]),(2,.ints .u8 ys)]):=by
 refine @Eq.mpr _ (let d:=xs++W n;let a:=d.length;let c:=d++W m;let b:=c.length;
 Z0 (decide (n<0)) False (Z0 (decide (n>4611686018427387904)) False (Z0 (decide (m<0)) False (Z0 (decide (m>4611686018427387904)) False (Z6 (xs.length=N/\N<90000000000000) (Z6 (a=a/\a<90000000000000) (Z6 (b=L) (Z6 (L<=b) (c=ys/\True))))))))) (by kernel_rfl) ?_
 conv=>zeta
 try simp only [vcA]
 try simp only [vcB]
 try simp only [vcC]
 subst hT hN hy hL hW
 have:=Y1 n
 refine ⟨by omega,by omega,by omega,by omega,⟨rfl,by omega⟩, ?_⟩
 simp only [J9]
 and_intros<;>first|trivial|omega
theorem Zk4 (W:Int->LI) (T:Int) (ys:LI) (L:Nat) (n m:Int) (hT:T=4611686018427387904) (hW:W=Zt) (hn:0<=n/\n<=T) (hm:0<=m/\m<=T) (hy:ys=W n++W m) (hL:L=ys.length):
  evF (Zeb W) 20 54 [.ptr (some ⟨0,0,0,0,0⟩),.vints .i64 [n,m] 2] ⟨1,[(0,.flat [.nilslice,.bool true])]⟩ (ZK 1 (.ret (.int .i64 0)) 2 [(0,.flat [.nslice ⟨1,0,0,0,0⟩ 1 L L,.bool true]),(1,.ints .u8 ys)]):=by
 refine @Eq.mpr _ (let a:=List.length (W n);let c:=W n++W m;let b:=c.length;
 Z0 (decide (n<0)) False (Z0 (decide (n>4611686018427387904)) False (Z0 (decide (m<0)) False (Z0 (decide (m>4611686018427387904)) False (Z6 (a=a/\a<90000000000000) (Z6 (b=L) (Z6 (L<=b) (c=ys/\True)))))))) (by kernel_rfl) ?_
 conv=>zeta
 try simp only [vcA]
 try simp only [vcB]
 try simp only [vcC]
 subst hT hy hL hW
 have:=Y1 n
 refine ⟨by omega,by omega,by omega,by omega, ?_⟩
 simp only [J9]
 and_intros<;>first|trivial|omega
theorem Zaq (xs hh ys:LI) (N L lo:Nat) (hN:xs.length=N) (hB:N<90000000000000) (hq:hh.length=32) (hy:ys=xs++hh) (hL:L=ys.length):
  evF G0 20 55 [.ptr (some ⟨0,0,0,0,0⟩),.vrows 32 1 (fun _=>[.arr .u8 32 hh]) 1] ⟨2,[(0,.flat [.nslice ⟨1,0,0,0,0⟩ 1 N lo,.bool true]),(1,.ints .u8 xs)]⟩ (ZK 2 (.ret (.int .i64 0)) 3 [(0,.flat [.nslice ⟨2,0,0,0,0⟩ 1 L L,.bool true]),(2,.ints .u8 ys)]):=by
 refine @Eq.mpr _ (let b:=xs++hh;let a:=b.length;
 Z6 (u8=u8/\hh.length=32) (Z6 (u8=u8/\xs.length=N) (Z6 (a*1<=140737488355328) (Z6 (a=L) (Z6 (L<=a) (b=ys/\True)))))) (by kernel_rfl) ?_
 conv=>zeta
 try simp only [vcA]
 try simp only [vcB]
 try simp only [vcC]
 subst hN hy hL
 refine ⟨hq,rfl, ?_⟩
 simp only [J9]
 and_intros<;>first|trivial|omega
def Zed (W:Int->LI) (T:Int):ZQ:=fun args h K=>match args with
 | [.ptr (some ⟨w,0,0,0,0⟩),_]=>match h.get w with
  |some (.flat [.nslice ⟨b,0,0,0,0⟩ 1 _ _,.bool true])=>frA [w,b] h 20 args fun Bs a=>match Bs,a with
   | [.flat [.nslice ⟨1,0,0,0,0⟩ 1 N _,.bool true],.ints .u8 xs],[.ptr (some ⟨0,0,0,0,0⟩),.vints .i64 [n] 1]=>
    Z6 (xs.length=N/\N<80000000000000/\0<=n/\n<=T) (K (.ret (.int .i64 0)) ⟨h.next+1,(w,.flat [.nslice ⟨h.next,0,0,0,0⟩ 1 (xs++W n).length (xs++W n).length,.bool true])::(h.next,.ints .u8 (xs++W n))::Yc (Yc h.bs w) b⟩)
   | [.flat [.nslice ⟨1,0,0,0,0⟩ 1 N _,.bool true],.ints .u8 xs],[.ptr (some ⟨0,0,0,0,0⟩),.vints .i64 [n,m] 2]=>
    Z6 (xs.length=N/\N<80000000000000/\(0<=n/\n<=T)/\0<=m/\m<=T) (K (.ret (.int .i64 0)) ⟨h.next+1,(w,.flat [.nslice ⟨h.next,0,0,0,0⟩ 1 (xs++W n++W m).length (xs++W n++W m).length,.bool true])::(h.next,.ints .u8 (xs++W n++W m))::Yc (Yc h.bs w) b⟩)
   | _,_=>False
  | some (.flat [.nilslice,.bool true])=>frA [w] h 20 args fun Bs a=>match Bs,a with
   | [.flat [.nilslice,.bool true]],[.ptr (some ⟨0,0,0,0,0⟩),.vints .i64 [n,m] 2]=>
    Z6 ((0<=n/\n<=T)/\0<=m/\m<=T) (K (.ret (.int .i64 0)) ⟨h.next+1,(w,.flat [.nslice ⟨h.next,0,0,0,0⟩ 1 (W n++W m).length (W n++W m).length,.bool true])::(h.next,.ints .u8 (W n++W m))::Yc h.bs w⟩)
   | _,_=>False
  | _=>False
 | _=>False
theorem Zee (args:List AV) (h:Z8) (K:KO) (hl:Zed Zt 4611686018427387904 args h K):Zd PP 54 args h K:=by
 unfold Zed at hl
 split at hl
 ·split at hl
  ·refine Spec.fsumm hl fun Bs a hlen hK0=> ?_
   split at hK0
   ·obtain ⟨⟨h1,h2,h3⟩,hK⟩:=Zf hK0
    exact ⟨_,_,_,_,_,.evM Z10 (Zec _ _ _ _ _ _ _ _ rfl h1 (by omega) h3 rfl rfl),by simp,.ret _ _ rfl,.cons _ _ _ _ _ _ rfl (.flat _ _ rfl) (.cons _ _ _ _ _ _ rfl (.ints _ _) .nil),hK⟩
   ·obtain ⟨⟨h1,h2,h3,h4⟩,hK⟩:=Zf hK0
    exact ⟨_,_,_,_,_,.evM Z10 (Zk3 _ _ _ _ _ _ _ _ _ rfl rfl h1 h2 h3 h4 rfl rfl),by simp,.ret _ _ rfl,.cons _ _ _ _ _ _ rfl (.flat _ _ rfl) (.cons _ _ _ _ _ _ rfl (.ints _ _) .nil),hK⟩
   ·exact hK0.elim
  ·refine Spec.fsumm hl fun Bs a hlen hK0=> ?_
   split at hK0
   ·obtain ⟨⟨h3,h4⟩,hK⟩:=Zf hK0
    exact ⟨_,_,_,_,_,.evM Z10 (Zk4 _ _ _ _ _ _ rfl rfl h3 h4 rfl rfl),by simp,.ret _ _ rfl,.cons _ _ _ _ _ _ rfl (.flat _ _ rfl) (.cons _ _ _ _ _ _ rfl (.ints _ _) .nil),hK⟩
   ·exact hK0.elim
  ·exact hl.elim
 ·exact hl.elim
def Z98:ZQ:=fun args h K=>match args with
 | [.ptr (some ⟨w,0,0,0,0⟩),_]=>match h.get w with
  |some (.flat [.nslice ⟨b,0,0,0,0⟩ 1 _ _,.bool true])=>frA [w,b] h 20 args fun Bs a=>match Bs,a with
   | [.flat [.nslice ⟨1,0,0,0,0⟩ 1 N _,.bool true],.ints .u8 xs],[.ptr (some ⟨0,0,0,0,0⟩),.vrows 32 1 f 1]=>match f 0 with
    | [.arr .u8 32 hh]=>Z6 (xs.length=N/\N<80000000000000/\hh.length=32) (K (.ret (.int .i64 0)) ⟨h.next+1,(w,.flat [.nslice ⟨h.next,0,0,0,0⟩ 1 (xs++hh).length (xs++hh).length,.bool true])::(h.next,.ints .u8 (xs++hh))::Yc (Yc h.bs w) b⟩)
    | _=>False
   | _,_=>False
  | _=>False
 | _=>False
theorem ZbT (args:List AV) (h:Z8) (K:KO) (hl:Z98 args h K):Zd PP 55 args h K:=by
 unfold Z98 at hl
 split at hl
 ·split at hl
  ·refine Spec.fsumm hl fun Bs a hlen hK0=> ?_
   split at hK0
   ·split at hK0
    case h_2=>exact hK0.elim
    rename_i hh hf
    obtain ⟨⟨h1,h2,h3⟩,hK⟩:=Zf hK0
    refine ⟨_,_,_,_,_,(Spec.evM Zr (Zaq _ hh _ _ _ _ h1 (by omega) h3 rfl rfl)).conv fun E r hr=>hr.head (fun _ hc=>hc) fun _ hc=>hc.head (fun _ hc=>hc.rowsC ?_) fun _ hc=>hc,by simp,.ret _ _ rfl,.cons _ _ _ _ _ _ rfl (.flat _ _ rfl) (.cons _ _ _ _ _ _ rfl (.ints _ _) .nil),hK⟩
    intro i hi
    have:i=0:=by omega
    subst this
    exact hf
   ·exact hK0.elim
  ·exact hl.elim
 ·exact hl.elim
theorem Vv {x:InS} (h:Yh x=true):(1<=x.way/\x.way<=6)/\0<=x.index/\x.index<=23:=by
 simp_all [Yh]
noncomputable def Z99 (W:Int->LI) (T:Int):Za:=(G0.withF 54 (Zed W T)).withF 55 Z98
theorem Zar:(Z99 Zt 4611686018427387904).Ok:=Za.withF_ok (Za.withF_ok Zr Zee) ZbT
def inW (W:Int->LI) (core:Bool) (x:InS):LI:=x.name++W x.index++(match core with
 | true=>[]
 | false=>W x.way++((if x.way=4 then [] else x.tag)++(if x.way=1 then x.also else [])++(if x.way=4\/x.way=5 then x.secret else [])))
def Z3F (W:Int->LI) (o:ZM):LI:=W o.kind++W o.amount++o.owner++(if o.kind=2\/o.kind=4\/o.kind=5 then o.other else [])++(if 3<=o.kind then o.point else [])++(if 4<=o.kind then o.hash else [])
 ++(if 3<=o.kind then W o.delay else [])++(if 4<=o.kind then W o.expiry else [])
def ZbU (t:TxS) (core:Bool) (i:Nat) (xs:LI) (n:Nat):St:=⟨120,[(26,.int .i64 i),(25,.int .i64 t.N),(2,.ptr (some ⟨0,0,0,0,0⟩)),(5,.ptr (some ⟨1,0,0,0,0⟩)),(1,.bool core)],⟨3,[(0,.flat t.c),(1,.flat [.nslice ⟨2,0,0,0,0⟩ 1 n n,.bool true]),(2,.ints .u8 xs)]⟩,[]⟩
def UD (t:TxS) (xs:LI) (n:Nat):St:=⟨120,[(2,.ptr (some ⟨0,0,0,0,0⟩)),(5,.ptr (some ⟨1,0,0,0,0⟩))],⟨3,[(0,.flat t.c),(1,.flat [.nslice ⟨2,0,0,0,0⟩ 1 n n,.bool true]),(2,.ints .u8 xs)]⟩,[]⟩
theorem Zk5 (W:Int->LI) (T:Int) (t:TxS) (i:Nat) (xs ys:LI) (n m:Nat) (Z1 Z2:Prop) (hT:T=4611686018427387904) (ht:t.Ok) (hi:i<=t.N) (hr:∀j,j<t.N->Yh (t.ins j)=true) (hW:W=Zt) (hn:xs.length=n) (hs:n<10000000000000) (hy:ys=xs++inW W true (t.ins i)) (hm:ys.length=m) (h1:i<t.N->Z1) (h2:i=t.N->Z2):
  ZL (Z99 W T) 20 96 0 0 (ZbU t true i xs n) (rdM 0 0 9 (ZbU t true (i+1) ys m) (UD t xs n) (UD t xs n) (UD t xs n) Z1 Z2 False False):=by
 refine @Eq.mpr _ (let f:=t.N;let b:=(↑f:Int);let k:=t.ins (Int.toNat (↑i:Int));let j:=k.name;let h:=xs++j;let e:=h.length;let d:=k.index;let g:=decide (t.num=t.num);let a:=decide (f=f);let s:=Zj t.ins;let r:=s=s;let c:=decide (t.M=t.M);let q:=Zi t.outs;let p:=q=q;let o:=h++W d;let l:=o.length;
 Z0 (decide ((↑i:Int)<b)) (Z0 (decide (0<=(↑i:Int)/\(↑i:Int)<b)) (Z0 (decide (xs.length=n/\n<80000000000000/\j.length=32)) (Z0 (decide (e=e/\e<80000000000000/\0<=d/\d<=T)) (Z0 (decide (wrap i64 ((↑i:Int)+1)=(↑(i+1):Int))) (Z0 (decide (b=b)) (Z0 g (Z0 a (r/\Z0 a (Z0 c (p/\Z0 c (Z0 (decide (l=m)) (Z0 (decide (m<=l)) (o=ys/\Z1) False) False) False) False) False) False) False) False) False) False) False) False) (Z0 g (Z0 a (r/\Z0 a (Z0 c (p/\Z0 c (Z0 (decide (n=n)) (Z0 (decide (n<=n)) (xs=xs/\Z2) False) False) False) False) False) False) False)) (by kernel_rfl) ?_
 conv=>zeta
 try simp only [Zc]
 try simp only [Zl]
 try simp only [Zg]
 try simp only [Zm]
 try simp only [Zn]
 try simp only [Zh]
 try simp only [true_and,J2]
 refine ⟨fun hlt=> ?_,fun hge=>h2 (by omega)⟩
 obtain ⟨⟨w1,w2⟩,w3,w4⟩:=Vv (hr i (by omega))
 obtain ⟨l1,l2,l3,l4⟩:=ht.ins i (by omega)
 have hnn:=ht.n
 have hwr:i64.wrap ((i:Int)+1)=((i+1:Nat):Int):=w64 (by omega)
 unfold inW at hy
 grind
theorem Zk6 (W:Int->LI) (T:Int) (t:TxS) (i:Nat) (xs ys:LI) (n m:Nat) (Z1 Z2:Prop) (hT:T=4611686018427387904) (ht:t.Ok) (hi:i<=t.N) (hr:∀j,j<t.N->Yh (t.ins j)=true) (hW:W=Zt) (hn:xs.length=n) (hs:n<10000000000000) (hy:ys=xs++inW W false (t.ins i)) (hm:ys.length=m) (h1:i<t.N->Z1) (h2:i=t.N->Z2):
  ZL (Z99 W T) 20 96 0 0 (ZbU t false i xs n) (rdM 0 0 9 (ZbU t false (i+1) ys m) (UD t xs n) (UD t xs n) (UD t xs n) Z1 Z2 False False):=by
 refine @Eq.mpr _ (let y:=t.N;let p:=(↑y:Int);let f:=t.ins (Int.toNat (↑i:Int));let B:=f.name;let A:=xs++B;let v:=A.length;let u:=f.index;let z:=A++W u;let s:=z.length;let c:=f.way;let r:=z++W c;let e:=r.length;let L:=f.tag;let x:=decide (e=e/\e<80000000000000/\L.length=32);let q:=r++L;let d:=q.length;let K:=f.also;let l:=decide (wrap i64 ((↑i:Int)+1)=(↑(i+1):Int));let k:=decide (p=p);let j:=decide (t.num=t.num);let b:=decide (y=y);let J:=Zj t.ins;let h:=J=J;let a:=decide (t.M=t.M);let I:=Zi t.outs;let g:=I=I;let H:=q++K;let G:=H.length;let w:=Z0 x (Z0 l (Z0 k (Z0 j (Z0 b (h/\Z0 b (Z0 a (g/\Z0 a (Z0 (decide (d=m)) (Z0 (decide (m<=d)) (q=ys/\Z1) False) False) False) False) False) False) False) False) False) False;let o:=f.secret;let F:=r++o;let E:=F.length;let D:=q++o;let C:=D.length;
 Z0 (decide ((↑i:Int)<p))
 (Z0 (decide (0<=(↑i:Int)/\(↑i:Int)<p))
 (Z0 (decide (xs.length=n/\n<80000000000000/\B.length=32))
 (Z0 (decide (v=v/\v<80000000000000/\0<=u/\u<=T))
 (Z0 (decide (s=s/\s<80000000000000/\0<=c/\c<=T))
 (Z0 (decide (c=c))
 (Z0 (decide (c=1)) (Z0 x (Z0 (decide (d=d/\d<80000000000000/\K.length=32)) (Z0 l (Z0 k (Z0 j (Z0 b (h/\Z0 b (Z0 a (g/\Z0 a (Z0 (decide (G=m)) (Z0 (decide (m<=G)) (H=ys/\Z1) False) False) False) False) False) False) False) False) False) False) False)
 (Z0 (decide (c=2)) w (Z0 (decide (c=3)) w (Z0 (decide (c=4)) (Z0 (decide (e=e/\e<80000000000000/\o.length=32)) (Z0 l (Z0 k (Z0 j (Z0 b (h/\Z0 b (Z0 a (g/\Z0 a (Z0 (decide (E=m)) (Z0 (decide (m<=E)) (F=ys/\Z1) False) False) False) False) False) False) False) False) False) False) (Z0 (decide (c=5)) (Z0 x (Z0 (decide (d=d/\d<80000000000000/\o.length=32)) (Z0 l (Z0 k (Z0 j (Z0 b (h/\Z0 b (Z0 a (g/\Z0 a (Z0 (decide (C=m)) (Z0 (decide (m<=C)) (D=ys/\Z1) False) False) False) False) False) False) False) False) False) False) False) (Z0 (decide (c=6)) w (Z0 l (Z0 k (Z0 j (Z0 b (h/\Z0 b (Z0 a (g/\Z0 a (Z0 (decide (e=m)) (Z0 (decide (m<=e)) (r=ys/\Z1) False) False) False) False) False) False) False) False) False)))))))
 False)
 False)
 False)
 False)
 False)
 (Z0 j (Z0 b (h/\Z0 b (Z0 a (g/\Z0 a (Z0 (decide (n=n)) (Z0 (decide (n<=n)) (xs=xs/\Z2) False) False) False) False) False) False) False)) (by kernel_rfl) ?_
 conv=>zeta
 try simp only [Zc]
 try simp only [Zl]
 try simp only [Zg]
 try simp only [Zm]
 try simp only [Zn]
 try simp only [Zh]
 try simp only [Jk,true_and,J2]
 refine ⟨fun hlt=> ?_,fun hge=>h2 (by omega)⟩
 obtain ⟨⟨w1,w2⟩,w3,w4⟩:=Vv (hr i (by omega))
 obtain ⟨l1,l2,l3,l4⟩:=ht.ins i (by omega)
 have hw:=h1 (by omega)
 have hnn:=ht.n
 have hwr:i64.wrap ((i:Int)+1)=((i+1:Nat):Int):=w64 (by omega)
 have u1:=Y1 (t.ins i).index
 have u2:=Y1 (t.ins i).way
 subst hW hT
 unfold inW at hy
 simp only [J9]
 repeat' (first|(refine Ja ?_ ?_)|intro _)
 all_goals first|omega|trivial|skip
 all_goals first|(rw [hy];simp_all)|(rw [<-hm,hy];simp [*];try omega)
theorem XY {o:ZM} (h:ZP o=true):(1<=o.kind/\o.kind<=5)/\(0<o.amount/\o.amount<=1125899906842624)/\(0<=o.delay/\o.delay<=2147483647)/\0<=o.expiry/\o.expiry<=2147483647:=by
 simp_all [ZP]
def Z7o (t:TxS) (i:Nat) (xs:LI) (n:Nat):St:=⟨120,[(82,.int .i64 i),(81,.int .i64 t.M),(2,.ptr (some ⟨0,0,0,0,0⟩)),(5,.ptr (some ⟨1,0,0,0,0⟩))],⟨3,[(0,.flat t.c),(1,.flat [.nslice ⟨2,0,0,0,0⟩ 1 n n,.bool true]),(2,.ints .u8 xs)]⟩,[]⟩
theorem Zk7 (W:Int->LI) (T:Int) (t:TxS) (i:Nat) (xs ys:LI) (n m:Nat) (Z1 Z2:Prop) (hT:T=4611686018427387904) (ht:t.Ok) (hi:i<=t.M) (hr:∀j,j<t.M->ZP (t.outs j)=true) (hW:W=Zt) (hn:xs.length=n) (hs:n<10000000000000) (hy:ys=xs++Z3F W (t.outs i)) (hm:ys.length=m) (h1:i<t.M->Z1) (h2:i=t.M->Z2):
  ZL (Z99 W T) 20 96 4 0 (Z7o t i xs n) (rdM 0 4 9 (Z7o t (i+1) ys m) (UD t xs n) (UD t xs n) (UD t xs n) Z1 Z2 False False):=by
 refine @Eq.mpr _ (let D:=t.M;let s:=(↑D:Int);let d:=t.outs (Int.toNat (↑i:Int));let c:=d.kind;let w:=d.amount;let v:=xs++W c++W w;let j:=v.length;let E:=d.owner;let q:=decide (j=j/\j<80000000000000/\E.length=32);let p:=decide (wrap i64 ((↑i:Int)+1)=(↑(i+1):Int));let o:=decide (s=s);let h:=decide (t.num=t.num);let b:=decide (t.N=t.N);let X:=Zj t.ins;let g:=X=X;let a:=decide (D=D);let V:=Zi t.outs;let f:=V=V;let u:=v++E;let e:=u.length;let U:=d.other;let S:=decide (e=e/\e<80000000000000/\U.length=32);let C:=u++U;let l:=C.length;let r:=d.point;let R:=u++r;let B:=R.length;let k:=d.delay;let Q:=W k;let P:=R++Q;let O:=P.length;let L:=C++r;let A:=L.length;let K:=d.hash;let J:=L++K;let z:=J.length;let I:=J++Q;let y:=I.length;let x:=d.expiry;let H:=I++W x;let G:=H.length;let F:=Z0 q (Z0 S (Z0 (decide (l=l/\l<80000000000000/\r.length=32)) (Z0 (decide (A=A/\A<80000000000000/\K.length=32)) (Z0 (decide (z=z/\z<80000000000000/\0<=k/\k<=T)) (Z0 (decide (y=y/\y<80000000000000/\0<=x/\x<=T)) (Z0 p (Z0 o (Z0 h (Z0 b (g/\Z0 b (Z0 a (f/\Z0 a (Z0 (decide (G=m)) (Z0 (decide (m<=G)) (H=ys/\Z1) False) False) False) False) False) False) False) False) False) False) False) False) False) False) False;
 Z0 (decide ((↑i:Int)<s))
 (Z0 (decide (0<=(↑i:Int)/\(↑i:Int)<s))
 (Z0 (decide (xs.length=n/\n<80000000000000/\(0<=c/\c<=T)/\0<=w/\w<=T))
 (Z0 (decide (c=c))
 (Z0 (decide (c=1)) (Z0 q (Z0 p (Z0 o (Z0 h (Z0 b (g/\Z0 b (Z0 a (f/\Z0 a (Z0 (decide (e=m)) (Z0 (decide (m<=e)) (u=ys/\Z1) False) False) False) False) False) False) False) False) False) False)
 (Z0 (decide (c=2)) (Z0 q (Z0 S (Z0 p (Z0 o (Z0 h (Z0 b (g/\Z0 b (Z0 a (f/\Z0 a (Z0 (decide (l=m)) (Z0 (decide (m<=l)) (C=ys/\Z1) False) False) False) False) False) False) False) False) False) False) False) (Z0 (decide (c=3)) (Z0 q (Z0 (decide (e=e/\e<80000000000000/\r.length=32)) (Z0 (decide (B=B/\B<80000000000000/\0<=k/\k<=T)) (Z0 p (Z0 o (Z0 h (Z0 b (g/\Z0 b (Z0 a (f/\Z0 a (Z0 (decide (O=m)) (Z0 (decide (m<=O)) (P=ys/\Z1) False) False) False) False) False) False) False) False) False) False) False) False) (Z0 (decide (c=4)) F (Z0 (decide (c=5)) F (Z0 p (Z0 o (Z0 h (Z0 b (g/\Z0 b (Z0 a (f/\Z0 a (Z0 (decide (j=m)) (Z0 (decide (m<=j)) (v=ys/\Z1) False) False) False) False) False) False) False) False) False))))))
 False)
 False)
 False)
 (Z0 h (Z0 b (g/\Z0 b (Z0 a (f/\Z0 a (Z0 (decide (n=n)) (Z0 (decide (n<=n)) (xs=xs/\Z2) False) False) False) False) False) False) False)) (by kernel_rfl) ?_
 conv=>zeta
 try simp only [Zc]
 try simp only [Zl]
 try simp only [Zg]
 try simp only [Zm]
 try simp only [Zn]
 try simp only [Zh]
 try simp only [Jk,true_and,J2]
 refine ⟨fun hlt=> ?_,fun hge=>h2 (by omega)⟩
 obtain ⟨⟨w1,w2⟩,⟨w3,w4⟩,⟨w5,w6⟩,w7,w8⟩:=XY (hr i (by omega))
 obtain ⟨l1,l2,l3,l4⟩:=ht.outs i (by omega)
 have hw:=h1 (by omega)
 have hnn:=ht.m
 have hwr:i64.wrap ((i:Int)+1)=((i+1:Nat):Int):=w64 (by omega)
 have u1:=Y1 (t.outs i).kind
 have u2:=Y1 (t.outs i).amount
 have u3:=Y1 (t.outs i).delay
 subst hW hT
 unfold Z3F at hy
 simp only [J9]
 repeat' (first|(refine Ja ?_ ?_)|intro _)
 all_goals first|omega|trivial|skip
 all_goals first|(rw [hy];simp_all)|(rw [<-hm,hy];simp [*];try omega)
def QJ (f:Nat->LI):Nat->LI
 | 0=>[]
 | n+1=>QJ f n++f n
theorem Zef {f:Nat->LI} {b:Nat} (h:∀i,(f i).length<=b):∀n,(QJ f n).length<=n*b
 | 0=>by simp [QJ]
 | n+1=>by
  have:=Zef h n
  grind [QJ]
@[irreducible] def YR (W:Int->LI) (t:TxS) (core:Bool) (i:Nat):LI:=W t.num++W t.N++QJ (fun j=>inW W core (t.ins j)) i
@[irreducible] def Yz (W:Int->LI) (t:TxS) (core:Bool) (i:Nat):LI:=YR W t core t.N++W t.M++QJ (fun j=>Z3F W (t.outs j)) i
def Wh (W:Int->LI) (t:TxS) (core:Bool):LI:=Yz W t core t.M
theorem QC (W:Int->LI) (t:TxS) (core:Bool) (i:Nat):YR W t core (i+1)=YR W t core i++inW W core (t.ins i):=by unfold YR;simp [QJ]
theorem Z53 (W:Int->LI) (t:TxS) (core:Bool) (i:Nat):Yz W t core (i+1)=Yz W t core i++Z3F W (t.outs i):=by unfold Yz;simp [QJ]
structure TxS.Fine (t:TxS):Prop where
 ok:t.Ok
 num:0<=t.num/\t.num<=2147483647
 n:t.N<=24
 m:t.M<=24
 ins:∀j,j<t.N->Yh (t.ins j)=true
 outs:∀j,j<t.M->ZP (t.outs j)=true
theorem Z1C {f:Nat->LI} {b:Nat}:∀n,(∀i,i<n->(f i).length<=b)->(QJ f n).length<=n*b
 | 0,_=>by simp [QJ]
 | n+1,h=>by
  have:=Z1C n (fun i hi=>h i (by omega))
  grind [QJ]
theorem Zhh {core:Bool} {x:InS} (h:x.Ok):(inW Zt core x).length<=200:=by
 obtain ⟨l1,l2,l3,l4⟩:=h
 have u1:=Y1 x.index
 have u2:=Y1 x.way
 unfold inW
 grind
theorem Zeg {x:ZM} (h:x.Ok):(Z3F Zt x).length<=200:=by
 obtain ⟨l1,l2,l3,l4⟩:=h
 have u1:=Y1 x.kind
 have u2:=Y1 x.amount
 have u3:=Y1 x.delay
 have u4:=Y1 x.expiry
 unfold Z3F
 simp only [J9]
 grind
theorem Qb {t:TxS} (h:t.Fine) (core:Bool) {i:Nat} (hi:i<=t.N):(YR Zt t core i).length<=10000:=by
 have h1:=Y1 t.num
 have h2:=Y1 t.N
 have h3:=Z1C (f:=fun j=>inW Zt core (t.ins j)) (b:=200) i (fun j hj=>Zhh (h.ok.ins j (by omega)))
 have:=h.n
 grind [YR]
theorem Wv {t:TxS} (h:t.Fine) (core:Bool) {i:Nat} (hi:i<=t.M):(Yz Zt t core i).length<=20000:=by
 have h1:=Qb h core (J2 t.N)
 have h2:=Y1 t.M
 have h3:=Z1C (f:=fun j=>Z3F Zt (t.outs j)) (b:=200) i (fun j hj=>Zeg (h.ok.outs j (by omega)))
 have:=h.m
 grind [Yz]
noncomputable def Zk8 (W:Int->LI) (T:Int) (t:TxS) (core:Bool):Za:=
 (Z99 W T).withL 96 0 (goM 0 (ZbU t core 0 (YR W t core 0) (YR W t core 0).length) t.Fine (YB 0 t.N 9 (fun i=>i<t.N) (fun i=>i=t.N) (fun _=>False) (fun _=>False) (fun i=>UD t (YR W t core i) (YR W t core i).length) (fun i=>UD t (YR W t core i) (YR W t core i).length) (fun i=>UD t (YR W t core i) (YR W t core i).length)))
noncomputable def Zpb (W:Int->LI) (T:Int) (t:TxS) (core:Bool):Za:=
 (Z99 W T).withL 96 4 (goM 0 (Z7o t 0 (Yz W t core 0) (Yz W t core 0).length) t.Fine (YB 4 t.M 9 (fun i=>i<t.M) (fun i=>i=t.M) (fun _=>False) (fun _=>False) (fun i=>UD t (Yz W t core i) (Yz W t core i).length) (fun i=>UD t (Yz W t core i) (Yz W t core i).length) (fun i=>UD t (Yz W t core i) (Yz W t core i).length)))
theorem Zhi (t:TxS) (core:Bool) (T:Int) (hT:T=4611686018427387904):(Zk8 Zt T t core).Ok:=by
 refine Za.withGoM (N:=20) (S:=fun i=>ZbU t core i (YR Zt t core i) (YR Zt t core i).length) (by subst hT;exact Zar) (by kernel_rfl) fun hC=>⟨rfl,fun i hi hgo=> ?_⟩
 have h1:=Qb hC core hi
 cases core
 ·exact Zk6 Zt T t i (YR Zt t false i) (YR Zt t false (i+1)) _ _ _ _ hT hC.ok hi hC.ins rfl rfl (by omega) (QC _ _ _ _) rfl (fun h=>⟨h,h⟩) (fun h=>h)
 ·exact Zk5 Zt T t i (YR Zt t true i) (YR Zt t true (i+1)) _ _ _ _ hT hC.ok hi hC.ins rfl rfl (by omega) (QC _ _ _ _) rfl (fun h=>⟨h,h⟩) (fun h=>h)
theorem Zhj (t:TxS) (core:Bool) (T:Int) (hT:T=4611686018427387904):(Zpb Zt T t core).Ok:=by
 refine Za.withGoM (N:=20) (S:=fun i=>Z7o t i (Yz Zt t core i) (Yz Zt t core i).length) (by subst hT;exact Zar) (by kernel_rfl) fun hC=>⟨rfl,fun i hi hgo=> ?_⟩
 have h1:=Wv hC core hi
 exact Zk7 Zt T t i (Yz Zt t core i) (Yz Zt t core (i+1)) _ _ _ _ hT hC.ok hi hC.outs rfl rfl (by omega) (Z53 _ _ _ _) rfl (fun h=>⟨h,h⟩) (fun h=>h)
noncomputable def ZmA (W:Int->LI) (T:Int) (t:TxS) (core:Bool):Za:=
 ((Zk8 W T t core).withL 96 4 (goM 0 (Z7o t 0 (Yz W t core 0) (Yz W t core 0).length) t.Fine (YB 4 t.M 9 (fun i=>i<t.M) (fun i=>i=t.M) (fun _=>False) (fun _=>False) (fun i=>UD t (Yz W t core i) (Yz W t core i).length) (fun i=>UD t (Yz W t core i) (Yz W t core i).length) (fun i=>UD t (Yz W t core i) (Yz W t core i).length)))).withF 119 Z0Z
theorem ZmB (W:Int->LI) (T:Int) (t:TxS) (core:Bool) (ys:LI) (L:Nat) (hT:T=4611686018427387904) (hW:W=Zt) (ht:t.Fine) (hy:ys=Wh W t core) (hL:L=ys.length):
  evF (ZmA W T t core) 20 96 [.agg t.c,.bool core] ⟨0,[]⟩ (ZK 0 (.ret (.nslice ⟨0,0,0,0,0⟩ 1 L L)) 1 [(0,.ints .u8 ys)]):=by
 refine @Eq.mpr _ (let f:=t.num;let c:=t.N;let d:=↑c;let r:=decide (f=f);let h:=decide (c=c);let m:=Zj t.ins;let l:=m=m;let b:=t.M;let g:=decide (b=b);let C:=Zi t.outs;let B:=C=C;let A:=W f++W d;let z:=A.length;let y:=YR W t core 0;let x:=y.length;let e:=↑b;let w:=Yz W t core 0;let v:=w.length;let u:=(False->False)/\(False->False);
 Z0 (decide ((0<=f/\f<=T)/\0<=d/\d<=T))
 (Z0 (decide (d=d))
 (Z0 (decide (core=core))
 (Z0 r
 (Z0 h
 (l/\
 Z0 h
 (Z0 g
 (B/\
 Z0 g
 (Z0 (decide (z=x))
 (Z0 (decide (x<=z))
 (A=y/\
 TxS.Fine t/\
 ∀(i:Nat),
 let s:=YR W t core i;let k:=s.length;let q:=s++W e;let p:=q.length;
 i<=c->
 (∀(j:Nat),j<i->(fun (i:Nat)=>i<c) j)->
 (i=c->
 Z0 (decide (k=k/\k<80000000000000/\0<=e/\e<=T))
 (Z0 (decide (e=e))
 (Z0 r
 (Z0 h
 (l/\
 Z0 h
 (Z0 g
 (B/\
 Z0 g
 (Z0 (decide (p=v))
 (Z0 (decide (v<=p))
 (q=w/\
 TxS.Fine t/\
 ∀(i:Nat),
 let o:=Yz W t core i;let a:=o.length;let n:=List.take a (ZV 0 o);
 i<=b->(∀(j:Nat),j<i->(fun (i:Nat)=>i<b) j)->(i=b->Z0 (decide (0+a<=a)) (Z0 (decide (n.length=a/\a<90000000000000)) (Z0 (decide (a=L)) (Z0 (decide (L<=a)) (n=ys/\True) False) False) False) False)/\u)
 False)
 False)
 False)
 False)
 False)
 False)
 False)
 False)
 False)/\
 u)
 False)
 False)
 False)
 False)
 False)
 False)
 False)
 False)
 False)
 False) (by kernel_rfl) ?_
 conv=>zeta
 try simp only [Zc]
 try simp only [Zl]
 try simp only [Zg]
 try simp only [Zm]
 try simp only [Zn]
 try simp only [Zh]
 try simp only [Jf,true_and,and_true,J2]
 subst hT hW hy hL
 have e1:Zt t.num++Zt ↑t.N=YR Zt t core 0:=by unfold YR;simp [QJ]
 have e2:YR Zt t core t.N++Zt ↑t.M=Yz Zt t core 0:=by unfold Yz;simp [QJ]
 have b1:=Qb ht core (J2 t.N)
 have b2:=Wv ht core (J2 t.M)
 have hN:=ht.n
 have hM:=ht.m
 have hq:=ht.num
 rw [e1]
 refine ⟨⟨⟨by omega,by omega⟩,by omega,by omega⟩,rfl,J2 _,rfl,ht,fun i hi _=>⟨fun he=> ?_,fun h=>h.elim,fun h=>h.elim⟩⟩
 subst he
 rw [e2]
 refine ⟨⟨by omega,by omega,by omega⟩,rfl,J2 _,rfl,ht,fun i hi _=>⟨fun he=> ?_,fun h=>h.elim,fun h=>h.elim⟩⟩
 subst he
 rw [Y6,JU,Jv]
 exact ⟨⟨rfl,by omega⟩,rfl,J2 _,rfl⟩
theorem Zhk (t:TxS) (core:Bool) (T:Int) (hT:T=4611686018427387904):(ZmA Zt T t core).Ok:=by
 exact Za.withF_ok (Za.withL_join (G:=Zk8 Zt T t core) (H:=Z99 Zt T) (Zhi t core T hT) rfl (Zhj t core T hT)) Z0t
theorem Zeh (t:TxS) (core:Bool) (ht:t.Fine):Zx PP 96 [.agg t.c,.bool core] (.nslice ⟨0,0,0,0,0⟩ 1 (Wh Zt t core).length (Wh Zt t core).length) 1 [(0,.ints .u8 (Wh Zt t core))]  :=.evM (Zhk t core _ rfl) (ZmB _ _ t core _ _ rfl rfl ht rfl rfl)
def Zei (R:TxS->Bool->LI):ZQ:=fun args h K=>ZG none h true 20 args fun a=>match a with
 | [.agg l,.bool core]=>∃t,Z0s l t/\t.Fine/\K (.ret (.nslice ⟨h.next,0,0,0,0⟩ 1 (R t core).length (R t core).length)) ⟨h.next+1,(h.next,.ints .u8 (R t core))::h.bs⟩
 | _=>False
theorem Zhl (args:List AV) (h:Z8) (K:KO) (hl:Zei (Wh Zt) args h K):Zd PP 96 args h K:=by
 refine Zx.fsumm (d:=20) (Zq _ _ _ _ _ hl fun a ha=> ?_)
 split at ha
 ·obtain ⟨t,h1,h2,hK⟩:=ha
  exact ⟨_,_,_,_,(Zeh t _ h2).conv fun E r hr=>hr.head (fun _ hc=>h1.rel hc) (fun _ hc=>hc),rfl,⟨JC,.ints _ _,trivial⟩,hK⟩
 simp_all
theorem X4 {t:TxS} (ht:t.Ok) (h:Yp ZJ t=true):t.Fine:=by
 unfold Yp at h
 simp only [J3,decide_eq_true_eq,K9] at h
 obtain ⟨⟨⟨⟨⟨h1,h2⟩,h3⟩,h4⟩,h5⟩,_⟩:=h
 refine ⟨ht,h1,by omega,by omega,fun j hj=> ?_,fun j hj=> ?_⟩
 all_goals simp_all [X1,Uq,YI,Z0r]
noncomputable def E19 (A:LI->Int×Int) (H:LI->LI) (T2:LI->LI->LI) (R:TxS->Bool->LI) (B:Nat):Za:=
 ((((G0.withP 89 (ckS A)).withF 96 (Zei R)).withP 95 (ZdL H B)).withP 167 (ZlV T2)).withP 187 (Z97 A)
theorem Zej (B:Nat) (hB:B<100000000000) (h32:32<=B):(E19 ZJ Q6 Q7 (Wh Zt) B).Ok:=
 Za.withP_ok (Za.withP_ok (Za.withP_ok (Za.withF_ok (Za.withP_ok Zr Ze3) Zhl) (ZdN B hB h32)) ZgI) Z52
theorem Zpc (A:LI->Int×Int) (H:LI->LI) (T2:LI->LI->LI) (R:TxS->Bool->LI) (B:Nat) (t:TxS) (hh:LI) (ht:t.Ok) (hc:Yp A t=true) (hA:A=ZJ) (hR:R=Wh Zt) (hB:20000<=B) (hHl:∀x,(H x).length=32) (hH:hh=H (R t true)):
  evF (E19 A H T2 R B) 20 48 [.agg t.c] ⟨0,[]⟩ (ZK 0 (.ret (.tuple [.agg [.arr .u8 32 hh],.int .i64 0])) 0 []):=by
 refine @Eq.mpr _ (let b:=t.N;let a:=t.M;
 ∃(t_1:TxS),
 (t_1.num=t.num/\((b=b/\t_1.N=b)/\∀(i:Nat),i<b->Zj t.ins i=InS.c (t_1.ins i))/\(a=a/\t_1.M=a)/\∀(i:Nat),i<a->Zi t.outs i=ZM.c (t_1.outs i))/\
 TxS.Ok t_1/\
 Z0 (Yp A t_1)
 (∃(t_2:TxS),
 let d:=List.length (R t_2 true);let f:=List.take d (ZV 0 (R t_2 true));let e:=f.length;
 (t_2.num=t.num/\((b=b/\t_2.N=b)/\∀(i:Nat),i<b->Zj t.ins i=InS.c (t_2.ins i))/\(a=a/\t_2.M=a)/\∀(i:Nat),i<a->Zi t.outs i=ZM.c (t_2.outs i))/\TxS.Fine t_2/\Z0 (decide (0+d<=d)) (Z0 (decide (d=e)) (Z0 (decide (e<=B)) (H f=hh/\True) False) False) False)
 (Z5=hh/\False)) (by kernel_rfl) ?_
 conv=>zeta
 try simp only [Zc]
 try simp only [Zl]
 try simp only [Zg]
 try simp only [Zm]
 try simp only [Zn]
 try simp only [Zh]
 try simp only [true_and,and_true]
 refine ⟨t,⟨rfl,⟨rfl,fun _ _=>rfl⟩,rfl,fun _ _=>rfl⟩,ht,fun h=>⟨t,⟨rfl,⟨rfl,fun _ _=>rfl⟩,rfl,fun _ _=>rfl⟩,X4 ht (by simp_all), ?_⟩,fun h=>(by rw [hc] at h;cases h)⟩
 subst hR hA hH
 have hb:=Wv (X4 ht hc) true (J2 t.M)
 have hb':(Wh Zt t true).length<=20000:=hb
 rw [Y6,JU,Jv]
 and_intros<;>first|trivial|omega
theorem ZmC (A:LI->Int×Int) (H:LI->LI) (T2:LI->LI->LI) (R:TxS->Bool->LI) (B:Nat) (t:TxS) (key hh:LI) (ht:t.Ok) (hc:Yp A t=true) (hA:A=ZJ) (hR:R=Wh Zt) (hB:20000<=B) (hHl:∀x,(H x).length=32) (hk:key.length=32) (hH:hh=T2 key (H (R t true))):
  evF (E19 A H T2 R B) 20 83 [.agg t.c,.agg [.arr .u8 32 key]] ⟨0,[]⟩ (ZK 0 (.ret (.tuple [.agg [.arr .u8 32 hh],.int .i64 0])) 0 []):=by
 refine @Eq.mpr _ (let b:=t.N;let a:=t.M;
 ∃(t_1:TxS),
 (t_1.num=t.num/\((b=b/\t_1.N=b)/\∀(i:Nat),i<b->Zj t.ins i=InS.c (t_1.ins i))/\(a=a/\t_1.M=a)/\∀(i:Nat),i<a->Zi t.outs i=ZM.c (t_1.outs i))/\
 TxS.Ok t_1/\
 Z0 (Yp A t_1)
 (∃(t_2:TxS),
 let d:=List.length (R t_2 true);let h:=List.take d (ZV 0 (R t_2 true));let g:=h.length;let f:=H h;let e:=f.length;
 (t_2.num=t.num/\((b=b/\t_2.N=b)/\∀(i:Nat),i<b->Zj t.ins i=InS.c (t_2.ins i))/\(a=a/\t_2.M=a)/\∀(i:Nat),i<a->Zi t.outs i=ZM.c (t_2.outs i))/\TxS.Fine t_2/\Z0 (decide (0+d<=d)) (Z0 (decide (d=g)) (Z0 (decide (g<=B)) (Z0 (decide (key.length=32)) (Z0 (decide (e=32)) (Z0 (decide (32=e)) (Z0 (decide (key.length=32/\e=32)) (T2 key f=hh/\True) False) False) False) False) False) False) False)
 (Z5=hh/\False)) (by kernel_rfl) ?_
 conv=>zeta
 try simp only [Zc]
 try simp only [Zl]
 try simp only [Zg]
 try simp only [Zm]
 try simp only [Zn]
 try simp only [Zh]
 try simp only [true_and,and_true]
 refine ⟨t,⟨rfl,⟨rfl,fun _ _=>rfl⟩,rfl,fun _ _=>rfl⟩,ht,fun h=>⟨t,⟨rfl,⟨rfl,fun _ _=>rfl⟩,rfl,fun _ _=>rfl⟩,X4 ht (by simp_all), ?_⟩,fun h=>(by rw [hc] at h;cases h)⟩
 subst hR hA hH
 have hb:=Wv (X4 ht hc) true (J2 t.M)
 have hb':(Wh Zt t true).length<=20000:=hb
 rw [Y6,JU,Jv]
 have:=hHl (Wh Zt t true)
 and_intros<;>first|trivial|omega
theorem ZmD (A:LI->Int×Int) (H:LI->LI) (T2:LI->LI->LI) (R:TxS->Bool->LI) (B:Nat) (t:TxS) (key:LI) (ht:t.Ok) (hc:Yp A t=false):
  evF (E19 A H T2 R B) 20 83 [.agg t.c,.agg [.arr .u8 32 key]] ⟨0,[]⟩ (ZK 0 (.ret (.tuple [.agg [.arr .u8 32 Z5],.int .i64 2])) 0 []):=by
 refine @Eq.mpr _ (let b:=t.N;let a:=t.M;
 ∃(t_1:TxS),
 (t_1.num=t.num/\((b=b/\t_1.N=b)/\∀(i:Nat),i<b->Zj t.ins i=InS.c (t_1.ins i))/\(a=a/\t_1.M=a)/\∀(i:Nat),i<a->Zi t.outs i=ZM.c (t_1.outs i))/\
 TxS.Ok t_1/\
 Z0 (Yp A t_1)
 (∃(t_2:TxS),
 let d:=List.length (R t_2 true);let h:=List.take d (ZV 0 (R t_2 true));let g:=h.length;let f:=H h;let e:=f.length;
 (t_2.num=t.num/\((b=b/\t_2.N=b)/\∀(i:Nat),i<b->Zj t.ins i=InS.c (t_2.ins i))/\(a=a/\t_2.M=a)/\∀(i:Nat),i<a->Zi t.outs i=ZM.c (t_2.outs i))/\TxS.Fine t_2/\Z0 (decide (0+d<=d)) (Z0 (decide (d=g)) (Z0 (decide (g<=B)) (Z0 (decide (key.length=32)) (Z0 (decide (e=32)) (Z0 (decide (32=e)) (Z0 (decide (key.length=32/\e=32)) (T2 key f=Z5/\False) False) False) False) False) False) False) False)
 (Z5=Z5/\True)) (by kernel_rfl) ?_
 conv=>zeta
 try simp only [Zc]
 try simp only [Zl]
 try simp only [Zg]
 try simp only [Zm]
 try simp only [Zn]
 try simp only [Zh]
 try simp only [true_and,and_true]
 exact ⟨t,⟨rfl,⟨rfl,fun _ _=>rfl⟩,rfl,fun _ _=>rfl⟩,ht,fun h=>(by rw [hc] at h;cases h),fun h=>(by simp_all)⟩
def Zql (A:LI->Int×Int) (Nm:TxS->LI):ZF:=fun args h K=>ZG none h true 20 args fun a=>match a with
 | [.agg l]=>∃t,Z0s l t/\t.Ok/\Z0 (Yp A t) (K (.tuple [.agg [.arr .u8 32 (Nm t)],.int .i64 0])) (K (.tuple [.agg [.arr .u8 32 Z5],.int .i64 2]))
 | _=>False
@[irreducible] def Z1Z (t:TxS):LI:=Q6 (Wh Zt t true)
theorem ZbV (t:TxS):(Z1Z t).length=32:=by unfold Z1Z;exact Z4W _
def Zk9 (A:LI->Int×Int) (Tg:LI->TxS->LI):ZF:=fun args h K=>ZG none h true 20 args fun a=>match a with
 | [.agg l,.agg [.arr .u8 32 key]]=>∃t,Z0s l t/\(t.Ok/\key.length=32)/\Z0 (Yp A t) (K (.tuple [.agg [.arr .u8 32 (Tg key t)],.int .i64 0])) (K (.tuple [.agg [.arr .u8 32 Z5],.int .i64 2]))
 | _=>False
@[irreducible] def ZC (key:LI) (t:TxS):LI:=Q7 key (Q6 (Wh Zt t true))
theorem Xl (k:LI) (t:TxS):(ZC k t).length=32:=by unfold ZC;exact ZbL _ _
theorem ZbW (args:List AV) (h:Z8) (K:AV->Prop) (hl:Zk9 ZJ ZC args h K):Zd PP 83 args h fun o h'=>∃v,o=.ret v/\h'=h/\K v:=by
 refine Zx.psumm (d:=20) (Zq _ _ _ _ _ hl fun a ha=> ?_)
 split at ha
 ·obtain ⟨t,h1,⟨h2,hk⟩,hK⟩:=ha
  rw [Zh] at hK
  cases hc:Yp ZJ t with
  | true=>exact ⟨_,(Zx.evM (Zej 20000 (by decide) (by decide)) (ZmC _ _ _ _ _ t _ _ h2 hc rfl rfl (by decide) Z4W hk rfl)).conv fun E r hr=>hr.head (fun _ hc=>h1.rel hc) (fun _ hc=>hc),fun _=>rfl,by have:=hK.1 hc;unfold ZC at this;exact this⟩
  | false=>exact ⟨_,(Zx.evM (Zej 20000 (by decide) (by decide)) (ZmD _ _ _ _ _ t _ h2 hc)).conv fun E r hr=>hr.head (fun _ hc=>h1.rel hc) (fun _ hc=>hc),fun _=>rfl,hK.2 hc⟩
 simp_all
def Z3G (x y:InS):Bool:=x.name==y.name&&x.index==y.index&&x.way==y.way&&x.tag==y.tag&&x.also==y.also&&x.secret==y.secret
def Qc (x y:ZM):Bool:=x.kind==y.kind&&x.amount==y.amount&&x.owner==y.owner&&x.other==y.other&&x.point==y.point&&x.hash==y.hash&&x.delay==y.delay&&x.expiry==y.expiry
@[irreducible] def Z9a (N:Nat) (g:Nat->InS) (M:Nat) (g2:Nat->InS):Bool:=decide (N=M)&&(List.range N).all fun i=>Z3G (g i) (g2 i)
def Zqn:ZF:=fun args h K=>ZG none h true 20 args fun a=>match a with
 | [x,y]=>∃N g M g2,Z4l x N g/\Z4l y M g2/\(N<900000000000/\(∀i,i<N->(g i).Ok)/\∀i,i<M->(g2 i).Ok)/\K (.bool (Z9a N g M g2))
 | _=>False
@[irreducible] def ZbX (N:Nat) (g:Nat->ZM) (M:Nat) (g2:Nat->ZM):Bool:=decide (N=M)&&(List.range N).all fun i=>Qc (g i) (g2 i)
@[irreducible] def Vw (a b:TxS):Bool:=(a.num==b.num)&&(Z9a a.N a.ins b.N b.ins&&ZbX a.M a.outs b.M b.outs)
def Zek (F:TxS->TxS->Bool):ZF:=fun args h K=>ZG none h true 20 args fun a=>match a with
 | [.agg l,.agg l']=>∃a b,Z0s l a/\Z0s l' b/\(a.Ok/\b.Ok)/\K (.bool (F a b))
 | _=>False
mutual
/-- Without names; views may be. -/
def AV.vplain:AV->Bool
 | .top|.bool _|.int _ _|.str _|.ptr none|.eslice|.fslice|.nilslice|.map none|.nilFunc|.nilIface|.arr _ _ _=>true
 | .vints _ _ _|.vrows _ _ _ _|.pview _ _=>true
 | .agg cs=>WN cs
 | .tuple cs=>WN cs
 | .iface _ v=>v.vplain
 | _=>false
def WN:List AV->Bool
 | []=>true
 | v::r=>v.vplain&&WN r
end
mutual
theorem Zk.vplain {E E':Env} (hi:∀a c,E.imm a c->E'.imm a c):∀(v:AV) (r:Value),v.vplain=true->Zk E v r->Zk E' v r
 | .top,r,_,_=>.top r
 | .bool b,r,_,h=>h.plain rfl
 | .int k n,r,_,h=>h.plain rfl
 | .str s,r,_,h=>h.plain rfl
 | .ptr none,r,_,h=>h.plain rfl
 | .eslice,r,_,h=>h.plain rfl
 | .fslice,r,_,h=>h.plain rfl
 | .nilslice,r,_,h=>h.plain rfl
 | .map none,r,_,h=>h.plain rfl
 | .nilFunc,r,_,h=>h.plain rfl
 | .nilIface,r,_,h=>h.plain rfl
 | .arr k n xs,r,_,h=>h.plain rfl
 | .ptr (some p),r,hp,_=>by simp [AV.vplain] at hp
 | .nslice p a b c,r,hp,_=>by simp [AV.vplain] at hp
 | .map (some x),r,hp,_=>by simp [AV.vplain] at hp
 | .func a b c,r,hp,_=>by simp [AV.vplain] at hp
 | .yield x,r,hp,_=>by simp [AV.vplain] at hp
 | .pview cs inn,r,_,h=>by
  cases h with
  | pview cs inn a vs hc hq=>exact .pview cs inn a vs (Zz.mono (⟨fun _ _ h=>by simp [Env.views] at h,hi⟩:E.views.le E'.views) hc) (fun j c h=>hi _ _ (hq j c h))
 | .vints k xs len,r,_,h=>by
  cases h with
  | vintsNil k xs len h1 h2=>exact .vintsNil k xs len h1 h2
  | vints k xs len a cap h1 h2 hq=>exact .vints k xs len a cap h1 h2 (fun i h=>hi _ _ (hq i h))
 | .vrows esz n f len,r,_,h=>by
  cases h with
  | vrowsNil esz n f len h1 h2=>exact .vrowsNil esz n f len h1 h2
  | vrows esz n f len a cap g h1 h2 hc hl hq=>exact .vrows esz n f len a cap g h1 h2 (fun i h=>Zz.mono (⟨fun _ _ h=>by simp [Env.views] at h,hi⟩:E.views.le E'.views) (hc i h)) hl (fun i j c h h'=>hi _ _ (hq i j c h h'))
 | .iface t v,r,hp,h=>by
  cases h with
  | iface t v x hx=>exact .iface t v x (Zk.vplain hi v x (by simpa [AV.vplain] using hp) hx)
 | .agg cs,r,hp,h=>by
  cases h with
  | agg cs vs hc=>exact .agg cs vs (Zz.vplain hi cs vs (by simpa [AV.vplain] using hp) hc)
 | .tuple cs,r,hp,h=>by
  cases h with
  | tuple _ rs hc=>exact .tuple _ rs (ZH.vplain hi cs rs (by simpa [AV.vplain] using hp) hc)
theorem Zz.vplain {E E':Env} (hi:∀a c,E.imm a c->E'.imm a c):∀(l:List AV) (r:List Value),WN l=true->Zz E l r->Zz E' l r
 | [],r,_,h=>by cases h;exact .nil
 | v::l,r,hp,h=>by
  simp only [WN,J3] at hp
  cases h with
  | one v c vs cs h0 h1 hv t=>exact .one v c _ cs h0 h1 (Zk.vplain hi v c hp.1 hv) (Zz.vplain hi l cs hp.2 t)
  | arr k n xs vs cs t=>exact .arr k n xs _ cs (Zz.vplain hi l cs hp.2 t)
theorem ZH.vplain {E E':Env} (hi:∀a c,E.imm a c->E'.imm a c):∀(l:List AV) (r:List Value),WN l=true->ZH E l r->ZH E' l r
 | [],r,_,h=>by cases h;exact .nil
 | v::l,r,hp,h=>by
  simp only [WN,J3] at hp
  cases h with
  | cons v c vs cs hv t=>exact .cons v c _ cs (Zk.vplain hi v c hp.1 hv) (ZH.vplain hi l cs hp.2 t)
end
def Xr (R:AV->Prop):KO:=fun o _=>match o with
 | .ret u=>(match u.vplain with|true=>R u|false=>False)
 | .panic _=>False
theorem Z0u {P:Program} {f:FuncId} {h:Z8} {K:AV->Prop} (hp:WN args=true) (hc:Zd P f args ⟨0,[]⟩ (Xr R)) (hK:∀u,R u->K u):
  Zd P f args h fun o h'=>∃v,o=.ret v/\h'=h/\K v:=by
 intro E w rs he hr
 have hemb:Emb E.views ⟨0,[]⟩ w:=
  ⟨fun x _=>rfl,fun x B h=>by simp [Z8.get,ZZ] at h,fun x B h=>by simp [Z8.get,ZZ] at h,fun x y B B' b N N' h=>by simp [Z8.get,ZZ] at h,he.imm,fun a c x B N _ h=>by simp [Z8.get,ZZ] at h⟩
 refine (hc E.views w rs hemb (ZH.vplain (E:=E) (E':=E.views) (fun _ _ h=>h) _ _ hp hr)).mono ?_
 rintro e w' ⟨E₁,o,h',hK0,hev,hor⟩
 cases hor with
 | panic u r hr=>exact hK0.elim
 | ret u r hr=>
  unfold Xr at hK0
  simp only at hK0
  split at hK0
  ·rename_i hu
   have hkeep:∀b,b<w.heap.size->w'.heap[b]? =w.heap[b]?:=fun b hb=>hev.keep b hb (fun ⟨x,B,N,hx,_⟩=>by simp [Z8.get,ZZ] at hx)
   have hemb':Emb E h w':=by
    refine ⟨he.fresh,he.lt,fun x B hx=>(he.own x B hx).congr fun b N hb=>hkeep b ((he.own x B hx).lt hb),he.disj,fun a c hi=> ?_,he.sep⟩
    have hcc:=he.imm a c hi
    grind [World.cell?]
   exact ⟨E,.ret u,h,⟨u,rfl,rfl,hK u hK0⟩,⟨.refl E,hemb',hev.size,hev.os,hev.tape,hev.output,fun b hb _=>hkeep b hb,fun b ho=>.inl ho,fun _ _ h=>h⟩,.ret _ _ (Zk.vplain (E:=E₁) (E':=E) (fun a c hi=>hev.imm a c hi) _ _ hu hr)⟩
  simp_all
theorem YD {G:Za} (hG:G.Ok) {n:Nat} {f:FuncId} {h:Z8} {K:AV->Prop} (hp:WN args=true) (hc:evF G n f args ⟨0,[]⟩ (Xr R)) (hK:∀u,R u->K u):
  Zd G.P f args h fun o h'=>∃v,o=.ret v/\h'=h/\K v:=Z0u hp (Y5 hG hc) hK
end Go.Tk
end
section
namespace Go.Tk
open IntKind (i64 u8 u32 u64 wrap)
inductive Ty where
 | bool
 | int (k:IntKind)
 | str
 | arr (k:IntKind) (n:Nat)
 | ints (k:IntKind)
 | rows (esz:Nat) (ts:List Ty)
def Zel (P:Program) (r:TypeId->Option (List Ty)) (sz:Nat):Nat->List Field->Option (List Ty)
 | o,[]=>if o=sz then some [] else none
 | o,f::fs=>if f.offset=o then (r f.type).bind fun a=>(Zel P r sz (o+P.cellsOf f.type) fs).bind fun b=>some (a++b) else none
def Z2a (P:Program):Nat->TypeId->Option (List Ty)
 | 0,_=>none
 | m+1,t=>match P.underlying t with
  | some .bool=>some [.bool]
  | some (.int k)=>some [.int k]
  | some .string=>some [.str]
  | some (.array n e)=>match P.underlying e with
   | some (.int k)=>if P.cellsOf t=n/\P.cellsOf e=1 then some [.arr k n] else none
   | _=>(Z2a P m e).bind fun ts=>if P.cellsOf t=n*P.cellsOf e then some (List.replicate n ts).flatten else none
  | some (.slice e)=>match P.underlying e with
   | some (.int k)=>if P.cellsOf e=1 then some [.ints k] else none
   | _=>(Z2a P m e).bind fun ts=>some [.rows (P.cellsOf e) ts]
  | some (.struct fs)=>Zel P (Z2a P m) (P.cellsOf t) 0 fs.toList
  | _=>none
mutual
inductive Z20:Ty->AV->Prop
 | bool (b:Bool):Z20 .bool (.bool b)
 | int (k:IntKind) (n:Int) (h:(Lit.int k n).wf=true):Z20 (.int k) (.int k n)
 | str (s:ByteArray) (h:s.size<=maxLen):Z20 .str (.str s)
 | arr (k:IntKind) (n:Nat) (xs:LI) (h:xs.length=n) (hw:∀i,i<n->(Lit.int k (xs.getD i 0)).wf=true):Z20 (.arr k n) (.arr k n xs)
 | ints (k:IntKind) (xs:LI) (n:Nat) (h:xs.length=n) (hm:n<=maxLen) (hw:∀i,i<n->(Lit.int k (xs.getD i 0)).wf=true):Z20 (.ints k) (.vints k xs n)
 | rows (esz:Nat) (ts:List Ty) (n:Nat) (f:Nat->List AV) (hm:n<=maxLen) (h:∀i,i<n->Fits ts (f i)):Z20 (.rows esz ts) (.vrows esz n f n)
inductive Fits:List Ty->List AV->Prop
 | nil:Fits [] []
 | cons (t:Ty) (a:AV) (ts:List Ty) (vz:List AV) (h:Z20 t a) (r:Fits ts vz):Fits (t::ts) (a::vz)
end
theorem Fits.append:∀{ts wz:List Ty} {vz bs:List AV},Fits ts vz->Fits wz bs->Fits (ts++wz) (vz++bs)
 | _,_,_,_,.nil,h=>h
 | _,_,_,_,.cons t a ts vz h r,k=>.cons t a _ _ h (Fits.append r k)
def tE (w:World):Env:=⟨fun _=>none,fun a c=>w.cell? a=some c⟩
section
variable {H:Type} {enc:TypeId×Value->H} {P:Program} {w:World} {sp:Nat->Bool} {held:Bool}
theorem QZ {k:IntKind} {n:Nat} {cs:List Value} (hl:cs.length=n) (h:∀i,i<n->∃z,cs[i]? =some (.int k z)/\(Lit.int k z).wf=true):
  ∃xs:LI,xs.length=n/\(∀i,i<n->(Lit.int k (xs.getD i 0)).wf=true)/\∀i,i<n->cs[i]? =some (.int k (xs.getD i 0)):=by
 refine ⟨cs.map fun v=>match v with|.int _ z=>z|_=>0,by simp [hl],fun i hi=> ?_,fun i hi=> ?_⟩
 all_goals grind
theorem Zhm {α β:Type} {n:Nat} {p:Nat->α->β->Prop} [Inhabited α] [Inhabited β] (h:∀i,i<n->∃a b,p i a b):∃(f:Nat->α) (g:Nat->β),∀i,i<n->p i (f i) (g i):=
 ⟨fun i=>if hi:i<n then Classical.choose (h i hi) else default,fun i=>if hi:i<n then Classical.choose (Classical.choose_spec (h i hi)) else default,fun i hi=>by
  grind⟩
theorem Z2n:∀(m:Nat) (t:TypeId) (ts:List Ty),Z2a P m t=some ts->∀(fuel:Nat) (cs:List Value) (x:DataW H×List MemPlace),DataW.trod enc P w 0 sp held fuel t cs=some x->∃vz,Fits ts vz/\Zz (tE w) vz cs
 | 0,_,_,ht=>by simp [Z2a] at ht
 | m+1,t,ts,ht=>by
  intro fuel cs x hx
  unfold Z2a at ht
  split at ht
  ·rename_i hu
   cases ht
   obtain ⟨b,rfl,_⟩:=DataW.trod_bool hu hx
   exact ⟨[.bool b],.cons _ _ _ _ (.bool b) .nil,.one _ _ _ _ rfl rfl (.bool b) .nil⟩
  ·rename_i k hu
   cases ht
   obtain ⟨n,rfl,_,hw⟩:=DataW.trod_int hu hx
   exact ⟨[.int k n],.cons _ _ _ _ (.int k n hw) .nil,.one _ _ _ _ rfl rfl (.int k n) .nil⟩
  ·rename_i hu
   cases ht
   obtain ⟨s,rfl,_,hw⟩:=DataW.trod_string hu hx
   exact ⟨[.str s],.cons _ _ _ _ (.str s hw) .nil,.one _ _ _ _ rfl rfl (.str s) .nil⟩
  ·rename_i n e hu
   split at ht
   ·rename_i k he
    split at ht
    ·rename_i hc
     obtain ⟨hc,h1⟩:=hc
     cases ht
     obtain ⟨xs,q,rfl,rfl,hl,hn,hi⟩:=DataW.trod_array hu hx
     rw [hc] at hl
     obtain ⟨zs,z1,z2,z3⟩:=QZ (k:=k) hl fun i hlt=>by
      have:=hi i hlt
      rw [Jd (by omega),h1] at this
      obtain ⟨z,e1,_,e2⟩:=DataW.trod_int he this
      refine ⟨z, ?_,e2⟩
      rw [JR] at e1
      have:=congrArg (fun l=>l[0]?) e1
      grind
     refine ⟨[.arr k n zs],.cons _ _ _ _ (.arr k n zs z1 z2) .nil, ?_⟩
     have:cs=intCells k n zs++[]:=by
      rw [JN]
      refine Kk fun i=> ?_
      grind [intCells]
     rw [this]
     exact .arr _ _ _ _ _ .nil
    ·cases ht
   ·obtain ⟨es,e1,e2⟩:=Jr.1 ht
    split at e2
    ·rename_i hc
     cases e2
     obtain ⟨xs,q,rfl,rfl,hl,hn,hi⟩:=DataW.trod_array hu hx
     rw [hc] at hl
     have key:∀j,j<=n->∃vz,Fits (List.replicate j es).flatten vz/\Zz (tE w) vz (cs.take (j*P.cellsOf e)):=by
      intro j
      induction j with
      | zero=>intro _;exact ⟨[],.nil,by simp;exact .nil⟩
      | succ j ih=>
       intro hj
       obtain ⟨vz,f1,f2⟩:=ih (by omega)
       have:=hi j (by omega)
       rw [Jd (by omega)] at this
       obtain ⟨bs,p1,p2⟩:=Z2n m _ _ e1 _ _ _ this
       refine ⟨vz++bs, ?_, ?_⟩
       ·rw [List.replicate_succ',List.flatten_append,List.flatten_singleton]
        exact f1.append p1
       ·rw [Nat.succ_mul,List.take_add]
        exact f2.append p2
     obtain ⟨vz,f1,f2⟩:=key n (J2 _)
     rw [Ju (by omega)] at f2
     grind
    ·cases e2
  ·rename_i e hu
   split at ht
   ·rename_i k he
    split at ht
    ·rename_i hc
     cases ht
     rcases DataW.trod_slice hu hx with ⟨rfl,_⟩|⟨a,len,cap,elems,rest,n,rfl,rfl,_,_,hl,hm,hlen,hi,_,_⟩
     ·exact ⟨[.vints k [] 0],.cons _ _ _ _ (.ints k [] 0 rfl (JB _) fun i hi=>absurd hi (JS i)) .nil,.one _ _ _ _ rfl rfl (.vintsNil _ _ _ rfl rfl) .nil⟩
     ·obtain ⟨zs,z1,z2,z3⟩:=QZ (k:=k) (n:=len) (cs:=(List.range len).map fun i=>(w.cell? (a.add i)).getD undef) (by simp) fun i hlt=>by
       have:=hi i hlt
       rw [Jd (by omega),hc,JR] at this
       obtain ⟨cs',h1,h2⟩:=Jr.1 this
       grind [DataW.trod_int,Go.ChangeShapes.cell_of_cells?_one]
      refine ⟨[.vints k zs len],.cons _ _ _ _ (.ints k zs len z1 (by omega) z2) .nil,.one _ _ _ _ rfl rfl (.vints k zs len a cap (by omega) (by omega) fun i hlt=> ?_) .nil⟩
      rw [z1] at hlt
      have:=hi i hlt
      rw [Jd (by omega),hc,JR] at this
      obtain ⟨cs',h1,h2⟩:=Jr.1 this
      obtain ⟨z,rfl,_,e2⟩:=DataW.trod_int he h2
      have h3:=z3 i hlt
      have h4:=Go.ChangeShapes.cell_of_cells?_one h1
      simp [hlt,h4] at h3
      show w.cell? (a.add i)=_
      rw [h4,h3,J5]
    ·cases ht
   ·obtain ⟨es,h1,h2⟩:=Jr.1 ht
    cases h2
    rcases DataW.trod_slice hu hx with ⟨rfl,_⟩|⟨a,len,cap,elems,rest,n,rfl,rfl,_,_,hl,hm,hlen,hi,_,_⟩
    ·exact ⟨[.vrows (P.cellsOf e) 0 (fun _=>[]) 0],.cons _ _ _ _ (.rows _ _ 0 _ (JB _) fun i hi=>absurd hi (JS i)) .nil,.one _ _ _ _ rfl rfl (.vrowsNil _ _ _ _ rfl rfl) .nil⟩
    ·obtain ⟨f,g,hfg⟩:=Zhm (n:=len) (p:=fun i (vz:List AV) (vs:List Value)=>Fits es vz/\Zz (tE w) vz vs/\w.cells? 0 (a.add (i*P.cellsOf e)) (P.cellsOf e)=some vs) fun i hlt=>by
      have:=hi i hlt
      rw [Jd (by omega)] at this
      obtain ⟨cs',k1,k2⟩:=Jr.1 this
      obtain ⟨vz,f1,f2⟩:=Z2n m _ _ h1 _ _ _ k2
      exact ⟨vz,cs',f1,f2,k1⟩
     refine ⟨[.vrows (P.cellsOf e) len f len],.cons _ _ _ _ (.rows _ _ len f (by omega) fun i hlt=>(hfg i hlt).1) .nil,.one _ _ _ _ rfl rfl (.vrows _ _ _ _ a cap g (J2 _) hl (fun i hlt=>(hfg i hlt).2.1) (fun i hlt=>(World.cells?_some (hfg i hlt).2.2).2.1) fun i j c hlt hj=> ?_) .nil⟩
     obtain ⟨_,hl',hc'⟩:=World.cells?_some (hfg i hlt).2.2
     have hj':j<P.cellsOf e:=by
      grind
     have:=hc' j hj'
     rw [hj] at this
     show w.cell? (a.add (i*P.cellsOf e+j))=some c
     rw [<-this]
     rw [Addr.add_add]
  ·rename_i fs hu
   obtain ⟨xs,n,rfl,rfl,hl,hn,hf⟩:=DataW.trod_struct hu hx
   have key:∀(l:List Field) (o:Nat) (ts:List Ty) (i0:Nat),Zel P (Z2a P m) (P.cellsOf t) o l=some ts->(∀i f,l[i]? =some f->fs[i0+i]? =some f)->∃vz,Fits ts vz/\Zz (tE w) vz (cs.drop o):=by
    intro l
    induction l with
    | nil=>
     intro o ts i0 h _
     unfold Zel at h
     split at h
     ·cases h
      exact ⟨[],.nil,by rw [JL (by omega)];exact .nil⟩
     ·cases h
    | cons f l ih=>
     intro o ts i0 h hl'
     unfold Zel at h
     split at h
     ·rename_i ho
      obtain ⟨a,h1,h2⟩:=Jr.1 h
      obtain ⟨b,h3,h4⟩:=Jr.1 h2
      cases h4
      have h0:fs[i0]? =some f:=hl' 0 f rfl
      have hlt:i0<fs.size:=by
       grind
      have k:=hf i0 f h0
      rw [Jd (by omega),ho] at k
      obtain ⟨vz,p1,p2⟩:=Z2n m _ _ h1 _ _ _ k
      obtain ⟨bs,q1,q2⟩:=ih (o+P.cellsOf f.type) b (i0+1) h3 fun i g hg=>by
       have:=hl' (i+1) g hg
       grind
      refine ⟨vz++bs,p1.append q1, ?_⟩
      have e:cs.drop o=(cs.drop o).take (P.cellsOf f.type)++cs.drop (o+P.cellsOf f.type):=by
       rw [<-List.drop_drop,List.take_append_drop]
      rw [e]
      exact p2.append q2
     ·cases h
   obtain ⟨vz,h1,h2⟩:=key fs.toList 0 ts 0 ht fun i f h=>by simp_all
   grind
  ·cases ht
def isAgg (P:Program) (t:TypeId):Bool:=match P.underlying t with
 | some (.struct _)|some (.array _ _)=>true
 | _=>false
inductive Z54:Bool->List Ty->AV->Prop
 | agg (ts:List Ty) (vz:List AV) (h:Fits ts vz):Z54 true ts (.agg vz)
 | one (t:Ty) (a:AV) (h:Z20 t a):Z54 false [t] a
theorem Zem {m:Nat} {t:TypeId} {ts:List Ty} (ht:Z2a P m t=some ts) (hg:isAgg P t=false) {v:Value} {r:Reach} {b:Nat} (hv:Value.okWide P w r b t v):
  v.cells.toList=[v]/\∃τ,ts=[τ]/\∀k n,τ≠.arr k n:=by
 cases m with
 | zero=>simp [Z2a] at ht
 | succ m=>
  unfold Z2a at ht
  unfold isAgg at hg
  split at ht
  ·rename_i hu;cases ht;obtain ⟨b,rfl⟩:=Go.WideShapes.okWide_bool hu hv;exact ⟨rfl,_,rfl,fun _ _ h=>by cases h⟩
  ·rename_i hu;cases ht;obtain ⟨b,rfl⟩:=Go.WideShapes.okWide_int hu hv;exact ⟨rfl,_,rfl,fun _ _ h=>by cases h⟩
  ·rename_i hu;cases ht;obtain ⟨b,rfl⟩:=Go.WideShapes.okWide_string hu hv;exact ⟨rfl,_,rfl,fun _ _ h=>by cases h⟩
  ·simp_all
  ·rename_i hu
   obtain ⟨a,l,c,rfl⟩:=Go.WideShapes.okWide_slice hu hv
   split at ht
   ·split at ht
    ·cases ht;exact ⟨rfl,_,rfl,fun _ _ h=>by cases h⟩
    ·cases ht
   ·obtain ⟨es,h1,h2⟩:=Jr.1 ht
    cases h2;exact ⟨rfl,_,rfl,fun _ _ h=>by cases h⟩
  all_goals simp_all
theorem Zen {m:Nat} {t:TypeId} {ts:List Ty} {g:Bool} (ht:Z2a P m t=some ts) (hg:isAgg P t=g) {v:Value} {r:Reach} {b:Nat} (hv:Value.okWide P w r b t v) {d:DataW H} {ps:List MemPlace} (h:DataW.Trod enc P w 0 sp held t v d ps):
  ∃a,Z54 g ts a/\Zk (tE w) a v:=by
 obtain ⟨fuel,hf⟩:=h
 obtain ⟨vz,f1,f2⟩:=Z2n m _ _ ht _ _ _ hf
 cases g with
 | true=>
  have:∃cs,v=.agg cs:=by
   grind [isAgg,Value.okWide]
  obtain ⟨cs,rfl⟩:=this
  refine ⟨.agg vz,.agg _ _ f1, ?_⟩
  exact .agg _ _ f2
 | false=>
  obtain ⟨h1,τ,rfl,h2⟩:=Zem ht hg hv
  rw [h1] at f2
  cases f1 with
  | cons _ a _ vz f r=>
   generalize hL:[v]=L at f2
   cases f2 with
   | one _ _ _ _ h0 h1 h t=>cases hL;exact ⟨_,.one _ _ f,h⟩
   | arr k n xs _ cs t=>cases f;simp_all
end
end Go.Tk
end
section
namespace Go.Tk
open IntKind (i64 u8 u32 u64 wrap)
open Go.ChangeShapes Go.WideShapes Go.RowKit
theorem Zka (w:World):Emb (tE w) ⟨0,[]⟩ w where
 fresh:=fun _ _=>rfl
 lt:=fun x B h=>by simp [Z8.get,ZZ] at h
 own:=fun x B h=>by simp [Z8.get,ZZ] at h
 disj:=fun x y B B' b N N' h=>absurd h (by simp [Z8.get,ZZ])
 imm:=fun _ _ h=>h
 sep:=fun a c x B N _ h=>absurd h (by simp [Z8.get,ZZ])
theorem Zd.topT {P:Program} {f:FuncId} {args:List AV} (h:Zd P f args ⟨0,[]⟩ fun o h'=>∃v,o=.ret v/\h'=⟨0,[]⟩/\v=.bool true) {w:World} {rs:List Value} (hl:ZH (tE w) args rs):
  Calls P f rs.toArray w fun e w'=>e=.returned (.bool true)/\Go.RowKit.Below w.heap.size w w':=by
 refine (h (tE w) w rs (Zka w) hl).mono ?_
 rintro e w' ⟨E',o,h',⟨v,rfl,rfl,hv⟩,hev,hor⟩
 obtain rfl:=hv
 cases hor with
 | ret v r hr=>
  cases hr
  refine ⟨rfl,hev.os,hev.tape,hev.output.1,hev.size,fun k hk=>hev.keep k hk ?_⟩
  rintro ⟨x,B,N,hx,_⟩
  exact absurd hx (by simp [Z8.get,ZZ])
def Z9b (P:Program) (m:Nat):List TypeId->Option (List (Bool×List Ty))
 | []=>some []
 | t::r=>(Z2a P m t).bind fun a=>(Z9b P m r).bind fun b=>some ((isAgg P t,a)::b)
inductive Z55:List (Bool×List Ty)->List AV->Prop
 | nil:Z55 [] []
 | cons (g:Bool) (ts:List Ty) (a:AV) (r:List (Bool×List Ty)) (vz:List AV) (h:Z54 g ts a) (k:Z55 r vz):Z55 ((g,ts)::r) (a::vz)
section
variable {H:Type} {enc:TypeId×Value->H} {P:Program} {w:World}
theorem Z56 {m:Nat} {r:Reach} {b:Nat}:∀{ts:List TypeId} {τs:List (Bool×List Ty)} {vs:List Value} {ds:List (DataW H)} {ps:List MemPlace},Z9b P m ts=some τs->(∀(j:Nat) t v,ts[j]? =some t->vs[j]? =some v->Value.okWide P w r b t v)->
  DataW.TrodAll enc P w 0 (fun _=>true) true ts vs ds ps->∃vz,Z55 τs vz/\ZH (tE w) vz vs
 | [],τs,vs,ds,ps,ha,_,h=>by
  cases ha
  obtain ⟨rfl,_,_⟩:=trodAll_nil h
  exact ⟨[],.nil,.nil⟩
 | t::ts,τs,vs,ds,ps,ha,hv,h=>by
  obtain ⟨a,h1,h2⟩:=Jr.1 ha
  obtain ⟨c,h3,h4⟩:=Jr.1 h2
  cases h4
  obtain ⟨v,vs',d,ds',p,q,rfl,rfl,rfl,k1,k2⟩:=trodAll_cons h
  obtain ⟨x,f1,f2⟩:=Zen h1 rfl (hv 0 t v rfl rfl) k1
  obtain ⟨vz,g1,g2⟩:=Z56 h3 (fun j t' v' e1 e2=>hv (j+1) t' v' e1 e2) k2
  exact ⟨x::vz,.cons _ _ _ _ _ f1 g1,.cons _ _ _ _ f2 g2⟩
theorem Z21 {sp:Nat->Bool} {held:Bool}:∀{ts:List TypeId} {vs:List Value} {ds:List (DataW H)} {ps:List MemPlace},DataW.TrodAll enc P w 0 sp held ts vs ds ps->ds.length=ts.length
 | [],_,_,_,h=>by obtain ⟨_,rfl,_⟩:=trodAll_nil h;rfl
 | t::ts,_,_,_,h=>by
  obtain ⟨v,vs',d,ds',p,q,rfl,rfl,rfl,k1,k2⟩:=trodAll_cons h
  simp [Z21 k2]
theorem Z57 {W':World} (laid:laidOutB P=true) (hb:Below w.heap.size w W'):∀{ts:List TypeId} {vs:List Value} {ds:List (DataW H)} {ps:List MemPlace},ts.all (fun t=>P.readableRec t&&decide (t<P.types.size))=true->
  DataW.TrodAll enc P w 0 (fun _=>true) true ts vs ds ps->DataW.TrodAll enc P W' 0 (fun b=>decide (b<w.heap.size)) true ts vs ds ps
 | [],_,_,_,_,h=>by obtain ⟨rfl,rfl,rfl⟩:=trodAll_nil h;exact trodAll_mk0
 | t::ts,_,_,_,hr,h=>by
  obtain ⟨v,vs',d,ds',p,q,rfl,rfl,rfl,k1,k2⟩:=trodAll_cons h
  simp only [List.all_cons,J3,decide_eq_true_eq] at hr
  have lt:∀x∈p,x.block<w.heap.size:=by obtain ⟨m,hm⟩:=k1;exact DataW.trod_lt m _ _ _ hm
  exact trodAll_cons_mk (Below.trod laid hr.1.1 hr.1.2 k1 hb lt) (Z57 laid hb hr.2 k2)
end
theorem lifted_gen {H:Type} {enc:TypeId×Value->H} {C:Checked} {os:Os} {f:FuncId} {fn:Func} {s:ChangeSpec} {conds:List PathCond} {tb:TypeId} {m:Nat} {τs:List (Bool×List Ty)}
  (own:ownKnob C.prog.godebug=none) (laid:laidOutB C.prog=true) (started:os.Started) (noInit:C.prog.inits.idxOf? f=none) (hfn:C.prog.funcs[f]? =some fn)
  (witness:∃(w:World) (tape:Tape) (i:Input),w.os=os/\(w.forCall tape i).Shaped C.prog/\i.vars=[]/\Input.okWide C.prog (w.forCall tape i) .any w.heap.size f i/\
   s.pre6 enc C.prog fn conds false (w.forCall tape i).memory i.args/\({}:Assume).holds C.prog (lone (Frame.enter C.prog f i.args .normal) [] (w.forCall tape i)))
  (hvars:s.vars=[]) (hr:fn.resultTypes= #[tb]) (hb:C.prog.underlying tb=some .bool) (hread:fn.params.toList.all (fun t=>C.prog.readableRec t&&decide (t<C.prog.types.size))=true) (hτ:Z9b C.prog m fn.params.toList=some τs)
  (hs:∀ds:List (DataW H),ds.length=fn.params.toList.length->s.fn H ds={ results:=[.lit (.bool true)],args:=ds})
  (walk:∀vz,Z55 τs vz->Zd C.prog f vz ⟨0,[]⟩ fun o h'=>∃v,o=.ret v/\h'=⟨0,[]⟩/\v=.bool true):
  ReturnsInHanded {} C os f .any (s.pre6 enc C.prog fn conds false) (s.post enc C.prog fn false true false false):=by
 refine returnsInHanded_of_change own started noInit hfn witness ?_
 intro W base args ds gs before hval hW _ _
 have hW':=hW
 obtain ⟨p,q,hA,hV,rfl,hfz,hnd⟩:=hW
 rw [hvars] at hV
 obtain ⟨rfl,rfl⟩:=trodVars_none hV
 obtain ⟨vz,f1,f2⟩:=Z56 hτ (fun j t v e1 e2=>hval j t v (by simp_all) (by simp_all)) hA
 have key:=(walk vz f1).topT f2
 refine key.mono fun e W' ⟨he,bel⟩=> ?_
 subst he
 have hfn':=hs ds (Z21 hA)
 refine ⟨_,rfl,ds,[],_,[],p,[],hW', ?_, ?_, ?_,bel.frame _,fun h=>by cases h⟩
 ·rw [JN,hfn',hr]
  exact trodAll_mk1 (shut_bool hb _)
 ·rw [JN,hfn']
  exact Z57 laid bel hread hA
 ·rw [JN,hfn',hvars]
  rfl
end Go.Tk
end
section
namespace Go.Tk
open IntKind (i64 u8 u32 u64 wrap)
variable {xs:LI}
theorem YH.join {P:Program} {k:Nat} {ro:Option Nat} {c:Code} {s:St} {X Y:KE} (h:YH P k ro c s Y) (hxy:∀e s',Y e s'->∃s₂,e=.normal/\Z4g k s' s₂/\X .normal s₂):YH P k ro c s X:=by
 intro E0 h0 w0 E a w n hk hs hev
 refine wpIn_mono (h E0 h0 w0 E a w n hk hs hev) ?_
 rintro e a' w' ⟨E',x,s',hx,hev',hs',he⟩
 obtain ⟨s₂,rfl,hw,hX⟩:=hxy x s' hx
 obtain ⟨E₂,hs₂,hev₂⟩:=hw E0 h0 w0 E' a' w' hk hs' hev'
 cases he
 exact ⟨E₂,_,s₂,hX,hev₂,hs₂,.normal⟩
def Z66 (P:Program) (f:FuncId) (id:Nat):Bool:=match P.funcs[f]? with
 | some fn=>match fn.body with
  | some b=>match Un id (ZE b) with|[_]=>true|_=>false
  | none=>false
 | none=>false
theorem ZbY {P:Program} {f:FuncId} {id:Nat} (h:Z66 P f id=true) {fn:Func} {body c:Code} (hf:P.funcs[f]? =some fn) (hb:fn.body=some body) (hm:(id,c)∈ZE body):c=Uo P f id:=by
 have hc:=Vs hm
 grind [Z66,Z1t,Uo]
@[irreducible] def Zas (G:Za) (n:Nat) (f:FuncId) (id:Nat) (k:Nat) (s:St) (X:KE):Prop:=evC G (Z4f G n f none) k (Uo G.P f id) s X
def jnM (k:Nat) (S1:St):KE:=fun e s=>match e with
 | .normal=>QY k S1 s True
 | _=>False
theorem w8m (x:Int) (h:0<=x):u8.wrap (Int.tmod x 256)=u8.wrap x:=by
 rw [tm h]
 unfold wrap
 simp [IntKind.bits,IntKind.signed]
theorem Zhn {n k:Int} (h:0<=n):0<=Zw .i64 n k:=by
 unfold Zw
 rw [Int.fdiv_eq_ediv_of_nonneg _ (by exact Int.le_of_lt (Int.pow_pos (by decide)))]
 exact Int.ediv_nonneg h (by exact Int.le_of_lt (Int.pow_pos (by decide)))
theorem b8m {n k:Int} (h:0<=n):u8.wrap (Int.tmod (Zw .i64 n k) 256)=b8 n k:=w8m _ (Zhn h)
theorem Zkb (n:Int) (ys:LI) (L:Nat) (hn:0<=n) (hy:ys=Zt n) (hL:L=ys.length):
  evF G0 20 137 [.int .i64 n] ⟨0,[]⟩ (ZK 0 (.ret (.nslice ⟨0,0,0,0,0⟩ 1 L L)) 1 [(0,.ints .u8 ys)]):=by
 refine @Eq.mpr _ (let b:=[wrap u8 (Int.tmod (Zw i64 n 8) 256),wrap u8 (Int.tmod (Zw i64 n 0) 256)];let a:=wrap u8 (Int.tmod (Zw i64 n 24) 256)::wrap u8 (Int.tmod (Zw i64 n 16) 256)::b;
 Z0 (decide (n<253)) (Z6 (1=L) (Z6 (L<=1) ([wrap u8 n]=ys/\True))) (Z0 (decide (n<65536)) (Z6 (3=L) (Z6 (L<=3) ((253:Int)::b=ys/\True))) (Z0 (decide (n<4294967296)) (Z6 (5=L) (Z6 (L<=5) ((254:Int)::a=ys/\True))) (Z6 (9=L) (Z6 (L<=9) ((255:Int)::wrap u8 (Int.tmod (Zw i64 n 56) 256)::wrap u8 (Int.tmod (Zw i64 n 48) 256)::wrap u8 (Int.tmod (Zw i64 n 40) 256)::wrap u8 (Int.tmod (Zw i64 n 32) 256)::a=ys/\True)))))) (by kernel_rfl) ?_
 conv=>zeta
 try simp only [vcA]
 try simp only [vcB]
 try simp only [vcC]
 subst hy hL
 refine ⟨fun h1=> ?_,fun h1=>⟨fun h2=> ?_,fun h2=>⟨fun h3=> ?_,fun h3=> ?_⟩⟩⟩
 ·rw [Zap h1];simp
 ·rw [Ze5 h1 h2];simp [b8m hn]
 ·rw [Ze6 h1 h2 h3];simp [b8m hn]
 ·rw [Ze7 h1 h2 h3];simp [b8m hn]
def Z7p (W:Int->LI):ZQ:=fun args h K=>match args with
 | [.int .i64 n]=>Z6 (0<=n) (K (.ret (.nslice ⟨h.next,0,0,0,0⟩ 1 (W n).length (W n).length)) ⟨h.next+1,(h.next,.ints .u8 (W n))::h.bs⟩)
 | _=>False
theorem Z3H (args:List AV) (h:Z8) (K:KO) (hl:Z7p Zt args h K):Zd PP 137 args h K:=by
 unfold Z7p at hl
 split at hl
 ·obtain ⟨hn,hK⟩:=Zf hl
  exact (Zx.evM Zr (Zkb _ _ _ hn rfl rfl)).calls (fun E w rs he hr=>by
   cases hr with
   | cons v r vs rs h1 h2=>cases h2;exact .cons _ _ _ _ (h1.plain rfl) .nil) rfl ⟨JC,.ints _ _,trivial⟩ hK
 ·exact hl.elim
noncomputable def E30 (W:Int->LI):Za:=G0.withF 137 (Z7p W)
theorem Zkc:(E30 Zt).Ok:=Za.withF_ok Zr Z3H
def U5:Nat->LI->Nat->Int->Int
 | 0,_,_,n=>n
 | m+1,xs,k,n=>U5 m xs (k+1) (256*n+xs.getD k 0)
structure Bytes (xs:LI):Prop where
 h:∀i:Nat,0<=xs.getD i 0/\xs.getD i 0<=255
theorem Bytes.drop (h:Bytes xs) (n:Nat):Bytes (xs.drop n):=⟨fun i=>by
 have:=h.h (n+i)
 rw [J5] at this
 rw [J5,Jz]
 exact this⟩
theorem Zeo {x:Int} (h:0<=x/\x<18446744073709551616):u64.wrap x=x:=by
 unfold wrap
 simp [IntKind.bits,IntKind.signed]
 omega
def inZ:InS:=⟨Z5,0,0,Z5,Z5,Z5⟩
def Zpd:ZM:=⟨0,0,Z5,Z5,Z5,Z5,0,0⟩
theorem ZmE (x:InS) (b:Bool) (hx:x.Ok) (hb:b=Yh x):
  evF G0 20 263 [.agg x.c] ⟨0,[]⟩ (Xr (fun v=>v=.bool b)):=by
 refine @Eq.mpr _ (let j:=x.way;let L:=j==1;let r:=j==4;let e:=decide (j>=1);let d:=decide (j<=6);let o:=x.name;let c:=decide (o.length=32/\o.length=32);let k:=x.tag;let n:=decide (k.length=32/\k.length=32);let m:=x.also;let z:=decide (m.length=32/\m.length=32);let l:=x.secret;let y:=decide (l.length=32/\l.length=32);let i:=o==o;let w:=x.index;let h:=w==w;let g:=j==j;let v:=k==k;let M:=m==m;let K:=l==l;let J:=M&&K;let a:=AV.bool false=AV.bool b;let f:=Z0 (decide (w>=0)) (AV.bool (decide (w<24))=AV.bool b) a;let I:=Z0 e (Z0 d (Z0 c (Z0 n (Z0 z (Z0 y (Z0 (i&&(h&&(g&&(v&&J)))) f a) False) False) False) False) a) a;let u:=j==5;let t:=decide (l.length=32/\(32:Nat)=32);let H:=l==Z5;let G:=M&&H;let s:=decide (m.length=32/\(32:Nat)=32);let F:=m==Z5;let E:=F&&K;let D:=Z0 e (Z0 d (Z0 c (Z0 n (Z0 s (Z0 y (Z0 (i&&(h&&(g&&(v&&E)))) f a) False) False) False) False) a) a;let C:=F&&H;let q:=decide (k.length=32/\(32:Nat)=32);let p:=k==Z5;let B:=Z0 e (Z0 d (Z0 c (Z0 q (Z0 z (Z0 y (Z0 (i&&(h&&(g&&(p&&J)))) f a) False) False) False) False) a) a;let A:=Z0 e (Z0 d (Z0 c (Z0 q (Z0 s (Z0 y (Z0 (i&&(h&&(g&&(p&&E)))) f a) False) False) False) False) a) a;
 Z0 (j !=4) (Z0 L (Z0 r I (Z0 u I (Z0 e (Z0 d (Z0 c (Z0 n (Z0 z (Z0 t (Z0 (i&&(h&&(g&&(v&&G)))) f a) False) False) False) False) a) a))) (Z0 r D (Z0 u D (Z0 e (Z0 d (Z0 c (Z0 n (Z0 s (Z0 t (Z0 (i&&(h&&(g&&(v&&C)))) f a) False) False) False) False) a) a)))) (Z0 L (Z0 r B (Z0 u B (Z0 e (Z0 d (Z0 c (Z0 q (Z0 z (Z0 t (Z0 (i&&(h&&(g&&(p&&G)))) f a) False) False) False) False) a) a))) (Z0 r A (Z0 u A (Z0 e (Z0 d (Z0 c (Z0 q (Z0 s (Z0 t (Z0 (i&&(h&&(g&&(p&&C)))) f a) False) False) False) False) a) a))))) (by kernel_rfl) ?_
 conv=>zeta
 obtain ⟨h1,h2,h3,h4⟩:=hx
 subst hb
 have hz:[(0:Int),0,0,0,0,0,0,0,0,0,0,0,0,0,0,0,0,0,0,0,0,0,0,0,0,0,0,0,0,0,0,0]=Z5:=rfl
 simp only [hz,Z0Y]
 unfold Yh
 generalize (x.secret==Z5)=bs
 generalize (x.also==Z5)=ba
 generalize (x.tag==Z5)=bt
 by_cases w1:x.way=1
 ·cases bs<;>simp [w1,h1,h2,h3,h4]<;>first|omega|grind
 by_cases w2:x.way=2
 ·cases bs<;>cases ba<;>simp [w2,h1,h2,h3,h4]<;>first|omega|grind
 by_cases w3:x.way=3
 ·cases bs<;>cases ba<;>simp [w3,h1,h2,h3,h4]<;>first|omega|grind
 by_cases w4:x.way=4
 ·cases bt<;>cases ba<;>simp [w4,h1,h3]<;>first|grind
 by_cases w5:x.way=5
 ·cases ba<;>simp [h3]<;>first|grind
 by_cases w6:x.way=6
 ·cases bs<;>cases ba<;>simp [h3]<;>first|grind
 cases bs<;>cases ba<;>simp [h3]<;>first|omega
theorem Z67 {a b:Int} (ha:0<=a/\a<256) (hb:0<=b/\b<256):(V2 a=V2 b↔a=b)/\(V2 a<V2 b↔a<b):=by
 grind [V2,UInt8.lt_iff_toNat_lt,UInt8.toNat_ofNat']
theorem Bytes.getD (h:Bytes xs) (i:Nat):0<=xs.getD i 0/\xs.getD i 0<256:=by
 have:=h.h i
 omega
theorem Zkd {x y:LI} {b:Bool} {i:Nat} {P:Prop} (hx:i<x.length) (hy:i<y.length) (bx:Bytes x) (yb:Bytes y) (hb:b=decide (Xf (x.drop i) (y.drop i)>0)) (hP:b=decide (Xf (x.drop (i+1)) (y.drop (i+1))>0)->P):
  Z0 (x.getD i 0 !=y.getD i 0) (AV.bool (decide (x.getD i 0>y.getD i 0))=AV.bool b) P:=by
 have e1:x.drop i=x.getD i 0::x.drop (i+1):=by simp_all
 have e2:y.drop i=y.getD i 0::y.drop (i+1):=by rw [JV hy];grind
 rw [e1,e2] at hb
 have k1:=Z67 (bx.getD i) (yb.getD i)
 have k2:=Z67 (yb.getD i) (bx.getD i)
 generalize x.getD i 0=u at*
 generalize y.getD i 0=v at*
 simp only [Xf,K6,Lib.compareBytes,k1.2,k2.2] at hb
 rw [Z0Y]
 constructor
 ·rw [hb]
  by_cases h1:u<v
  ·simp [h1];omega
  grind
 ·intro h
  have h:u=v:=by simp_all
  subst h
  simp only [Int.lt_irrefl] at hb
  exact hP hb
theorem ZmF (x y:LI) (b:Bool) (hx:x.length=32) (hy:y.length=32) (bx:Bytes x) (yb:Bytes y) (hb:b=decide (Xf (x.drop 0) (y.drop 0)>0)):
  evF G0 20 286 [.agg [.arr .u8 32 x],.agg [.arr .u8 32 y]] ⟨0,[]⟩ (Xr (fun v=>v=.bool b)):=by
 refine @Eq.mpr _ (let a:=AV.bool b;
 Z0 (List.getD x 0 0 !=List.getD y 0 0) (AV.bool (decide (List.getD x 0 0>List.getD y 0 0))=a)
 (Z0 (List.getD x 1 0 !=List.getD y 1 0) (AV.bool (decide (List.getD x 1 0>List.getD y 1 0))=a)
 (Z0 (List.getD x 2 0 !=List.getD y 2 0) (AV.bool (decide (List.getD x 2 0>List.getD y 2 0))=a)
 (Z0 (List.getD x 3 0 !=List.getD y 3 0) (AV.bool (decide (List.getD x 3 0>List.getD y 3 0))=a)
 (Z0 (List.getD x 4 0 !=List.getD y 4 0) (AV.bool (decide (List.getD x 4 0>List.getD y 4 0))=a)
 (Z0 (List.getD x 5 0 !=List.getD y 5 0) (AV.bool (decide (List.getD x 5 0>List.getD y 5 0))=a)
 (Z0 (List.getD x 6 0 !=List.getD y 6 0) (AV.bool (decide (List.getD x 6 0>List.getD y 6 0))=a)
 (Z0 (List.getD x 7 0 !=List.getD y 7 0) (AV.bool (decide (List.getD x 7 0>List.getD y 7 0))=a)
 (Z0 (List.getD x 8 0 !=List.getD y 8 0) (AV.bool (decide (List.getD x 8 0>List.getD y 8 0))=a)
 (Z0 (List.getD x 9 0 !=List.getD y 9 0) (AV.bool (decide (List.getD x 9 0>List.getD y 9 0))=a)
 (Z0 (List.getD x 10 0 !=List.getD y 10 0) (AV.bool (decide (List.getD x 10 0>List.getD y 10 0))=a)
 (Z0 (List.getD x 11 0 !=List.getD y 11 0) (AV.bool (decide (List.getD x 11 0>List.getD y 11 0))=a)
 (Z0 (List.getD x 12 0 !=List.getD y 12 0) (AV.bool (decide (List.getD x 12 0>List.getD y 12 0))=a)
 (Z0 (List.getD x 13 0 !=List.getD y 13 0) (AV.bool (decide (List.getD x 13 0>List.getD y 13 0))=a)
 (Z0 (List.getD x 14 0 !=List.getD y 14 0) (AV.bool (decide (List.getD x 14 0>List.getD y 14 0))=a)
 (Z0 (List.getD x 15 0 !=List.getD y 15 0) (AV.bool (decide (List.getD x 15 0>List.getD y 15 0))=a)
 (Z0 (List.getD x 16 0 !=List.getD y 16 0) (AV.bool (decide (List.getD x 16 0>List.getD y 16 0))=a)
 (Z0 (List.getD x 17 0 !=List.getD y 17 0) (AV.bool (decide (List.getD x 17 0>List.getD y 17 0))=a)
 (Z0 (List.getD x 18 0 !=List.getD y 18 0) (AV.bool (decide (List.getD x 18 0>List.getD y 18 0))=a)
 (Z0 (List.getD x 19 0 !=List.getD y 19 0) (AV.bool (decide (List.getD x 19 0>List.getD y 19 0))=a)
 (Z0 (List.getD x 20 0 !=List.getD y 20 0) (AV.bool (decide (List.getD x 20 0>List.getD y 20 0))=a)
 (Z0 (List.getD x 21 0 !=List.getD y 21 0) (AV.bool (decide (List.getD x 21 0>List.getD y 21 0))=a)
 (Z0 (List.getD x 22 0 !=List.getD y 22 0) (AV.bool (decide (List.getD x 22 0>List.getD y 22 0))=a)
 (Z0 (List.getD x 23 0 !=List.getD y 23 0) (AV.bool (decide (List.getD x 23 0>List.getD y 23 0))=a)
 (Z0 (List.getD x 24 0 !=List.getD y 24 0) (AV.bool (decide (List.getD x 24 0>List.getD y 24 0))=a) (Z0 (List.getD x 25 0 !=List.getD y 25 0) (AV.bool (decide (List.getD x 25 0>List.getD y 25 0))=a) (Z0 (List.getD x 26 0 !=List.getD y 26 0) (AV.bool (decide (List.getD x 26 0>List.getD y 26 0))=a) (Z0 (List.getD x 27 0 !=List.getD y 27 0) (AV.bool (decide (List.getD x 27 0>List.getD y 27 0))=a) (Z0 (List.getD x 28 0 !=List.getD y 28 0) (AV.bool (decide (List.getD x 28 0>List.getD y 28 0))=a) (Z0 (List.getD x 29 0 !=List.getD y 29 0) (AV.bool (decide (List.getD x 29 0>List.getD y 29 0))=a) (Z0 (List.getD x 30 0 !=List.getD y 30 0) (AV.bool (decide (List.getD x 30 0>List.getD y 30 0))=a) (Z0 (List.getD x 31 0 !=List.getD y 31 0) (AV.bool (decide (List.getD x 31 0>List.getD y 31 0))=a) (AV.bool false=a))))))))))))))))))))))))))))))))) (by kernel_rfl) ?_
 conv=>zeta
 iterate 32 refine Zkd (by omega) (by omega) bx yb hb fun hb=> ?_
 rw [JL (by omega),JL (by omega)] at hb
 have h0:Xf [] []=0:=rfl
 simp_all
theorem Zho (args:List AV) (h:Z8) (K:AV->Prop) (hl:inS Yh args h K):Zd PP 263 args h fun o h'=>∃v,o=.ret v/\h'=h/\K v:=by
 unfold inS at hl
 split at hl
 ·rename_i n i w t a s
  obtain ⟨⟨h1,h2,h3,h4⟩,hK⟩:=Zf hl
  exact YD Zr rfl (ZmE ⟨n,i,w,t,a,s⟩ _ ⟨h1,h2,h3,h4⟩ rfl) (fun u hu=>hu▸hK)
 simp_all
def Zke:ZF:=fun args _ K=>match args with
 | [.agg [.arr .u8 32 x],.agg [.arr .u8 32 y]]=>(x.length=32/\y.length=32)/\Bytes x/\Bytes y/\K (.bool (decide (Xf x y>0)))
 | _=>False
noncomputable def ZmG:Za:=G0.withP 286 Zke
theorem Zkf (o:ZM) (b:Bool) (ho:o.Ok) (b1:Bytes o.owner) (b2:Bytes o.other) (hb:b=ZP o):
  evF ZmG 20 264 [.agg o.c] ⟨0,[]⟩ (Xr (fun v=>v=.bool b)):=by
 refine @Eq.mpr _ (let d:=o.kind;let S:=d==2;let M:=decide (d>=3);let m:=o.delay;let E:=decide (m=m);let t:=decide (d>=4);let l:=o.expiry;let s:=decide (l=l);let e:=decide (d>=1);let k:=decide (d<=5);let n:=o.owner;let j:=decide (n.length=32/\n.length=32);let c:=o.other;let B:=decide (c.length=32/\c.length=32);let q:=o.point;let A:=decide (q.length=32/\q.length=32);let p:=o.hash;let z:=decide (p.length=32/\p.length=32);let i:=d==d;let r:=o.amount;let h:=r==r;let g:=n==n;let y:=c==c;let R:=q==q;let Q:=p==p;let P:=m==m;let O:=l==l;let N:=R&&(Q&&(P&&O));let D:=AV.bool b;let a:=AV.bool false=D;let f:=Z0 (decide (r>0)) (Z0 (decide (r>=0)) (Z0 (decide (r<=1125899906842624)) (Z0 (decide (m>=0)) (Z0 (decide (m<=2147483647)) (Z0 (decide (l>=0)) (Z0 (decide (l<=2147483647)) (Z0 S ((n.length=32/\c.length=32)/\Bytes n/\Bytes c/\(AV.bool !decide (Xf n c>0))=D) (AV.bool true=D)) a) a) a) a) a) a) a;let x:=decide (p.length=32/\(32:Nat)=32);let L:=p==Z5;let K:=l==0;let J:=R&&(L&&(P&&K));let w:=decide (q.length=32/\(32:Nat)=32);let I:=q==Z5;let H:=m==0;let G:=I&&(Q&&(H&&O));let F:=I&&(L&&(H&&K));let C:=Z0 M (Z0 E (Z0 t (Z0 s (Z0 e (Z0 k (Z0 j (Z0 B (Z0 A (Z0 z (Z0 (i&&(h&&(g&&(y&&N)))) f a) False) False) False) False) a) a) False) (Z0 e (Z0 k (Z0 j (Z0 B (Z0 A (Z0 x (Z0 (i&&(h&&(g&&(y&&J)))) f a) False) False) False) False) a) a)) False) (Z0 t (Z0 s (Z0 e (Z0 k (Z0 j (Z0 B (Z0 w (Z0 z (Z0 (i&&(h&&(g&&(y&&G)))) f a) False) False) False) False) a) a) False) (Z0 e (Z0 k (Z0 j (Z0 B (Z0 w (Z0 x (Z0 (i&&(h&&(g&&(y&&F)))) f a) False) False) False) False) a) a));let v:=decide (c.length=32/\(32:Nat)=32);let u:=c==Z5;
 Z0 S C (Z0 (d==4) C (Z0 (d==5) C (Z0 M (Z0 E (Z0 t (Z0 s (Z0 e (Z0 k (Z0 j (Z0 v (Z0 A (Z0 z (Z0 (i&&(h&&(g&&(u&&N)))) f a) False) False) False) False) a) a) False) (Z0 e (Z0 k (Z0 j (Z0 v (Z0 A (Z0 x (Z0 (i&&(h&&(g&&(u&&J)))) f a) False) False) False) False) a) a)) False) (Z0 t (Z0 s (Z0 e (Z0 k (Z0 j (Z0 v (Z0 w (Z0 z (Z0 (i&&(h&&(g&&(u&&G)))) f a) False) False) False) False) a) a) False) (Z0 e (Z0 k (Z0 j (Z0 v (Z0 w (Z0 x (Z0 (i&&(h&&(g&&(u&&F)))) f a) False) False) False) False) a) a)))))) (by kernel_rfl) ?_
 conv=>zeta
 obtain ⟨h1,h2,h3,h4⟩:=ho
 subst hb
 have hz:[(0:Int),0,0,0,0,0,0,0,0,0,0,0,0,0,0,0,0,0,0,0,0,0,0,0,0,0,0,0,0,0,0,0]=Z5:=rfl
 simp only [hz,Z0Y,Zc]
 unfold ZP
 generalize (o.other==Z5)=bo
 generalize (o.point==Z5)=bp
 generalize (o.hash==Z5)=bh
 generalize Xf o.owner o.other=cc
 by_cases k1:o.kind=1
 ·cases bo<;>cases bp<;>cases bh<;>simp [k1,h1,h2,h3,h4,b1,b2]<;>first|omega|grind
 by_cases k2:o.kind=2
 ·cases bp<;>cases bh<;>simp [k2,h1,h2,h3,h4,b1,b2]<;>first|omega|grind
 by_cases k3:o.kind=3
 ·cases bo<;>cases bh<;>simp [k3,h1,h2,h3,h4,b1,b2]<;>first|omega|grind
 by_cases k4:o.kind=4
 ·simp [k4,h1,h2,h3,b1]<;>first|omega
 by_cases k5:o.kind=5
 ·simp [b1]<;>first|omega
 cases bo<;>cases bp<;>cases bh<;>simp [b1]<;>first|omega
theorem Zep (args:List AV) (h:Z8) (K:AV->Prop) (hl:Zke args h K):Zd PP 286 args h fun o h'=>∃v,o=.ret v/\h'=h/\K v:=by
 unfold Zke at hl
 split at hl
 ·obtain ⟨⟨h1,h2⟩,b1,b2,hK⟩:=hl
  exact YD Zr rfl (ZmF _ _ _ h1 h2 b1 b2 rfl) (fun u hu=>hu▸hK)
 simp_all
theorem Zhp:ZmG.Ok:=Za.withP_ok Zr Zep
def Z9c (R:ZM->Bool):ZF:=fun args _ K=>match args with
 | [.agg [.int .i64 kd,.int .i64 am,.arr .u8 32 ow,.arr .u8 32 ot,.arr .u8 32 po,.arr .u8 32 ha,.int .i64 de,.int .i64 ex]]=>Z6 (ow.length=32/\ot.length=32/\po.length=32/\ha.length=32) ((Bytes ow/\Bytes ot)/\K (.bool (R ⟨kd,am,ow,ot,po,ha,de,ex⟩)))
 | _=>False
theorem Zeq (args:List AV) (h:Z8) (K:AV->Prop) (hl:Z9c ZP args h K):Zd PP 264 args h fun o h'=>∃v,o=.ret v/\h'=h/\K v:=by
 unfold Z9c at hl
 split at hl
 ·rename_i kd am ow ot po ha de ex
  obtain ⟨⟨h1,h2,h3,h4⟩,⟨b1,b2⟩,hK⟩:=Zf hl
  exact YD Zhp rfl (Zkf ⟨kd,am,ow,ot,po,ha,de,ex⟩ _ ⟨h1,h2,h3,h4⟩ b1 b2 rfl) (fun u hu=>hu▸hK)
 simp_all
noncomputable def E35:Za:=(G0.withP 263 (inS Yh)).withP 264 (Z9c ZP)
theorem Z9d:E35.Ok:=Za.withP_ok (Za.withP_ok Zr Zho) Zeq
def Zkg {ι:Type} (S:ι->Nat->St->KE->Prop):Nat->St->KE->Prop:=fun k s X=>∃i,S i k s X
theorem Za.withL_ex {ι:Type} {G:Za} (hG:G.Ok) {f:FuncId} {id:Nat} {S:ι->Nat->St->KE->Prop} (h1:∀i,(G.withL f id (S i)).Ok):(G.withL f id (Zkg S)).Ok where
 draw:=hG.draw
 psumm:=hG.psumm
 fsumm:=hG.fsumm
 lsumm:=fun f' id' S' fn c body hS hf hb hm k s X hs=>by
  simp only [Za.withL] at hS
  split at hS
  ·cases hS
   obtain ⟨i,hs⟩:=hs
   have a1:=(h1 i).lsumm f' id' (S i) fn c body
   simp_all [Za.withL]
  ·exact hG.lsumm f' id' S' fn c body hS hf hb hm k s X hs
def rgH (t:TxS):Z8:=⟨1,[(0,.flat t.c)]⟩
def rgP:AV:=.ptr (some ⟨0,0,0,0,0⟩)
def ZbZ (t:TxS) (i:Nat):St:=⟨106,[(3,.int .i64 i),(1,rgP)],rgH t,[]⟩
def Zkh (t:TxS) (i k:Nat):St:=⟨106,[(4,.int .i64 k),(3,.int .i64 i),(1,rgP)],rgH t,[]⟩
def rgR (t:TxS):St:=⟨106,[(2,.bool false),(1,rgP)],rgH t,[]⟩
def ZmH (t:TxS):St:=⟨106,[(1,rgP)],rgH t,[]⟩
def Zhq (t:TxS) (i:Nat) (n:Int):St:=⟨106,[(6,.int .i64 i),(5,.int .i64 n),(1,rgP)],rgH t,[]⟩
def ZmI (t:TxS) (n:Int):St:=⟨106,[(5,.int .i64 n),(1,rgP)],rgH t,[]⟩
theorem Zpe (t:TxS) (i k:Nat) (Z1 Z2 Z3:Prop) (hi:i<t.N) (hN:t.N<=24) (hk:k<=i) (ht:t.Ok) (h1:k<i->sameAt t.ins (t.ins i) k=false->Z1) (h2:k=i->Z2) (h3:k<i->sameAt t.ins (t.ins i) k=true->Z3):
  ZL E35 20 203 2 0 (Zkh t i k) (rdM 0 2 9 (Zkh t i (k+1)) (ZbZ t i) (rgR t) (rgR t) Z1 Z2 Z3 False):=by
 refine @Eq.mpr _ (let f:=t.N;let o:=(↑f:Int);let n:=decide (0<=(↑k:Int)/\(↑k:Int)<o);let m:=decide (0<=(↑i:Int)/\(↑i:Int)<o);let l:=t.ins (Int.toNat (↑k:Int));let j:=l.name;let h:=t.ins (Int.toNat (↑i:Int));let g:=h.name;let c:=decide (t.num=t.num);let b:=decide (f=f);let s:=Zj t.ins;let e:=s=s;let a:=decide (t.M=t.M);let r:=Zi t.outs;let d:=r=r;let q:=decide ((↑i:Int)=(↑i:Int));let p:=Z0 (decide (wrap i64 ((↑k:Int)+1)=(↑(k+1):Int))) (Z0 q (Z0 c (Z0 b (e/\Z0 b (Z0 a (d/\Z0 a Z1 False) False) False) False) False) False) False;
 Z0 (decide ((↑k:Int)<(↑i:Int))) (Z0 n (Z0 m (Z0 (decide (j.length=32/\g.length=32)) (Z0 (j==g) (Z0 n (Z0 m (Z0 (l.index==h.index) (Z0 c (Z0 b (e/\Z0 b (Z0 a (d/\Z0 a Z3 False) False) False) False) False) p) False) False) p) False) False) False) (Z0 q (Z0 c (Z0 b (e/\Z0 b (Z0 a (d/\Z0 a Z2 False) False) False) False) False) False)) (by kernel_rfl) ?_
 conv=>zeta
 try simp only [Zc]
 try simp only [Zl]
 try simp only [Zg]
 try simp only [Zm]
 try simp only [Zn]
 try simp only [Zh]
 try simp only [and_true]
 have e1:=(ht.ins i hi).name
 have e2:k<t.N->(t.ins k).name.length=32:=fun h=>(ht.ins k h).name
 have hw:i64.wrap ((k:Int)+1)=((k+1:Nat):Int):=w64 (by omega)
 unfold sameAt Q9 at h1 h3
 grind
theorem Zpf (t:TxS) (i:Nat) (n:Int) (Z1 Z2 Z3:Prop) (hM:t.M<=24) (hi:i<=t.M) (ht:t.Ok) (hn:0<=n/\n<=i*1125899906842624) (hB:i<t.M->Bytes (t.outs i).owner/\Bytes (t.outs i).other) (h1:i<t.M->ZP (t.outs i)=true->Z1) (h2:i=t.M->Z2) (h3:i<t.M->ZP (t.outs i)=false->Z3):
  ZL E35 20 203 4 0 (Zhq t i n) (rdM 0 4 9 (Zhq t (i+1) (n+(t.outs i).amount)) (ZmI t n) (rgR t) (rgR t) Z1 Z2 Z3 False):=by
 refine @Eq.mpr _ (let d:=t.M;let o:=decide (0<=(↑i:Int)/\(↑i:Int)<(↑d:Int));let a:=t.outs (Int.toNat (↑i:Int));let g:=a.owner;let f:=a.other;let m:=a.point;let l:=a.hash;let k:=a.amount;let e:=decide (t.num=t.num);let c:=decide (t.N=t.N);let q:=Zj t.ins;let j:=q=q;let b:=decide (d=d);let p:=Zi t.outs;let h:=p=p;
 Z0 (decide ((↑i:Int)<(↑d:Int))) (Z0 o (Z0 (decide (g.length=32/\f.length=32/\m.length=32/\l.length=32)) ((Bytes g/\Bytes f)/\Z0 (!ZP (ZM.mk a.kind k g f m l a.delay a.expiry)) (Z0 e (Z0 c (j/\Z0 c (Z0 b (h/\Z0 b Z3 False) False) False) False) False) (Z0 o (Z0 (decide (wrap i64 ((↑i:Int)+1)=(↑(i+1):Int))) (Z0 (decide (wrap i64 (n+k)=n+(t.outs i).amount)) (Z0 e (Z0 c (j/\Z0 c (Z0 b (h/\Z0 b Z1 False) False) False) False) False) False) False) False)) False) False) (Z0 (decide (n=n)) (Z0 e (Z0 c (j/\Z0 c (Z0 b (h/\Z0 b Z2 False) False) False) False) False) False)) (by kernel_rfl) ?_
 conv=>zeta
 try simp only [Zc]
 try simp only [Zl]
 try simp only [Zg]
 try simp only [Zm]
 try simp only [Zn]
 try simp only [Zh]
 try simp only [Jk,and_true]
 refine ⟨fun hlt=> ?_,fun hge=> ?_⟩
 ·have hlt:i<t.M:=by omega
  obtain ⟨e1,e2,e3,e4⟩:=ht.outs i hlt
  grind [ZP,w64]
 grind
noncomputable def Zhr (t:TxS):Za:=E35.withL 203 2 (Zkg fun i:Nat=>goM 0 (Zkh t i 0) (i<t.N/\t.N<=24/\t.Ok) (YB 2 i 9 (fun k=>sameAt t.ins (t.ins i) k=false) (fun k=>k=i) (fun k=>k<i/\sameAt t.ins (t.ins i) k=true) (fun _=>False) (fun _=>ZbZ t i) (fun _=>rgR t) (fun _=>rgR t)))
theorem Zhs (t:TxS):(Zhr t).Ok:=
 Za.withL_ex Z9d fun i=>Za.withGoM (N:=20) Z9d (by kernel_rfl) fun hC=>⟨rfl,fun k hk hgo=>Zpe t i k _ _ _ hC.1 hC.2.1 hk hC.2.2 (fun h1 h2=>⟨h2,h1⟩) (fun h=>h) (fun h1 h2=>⟨h1,h2⟩)⟩
def okI (t:TxS) (i:Nat):Bool:=Yh (t.ins i)&& !((List.range i).any (sameAt t.ins (t.ins i)))
theorem Zpg (t:TxS) (i:Nat) (Z1 Z2 Z3:Prop) (hi:i<=t.N) (hN:t.N<=24) (ht:t.Ok) (h1:i<t.N->okI t i=true->Z1) (h2:i=t.N->Z2) (h3:i<t.N->okI t i=false->Z3):
  ZL (Zhr t) 20 203 0 0 (ZbZ t i) (rdM 0 0 9 (ZbZ t (i+1)) (ZmH t) (rgR t) (rgR t) Z1 Z2 Z3 False):=by
 refine @Eq.mpr _ (let d:=t.N;let c:=t.ins (Int.toNat (↑i:Int));let o:=c.name;let n:=c.tag;let m:=c.also;let l:=c.secret;let f:=decide (t.num=t.num);let a:=decide (d=d);let e:=t.ins;let r:=Zj e;let h:=r=r;let b:=decide (t.M=t.M);let q:=Zi t.outs;let g:=q=q;let p:=Z0 f (Z0 a (h/\Z0 a (Z0 b (g/\Z0 b Z3 False) False) False) False) False;
 Z0 (decide ((↑i:Int)<(↑d:Int))) (Z0 (decide (0<=(↑i:Int)/\(↑i:Int)<(↑d:Int))) (Z0 (decide (o.length=32/\n.length=32/\m.length=32/\l.length=32)) (Z0 (!Yh (InS.mk o c.index c.way n m l)) p (∃(i_1:Nat),Z0 (decide ((↑i:Int)=(↑i_1:Int))) (Z0 f (Z0 a (h/\Z0 a (Z0 b (g/\Z0 b ((i_1<d/\d<=24/\TxS.Ok t)/\∀(i_2:Nat),i_2<=i_1->(∀(j:Nat),j<i_2->(fun (k:Nat)=>sameAt e (e i_1) k=false) j)->(i_2=i_1->Z0 (decide (wrap i64 ((↑i_1:Int)+1)=(↑(i+1):Int))) (Z0 f (Z0 a (h/\Z0 a (Z0 b (g/\Z0 b Z1 False) False) False) False) False) False)/\(i_2<i_1/\sameAt e (e i_1) i_2=true->p)/\(False->Z0 f (Z0 a (h/\Z0 a (Z0 b (g/\Z0 b False False) False) False) False) False)) False) False) False) False) False) False)) False) False)
 (Z0 f (Z0 a (h/\Z0 a (Z0 b (g/\Z0 b Z2 False) False) False) False) False)) (by kernel_rfl) ?_
 conv=>zeta
 try simp only [Zc]
 try simp only [Zl]
 try simp only [Zg]
 try simp only [Zm]
 try simp only [Zn]
 try simp only [Zh]
 try simp only [true_and,and_true]
 unfold okI at h1 h3
 refine ⟨fun hlt=> ?_,fun hge=>h2 (by omega)⟩
 have hlt:i<t.N:=by omega
 obtain ⟨e1,e2,e3,e4⟩:=ht.ins i hlt
 have h1:=h1 hlt
 have h3:=h3 hlt
 refine ⟨by omega,⟨e1,e2,e3,e4⟩,fun q=>h3 ?_,fun q=>⟨i,rfl,⟨hlt,hN,ht⟩,fun m hm hgo=>⟨fun hq=>⟨w64 (by omega),h1 ?_⟩,fun hq=>h3 ?_,fun h=>h⟩⟩⟩
 ·have q:Yh (t.ins i)=false:=by simp_all
  rw [q,Bool.false_and]
 ·simp_all
 grind
def QK (t:TxS) (i:Nat):Int:=(amL t.outs i).sum
structure TxB (t:TxS):Prop where
 h:∀i,i<t.M->Bytes (t.outs i).owner/\Bytes (t.outs i).other
theorem Z68 {t:TxS}:∀i,(∀j,j<i->ZP (t.outs j)=true)->0<=QK t i/\QK t i<=i*1125899906842624
 | 0,_=>by simp [QK,amL]
 | i+1,h=>by
  have h1:=Z68 i (fun j hj=>h j (by omega))
  have h2:=(XY (h i (by omega))).2.1
  grind [QK,Z3D]
theorem Zc0 (t:TxS) (i:Nat):QK t (i+1)=QK t i+(t.outs i).amount:=by unfold QK;rw [Z3D];simp
def ZmJ (t:TxS):Nat->St->KE->Prop:=goM 0 (ZbZ t 0) (t.N<=24/\t.Ok) (YB 0 t.N 9 (fun i=>okI t i=true) (fun i=>i=t.N) (fun i=>i<t.N/\okI t i=false) (fun _=>False) (fun _=>ZmH t) (fun _=>rgR t) (fun _=>rgR t))
def ZmK (t:TxS):Nat->St->KE->Prop:=goM 0 (Zhq t 0 0) (t.M<=24/\t.Ok/\TxB t) (YB 4 t.M 9 (fun i=>ZP (t.outs i)=true) (fun i=>i=t.M) (fun i=>i<t.M/\ZP (t.outs i)=false) (fun _=>False) (fun i=>ZmI t (QK t i)) (fun _=>rgR t) (fun _=>rgR t))
noncomputable def ZmL (t:TxS):Za:=((Zhr t).withL 203 0 (ZmJ t)).withL 203 4
 (ZmK t)
theorem Zht (t:TxS):(ZmL t).Ok:=by
 have h1:((Zhr t).withL 203 0 (ZmJ t)).Ok:=
  Za.withGoM (N:=20) (S:=ZbZ t) (Zhs t) (by kernel_rfl) fun hC=>⟨rfl,fun i hi hgo=>Zpg t i _ _ _ hi hC.1 hC.2 (fun h1 h2=>⟨h2,h1⟩) (fun h=>h) (fun h1 h2=>⟨h1,h2⟩)⟩
 have h2:(E35.withL 203 4 (ZmK t)).Ok:=by
  refine Za.withGoM (N:=20) (S:=fun i=>Zhq t i (QK t i)) Z9d (by kernel_rfl) fun hC=>⟨by simp_all [QK,amL],fun i hi hgo=> ?_⟩
  rw [Zc0]
  exact Zpf t i (QK t i) _ _ _ hC.1 hi hC.2.1 (Z68 i hgo) (fun h=>hC.2.2.h i h) (fun h1 h2=>⟨h2,h1⟩) (fun h=>h) (fun h1 h2=>⟨h1,h2⟩)
 exact Za.withL_join (H:=E35) h1 rfl h2
def Wi (t:TxS):Bool:=decide (0<=t.num/\t.num<=2147483647)&&decide (1<=t.N/\t.N<=24)&&decide (1<=t.M/\t.M<=24)&&(List.range t.N).all (okI t)&&(List.range t.M).all (fun i=>ZP (t.outs i))&&decide (QK t t.M<=1125899906842624)
theorem Zph (t:TxS) (b:Bool) (ht:t.Ok) (hb:TxB t) (h:b=Wi t):
  evF (ZmL t) 20 203 [.agg t.c] ⟨0,[]⟩ (YC 0 [] (.bool b) 0 []):=by
 refine @Eq.mpr _ (let g:=t.num;let a:=Z0 (decide (false=b)) True False;let d:=t.N;let m:=(↑d:Int);let c:=t.M;let l:=(↑c:Int);let k:=decide (g=g);let e:=decide (d=d);let h:=Zj t.ins;let p:=h=h;let f:=decide (c=c);let o:=Zi t.outs;let n:=o=o;
 Z0 (decide (g>=0)) (Z0 (!decide (g<=2147483647)) a (Z0 (decide (m<1)) a (Z0 (decide (m>24)) a (Z0 (decide (l<1)) a (Z0 (decide (l>24)) a (Z0 k (Z0 e (p/\Z0 e (Z0 f (n/\Z0 f ((d<=24/\TxS.Ok t)/\∀(i:Nat),i<=d->(∀(j:Nat),j<i->(fun (i:Nat)=>okI t i=true) j)->(i=d->Z0 k (Z0 e (p/\Z0 e (Z0 f (n/\Z0 f ((c<=24/\TxS.Ok t/\TxB t)/\∀(i:Nat),i<=c->(∀(j:Nat),j<i->(fun (i:Nat)=>ZP (t.outs i)=true) j)->(i=c->Z0 (decide (QK t i>=0)) (Z0 (decide (decide (QK t i<=1125899906842624)=b)) True False) a)/\(i<c/\ZP (t.outs i)=false->a)/\(False->False)) False) False) False) False) False)/\(i<d/\okI t i=false->a)/\(False->False)) False) False) False) False) False)))))) a) (by kernel_rfl) ?_
 conv=>zeta
 try simp only [Zc]
 try simp only [Zl]
 try simp only [Zg]
 try simp only [Zm]
 try simp only [Zn]
 try simp only [Zh]
 try simp only [true_and,and_true]
 subst h
 have hF:Wi t=false->false=Wi t:=fun h=>by rw [h]
 refine ⟨fun a1=>⟨fun a2=>hF ?_,fun a2=>⟨fun a3=>hF ?_,fun a3=>⟨fun a4=>hF ?_,fun a4=>⟨fun a5=>hF ?_,fun a5=>⟨fun a6=>hF ?_,fun a6=>⟨⟨by omega,ht⟩,fun i hi hgo=>⟨fun hq=>⟨⟨by omega,ht,hb⟩,fun m hm hgm=>⟨fun hr=>⟨fun a7=> ?_,fun a7=> ?_⟩,fun hr=>hF ?_,fun h=>h⟩⟩,fun hq=>hF ?_,fun h=>h⟩⟩⟩⟩⟩⟩⟩,fun a1=>hF ?_⟩
 ·simp_all [Wi,decide_eq_false]
 ·grind [Wi]
 ·grind [Wi]
 ·grind [Wi]
 ·grind [Wi]
 ·grind [Wi]
 ·exact absurd (Z68 m hgm).1 a7
 all_goals grind [Wi]
theorem Z0v {g:Nat->InS} {x:InS} {j:Nat}:sameAt g x j=true↔(g j).name=x.name/\(g j).index=x.index:=by
 unfold sameAt Q9;simp
theorem Z3I {N:Nat} {g:Nat->InS} {i:Nat} (hi:i<N):Qa N g (g i)=true↔∃j,j<N/\j≠i/\sameAt g (g i) j=true:=by
 have hself:sameAt g (g i) i=true:=Z0v.2 ⟨rfl,rfl⟩
 unfold Qa
 rcases Vu (sameAt g (g i)) N with ⟨_,hn⟩|⟨f,hf,ef,pf,hb⟩
 ·rw [hn i hi] at hself;cases hself
 rcases Vu (sameAt (Z0q N g) (g i)) N with ⟨_,hn⟩|⟨l,hl,el,pl,hb'⟩
 ·have:=hn (N-1-i) (by omega)
  have e:sameAt (Z0q N g) (g i) (N-1-i)=sameAt g (g i) i:=by unfold sameAt Z0q;grind
  rw [e,hself] at this;cases this
 have er:∀q,q<N->sameAt (Z0q N g) (g i) q=sameAt g (g i) (N-1-q):=fun q _=>rfl
 rw [ef,el,bne_iff_ne]
 have hfi:f<=i:=by
  grind
 have hli:i<=N-1-l:=by
  rcases Jo (N-1-i) l with h|h
  all_goals grind
 constructor
 ·grind
 ·rintro ⟨j,hj,hne,pj⟩ h
  rcases Jo j f with h1|h1
  ·rw [hb j h1] at pj;cases pj
  ·have:=hb' (N-1-j) (by omega)
   rw [er _ (by omega),show N-1-(N-1-j)=j by omega,pj] at this;cases this
theorem Z58 {t:TxS} (h:∀j,j<t.M->ZP (t.outs j)=true):allIn 1125899906842624 (amL t.outs t.M)=true:=by
 unfold allIn
 rw [J6,Kl]
 intro j hj
 have hj:j<t.M:=by simpa [Z2m] using hj
 have:=(XY (h j hj)).2.1
 grind [amL,YN,UA]
theorem Z59 (t:TxS):Wi t=Yp ZJ t:=by
 rw [Bool.eq_iff_iff]
 unfold Wi Yp
 simp only [J3,decide_eq_true_eq,List.all_eq_true,K9,J6,Kl]
 constructor
 ·rintro ⟨⟨⟨⟨⟨h1,h2⟩,h3⟩,h4⟩,h5⟩,h6⟩
  refine ⟨⟨⟨⟨⟨h1,h2⟩,h3⟩,fun i hi=> ?_⟩,fun i hi=> ?_⟩, ?_⟩
  ·have h:=h4 i hi
   unfold okI at h
   simp only [J3,Kl] at h
   unfold X1 Uq
   rw [h.1,Bool.not_true,Bool.false_or]
   intro hq
   obtain ⟨j,hj,hne,hs⟩:=(Z3I hi).1 hq
   rcases Nat.lt_or_gt_of_ne hne with h0|h0
   ·simp_all
   ·have h':=h4 j hj
    unfold okI at h'
    simp only [J3,J6,Kl,K9] at h'
    grind [Z0v]
  all_goals simp_all [YI,Z0r,ZJ,QK,Z58]
 ·rintro ⟨⟨⟨⟨⟨h1,h2⟩,h3⟩,h4⟩,h5⟩,h6⟩
  have h5':∀j,j<t.M->ZP (t.outs j)=true:=fun j hj=>by
   simp_all [YI,Z0r]
  refine ⟨⟨⟨⟨⟨h1,h2⟩,h3⟩,fun i hi=> ?_⟩,h5'⟩, ?_⟩
  ·have h:=h4 i hi
   unfold X1 Uq at h
   unfold okI
   grind [Z3I]
  ·unfold ZJ at h6
   rw [if_pos (Z58 h5')] at h6
   split at h6
   ·assumption
   ·cases h6
def Z9e (A:LI->Int×Int):ZF:=fun args h K=>ZG none h true 20 args fun a=>match a with
 | [.agg l]=>∃t,Z0s l t/\t.Ok/\TxB t/\K (.bool (Yp A t))
 | _=>False
theorem Zc1 (args:List AV) (h:Z8) (K:AV->Prop) (hl:Z9e ZJ args h K):Zd PP 203 args h fun o h'=>∃v,o=.ret v/\h'=h/\K v:=by
 refine Zx.psumm (d:=20) (Zq _ _ _ _ _ hl fun a ha=> ?_)
 split at ha
 ·obtain ⟨t,h1,h2,h3,hK⟩:=ha
  refine ⟨_,(Zx.ev (Zht t) (Zph t _ h2 h3 rfl)).conv fun E r hr=>hr.head (fun _ hc=>h1.rel hc) (fun _ hc=>hc),fun _=>rfl, ?_⟩
  rw [Z59]
  exact hK
 simp_all
def smH (a b:TxS):Z8:=⟨2,[(0,.flat a.c),(1,.flat b.c)]⟩
def smP (l:Y2):Y2:=l++[(2,.ptr (some ⟨0,0,0,0,0⟩)),(3,.ptr (some ⟨1,0,0,0,0⟩))]
def Zhu (a b:TxS) (i:Nat):St:=⟨66,smP [(5,.int .i64 i)],smH a b,[]⟩
def Zhv (a b:TxS) (i:Nat):St:=⟨66,smP [(6,.int .i64 i)],smH a b,[]⟩
def smE (a b:TxS):St:=⟨66,smP [],smH a b,[]⟩
def smR (a b:TxS):St:=⟨66,smP [(4,.bool false)],smH a b,[]⟩
theorem Zpi (a b:TxS) (i:Nat) (Z1 Z2 Z3:Prop) (ha:a.Ok) (hb:b.Ok) (hN:a.N=b.N) (hi:i<=a.N) (h1:i<a.N->Z3G (a.ins i) (b.ins i)=true->Z1) (h2:i=a.N->Z2) (h3:i<a.N->Z3G (a.ins i) (b.ins i)=false->Z3):
  ZL G0 20 59 0 0 (Zhu a b i) (rdM 0 0 9 (Zhu a b (i+1)) (smE a b) (smR a b) (smR a b) Z1 Z2 Z3 False):=by
 refine @Eq.mpr _ (let j:=a.N;let n:=b.N;let d:=a.ins (Int.toNat (↑i:Int));let v:=d.name;let c:=b.ins (Int.toNat (↑i:Int));let u:=c.name;let t:=d.tag;let s:=c.tag;let r:=d.also;let C:=c.also;let B:=d.secret;let A:=c.secret;let q:=decide (a.num=a.num);let h:=decide (j=j);let z:=Zj a.ins;let p:=z=z;let g:=decide (a.M=a.M);let y:=Zi a.outs;let o:=y=y;let m:=decide (b.num=b.num);let f:=decide (n=n);let x:=Zj b.ins;let l:=x=x;let e:=decide (b.M=b.M);let w:=Zi b.outs;let k:=w=w;
 Z0 (decide ((↑i:Int)<(↑j:Int)))
 (Z0 (decide (0<=(↑i:Int)/\(↑i:Int)<(↑j:Int))) (Z0 (decide (0<=(↑i:Int)/\(↑i:Int)<(↑n:Int))) (Z0 (decide (v.length=32/\u.length=32)) (Z0 (decide (t.length=32/\s.length=32)) (Z0 (decide (r.length=32/\C.length=32)) (Z0 (decide (B.length=32/\A.length=32)) (Z0 (!(v==u&&(d.index==c.index&&(d.way==c.way&&(t==s&&(r==C&&B==A)))))) (Z0 q (Z0 h (p/\Z0 h (Z0 g (o/\Z0 g (Z0 m (Z0 f (l/\Z0 f (Z0 e (k/\Z0 e Z3 False) False) False) False) False) False) False) False) False) False) (Z0 (decide (wrap i64 ((↑i:Int)+1)=(↑(i+1):Int))) (Z0 q (Z0 h (p/\Z0 h (Z0 g (o/\Z0 g (Z0 m (Z0 f (l/\Z0 f (Z0 e (k/\Z0 e Z1 False) False) False) False) False) False) False) False) False) False) False)) False) False) False) False) False) False)
 (Z0 q (Z0 h (p/\Z0 h (Z0 g (o/\Z0 g (Z0 m (Z0 f (l/\Z0 f (Z0 e (k/\Z0 e Z2 False) False) False) False) False) False) False) False) False) False)) (by kernel_rfl) ?_
 conv=>zeta
 try simp only [Zc]
 try simp only [Zl]
 try simp only [Zg]
 try simp only [Zm]
 try simp only [Zn]
 try simp only [Zh]
 try simp only [Jk,true_and,and_true]
 refine ⟨fun hlt=> ?_,fun hge=>h2 (by omega)⟩
 have hlt:i<a.N:=by omega
 obtain ⟨e1,e2,e3,e4⟩:=ha.ins i hlt
 obtain ⟨d1,d2,d3,d4⟩:=hb.ins i (by omega)
 have hN0:=ha.n
 grind [w64,Z3G]
theorem Zpj (a b:TxS) (i:Nat) (Z1 Z2 Z3:Prop) (ha:a.Ok) (hb:b.Ok) (hN:a.M=b.M) (hi:i<=a.M) (h1:i<a.M->Qc (a.outs i) (b.outs i)=true->Z1) (h2:i=a.M->Z2) (h3:i<a.M->Qc (a.outs i) (b.outs i)=false->Z3):
  ZL G0 20 59 2 0 (Zhv a b i) (rdM 0 2 9 (Zhv a b (i+1)) (smE a b) (smR a b) (smR a b) Z1 Z2 Z3 False):=by
 refine @Eq.mpr _ (let j:=a.M;let n:=b.M;let d:=a.outs (Int.toNat (↑i:Int));let v:=d.owner;let c:=b.outs (Int.toNat (↑i:Int));let u:=c.owner;let t:=d.other;let s:=c.other;let r:=d.point;let C:=c.point;let B:=d.hash;let A:=c.hash;let q:=decide (a.num=a.num);let h:=decide (a.N=a.N);let z:=Zj a.ins;let p:=z=z;let g:=decide (j=j);let y:=Zi a.outs;let o:=y=y;let m:=decide (b.num=b.num);let f:=decide (b.N=b.N);let x:=Zj b.ins;let l:=x=x;let e:=decide (n=n);let w:=Zi b.outs;let k:=w=w;
 Z0 (decide ((↑i:Int)<(↑j:Int)))
 (Z0 (decide (0<=(↑i:Int)/\(↑i:Int)<(↑j:Int)))
 (Z0 (decide (0<=(↑i:Int)/\(↑i:Int)<(↑n:Int))) (Z0 (decide (v.length=32/\u.length=32)) (Z0 (decide (t.length=32/\s.length=32)) (Z0 (decide (r.length=32/\C.length=32)) (Z0 (decide (B.length=32/\A.length=32)) (Z0 (!(d.kind==c.kind&&(d.amount==c.amount&&(v==u&&(t==s&&(r==C&&(B==A&&(d.delay==c.delay&&d.expiry==c.expiry)))))))) (Z0 q (Z0 h (p/\Z0 h (Z0 g (o/\Z0 g (Z0 m (Z0 f (l/\Z0 f (Z0 e (k/\Z0 e Z3 False) False) False) False) False) False) False) False) False) False) (Z0 (decide (wrap i64 ((↑i:Int)+1)=(↑(i+1):Int))) (Z0 q (Z0 h (p/\Z0 h (Z0 g (o/\Z0 g (Z0 m (Z0 f (l/\Z0 f (Z0 e (k/\Z0 e Z1 False) False) False) False) False) False) False) False) False) False) False)) False) False) False) False) False) False)
 (Z0 q (Z0 h (p/\Z0 h (Z0 g (o/\Z0 g (Z0 m (Z0 f (l/\Z0 f (Z0 e (k/\Z0 e Z2 False) False) False) False) False) False) False) False) False) False)) (by kernel_rfl) ?_
 conv=>zeta
 try simp only [Zc]
 try simp only [Zl]
 try simp only [Zg]
 try simp only [Zm]
 try simp only [Zn]
 try simp only [Zh]
 try simp only [Jk,true_and,and_true]
 refine ⟨fun hlt=> ?_,fun hge=>h2 (by omega)⟩
 have hlt:i<a.M:=by omega
 obtain ⟨e1,e2,e3,e4⟩:=ha.outs i hlt
 obtain ⟨d1,d2,d3,d4⟩:=hb.outs i (by omega)
 have hN0:=ha.m
 grind [w64,Qc]
def ZmM (a b:TxS):Nat->St->KE->Prop:=goM 0 (Zhu a b 0) (a.Ok/\b.Ok/\a.N=b.N) (YB 0 a.N 9 (fun i=>Z3G (a.ins i) (b.ins i)=true) (fun i=>i=a.N) (fun i=>i<a.N/\Z3G (a.ins i) (b.ins i)=false) (fun _=>False) (fun _=>smE a b) (fun _=>smR a b) (fun _=>smR a b))
def ZmN (a b:TxS):Nat->St->KE->Prop:=goM 0 (Zhv a b 0) (a.Ok/\b.Ok/\a.M=b.M) (YB 2 a.M 9 (fun i=>Qc (a.outs i) (b.outs i)=true) (fun i=>i=a.M) (fun i=>i<a.M/\Qc (a.outs i) (b.outs i)=false) (fun _=>False) (fun _=>smE a b) (fun _=>smR a b) (fun _=>smR a b))
noncomputable def E40 (a b:TxS):Za:=(G0.withL 59 0 (ZmM a b)).withL 59 2 (ZmN a b)
theorem Zki (a b:TxS):(E40 a b).Ok:=by
 have h1:(G0.withL 59 0 (ZmM a b)).Ok:=Za.withGoM (N:=20) (S:=Zhu a b) Zr (by kernel_rfl) fun hC=>⟨rfl,fun i hi hgo=>Zpi a b i _ _ _ hC.1 hC.2.1 hC.2.2 hi (fun h1 h2=>⟨h2,h1⟩) (fun h=>h) (fun h1 h2=>⟨h1,h2⟩)⟩
 have h2:(G0.withL 59 2 (ZmN a b)).Ok:=Za.withGoM (N:=20) (S:=Zhv a b) Zr (by kernel_rfl) fun hC=>⟨rfl,fun i hi hgo=>Zpj a b i _ _ _ hC.1 hC.2.1 hC.2.2 hi (fun h1 h2=>⟨h2,h1⟩) (fun h=>h) (fun h1 h2=>⟨h1,h2⟩)⟩
 exact Za.withL_join (H:=G0) h1 rfl h2
theorem Zpk (a b:TxS) (F:Bool) (ha:a.Ok) (hb:b.Ok) (hF:F=Vw a b):
  evF (E40 a b) 20 59 [.agg a.c,.agg b.c] ⟨0,[]⟩ (YC 0 [] (.bool F) 0 []):=by
 refine @Eq.mpr _ (let o:=a.num;let n:=b.num;let e:=Z0 (decide (false=F)) True False;let d:=a.N;let h:=b.N;let c:=a.M;let g:=b.M;let p:=decide (o=o);let f:=decide (d=d);let y:=Zj a.ins;let x:=y=y;let m:=decide (c=c);let w:=Zi a.outs;let v:=w=w;let u:=decide (n=n);let l:=decide (h=h);let t:=Zj b.ins;let s:=t=t;let k:=decide (g=g);let r:=Zi b.outs;let q:=r=r;
 Z0 (o !=n) e (Z0 ((↑d:Int) !=(↑h:Int)) e (Z0 ((↑c:Int) !=(↑g:Int)) e (Z0 p (Z0 f (x/\Z0 f (Z0 m (v/\Z0 m (Z0 u (Z0 l (s/\Z0 l (Z0 k (q/\Z0 k ((TxS.Ok a/\TxS.Ok b/\d=h)/\∀(i:Nat),i<=d->(∀(j:Nat),j<i->(fun (i:Nat)=>Z3G (a.ins i) (b.ins i)=true) j)->(i=d->Z0 p (Z0 f (x/\Z0 f (Z0 m (v/\Z0 m (Z0 u (Z0 l (s/\Z0 l (Z0 k (q/\Z0 k ((TxS.Ok a/\TxS.Ok b/\c=g)/\∀(i:Nat),i<=c->(∀(j:Nat),j<i->(fun (i:Nat)=>Qc (a.outs i) (b.outs i)=true) j)->(i=c->Z0 (decide (true=F)) True False)/\(i<c/\Qc (a.outs i) (b.outs i)=false->e)/\(False->False)) False) False) False) False) False) False) False) False) False) False)/\(i<d/\Z3G (a.ins i) (b.ins i)=false->e)/\(False->False)) False) False) False) False) False) False) False) False) False) False)))) (by kernel_rfl) ?_
 conv=>zeta
 try simp only [Zc]
 try simp only [Zl]
 try simp only [Zg]
 try simp only [Zm]
 try simp only [Zn]
 try simp only [Zh]
 try simp only [true_and,and_true]
 have hn:a.num≠b.num->false=Vw a b:=fun h=>by
  simp_all [Vw]
 have hi:Z9a a.N a.ins b.N b.ins=false->false=Vw a b:=fun h=>by
  unfold Vw;rw [h,Bool.false_and,Kn]
 have ho:ZbX a.M a.outs b.M b.outs=false->false=Vw a b:=fun h=>by
  unfold Vw;rw [h,Kn,Kn]
 subst hF
 refine ⟨fun h=>hn (by simp_all),fun h0=>⟨fun h=>hi ?_,fun h1=>⟨fun h=>ho ?_,fun h2=> ?_⟩⟩⟩
 ·have h:a.N≠b.N:=fun e=>by rw [e] at h;simp at h
  unfold Z9a;rw [decide_eq_false h,Bool.false_and]
 ·have h:a.M≠b.M:=fun e=>by rw [e] at h;simp at h
  unfold ZbX;rw [decide_eq_false h,Bool.false_and]
 have h0:a.num=b.num:=by simp_all
 have h1:a.N=b.N:=by
  grind
 have h2:a.M=b.M:=by
  grind
 refine ⟨⟨ha,hb,h1⟩,fun i hi' hgo=>⟨fun hx=>⟨⟨ha,hb,h2⟩,fun k hk hgo2=>⟨fun hx2=> ?_,fun hx2=>ho ?_,fun h=>h⟩⟩,fun hx=>hi ?_,fun h=>h⟩⟩
 ·have e1:(List.range a.N).all (fun i=>Z3G (a.ins i) (b.ins i))=true:=by
   simp_all
  have e2:(List.range a.M).all (fun i=>Qc (a.outs i) (b.outs i))=true:=by
   simp_all
  unfold Vw Z9a ZbX
  rw [e1,e2,decide_eq_true h1,decide_eq_true h2,h0,beq_self_eq_true];rfl
 ·have e2:(List.range a.M).all (fun i=>Qc (a.outs i) (b.outs i))=false:=by
   grind
  unfold ZbX;rw [e2,Kn]
 ·have e1:(List.range a.N).all (fun i=>Z3G (a.ins i) (b.ins i))=false:=by
   grind
  unfold Z9a;rw [e1,Kn]
theorem Zer (args:List AV) (h:Z8) (K:AV->Prop) (hl:Zek Vw args h K):Zd PP 59 args h fun o h'=>∃v,o=.ret v/\h'=h/\K v:=by
 refine Zx.psumm (d:=20) (Zq _ _ _ _ _ hl fun a ha=> ?_)
 split at ha
 ·obtain ⟨a,b,h1,h2,⟨h3,h4⟩,hK⟩:=ha
  exact ⟨_,(Zx.ev (Zki a b) (Zpk a b _ h3 h4 rfl)).conv fun E r hr=>hr.head (fun _ hc=>h1.rel hc) (fun _ hc=>hc.head (fun _ hc=>h2.rel hc) (fun _ hc=>hc)),fun _=>rfl,hK⟩
 simp_all
end Go.Tk
end
