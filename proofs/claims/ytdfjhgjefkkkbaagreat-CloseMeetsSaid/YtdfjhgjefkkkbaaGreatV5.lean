/- V: part 5 of an engine (a symbolic evaluator, proved against the model) and of the walk by it. -/
import Derived.Test.YtdfjhgjefkkkbaaGreatV4
import Derived.OpenShut
import Derived.WideShapes
import Derived.ChangeSlices
import Derived.WalkKit
import Derived.ProofKit
import Derived.Below
import Derived.Handed
import Derived.Carry
set_option linter.unusedVariables false
set_option linter.unusedSimpArgs false
set_option maxRecDepth 100000
set_option maxHeartbeats 0
section
namespace Go.Tk
open IntKind (i64 u8 u32 u64 wrap)
inductive Ty where
 | bool
 | int (k:IntKind)
 | str
 | arr (k:IntKind) (n:Nat)
 | ints (k:IntKind)
 | rows (esz:Nat) (ts:List Ty)
def Zar (P:Program) (r:TypeId->Option (List Ty)) (sz:Nat):Nat->List Field->Option (List Ty)
 | o,[]=>if o=sz then some [] else none
 | o,f::fs=>if f.offset=o then (r f.type).bind fun a=>(Zar P r sz (o+P.cellsOf f.type) fs).bind fun b=>some (a++b) else none
def Z0J (P:Program):Nat->TypeId->Option (List Ty)
 | 0,_=>none
 | m+1,t=>match P.underlying t with
  | some .bool=>some [.bool]
  | some (.int k)=>some [.int k]
  | some .string=>some [.str]
  | some (.array n e)=>match P.underlying e with
   | some (.int k)=>if P.cellsOf t=n/\P.cellsOf e=1 then some [.arr k n] else none
   | _=>(Z0J P m e).bind fun ts=>if P.cellsOf t=n*P.cellsOf e then some (List.replicate n ts).flatten else none
  | some (.slice e)=>match P.underlying e with
   | some (.int k)=>if P.cellsOf e=1 then some [.ints k] else none
   | _=>(Z0J P m e).bind fun ts=>some [.rows (P.cellsOf e) ts]
  | some (.struct fs)=>Zar P (Z0J P m) (P.cellsOf t) 0 fs.toList
  | _=>none
mutual
inductive Z0x:Ty->AV->Prop
 | bool (b:Bool):Z0x .bool (.bool b)
 | int (k:IntKind) (n:Int) (h:(Lit.int k n).wf=true):Z0x (.int k) (.int k n)
 | str (s:ByteArray) (h:s.size<=maxLen):Z0x .str (.str s)
 | arr (k:IntKind) (n:Nat) (xs:LI) (h:xs.length=n) (hw:∀i,i<n->(Lit.int k (xs.getD i 0)).wf=true):Z0x (.arr k n) (.arr k n xs)
 | ints (k:IntKind) (xs:LI) (n:Nat) (h:xs.length=n) (hm:n<=maxLen) (hw:∀i,i<n->(Lit.int k (xs.getD i 0)).wf=true):Z0x (.ints k) (.vints k xs n)
 | rows (esz:Nat) (ts:List Ty) (n:Nat) (f:Nat->List AV) (hm:n<=maxLen) (h:∀i,i<n->Fits ts (f i)):Z0x (.rows esz ts) (.vrows esz n f n)
inductive Fits:List Ty->List AV->Prop
 | nil:Fits [] []
 | cons (t:Ty) (a:AV) (ts:List Ty) (vz:List AV) (h:Z0x t a) (r:Fits ts vz):Fits (t::ts) (a::vz)
end
theorem Fits.append:∀{ts wz:List Ty} {vz bs:List AV},Fits ts vz->Fits wz bs->Fits (ts++wz) (vz++bs)
 | _,_,_,_,.nil,h=>h
 | _,_,_,_,.cons t a ts vz h r,k=>.cons t a _ _ h (Fits.append r k)
def tE (w:World):Env:=⟨fun _=>none,fun a c=>w.cell? a=some c⟩
section
variable {H:Type} {enc:TypeId×Value->H} {P:Program} {w:World} {sp:Nat->Bool} {held:Bool}
theorem UH {k:IntKind} {n:Nat} {cs:List Value} (hl:cs.length=n) (h:∀i,i<n->∃z,cs[i]? =some (.int k z)/\(Lit.int k z).wf=true):
  ∃xs:LI,xs.length=n/\(∀i,i<n->(Lit.int k (xs.getD i 0)).wf=true)/\∀i,i<n->cs[i]? =some (.int k (xs.getD i 0)):=by
 refine ⟨cs.map fun v=>match v with|.int _ z=>z|_=>0,by simp [hl],fun i hi=> ?_,fun i hi=> ?_⟩
 ·obtain ⟨z,h1,h2⟩:=h i hi
  rw [J2,JT,h1]
  exact h2
 ·obtain ⟨z,h1,h2⟩:=h i hi
  rw [J2,JT,h1]
  rfl
theorem Zcl {α β:Type} {n:Nat} {p:Nat->α->β->Prop} [Inhabited α] [Inhabited β] (h:∀i,i<n->∃a b,p i a b):∃(f:Nat->α) (g:Nat->β),∀i,i<n->p i (f i) (g i):=
 ⟨fun i=>if hi:i<n then Classical.choose (h i hi) else default,fun i=>if hi:i<n then Classical.choose (Classical.choose_spec (h i hi)) else default,fun i hi=>by
  simp only [hi,dite_true]
  exact Classical.choose_spec (Classical.choose_spec (h i hi))⟩
theorem Z0W:∀(m:Nat) (t:TypeId) (ts:List Ty),Z0J P m t=some ts->∀(fuel:Nat) (cs:List Value) (x:DataW H×List MemPlace),DataW.trod enc P w 0 sp held fuel t cs=some x->∃vz,Fits ts vz/\Zn (tE w) vz cs
 | 0,_,_,ht=>by simp [Z0J] at ht
 | m+1,t,ts,ht=>by
  intro fuel cs x hx
  unfold Z0J at ht
  split at ht
  ·rename_i hu
   cases ht
   obtain ⟨b,rfl,_⟩:=DataW.trod_bool hu hx
   exact ⟨[.bool b],.cons _ _ _ _ (.bool b) .nil,.one _ _ _ _ rfl rfl (.bool b) .nil⟩
  ·rename_i k hu
   cases ht
   obtain ⟨n,rfl,_,hw⟩:=DataW.trod_int hu hx
   exact ⟨[.int k n],.cons _ _ _ _ (.int k n hw) .nil,.one _ _ _ _ rfl rfl (.int k n) .nil⟩
  ·rename_i hu
   cases ht
   obtain ⟨s,rfl,_,hw⟩:=DataW.trod_string hu hx
   exact ⟨[.str s],.cons _ _ _ _ (.str s hw) .nil,.one _ _ _ _ rfl rfl (.str s) .nil⟩
  ·rename_i n e hu
   split at ht
   ·rename_i k he
    split at ht
    ·rename_i hc
     obtain ⟨hc,h1⟩:=hc
     cases ht
     obtain ⟨xs,q,rfl,rfl,hl,hn,hi⟩:=DataW.trod_array hu hx
     rw [hc] at hl
     obtain ⟨zs,z1,z2,z3⟩:=UH (k:=k) hl fun i hlt=>by
      have:=hi i hlt
      rw [Jd (by omega),h1] at this
      obtain ⟨z,e1,_,e2⟩:=DataW.trod_int he this
      refine ⟨z, ?_,e2⟩
      rw [JL] at e1
      have:=congrArg (fun l=>l[0]?) e1
      simpa using this
     refine ⟨[.arr k n zs],.cons _ _ _ _ (.arr k n zs z1 z2) .nil, ?_⟩
     have:cs=intCells k n zs++[]:=by
      rw [JU]
      refine Kc fun i=> ?_
      by_cases hlt:i<n
      ·rw [z3 i hlt]
       simp [intCells,hlt]
      ·rw [Jl (by omega),Jl (by rw [Z8];omega)]
     rw [this]
     exact .arr _ _ _ _ _ .nil
    ·cases ht
   ·obtain ⟨es,e1,e2⟩:=Jz.1 ht
    split at e2
    ·rename_i hc
     cases e2
     obtain ⟨xs,q,rfl,rfl,hl,hn,hi⟩:=DataW.trod_array hu hx
     rw [hc] at hl
     have key:∀j,j<=n->∃vz,Fits (List.replicate j es).flatten vz/\Zn (tE w) vz (cs.take (j*P.cellsOf e)):=by
      intro j
      induction j with
      | zero=>intro _;exact ⟨[],.nil,by simp;exact .nil⟩
      | succ j ih=>
       intro hj
       obtain ⟨vz,f1,f2⟩:=ih (by omega)
       have:=hi j (by omega)
       rw [Jd (by omega)] at this
       obtain ⟨bs,p1,p2⟩:=Z0W m _ _ e1 _ _ _ this
       refine ⟨vz++bs, ?_, ?_⟩
       ·rw [List.replicate_succ',List.flatten_append,List.flatten_singleton]
        exact f1.append p1
       ·rw [Nat.succ_mul,List.take_add]
        exact f2.append p2
     obtain ⟨vz,f1,f2⟩:=key n (J5 _)
     rw [K8 (by omega)] at f2
     exact ⟨vz,f1,f2⟩
    ·cases e2
  ·rename_i e hu
   split at ht
   ·rename_i k he
    split at ht
    ·rename_i hc
     cases ht
     rcases DataW.trod_slice hu hx with ⟨rfl,_⟩|⟨a,len,cap,elems,rest,n,rfl,rfl,_,_,hl,hm,hlen,hi,_,_⟩
     ·exact ⟨[.vints k [] 0],.cons _ _ _ _ (.ints k [] 0 rfl (JI _) fun i hi=>absurd hi (Kg i)) .nil,.one _ _ _ _ rfl rfl (.vintsNil _ _ _ rfl rfl) .nil⟩
     ·obtain ⟨zs,z1,z2,z3⟩:=UH (k:=k) (n:=len) (cs:=(List.range len).map fun i=>(w.cell? (a.add i)).getD undef) (by simp) fun i hlt=>by
       have:=hi i hlt
       rw [Jd (by omega),hc,JL] at this
       obtain ⟨cs',h1,h2⟩:=Jz.1 this
       obtain ⟨z,rfl,_,e2⟩:=DataW.trod_int he h2
       refine ⟨z, ?_,e2⟩
       simp [hlt,Go.ChangeShapes.cell_of_cells?_one h1]
      refine ⟨[.vints k zs len],.cons _ _ _ _ (.ints k zs len z1 (by omega) z2) .nil,.one _ _ _ _ rfl rfl (.vints k zs len a cap (by omega) (by omega) fun i hlt=> ?_) .nil⟩
      rw [z1] at hlt
      have:=hi i hlt
      rw [Jd (by omega),hc,JL] at this
      obtain ⟨cs',h1,h2⟩:=Jz.1 this
      obtain ⟨z,rfl,_,e2⟩:=DataW.trod_int he h2
      have h3:=z3 i hlt
      have h4:=Go.ChangeShapes.cell_of_cells?_one h1
      simp [hlt,h4] at h3
      show w.cell? (a.add i)=_
      rw [h4,h3,J2]
    ·cases ht
   ·obtain ⟨es,h1,h2⟩:=Jz.1 ht
    cases h2
    rcases DataW.trod_slice hu hx with ⟨rfl,_⟩|⟨a,len,cap,elems,rest,n,rfl,rfl,_,_,hl,hm,hlen,hi,_,_⟩
    ·exact ⟨[.vrows (P.cellsOf e) 0 (fun _=>[]) 0],.cons _ _ _ _ (.rows _ _ 0 _ (JI _) fun i hi=>absurd hi (Kg i)) .nil,.one _ _ _ _ rfl rfl (.vrowsNil _ _ _ _ rfl rfl) .nil⟩
    ·obtain ⟨f,g,hfg⟩:=Zcl (n:=len) (p:=fun i (vz:List AV) (vs:List Value)=>Fits es vz/\Zn (tE w) vz vs/\w.cells? 0 (a.add (i*P.cellsOf e)) (P.cellsOf e)=some vs) fun i hlt=>by
      have:=hi i hlt
      rw [Jd (by omega)] at this
      obtain ⟨cs',k1,k2⟩:=Jz.1 this
      obtain ⟨vz,f1,f2⟩:=Z0W m _ _ h1 _ _ _ k2
      exact ⟨vz,cs',f1,f2,k1⟩
     refine ⟨[.vrows (P.cellsOf e) len f len],.cons _ _ _ _ (.rows _ _ len f (by omega) fun i hlt=>(hfg i hlt).1) .nil,.one _ _ _ _ rfl rfl (.vrows _ _ _ _ a cap g (J5 _) hl (fun i hlt=>(hfg i hlt).2.1) (fun i hlt=>(World.cells?_some (hfg i hlt).2.2).2.1) fun i j c hlt hj=> ?_) .nil⟩
     obtain ⟨_,hl',hc'⟩:=World.cells?_some (hfg i hlt).2.2
     have hj':j<P.cellsOf e:=by
      rcases J7 j (P.cellsOf e) with h|h
      ·exact h
      ·rw [Jl (by omega)] at hj;cases hj
     have:=hc' j hj'
     rw [hj] at this
     show w.cell? (a.add (i*P.cellsOf e+j))=some c
     rw [<-this]
     rw [Addr.add_add]
  ·rename_i fs hu
   obtain ⟨xs,n,rfl,rfl,hl,hn,hf⟩:=DataW.trod_struct hu hx
   have key:∀(l:List Field) (o:Nat) (ts:List Ty) (i0:Nat),Zar P (Z0J P m) (P.cellsOf t) o l=some ts->(∀i f,l[i]? =some f->fs[i0+i]? =some f)->∃vz,Fits ts vz/\Zn (tE w) vz (cs.drop o):=by
    intro l
    induction l with
    | nil=>
     intro o ts i0 h _
     unfold Zar at h
     split at h
     ·rename_i ho
      cases h
      exact ⟨[],.nil,by rw [List.drop_eq_nil_of_le (by omega)];exact .nil⟩
     ·cases h
    | cons f l ih=>
     intro o ts i0 h hl'
     unfold Zar at h
     split at h
     ·rename_i ho
      obtain ⟨a,h1,h2⟩:=Jz.1 h
      obtain ⟨b,h3,h4⟩:=Jz.1 h2
      cases h4
      have h0:fs[i0]? =some f:=hl' 0 f rfl
      have hlt:i0<fs.size:=by
       rcases J7 i0 fs.size with h|h
       ·exact h
       ·rw [Jj (by omega)] at h0;cases h0
      have k:=hf i0 f h0
      rw [Jd (by omega),ho] at k
      obtain ⟨vz,p1,p2⟩:=Z0W m _ _ h1 _ _ _ k
      obtain ⟨bs,q1,q2⟩:=ih (o+P.cellsOf f.type) b (i0+1) h3 fun i g hg=>by
       have:=hl' (i+1) g hg
       rw [<-this];congr 1;omega
      refine ⟨vz++bs,p1.append q1, ?_⟩
      have e:cs.drop o=(cs.drop o).take (P.cellsOf f.type)++cs.drop (o+P.cellsOf f.type):=by
       rw [<-List.drop_drop,List.take_append_drop]
      rw [e]
      exact p2.append q2
     ·cases h
   obtain ⟨vz,h1,h2⟩:=key fs.toList 0 ts 0 ht fun i f h=>by simpa using h
   exact ⟨vz,h1,by simpa using h2⟩
  ·cases ht
def isAgg (P:Program) (t:TypeId):Bool:=match P.underlying t with
 | some (.struct _)|some (.array _ _)=>true
 | _=>false
inductive Z38:Bool->List Ty->AV->Prop
 | agg (ts:List Ty) (vz:List AV) (h:Fits ts vz):Z38 true ts (.agg vz)
 | one (t:Ty) (a:AV) (h:Z0x t a):Z38 false [t] a
theorem Zas {m:Nat} {t:TypeId} {ts:List Ty} (ht:Z0J P m t=some ts) (hg:isAgg P t=false) {v:Value} {r:Reach} {b:Nat} (hv:Value.okWide P w r b t v):
  v.cells.toList=[v]/\∃τ,ts=[τ]/\∀k n,τ≠.arr k n:=by
 cases m with
 | zero=>simp [Z0J] at ht
 | succ m=>
  unfold Z0J at ht
  unfold isAgg at hg
  split at ht
  ·rename_i hu;cases ht;obtain ⟨b,rfl⟩:=Go.WideShapes.okWide_bool hu hv;exact ⟨rfl,_,rfl,fun _ _ h=>by cases h⟩
  ·rename_i hu;cases ht;obtain ⟨b,rfl⟩:=Go.WideShapes.okWide_int hu hv;exact ⟨rfl,_,rfl,fun _ _ h=>by cases h⟩
  ·rename_i hu;cases ht;obtain ⟨b,rfl⟩:=Go.WideShapes.okWide_string hu hv;exact ⟨rfl,_,rfl,fun _ _ h=>by cases h⟩
  ·rename_i hu;simp [hu] at hg
  ·rename_i hu
   obtain ⟨a,l,c,rfl⟩:=Go.WideShapes.okWide_slice hu hv
   split at ht
   ·split at ht
    ·cases ht;exact ⟨rfl,_,rfl,fun _ _ h=>by cases h⟩
    ·cases ht
   ·obtain ⟨es,h1,h2⟩:=Jz.1 ht
    cases h2;exact ⟨rfl,_,rfl,fun _ _ h=>by cases h⟩
  ·rename_i hu;simp [hu] at hg
  ·cases ht
theorem Zat {m:Nat} {t:TypeId} {ts:List Ty} {g:Bool} (ht:Z0J P m t=some ts) (hg:isAgg P t=g) {v:Value} {r:Reach} {b:Nat} (hv:Value.okWide P w r b t v) {d:DataW H} {ps:List MemPlace} (h:DataW.Trod enc P w 0 sp held t v d ps):
  ∃a,Z38 g ts a/\Zc (tE w) a v:=by
 obtain ⟨fuel,hf⟩:=h
 obtain ⟨vz,f1,f2⟩:=Z0W m _ _ ht _ _ _ hf
 cases g with
 | true=>
  have:∃cs,v=.agg cs:=by
   unfold isAgg at hg
   unfold Value.okWide at hv
   split at hg
   ·rename_i hu;simp only [hu] at hv;obtain ⟨cs,rfl,_⟩:=hv;exact ⟨cs,rfl⟩
   ·rename_i hu;simp only [hu] at hv;obtain ⟨cs,rfl,_⟩:=hv;exact ⟨cs,rfl⟩
   ·cases hg
  obtain ⟨cs,rfl⟩:=this
  refine ⟨.agg vz,.agg _ _ f1, ?_⟩
  have:cs=(Value.cells (.agg cs)).toList.toArray:=by simp [Value.cells]
  rw [this]
  exact .agg _ _ f2
 | false=>
  obtain ⟨h1,τ,rfl,h2⟩:=Zas ht hg hv
  rw [h1] at f2
  cases f1 with
  | cons _ a _ vz f r=>
   cases r
   generalize hL:[v]=L at f2
   cases f2 with
   | one _ _ _ _ h0 h1 h t=>cases hL;exact ⟨_,.one _ _ f,h⟩
   | arr k n xs _ cs t=>cases f;exact absurd rfl (h2 _ _)
end
end Go.Tk
end
section
namespace Go.Tk
open IntKind (i64 u8 u32 u64 wrap)
open Go.ChangeShapes Go.WideShapes Go.RowKit
theorem Zew (w:World):Emb (tE w) ⟨0,[]⟩ w where
 fresh:=fun _ _=>rfl
 lt:=fun x B h=>by simp [Z9.get,ZC] at h
 own:=fun x B h=>by simp [Z9.get,ZC] at h
 disj:=fun x y B B' b N N' h=>absurd h (by simp [Z9.get,ZC])
 imm:=fun _ _ h=>h
 sep:=fun a c x B N _ h=>absurd h (by simp [Z9.get,ZC])
theorem Zh.topT {P:Program} {f:FuncId} {args:List AV} (h:Zh P f args ⟨0,[]⟩ fun o h'=>∃v,o=.ret v/\h'=⟨0,[]⟩/\v=.bool true) {w:World} {rs:List Value} (hl:Zw (tE w) args rs):
  Calls P f rs.toArray w fun e w'=>e=.returned (.bool true)/\Go.RowKit.Below w.heap.size w w':=by
 refine (h (tE w) w rs (Zew w) hl).mono ?_
 rintro e w' ⟨E',o,h',⟨v,rfl,rfl,hv⟩,hev,hor⟩
 obtain rfl:=hv
 cases hor with
 | ret v r hr=>
  cases hr
  refine ⟨rfl,hev.os,hev.tape,hev.output.1,hev.size,fun k hk=>hev.keep k hk ?_⟩
  rintro ⟨x,B,N,hx,_⟩
  exact absurd hx (by simp [Z9.get,ZC])
def Z6C (P:Program) (m:Nat):List TypeId->Option (List (Bool×List Ty))
 | []=>some []
 | t::r=>(Z0J P m t).bind fun a=>(Z6C P m r).bind fun b=>some ((isAgg P t,a)::b)
inductive Z39:List (Bool×List Ty)->List AV->Prop
 | nil:Z39 [] []
 | cons (g:Bool) (ts:List Ty) (a:AV) (r:List (Bool×List Ty)) (vz:List AV) (h:Z38 g ts a) (k:Z39 r vz):Z39 ((g,ts)::r) (a::vz)
section
variable {H:Type} {enc:TypeId×Value->H} {P:Program} {w:World}
theorem Z3a {m:Nat} {r:Reach} {b:Nat}:∀{ts:List TypeId} {τs:List (Bool×List Ty)} {vs:List Value} {ds:List (DataW H)} {ps:List MemPlace},Z6C P m ts=some τs->(∀(j:Nat) t v,ts[j]? =some t->vs[j]? =some v->Value.okWide P w r b t v)->
  DataW.TrodAll enc P w 0 (fun _=>true) true ts vs ds ps->∃vz,Z39 τs vz/\Zw (tE w) vz vs
 | [],τs,vs,ds,ps,ha,_,h=>by
  cases ha
  obtain ⟨rfl,_,_⟩:=trodAll_nil h
  exact ⟨[],.nil,.nil⟩
 | t::ts,τs,vs,ds,ps,ha,hv,h=>by
  obtain ⟨a,h1,h2⟩:=Jz.1 ha
  obtain ⟨c,h3,h4⟩:=Jz.1 h2
  cases h4
  obtain ⟨v,vs',d,ds',p,q,rfl,rfl,rfl,k1,k2⟩:=trodAll_cons h
  obtain ⟨x,f1,f2⟩:=Zat h1 rfl (hv 0 t v rfl rfl) k1
  obtain ⟨vz,g1,g2⟩:=Z3a h3 (fun j t' v' e1 e2=>hv (j+1) t' v' e1 e2) k2
  exact ⟨x::vz,.cons _ _ _ _ _ f1 g1,.cons _ _ _ _ f2 g2⟩
theorem Z0y {sp:Nat->Bool} {held:Bool}:∀{ts:List TypeId} {vs:List Value} {ds:List (DataW H)} {ps:List MemPlace},DataW.TrodAll enc P w 0 sp held ts vs ds ps->ds.length=ts.length
 | [],_,_,_,h=>by obtain ⟨_,rfl,_⟩:=trodAll_nil h;rfl
 | t::ts,_,_,_,h=>by
  obtain ⟨v,vs',d,ds',p,q,rfl,rfl,rfl,k1,k2⟩:=trodAll_cons h
  simp [Z0y k2]
theorem Z3b {W':World} (laid:laidOutB P=true) (hb:Below w.heap.size w W'):∀{ts:List TypeId} {vs:List Value} {ds:List (DataW H)} {ps:List MemPlace},ts.all (fun t=>P.readableRec t&&decide (t<P.types.size))=true->
  DataW.TrodAll enc P w 0 (fun _=>true) true ts vs ds ps->DataW.TrodAll enc P W' 0 (fun b=>decide (b<w.heap.size)) true ts vs ds ps
 | [],_,_,_,_,h=>by obtain ⟨rfl,rfl,rfl⟩:=trodAll_nil h;exact trodAll_mk0
 | t::ts,_,_,_,hr,h=>by
  obtain ⟨v,vs',d,ds',p,q,rfl,rfl,rfl,k1,k2⟩:=trodAll_cons h
  simp only [List.all_cons,J3,decide_eq_true_eq] at hr
  have lt:∀x∈p,x.block<w.heap.size:=by obtain ⟨m,hm⟩:=k1;exact DataW.trod_lt m _ _ _ hm
  exact trodAll_cons_mk (Below.trod laid hr.1.1 hr.1.2 k1 hb lt) (Z3b laid hb hr.2 k2)
end
theorem lifted_gen {H:Type} {enc:TypeId×Value->H} {C:Checked} {os:Os} {f:FuncId} {fn:Func} {s:ChangeSpec} {conds:List PathCond} {tb:TypeId} {m:Nat} {τs:List (Bool×List Ty)}
  (own:ownKnob C.prog.godebug=none) (laid:laidOutB C.prog=true) (started:os.Started) (noInit:C.prog.inits.idxOf? f=none) (hfn:C.prog.funcs[f]? =some fn)
  (witness:∃(w:World) (tape:Tape) (i:Input),w.os=os/\(w.forCall tape i).Shaped C.prog/\i.vars=[]/\Input.okWide C.prog (w.forCall tape i) .any w.heap.size f i/\
   s.pre6 enc C.prog fn conds false (w.forCall tape i).memory i.args/\({}:Assume).holds C.prog (lone (Frame.enter C.prog f i.args .normal) [] (w.forCall tape i)))
  (hvars:s.vars=[]) (hr:fn.resultTypes= #[tb]) (hb:C.prog.underlying tb=some .bool) (hread:fn.params.toList.all (fun t=>C.prog.readableRec t&&decide (t<C.prog.types.size))=true) (hτ:Z6C C.prog m fn.params.toList=some τs)
  (hs:∀ds:List (DataW H),ds.length=fn.params.toList.length->s.fn H ds={ results:=[.lit (.bool true)],args:=ds})
  (walk:∀vz,Z39 τs vz->Zh C.prog f vz ⟨0,[]⟩ fun o h'=>∃v,o=.ret v/\h'=⟨0,[]⟩/\v=.bool true):
  ReturnsInHanded {} C os f .any (s.pre6 enc C.prog fn conds false) (s.post enc C.prog fn false true false false):=by
 refine returnsInHanded_of_change own started noInit hfn witness ?_
 intro W base args ds gs before hval hW _ _
 have hW':=hW
 obtain ⟨p,q,hA,hV,rfl,hfz,hnd⟩:=hW
 have hV0:=hV
 rw [hvars] at hV
 obtain ⟨rfl,rfl⟩:=trodVars_none hV
 obtain ⟨vz,f1,f2⟩:=Z3a hτ (fun j t v e1 e2=>hval j t v (by simpa using e1) (by simpa using e2)) hA
 have e0:args=args.toList.toArray:=by simp
 have key:=(walk vz f1).topT f2
 rw [<-e0] at key
 refine key.mono fun e W' ⟨he,bel⟩=> ?_
 subst he
 have hfn':=hs ds (Z0y hA)
 refine ⟨_,rfl,ds,[],_,[],p,[],hW', ?_, ?_, ?_,bel.frame _,fun h=>by cases h⟩
 ·rw [JU,hfn',hr]
  exact trodAll_mk1 (shut_bool hb _)
 ·rw [JU,hfn']
  exact Z3b laid bel hread hA
 ·rw [JU,hfn',hvars]
  rfl
end Go.Tk
end
section
namespace Go.Tk
open IntKind (i64 u8 u32 u64 wrap)
variable {xs:LI} {G:Zf} {α:Type} {g':Nat->List AV} {args:List AV} {Tg:LI->TxS->LI}
structure Bytes (xs:LI):Prop where
 h:∀i:Nat,0<=xs.getD i 0/\xs.getD i 0<=255
theorem Bytes.drop (h:Bytes xs) (n:Nat):Bytes (xs.drop n):=⟨fun i=>by
 have:=h.h (n+i)
 rw [J2] at this
 rw [J2,Jf]
 exact this⟩
def inZ:InS:=⟨Z0,0,0,Z0,Z0,Z0⟩
def Zho:Zp:=⟨0,0,Z0,Z0,Z0,Z0,0,0⟩
theorem Bytes.getD (h:Bytes xs) (i:Nat):0<=xs.getD i 0/\xs.getD i 0<256:=by
 have:=h.h i
 omega
def Zex (R:Zp->Bool):ZJ:=fun args _ K=>match args with
 | [.agg [.int .i64 kd,.int .i64 am,.arr .u8 32 ow,.arr .u8 32 ot,.arr .u8 32 po,.arr .u8 32 ha,.int .i64 de,.int .i64 ex]]=>Z6 (ow.length=32/\ot.length=32/\po.length=32/\ha.length=32) ((Bytes ow/\Bytes ot)/\K (.bool (R ⟨kd,am,ow,ot,po,ha,de,ex⟩)))
 | _=>False
noncomputable def E35:Zf:=(G0.withP 263 (inS ZU)).withP 264 (Zex ZH)
def Zey {ι:Type} (S:ι->Nat->St->KE->Prop):Nat->St->KE->Prop:=fun k s X=>∃i,S i k s X
theorem Zf.withL_ex {ι:Type} (hG:G.Ok) {f:FuncId} {id:Nat} {S:ι->Nat->St->KE->Prop} (h1:∀i,(G.withL f id (S i)).Ok):(G.withL f id (Zey S)).Ok where
 draw:=hG.draw
 psumm:=hG.psumm
 fsumm:=hG.fsumm
 lsumm:=fun f' id' S' fn c body hS hf hb hm k s X hs=>by
  have hS0:=hS
  simp only [Zf.withL] at hS
  split at hS
  ·rename_i hq
   cases hS
   obtain ⟨i,hs⟩:=hs
   have a1:=(h1 i).lsumm f' id' (S i) fn c body
   simp only [Zf.withL,hq] at a1
   exact a1 trivial hf hb hm k s X hs
  ·exact hG.lsumm f' id' S' fn c body hS hf hb hm k s X hs
def rgH (t:TxS):Z9:=⟨1,[(0,.flat t.c)]⟩
def rgP:AV:=.ptr (some ⟨0,0,0,0,0⟩)
def Zez (t:TxS) (i:Nat):St:=⟨106,[(3,.int .i64 i),(1,rgP)],rgH t,[]⟩
def Zhp (t:TxS) (i k:Nat):St:=⟨106,[(4,.int .i64 k),(3,.int .i64 i),(1,rgP)],rgH t,[]⟩
def rgR (t:TxS):St:=⟨106,[(2,.bool false),(1,rgP)],rgH t,[]⟩
def Zhq (t:TxS):St:=⟨106,[(1,rgP)],rgH t,[]⟩
noncomputable def Zhr (t:TxS):Zf:=E35.withL 203 2 (Zey fun i:Nat=>goM 0 (Zhp t i 0) (i<t.N/\t.N<=24/\t.Ok) (XY 2 i 9 (fun k=>sameAt t.ins (t.ins i) k=false) (fun k=>k=i) (fun k=>k<i/\sameAt t.ins (t.ins i) k=true) (fun _=>False) (fun _=>Zez t i) (fun _=>rgR t) (fun _=>rgR t)))
def okI (t:TxS) (i:Nat):Bool:=ZU (t.ins i)&& !((List.range i).any (sameAt t.ins (t.ins i)))
theorem ZhX (t:TxS) (i:Nat) (Z1 Z2 Z3:Prop) (hi:i<=t.N) (hN:t.N<=24) (ht:t.Ok) (h1:i<t.N->okI t i=true->Z1) (h2:i=t.N->Z2) (h3:i<t.N->okI t i=false->Z3):
  ZW (Zhr t) 20 203 0 0 (Zez t i) (rdM 0 0 9 (Zez t (i+1)) (Zhq t) (rgR t) (rgR t) Z1 Z2 Z3 False):=by
 refine @Eq.mpr _ (let d:=t.N;let c:=t.ins (Int.toNat (↑i:Int));let o:=c.name;let n:=c.tag;let m:=c.also;let l:=c.secret;let f:=decide (t.num=t.num);let a:=decide (d=d);let e:=t.ins;let r:=Zd e;let h:=r=r;let b:=decide (t.M=t.M);let q:=Ze t.outs;let g:=q=q;let p:=Z5 f (Z5 a (h/\Z5 a (Z5 b (g/\Z5 b Z3))));
 Z7 (decide ((↑i:Int)<(↑d:Int))) (Z6 (0<=(↑i:Int)/\(↑i:Int)<(↑d:Int)) (Z6 (o.length=32/\n.length=32/\m.length=32/\l.length=32) (Z7 (!ZU (InS.mk o c.index c.way n m l)) p (∃(i_1:Nat),Z6 ((↑i:Int)=(↑i_1:Int)) (Z5 f (Z5 a (h/\Z5 a (Z5 b (g/\Z5 b ((i_1<d/\d<=24/\TxS.Ok t)/\∀(i_2:Nat),i_2<=i_1->(∀(j:Nat),j<i_2->(fun (k:Nat)=>sameAt e (e i_1) k=false) j)->(i_2=i_1->Z6 (wrap i64 ((↑i_1:Int)+1)=(↑(i+1):Int)) (Z5 f (Z5 a (h/\Z5 a (Z5 b (g/\Z5 b Z1))))))/\(i_2<i_1/\sameAt e (e i_1) i_2=true->p)/\(False->Z5 f (Z5 a (h/\Z5 a (Z5 b (g/\Z7 b False False))))))))))))))) (Z5 f (Z5 a (h/\Z5 a (Z5 b (g/\Z5 b Z2)))))) (by kernel_rfl) ?_
 conv=>zeta
 try simp only [vcA]
 try simp only [vcB]
 try simp only [vcC]
 unfold okI at h1 h3
 refine ⟨fun hlt=> ?_,fun hge=>h2 (by omega)⟩
 have hlt:i<t.N:=by omega
 obtain ⟨e1,e2,e3,e4⟩:=ht.ins i hlt
 have h1:=h1 hlt
 have h3:=h3 hlt
 refine ⟨by omega,⟨e1,e2,e3,e4⟩,fun q=>h3 ?_,fun q=>⟨i,rfl,⟨hlt,hN,ht⟩,fun m hm hgo=>⟨fun hq=>⟨w64 (by omega),h1 ?_⟩,fun hq=>h3 ?_,fun h=>h⟩⟩⟩
 ·have q:ZU (t.ins i)=false:=by simpa using q
  rw [q,Bool.false_and]
 ·subst hq
  have q:ZU (t.ins m)=true:=by simpa using q
  rw [q,JW]
  simp only [Ja,JF,Jq]
  intro j hj
  rw [hgo j hj]
  decide
 ·have:(List.range i).any (sameAt t.ins (t.ins i))=true:=by
   rw [List.any_eq_true]
   exact ⟨m,by simpa using hq.1,hq.2⟩
  rw [this,Kl,Bool.and_false]
def ZeA (t:TxS) (i:Nat):Int:=(amL t.outs i).sum
structure TxB (t:TxS):Prop where
 h:∀i,i<t.M->Bytes (t.outs i).owner/\Bytes (t.outs i).other
def Z49 (t:TxS):Bool:=decide (0<=t.num/\t.num<=2147483647)&&decide (1<=t.N/\t.N<=24)&&decide (1<=t.M/\t.M<=24)&&(List.range t.N).all (okI t)&&(List.range t.M).all (fun i=>ZH (t.outs i))&&decide (ZeA t t.M<=1125899906842624)
theorem Wu {g:Nat->InS} {x:InS} {j:Nat}:sameAt g x j=true↔(g j).name=x.name/\(g j).index=x.index:=by
 unfold sameAt UF;simp
theorem Z2a {N:Nat} {g:Nat->InS} {i:Nat} (hi:i<N):VV N g (g i)=true↔∃j,j<N/\j≠i/\sameAt g (g i) j=true:=by
 have hself:sameAt g (g i) i=true:=Wu.2 ⟨rfl,rfl⟩
 unfold VV
 rcases WK (sameAt g (g i)) N with ⟨_,hn⟩|⟨f,hf,ef,pf,hb⟩
 ·rw [hn i hi] at hself;cases hself
 rcases WK (sameAt (Q7 N g) (g i)) N with ⟨_,hn⟩|⟨l,hl,el,pl,hb'⟩
 ·have:=hn (N-1-i) (by omega)
  have e:sameAt (Q7 N g) (g i) (N-1-i)=sameAt g (g i) i:=by unfold sameAt Q7;congr 1;congr 1;omega
  rw [e,hself] at this;cases this
 have er:∀q,q<N->sameAt (Q7 N g) (g i) q=sameAt g (g i) (N-1-q):=fun q _=>rfl
 rw [er l hl] at pl
 rw [ef,el,bne_iff_ne]
 have hfi:f<=i:=by
  rcases J7 i f with h|h
  ·rw [hb i h] at hself;cases hself
  ·exact h
 have hli:i<=N-1-l:=by
  rcases J7 (N-1-i) l with h|h
  ·have:=hb' _ h
   rw [er _ (by omega),show N-1-(N-1-i)=i by omega,hself] at this;cases this
  ·omega
 constructor
 ·intro h
  rcases J7 f i with h1|h1
  ·exact ⟨f,hf,by omega,pf⟩
  ·exact ⟨N-1-l,by omega,by omega,pl⟩
 ·rintro ⟨j,hj,hne,pj⟩ h
  rcases J7 j f with h1|h1
  ·rw [hb j h1] at pj;cases pj
  ·have:=hb' (N-1-j) (by omega)
   rw [er _ (by omega),show N-1-(N-1-j)=j by omega,pj] at this;cases this
theorem Z3c {t:TxS} (h:∀j,j<t.M->ZH (t.outs j)=true):allIn 1125899906842624 (amL t.outs t.M)=true:=by
 unfold allIn
 rw [Ja,JF]
 intro j hj
 have hj:j<t.M:=by simpa [Qy] using hj
 have:=(VX (h j hj)).2.1
 have e:(amL t.outs t.M).getD j 0=(t.outs j).amount:=by simp [amL,J2,hj]
 unfold Yg
 rw [e]
 unfold Vr
 simp
 omega
theorem Z3d (t:TxS):Z49 t=Y5 ZB t:=by
 rw [Bool.eq_iff_iff]
 unfold Z49 Y5
 simp only [J3,decide_eq_true_eq,K5,Jq,Ja,JF,beq_iff_eq]
 constructor
 ·rintro ⟨⟨⟨⟨⟨h1,h2⟩,h3⟩,h4⟩,h5⟩,h6⟩
  refine ⟨⟨⟨⟨⟨h1,h2⟩,h3⟩,fun i hi=> ?_⟩,fun i hi=> ?_⟩, ?_⟩
  ·have h:=h4 i hi
   unfold okI at h
   simp only [J3,Ja,JF,Jq] at h
   unfold YK Vo
   rw [h.1,Kl,Bool.false_or]
   intro hq
   obtain ⟨j,hj,hne,hs⟩:=(Z2a hi).1 hq
   rcases Nat.lt_or_gt_of_ne hne with h0|h0
   ·exact h.2 j h0 hs
   ·have h':=h4 j hj
    unfold okI at h'
    simp only [J3,Ja,JF,Jq] at h'
    refine h'.2 i h0 ?_
    rw [Wu] at hs⊢
    exact ⟨hs.1.symm,hs.2.symm⟩
  ·unfold Yf Q8
   rw [h5 i hi]
   decide
  ·unfold ZB
   unfold ZeA at h6;rw [if_pos (Z3c h5),if_pos h6]
 ·rintro ⟨⟨⟨⟨⟨h1,h2⟩,h3⟩,h4⟩,h5⟩,h6⟩
  have h5':∀j,j<t.M->ZH (t.outs j)=true:=fun j hj=>by
   have:=h5 j hj
   unfold Yf Q8 at this
   simpa using this
  refine ⟨⟨⟨⟨⟨h1,h2⟩,h3⟩,fun i hi=> ?_⟩,h5'⟩, ?_⟩
  ·have h:=h4 i hi
   unfold YK Vo at h
   simp only [JH,not_or,Ja,Bool.not_eq_false,Bool.not_eq_true] at h
   unfold okI
   rw [h.1,JW]
   simp only [Ja,JF,Jq]
   intro j hj hs
   have:=(Z2a hi).2 ⟨j,by omega,by omega,hs⟩
   rw [h.2] at this;cases this
  ·unfold ZB at h6
   rw [if_pos (Z3c h5')] at h6
   split at h6
   ·assumption
   ·cases h6
theorem Z2b {n:Nat} (h:xs.length=n) (hw:∀i,i<n->(Lit.int .u8 (xs.getD i 0)).wf=true):Bytes xs:=⟨fun i=>by
 by_cases hi:i<n
 ·have:=hw i hi
  simp [Lit.wf] at this
  have m1:u8.min=0:=rfl
  have m2:u8.max=255:=rfl
  simp
  omega
 ·rw [J2,Jl (by omega)];simp⟩
structure InS.By (x:InS):Prop where
 name:Bytes x.name
 tag:Bytes x.tag
 also:Bytes x.also
 secret:Bytes x.secret
structure Zp.By (x:Zp):Prop where
 owner:Bytes x.owner
 other:Bytes x.other
 point:Bytes x.point
 hash:Bytes x.hash
structure Zdp (t:TxS):Prop where
 ins:∀i,i<t.N->(t.ins i).By
 outs:∀i,i<t.M->(t.outs i).By
theorem Zdp.b {t:TxS} (h:Zdp t):TxB t:=⟨fun i hi=>⟨(h.outs i hi).owner,(h.outs i hi).other⟩⟩
theorem pick [Inhabited α] {n:Nat} {p:Nat->α->Prop} (h:∀i,i<n->∃a,p i a):∃f:Nat->α,∀i,i<n->p i (f i):=
 ⟨fun i=>if hi:i<n then Classical.choose (h i hi) else default,fun i hi=>by
  simp only [hi,dite_true]
  exact Classical.choose_spec (h i hi)⟩
instance:Inhabited InS:=⟨inZ⟩
instance:Inhabited Zp:=⟨Zho⟩
theorem Zhs (x:Int):0<=u8.wrap x/\u8.wrap x<=255:=by
 unfold wrap
 simp [IntKind.bits,IntKind.signed]
 omega
def rg3 (a b n:Int) (w:Int):Int:=XH .u32 (XH .u32 (ZdK w (32-a)) (ZdK w (32-b))) (Zy .u32 w n)
def Z8C (bl:LI) (t:Nat):Int:=u32.wrap (u32.wrap (u32.wrap (ZM .u32 (u32.wrap (bl.getD (4*t) 0)) 24+ZM .u32 (u32.wrap (bl.getD (4*t+1) 0)) 16)+ZM .u32 (u32.wrap (bl.getD (4*t+2) 0)) 8)+u32.wrap (bl.getD (4*t+3) 0))
def ZeB (m:LI) (t:Nat):Int:=u32.wrap (u32.wrap (u32.wrap (rg3 17 19 10 (m.getD (t-2) 0)+m.getD (t-7) 0)+rg3 7 18 3 (m.getD (t-15) 0))+m.getD (t-16) 0)
def QB (bl:LI):Nat->LI
 | 0=>List.replicate 64 0
 | t+1=>(QB bl t).set t (if t<16 then Z8C bl t else ZeB (QB bl t) t)
theorem Z5g (bl:LI):∀t,(QB bl t).length=64
 | 0=>rfl
 | t+1=>by simp [QB,Z5g bl t]
attribute [irreducible] QB
def U32 (x:Int):Prop:=0<=x/\x<4294967296
theorem Zgi (x:Int):u32.wrap x=x%4294967296:=by
 unfold wrap
 simp [IntKind.bits,IntKind.signed]
theorem Um {x:Int} (h:U32 x):u32.wrap x=x:=by rw [Zgi];unfold U32 at h;omega
theorem Zcm (x y:Nat) (hx:x<4294967296) (hy:y<4294967296):bOr .u32 x y=((x|||y:Nat):Int):=by
 unfold bOr
 rw [Um]
 ·show (((BitVec.ofInt 32 (x:Int)|||BitVec.ofInt 32 (y:Int)).toNat:Nat):Int)=_
  rw [BitVec.toNat_or,K2,K2,K9,K9,K7 hx,K7 hy]
 ·unfold U32
  have:=(BitVec.ofInt u32.bits x|||BitVec.ofInt u32.bits y).isLt
  simp only [IntKind.bits] at this
  simp only [IntKind.bits]
  omega
theorem U32.nat {x:Int} (h:U32 x):∃n:Nat,x=n/\n<4294967296:=⟨x.toNat,by unfold U32 at h;omega,by unfold U32 at h;omega⟩
theorem U32.of {n:Nat} (h:n<4294967296):U32 (n:Int):=by unfold U32;omega
theorem Z3e (bl:LI) (t:Nat):QB bl (t+1)=(QB bl t).set t (if t<16 then Z8C bl t else ZeB (QB bl t) t):=by rw [QB]
theorem Z3f (bl:LI) (s t:Nat) (hs:s<t):∀u,(QB bl (t+u)).getD s 0=(QB bl t).getD s 0
 | 0=>rfl
 | u+1=>by
  rw [<-Nat.add_assoc,Z3e,<-Z3f bl s t hs u]
  simp only [J2]
  rw [List.getElem?_set_ne (by omega)]
@[irreducible] def Zau (bl:LI) (t:Nat):Int:=(QB bl 64).getD t 0
theorem Zcn (bl:LI) {s t:Nat} (hs:s<t) (ht:t<=64):(QB bl t).getD s 0=Zau bl s:=by
 unfold Zau
 have:=Z3f bl s t hs (64-t)
 rw [show t+(64-t)=64 by omega] at this
 exact this.symm
theorem Zco (bl:LI) {t:Nat} (ht:t<64):Zau bl t=if t<16 then Z8C bl t else ZeB (QB bl t) t:=by
 rw [<-Zcn bl (Nat.lt_succ_self t) (by omega),Z3e]
 simp only [J2]
 rw [List.getElem?_set_self (by rw [Z5g];omega)]
 rfl
theorem Zcp (bl:LI) {t:Nat} (ht:t<16):Zau bl t=Z8C bl t:=by rw [Zco bl (by omega),if_pos ht]
def Ring (bl r:LI) (t:Nat):Prop:=r.length=16/\∀s,s<max 16 t->max 16 t<=s+16->r.getD (s%16) 0=Zau bl s
def U8 (x:Int):Prop:=0<=x/\x<256
theorem Z0X (x n:Nat) (hn:n<=32) (h:x*2^n<4294967296):ZM .u32 x n=((x*2^n:Nat):Int):=by
 unfold ZM
 have:min (n:Int).toNat u32.bits=n:=by simp [IntKind.bits];omega
 rw [this,show (x:Int)*2^n=((x*2^n:Nat):Int) by push_cast;rfl]
 exact Um (U32.of h)
theorem Z0Y (x y:Nat) (hx:x<16777216) (hy:y<256):bOr .u32 (ZM .u32 x 8) y=((x*256+y:Nat):Int):=by
 have:=Z0X x 8 (by omega) (by omega)
 rw [show ((8:Nat):Int)=8 from rfl] at this
 rw [this,Zcm _ _ (by omega) (by omega),<-Nat.shiftLeft_eq,<-Nat.shiftLeft_add_eq_or_of_lt (by omega),Nat.shiftLeft_eq]
theorem U0 {P:Int->Prop} {l:LI} (h:∀x∈l,P x) (h0:P 0) (i:Nat):P (l.getD i 0):=by
 rw [J2]
 cases hg:l[i]? with
 | none=>exact h0
 | some x=>exact h x (JR hg)
theorem U8.nat {x:Int} (h:U8 x):∃n:Nat,x=n/\n<256:=⟨x.toNat,by unfold U8 at h;omega,by unfold U8 at h;omega⟩
theorem Zcq (bl:LI) (hb:∀x∈bl,U8 x) (t:Nat):Xt bl (4*t)=Z8C bl t:=by
 unfold Xt Z8C
 obtain ⟨a,ea,ha⟩:=(U0 (P:=U8) hb (by unfold U8;omega) (4*t)).nat
 obtain ⟨b,eb,hb'⟩:=(U0 (P:=U8) hb (by unfold U8;omega) (4*t+1)).nat
 obtain ⟨c,ec,hc⟩:=(U0 (P:=U8) hb (by unfold U8;omega) (4*t+2)).nat
 obtain ⟨d,ed,hd⟩:=(U0 (P:=U8) hb (by unfold U8;omega) (4*t+3)).nat
 rw [ea,eb,ec,ed]
 rw [Um (x:=(a:Int)) (U32.of (by omega)),Um (x:=(b:Int)) (U32.of (by omega)),Um (x:=(c:Int)) (U32.of (by omega)),Um (x:=(d:Int)) (U32.of (by omega))]
 have z:=Z0Y 0 a (by omega) ha
 have s0:ZM .u32 0 8=0:=by decide
 rw [show ZM .u32 ((0:Nat):Int) 8=0 from s0] at z
 rw [z,Z0Y _ b (by omega) hb',Z0Y _ c (by omega) hc,Z0Y _ d (by omega) hd]
 have g1:=Z0X a 24 (by omega) (by omega)
 have g2:=Z0X b 16 (by omega) (by omega)
 have g3:=Z0X c 8 (by omega) (by omega)
 rw [show ((24:Nat):Int)=24 from rfl] at g1
 rw [show ((16:Nat):Int)=16 from rfl] at g2
 rw [show ((8:Nat):Int)=8 from rfl] at g3
 rw [g1,g2,g3]
 simp only [Zgi]
 omega
theorem Ring.first (bl:LI) (hb:∀x∈bl,U8 x):Ring bl (Vn bl) 0:=by
 refine ⟨rfl,fun s h1 _=> ?_⟩
 have h16:s<16:=by omega
 rw [Zcp bl h16,<-Zcq bl hb,K7 h16]
 have:s=0\/s=1\/s=2\/s=3\/s=4\/s=5\/s=6\/s=7\/s=8\/s=9\/s=10\/s=11\/s=12\/s=13\/s=14\/s=15:=by omega
 rcases this with rfl|rfl|rfl|rfl|rfl|rfl|rfl|rfl|rfl|rfl|rfl|rfl|rfl|rfl|rfl|rfl<;>rfl
def Zgj (P:LI->LI->LI):Nat->LI->LI->LI
 | 0,st,_=>st
 | n+1,st,ms=>Zgj P n (P st (ms.take 64)) (ms.drop 64)
structure Rep (r:Zr) (ms:LI):Prop where
 came:r.came=ms.length
 st:r.st=Zgj Z0r (ms.length/64) Yd.st ms
 len:r.part.length=64
 part:r.part.take (ms.length%64)=ms.drop (64*(ms.length/64))
theorem Rep.ok {r:Zr} {ms:LI} (h:Rep r ms) (h8:r.st.length=8):r.Ok:=⟨h8,h.len,by rw [h.came];omega⟩
theorem Bytes.u8 (h:Bytes xs):∀x∈xs,U8 x:=by
 intro x hx
 obtain ⟨i,hi,rfl⟩:=List.getElem_of_mem hx
 have:=h.h i
 rw [J2,Jd hi] at this
 simp at this
 unfold U8
 omega
theorem Bytes.of (h:∀x∈xs,U8 x):Bytes xs:=⟨fun i=>by
 have:=U0 (P:=U8) h (by unfold U8;omega) i
 unfold U8 at this
 omega⟩
theorem Z2c (key:LI) (t:TxS):Zl key t=WI key (XZ t):=by unfold Zl XZ;rfl
@[irreducible] def Xr (t:TxS) (at_:Int) (o:Zp) (since height:Int):Int:=VY ZB XZ WI Xb Wp ZH t at_ o since height
theorem Z8D (args:List AV) (h:Z9) (K:AV->Prop) (hl:Z6B Xr args h K):Zh PP 18 args h fun o h'=>∃v,o=.ret v/\h'=h/\K v:=Z8A args h K (by
 have e:Xr=VY ZB XZ WI Xb Wp ZH:=by funext t a o s h;unfold Xr;rfl
 rw [e] at hl;exact hl)
structure Zi where
 fund:LI
 index:Int
 cap:Int
 dust:Int
 fee:Int
 delay:Int
 k0:LI
 k1:LI
def Zi.c (t:Zi):List AV:=[.arr .u8 32 t.fund,.int .i64 t.index,.int .i64 t.cap,.int .i64 t.dust,.int .i64 t.fee,.int .i64 t.delay,.arr .u8 32 t.k0,.arr .u8 32 t.k1]
structure Zi.Ok (t:Zi):Prop where
 k0:t.k0.length=32
 k1:t.k1.length=32
 b0:Bytes t.k0
 b1:Bytes t.k1
def ZX (t:Zi):Bool:=decide (0<=t.index/\t.index<=23)&&decide (1000<=t.cap/\t.cap<=1125899906842624)&&decide (1<=t.dust/\t.dust<=500)&&decide (0<=t.fee/\t.fee<=400)&&decide (1<=t.delay/\t.delay<=1000)&&(t.k0 !=t.k1)
theorem Z2d (b:Bool) (x y:Prop):Z7 b x y=((b=true->x)/\(b=false->y)):=by cases b<;>simp [Z7]
theorem Zgk (n a b:Int) (r:Bool) (hr:r=decide (a<=n/\n<=b)):
  evF G0 20 86 [.int .i64 n,.int .i64 a,.int .i64 b] ⟨0,[]⟩ (Us (fun v=>v=.bool r)):=by
 refine @Eq.mpr _ (Z7 (decide (a<=n)) (AV.bool (decide (n<=b))=AV.bool r) (AV.bool false=AV.bool r)) (by kernel_rfl) ?_
 simp only [Z2d]
 subst hr
 by_cases h1:a<=n<;>by_cases h2:n<=b<;>simp [h1,h2]
def inQ:ZJ:=fun args _ K=>match args with
 | [.int .i64 n,.int .i64 a,.int .i64 b]=>K (.bool (decide (a<=n/\n<=b)))
 | _=>False
theorem Zav (args:List AV) (h:Z9) (K:AV->Prop) (hl:inQ args h K):Zh PP 86 args h fun o h'=>∃v,o=.ret v/\h'=h/\K v:=by
 unfold inQ at hl
 split at hl
 ·exact W7 Zu rfl (Zgk _ _ _ _ rfl) (fun u hu=>hu▸hl)
 ·exact hl.elim
noncomputable def E71:Zf:=G0.withP 86 inQ
theorem ZeC:E71.Ok:=Zf.withP_ok Zu Zav
theorem Zgl (t:Zi) (e:Int) (ht:t.Ok) (he:e=if ZX t=true then 0 else 2):
  evF E71 20 44 [.agg t.c] ⟨0,[]⟩ (Us (fun v=>v=.int .i64 e)):=by
 refine @Eq.mpr _ (let a:=AV.int i64 2=AV.int i64 e;
 Z6 (t.k0.length=32/\t.k1.length=32) (Z7 (false==decide (0<=t.index/\t.index<=23)) a (Z7 (false==decide (1000<=t.cap/\t.cap<=1125899906842624)) a (Z7 (false==decide (1<=t.dust/\t.dust<=500)) a (Z7 (false==decide (0<=t.fee/\t.fee<=400)) a (Z7 (false==decide (1<=t.delay/\t.delay<=1000)) a (Z7 (false== !t.k0==t.k1) a (AV.int i64 0=AV.int i64 e)))))))) (by kernel_rfl) ?_
 conv=>zeta
 try simp only [vcA]
 try simp only [vcB]
 try simp only [vcC]
 unfold ZX at he
 refine ⟨⟨ht.k0,ht.k1⟩, ?_⟩
 generalize decide (0<=t.index/\t.index<=23)=c1 at*
 generalize decide (1000<=t.cap/\t.cap<=1125899906842624)=c2 at*
 generalize decide (1<=t.dust/\t.dust<=500)=c3 at*
 generalize decide (0<=t.fee/\t.fee<=400)=c4 at*
 generalize decide (1<=t.delay/\t.delay<=1000)=c5 at*
 have h6:(t.k0 !=t.k1)= !(t.k0==t.k1):=rfl
 rw [h6] at he
 generalize (t.k0==t.k1)=c6 at*
 cases c1<;>cases c2<;>cases c3<;>cases c4<;>cases c5<;>cases c6<;>simp_all
def Z3g:ZJ:=fun args _ K=>match args with
 | [.agg [.arr .u8 32 fu,.int .i64 ix,.int .i64 ca,.int .i64 du,.int .i64 fe,.int .i64 de,.arr .u8 32 k0,.arr .u8 32 k1]]=>(Zi.Ok ⟨fu,ix,ca,du,fe,de,k0,k1⟩)/\K (.int .i64 (if ZX ⟨fu,ix,ca,du,fe,de,k0,k1⟩=true then 0 else 2))
 | _=>False
theorem QC (args:List AV) (h:Z9) (K:AV->Prop) (hl:Z3g args h K):Zh PP 44 args h fun o h'=>∃v,o=.ret v/\h'=h/\K v:=by
 unfold Z3g at hl
 split at hl
 ·obtain ⟨ht,hK⟩:=hl
  exact W7 ZeC rfl (Zgl ⟨_,_,_,_,_,_,_,_⟩ _ ht rfl) (fun u hu=>hu▸hK)
 ·exact hl.elim
def Wv (t:Zi):Zp:=⟨2,t.cap,if Xh t.k0 t.k1>0 then t.k1 else t.k0,if Xh t.k0 t.k1>0 then t.k0 else t.k1,Z0,Z0,0,0⟩
def Zgm:Zp:=⟨0,0,Z0,Z0,Z0,Z0,0,0⟩
theorem Zgn (t:Zi) (o:Zp) (e:Int) (ht:t.Ok) (ho:o=if ZX t=true then Wv t else Zgm) (he:e=if ZX t=true then 0 else 2):
  evF (G0.withP 44 Z3g) 20 16 [.agg t.c] ⟨0,[]⟩ (Us (fun v=>v=.tuple [.agg o.c,.int .i64 e])):=by
 refine @Eq.mpr _ (let b:=t.k0;let a:=t.k1;let k:=Zi.mk t.fund t.index t.cap t.dust t.fee t.delay b a;let j:=if ZX k=true then 0 else 2;let f:=AV.int i64 0;let d:=AV.arr u8 32 Z0;let i:=[f];let h:=d::d::f::i;let g:=AV.tuple [AV.agg (Zp.c o),AV.int i64 e];let n:=AV.int i64 t.cap;let m:=AV.arr u8 32 a;let l:=AV.arr u8 32 b;
 Zi.Ok k/\Z7 (j !=0) (AV.tuple [AV.agg (f::f::d::d::h),AV.int i64 j]=g) (Z6 (u8=u8/\b.length=32) (Z6 (u8=u8/\a.length=32) (Z7 (decide (Xh b a>0)) (b=b/\AV.tuple (AV.agg (AV.int i64 2::n::m::l::h)::i)=g) (a=a/\AV.tuple (AV.agg (AV.int i64 2::n::l::m::h)::i)=g))))) (by kernel_rfl) ?_
 conv=>zeta
 try simp only [vcA]
 try simp only [vcB]
 try simp only [vcC]
 have e0:(Zi.mk t.fund t.index t.cap t.dust t.fee t.delay t.k0 t.k1)=t:=rfl
 rw [e0]
 refine ⟨ht,fun h=> ?_,fun h=> ?_⟩
 ·cases hb:ZX t with
  | true=>rw [hb] at h;simp at h
  | false=>rw [hb] at ho he;rw [ho,he];rfl
 ·cases hb:ZX t with
  | false=>rw [hb] at h;simp at h
  | true=>
   rw [hb] at ho he
   refine ⟨ht.k0,ht.k1,fun hc=> ?_,fun hc=> ?_⟩
   ·rw [ho,he];simp [Wv,hc,Zp.c]
   ·rw [ho,he];simp [Wv,hc,Zp.c]
def Zdq:ZJ:=fun args _ K=>match args with
 | [.agg [.arr .u8 32 fu,.int .i64 ix,.int .i64 ca,.int .i64 du,.int .i64 fe,.int .i64 de,.arr .u8 32 k0,.arr .u8 32 k1]]=>(Zi.Ok ⟨fu,ix,ca,du,fe,de,k0,k1⟩)/\Z7 (ZX ⟨fu,ix,ca,du,fe,de,k0,k1⟩) (K (.tuple [.agg (Wv ⟨fu,ix,ca,du,fe,de,k0,k1⟩).c,.int .i64 0])) (K (.tuple [.agg Zgm.c,.int .i64 2]))
 | _=>False
theorem Zaw (args:List AV) (h:Z9) (K:AV->Prop) (hl:Zdq args h K):Zh PP 16 args h fun o h'=>∃v,o=.ret v/\h'=h/\K v:=by
 unfold Zdq at hl
 split at hl
 ·obtain ⟨ht,hK⟩:=hl
  rw [Z2d] at hK
  refine W7 (Zf.withP_ok Zu QC) rfl (Zgn ⟨_,_,_,_,_,_,_,_⟩ _ _ ht rfl rfl) (fun u hu=> ?_)
  subst hu
  cases hb:ZX ⟨_,_,_,_,_,_,_,_⟩ with
  | true=>rw [if_pos rfl,if_pos rfl];exact hK.1 hb
  | false=>rw [if_neg (by decide),if_neg (by decide)];exact hK.2 hb
 ·exact hl.elim
def Ut {α:Type} (lt:α->α->Bool) (x:α):List α->List α
 | []=>[x]
 | y::r=>match lt x y with
  | true=>x::y::r
  | false=>y::Ut lt x r
def Xs {α:Type} (lt:α->α->Bool):List α->List α->List α
 | acc,[]=>acc
 | acc,x::r=>Xs lt (Ut lt x acc) r
def Z2e {α:Type} (lt:α->α->Bool) (l:List α):Prop:=l.Pairwise fun a b=>lt b a=false
structure WO {α:Type} (lt:α->α->Bool):Prop where
 asym:∀x y,lt x y=true->lt y x=false
 neg:∀x y z,lt x y=true->lt z y=false->lt x z=true
theorem Z5h {α:Type} {lt:α->α->Bool} {x z:α}:∀{l:List α},z∈Ut lt x l↔z=x\/z∈l
 | []=>by simp [Ut]
 | y::r=>by
  unfold Ut
  split
  ·simp
  ·simp only [J9,Z5h (l:=r)]
   constructor<;>(intro h;rcases h with h|h|h<;>simp [h])
theorem Z3h {α:Type} {lt:α->α->Bool} {x:α}:∀{l:List α},(Ut lt x l).Perm (x::l)
 | []=>.refl _
 | y::r=>by
  unfold Ut
  split
  ·exact .refl _
  ·exact (List.Perm.cons y Z3h).trans (List.Perm.swap x y r)
theorem Z5i {α:Type} {lt:α->α->Bool} (wo:WO lt) {x:α}:∀{l:List α},Z2e lt l->Z2e lt (Ut lt x l)
 | [],_=>by simp [Ut,Z2e]
 | y::r,h=>by
  unfold Z2e at h
  rw [JX] at h
  unfold Ut
  split
  ·rename_i hx
   unfold Z2e
   rw [JX,JX]
   refine ⟨fun z hz=> ?_,h.1,h.2⟩
   rcases J9.1 hz with rfl|hz
   ·exact wo.asym _ _ hx
   ·cases hzx:lt z x with
    | false=>rfl
    | true=>
     have:=h.1 z hz
     -- z < x < y, so z < y
     have h2:=wo.neg z x y hzx (wo.asym _ _ hx)
     rw [h2] at this;cases this
  ·rename_i hx
   unfold Z2e
   rw [JX]
   refine ⟨fun z hz=> ?_,Z5i wo h.2⟩
   rcases Z5h.1 hz with rfl|hz
   ·exact hx
   ·exact h.1 z hz
theorem Z7A {α:Type} {lt:α->α->Bool} (wo:WO lt) {x:α}:∀{l:List α} {j:Nat},Z2e lt l->j<=l.length->(∀y∈l.drop j,lt x y=true)->(∀y,l[j-1]? =some y->0<j->lt x y=false)->
  l.take j++x::l.drop j=Ut lt x l
 | [],j,_,hj,_,_=>by simp at hj;simp [Ut]
 | y::r,0,_,_,h1,_=>by
  have:=h1 y (by simp)
  unfold Ut
  rw [this];simp
 | y::r,j+1,ho,hj,h1,h2=>by
  unfold Z2e at ho
  rw [JX] at ho
  have hy:lt x y=false:=by
   cases hxy:lt x y with
   | false=>rfl
   | true=>
    cases j with
    | zero=>rw [h2 y (by simp) (by omega)] at hxy;cases hxy
    | succ k=>
     simp at hj
     have hk:k<r.length:=by omega
     have h3:=h2 r[k] (by simp [hk]) (by omega)
     have h4:=ho.1 r[k] (Kk hk)
     rw [wo.neg x y _ hxy h4] at h3;cases h3
  unfold Ut
  rw [hy]
  simp only [List.take_succ_cons,List.drop_succ_cons,Ki,List.cons.injEq,true_and]
  refine Z7A wo ho.2 (by simpa using hj) (by simpa using h1) fun z hz hj'=>h2 z ?_ (by omega)
  cases j with
  | zero=>omega
  | succ k=>simpa using hz
theorem Z3i {α:Type} {lt:α->α->Bool} (wo:WO lt):∀{l acc:List α},Z2e lt acc->Z2e lt (Xs lt acc l)
 | [],_,h=>h
 | _::_,_,h=>by unfold Xs;exact Z3i wo (Z5i wo h)
theorem Vp {α:Type} {lt:α->α->Bool}:∀{l acc:List α},(Xs lt acc l).Perm (acc++l)
 | [],acc=>by simp [Xs]
 | x::r,acc=>by
  unfold Xs
  refine Vp.trans ?_
  refine (List.Perm.append_right r Z3h).trans ?_
  rw [Ki]
  exact List.perm_middle.symm
theorem Z3j {lt:α->α->Bool} {l acc:List α}:(Xs lt acc l).length=acc.length+l.length:=by
 rw [(Vp (lt:=lt)).length_eq,Je]
theorem Z2f {α:Type} {lt:α->α->Bool} {x:α}:∀{l acc:List α},Xs lt acc (l++[x])=Ut lt x (Xs lt acc l)
 | [],acc=>rfl
 | y::r,acc=>by
  simp only [Ki,Xs]
  exact Z2f
def YI:LI->Nat
 | []=>0
 | a::r=>(W2 a).toNat*256^r.length+YI r
theorem QD:∀(x:LI),YI x<256^x.length
 | []=>by simp [YI]
 | a::r=>by
  have h1:=QD r
  have h2:=(W2 a).toNat_lt
  simp only [YI,Jw,Nat.pow_succ]
  have h3:(W2 a).toNat*256^r.length<=255*256^r.length:=JA _ (by omega)
  omega
theorem Z5j:∀(x y:LI),x.length=y.length->Xh x y=if YI x<YI y then -1 else if YI y<YI x then 1 else 0
 | [],[],_=>by simp [Xh,Lib.compareBytes,YI]
 | [],b::s,h=>by simp at h
 | a::r,[],h=>by simp at h
 | a::r,b::s,h=>by
  have h':r.length=s.length:=by simpa using h
  have ih:=Z5j r s h'
  have e1:YI (a::r)=(W2 a).toNat*256^r.length+YI r:=rfl
  have e2:YI (b::s)=(W2 b).toNat*256^r.length+YI s:=by rw [h'];rfl
  have e3:Xh (a::r) (b::s)=if (W2 a).toNat<(W2 b).toNat then -1 else if (W2 b).toNat<(W2 a).toNat then 1 else Xh r s:=by
   unfold Xh;simp only [K4,Lib.compareBytes,UInt8.lt_iff_toNat_lt]
  have h1:=QD r
  have h2:=QD s
  rw [<-h'] at h2
  rw [e3]
  generalize YI (a::r)=A at*
  generalize YI (b::s)=B at*
  generalize (W2 a).toNat=u at*
  generalize (W2 b).toNat=v at*
  generalize hM:256^r.length=M at*
  have hs:∀p q:Nat,p<q->p*M+M<=q*M:=fun p q hpq=>by
   have:(p+1)*M<=q*M:=JA _ hpq
   rw [JD,Kh] at this
   exact this
  by_cases c1:u<v
  ·have:=hs u v c1
   rw [if_pos c1,if_pos (by omega)]
  ·rw [if_neg c1]
   by_cases c2:v<u
   ·have:=hs v u c2
    rw [if_pos c2,if_neg (by omega),if_pos (by omega)]
   ·rw [if_neg c2,ih]
    have:u=v:=by omega
    subst this
    simp only [show (A<B)=(YI r<YI s) from propext (by omega),show (B<A)=(YI s<YI r) from propext (by omega)]
structure Zg where
 o:Zp
 id:Int
 what:Int
variable {O l:List Zg} {z:Zg}
def Zg.c (m:Zg):List AV:=[.int .i64 m.o.kind,.int .i64 m.o.amount,.arr .u8 32 m.o.owner,.arr .u8 32 m.o.other,.arr .u8 32 m.o.point,.arr .u8 32 m.o.hash,.int .i64 m.o.delay,.int .i64 m.o.expiry,.int .i64 m.id,.int .i64 m.what]
structure Zg.Ok (m:Zg):Prop where
 owner:m.o.owner.length=32
 other:m.o.other.length=32
 point:m.o.point.length=32
 hash:m.o.hash.length=32
def Yj:Zg:=⟨⟨0,0,[],[],[],[],0,0⟩,0,0⟩
def U1 (a b:Int):Int:=if a<b then -1 else if b<a then 1 else 0
def Z8E (a b:Zg):Int:=
 if U1 a.o.amount b.o.amount≠0 then U1 a.o.amount b.o.amount else
 if U1 a.o.kind b.o.kind≠0 then U1 a.o.kind b.o.kind else
 if U1 a.o.expiry b.o.expiry≠0 then U1 a.o.expiry b.o.expiry else
 if Xh a.o.hash b.o.hash≠0 then Xh a.o.hash b.o.hash else U1 a.id b.id
def ltM (a b:Zg):Bool:=decide (a.o.amount<b.o.amount\/(a.o.amount=b.o.amount/\(a.o.kind<b.o.kind\/(a.o.kind=b.o.kind/\(a.o.expiry<b.o.expiry\/(a.o.expiry=b.o.expiry/\(YI a.o.hash<YI b.o.hash\/(YI a.o.hash=YI b.o.hash/\a.id<b.id))))))))
theorem Vb (a b:Int):(a<b/\U1 a b= -1)\/(b<a/\U1 a b=1)\/(a=b/\U1 a b=0):=by unfold U1;omega
theorem Un {x y:LI} (h:x.length=y.length):(YI x<YI y/\Xh x y= -1)\/(YI y<YI x/\Xh x y=1)\/(YI x=YI y/\Xh x y=0):=by
 rw [Z5j x y h];omega
theorem Zcr {a b:Zg} (ha:a.Ok) (hb:b.Ok):decide (Z8E a b<0)=ltM a b:=by
 unfold Z8E ltM
 have h1:=Vb a.o.amount b.o.amount
 have h2:=Vb a.o.kind b.o.kind
 have h3:=Vb a.o.expiry b.o.expiry
 have h4:=Un (ha.hash.trans hb.hash.symm)
 have h5:=Vb a.id b.id
 rw [decide_eq_decide]
 generalize U1 a.o.amount b.o.amount=c1 at*
 generalize U1 a.o.kind b.o.kind=c2 at*
 generalize U1 a.o.expiry b.o.expiry=c3 at*
 generalize Xh a.o.hash b.o.hash=c4 at*
 generalize U1 a.id b.id=c5 at*
 generalize YI a.o.hash=v1 at*
 generalize YI b.o.hash=v2 at*
 omega
theorem Zax:WO ltM where
 asym x y h:=by
  unfold ltM at*
  simp only [decide_eq_true_eq,decide_eq_false_iff_not] at*
  generalize YI x.o.hash=v1 at*
  generalize YI y.o.hash=v2 at*
  omega
 neg x y z h h2:=by
  unfold ltM at*
  simp only [decide_eq_true_eq,decide_eq_false_iff_not] at*
  generalize YI x.o.hash=v1 at*
  generalize YI y.o.hash=v2 at*
  generalize YI z.o.hash=v3 at*
  omega
def ZP (l:List Zg):List Zg:=Xs ltM [] l
def Zq (l:List Zg) (i:Nat):List AV:=(l.getD i Yj).c
def byL:List AV:=[.func (.func 170) [] [],.func (.func 172) [] [],.func (.func 174) [] [],.func (.func 175) [] [],.func (.func 176) [] []]
theorem Z7B {a b r c:Int} {P X Y:Prop} (hr:r=if U1 a b≠0 then U1 a b else c) (hP:r=c->P):
  Z7 (a !=a) X (Z7 (b !=b) Y (Z7 (decide (a<b)) (Z7 (decide (-1=r)) True False) (Z7 (decide (a>b)) (Z7 (decide (1=r)) True False) P))):=by
 rw [bne_self_eq_false,bne_self_eq_false]
 show Z7 (decide (a<b)) _ (Z7 (decide (a>b)) _ P)
 rcases Vb a b with ⟨h1,h2⟩|⟨h1,h2⟩|⟨h1,h2⟩
 ·rw [decide_eq_true h1,hr,h2];trivial
 ·rw [decide_eq_false (by omega:¬a<b),decide_eq_true (show a>b from h1),hr,h2];trivial
 ·rw [decide_eq_false (by omega:¬a<b),decide_eq_false (show ¬a>b by omega)]
  exact hP (by rw [hr,h2];rfl)
theorem Zgo (a b:Zg) (r:Int) (ha:a.Ok) (hb:b.Ok) (hr:r=Z8E a b):
  evF G0 20 241 [.agg a.c,.agg b.c,.pview [.vrows 1 5 (YV byL 0 1) 5] 0] ⟨0,[]⟩ (Y6 0 (.ret (.int .i64 r)) 0 []):=by
 refine @Eq.mpr _ (let n:=a.o;let j:=n.amount;let i:=b.o;let h:=i.amount;let q:=h !=h;let g:=n.kind;let f:=i.kind;let p:=f !=f;let e:=n.expiry;let m:=i.expiry;let A:=m !=m;let z:=n.hash;let y:=i.hash;let x:=Xh z y;let l:=a.id;let k:=b.id;let w:=k !=k;let v:=Z7 (decide (0=r)) True False;let d:=Z7 (decide (-1=r)) True False;let c:=Z7 (decide (1=r)) True False;let u:=Z7 (decide (u8=u8/\z.length=32)) (Z7 (decide (u8=u8/\y.length=32)) (Z7 (x !=0) (Z7 (decide (x=r)) True False) (Z7 (l !=l) (Z7 w v d) (Z7 w c (Z7 (decide (l<k)) d (Z7 (decide (l>k)) c v))))) False) False;let t:=Z7 (e !=e) (Z7 A u d) (Z7 A c (Z7 (decide (e<m)) d (Z7 (decide (e>m)) c u)));let s:=Z7 (g !=g) (Z7 p t d) (Z7 p c (Z7 (decide (g<f)) d (Z7 (decide (g>f)) c t)));
 Z7 (j !=j) (Z7 q s d) (Z7 q c (Z7 (decide (j<h)) d (Z7 (decide (j>h)) c s)))) (by kernel_rfl) ?_
 conv=>zeta
 unfold Z8E at hr
 refine Z7B hr fun hr=>Z7B hr fun hr=>Z7B hr fun hr=> ?_
 rw [decide_eq_true (show u8=u8/\a.o.hash.length=32 from ⟨rfl,ha.hash⟩),decide_eq_true (show u8=u8/\b.o.hash.length=32 from ⟨rfl,hb.hash⟩)]
 show Z7 (Xh a.o.hash b.o.hash !=0) _ _
 by_cases h:Xh a.o.hash b.o.hash=0
 ·rw [h]
  rw [if_neg (by simp [h])] at hr
  refine Z7B (c:=0) ?_ fun hr=>by rw [hr];trivial
  rw [hr];split<;>simp_all
 ·rw [if_pos h] at hr
  rw [bne_iff_ne.2 h,hr,decide_eq_true rfl];trivial
def Zgp:ZJ:=fun args h K=>ZD none h true 20 args fun a=>match a with
 | [.agg ca,.agg cb,.pview [.vrows 1 5 f 5] 0]=>∃a b,ca=Zg.c a/\cb=Zg.c b/\f=YV byL 0 1/\(a.Ok/\b.Ok)/\K (.int .i64 (Z8E a b))
 | _=>False
theorem Zcs (args:List AV) (h:Z9) (K:AV->Prop) (hl:Zgp args h K):Zh PP 241 args h fun o h'=>∃v,o=.ret v/\h'=h/\K v:=by
 refine Zx.psumm (d:=20) (Zk _ _ _ _ _ hl fun a ha=> ?_)
 split at ha
 ·obtain ⟨a,b,rfl,rfl,rfl,⟨h1,h2⟩,hK⟩:=ha
  exact ⟨_,.evM Zu (Zgo a b _ h1 h2 rfl),fun _=>rfl,hK⟩
 ·exact ha.elim
theorem and_mk {a b:Bool} (h1:a=true) (h2:b=true):(a&&b)=true:=by rw [h1,h2];rfl
theorem Zay {E:Env} {w:World} {sz n:Nat} {g:Nat->List AV} (hg:∀i,i<n->g' i=g i) (he:Emb E ⟨1,[(0,.rows sz n g')]⟩ w):Emb E ⟨1,[(0,.rows sz n g)]⟩ w:=by
 have hget:∀(f:Nat->List AV) x B,(Z9.mk 1 [(0,.rows sz n f)]).get x=some B->x=0/\B=.rows sz n f:=fun f x B hx=>by
  simp only [Z9.get,ZC] at hx
  split at hx
  ·rename_i hb
   cases hx
   exact ⟨(J0 hb).symm,rfl⟩
  ·cases hx
 have h0:∀f:Nat->List AV,(Z9.mk 1 [(0,.rows sz n f)]).get 0=some (.rows sz n f):=fun f=>rfl
 refine ⟨he.fresh,fun x B hx=> ?_,fun x B hx=> ?_,fun x y B B' b N N' hx hy h1 h2=> ?_,he.imm,fun a c x B N hi hx hb=> ?_⟩
 ·obtain ⟨rfl,rfl⟩:=hget _ _ _ hx;exact he.lt 0 _ (h0 _)
 ·obtain ⟨rfl,rfl⟩:=hget _ _ _ hx
  have:=he.own 0 _ (h0 g')
  cases this with
  | rows0 _ _ _ hn hb=>exact .rows0 _ _ _ hn hb
  | rows _ _ _ b cells elem fr gv hb hw hf hc hl hv=>exact .rows _ _ _ b cells elem fr gv hb hw hf (fun i hi=>hg i hi▸hc i hi) hl hv
 ·obtain ⟨rfl,rfl⟩:=hget _ _ _ hx
  obtain ⟨rfl,rfl⟩:=hget _ _ _ hy
  rfl
 ·obtain ⟨rfl,rfl⟩:=hget _ _ _ hx
  exact he.sep a c 0 _ N hi (h0 g') hb
theorem Spec.rows {P:Program} {f:FuncId} {sz n:Nat} {g:Nat->List AV} {o:Out} {nx:Nat} {bs:List (Nat×Blk)} (hg:∀i,i<n->g' i=g i) (h:Spec P f args ⟨1,[(0,.rows sz n g)]⟩ o nx bs):Spec P f args ⟨1,[(0,.rows sz n g')]⟩ o nx bs:=by
 intro E w rs he hl
 have he':=Zay hg he
 refine (h E w rs he' hl).mono ?_
 rintro e w' ⟨E',hev,ho⟩
 have own:∀b,YX E ⟨1,[(0,.rows sz n g)]⟩ b↔YX E ⟨1,[(0,.rows sz n g')]⟩ b:=fun b=>by
  unfold YX
  constructor
  ·rintro ⟨x,B,N,hx,hb⟩
   simp only [Z9.get,ZC] at hx
   split at hx
   ·rename_i hq;have:=J0 hq;subst this;exact ⟨0,_,N,rfl,hb⟩
   ·cases hx
  ·rintro ⟨x,B,N,hx,hb⟩
   simp only [Z9.get,ZC] at hx
   split at hx
   ·rename_i hq;have:=J0 hq;subst this;exact ⟨0,_,N,rfl,hb⟩
   ·cases hx
 exact ⟨E',⟨hev.le,hev.emb,hev.size,hev.os,hev.tape,hev.output,fun b hb hn=>hev.keep b hb (fun h=>hn ((own b).1 h)),fun b hb=>(hev.own b hb).imp (own b).1 id,hev.imm⟩,ho⟩
noncomputable def E82:Zf:=G0.withP 241 Zgp
theorem Zaz:E82.Ok:=Zf.withP_ok Zu Zcs
def Zct:AV:=.func (.func 241) [] [.pview [.vrows 1 5 (YV byL 0 1) 5] 0]
def isH (n:Nat) (L:List Zg):Z9:=⟨1,[(0,.rows 134 n (Zq L))]⟩
def isT (n lo:Nat) (A B:Int) (l:ZL):ZL:=l++[(2,.int .i64 B),(1,.int .i64 A),(3,Zct),(0,.nslice ⟨0,0,134,0,0⟩ 134 n lo)]
def Z2w (n lo:Nat) (A B I:Int) (L:List Zg):St:=⟨53,isT n lo A B [(8,.int .i64 I)],isH n L,[]⟩
def Zcu (n lo:Nat) (A B I J:Int) (L:List Zg):St:=⟨53,isT n lo A B [(9,.int .i64 J),(8,.int .i64 I)],isH n L,[]⟩
theorem XN (L:List Zg) (i:Nat):plainC (Zq L i)=true:=rfl
theorem YE {k:Nat} {τ:Ren} {n:Nat} {L:List Zg} {f:Nat->List AV} (h:∀i,i<n->f i=Zq L i):Zv k τ n (Zq L) f:=
 Z07 h (fun i _=>XN L i) (fun i _ v hv=>by
  simp only [Zq,Zg.c,J9,List.not_mem_nil,or_false] at hv
  rcases hv with rfl|rfl|rfl|rfl|rfl|rfl|rfl|rfl|rfl|rfl<;>first|exact .inl rfl|exact .inr ⟨_,_,_,rfl⟩)
theorem Z7C {L:List Zg} (h:∀m∈L,m.Ok) {i:Nat} (hi:i<L.length):(L.getD i Yj).Ok:=by
 rw [J2,Jd hi]
 exact h _ (Kk hi)
theorem ZaA {f:Nat->List AV} {J J1 i:Nat} {x y:List AV} (hx:x=f J) (hy:y=f J1):UI (UI f J y) J1 x i=if i=J1 then f J else if i=J then f J1 else f i:=by
 rw [W1,W1]
 by_cases h1:i=J1
 ·subst h1;rw [Jg,if_pos rfl,hx]
 ·rw [Zs h1,if_neg h1]
  by_cases h2:i=J
  ·subst h2;rw [Jg,if_pos rfl,hy]
  ·rw [Zs h2,if_neg h2]
theorem Zht (n lo A B I J:Nat) (L L1:List Zg) (Z1 Z2:Prop) (hn:n<900000000000) (hJ:J<n) (hL:L.length=n) (hok:∀m∈L,m.Ok) (hsw:A<J->∀i,i<n->Zq L1 i=if i=J-1 then Zq L J else if i=J then Zq L (J-1) else Zq L i) (h1:A<J->ltM (L.getD J Yj) (L.getD (J-1) Yj)=true->Z1) (h2:J<=A\/ltM (L.getD J Yj) (L.getD (J-1) Yj)=false->Z2):
  ZW E82 20 293 2 1 (Zcu n lo A B I J L) (rdM 1 2 9 (Zcu n lo A B I ((J-1:Nat):Int) L1) (Z2w n lo A B I L) (Z2w n lo A B I L) (Z2w n lo A B I L) Z1 Z2 False False):=by
 refine @Eq.mpr _ (let q:=decide (0<=(↑J:Int)/\(↑J:Int)<(↑n:Int));let g:=0+Int.toNat (↑J:Int);let h:=wrap i64 ((↑J:Int)-1);let l:=decide (0<=h/\h<(↑n:Int));let f:=0+Int.toNat h;let k:=List.getD L g Yj;let d:=k.o;let r:=[AV.int i64 d.kind,AV.int i64 d.amount,AV.arr u8 32 d.owner,AV.arr u8 32 d.other,AV.arr u8 32 d.point,AV.arr u8 32 d.hash,AV.int i64 d.delay,AV.int i64 d.expiry,AV.int i64 k.id,AV.int i64 k.what];let j:=List.getD L f Yj;let e:=j.o;let z:=[AV.int i64 e.kind,AV.int i64 e.amount,AV.arr u8 32 e.owner,AV.arr u8 32 e.other,AV.arr u8 32 e.point,AV.arr u8 32 e.hash,AV.int i64 e.delay,AV.int i64 e.expiry,AV.int i64 j.id,AV.int i64 j.what];let p:=YV byL 0 1;let y:=decide ((↑I:Int)=(↑I:Int));let x:=decide ((↑B:Int)=(↑B:Int));let w:=decide ((↑A:Int)=(↑A:Int));let v:=[AV.vrows 1 5 p 5];let u:=v=v;let i:=decide (n=n);let t:=decide (lo<=lo);let m:=Zq L;let s:=Z5 y (Z5 x (Z5 w (u/\Z5 i (Z5 t (Z5 i (Zv 1 [] n m m/\Z2))))));
 Z7 (decide ((↑J:Int)>(↑A:Int))) (Z5 q (Z6 (g<n) (Z5 l (Z6 (f<n) (∃(a:Zg),∃(b:Zg),r=Zg.c a/\z=Zg.c b/\p=p/\(Zg.Ok a/\Zg.Ok b)/\Z7 (decide (Z8E a b<0)) (Z5 l (Z6 (f<n) (Z5 q (Z6 (g<n) (Z5 q (Z6 (g<n) (Z5 l (Z6 (f<n) (Z6 (h=(↑(J-1):Int)) (Z5 y (Z5 x (Z5 w (u/\Z5 i (Z5 t (Z5 i (Zv 1 [] n (Zq L1) (UI (UI m g z) f r)/\Z1)))))))))))))))) s))))) s) (by kernel_rfl) ?_
 conv=>zeta
 try simp only [vcA]
 try simp only [vcB]
 try simp only [vcC]
 refine ⟨fun hc=> ?_,fun hc=>⟨YE fun _ _=>rfl,h2 (.inl (by omega))⟩⟩
 have key:i64.wrap ((J:Int)-1)=((J-1:Nat):Int):=by rw [w64 (by omega)];omega
 rw [key]
 simp only [Kb]
 have o1:(L.getD J Yj).Ok:=Z7C hok (by omega)
 have o2:(L.getD (J-1) Yj).Ok:=Z7C hok (by omega)
 have hlt:=Zcr o1 o2
 refine ⟨by omega,by omega,by omega,by omega,L.getD J Yj,L.getD (J-1) Yj,rfl,rfl,⟨o1,o2⟩,fun hm=> ?_,fun hm=>⟨YE fun _ _=>rfl,h2 (.inr (by rw [<-hlt];simpa using hm))⟩⟩
 refine ⟨by omega,by omega,by omega,by omega,by omega,by omega,by omega,by omega,trivial,YE fun i hi=> ?_,h1 (by omega) (by rw [<-hlt];simpa using hm)⟩
 rw [hsw (by omega) i hi]
 exact ZaA rfl rfl
def isL (a p:List Zg) (x:Zg) (r:List Zg) (m:Nat):List Zg:=a++(p.take (p.length-m)++x::(p.drop (p.length-m)++r))
theorem Zcv {a p r:List Zg} {x:Zg} {m:Nat}:(isL a p x r m).length=a.length+p.length+1+r.length:=by
 unfold isL
 simp only [Je,Jw,Jm,Jo]
 omega
theorem Z7D {a p r:List Zg} {x:Zg} {m:Nat}:z∈isL a p x r m↔z∈a\/z∈p\/z=x\/z∈r:=by
 unfold isL
 have e:z∈p↔z∈p.take (p.length-m)\/z∈p.drop (p.length-m):=by
  rw [<-List.mem_append,List.take_append_drop]
 rw [e]
 simp only [Jr,J9]
 constructor
 ·rintro (h|h|h|h|h)<;>simp [h]
 ·rintro (h|(h|h)|h|h)<;>simp [h]
theorem ZaB {a p r:List Zg} {x:Zg} {m:Nat} (hm:m<=p.length):(isL a p x r m).getD (a.length+p.length-m) Yj=x:=by
 unfold isL
 rw [J2,Jb (by omega),Jb (by rw [Jm];omega)]
 have:a.length+p.length-m-a.length-(p.take (p.length-m)).length=0:=by rw [Jm];omega
 rw [this];rfl
theorem ZaC {a p r:List Zg} {x:Zg} {m:Nat} (hm:m<p.length):(isL a p x r m).getD (a.length+p.length-m-1) Yj=p.getD (p.length-m-1) Yj:=by
 unfold isL
 rw [J2,Jb (by omega),J8 (by rw [Jm];omega),Jy,if_pos (by omega),<-List.getD_eq_getElem?_getD]
 congr 1
 omega
theorem ZaD {a p r:List Zg} {x:Zg} {m:Nat} (hm:m<p.length) (i:Nat):Zq (isL a p x r (m+1)) i=if i=a.length+p.length-m-1 then Zq (isL a p x r m) (a.length+p.length-m) else if i=a.length+p.length-m then Zq (isL a p x r m) (a.length+p.length-m-1) else Zq (isL a p x r m) i:=by
 unfold Zq
 rw [ZaB (by omega),ZaC hm]
 have hx:=ZaB (a:=a) (p:=p) (r:=r) (x:=x) (m:=m+1) (by omega)
 by_cases h1:i=a.length+p.length-m-1
 ·rw [if_pos h1,h1,show a.length+p.length-m-1=a.length+p.length-(m+1) by omega,hx]
 ·rw [if_neg h1]
  have e:p.length-m=(p.length-(m+1))+1:=by omega
  have hd:p.drop (p.length-(m+1))=p.getD (p.length-m-1) Yj::p.drop (p.length-m):=by
   rw [List.drop_eq_getElem_cons (by omega),show p.length-(m+1)+1=p.length-m by omega]
   congr 1
   rw [J2,Jd (by omega)]
   simp only [Kj]
   congr 1
  have ht:p.take (p.length-m)=p.take (p.length-(m+1))++[p.getD (p.length-m-1) Yj]:=by
   rw [e,List.take_succ_eq_append_getElem (by omega)]
   congr 2
   rw [J2,Jd (by omega)]
   simp only [Kj]
   congr 1
  have l1:(p.take (p.length-(m+1))).length=p.length-(m+1):=by rw [Jm];omega
  generalize p.getD (p.length-m-1) Yj=y at*
  have hm1:isL a p x r (m+1)=(a++p.take (p.length-(m+1)))++(x::y::(p.drop (p.length-m)++r)):=by
   unfold isL;rw [hd];simp
  have hm0:isL a p x r m=(a++p.take (p.length-(m+1)))++(y::x::(p.drop (p.length-m)++r)):=by
   unfold isL;rw [ht];simp
  rw [hm1,hm0]
  have l2:(a++p.take (p.length-(m+1))).length=a.length+p.length-m-1:=by rw [Je,l1];omega
  generalize a++p.take (p.length-(m+1))=U at*
  generalize p.drop (p.length-m)++r=V at*
  by_cases h2:i=a.length+p.length-m
  ·rw [if_pos h2,J2,Jb (by omega),show i-U.length=1 by omega]
   rfl
  ·rw [if_neg h2]
   rcases J7 i U.length with h3|h3
   ·rw [J2,J2,J8 h3,J8 h3]
   ·rw [J2,J2,Jb h3,Jb h3]
    obtain ⟨q,hq⟩:∃q,i-U.length=q+2:=⟨i-U.length-2,by omega⟩
    rw [hq];rfl
def isGo (p:List Zg) (x:Zg) (m:Nat):Prop:=m<p.length/\ltM x (p.getD (p.length-m-1) Yj)=true
def Zgq (p:List Zg) (x:Zg) (m:Nat):Prop:=m=p.length\/(m<p.length/\ltM x (p.getD (p.length-m-1) Yj)=false)
theorem Zcw {a p r:List Zg} {x:Zg} {m:Nat} (ho:Z2e ltM p) (hm:m<=p.length) (hgo:∀j,j<m->isGo p x j) (hex:Zgq p x m):isL a p x r m=a++(Ut ltM x p++r):=by
 have h:=Z7A Zax (x:=x) (l:=p) (j:=p.length-m) ho (by omega) (fun y hy=> ?_) (fun y hy hj=> ?_)
 ·unfold isL
  rw [<-h];simp
 ·obtain ⟨q,hq⟩:=JP.1 hy
  rw [Jf] at hq
  obtain ⟨hlt,he⟩:=Js.1 hq
  have:=(hgo (p.length-1-(p.length-m+q)) (by omega)).2
  rw [J2,show p.length-(p.length-1-(p.length-m+q))-1=p.length-m+q by omega,hq] at this
  exact this
 ·rcases hex with hex|⟨_,hex⟩
  ·omega
  ·rw [J2,hy] at hex
   exact hex
structure IsQ where
 a:List Zg
 p:List Zg
 x:Zg
 r:List Zg
def IsQ.n (q:IsQ):Nat:=q.a.length+q.p.length+1+q.r.length
def IsQ.I (q:IsQ):Nat:=q.a.length+q.p.length
def IsQ.L (q:IsQ) (m:Nat):List Zg:=isL q.a q.p q.x q.r m
structure IsQ.Ok (q:IsQ) (n:Nat) (A:Nat):Prop where
 hn:q.n=n
 hA:q.a.length=A
 le:n<900000000000
 ok:∀m∈q.L 0,m.Ok
def IsQ.go (q:IsQ):Nat->Prop:=isGo q.p q.x
def IsQ.ex (q:IsQ):Nat->Prop:=Zgq q.p q.x
def IsQ.len (q:IsQ):Nat:=q.p.length
noncomputable def ZeD (n lo A B:Nat):Zf:=E82.withL 293 2 (Zey fun q:IsQ=>goM 1 (Zcu n lo A B q.I q.I (q.L 0)) (q.Ok n A) (XY 2 q.len 9 q.go q.ex (fun _=>False) (fun _=>False) (fun m=>Z2w n lo A B q.I (q.L m)) (fun m=>Z2w n lo A B q.I (q.L m)) (fun m=>Z2w n lo A B q.I (q.L m))))
theorem Zcx (n lo A B:Nat):(ZeD n lo A B).Ok:=
 Zf.withL_ex Zaz fun q=>Zf.withGoM (N:=20) (S:=fun m=>Zcu n lo A B q.I ((q.I-m:Nat):Int) (q.L m)) Zaz (by kernel_rfl) fun hC=>⟨by simp,fun m hm hgo=>by
  obtain ⟨h1,h2,h3,h4⟩:=hC
  have l1:(q.L m).length=n:=by rw [<-h1];exact Zcv
  have hI:q.I=q.a.length+q.p.length:=rfl
  have hm':m<=q.p.length:=hm
  have hnn:q.n=q.a.length+q.p.length+1+q.r.length:=rfl
  have hx:(q.L m).getD (q.I-m) Yj=q.x:=ZaB hm'
  have hok:∀z∈q.L m,z.Ok:=fun z hz=>h4 z (Z7D.2 (Z7D.1 hz))
  have:=Zht n lo A B q.I (q.I-m) (q.L m) (q.L (m+1)) (q.go m/\m<q.len) (q.ex m) h3 (by omega) l1 hok (fun hlt i hi=> ?_) (fun hlt hc=> ?_) (fun hc=> ?_)
  ·rw [show q.I-(m+1)=q.I-m-1 by omega]
   exact this
  ·have hmp:m<q.p.length:=by omega
   exact ZaD hmp i
  ·have hmp:m<q.p.length:=by omega
   rw [hx,show (q.L m).getD (q.I-m-1) Yj=_ from ZaC hmp] at hc
   exact ⟨⟨hmp,hc⟩,hmp⟩
  ·rcases J7 m q.p.length with hmp|hmp
   ·rcases hc with hc|hc
    ·omega
    ·rw [hx,show (q.L m).getD (q.I-m-1) Yj=_ from ZaC hmp] at hc
     exact .inr ⟨hmp,hc⟩
   ·exact .inl (show m=q.p.length by omega)⟩
theorem Zhu (n lo A B I:Nat) (L L1:List Zg) (q:IsQ) (Z1 Z2:Prop) (hn:n<900000000000) (hI:I<900000000001) (hq:I<B->q.I=I/\q.L 0=L/\q.Ok n A) (hnext:I<B->∀m,m<=q.len->(∀j,j<m->q.go j)->q.ex m->L1=q.L m/\Z1) (h2:¬I<B->Z2):
  ZW (ZeD n lo A B) 20 293 0 1 (Z2w n lo A B I L) (rdM 1 0 9 (Z2w n lo A B ((I+1:Nat):Int) L1) ⟨53,[],isH n L,[]⟩ ⟨53,[],isH n L,[]⟩ ⟨53,[],isH n L,[]⟩ Z1 Z2 False False):=by
 refine @Eq.mpr _ (let l:=decide ((↑B:Int)=(↑B:Int));let g:=decide ((↑A:Int)=(↑A:Int));let f:=[AV.vrows 1 5 (YV byL 0 1) 5];let e:=f=f;let a:=decide (n=n);let d:=decide (lo<=lo);let b:=Zq L;
 Z7 (decide ((↑I:Int)<(↑B:Int))) (∃(i:IsQ),
 let k:=(↑(IsQ.I i):Int);let h:=decide ((↑I:Int)=k);
 Z5 h (Z5 h (Z5 l (Z5 g (e/\
 Z5 a (Z5 d (Z5 a (Zv 1 [] n (Zq (IsQ.L i 0)) b/\
 IsQ.Ok i n A/\
 ∀(i_1:Nat),
 let c:=Zq (IsQ.L i i_1);
 i_1<=IsQ.len i->(∀(j:Nat),j<i_1->IsQ.go i j)->(IsQ.ex i i_1->Z6 (wrap i64 (k+1)=(↑(I+1):Int)) (Z5 l (Z5 g (e/\Z5 a (Z5 d (Z5 a (Zv 1 [] n (Zq L1) c/\Z1)))))))/\(False->Z5 a (Zv 1 [] n b c/\False))/\(False->Z5 a (Zv 1 [] n b c/\False)))))))))) (Z5 a (Zv 1 [] n b b/\Z2))) (by kernel_rfl) ?_
 conv=>zeta
 try simp only [vcA]
 try simp only [vcB]
 try simp only [vcC]
 refine ⟨fun hc=> ?_,fun hc=>⟨YE fun _ _=>rfl,h2 (by omega)⟩⟩
 obtain ⟨e1,e2,e3⟩:=hq (by omega)
 refine ⟨q,by omega,by omega,YE (fun _ _=>by rw [e2]),e3,fun m hm hgo=>⟨fun hex=> ?_,fun h=>h.elim,fun h=>h.elim⟩⟩
 obtain ⟨e4,hZ⟩:=hnext (by omega) m hm hgo hex
 exact ⟨by rw [w64 (by omega)];omega,YE (fun _ _=>by rw [e4]),hZ⟩
structure IsP where
 a:List Zg
 M:List Zg
 c:List Zg
def IsP.L (q:IsP) (t:Nat):List Zg:=q.a++(Xs ltM [] (q.M.take (t+1))++(q.M.drop (t+1)++q.c))
def IsP.N (q:IsP):Nat:=q.M.length-1
def IsP.all (q:IsP):List Zg:=q.a++(q.M++q.c)
def IsP.done (q:IsP):List Zg:=q.a++(ZP q.M++q.c)
structure IsP.Ok (q:IsP) (n A B:Nat):Prop where
 hn:q.a.length+q.M.length+q.c.length=n
 hA:q.a.length=A
 hB:q.a.length+q.M.length=B
 le:n<900000000000
 ok:∀m∈q.all,m.Ok
theorem IsP.L0 (q:IsP):q.L 0=q.all:=by
 unfold IsP.L IsP.all
 cases h:q.M with
 | nil=>rfl
 | cons x r=>rfl
theorem IsP.LN (q:IsP):q.L q.N=q.done:=by
 unfold IsP.L IsP.done IsP.N
 rw [K8 (by omega),List.drop_of_length_le (by omega)];rfl
theorem Z8F {acc:List Zg}:z∈Xs ltM acc l↔z∈acc\/z∈l:=by
 rw [(Vp (lt:=ltM)).mem_iff,Jr]
noncomputable def Zgr (q:IsP) (n lo A B:Nat):Zf:=(ZeD n lo A B).withL 293 0 (goM 1 (Z2w n lo A B ((A+1:Nat):Int) (q.L 0)) (q.Ok n A B) (XY 0 q.N 9 (fun t=>t<q.N) (fun t=>t=q.N) (fun _=>False) (fun _=>False) (fun t=>⟨53,[],isH n (q.L t),[]⟩) (fun t=>⟨53,[],isH n (q.L t),[]⟩) (fun t=>⟨53,[],isH n (q.L t),[]⟩)))
theorem Zcy (q:IsP) (n lo A B:Nat):(Zgr q n lo A B).Ok:=
 Zf.withGoM (N:=20) (S:=fun t=>Z2w n lo A B ((A+1+t:Nat):Int) (q.L t)) (Zcx n lo A B) (by kernel_rfl) fun hC=>⟨rfl,fun t ht hgo=>by
  obtain ⟨h1,h2,h3,h4,h5⟩:=hC
  have hN:q.N=q.M.length-1:=rfl
  have hMl:q.M.length<=n:=by omega
  have:=Zhu n lo A B (A+1+t) (q.L t) (q.L (t+1)) ⟨q.a,Xs ltM [] (q.M.take (t+1)),q.M.getD (t+1) Yj,q.M.drop (t+2)++q.c⟩ (t<q.N/\t<q.N) (t=q.N) h4 (by omega) (fun hlt=> ?_) (fun hlt m hm hg he=> ?_) (fun hc=>by omega)
  ·rw [show A+1+(t+1)=A+1+t+1 by omega];exact this
  ·have hl:(Xs ltM [] (q.M.take (t+1))).length=t+1:=by rw [Z3j,Jm];simp;omega
   have e0:q.L t=isL q.a (Xs ltM [] (q.M.take (t+1))) (q.M.getD (t+1) Yj) (q.M.drop (t+2)++q.c) 0:=by
    unfold isL IsP.L
    rw [Nat.sub_zero,K6,List.drop_length,List.drop_eq_getElem_cons (show t+1<q.M.length by omega),J2,Jd (show t+1<q.M.length by omega)]
    rfl
   refine ⟨?_,e0.symm, ?_,h2,h4,fun z hz=> ?_⟩
   ·show q.a.length+(Xs ltM [] (q.M.take (t+1))).length=_
    rw [hl,h2];omega
   ·show q.a.length+(Xs ltM [] (q.M.take (t+1))).length+1+(q.M.drop (t+2)++q.c).length=n
    rw [hl,Je,Jo];omega
   ·have hz:z∈isL q.a (Xs ltM [] (q.M.take (t+1))) (q.M.getD (t+1) Yj) (q.M.drop (t+2)++q.c) 0:=hz
    refine h5 z ?_
    rw [<-e0] at hz
    unfold IsP.L at hz
    unfold IsP.all
    rw [Jr,Jr,Z8F,Jr] at hz
    rw [Jr,Jr]
    rcases hz with hz|(hz|hz)|hz|hz
    ·exact .inl hz
    ·simp at hz
    ·exact .inr (.inl (List.mem_of_mem_take hz))
    ·exact .inr (.inl (List.mem_of_mem_drop hz))
    ·exact .inr (.inr hz)
  ·refine ⟨?_,by omega⟩
   have:=Zcw (a:=q.a) (r:=q.M.drop (t+2)++q.c) (x:=q.M.getD (t+1) Yj) (m:=m) (Z3i Zax (l:=q.M.take (t+1)) (acc:=[]) .nil) hm hg he
   show _=isL q.a _ _ _ m
   rw [this]
   unfold IsP.L
   have e2:q.M.take (t+1+1)=q.M.take (t+1)++[q.M.getD (t+1) Yj]:=by
    rw [List.take_succ_eq_append_getElem (by omega),J2,Jd (show t+1<q.M.length by omega)]
    rfl
   rw [e2,Z2f]⟩
theorem Zgs (q:IsP) (n lo A B:Nat) (L0 L1:List Zg) (hq:q.Ok n A B) (hL:L0=q.all) (hL1:L1=q.done):
  evF (Zgr q n lo A B) 20 293 [.nslice ⟨0,0,134,0,0⟩ 134 n lo,.int .i64 A,.int .i64 B,Zct] (isH n L0) (Y6 1 (.ret (.tuple [])) 1 [(0,.rows 134 n (Zq L1))]):=by
 refine @Eq.mpr _ (let d:=[AV.vrows 1 5 (YV byL 0 1) 5];let b:=decide (n=n);let a:=IsP.N q;
 Z6 (wrap i64 ((↑A:Int)+1)=(↑(A+1):Int)) (Z6 ((↑B:Int)=(↑B:Int)) (Z6 ((↑A:Int)=(↑A:Int)) (d=d/\
 Z5 b (Z6 (lo<=lo) (Z5 b (Zv 1 [] n (Zq (IsP.L q 0)) (Zq L0)/\
 IsP.Ok q n A B/\
 ∀(i:Nat),
 let c:=Z5 b (Zv 1 [] n (Zq L1) (Zq (IsP.L q i))/\True);
 i<=a->(∀(j:Nat),j<i->(fun (t:Nat)=>t<a) j)->(i=a->c)/\(False->c)/\(False->False)))))))) (by kernel_rfl) ?_
 conv=>zeta
 try simp only [vcA]
 try simp only [vcB]
 try simp only [vcC]
 refine ⟨by rw [w64 (by have:=hq.hn;have:=hq.hA;have:=hq.le;omega)];omega,YE (fun _ _=>by rw [hL,q.L0]),hq,fun i hi hg=>⟨fun he=> ?_,fun h=>h.elim,fun h=>h.elim⟩⟩
 subst he
 exact YE fun _ _=>by rw [hL1,q.LN]
def isF:Yb:=fun args h K=>match args with
 | .nslice p esz len lo::r=>frA [p.blk] h 20 (.nslice p esz len lo::r) fun Bs a=>match Bs,a with
  | [.rows 134 m f],[.nslice ⟨0,0,134,0,0⟩ 134 n lo,.int .i64 A,.int .i64 B,.func (.func 241) [] [.pview [.vrows 1 5 g 5] 0]]=>∃(q:IsP) (a b:Nat),(m=n/\A=(a:Int)/\B=(b:Int))/\q.Ok n a b/\g=YV byL 0 1/\f=Zq q.all/\K (.ret (.tuple [])) ⟨h.next,(p.blk,.rows 134 n (Zq q.done))::Yu h.bs p.blk⟩
  | _,_=>False
 | _=>False
theorem ZeE (args:List AV) (h:Z9) (K:KO) (hl:isF args h K):Zh PP 293 args h K:=by
 unfold isF at hl
 split at hl
 ·rename_i p esz len lo r
  refine Spec.fsumm (σ:=[p.blk]) (d:=20) hl fun Bs a₀ hlen h0=> ?_
  split at h0
  ·obtain ⟨q,a,b,⟨rfl,rfl,rfl⟩,hq,rfl,rfl,hK⟩:=h0
   exact ⟨_,_,_,_,_,.evM (Zcy _ _ _ _ _) (Zgs q _ _ a b _ _ hq rfl rfl),J5 1,.ret _ _ rfl,.cons 0 _ _ _ _ _ rfl (.rows _ _ _ fun i _=>XN _ i) .nil,hK⟩
  ·exact h0.elim
 ·exact hl.elim
def noF:Yb:=fun _ _ _=>False
theorem ZeF {f:FuncId} (args:List AV) (h:Z9) (K:KO) (hl:noF args h K):Zh PP f args h K:=hl.elim
noncomputable def Z6D:Zf:=(G0.withF 293 isF).withF 294 noF
theorem Z7E:Z6D.Ok:=Zf.withF_ok (Zf.withF_ok Zu ZeE) ZeF
def ssT (n lo:Nat) (l:ZL):ZL:=l++[(2,Zct),(1,.int .i64 n),(0,.nslice ⟨0,0,134,0,0⟩ 134 n lo)]
def ZaE (n lo:Nat) (L:List Zg):St:=⟨63,ssT n lo [(8,.int .i64 20),(7,.int .i64 0),(6,.int .i64 20)],isH n L,[]⟩
def Z4a (n lo:Nat) (L:List Zg):St:=⟨63,ssT n lo [(7,.int .i64 0),(6,.int .i64 20)],isH n L,[]⟩
def ZaF (n lo:Nat) (L:List Zg):St:=⟨63,ssT n lo [(6,.int .i64 20)],isH n L,[]⟩
def Z4b (n lo:Nat) (L:List Zg):St:=⟨63,[],isH n L,[]⟩
theorem Zhv (n lo:Nat) (L:List Zg) (Z:Prop) (hn:n<20) (hZ:Z):
  ZW Z6D 20 276 0 1 (ZaE n lo L) (rdM 1 0 9 (ZaE n lo L) (Z4a n lo L) (Z4a n lo L) (Z4a n lo L) False Z False False):=by
 refine @Eq.mpr _ (let d:=YV byL 0 1;let c:=Zq L;let f:=[AV.vrows 1 5 d 5];let e:=decide (n=n);
 Z7 (decide (20<=(↑n:Int))) ((∀(i:Nat),i<n->true=true)/\∃(q:IsP),∃(a:Nat),∃(b:Nat),(n=n/\0=(↑a:Int)/\20=(↑b:Int))/\IsP.Ok q n a b/\d=d/\c=Zq (IsP.all q)/\False) (f=f/\Z6 ((↑n:Int)=(↑n:Int)) (Z5 e (Z6 (lo<=lo) (Z5 e (Zv 1 [] n c c/\Z)))))) (by kernel_rfl) ?_
 conv=>zeta
 try simp only [vcA]
 try simp only [vcB]
 try simp only [vcC]
 exact ⟨fun h=>by omega,fun _=>⟨YE fun _ _=>rfl,hZ⟩⟩
theorem Zhw (n lo:Nat) (L:List Zg) (Z:Prop) (hn:n<20) (hZ:Z):
  ZW Z6D 20 276 2 1 (ZaF n lo L) (rdM 1 2 9 (ZaF n lo L) (Z4b n lo L) (Z4b n lo L) (Z4b n lo L) False Z False False):=by
 refine @Eq.mpr _ (Z7 (decide (20<(↑n:Int))) (Z7 (decide (40<=(↑n:Int))) False (Z7 (decide (20<(↑n:Int))) False False)) (Z6 (n=n) (Zv 1 [] n (Zq L) (Zq L)/\Z))) (by kernel_rfl) ?_
 try simp only [vcA]
 try simp only [vcB]
 try simp only [vcC]
 exact ⟨fun h=>absurd h (by omega),fun _=>⟨YE fun _ _=>rfl,hZ⟩⟩
noncomputable def Zgt (n lo:Nat) (L L1:List Zg):Zf:=(Z6D.withL 276 0 (goM 1 (ZaE n lo L) (n<20) (XY 0 0 9 (fun _=>False) (fun _=>True) (fun _=>False) (fun _=>False) (fun _=>Z4a n lo L) (fun _=>Z4a n lo L) (fun _=>Z4a n lo L)))).withL 276 2 (goM 1 (ZaF n lo L1) (n<20) (XY 2 0 9 (fun _=>False) (fun _=>True) (fun _=>False) (fun _=>False) (fun _=>Z4b n lo L1) (fun _=>Z4b n lo L1) (fun _=>Z4b n lo L1)))
theorem Zcz (n lo:Nat) (L L1:List Zg):(Zgt n lo L L1).Ok:=by
 have h0:(Z6D.withL 276 0 _).Ok:=Zf.withGoM (N:=20) (S:=fun _=>ZaE n lo L) (S0:=ZaE n lo L) (C:=n<20) (n:=0) (l:=9) (go:=fun _=>False) (ex:=fun _=>True) (re:=fun _=>False) (jm:=fun _=>False) (En:=fun _=>Z4a n lo L) (Rn:=fun _=>Z4a n lo L) (Jn:=fun _=>Z4a n lo L) Z7E (by kernel_rfl) fun hC=>⟨rfl,fun t _ _=>(by
  have:=Zhv n lo L True hC trivial
  simpa only [false_and] using this)⟩
 have h2:(Z6D.withL 276 2 _).Ok:=Zf.withGoM (N:=20) (S:=fun _=>ZaF n lo L1) (S0:=ZaF n lo L1) (C:=n<20) (n:=0) (l:=9) (go:=fun _=>False) (ex:=fun _=>True) (re:=fun _=>False) (jm:=fun _=>False) (En:=fun _=>Z4b n lo L1) (Rn:=fun _=>Z4b n lo L1) (Jn:=fun _=>Z4b n lo L1) Z7E (by kernel_rfl) fun hC=>⟨rfl,fun t _ _=>(by
  have:=Zhw n lo L1 True hC trivial
  simpa only [false_and] using this)⟩
 exact Zf.withL_join (H:=Z6D) h0 rfl h2
theorem Zhx (n lo:Nat) (L L1:List Zg) (hn:n<20) (hl:L.length=n) (hok:∀m∈L,m.Ok) (hL:L1=ZP L):
  evF (Zgt n lo L L1) 20 240 [.nslice ⟨0,0,134,0,0⟩ 134 n lo,Zct] (isH n L) (Y6 1 (.ret (.tuple [])) 1 [(0,.rows 134 n (Zq L1))]):=by
 refine @Eq.mpr _ (let f:=YV byL 0 1;let m:=[AV.vrows 1 5 f 5];let l:=m=m;let k:=decide ((↑n:Int)=(↑n:Int));let c:=decide (n=n);let h:=decide (lo<=lo);let e:=Zq L;let d:=Zq L1;let g:=Z5 c (Zv 1 [] n d d/\True);
 l/\Z5 k (Z5 c (Z5 h (Z5 c (Zv 1 [] n e e/\n<20/\∀(i:Nat),i<=0->(∀(j:Nat),j<i->(fun (x:Nat)=>False) j)->(True->(∀(i:Nat),i<n->true=true)/\∃(q:IsP),∃(a:Nat),∃(b:Nat),(n=n/\0=(↑a:Int)/\(↑n:Int)=(↑b:Int))/\IsP.Ok q n a b/\f=f/\e=Zq (IsP.all q)/\l/\Z5 k (Z5 c (Z5 h (Z5 c (Zv 1 [] n d (Zq (IsP.done q))/\n<20/\∀(i:Nat),i<=0->(∀(j:Nat),j<i->(fun (x:Nat)=>False) j)->(True->g)/\(False->g)/\(False->False))))))/\(False->Z5 c (Zv 1 [] n d e/\True))/\(False->False)))))) (by kernel_rfl) ?_
 conv=>zeta
 try simp only [vcA]
 try simp only [vcB]
 try simp only [vcC]
 refine ⟨YE fun _ _=>rfl,hn,fun i _ _=>⟨fun _=>⟨fun _ _=>trivial,⟨[],L,[]⟩,0,n,⟨rfl,rfl⟩,⟨by simp [hl],rfl,by simp [hl],by omega,fun m hm=>hok m (by simpa [IsP.all] using hm)⟩,by simp [IsP.all],YE fun _ _=>by simp [IsP.done,hL],hn,fun j _ _=>⟨fun _=>YE fun _ _=>rfl,fun h=>h.elim,fun h=>h.elim⟩⟩,fun h=>h.elim,fun h=>h.elim⟩⟩
def stF:Yb:=fun args h K=>match args with
 | .nslice p esz len lo::r=>frA [p.blk] h 20 (.nslice p esz len lo::r) fun Bs a=>match Bs,a with
  | [.rows 134 m f],[.nslice ⟨0,0,134,0,0⟩ 134 n lo,.func (.func 241) [] [.pview [.vrows 1 5 g 5] 0]]=>∃(L:List Zg),(m=n/\n<20/\L.length=n)/\(∀m∈L,m.Ok)/\g=YV byL 0 1/\f=Zq L/\K (.ret (.tuple [])) ⟨h.next,(p.blk,.rows 134 n (Zq (ZP L)))::Yu h.bs p.blk⟩
  | _,_=>False
 | _=>False
theorem ZeG (args:List AV) (h:Z9) (K:KO) (hl:stF args h K):Zh PP 240 args h K:=by
 unfold stF at hl
 split at hl
 ·rename_i p esz len lo r
  refine Spec.fsumm (σ:=[p.blk]) (d:=20) hl fun Bs a₀ hlen h0=> ?_
  split at h0
  ·obtain ⟨L,⟨rfl,hn,hll⟩,hok,rfl,rfl,hK⟩:=h0
   exact ⟨_,_,_,_,_,.evM (Zcz _ _ _ _) (Zhx _ _ L _ hn hll hok rfl),J5 1,.ret _ _ rfl,.cons 0 _ _ _ _ _ rfl (.rows _ _ _ fun i _=>XN _ i) .nil,hK⟩
  ·exact h0.elim
 ·exact hl.elim
noncomputable def Zgu:Zf:=G0.withF 240 stF
theorem ZcA:Zgu.Ok:=Zf.withF_ok Zu ZeG
theorem Zgv (n lo:Nat) (L L1:List Zg) (hn:n<20) (hl:L.length=n) (hok:∀m∈L,m.Ok) (hL:L1=ZP L):
  evF Zgu 20 88 [.nslice ⟨0,0,134,0,0⟩ 134 n lo] (isH n L) (Y6 1 (.ret (.nslice ⟨0,0,134,0,0⟩ 134 n lo)) 1 [(0,.rows 134 n (Zq L1))]):=by
 refine @Eq.mpr _ (let a:=decide (n=n);
 (∀(i:Nat),i<n->true=true)/\∃(L_1:List Zg),(n=n/\n<(20:Nat)/\L_1.length=n)/\(∀(m:Zg),List.Mem m L_1->Zg.Ok m)/\YV [AV.func (Fn.func (170:Nat)) [] [],AV.func (Fn.func (172:Nat)) [] [],AV.func (Fn.func (174:Nat)) [] [],AV.func (Fn.func (175:Nat)) [] [],AV.func (Fn.func (176:Nat)) [] []] (0:Nat) (1:Nat)=YV byL (0:Nat) (1:Nat)/\Zq L=Zq L_1/\Z5 a (Z6 (lo<=lo) (Z5 a (Zv (1:Nat) [] n (Zq L1) (Zq (ZP L_1))/\True)))) (by kernel_rfl) ?_
 conv=>zeta
 try simp only [vcA]
 try simp only [vcB]
 try simp only [vcC]
 exact ⟨fun _ _=>trivial,L,⟨hn,hl⟩,hok,rfl,rfl,YE fun _ _=>by rw [hL]⟩
theorem Zhy (X:Nat) (hn:X=X):
  evF G0 20 88 [.nilslice] ⟨0,[]⟩ (Y6 0 (.ret .nilslice) 0 []):=by
 refine @Eq.mpr _ (True) (by kernel_rfl) ?_
 trivial
def orF:Yb:=fun args h K=>match args with
 | [.nilslice]=>K (.ret .nilslice) h
 | [.nslice p esz len lo]=>frA [p.blk] h 20 [.nslice p esz len lo] fun Bs a=>match Bs,a with
  | [.rows 134 m f],[.nslice ⟨0,0,134,0,0⟩ 134 n lo]=>∃(L:List Zg),(m=n/\n<20/\L.length=n)/\(∀m∈L,m.Ok)/\(∀i,i<n->f i=Zq L i)/\K (.ret (.nslice ⟨p.blk,0,134,0,0⟩ 134 n lo)) ⟨h.next,(p.blk,.rows 134 n (Zq (ZP L)))::Yu h.bs p.blk⟩
  | _,_=>False
 | _=>False
theorem ZeH (args:List AV) (h:Z9) (K:KO) (hl:orF args h K):Zh PP 88 args h K:=by
 unfold orF at hl
 split at hl
 ·exact (Zx.evM Zu (Zhy 0 rfl)).calls (fun E w rs he hr=>by
   cases hr with
   | cons v r vs rs h1 h2=>cases h2;exact .cons _ _ _ _ (h1.plain rfl) .nil) rfl trivial hl
 ·rename_i p esz len lo
  refine Spec.fsumm (σ:=[p.blk]) (d:=20) hl fun Bs a₀ hlen h0=> ?_
  split at h0
  ·obtain ⟨L,⟨rfl,hn,hll⟩,hok,hf,hK⟩:=h0
   exact ⟨_,_,_,_,_,.rows hf (.evM ZcA (Zgv _ _ L _ hn hll hok rfl)),J5 1,.ret _ _ rfl,.cons 0 _ _ _ _ _ rfl (.rows _ _ _ fun i _=>XN _ i) .nil,hK⟩
  ·exact h0.elim
 ·exact hl.elim
theorem Zf3 {P:List Zg} {c i:Nat} (hc:O.length=c):Ym c (Zq O) (Zq P) i=Zq (O++P) i:=by
 unfold Zq
 rcases J7 i c with h|h
 ·rw [Z44 h,J2,J2,J8 (by omega)]
 ·rw [Ul h,J2,J2,Jb (by omega),hc]
theorem Z3k {f:Nat->List AV} {x:Zg} {c i:Nat} (hc:O.length=c) (hf:∀i,i<c->f i=Zq O i) (hi:i<c+1):Ym c f (YV (Zg.c x) 0 134) i=Zq (O++[x]) i:=by
 rcases J7 i c with h|h
 ·rw [Z44 h,hf i h]
  unfold Zq
  rw [J2,J2,J8 (by omega)]
 ·have e:i=c:=by omega
  subst e
  rw [Ul (J5 _),Nat.sub_self]
  unfold Zq
  rw [J2,Jb (by omega),hc,Nat.sub_self]
  rfl
def Z0K (t:Zi):InS:=⟨t.fund,t.index,1,Z0,Z0,Z0⟩
def Yk (L:List Zg):Nat->Zp:=fun i=>(L.getD i Yj).o
def txZ:List AV:=[.int .i64 0,.nilslice,.nilslice]
def mxH (t:Zi) (num:Int) (L:List Zg) (i:Nat):Z9:=⟨4,[(0,.flat txZ),(1,.flat (InS.c (Z0K t))),(2,.flat [.int .i64 num,.nslice ⟨1,0,0,0,0⟩ 130 1 1,.nslice ⟨3,0,132,0,0⟩ 132 i i]),(3,.rows 132 i (Ze (Yk L)))]⟩
def mxS (t:Zi) (num:Int) (L:List Zg) (n i:Nat):St:=⟨40,[(27,.int .i64 i),(26,.int .i64 n),(25,.vrows 134 n (Zq L) n),(8,.ptr (some ⟨2,0,0,0,0⟩)),(6,.ptr (some ⟨0,0,0,0,0⟩))],mxH t num L i,[]⟩
def mxE (t:Zi) (num:Int) (L:List Zg) (i:Nat):St:=⟨40,[(8,.ptr (some ⟨2,0,0,0,0⟩)),(6,.ptr (some ⟨0,0,0,0,0⟩))],mxH t num L i,[]⟩
theorem Z6E {L:List Zg} {i j:Nat} (hj:j<i+1):Ym i (Ze (Yk L)) (YV (Zp.c (L.getD i Yj).o) 0 132) j=(Yk L j).c:=by
 rcases J7 j i with h|h
 ·rw [Z44 h];rfl
 ·have e:j=i:=by omega
  subst e
  rw [Ul (J5 _),Nat.sub_self]
  rfl
theorem Zhz (t:Zi) (num:Int) (L:List Zg) (n i:Nat) (Z1 Z2:Prop) (hn:n<1000) (hi:i<=n) (h1:i<n->Z1) (h2:i=n->Z2):
  ZW G0 20 87 0 0 (mxS t num L n i) (rdM 0 0 9 (mxS t num L n (i+1)) (mxE t num L i) (mxE t num L i) (mxE t num L i) Z1 Z2 False False):=by
 refine @Eq.mpr _ (let e:=decide (i=i);let b:=i+1;let l:=decide (n=n);let c:=Z0K t;let k:=c.name;let j:=k=k;let h:=c.index;let g:=decide (h=h);let f:=c.tag;let w:=f=f;let v:=c.also;let u:=v=v;let s:=c.secret;let r:=s=s;let q:=decide (num=num);let p:=decide (b=b);let m:=[(1,1),(0,0),(2,2)];let d:=Ze (Yk L);let a:=(List.getD L (Int.toNat (↑i:Int)) Yj).o;
 Z7 (decide ((↑i:Int)<(↑n:Int))) (Z6 (0<=(↑i:Int)/\(↑i:Int)<(↑n:Int)) (Z5 e (Z6 (b*160<=140737488355328) (Z6 (wrap i64 ((↑i:Int)+1)=(↑b:Int)) (Z6 ((↑n:Int)=(↑n:Int)) (Z5 l (Zq L=Zq L/\Z5 l (j/\Z5 g (w/\u/\r/\Z5 q (Z5 p (Z6 (b<=b) (Z5 p (Zv 0 ((3,6)::m) b d (Ym i d (YV [AV.int i64 a.kind,AV.int i64 a.amount,AV.arr u8 32 a.owner,AV.arr u8 32 a.other,AV.arr u8 32 a.point,AV.arr u8 32 a.hash,AV.int i64 a.delay,AV.int i64 a.expiry] 0 132))/\Z1))))))))))))) (j/\Z5 g (w/\u/\r/\Z5 q (Z5 e (Z6 (i<=i) (Z5 e (Zv 0 ((3,3)::m) i d d/\Z2))))))) (by kernel_rfl) ?_
 conv=>zeta
 try simp only [vcA]
 try simp only [vcB]
 try simp only [vcC]
 refine ⟨fun hc=> ?_,fun hc=>⟨Yn fun _ _=>rfl,h2 (by omega)⟩⟩
 exact ⟨by omega,by omega,by rw [w64 (by omega)];omega,Yn fun j hj=>Z6E hj,h1 (by omega)⟩
noncomputable def E85 (t:Zi) (num:Int) (L:List Zg) (n:Nat):Zf:=G0.withL 87 0 (goM 0 (mxS t num L n 0) (n<1000) (XY 0 n 9 (fun i=>i<n) (fun i=>i=n) (fun _=>False) (fun _=>False) (fun i=>mxE t num L i) (fun i=>mxE t num L i) (fun i=>mxE t num L i)))
theorem ZeI (t:Zi) (num:Int) (L:List Zg) (n:Nat):(E85 t num L n).Ok:=
 Zf.withGoM (N:=20) (S:=fun i=>mxS t num L n i) Zu (by kernel_rfl) fun hC=>⟨rfl,fun i hi _=>Zhz t num L n i _ _ hC hi (fun h=>⟨h,h⟩) (fun h=>h)⟩
theorem ZhA (t:Zi) (num:Int) (L:List Zg) (n:Nat) (hn:n<1000) (h0:n≠0):
  evF (E85 t num L n) 20 87 [.agg t.c,.int .i64 num,.vrows 134 n (Zq L) n] ⟨0,[]⟩ (Y6 0 (.ret (.tuple [.agg [.int .i64 num,.nslice ⟨0,0,0,0,0⟩ 130 1 1,.nslice ⟨1,0,132,0,0⟩ 132 n n],.int .i64 0])) 2 [(0,.flat (InS.c (Z0K t))),(1,.rows 132 n (Ze (Yk L)))]):=by
 refine @Eq.mpr _ (let l:=decide (n=n);let a:=Z0K t;let f:=a.name;let e:=a.index;let d:=a.tag;let c:=a.also;let b:=a.secret;let h:=decide (num=num);let g:=Ze (Yk L);
 Z7 ((↑n:Int)==0) (Z7 (decide (0=num)) False False) (Z6 ((↑n:Int)=(↑n:Int)) (Z5 l (Zq L=Zq L/\
 Z5 l (t.fund=f/\
 Z6 (t.index=e) (Z0=d/\
 Z0=c/\
 Z0=b/\
 Z5 h (n<1000/\
 ∀(i:Nat),
 let k:=decide (i=n);
 i<=n->(∀(j:Nat),j<i->(fun (i:Nat)=>i<n) j)->(i=n->Z5 h (Z5 k (Z6 (n<=i) (f=f/\Z6 (e=e) (d=d/\c=c/\b=b/\Z5 k (Zv 0 [(1,3),(0,1)] n g g/\True))))))/\(False->False)/\(False->False)))))))) (by kernel_rfl) ?_
 conv=>zeta
 try simp only [vcA]
 try simp only [vcB]
 try simp only [vcC]
 refine ⟨fun h=> ?_,fun _=>⟨rfl,rfl,rfl,rfl,rfl,hn,fun i hi _=>⟨fun he=> ?_,fun h=>h.elim,fun h=>h.elim⟩⟩⟩
 ·have:(n:Int)=0:=by simpa using h
  omega
 ·subst he
  exact ⟨rfl,J5 _,rfl,Yn fun _ _=>rfl⟩
theorem ZhB (t:Zi) (num:Int) :
  evF G0 20 87 [.agg t.c,.int .i64 num,.nilslice] ⟨0,[]⟩ (Y6 0 (.ret (.tuple [.agg txZ,.int .i64 180])) 0 []):=by
 refine @Eq.mpr _ (True) (by kernel_rfl) ?_
 trivial
def mxF:Yb:=fun args h K=>ZD none h true 20 args fun a=>match a with
 | [.agg [.arr .u8 32 fu,.int .i64 ix,.int .i64 ca,.int .i64 du,.int .i64 fe,.int .i64 de,.arr .u8 32 k0,.arr .u8 32 k1],.int .i64 num,.nilslice]=>K (.ret (.tuple [.agg txZ,.int .i64 180])) h
 | [.agg [.arr .u8 32 fu,.int .i64 ix,.int .i64 ca,.int .i64 du,.int .i64 fe,.int .i64 de,.arr .u8 32 k0,.arr .u8 32 k1],.int .i64 num,.vrows 134 n f n']=>∃L,n'=n/\f=Zq L/\(n<1000/\n≠0)/\K (.ret (.tuple [.agg [.int .i64 num,.nslice ⟨h.next,0,0,0,0⟩ 130 1 1,.nslice ⟨h.next+1,0,132,0,0⟩ 132 n n],.int .i64 0])) ⟨h.next+2,(h.next,.flat (InS.c ⟨fu,ix,1,Z0,Z0,Z0⟩))::(h.next+1,.rows 132 n (Ze (Yk L)))::h.bs⟩
 | _=>False
theorem Zgw (args:List AV) (h:Z9) (K:KO) (hl:mxF args h K):Zh PP 87 args h K:=by
 refine Zx.fsumm (d:=20) (Zk _ _ _ _ _ hl fun a ha=> ?_)
 split at ha
 ·exact ⟨_,_,_,_,.evM Zu (ZhB ⟨_,_,_,_,_,_,_,_⟩ _),rfl,trivial,ha⟩
 ·obtain ⟨L,rfl,rfl,⟨h1,h2⟩,hK⟩:=ha
  exact ⟨_,_,_,_,.evM (ZeI _ _ _ _) (ZhA ⟨_,_,_,_,_,_,_,_⟩ _ L _ h1 h2),rfl,⟨by decide,.flat _ rfl,by decide,.rows _ _ _ (fun i _=>(Yk L i).plainC),trivial⟩,hK⟩
 ·exact ha.elim
noncomputable def E86 (A:LI->Int×Int):Zf:=((((G0.withP 44 Z3g).withP 74 (Z7v A)).withP 86 inQ).withF 88 orF).withF 87 mxF
theorem Z6F:(E86 ZB).Ok:=Zf.withF_ok (Zf.withF_ok (Zf.withP_ok (Zf.withP_ok (Zf.withP_ok Zu QC) Z25) Zav) ZeH) Zgw
def clL (t:Zi) (a b fee:Int):List Zg:=
 (if t.dust<=a-fee then [⟨⟨1,a-fee,t.k0,Z0,Z0,Z0,0,0⟩,0,0⟩] else [])++(if t.dust<=b then [⟨⟨1,b,t.k1,Z0,Z0,Z0,0,0⟩,1,0⟩] else [])
def clB (A:LI->Int×Int) (t:Zi) (a b fee:Int):Bool:=ZX t&&decide ((A [a,b]).2=0)&&decide ((A [a,b]).1=t.cap)&&decide (0<=fee/\fee<=a)
theorem Q9 {f:Nat->List AV} {L:List Zg} {n:Nat} (h:∀i,i<n->f i=Zq L i):∀i,i<n->plainC (f i)=true:=fun i hi=>by rw [h i hi];exact XN L i
theorem Xg:(ZP l).length=l.length:=by unfold ZP;rw [Z3j];simp
theorem Z4c (x:Zg) (i:Nat) (hi:i<1):Ym 0 (fun _=>[]) (YV (Zg.c x) 0 134) i=Zq [x] i:=Z3k (O:=[]) rfl (fun k hk=>absurd hk (Kg k)) hi
theorem ZaG (x y:Zg) (i:Nat) (hi:i<2):Ym 1 (Ym 0 (fun _=>[]) (YV (Zg.c x) 0 134)) (YV (Zg.c y) 0 134) i=Zq [x,y] i:=Z3k (O:=[x]) rfl (fun k hk=>Z4c x k hk) hi
theorem Z6G {c:Bool}:(((if c=true then (0:Int) else 2) !=0)=true↔c=false)/\(((if c=true then (0:Int) else 2) !=0)=false↔c=true):=by cases c<;>simp
theorem Uo {A:LI->Int×Int} {t:Zi} {a b fee:Int}:clB A t a b fee=true↔ZX t=true/\(A [a,b]).2=0/\(A [a,b]).1=t.cap/\(0<=fee/\fee<=a):=by
 unfold clB
 simp only [J3,decide_eq_true_eq,and_assoc]
theorem ZhC (A:LI->Int×Int) (t:Zi) (a b fee:Int) (ht:t.Ok) (hc:clB A t a b fee=false):
  evF (E86 A) 20 42 [.agg t.c,.agg [.arr .i64 2 [a,b]],.int .i64 fee] ⟨0,[]⟩ (Y6 0 (.ret (.tuple [.agg txZ,.int .i64 2])) 0 []):=by
 refine @Eq.mpr _ (let B:=t.fund;let y:=t.index;let h:=t.cap;let e:=t.dust;let w:=t.fee;let v:=t.delay;let g:=t.k0;let f:=t.k1;let C:=Zi.mk B y h e w v g f;let G:=A [a,b];let F:=wrap i64 (a-fee);let E:=decide (b>=e);let z:=AV.int i64 (1:Int);let d:=AV.arr u8 (32:Nat) Z0;let c:=AV.int i64 (0:Int);let D:=[c];let u:=YV (z::AV.int i64 F::AV.arr u8 (32:Nat) g::d::d::d::c::c::c::D) (0:Nat) (134:Nat);let s:=YV (z::AV.int i64 b::AV.arr u8 (32:Nat) f::d::d::d::c::c::z::D) (0:Nat) (134:Nat);let r:=B=B;let q:=decide (y=y);let p:=decide (h=h);let o:=decide (e=e);let n:=decide (w=w);let l:=decide (v=v);let k:=g=g;let j:=f=f;
 Zi.Ok C/\
 Z7 ((if ZX C=true then (0:Int) else (2:Int)) !=(0:Int)) True (Z7 (G.snd !=(0:Int)) True (Z7 (G.fst !=h) True (Z7 (!decide ((0:Int)<=fee/\fee<=a)) True (Z7 (decide (F>=e)) (Z7 E ((∀(i:Nat),i<(2:Nat)->plainC (Ym (1:Nat) (Ym (0:Nat) (fun (x:Nat)=>[]) u) s i)=true)/\∃(L:List Zg),((2:Nat)=(2:Nat)/\(2:Nat)<(20:Nat)/\L.length=(2:Nat))/\(∀(m:Zg),List.Mem m L->Zg.Ok m)/\(∀(i:Nat),i<(2:Nat)->Ym (1:Nat) (Ym (0:Nat) (fun (x:Nat)=>[]) u) s i=Zq L i)/\r/\Z5 q (Z5 p (Z5 o (Z5 n (Z5 l (k/\j/\(∀(i:Nat),i<(2:Nat)->true=true)/\∃(L_1:List Zg),(2:Nat)=(2:Nat)/\YZ (0:Nat) (Zq (ZP L))=Zq L_1/\((2:Nat)<(1000:Nat)/\(2:Nat)≠(0:Nat))/\False)))))) ((∀(i:Nat),i<(1:Nat)->plainC (Ym (0:Nat) (fun (x:Nat)=>[]) u i)=true)/\∃(L:List Zg),((1:Nat)=(1:Nat)/\(1:Nat)<(20:Nat)/\L.length=(1:Nat))/\(∀(m:Zg),List.Mem m L->Zg.Ok m)/\(∀(i:Nat),i<(1:Nat)->Ym (0:Nat) (fun (x:Nat)=>[]) u i=Zq L i)/\r/\Z5 q (Z5 p (Z5 o (Z5 n (Z5 l (k/\j/\(∀(i:Nat),i<(1:Nat)->true=true)/\∃(L_1:List Zg),(1:Nat)=(1:Nat)/\YZ (0:Nat) (Zq (ZP L))=Zq L_1/\((1:Nat)<(1000:Nat)/\(1:Nat)≠(0:Nat))/\False))))))) (Z7 E ((∀(i:Nat),i<(1:Nat)->plainC (Ym (0:Nat) (fun (x:Nat)=>[]) s i)=true)/\∃(L:List Zg),((1:Nat)=(1:Nat)/\(1:Nat)<(20:Nat)/\L.length=(1:Nat))/\(∀(m:Zg),List.Mem m L->Zg.Ok m)/\(∀(i:Nat),i<(1:Nat)->Ym (0:Nat) (fun (x:Nat)=>[]) s i=Zq L i)/\r/\Z5 q (Z5 p (Z5 o (Z5 n (Z5 l (k/\j/\(∀(i:Nat),i<(1:Nat)->true=true)/\∃(L_1:List Zg),(1:Nat)=(1:Nat)/\YZ (0:Nat) (Zq (ZP L))=Zq L_1/\((1:Nat)<(1000:Nat)/\(1:Nat)≠(0:Nat))/\False)))))) (r/\Z5 q (Z5 p (Z5 o (Z5 n (Z5 l (k/\j/\False)))))))))))) (by kernel_rfl) ?_
 conv=>zeta
 try simp only [vcA]
 try simp only [vcB]
 try simp only [vcC]
 have e0:(Zi.mk t.fund t.index t.cap t.dust t.fee t.delay t.k0 t.k1)=t:=rfl
 rw [e0]
 refine ⟨ht,fun _=>trivial,fun h1=>⟨fun _=>trivial,fun h2=>⟨fun _=>trivial,fun h3=>⟨fun _=>trivial,fun h4=> ?_⟩⟩⟩⟩
 exfalso
 have:clB A t a b fee=true:=Uo.2 ⟨Z6G.2.1 h1,by simpa using h2,by simpa using h3,by simpa using h4⟩
 rw [this] at hc;cases hc
theorem ZhD (A:LI->Int×Int) (t:Zi) (a b fee:Int) (ht:t.Ok) (ha:a<9223372036854775808) (hc:clB A t a b fee=true) (hL:clL t a b fee=[]):
  evF (E86 A) 20 42 [.agg t.c,.agg [.arr .i64 2 [a,b]],.int .i64 fee] ⟨0,[]⟩ (Y6 0 (.ret (.tuple [.agg txZ,.int .i64 180])) 0 []):=by
 refine @Eq.mpr _ (let B:=t.fund;let y:=t.index;let h:=t.cap;let e:=t.dust;let w:=t.fee;let v:=t.delay;let g:=t.k0;let f:=t.k1;let C:=Zi.mk B y h e w v g f;let G:=A [a,b];let F:=wrap i64 (a-fee);let E:=decide (b>=e);let z:=AV.int i64 (1:Int);let d:=AV.arr u8 (32:Nat) Z0;let c:=AV.int i64 (0:Int);let D:=[c];let u:=YV (z::AV.int i64 F::AV.arr u8 (32:Nat) g::d::d::d::c::c::c::D) (0:Nat) (134:Nat);let s:=YV (z::AV.int i64 b::AV.arr u8 (32:Nat) f::d::d::d::c::c::z::D) (0:Nat) (134:Nat);let r:=B=B;let q:=decide (y=y);let p:=decide (h=h);let o:=decide (e=e);let n:=decide (w=w);let l:=decide (v=v);let k:=g=g;let j:=f=f;
 Zi.Ok C/\
 Z7 ((if ZX C=true then (0:Int) else (2:Int)) !=(0:Int)) False (Z7 (G.snd !=(0:Int)) False (Z7 (G.fst !=h) False (Z7 (!decide ((0:Int)<=fee/\fee<=a)) False (Z7 (decide (F>=e)) (Z7 E ((∀(i:Nat),i<(2:Nat)->plainC (Ym (1:Nat) (Ym (0:Nat) (fun (x:Nat)=>[]) u) s i)=true)/\∃(L:List Zg),((2:Nat)=(2:Nat)/\(2:Nat)<(20:Nat)/\L.length=(2:Nat))/\(∀(m:Zg),List.Mem m L->Zg.Ok m)/\(∀(i:Nat),i<(2:Nat)->Ym (1:Nat) (Ym (0:Nat) (fun (x:Nat)=>[]) u) s i=Zq L i)/\r/\Z5 q (Z5 p (Z5 o (Z5 n (Z5 l (k/\j/\(∀(i:Nat),i<(2:Nat)->true=true)/\∃(L_1:List Zg),(2:Nat)=(2:Nat)/\YZ (0:Nat) (Zq (ZP L))=Zq L_1/\((2:Nat)<(1000:Nat)/\(2:Nat)≠(0:Nat))/\False)))))) ((∀(i:Nat),i<(1:Nat)->plainC (Ym (0:Nat) (fun (x:Nat)=>[]) u i)=true)/\∃(L:List Zg),((1:Nat)=(1:Nat)/\(1:Nat)<(20:Nat)/\L.length=(1:Nat))/\(∀(m:Zg),List.Mem m L->Zg.Ok m)/\(∀(i:Nat),i<(1:Nat)->Ym (0:Nat) (fun (x:Nat)=>[]) u i=Zq L i)/\r/\Z5 q (Z5 p (Z5 o (Z5 n (Z5 l (k/\j/\(∀(i:Nat),i<(1:Nat)->true=true)/\∃(L_1:List Zg),(1:Nat)=(1:Nat)/\YZ (0:Nat) (Zq (ZP L))=Zq L_1/\((1:Nat)<(1000:Nat)/\(1:Nat)≠(0:Nat))/\False))))))) (Z7 E ((∀(i:Nat),i<(1:Nat)->plainC (Ym (0:Nat) (fun (x:Nat)=>[]) s i)=true)/\∃(L:List Zg),((1:Nat)=(1:Nat)/\(1:Nat)<(20:Nat)/\L.length=(1:Nat))/\(∀(m:Zg),List.Mem m L->Zg.Ok m)/\(∀(i:Nat),i<(1:Nat)->Ym (0:Nat) (fun (x:Nat)=>[]) s i=Zq L i)/\r/\Z5 q (Z5 p (Z5 o (Z5 n (Z5 l (k/\j/\(∀(i:Nat),i<(1:Nat)->true=true)/\∃(L_1:List Zg),(1:Nat)=(1:Nat)/\YZ (0:Nat) (Zq (ZP L))=Zq L_1/\((1:Nat)<(1000:Nat)/\(1:Nat)≠(0:Nat))/\False)))))) (r/\Z5 q (Z5 p (Z5 o (Z5 n (Z5 l (k/\j/\True)))))))))))) (by kernel_rfl) ?_
 conv=>zeta
 try simp only [vcA]
 try simp only [vcB]
 try simp only [vcC]
 have e0:(Zi.mk t.fund t.index t.cap t.dust t.fee t.delay t.k0 t.k1)=t:=rfl
 rw [e0]
 obtain ⟨c1,c2,c3,c4⟩:=Uo.1 hc
 have hw:i64.wrap (a-fee)=a-fee:=w64 (by omega)
 have hd:¬t.dust<=a-fee/\¬t.dust<=b:=by
  unfold clL at hL
  rw [List.append_eq_nil_iff] at hL
  constructor
  ·intro h;rw [if_pos h] at hL;simp at hL
  ·intro h;rw [if_pos h] at hL;simp at hL
 refine ⟨ht,Z6G.2.2 c1,by simp [c2],by simp [c3],by simp [c4], ?_⟩
 ·rw [hw]
  exact ⟨fun h=>absurd h hd.1,fun h=>⟨fun h=>absurd h hd.2,fun _=>trivial⟩⟩
theorem ZhE (A:LI->Int×Int) (t:Zi) (a b fee:Int) (n:Nat) (L1:List Zg) (ht:t.Ok) (ha:a<9223372036854775808) (hc:clB A t a b fee=true) (hn:n≠0) (hL:L1=ZP (clL t a b fee)) (hl:n=L1.length):
  evF (E86 A) 20 42 [.agg t.c,.agg [.arr .i64 2 [a,b]],.int .i64 fee] ⟨0,[]⟩ (Y6 0 (.ret (.tuple [.agg [.int .i64 2147483647,.nslice ⟨0,0,0,0,0⟩ 130 1 1,.nslice ⟨1,0,132,0,0⟩ 132 n n],.int .i64 0])) 2 [(0,.flat (InS.c (Z0K t))),(1,.rows 132 n (Ze (Yk L1)))]):=by
 refine @Eq.mpr _ (let C:=t.fund;let w:=t.index;let l:=t.cap;let e:=t.dust;let E:=t.fee;let D:=t.delay;let j:=t.k0;let h:=t.k1;let N:=Zi.mk C w l e E D j h;let S:=A [a,b];let R:=wrap i64 (a-fee);let Q:=decide (b>=e);let M:=AV.int i64 (1:Int);let d:=AV.arr u8 (32:Nat) Z0;let c:=AV.int i64 (0:Int);let P:=[c];let B:=YV (M::AV.int i64 R::AV.arr u8 (32:Nat) j::d::d::d::c::c::c::P) (0:Nat) (134:Nat);let z:=YV (M::AV.int i64 b::AV.arr u8 (32:Nat) h::d::d::d::c::c::M::P) (0:Nat) (134:Nat);let y:=C=C;let v:=decide (w=w);let u:=decide (l=l);let s:=decide (e=e);let r:=decide (E=E);let q:=decide (D=D);let p:=j=j;let o:=h=h;let O:=decide ((2:Nat)=n);let g:=InS.mk C w (1:Int) Z0 Z0 Z0;let f:=Z0K t;let K:=g.name=f.name;let J:=decide (g.index=f.index);let I:=g.tag=f.tag;let H:=g.also=f.also;let G:=g.secret=f.secret;let F:=Ze (Yk L1);let k:=decide ((1:Nat)=n);
 Zi.Ok N/\
 Z7 ((if ZX N=true then (0:Int) else (2:Int)) !=(0:Int)) False (Z7 (S.snd !=(0:Int)) False (Z7 (S.fst !=l) False (Z7 (!decide ((0:Int)<=fee/\fee<=a)) False (Z7 (decide (R>=e)) (Z7 Q ((∀(i:Nat),i<(2:Nat)->plainC (Ym (1:Nat) (Ym (0:Nat) (fun (x:Nat)=>[]) B) z i)=true)/\∃(L:List Zg),((2:Nat)=(2:Nat)/\(2:Nat)<(20:Nat)/\L.length=(2:Nat))/\(∀(m:Zg),List.Mem m L->Zg.Ok m)/\(∀(i:Nat),i<(2:Nat)->Ym (1:Nat) (Ym (0:Nat) (fun (x:Nat)=>[]) B) z i=Zq L i)/\y/\Z5 v (Z5 u (Z5 s (Z5 r (Z5 q (p/\o/\(∀(i:Nat),i<(2:Nat)->true=true)/\∃(L_1:List Zg),(2:Nat)=(2:Nat)/\YZ (0:Nat) (Zq (ZP L))=Zq L_1/\((2:Nat)<(1000:Nat)/\(2:Nat)≠(0:Nat))/\Z5 O (Z6 (n<=(2:Nat)) (K/\Z5 J (I/\H/\G/\Z5 O (Zv (0:Nat) [((1:Nat),(8:Nat)),((0:Nat),(7:Nat))] n F (Ze (Yk L_1))/\True)))))))))) ((∀(i:Nat),i<(1:Nat)->plainC (Ym (0:Nat) (fun (x:Nat)=>[]) B i)=true)/\∃(L:List Zg),((1:Nat)=(1:Nat)/\(1:Nat)<(20:Nat)/\L.length=(1:Nat))/\(∀(m:Zg),List.Mem m L->Zg.Ok m)/\(∀(i:Nat),i<(1:Nat)->Ym (0:Nat) (fun (x:Nat)=>[]) B i=Zq L i)/\y/\Z5 v (Z5 u (Z5 s (Z5 r (Z5 q (p/\o/\(∀(i:Nat),i<(1:Nat)->true=true)/\∃(L_1:List Zg),(1:Nat)=(1:Nat)/\YZ (0:Nat) (Zq (ZP L))=Zq L_1/\((1:Nat)<(1000:Nat)/\(1:Nat)≠(0:Nat))/\Z5 k (Z6 (n<=(1:Nat)) (K/\Z5 J (I/\H/\G/\Z5 k (Zv (0:Nat) [((1:Nat),(6:Nat)),((0:Nat),(5:Nat))] n F (Ze (Yk L_1))/\True))))))))))) (Z7 Q ((∀(i:Nat),i<(1:Nat)->plainC (Ym (0:Nat) (fun (x:Nat)=>[]) z i)=true)/\∃(L:List Zg),((1:Nat)=(1:Nat)/\(1:Nat)<(20:Nat)/\L.length=(1:Nat))/\(∀(m:Zg),List.Mem m L->Zg.Ok m)/\(∀(i:Nat),i<(1:Nat)->Ym (0:Nat) (fun (x:Nat)=>[]) z i=Zq L i)/\y/\Z5 v (Z5 u (Z5 s (Z5 r (Z5 q (p/\o/\(∀(i:Nat),i<(1:Nat)->true=true)/\∃(L_1:List Zg),(1:Nat)=(1:Nat)/\YZ (0:Nat) (Zq (ZP L))=Zq L_1/\((1:Nat)<(1000:Nat)/\(1:Nat)≠(0:Nat))/\Z5 k (Z6 (n<=(1:Nat)) (K/\Z5 J (I/\H/\G/\Z5 k (Zv (0:Nat) [((1:Nat),(6:Nat)),((0:Nat),(5:Nat))] n F (Ze (Yk L_1))/\True)))))))))) (y/\Z5 v (Z5 u (Z5 s (Z5 r (Z5 q (p/\o/\False)))))))))))) (by kernel_rfl) ?_
 conv=>zeta
 try simp only [vcA]
 try simp only [vcB]
 try simp only [vcC]
 have e0:(Zi.mk t.fund t.index t.cap t.dust t.fee t.delay t.k0 t.k1)=t:=rfl
 rw [e0]
 obtain ⟨c1,c2,c3,c4⟩:=Uo.1 hc
 have hw:i64.wrap (a-fee)=a-fee:=w64 (by omega)
 refine ⟨ht,Z6G.2.2 c1,by simp [c2],by simp [c3],by simp [c4], ?_⟩
 ·rw [hw]
  have z32:Z0.length=32:=rfl
  refine ⟨fun h1=>⟨fun h2=> ?_,fun h2=> ?_⟩,fun h1=>⟨fun h2=> ?_,fun h2=> ?_⟩⟩
  ·have e:clL t a b fee=[⟨⟨1,a-fee,t.k0,Z0,Z0,Z0,0,0⟩,0,0⟩,⟨⟨1,b,t.k1,Z0,Z0,Z0,0,0⟩,1,0⟩]:=by unfold clL;rw [if_pos h1,if_pos h2];rfl
   have hn2:2=n:=by rw [hl,hL,e,Xg];rfl
   have H:=ZaG ⟨⟨1,a-fee,t.k0,Z0,Z0,Z0,0,0⟩,0,0⟩ ⟨⟨1,b,t.k1,Z0,Z0,Z0,0,0⟩,1,0⟩
   refine ⟨Q9 H,_,⟨by decide,rfl⟩,fun m hm=> ?_,H,fun _ _=>trivial,_,rfl,⟨by decide,by decide⟩,hn2,by omega,rfl,rfl,rfl,rfl,rfl,hn2,Yn fun _ _=>by rw [hL,e];rfl⟩
   have hm:m∈[_,_]:=hm
   rcases J9.1 hm with rfl|hm
   ·exact ⟨ht.k0,z32,z32,z32⟩
   ·rcases J9.1 hm with rfl|hm
    ·exact ⟨ht.k1,z32,z32,z32⟩
    ·cases hm
  ·have e:clL t a b fee=[⟨⟨1,a-fee,t.k0,Z0,Z0,Z0,0,0⟩,0,0⟩]:=by unfold clL;rw [if_pos h1,if_neg h2];rfl
   have hn2:1=n:=by rw [hl,hL,e,Xg];rfl
   have H:=Z4c ⟨⟨1,a-fee,t.k0,Z0,Z0,Z0,0,0⟩,0,0⟩
   refine ⟨Q9 H,_,⟨by decide,rfl⟩,fun m hm=> ?_,H,fun _ _=>trivial,_,rfl,⟨by decide,by decide⟩,hn2,by omega,rfl,rfl,rfl,rfl,rfl,hn2,Yn fun _ _=>by rw [hL,e];rfl⟩
   have hm:m∈[_]:=hm
   rcases J9.1 hm with rfl|hm
   ·exact ⟨ht.k0,z32,z32,z32⟩
   ·cases hm
  ·have e:clL t a b fee=[⟨⟨1,b,t.k1,Z0,Z0,Z0,0,0⟩,1,0⟩]:=by unfold clL;rw [if_neg h1,if_pos h2];rfl
   have hn2:1=n:=by rw [hl,hL,e,Xg];rfl
   have H:=Z4c ⟨⟨1,b,t.k1,Z0,Z0,Z0,0,0⟩,1,0⟩
   refine ⟨Q9 H,_,⟨by decide,rfl⟩,fun m hm=> ?_,H,fun _ _=>trivial,_,rfl,⟨by decide,by decide⟩,hn2,by omega,rfl,rfl,rfl,rfl,rfl,hn2,Yn fun _ _=>by rw [hL,e];rfl⟩
   have hm:m∈[_]:=hm
   rcases J9.1 hm with rfl|hm
   ·exact ⟨ht.k1,z32,z32,z32⟩
   ·cases hm
  ·have e:clL t a b fee=[]:=by unfold clL;rw [if_neg h1,if_neg h2];rfl
   rw [e] at hL
   rw [hl,hL] at hn
   exact hn rfl
def clF (A:LI->Int×Int):Yb:=fun args h K=>ZD none h true 20 args fun a=>match a with
 | [.agg [.arr .u8 32 fu,.int .i64 ix,.int .i64 ca,.int .i64 du,.int .i64 fe,.int .i64 de,.arr .u8 32 k0,.arr .u8 32 k1],.agg [.arr .i64 2 ab],.int .i64 fee]=>
  (Zi.Ok ⟨fu,ix,ca,du,fe,de,k0,k1⟩)/\∃a b,ab=[a,b]/\a<9223372036854775808/\(clB A ⟨fu,ix,ca,du,fe,de,k0,k1⟩ a b fee=false->K (.ret (.tuple [.agg txZ,.int .i64 2])) h)/\
  (clB A ⟨fu,ix,ca,du,fe,de,k0,k1⟩ a b fee=true->((clL ⟨fu,ix,ca,du,fe,de,k0,k1⟩ a b fee).length=0->K (.ret (.tuple [.agg txZ,.int .i64 180])) h)/\
   ∀n L,L=ZP (clL ⟨fu,ix,ca,du,fe,de,k0,k1⟩ a b fee)->n=L.length->n≠0->K (.ret (.tuple [.agg [.int .i64 2147483647,.nslice ⟨h.next,0,0,0,0⟩ 130 1 1,.nslice ⟨h.next+1,0,132,0,0⟩ 132 n n],.int .i64 0])) ⟨h.next+2,(h.next,.flat (InS.c ⟨fu,ix,1,Z0,Z0,Z0⟩))::(h.next+1,.rows 132 n (Ze (Yk L)))::h.bs⟩)
 | _=>False
theorem ZaH (args:List AV) (h:Z9) (K:KO) (hl:clF ZB args h K):Zh PP 42 args h K:=by
 refine Zx.fsumm (d:=20) (Zk _ _ _ _ _ hl fun a ha=> ?_)
 split at ha
 ·rename_i fu ix ca du fe de k0 k1 ab fee
  obtain ⟨ht,a,b,rfl,ha,h1,h2⟩:=ha
  cases hc:clB ZB ⟨fu,ix,ca,du,fe,de,k0,k1⟩ a b fee with
  | false=>exact ⟨_,_,_,_,.evM Z6F (ZhC _ ⟨_,_,_,_,_,_,_,_⟩ a b fee ht hc),rfl,trivial,h1 hc⟩
  | true=>
   obtain ⟨h2,h3⟩:=h2 hc
   rcases JG (clL ⟨fu,ix,ca,du,fe,de,k0,k1⟩ a b fee).length with h0|h0
   ·exact ⟨_,_,_,_,.evM Z6F (ZhD _ ⟨_,_,_,_,_,_,_,_⟩ a b fee ht ha hc (Kf.1 h0)),rfl,trivial,h2 h0⟩
   ·have hn:(ZP (clL ⟨fu,ix,ca,du,fe,de,k0,k1⟩ a b fee)).length≠0:=by rw [Xg];omega
    exact ⟨_,_,_,_,.evM Z6F (ZhE _ ⟨_,_,_,_,_,_,_,_⟩ a b fee _ _ ht ha hc hn rfl rfl),rfl,⟨by decide,.flat _ rfl,by decide,.rows _ _ _ (fun i _=>(Yk _ i).plainC),trivial⟩,h3 _ _ rfl rfl hn⟩
 ·exact ha.elim
theorem Z6H:Bytes Z0:=⟨fun i=>by
 have h:Z0=List.replicate 32 0:=rfl
 rw [h,J2,List.getElem?_replicate]
 split<;>simp⟩
theorem ZaI {m a b:Int}:allIn m [a,b]=true↔(0<=a/\a<=m)/\(0<=b/\b<=m):=by
 unfold allIn Yg
 simp [List.range_succ,Vr]
theorem Wa {t:Zi} {a b fee:Int}:clB ZB t a b fee=true↔ZX t=true/\((0<=a/\a<=1125899906842624)/\(0<=b/\b<=1125899906842624))/\a+b=t.cap/\(0<=fee/\fee<=a):=by
 rw [Uo]
 unfold ZB
 by_cases h:allIn 1125899906842624 [a,b]=true
 ·rw [if_pos h]
  have h':=ZaI.1 h
  by_cases h2:[a,b].sum<=1125899906842624
  ·rw [if_pos h2];simp;omega
  ·rw [if_neg h2]
   simp at h2
   constructor
   ·rintro ⟨_,h3,_⟩;simp at h3
   ·rintro ⟨h3,_,h4,_⟩
    unfold ZX at h3
    simp only [J3,decide_eq_true_eq] at h3
    omega
 ·rw [if_neg h]
  constructor
  ·rintro ⟨_,h3,_⟩;simp at h3
  ·rintro ⟨_,h3,_⟩;exact absurd (ZaI.2 h3) h
@[irreducible] def loH (a b:LI):LI:=if Xh a b>0 then b else a
@[irreducible] def hiH (a b:LI):LI:=if Xh a b>0 then a else b
theorem Zgx (a b lo hi:LI) (ha:a.length=32) (hb:b.length=32) (hl:lo=loH a b) (hh:hi=hiH a b):
  evF G0 20 45 [.agg [.arr .u8 32 a],.agg [.arr .u8 32 b]] ⟨0,[]⟩ (Us (fun v=>v=.tuple [.agg [.arr .u8 32 lo],.agg [.arr .u8 32 hi]])):=by
 refine @Eq.mpr _ (let e:=AV.agg [AV.arr u8 32 b];let d:=AV.agg [AV.arr u8 32 a];let c:=AV.tuple [AV.agg [AV.arr u8 32 lo],AV.agg [AV.arr u8 32 hi]];
 Z6 (u8=u8/\a.length=32) (Z6 (u8=u8/\b.length=32) (Z7 (decide (Xh a b>0)) (a=a/\AV.tuple [e,d]=c) (b=b/\AV.tuple [d,e]=c)))) (by kernel_rfl) ?_
 conv=>zeta
 try simp only [vcA]
 try simp only [vcB]
 try simp only [vcC]
 subst hl hh
 unfold loH hiH
 refine ⟨ha,hb,fun h=> ?_,fun h=> ?_⟩
 ·rw [if_pos h,if_pos h]
 ·rw [if_neg h,if_neg h]
def ZeJ:ZJ:=fun args _ K=>match args with
 | [.agg [.arr .u8 32 a],.agg [.arr .u8 32 b]]=>(a.length=32/\b.length=32)/\K (.tuple [.agg [.arr .u8 32 (loH a b)],.agg [.arr .u8 32 (hiH a b)]])
 | _=>False
theorem ZcB (args:List AV) (h:Z9) (K:AV->Prop) (hl:ZeJ args h K):Zh PP 45 args h fun o h'=>∃v,o=.ret v/\h'=h/\K v:=by
 unfold ZeJ at hl
 split at hl
 ·obtain ⟨⟨h1,h2⟩,hK⟩:=hl
  exact W7 Zu rfl (Zgx _ _ _ _ h1 h2 rfl rfl) (fun u hu=>hu▸hK)
 ·exact hl.elim
theorem ZcC {a b:LI} (ha:a.length=32) (hb:b.length=32):(loH a b).length=32:=by unfold loH;split<;>assumption
theorem ZcD {a b:LI} (ha:a.length=32) (hb:b.length=32):(hiH a b).length=32:=by unfold hiH;split<;>assumption
theorem Zgy (m:Nat) (g:Nat->InS) (hm:m<1000):
  evF G0 20 91 [.vrows 130 (m+1) (Zd g) (m+1)] ⟨0,[]⟩ (Y6 0 (.ret (.nslice ⟨0,0,130,0,0⟩ 130 (m+1) (m+1))) 1 [(0,.rows 130 (m+1) (Zd g))]):=by
 refine @Eq.mpr _ (let a:=m+1;let b:=0+a;let c:=decide (b=a);
 Z6 (b*144<=140737488355328) (Z5 c (Z6 (a<=b) (Z5 c (Zv 0 [(0,0)] a (Zd g) (Ym 0 (fun (x:Nat)=>[]) (Zd g))/\True))))) (by kernel_rfl) ?_
 conv=>zeta
 try simp only [vcA]
 try simp only [vcB]
 try simp only [vcC]
 exact ⟨by omega,Yq fun i _=>by rw [Ul (JI _)];rfl⟩
theorem Zgz (g:Nat->InS) :
  evF G0 20 91 [.nilslice] ⟨0,[]⟩ (Y6 0 (.ret (.nslice ⟨0,0,130,0,0⟩ 130 0 0)) 1 [(0,.rows 130 0 (Zd g))]):=by
 refine @Eq.mpr _ (True) (by kernel_rfl) ?_
 trivial
theorem ZgA (g:Nat->InS) :
  evF G0 20 91 [.fslice] ⟨0,[]⟩ (Y6 0 (.ret (.nslice ⟨0,0,130,0,0⟩ 130 0 0)) 1 [(0,.rows 130 0 (Zd g))]):=by
 refine @Eq.mpr _ (Zv 0 [(0,0)] 0 (Zd g) (Ym 0 (fun (x:Nat)=>[]) fun (x:Nat)=>[])/\True) (by kernel_rfl) ?_
 try simp only [vcA]
 try simp only [vcB]
 try simp only [vcC]
 exact Yq fun i hi=>absurd hi (Kg i)
theorem ZaJ (n:Nat) (g:Nat->InS) (hn:n<1000):Zx PP 91 [.vrows 130 n (Zd g) n] (.nslice ⟨0,0,130,0,0⟩ 130 n n) 1 [(0,.rows 130 n (Zd g))]:=by
 match n,hn with
 | 0,_=>exact Zx.vrows0 (.evM Zu (Zgz g)) (.evM Zu (ZgA g))
 | m+1,h=>exact .evM Zu (Zgy m g (by omega))
def ZeK:Yb:=fun args h K=>ZD none h true 20 args fun a=>match a with
 | [v]=>∃N g,Z2t v N g/\N<1000/\K (.ret (.nslice ⟨h.next,0,130,0,0⟩ 130 N N)) ⟨h.next+1,(h.next,.rows 130 N (Zd g))::h.bs⟩
 | _=>False
theorem ZcE (args:List AV) (h:Z9) (K:KO) (hl:ZeK args h K):Zh PP 91 args h K:=by
 refine Zx.fsumm (d:=20) (Zk _ _ _ _ _ hl fun a ha=> ?_)
 split at ha
 ·obtain ⟨N,g,h1,h2,hK⟩:=ha
  exact ⟨_,_,_,_,(ZaJ N g h2).conv fun E r hr=>hr.head (fun _ hc=>h1.rel hc) (fun _ hc=>hc),rfl,⟨by decide,.rows _ _ _ (fun i _=>(g i).plainC),trivial⟩,hK⟩
 ·exact ha.elim
theorem ZgB (m:Nat) (g:Nat->Zp) (hm:m<1000):
  evF G0 20 92 [.vrows 132 (m+1) (Ze g) (m+1)] ⟨0,[]⟩ (Y6 0 (.ret (.nslice ⟨0,0,132,0,0⟩ 132 (m+1) (m+1))) 1 [(0,.rows 132 (m+1) (Ze g))]):=by
 refine @Eq.mpr _ (let a:=m+1;let b:=0+a;let c:=decide (b=a);
 Z6 (b*160<=140737488355328) (Z5 c (Z6 (a<=b) (Z5 c (Zv 0 [(0,0)] a (Ze g) (Ym 0 (fun (x:Nat)=>[]) (Ze g))/\True))))) (by kernel_rfl) ?_
 conv=>zeta
 try simp only [vcA]
 try simp only [vcB]
 try simp only [vcC]
 exact ⟨by omega,Yn fun i _=>by rw [Ul (JI _)];rfl⟩
theorem ZgC (g:Nat->Zp) :
  evF G0 20 92 [.nilslice] ⟨0,[]⟩ (Y6 0 (.ret (.nslice ⟨0,0,132,0,0⟩ 132 0 0)) 1 [(0,.rows 132 0 (Ze g))]):=by
 refine @Eq.mpr _ (True) (by kernel_rfl) ?_
 trivial
theorem ZgD (g:Nat->Zp) :
  evF G0 20 92 [.fslice] ⟨0,[]⟩ (Y6 0 (.ret (.nslice ⟨0,0,132,0,0⟩ 132 0 0)) 1 [(0,.rows 132 0 (Ze g))]):=by
 refine @Eq.mpr _ (Zv 0 [(0,0)] 0 (Ze g) (Ym 0 (fun (x:Nat)=>[]) fun (x:Nat)=>[])/\True) (by kernel_rfl) ?_
 try simp only [vcA]
 try simp only [vcB]
 try simp only [vcC]
 exact Yn fun i hi=>absurd hi (Kg i)
theorem ZaK (n:Nat) (g:Nat->Zp) (hn:n<1000):Zx PP 92 [.vrows 132 n (Ze g) n] (.nslice ⟨0,0,132,0,0⟩ 132 n n) 1 [(0,.rows 132 n (Ze g))]:=by
 match n,hn with
 | 0,_=>exact Zx.vrows0 (.evM Zu (ZgC g)) (.evM Zu (ZgD g))
 | m+1,h=>exact .evM Zu (ZgB m g (by omega))
def ZeL:Yb:=fun args h K=>ZD none h true 20 args fun a=>match a with
 | [v]=>∃N g,UG v N g/\N<1000/\K (.ret (.nslice ⟨h.next,0,132,0,0⟩ 132 N N)) ⟨h.next+1,(h.next,.rows 132 N (Ze g))::h.bs⟩
 | _=>False
theorem ZcF (args:List AV) (h:Z9) (K:KO) (hl:ZeL args h K):Zh PP 92 args h K:=by
 refine Zx.fsumm (d:=20) (Zk _ _ _ _ _ hl fun a ha=> ?_)
 split at ha
 ·obtain ⟨N,g,h1,h2,hK⟩:=ha
  exact ⟨_,_,_,_,(ZaK N g h2).conv fun E r hr=>hr.head (fun _ hc=>h1.rel hc) (fun _ hc=>hc),rfl,⟨by decide,.rows _ _ _ (fun i _=>(g i).plainC),trivial⟩,hK⟩
 ·exact ha.elim
def Vu (tl th ta:LI) (x:InS):InS:=if x.way=1 then ⟨x.name,x.index,x.way,tl,th,x.secret⟩ else if x.way=4 then x else ⟨x.name,x.index,x.way,ta,x.also,x.secret⟩
def ZhF (t:TxS) (a b:LI) (G:Nat->InS):Z9:=⟨7,[(0,.flat [.int .i64 t.num,.nslice ⟨5,0,130,0,0⟩ 130 t.N t.N,.nslice ⟨6,0,132,0,0⟩ 132 t.M t.M]),(1,.flat [.arr .u8 32 a]),(2,.flat [.arr .u8 32 b]),(3,.flat t.c),(4,.flat txZ),(5,.rows 130 t.N (Zd G)),(6,.rows 132 t.M (Ze t.outs))]⟩
def ZhG:ZL:=[(10,.ptr (some ⟨0,0,0,0,0⟩)),(4,.ptr (some ⟨1,0,0,0,0⟩)),(5,.ptr (some ⟨2,0,0,0,0⟩)),(9,.func (.func 90) [] [.ptr (some ⟨3,0,0,0,0⟩)]),(6,.ptr (some ⟨4,0,0,0,0⟩))]
def ZcG (t:TxS) (a b:LI) (G:Nat->InS) (i:Nat):St:=⟨75,(34,.int .i64 i)::(33,.int .i64 t.N)::ZhG,ZhF t a b G,[]⟩
def Z8G (t:TxS) (G:Nat->InS):St:=⟨75,[(10,.ptr (some ⟨0,0,0,0,0⟩)),(6,.ptr (some ⟨1,0,0,0,0⟩))],⟨4,[(0,.flat [.int .i64 t.num,.nslice ⟨2,0,130,0,0⟩ 130 t.N t.N,.nslice ⟨3,0,132,0,0⟩ 132 t.M t.M]),(1,.flat txZ),(2,.rows 130 t.N (Zd G)),(3,.rows 132 t.M (Ze t.outs))]⟩,[]⟩
def Z6I (A:LI->Int×Int) (Tg:LI->TxS->LI):ZJ:=fun args h K=>ZD none h true 20 args fun a=>match a with
 | [.agg l,.agg [.arr .u8 32 key]]=>∃t,Z0I l t/\(t.Ok/\key.length=32/\Y5 A t=true)/\K (.tuple [.agg [.arr .u8 32 (Tg key t)],.int .i64 0])
 | _=>False
theorem Z3l (args:List AV) (h:Z9) (K:AV->Prop) (hl:Z6I ZB Zl args h K):Zh PP 83 args h fun o h'=>∃v,o=.ret v/\h'=h/\K v:=by
 refine Z8z args h K (Zk _ _ _ _ _ hl fun a ha=> ?_)
 split at ha
 ·obtain ⟨t,h1,⟨h2,h3,h4⟩,hK⟩:=ha
  refine ⟨t,h1,⟨h2,h3⟩, ?_⟩
  rw [h4];exact hK
 ·exact ha.elim
noncomputable def ZaL (A:LI->Int×Int) (Tg:LI->TxS->LI):Zf:=(G0.withP 45 ZeJ).withP 83 (Z6I A Tg)
theorem Z7F:(ZaL ZB Zl).Ok:=Zf.withP_ok (Zf.withP_ok Zu ZcB) Z3l
theorem ZgE (A:LI->Int×Int) (Tg:LI->TxS->LI) (t:TxS) (a b tl th ta:LI) (G G1:Nat->InS) (i:Nat) (Z1 Z2:Prop) (ht:t.Ok) (hN:t.N<=24) (hc:Y5 A t=true) (ha:a.length=32) (hb:b.length=32) (htl:tl=Tg (loH a b) t) (hth:th=Tg (hiH a b) t) (hta:ta=Tg a t) (hi:i<=t.N) (hG:∀j,i<=j->G j=t.ins j) (hG1:i<t.N->∀j,j<t.N->G1 j=if j=i then Vu tl th ta (t.ins i) else G j) (h1:i<t.N->Z1) (h2:i=t.N->Z2):
  ZW (ZaL A Tg) 20 43 0 0 (ZcG t a b G i) (rdM 0 0 9 (ZcG t a b G1 (i+1)) (Z8G t G) (Z8G t G) (Z8G t G) Z1 Z2 False False):=by
 refine @Eq.mpr _ (Z7 (decide ((↑i:Int)<(↑t.N:Int))) (Z6 ((0:Int)<=(↑i:Int)/\(↑i:Int)<(↑t.N:Int)) (Z6 ((0:Nat)+Int.toNat (↑i:Int)<t.N) (Z7 ((G ((0:Nat)+Int.toNat (↑i:Int))).way==(1:Int)) ((a.length=(32:Nat)/\b.length=(32:Nat))/\
 ∃(t_1:TxS),
 (t_1.num=t.num/\((t.N=t.N/\t_1.N=t.N)/\∀(i:Nat),i<t.N->Zd t.ins i=InS.c (t_1.ins i))/\(t.M=t.M/\t_1.M=t.M)/\∀(i:Nat),i<t.M->Ze t.outs i=Zp.c (t_1.outs i))/\
 (TxS.Ok t_1/\List.length (loH a b)=(32:Nat)/\Y5 A t_1=true)/\
 hiH a b=hiH a b/\
 ∃(t_2:TxS),
 (t_2.num=t.num/\((t.N=t.N/\t_2.N=t.N)/\∀(i:Nat),i<t.N->Zd t.ins i=InS.c (t_2.ins i))/\(t.M=t.M/\t_2.M=t.M)/\∀(i:Nat),i<t.M->Ze t.outs i=Zp.c (t_2.outs i))/\
 (TxS.Ok t_2/\List.length (hiH a b)=(32:Nat)/\Y5 A t_2=true)/\
 Z6 ((0:Nat)+Int.toNat (↑i:Int)<t.N) (Z6 ((0:Nat)+Int.toNat (↑i:Int)<t.N) (Z6 (wrap i64 ((↑i:Int)+(1:Int))=(↑(i+(1:Nat)):Int)) (Z6 ((↑t.N:Int)=(↑t.N:Int)) (Z6 (t.num=t.num) (Z6 (t.N=t.N) (Z6 (t.N<=t.N) (Z6 (t.M=t.M) (Z6 (t.M<=t.M) (a=a/\
 b=b/\
 Z6 (t.num=t.num) (Z6 (t.N=t.N) (Zd t.ins=Zd t.ins/\
 Z6 (t.N=t.N) (Z6 (t.M=t.M) (Ze t.outs=Ze t.outs/\
 Z6 (t.M=t.M) (Z6 (t.N=t.N) (Zv (0:Nat) [((6:Nat),(6:Nat)),((5:Nat),(5:Nat)),((4:Nat),(4:Nat)),((3:Nat),(3:Nat)),((2:Nat),(2:Nat)),((1:Nat),(1:Nat)),((0:Nat),(0:Nat))] t.N (Zd G1)
 (UI (UI (Zd G) ((0:Nat)+Int.toNat (↑i:Int)) [AV.arr u8 (32:Nat) (G ((0:Nat)+Int.toNat (↑i:Int))).name,AV.int i64 (G ((0:Nat)+Int.toNat (↑i:Int))).index,AV.int i64 (G ((0:Nat)+Int.toNat (↑i:Int))).way,AV.arr u8 (32:Nat) (Tg (loH a b) t_1),AV.arr u8 (32:Nat) (G ((0:Nat)+Int.toNat (↑i:Int))).also,AV.arr u8 (32:Nat) (G ((0:Nat)+Int.toNat (↑i:Int))).secret]) ((0:Nat)+Int.toNat (↑i:Int))
 [AV.arr u8 (32:Nat)
 (match Nat.beq ((0:Nat)+Int.toNat (↑i:Int)) ((0:Nat)+Int.toNat (↑i:Int)) with
 | true=>(G ((0:Nat)+Int.toNat (↑i:Int))).name
 | false=>(G ((0:Nat)+Int.toNat (↑i:Int))).name),
 AV.int i64
 (match Nat.beq ((0:Nat)+Int.toNat (↑i:Int)) ((0:Nat)+Int.toNat (↑i:Int)) with
 | true=>(G ((0:Nat)+Int.toNat (↑i:Int))).index
 | false=>(G ((0:Nat)+Int.toNat (↑i:Int))).index),
 AV.int i64
 (match Nat.beq ((0:Nat)+Int.toNat (↑i:Int)) ((0:Nat)+Int.toNat (↑i:Int)) with
 | true=>(G ((0:Nat)+Int.toNat (↑i:Int))).way
 | false=>(G ((0:Nat)+Int.toNat (↑i:Int))).way),
 AV.arr u8 (32:Nat)
 (match Nat.beq ((0:Nat)+Int.toNat (↑i:Int)) ((0:Nat)+Int.toNat (↑i:Int)) with
 | true=>Tg (loH a b) t_1
 | false=>(G ((0:Nat)+Int.toNat (↑i:Int))).tag),
 AV.arr u8 (32:Nat) (Tg (hiH a b) t_2),
 AV.arr u8 (32:Nat)
 (match Nat.beq ((0:Nat)+Int.toNat (↑i:Int)) ((0:Nat)+Int.toNat (↑i:Int)) with
 | true=>(G ((0:Nat)+Int.toNat (↑i:Int))).secret
 | false=>(G ((0:Nat)+Int.toNat (↑i:Int))).secret)])/\
 Z6 (t.M=t.M) (Zv (0:Nat) [((6:Nat),(6:Nat)),((5:Nat),(5:Nat)),((4:Nat),(4:Nat)),((3:Nat),(3:Nat)),((2:Nat),(2:Nat)),((1:Nat),(1:Nat)),((0:Nat),(0:Nat))] t.M (Ze t.outs) (Ze t.outs)/\Z1))))))))))))))))) (Z7 ((G ((0:Nat)+Int.toNat (↑i:Int))).way==(4:Int)) (Z6 (wrap i64 ((↑i:Int)+(1:Int))=(↑(i+(1:Nat)):Int)) (Z6 ((↑t.N:Int)=(↑t.N:Int)) (Z6 (t.num=t.num) (Z6 (t.N=t.N) (Z6 (t.N<=t.N) (Z6 (t.M=t.M) (Z6 (t.M<=t.M) (a=a/\b=b/\Z6 (t.num=t.num) (Z6 (t.N=t.N) (Zd t.ins=Zd t.ins/\Z6 (t.N=t.N) (Z6 (t.M=t.M) (Ze t.outs=Ze t.outs/\Z6 (t.M=t.M) (Z6 (t.N=t.N) (Zv (0:Nat) [((6:Nat),(6:Nat)),((5:Nat),(5:Nat)),((4:Nat),(4:Nat)),((3:Nat),(3:Nat)),((2:Nat),(2:Nat)),((1:Nat),(1:Nat)),((0:Nat),(0:Nat))] t.N (Zd G1) (Zd G)/\Z6 (t.M=t.M) (Zv (0:Nat) [((6:Nat),(6:Nat)),((5:Nat),(5:Nat)),((4:Nat),(4:Nat)),((3:Nat),(3:Nat)),((2:Nat),(2:Nat)),((1:Nat),(1:Nat)),((0:Nat),(0:Nat))] t.M (Ze t.outs) (Ze t.outs)/\Z1))))))))))))))) (∃(t_1:TxS),
 (t_1.num=t.num/\((t.N=t.N/\t_1.N=t.N)/\∀(i:Nat),i<t.N->Zd t.ins i=InS.c (t_1.ins i))/\(t.M=t.M/\t_1.M=t.M)/\∀(i:Nat),i<t.M->Ze t.outs i=Zp.c (t_1.outs i))/\
 (TxS.Ok t_1/\a.length=(32:Nat)/\Y5 A t_1=true)/\
 Z6 ((0:Nat)+Int.toNat (↑i:Int)<t.N) (Z6 (wrap i64 ((↑i:Int)+(1:Int))=(↑(i+(1:Nat)):Int)) (Z6 ((↑t.N:Int)=(↑t.N:Int)) (Z6 (t.num=t.num) (Z6 (t.N=t.N) (Z6 (t.N<=t.N) (Z6 (t.M=t.M) (Z6 (t.M<=t.M) (a=a/\
 b=b/\
 Z6 (t.num=t.num) (Z6 (t.N=t.N) (Zd t.ins=Zd t.ins/\
 Z6 (t.N=t.N) (Z6 (t.M=t.M) (Ze t.outs=Ze t.outs/\
 Z6 (t.M=t.M) (Z6 (t.N=t.N) (Zv (0:Nat) [((6:Nat),(6:Nat)),((5:Nat),(5:Nat)),((4:Nat),(4:Nat)),((3:Nat),(3:Nat)),((2:Nat),(2:Nat)),((1:Nat),(1:Nat)),((0:Nat),(0:Nat))] t.N (Zd G1) (UI (Zd G) ((0:Nat)+Int.toNat (↑i:Int)) [AV.arr u8 (32:Nat) (G ((0:Nat)+Int.toNat (↑i:Int))).name,AV.int i64 (G ((0:Nat)+Int.toNat (↑i:Int))).index,AV.int i64 (G ((0:Nat)+Int.toNat (↑i:Int))).way,AV.arr u8 (32:Nat) (Tg a t_1),AV.arr u8 (32:Nat) (G ((0:Nat)+Int.toNat (↑i:Int))).also,AV.arr u8 (32:Nat) (G ((0:Nat)+Int.toNat (↑i:Int))).secret])/\Z6 (t.M=t.M) (Zv (0:Nat) [((6:Nat),(6:Nat)),((5:Nat),(5:Nat)),((4:Nat),(4:Nat)),((3:Nat),(3:Nat)),((2:Nat),(2:Nat)),((1:Nat),(1:Nat)),((0:Nat),(0:Nat))] t.M (Ze t.outs) (Ze t.outs)/\Z1)))))))))))))))))))) (Z6 (t.num=t.num) (Z6 (t.N=t.N) (Z6 (t.N<=t.N) (Z6 (t.M=t.M) (Z6 (t.M<=t.M) (Z6 (t.N=t.N) (Zv (0:Nat) [((3:Nat),(6:Nat)),((2:Nat),(5:Nat)),((1:Nat),(4:Nat)),((0:Nat),(0:Nat))] t.N (Zd G) (Zd G)/\Z6 (t.M=t.M) (Zv (0:Nat) [((3:Nat),(6:Nat)),((2:Nat),(5:Nat)),((1:Nat),(4:Nat)),((0:Nat),(0:Nat))] t.M (Ze t.outs) (Ze t.outs)/\Z2))))))))) (by kernel_rfl) ?_
 try simp only [vcA]
 try simp only [vcB]
 try simp only [vcC]
 refine ⟨fun hlt'=> ?_,fun hge=>⟨Yq fun _ _=>rfl,Yn fun _ _=>rfl,h2 (by omega)⟩⟩
 have hlt:i<t.N:=by omega
 have hwr:i64.wrap ((i:Int)+1)=((i+1:Nat):Int):=by rw [w64 (by omega)];omega
 have hG1:=hG1 hlt
 have hZ:=h1 hlt
 have hO:∀τ,Zv 0 τ t.M (Ze t.outs) (Ze t.outs):=fun τ=>Yn fun _ _=>rfl
 have e1:=hG i (J5 _)
 rw [e1]
 have hU:∀(A1:List AV) j,A1=(Vu tl th ta (t.ins i)).c->j<t.N->UI (Zd G) i A1 j=(G1 j).c:=fun A1 j hA hj=>by
  rw [W1,hG1 j hj]
  by_cases e:j=i
  ·subst e;rw [Jg,if_pos rfl];exact hA
  ·rw [Zs e,if_neg e];rfl
 have hU2:∀(A1 B1:List AV) j,B1=(Vu tl th ta (t.ins i)).c->j<t.N->UI (UI (Zd G) i A1) i B1 j=(G1 j).c:=fun A1 B1 j hB hj=>by
  rw [W1,W1,hG1 j hj]
  by_cases e:j=i
  ·subst e;rw [Jg,if_pos rfl];exact hB
  ·rw [Zs e,if_neg e];rfl
 refine ⟨by omega,hlt,fun k1=>⟨⟨ha,hb⟩,t,⟨rfl,⟨rfl,fun _ _=>rfl⟩,rfl,fun _ _=>rfl⟩,⟨ht,ZcC ha hb,hc⟩,t,⟨rfl,⟨rfl,fun _ _=>rfl⟩,rfl,fun _ _=>rfl⟩,⟨ht,ZcD ha hb,hc⟩,hlt,hlt,hwr,Yq fun j hj=>hU2 _ _ j ?_ hj,hO _,hZ⟩,fun k1=>⟨fun k2=>⟨hwr,Yq fun j hj=> ?_,hO _,hZ⟩,fun k2=>⟨t,⟨rfl,⟨rfl,fun _ _=>rfl⟩,rfl,fun _ _=>rfl⟩,⟨ht,ha,hc⟩,hlt,hwr,Yq fun j hj=>hU _ j ?_ hj,hO _,hZ⟩⟩⟩
 ·have k1:(t.ins i).way=1:=by simpa using k1
  unfold Vu
  rw [if_pos k1,<-htl,<-hth]
  simp only [Jg]
  rfl
 ·have k1:¬(t.ins i).way=1:=by simpa using k1
  have k2:(t.ins i).way=4:=by simpa using k2
  rw [hG1 j hj]
  split
  ·rename_i e
   subst e
   unfold Vu
   rw [if_neg k1,if_pos k2,<-e1];rfl
  ·rfl
 ·have k1:¬(t.ins i).way=1:=by simpa using k1
  have k2:¬(t.ins i).way=4:=by simpa using k2
  unfold Vu
  rw [if_neg k1,if_neg k2,<-hta]
  rfl
def Z4d (Tg:LI->TxS->LI) (t:TxS) (a b:LI) (i j:Nat):InS:=if j<i then Vu (Tg (loH a b) t) (Tg (hiH a b) t) (Tg a t) (t.ins j) else t.ins j
structure ZcH (A:LI->Int×Int) (Tg:LI->TxS->LI) (t:TxS) (a b:LI) (G:Nat->Nat->InS):Prop where
 ht:t.Ok
 hN:t.N<=24
 hc:Y5 A t=true
 ha:a.length=32
 hb:b.length=32
 hG:G=Z4d Tg t a b
noncomputable def ZaM (A:LI->Int×Int) (Tg:LI->TxS->LI) (t:TxS) (a b:LI) (G:Nat->Nat->InS):Zf:=((((ZaL A Tg).withP 89 (ckS A)).withF 91 ZeK).withF 92 ZeL).withL 43 0 (goM 0 (ZcG t a b t.ins 0) (ZcH A Tg t a b G) (XY 0 t.N 9 (fun i=>i<t.N) (fun i=>i=t.N) (fun _=>False) (fun _=>False) (fun i=>Z8G t (G i)) (fun i=>Z8G t (G i)) (fun i=>Z8G t (G i))))
theorem Z5k (t:TxS) (a b:LI) (G:Nat->Nat->InS):(ZaM ZB Zl t a b G).Ok:=by
 have h0:((((ZaL ZB Zl).withP 89 (ckS ZB)).withF 91 ZeK).withF 92 ZeL).Ok:=Zf.withF_ok (Zf.withF_ok (Zf.withP_ok Z7F Zad) ZcE) ZcF
 refine Zf.withL_join (H:=ZaL ZB Zl) h0 rfl ?_
 exact Zf.withGoM (N:=20) (S:=fun i=>ZcG t a b (Z4d Zl t a b i) i) Z7F (by kernel_rfl) fun hC=>by
  obtain ⟨c1,c2,c3,c4,c5,c6⟩:=hC
  subst c6
  refine ⟨?_,fun i hi _=>ZgE ZB Zl t a b _ _ _ _ _ i _ _ c1 c2 c3 c4 c5 rfl rfl rfl hi (fun j hj=>if_neg (by omega)) (fun hlt j hj=> ?_) (fun h=>⟨h,h⟩) (fun h=>h)⟩
  ·have e:Z4d Zl t a b 0=t.ins:=funext fun j=>if_neg (Kg j)
   rw [e]
  ·unfold Z4d
   by_cases e:j=i
   ·subst e;rw [if_pos (Nat.lt_succ_self _),if_pos rfl]
   ·rw [if_neg e]
    by_cases h:j<i
    ·rw [if_pos h,if_pos (by omega)]
    ·rw [if_neg h,if_neg (by omega)]
theorem ZgF (A:LI->Int×Int) (Tg:LI->TxS->LI) (t:TxS) (a b:LI) (G:Nat->Nat->InS) (ht:t.Ok) (hb:Y5 A t=false):
  evF (ZaM A Tg t a b G) 20 43 [.agg t.c,.agg [.arr .u8 32 a],.agg [.arr .u8 32 b]] ⟨0,[]⟩ (Y6 0 (.ret (.tuple [.agg txZ,.int .i64 2])) 0 []):=by
 refine @Eq.mpr _ (let m:=t.num;let d:=t.N;let e:=t.M;let l:=decide (e=e);let h:=Ze t.outs;let o:=h=h;let k:=decide (m=m);let n:=decide (d=d);let f:=Zd t.ins;let r:=[(6,5),(5,4),(4,3),(3,0),(2,2),(1,1),(0,6)];
 ∃(t_1:TxS),
 (t_1.num=m/\((d=d/\t_1.N=d)/\∀(i:Nat),i<d->f i=InS.c (t_1.ins i))/\(e=e/\t_1.M=e)/\∀(i:Nat),i<e->h i=Zp.c (t_1.outs i))/\
 TxS.Ok t_1/\
 Z7 (Y5 A t_1) (∃(N:Nat),
 let q:=decide (N=d);
 ∃(g:Nat->InS),
 ((d=d/\N=d)/\∀(i:Nat),i<d->f i=InS.c (g i))/\
 N<1000/\
 Z5 l (o/\
 Z5 l (Z5 k (∃(N_1:Nat),
 let p:=decide (N_1=e);
 ∃(g_1:Nat->Zp),((e=e/\N_1=e)/\∀(i:Nat),i<e->h i=Zp.c (g_1 i))/\N_1<1000/\Z5 k (Z6 ((↑N:Int)=(↑d:Int)) (Z5 k (Z5 q (Z6 (d<=N) (Z5 p (Z6 (e<=N_1) (a=a/\b=b/\Z5 k (Z5 n (f=f/\Z5 n (Z5 l (o/\Z5 l (Z5 q (Zv 0 r d f (Zd g)/\Z5 p (Zv 0 r e h (Ze g_1)/\ZcH A Tg t a b G/\∀(i:Nat),i<=d->(∀(j:Nat),j<i->(fun (i:Nat)=>i<d) j)->(i=d->Z7 (decide (m=0)) False False)/\(False->False)/\(False->False))))))))))))))))))) True) (by kernel_rfl) ?_
 conv=>zeta
 try simp only [vcA]
 try simp only [vcB]
 try simp only [vcC]
 exact ⟨t,⟨rfl,⟨rfl,fun _ _=>rfl⟩,rfl,fun _ _=>rfl⟩,ht,fun k=>(by rw [hb] at k;cases k),fun _=>trivial⟩
theorem ZgG (A:LI->Int×Int) (Tg:LI->TxS->LI) (t:TxS) (a b:LI) (G:Nat->Nat->InS) (g:Nat->InS) (hC:ZcH A Tg t a b G) (hM:t.M<=24) (hg:g=G t.N):
  evF (ZaM A Tg t a b G) 20 43 [.agg t.c,.agg [.arr .u8 32 a],.agg [.arr .u8 32 b]] ⟨0,[]⟩ (Y6 0 (.ret (.tuple [.agg [.int .i64 t.num,.nslice ⟨0,0,130,0,0⟩ 130 t.N t.N,.nslice ⟨1,0,132,0,0⟩ 132 t.M t.M],.int .i64 0])) 2 [(0,.rows 130 t.N (Zd g)),(1,.rows 132 t.M (Ze t.outs))]):=by
 refine @Eq.mpr _ (let n:=t.num;let d:=t.N;let e:=t.M;let h:=decide (e=e);let f:=Ze t.outs;let o:=f=f;let l:=decide (n=n);let m:=decide (d=d);let k:=Zd t.ins;let v:=[(6,5),(5,4),(4,3),(3,0),(2,2),(1,1),(0,6)];let u:=[(1,3),(0,2)];let s:=decide (d=0);let r:=decide (e=0);
 ∃(t_1:TxS),
 (t_1.num=n/\((d=d/\t_1.N=d)/\∀(i:Nat),i<d->k i=InS.c (t_1.ins i))/\(e=e/\t_1.M=e)/\∀(i:Nat),i<e->f i=Zp.c (t_1.outs i))/\
 TxS.Ok t_1/\
 Z7 (Y5 A t_1) (∃(N:Nat),
 let q:=decide (N=d);
 ∃(g_1:Nat->InS),
 ((d=d/\N=d)/\∀(i:Nat),i<d->k i=InS.c (g_1 i))/\
 N<1000/\
 Z5 h (o/\
 Z5 h (Z5 l (∃(N_1:Nat),
 let p:=decide (N_1=e);
 ∃(g_2:Nat->Zp),((e=e/\N_1=e)/\∀(i:Nat),i<e->f i=Zp.c (g_2 i))/\N_1<1000/\Z5 l (Z6 ((↑N:Int)=(↑d:Int)) (Z5 l (Z5 q (Z6 (d<=N) (Z5 p (Z6 (e<=N_1) (a=a/\b=b/\Z5 l (Z5 m (k=k/\Z5 m (Z5 h (o/\Z5 h (Z5 q (Zv 0 v d k (Zd g_1)/\Z5 p (Zv 0 v e f (Ze g_2)/\ZcH A Tg t a b G/\∀(i:Nat),i<=d->(∀(j:Nat),j<i->(fun (i:Nat)=>i<d) j)->(i=d->Z5 l (Z5 m (Z6 (d<=d) (Z5 h (Z6 (e<=e) (Z5 m (Zv 0 u d (Zd g) (Zd (G i))/\Z5 h (Zv 0 u e f f/\True))))))))/\(False->False)/\(False->False))))))))))))))))))) (Z6 (0=n) (Z5 s (Z5 s (Z5 r (Z7 r False False)))))) (by kernel_rfl) ?_
 conv=>zeta
 try simp only [vcA]
 try simp only [vcB]
 try simp only [vcC]
 have hN:=hC.hN
 refine ⟨t,⟨rfl,⟨rfl,fun _ _=>rfl⟩,rfl,fun _ _=>rfl⟩,hC.ht,fun _=>⟨t.N,t.ins,⟨rfl,fun _ _=>rfl⟩,by omega,t.M,t.outs,⟨rfl,fun _ _=>rfl⟩,by omega,rfl,rfl,J5 _,rfl,J5 _,rfl,Yq fun _ _=>rfl,rfl,Yn fun _ _=>rfl,hC,fun i hi _=>⟨fun he=>⟨Yq fun _ _=>by rw [he,hg];rfl,Yn fun _ _=>rfl⟩,fun h=>h,fun h=>h⟩⟩,fun k=> ?_⟩
 rw [hC.hc] at k;cases k
def Zdr (A:LI->Int×Int) (Tg:LI->TxS->LI):Yb:=fun args h K=>ZD none h true 20 args fun a=>match a with
 | [.agg l,.agg [.arr .u8 32 a],.agg [.arr .u8 32 b]]=>∃t,Z0I l t/\(t.Ok/\a.length=32/\b.length=32)/\(Y5 A t=false->K (.ret (.tuple [.agg txZ,.int .i64 2])) h)/\
  (Y5 A t=true->K (.ret (.tuple [.agg [.int .i64 t.num,.nslice ⟨h.next,0,130,0,0⟩ 130 t.N t.N,.nslice ⟨h.next+1,0,132,0,0⟩ 132 t.M t.M],.int .i64 0])) ⟨h.next+2,(h.next,.rows 130 t.N (Zd (Z4d Tg t a b t.N)))::(h.next+1,.rows 132 t.M (Ze t.outs))::h.bs⟩)
 | _=>False
theorem ZaN (args:List AV) (h:Z9) (K:KO) (hl:Zdr ZB Zl args h K):Zh PP 43 args h K:=by
 refine Zx.fsumm (d:=20) (Zk _ _ _ _ _ hl fun a ha=> ?_)
 split at ha
 ·obtain ⟨t,h1,⟨h2,h3,h4⟩,k1,k2⟩:=ha
  cases hc:Y5 ZB t with
  | false=>exact ⟨_,_,_,_,(Zx.evM (Z5k t _ _ (fun _=>t.ins)) (ZgF _ _ t _ _ _ h2 hc)).conv (fun E r hr=>hr.head (fun _ hc=>h1.rel hc) (fun _ hc=>hc)),rfl,trivial,k1 hc⟩
  | true=>
   have hf:=V9 h2 hc
   exact ⟨_,_,_,_,(Zx.evM (Z5k t _ _ _) (ZgG _ _ t _ _ _ _ ⟨h2,hf.n,hc,h3,h4,rfl⟩ hf.m rfl)).conv (fun E r hr=>hr.head (fun _ hc=>h1.rel hc) (fun _ hc=>hc)),rfl,⟨by decide,.rows _ _ _ (fun i _=>(Z4d Zl t _ _ t.N i).plainC),by decide,.rows _ _ _ (fun i _=>(t.outs i).plainC),trivial⟩,k2 hc⟩
 ·exact ha.elim
theorem Spec.evK (hG:G.Ok) {n:Nat} {f:FuncId} {h0:Z9} {o:Out} {nx:Nat} {bs:List (Nat×Blk)} {K:KO} (h:evF G n f args h0 K) (hk:∀o' h',K o' h'->Y6 h0.next o nx bs o' h'):Spec G.P f args h0 o nx bs:=by
 intro E w rs he hl
 refine (Yw hG h E w rs he hl).mono ?_
 rintro e w' ⟨E',o',h',hK0,hev,hor⟩
 have hK:=hk _ _ hK0
 unfold Y6 at hK
 cases o with
 | ret v=>
  cases hor with
  | ret u r hr=>
   obtain ⟨E₂,h1,h2⟩:=Ui rfl hK he hev hr
   exact ⟨E₂,h1,.ret _ _ h2⟩
  | panic u r hr=>exact hK.elim
 | panic v=>
  cases hor with
  | panic u r hr=>
   obtain ⟨E₂,h1,h2⟩:=Ui rfl hK he hev hr
   exact ⟨E₂,h1,.panic _ _ h2⟩
  | ret u r hr=>exact hK.elim
structure ClS where
 t:Zi
 side:Int
 a0:Int
 a1:Int
 least:Int
 most:Int
 offers:Bool
 last:Int
 agrees:Bool
 fee:Int
def ClS.c (k:ClS):List AV:=k.t.c++[.int .i64 k.side,.arr .i64 2 [k.a0,k.a1],.int .i64 k.least,.int .i64 k.most,.bool k.offers,.int .i64 k.last,.bool k.agrees,.int .i64 k.fee]
structure Zds (T:Int) (k:ClS):Prop where
 ix:0<=k.t.index/\k.t.index<=T
 ca:0<=k.t.cap/\k.t.cap<=T
 du:0<=k.t.dust/\k.t.dust<=T
 fe:0<=k.t.fee/\k.t.fee<=T
 de:0<=k.t.delay/\k.t.delay<=T
 sd:0<=k.side/\k.side<=T
 a0:0<=k.a0/\k.a0<=T
 a1:0<=k.a1/\k.a1<=T
 le:0<=k.least/\k.least<=T
 mo:0<=k.most/\k.most<=T
 la:0<=k.last/\k.last<=T
 fee:0<=k.fee/\k.fee<=T
def amM (l:List Zg):Int:=(l.map fun m=>m.o.amount).sum
theorem Z2g (l:List Zg):(ZP l).Perm l:=by
 have:=Vp (lt:=ltM) (l:=l) (acc:=[])
 rwa [List.nil_append] at this
theorem ZaO {l m:LI} (h:l.Perm m):l.sum=m.sum:=by
 induction h with
 | nil=>rfl
 | cons x _ ih=>simp [ih]
 | swap x y l=>simp;omega
 | trans _ _ h1 h2=>exact h1.trans h2
theorem ZaP (l:List Zg):amM (ZP l)=amM l:=by
 unfold amM
 exact ZaO ((Z2g l).map _)
theorem Z8H (L:List Zg):amL (Yk L) L.length=L.map fun m=>m.o.amount:=by
 unfold amL Yk
 refine List.ext_getElem (by simp) fun k h1 h2=> ?_
 simp at h1 h2
 simp [J2,h1]
theorem Z8I {t:TxS} (h1:0<=t.num/\t.num<=2147483647) (h2:1<=t.N/\t.N<=24) (h3:1<=t.M/\t.M<=24) (h4:∀i,i<t.N->ZU (t.ins i)=true) (h5:∀i j,i<t.N->j<i->(t.ins j).index≠(t.ins i).index) (h6:∀i,i<t.M->ZH (t.outs i)=true) (h7:ZeA t t.M<=1125899906842624):Y5 ZB t=true:=by
 rw [<-Z3d]
 unfold Z49
 simp only [J3,decide_eq_true_eq,K5,Jq]
 refine ⟨⟨⟨⟨⟨h1,h2⟩,h3⟩,fun i hi=> ?_⟩,h6⟩,h7⟩
 unfold okI
 rw [h4 i hi,JW]
 simp only [Ja,JF,Jq]
 intro j hj hs
 exact h5 i j hi hj (Wu.1 hs).2
structure Zi.All (t:Zi):Prop where
 ok:t.Ok
 fl:t.fund.length=32
 fb:Bytes t.fund
def txC (t:Zi) (a b fee:Int):TxS:=⟨2147483647,1,fun _=>Z0K t,(ZP (clL t a b fee)).length,Yk (ZP (clL t a b fee))⟩
def ZG (t:Zi) (a b fee:Int):Int:=if clB ZB t a b fee=true then (if (clL t a b fee).length=0 then 180 else 0) else 2
theorem Z6J {t:Zi} {a b fee:Int} (h:ZG t a b fee=0):clB ZB t a b fee=true/\(clL t a b fee).length≠0:=by
 unfold ZG at h
 split at h
 ·rename_i h1
  split at h
  ·cases h
  ·exact ⟨h1,by assumption⟩
 ·cases h
theorem ZcI {t:Zi} {a b fee:Int} (h1:clB ZB t a b fee=true) (h2:(clL t a b fee).length≠0):ZG t a b fee=0:=by
 unfold ZG;rw [if_pos h1,if_neg h2]
theorem XD {t:Zi} (h:ZX t=true):(0<=t.index/\t.index<=23)/\(1000<=t.cap/\t.cap<=1125899906842624)/\(1<=t.dust/\t.dust<=500)/\(0<=t.fee/\t.fee<=400)/\(1<=t.delay/\t.delay<=1000)/\t.k0≠t.k1:=by
 unfold ZX at h
 simp only [J3,decide_eq_true_eq,bne_iff_ne,ne_eq] at h
 obtain ⟨⟨⟨⟨⟨h1,h2⟩,h3⟩,h4⟩,h5⟩,h6⟩:=h
 exact ⟨h1,h2,h3,h4,h5,h6⟩
theorem Z7G {t:Zi} {a b fee:Int} {m:Zg} (h:m∈clL t a b fee):(t.dust<=a-fee/\m=⟨⟨1,a-fee,t.k0,Z0,Z0,Z0,0,0⟩,0,0⟩)\/(t.dust<=b/\m=⟨⟨1,b,t.k1,Z0,Z0,Z0,0,0⟩,1,0⟩):=by
 unfold clL at h
 rw [Jr] at h
 rcases h with h|h<;>split at h<;>simp at h
 ·exact .inl ⟨by assumption,h⟩
 ·exact .inr ⟨by assumption,h⟩
theorem Z4e {t:Zi} {a b fee:Int}:(clL t a b fee).length<=2:=by
 unfold clL
 rw [Je]
 split<;>split<;>simp
theorem ZcJ {t:Zi} {a b fee:Int} (h:clB ZB t a b fee=true):amM (clL t a b fee)<=t.cap:=by
 obtain ⟨k1,⟨⟨k2,_⟩,⟨k3,_⟩⟩,k4,k5⟩:=Wa.1 h
 unfold clL amM
 split<;>split<;>simp<;>omega
theorem ZaQ {L:List Zg} {i:Nat} (h:i<L.length):∃m∈L,Yk L i=m.o:=⟨L[i],Kk h,by
 show (L.getD i Yj).o=_
 rw [J2,Jd h];rfl⟩
theorem Z7H {t:Zi} {a b fee:Int} {i:Nat} (h:i<(txC t a b fee).M):∃m∈clL t a b fee,(txC t a b fee).outs i=m.o:=by
 obtain ⟨m,hm,e⟩:=ZaQ (L:=ZP (clL t a b fee)) h
 exact ⟨m,(Z2g _).mem_iff.1 hm,e⟩
theorem Z0c {t:Zi} {a b fee:Int} (ht:t.Ok) (hf:t.fund.length=32):(txC t a b fee).Ok:=by
 have hl:(ZP (clL t a b fee)).length<=2:=by rw [Xg];exact Z4e
 refine ⟨by show (1:Nat)<_;decide,by show (ZP _).length<_;omega,fun i _=>⟨hf,rfl,rfl,rfl⟩,fun i hi=> ?_⟩
 obtain ⟨m,hm,e⟩:=Z7H hi
 rw [e]
 rcases Z7G hm with ⟨_,rfl⟩|⟨_,rfl⟩
 ·exact ⟨ht.k0,rfl,rfl,rfl⟩
 ·exact ⟨ht.k1,rfl,rfl,rfl⟩
theorem Z0d {t:Zi} {a b fee:Int} (h:ZG t a b fee=0):Y5 ZB (txC t a b fee)=true:=by
 obtain ⟨hb,hn⟩:=Z6J h
 obtain ⟨kt,⟨⟨k2,k2'⟩,⟨k3,k3'⟩⟩,k4,k5⟩:=Wa.1 hb
 have kd:=XD kt
 have hl:(ZP (clL t a b fee)).length=(clL t a b fee).length:=Xg
 have hl2:=Z4e (t:=t) (a:=a) (b:=b) (fee:=fee)
 refine Z8I ⟨by show (0:Int)<=2147483647;decide,by show (2147483647:Int)<=2147483647;decide⟩ ⟨J5 _,by show (1:Nat)<=24;decide⟩ ⟨by show 1<=(ZP (clL t a b fee)).length;omega,by show (ZP (clL t a b fee)).length<=24;omega⟩ (fun i hi=> ?_) (fun i j hi hj=> ?_) (fun i hi=> ?_) ?_
 ·show ZU (Z0K t)=true
  unfold ZU Z0K
  simp
  omega
 ·have hi:i<1:=hi
  omega
 ·obtain ⟨m,hm,e⟩:=Z7H hi
  rw [e]
  rcases Z7G hm with ⟨_,rfl⟩|⟨_,rfl⟩
  ·unfold ZH;simp;omega
  ·unfold ZH;simp;omega
 ·show (amL (Yk (ZP (clL t a b fee))) (ZP (clL t a b fee)).length).sum<=_
  rw [Z8H]
  have e:amM (ZP (clL t a b fee))=((ZP (clL t a b fee)).map fun m=>m.o.amount).sum:=rfl
  have:=ZcJ hb
  rw [<-e,ZaP]
  omega
def ZaR (t:Zi) (side:Int):LI:=if side=0 then t.k0 else t.k1
def Xu (n least most:Int):Int:=max least (min most n)
structure Z4f (k:ClS):Prop where
 t:ZX k.t=true
 side:k.side=0\/k.side=1
 a0:0<=k.a0
 a1:0<=k.a1
 sum:k.a0+k.a1=k.t.cap
 lo:0<=k.least
 lm:k.least<=k.most
 hi:k.most<=k.a0
structure XO (k:ClS):Prop where
 made:Z4f k
 off:k.offers=true->k.least<=k.last/\k.last<=k.most
 nof:k.offers=false->k.last=0
 agr:k.agrees=true->k.offers=true/\k.fee=k.last/\ZG k.t k.a0 k.a1 k.fee=0
 nag:k.agrees=false->k.fee=0
theorem XO.fee_le {k:ClS} (h:XO k):(0<=k.last/\k.last<=k.a0)/\(0<=k.fee/\k.fee<=k.a0):=by
 obtain ⟨⟨h1,h2,h3,h4,h5,h6,h7,h8⟩,ho,hn,ha,hg⟩:=h
 have q1:0<=k.last/\k.last<=k.a0:=by
  cases e:k.offers
  ·have:=hn e;omega
  ·have:=ho e;omega
 refine ⟨q1, ?_⟩
 cases e:k.agrees
 ·have:=hg e;omega
 ·have:=ha e;omega
theorem XO.num {k:ClS} (h:XO k):Zds 4611686018427387904 k:=by
 have hf:=h.fee_le
 obtain ⟨h1,h2,h3,h4,h5,h6,h7,h8⟩:=h.made
 have hd:=XD h1
 refine ⟨?_, ?_, ?_, ?_, ?_, ?_, ?_, ?_, ?_, ?_, ?_, ?_⟩<;>omega
theorem Zx.evV (hG:G.Ok) {n:Nat} {f:FuncId} {v:AV} (h:evF G n f args ⟨0,[]⟩ (Us fun u=>u=v)):Zx G.P f args v 0 []:=by
 intro E w rs he hr
 refine (Yw hG h E w rs he hr).mono ?_
 rintro e w' ⟨E₁,o,h',hK0,hev,hor⟩
 cases hor with
 | panic u r hr=>exact hK0.elim
 | ret u r hr=>
  unfold Us at hK0
  simp only at hK0
  split at hK0
  ·rename_i hu
   subst hK0
   refine ⟨E,r,rfl,⟨.refl E,⟨he.fresh,fun x B hx=>by simp [Z9.get,ZC] at hx,fun x B hx=>by simp [Z9.get,ZC] at hx,fun x y B B' b N N' hx=>by simp [Z9.get,ZC] at hx,fun a c hi=>hev.emb.imm a c (hev.le.imm a c hi),fun a c x B N _ hx=>by simp [Z9.get,ZC] at hx⟩,hev.size,hev.os,hev.tape,hev.output,hev.keep,fun b hb=> ?_,fun _ _ h=>h⟩,Zc.vplain (E:=E₁) (E':=E) (fun a c hi=>hev.imm a c hi) _ _ hu hr⟩
   obtain ⟨x,B,N,hx,_⟩:=hb
   simp [Z9.get,ZC] at hx
  ·exact hK0.elim
def Yt (A:LI->Int×Int) (k:ClS):Bool:=ZX k.t&&decide (0<=k.side/\k.side<=1)&&decide ((A [k.a0,k.a1]).2=0)&&decide ((A [k.a0,k.a1]).1=k.t.cap)&&decide (0<=k.least/\k.least<=k.most)&&decide (k.most<=k.a0)
theorem Z3m {k:ClS}:Yt ZB k=true↔Z4f k:=by
 unfold Yt
 simp only [J3,decide_eq_true_eq]
 constructor
 ·rintro ⟨⟨⟨⟨⟨h1,h2⟩,h3⟩,h4⟩,h5⟩,h6⟩
  have:=Wa.1 (Uo.2 ⟨h1,h3,h4,(⟨JY 0,by omega⟩:(0:Int)<=0/\0<=k.a0)⟩)
  exact ⟨h1,by omega,this.2.1.1.1,this.2.1.2.1,this.2.2.1,h5.1,h5.2,h6⟩
 ·rintro ⟨h1,h2,h3,h4,h5,h6,h7,h8⟩
  have hd:=XD h1
  have:=Uo.1 (Wa.2 ⟨h1,⟨⟨h3,by omega⟩,h4,by omega⟩,h5,(⟨JY 0,h3⟩:(0:Int)<=0/\0<=k.a0)⟩)
  exact ⟨⟨⟨⟨⟨h1,by omega⟩,this.2.1⟩,this.2.2.1⟩,⟨h6,h7⟩⟩,h8⟩
noncomputable def ZgH (A:LI->Int×Int):Zf:=(G0.withP 44 Z3g).withP 74 (Z7v A)
theorem ZcK:(ZgH ZB).Ok:=Zf.withP_ok (Zf.withP_ok Zu QC) Z25
theorem ZgI (A:LI->Int×Int) (k:ClS) (b:Bool) (ht:k.t.Ok) (hb:b=Yt A k):
  evF (ZgH A) 20 30 [.agg k.c] ⟨0,[]⟩ (Us fun v=>v=.bool b):=by
 refine @Eq.mpr _ (let a:=k.t;let f:=a.cap;let e:=Zi.mk a.fund a.index f a.dust a.fee a.delay a.k0 a.k1;let d:=A [k.a0,k.a1];let c:=AV.bool false=AV.bool b;
 Zi.Ok e/\Z7 ((if ZX e=true then (0:Int) else (2:Int))==(0:Int)) (Z7 (decide ((0:Int)<=k.side)) (Z7 (decide (k.side<=(1:Int))) (Z7 (d.snd==(0:Int)) (Z7 (d.fst==f) (Z7 (decide ((0:Int)<=k.least)) (Z7 (decide (k.least<=k.most)) (AV.bool (decide (k.most<=k.a0))=AV.bool b) c) c) c) c) c) c) c) (by kernel_rfl) ?_
 conv=>zeta
 try simp only [vcA]
 try simp only [vcB]
 try simp only [vcC]
 have e0:Zi.mk k.t.fund k.t.index k.t.cap k.t.dust k.t.fee k.t.delay k.t.k0 k.t.k1=k.t:=rfl
 simp only [e0]
 subst hb
 refine ⟨ht, ?_⟩
 unfold Yt
 cases ZX k.t<;>by_cases c1:0<=k.side<;>by_cases c2:k.side<=1<;>by_cases c3:(A [k.a0,k.a1]).2=0<;>by_cases c4:(A [k.a0,k.a1]).1=k.t.cap<;>by_cases c5:0<=k.least<;>by_cases c6:k.least<=k.most<;>simp [c1,c2,c3,c4,c5,c6]
inductive Z5l (cs:List AV) (k:ClS):Prop
 | mk:cs=k.c->Z5l cs k
def ZgJ (A:LI->Int×Int):ZJ:=fun args h K=>ZD none h true 20 args fun a=>match a with
 | [.agg cs]=>∃k,Z5l cs k/\k.t.Ok/\K (.bool (Yt A k))
 | _=>False
theorem ZcL (args:List AV) (h:Z9) (K:AV->Prop) (hl:ZgJ ZB args h K):Zh PP 30 args h fun o h'=>∃v,o=.ret v/\h'=h/\K v:=by
 refine Zx.psumm (d:=20) (Zk _ _ _ _ _ hl fun a ha=> ?_)
 split at ha
 ·obtain ⟨k,⟨rfl⟩,ht,hK⟩:=ha
  exact ⟨_,Zx.evV ZcK (ZgI _ k _ ht rfl),fun _=>rfl,hK⟩
 ·exact ha.elim
def ZhY:Yb:=fun args h K=>ZD none h true 20 args fun a=>match a with
 | [.agg cs,.int .i64 fee]=>∃k,Z5l cs k/\(k.t.Ok/\k.a0<9223372036854775808)/\K (.ret (.tuple [.top,.int .i64 (ZG k.t k.a0 k.a1 fee)])) h
 | _=>False
def clK (ok:Bool) (k:ClS):KO:=fun o h=>match o with
 | .ret (.tuple [.ptr none,.int .i64 _])=>Z7 ok False (Y6 0 (.ret (.tuple [.ptr none,.int .i64 253])) 0 [] o h)
 | .ret (.tuple [.ptr (some _),.int .i64 _])=>Z7 ok (Y6 0 (.ret (.tuple [.ptr (some ⟨0,0,0,0,0⟩),.int .i64 0])) 1 [(0,.flat (k.c++[.bool true]))] o h) False
 | _=>False
def Yh (Tg:LI->TxS->LI) (k:ClS) (fee sd:Int):LI:=if ZG k.t k.a0 k.a1 fee=0 then Tg (ZaR k.t sd) (txC k.t k.a0 k.a1 fee) else Z0
theorem Z4g {k:ClS} {fee sd:Int} (h:ZG k.t k.a0 k.a1 fee=0):Yh Tg k fee sd=Tg (ZaR k.t sd) (txC k.t k.a0 k.a1 fee):=if_pos h
theorem Z4h {k:ClS} {fee:Int} (h:clB ZB k.t k.a0 k.a1 fee=false):ZG k.t k.a0 k.a1 fee=2:=by unfold ZG;rw [h];rfl
theorem QE {k:ClS} {fee:Int} (h:clB ZB k.t k.a0 k.a1 fee=true) (h2:(clL k.t k.a0 k.a1 fee).length=0):ZG k.t k.a0 k.a1 fee=180:=by unfold ZG;rw [if_pos h,if_pos h2]
theorem QF {k:ClS} {fee:Int} {n:Nat} {L:List Zg} (h:clB ZB k.t k.a0 k.a1 fee=true) (hL:L=ZP (clL k.t k.a0 k.a1 fee)) (hn:n=L.length) (h0:n≠0):ZG k.t k.a0 k.a1 fee=0:=ZcI h (by subst hn hL;rw [Xg] at h0;exact h0)
theorem Z2h (t:Zi) (i:Nat) (hi:i<1):YV [AV.arr u8 32 t.fund,AV.int i64 t.index,AV.int i64 1,AV.arr u8 32 Z0,AV.arr u8 32 Z0,AV.arr u8 32 Z0] 0 130 i=InS.c (Z0K t):=by
 have:i=0:=by omega
 subst this;rfl
theorem Z7I:∀(n a b:Nat),a<2^n->b<2^n->2*(a&&&b)+(a^^^b)=a+b
 | 0,a,b,ha,hb=>by
  have:a=0:=by simpa using ha
  have:b=0:=by simpa using hb
  subst_vars;rfl
 | n+1,a,b,ha,hb=>by
  have ih:=Z7I n (a/2) (b/2) (by rw [Nat.pow_succ] at ha;omega) (by rw [Nat.pow_succ] at hb;omega)
  have h1:(a&&&b)/2=(a/2)&&&(b/2):=Nat.and_div_two
  have h2:(a^^^b)/2=(a/2)^^^(b/2):=Nat.xor_div_two
  rw [<-h1,<-h2] at ih
  have h3:(a^^^b)%2^1=(a%2^1)^^^(b%2^1):=Nat.xor_mod_two_pow
  rw [Nat.pow_one] at h3
  have h6:(a%2)^^^(b%2)=(a%2+b%2)%2:=by
   rcases Nat.mod_two_eq_zero_or_one a with e|e<;>rcases Nat.mod_two_eq_zero_or_one b with f|f<;>rw [e,f]<;>rfl
  rw [h6] at h3
  have h4:(a&&&b)%2=1↔a%2=1/\b%2=1:=Nat.and_mod_two_eq_one
  have h5:(a&&&b)%2<2:=Nat.mod_lt _ (by decide)
  omega
theorem ZeM {a b:Int} (ha:0<=a/\a<=1125899906842624) (hb:0<=b/\b<=1125899906842624):i64.wrap (Z0C .i64 a b+Zy .i64 (XH .i64 a b) 1)=(a+b).tdiv 2:=by
 obtain ⟨x,rfl⟩:=Int.eq_ofNat_of_zero_le ha.1
 obtain ⟨y,rfl⟩:=Int.eq_ofNat_of_zero_le hb.1
 have hx:x<2^51:=by have:=ha.2;omega
 have hy:y<2^51:=by have:=hb.2;omega
 have hm:=Z7I 51 x y hx hy
 have hand:x&&&y<2^51:=Nat.and_lt_two_pow x hy
 have hxor:x^^^y<2^51:=Nat.xor_lt_two_pow hx hy
 have e1:Z0C .i64 (x:Int) (y:Int)=((x&&&y:Nat):Int):=by
  unfold Z0C
  show i64.wrap (((BitVec.ofInt 64 (x:Int)&&&BitVec.ofInt 64 (y:Int)).toNat:Nat):Int)=_
  rw [K2,K2,BitVec.toNat_and,K9,K9,K7 (by omega),K7 (by omega)]
  rw [w64 (by omega)]
 have e2:XH .i64 (x:Int) (y:Int)=((x^^^y:Nat):Int):=by
  unfold XH
  show i64.wrap (((BitVec.ofInt 64 (x:Int)^^^BitVec.ofInt 64 (y:Int)).toNat:Nat):Int)=_
  rw [K2,K2,BitVec.toNat_xor,K9,K9,K7 (by omega),K7 (by omega)]
  rw [w64 (by omega)]
 have e3:Zy .i64 ((x^^^y:Nat):Int) 1=((x^^^y:Nat):Int)/2:=by
  unfold Zy
  show Int.fdiv _ (2^1)=_
  rw [Int.fdiv_eq_ediv_of_nonneg _ (by decide)]
  rfl
 rw [e1,e2,e3,Ka (by omega),w64 (by omega)]
 omega
def Y9 (a b:Int):Int:=(a+b).tdiv 2
theorem ZcM {a b m:Int} (ha:0<=a/\a<=m) (hb:0<=b/\b<=m):0<=Y9 a b/\Y9 a b<=m:=by
 unfold Y9
 rw [Ka (by omega)]
 omega
theorem ZgK (M:Int->Int->Int) (a b:Int) (hM:M=Y9) (ha:0<=a/\a<=1125899906842624) (hb:0<=b/\b<=1125899906842624):
  evF G0 30 84 [.int .i64 a,.int .i64 b] ⟨0,[]⟩ (Us fun v=>v=.tuple [.int .i64 (M a b),.int .i64 0]):=by
 refine @Eq.mpr _ (let k:=wrap i64 (Z0C i64 a b+Zy i64 (XH i64 a b) 1);let j:=AV.int i64 (wrap i64 (k*0));let i:=[AV.int i64 2];let g:=[AV.int i64 0];let f:=AV.tuple (AV.int i64 (M a b)::g);let c:=AV.tuple (j::i)=f;let e:=AV.tuple (j::g)=f;let h:=AV.int i64 (wrap i64 (k*1));let d:=AV.tuple (h::i)=f;
 Z7 (decide (a<0)) (Z7 (decide (a<0)) c (Z7 (decide (a>1125899906842624)) c (Z7 (decide (b<0)) c (Z7 (decide (b>1125899906842624)) c e)))) (Z7 (decide (a>1125899906842624)) (Z7 (decide (a<0)) c (Z7 (decide (a>1125899906842624)) c (Z7 (decide (b<0)) c (Z7 (decide (b>1125899906842624)) c e)))) (Z7 (decide (b<0)) (Z7 (decide (a<0)) c (Z7 (decide (a>1125899906842624)) c (Z7 (decide (b<0)) c (Z7 (decide (b>1125899906842624)) c e)))) (Z7 (decide (b>1125899906842624)) (Z7 (decide (a<0)) c (Z7 (decide (a>1125899906842624)) c (Z7 (decide (b<0)) c (Z7 (decide (b>1125899906842624)) c e)))) (Z7 (decide (a<0)) d (Z7 (decide (a>1125899906842624)) d (Z7 (decide (b<0)) d (Z7 (decide (b>1125899906842624)) d (AV.tuple (h::g)=f))))))))) (by kernel_rfl) ?_
 conv=>zeta
 try simp only [vcA]
 try simp only [vcB]
 try simp only [vcC]
 subst hM
 have hm:=ZeM ha hb
 have hq:0<=Y9 a b/\Y9 a b<=1125899906842624:=ZcM ha hb
 have hw:i64.wrap (Y9 a b)=Y9 a b:=w64 (by omega)
 have hm:i64.wrap (Z0C i64 a b+Zy i64 (XH i64 a b) 1)=Y9 a b:=hm
 simp only [hm,Int.mul_one,hw]
 repeat' (first|(refine Jt ?_ ?_)|intro _)
 all_goals first|exact True.intro|rfl|(exfalso;omega)
def ZeN (M:Int->Int->Int):ZJ:=fun args _ K=>match args with
 | [.int .i64 a,.int .i64 b]=>((0<=a/\a<=1125899906842624)/\(0<=b/\b<=1125899906842624))/\K (.tuple [.int .i64 (M a b),.int .i64 0])
 | _=>False
theorem ZcN (args:List AV) (h:Z9) (K:AV->Prop) (hl:ZeN Y9 args h K):Zh PP 84 args h fun o h'=>∃v,o=.ret v/\h'=h/\K v:=by
 unfold ZeN at hl
 split at hl
 ·obtain ⟨⟨h1,h2⟩,hK⟩:=hl
  exact W7 Zu rfl (ZgK _ _ _ rfl h1 h2) (fun u hu=>hu▸hK)
 ·exact hl.elim
def Y4 (M:Int->Int->Int) (k:ClS) (x:Int):Int:=Xu (match k.offers with|true=>M k.last x|false=>x) k.least k.most
theorem ZhH (M:Int->Int->Int) (k:ClS) (x r:Int) (hl:0<=k.last/\k.last<=1125899906842624) (hx:0<=x/\x<=1125899906842624) (hr:r=Y4 M k x):
  evF (G0.withP 84 (ZeN M)) 20 41 [.agg k.c,.int .i64 x] ⟨0,[]⟩ (Us fun v=>v=.int .i64 r):=by
 refine @Eq.mpr _ (let c:=k.last;let f:=M c x;let b:=k.most;let e:=if f<b then f else b;let a:=k.least;let d:=if x<b then x else b;
 Z7 k.offers (((0<=c/\c<=1125899906842624)/\0<=x/\x<=1125899906842624)/\AV.int i64 (if e>a then e else a)=AV.int i64 r) (AV.int i64 (if d>a then d else a)=AV.int i64 r)) (by kernel_rfl) ?_
 conv=>zeta
 try simp only [vcA]
 try simp only [vcB]
 try simp only [vcC]
 subst hr
 have hz:∀y:Int,(if (if y<k.most then y else k.most)>k.least then (if y<k.most then y else k.most) else k.least)=Xu y k.least k.most:=fun y=>by
  unfold Xu
  rw [Int.max_def,Int.min_def]
  split<;>split<;>(try split)<;>(try split)<;>omega
 simp only [hz]
 unfold Y4
 cases k.offers
 ·exact ⟨(fun h=>nomatch h),fun _=>rfl⟩
 ·exact ⟨fun _=>⟨⟨hl,hx⟩,rfl⟩,(fun h=>nomatch h)⟩
def nxS (M:Int->Int->Int):ZJ:=fun args h K=>ZD none h true 20 args fun a=>match a with
 | [.agg cs,.int .i64 x]=>∃k,Z5l cs k/\((0<=k.last/\k.last<=1125899906842624)/\(0<=x/\x<=1125899906842624))/\K (.int .i64 (Y4 M k x))
 | _=>False
theorem ZeO (args:List AV) (h:Z9) (K:AV->Prop) (hl:nxS Y9 args h K):Zh PP 41 args h fun o h'=>∃v,o=.ret v/\h'=h/\K v:=by
 refine Zx.psumm (d:=20) (Zk _ _ _ _ _ hl fun a ha=> ?_)
 split at ha
 ·obtain ⟨k,⟨rfl⟩,⟨h1,h2⟩,hK⟩:=ha
  exact ⟨_,Zx.evV (Zf.withP_ok Zu ZcN) (ZhH _ k _ _ h1 h2 rfl),fun _=>rfl,hK⟩
 ·exact ha.elim
theorem ZhI (n a b:Int) (r:Bool) (hr:r=decide (a<=n/\n<=b)):
  evF G0 20 40 [.int .i64 n,.int .i64 a,.int .i64 b] ⟨0,[]⟩ (Us (fun v=>v=.bool r)):=by
 refine @Eq.mpr _ (Z7 (decide (a<=n)) (AV.bool (decide (n<=b))=AV.bool r) (AV.bool false=AV.bool r)) (by kernel_rfl) ?_
 simp only [Z2d]
 subst hr
 by_cases h1:a<=n<;>by_cases h2:n<=b<;>simp [h1,h2]
theorem ZeP (args:List AV) (h:Z9) (K:AV->Prop) (hl:inQ args h K):Zh PP 40 args h fun o h'=>∃v,o=.ret v/\h'=h/\K v:=by
 unfold inQ at hl
 split at hl
 ·exact W7 Zu rfl (ZhI _ _ _ _ rfl) (fun u hu=>hu▸hl)
 ·exact hl.elim
structure Zm where
 kind:Int
 t:Zi
 reserve:Int
 amount:Int
 point:LI
 nxt:LI
 key:LI
 hash:LI
 tag:LI
 secret:LI
 id:Int
 number:Int
 index:Int
 expiry:Int
 code:Int
 route:ByteArray
variable {SB:Zm->Bool}
def Zm.r (s:Zm):List AV:=[.arr .u8 32 s.t.fund,.int .i64 s.t.index,.int .i64 s.t.cap,.int .i64 s.t.dust,.int .i64 s.t.fee,.int .i64 s.t.delay,.arr .u8 32 s.t.k0,.arr .u8 32 s.t.k1,.int .i64 s.reserve,.int .i64 s.amount,.arr .u8 32 s.point,.arr .u8 32 s.nxt,.arr .u8 32 s.key,.arr .u8 32 s.hash,.arr .u8 32 s.tag,.arr .u8 32 s.secret,.int .i64 s.id,.int .i64 s.number,.int .i64 s.index,.int .i64 s.expiry,.int .i64 s.code,.str s.route]
def Zm.c (s:Zm):List AV:=.int .i64 s.kind::s.r
structure Zm.Len (s:Zm):Prop where
 h0:s.t.fund.length=32
 h1:s.t.k0.length=32
 h2:s.t.k1.length=32
 h3:s.point.length=32
 h4:s.nxt.length=32
 h5:s.key.length=32
 h6:s.hash.length=32
 h7:s.tag.length=32
 h8:s.secret.length=32
 hb:Bytes s.t.k0
def okF (m:List Nat) (i:Nat) (z:Bool):Bool:=Z65 i m||z
def ZgL (m:List Nat) (s:Zm):Bool:=
 true&&(okF m 0 (s.t.fund==Z0)&&(okF m 1 (s.t.index==0)&&(okF m 2 (s.t.cap==0)&&(okF m 3 (s.t.dust==0)&&(okF m 4 (s.t.fee==0)&&(okF m 5 (s.t.delay==0)&&(okF m 6 (s.t.k0==Z0)&&okF m 7 (s.t.k1==Z0))))))))&&(okF m 8 (s.reserve==0)&&(okF m 9 (s.amount==0)&&(okF m 10 (s.point==Z0)&&(okF m 11 (s.nxt==Z0)&&(okF m 12 (s.key==Z0)&&(okF m 13 (s.hash==Z0)&&(okF m 14 (s.tag==Z0)&&(okF m 15 (s.secret==Z0)&&(okF m 16 (s.id==0)&&(okF m 17 (s.number==0)&&(okF m 18 (s.index==0)&&(okF m 19 (s.expiry==0)&&(okF m 20 (s.code==0)&&okF m 21 (ByteArray.toList s.route==ByteArray.toList ByteArray.empty))))))))))))))
def nmd:Int->List Nat
 | 1=>[2,3,4,5,6,8,9,10,11]
 | 2=>[12,10,11]
 | 3=>[13,18,14]
 | 4=>[14]
 | 5=>[]
 | 6=>[16,9,13,19,21]
 | 7=>[16,15]
 | 8=>[16,20]
 | 9=>[17,14]
 | 10=>[17,15,11]
 | 11=>[17,16]
 | 12=>[]
 | 13=>[9,14]
 | 14=>[20]
 | _=>[]
structure ZeQ (s:Zm):Prop where
 a:0<=s.id
 b:s.id<=2147483647
 c:0<=s.number
 d:s.number<=2147483647
 e:0<=s.index
 f:s.index<=2147483647
 g:0<=s.expiry
 h:s.expiry<=2147483647
 i:0<=s.amount
 j:s.amount<=1125899906842624
def U2 (t:Zi):Zi:={ t with k1:=t.k0.set 0 (wrap .u8 (t.k0.getD 0 0+1))}
structure Z6K (s:Zm):Prop where
 t:ZX (U2 s.t)=true
 lo:0<=s.reserve
 hi:s.reserve<=s.t.cap.tdiv 10
 am:s.amount<=s.t.cap-s.t.fee-s.reserve
def kindOk (s:Zm):Int->Prop
 | 1=>Z6K s
 | 2=>True
 | 3=>s.index<24
 | 4=>True
 | 5=>True
 | 6=>0<s.amount/\0<s.expiry/\s.route.size<=512
 | 7=>True
 | 8=>1<=s.code/\s.code<=999
 | 9=>True
 | 10=>True
 | 11=>True
 | 12=>True
 | 13=>True
 | 14=>1<=s.code/\s.code<=999
 | _=>False
structure ZA (s:Zm) (k:Int):Prop where
 w:ZeQ s
 r:ZgL (nmd k) s=true
 k:kindOk s k
def chK (ok:Bool):KO:=fun o _=>match o with
 | .ret (.int .i64 0)=>ok=true
 | .ret (.int .i64 2)=>ok=false
 | _=>False
noncomputable def Qa:Zf:=G0.withP 44 Z3g
def sdN (kd am:Int) (tg:LI):Zm:=⟨kd,⟨Z0,0,0,0,0,0,Z0,Z0⟩,0,am,Z0,Z0,Z0,Z0,tg,Z0,0,0,0,0,0,ByteArray.empty⟩
def clO (k:ClS) (of:Bool) (la:Int) (ag:Bool) (fe:Int):ClS:=⟨k.t,k.side,k.a0,k.a1,k.least,k.most,of,la,ag,fe⟩
def clD (k:ClS) (s:Int):ClS:=⟨k.t,s,k.a0,k.a1,k.least,k.most,k.offers,k.last,k.agrees,k.fee⟩
theorem Vc {k:ClS} {s:Int} (h:k.side=s):clD k s=k:=by subst h;rfl
noncomputable def ZaS (A:LI->Int×Int) (Tg:LI->TxS->LI):Zf:=(G0.withF 42 (clF A)).withP 83 (Z6I A Tg)
theorem Up:(ZaS ZB Zl).Ok:=Zf.withP_ok (Zf.withF_ok Zu ZaH) Z3l
structure OfR (Tg:LI->TxS->LI) (k:ClS) (s fee e kd am la:Int) (tg:LI) (of:Bool):Prop where
 he:e=ZG k.t k.a0 k.a1 fee
 go:e=0->kd=13/\am=fee/\tg=Tg (ZaR k.t s) (txC k.t k.a0 k.a1 fee)/\of=true/\la=fee
 no:e≠0->kd=0/\am=0/\tg=Z0/\of=k.offers/\la=k.last
theorem Zdt (A:LI->Int×Int) (Tg:LI->TxS->LI) (k:ClS) (fee e kd am la:Int) (tg:LI) (of:Bool) (hA:A=ZB) (ht:k.t.All) (ha:k.a0<9223372036854775808) (hr:OfR Tg k 0 fee e kd am la tg of):
  evF (ZaS A Tg) 20 32 [.ptr (some ⟨0,0,0,0,0⟩),.int .i64 fee] ⟨1,[(0,.flat ((clD k 0).c++[.bool true]))]⟩ (Y6 1 (.ret (.tuple [.agg (sdN kd am tg).c,.int .i64 e])) 1 [(0,.flat ((clO (clD k 0) of la k.agrees k.fee).c++[.bool true]))]):=by
 refine @Eq.mpr _ (let f:=clD k 0;let l:=f.t;let q:=l.fund;let p:=l.index;let J:=l.cap;let I:=l.dust;let H:=l.fee;let G:=l.delay;let o:=l.k0;let b1:=l.k1;let D:=Zi.mk q p J I H G o b1;let b0:=[f.a0,f.a1];let d:=sdN kd am tg;let a9:=d.kind;let a8:=decide (0=a9);let C:=d.t;let B:=Z0=C.fund;let z:=Z0=C.k0;let y:=Z0=C.k1;let a7:=d.amount;let a6:=decide (0=a7);let x:=Z0=d.point;let w:=Z0=d.nxt;let v:=Z0=d.key;let u:=Z0=d.hash;let a5:=d.tag;let a4:=Z0=a5;let s:=Z0=d.secret;let r:=ByteArray.empty=d.route;let g:=clO f of la k.agrees k.fee;let j:=g.t;let a3:=q=j.fund;let a2:=decide (p=j.index);let Z:=decide (J=j.cap);let Y:=decide (I=j.dust);let X:=decide (H=j.fee);let W:=decide (G=j.delay);let V:=o=j.k0;let U:=b1=j.k1;let T:=b0=[g.a0,g.a1];let S:=decide (f.least=g.least);let R:=decide (f.most=g.most);let Q:=g.offers;let P:=g.last;let O:=Z6 (f.agrees=g.agrees) (Z6 (f.fee=g.fee) True);let K:=a3/\Z5 a2 (Z5 Z (Z5 Y (Z5 X (Z5 W (V/\U/\T/\Z5 S (Z5 R (Z6 (f.offers=Q) (Z6 (f.last=P) O))))))));let m:=InS.mk q p 1 Z0 Z0 Z0;
 Zi.Ok D/\
 ∃(a:Int),
 ∃(b:Int),
 let F:=clB A D a b fee;let E:=clL D a b fee;
 b0=[a,b]/\
 a<9223372036854775808/\
 (F=false->Z5 a8 (B/\z/\y/\Z5 a6 (x/\w/\v/\u/\a4/\s/\r/\Z6 (2=e) K)))/\
 (F=true->
 (E.length=0->Z5 a8 (B/\z/\y/\Z5 a6 (x/\w/\v/\u/\a4/\s/\r/\Z6 (180=e) K)))/\
 ∀(n:Nat) (L:List Zg),
 L=ZP E->
 n=L.length->
 n≠0->
 Z6 (0+n<=n) ((∀(i:Nat),i<n->true=true)/\
 ∃(t:TxS),
 (t.num=2147483647/\
 (((1:Nat)=1/\t.N=1)/\∀(i:Nat),i<1->YV [AV.arr u8 32 m.name,AV.int i64 m.index,AV.int i64 m.way,AV.arr u8 32 m.tag,AV.arr u8 32 m.also,AV.arr u8 32 m.secret] 0 130 i=InS.c (t.ins i))/\
 (n=n/\t.M=n)/\
 ∀(i:Nat),
 let h:=Yk L i;
 i<n->[AV.int i64 h.kind,AV.int i64 h.amount,AV.arr u8 32 h.owner,AV.arr u8 32 h.other,AV.arr u8 32 h.point,AV.arr u8 32 h.hash,AV.int i64 h.delay,AV.int i64 h.expiry]=Zp.c (t.outs i))/\
 (TxS.Ok t/\o.length=32/\Y5 A t=true)/\Z6 (13=a9) (B/\z/\y/\Z6 (fee=a7) (x/\w/\v/\u/\Tg o t=a5/\s/\r/\Z6 (0=e) (a3/\Z5 a2 (Z5 Z (Z5 Y (Z5 X (Z5 W (V/\U/\T/\Z5 S (Z5 R (Z6 (true=Q) (Z6 (fee=P) O)))))))))))))) (by kernel_rfl) ?_
 conv=>zeta
 try simp only [vcA]
 try simp only [vcB]
 try simp only [vcC]
 subst hA
 obtain ⟨he,go,no⟩:=hr
 refine ⟨ht.ok,k.a0,k.a1,rfl,ha,fun h1=> ?_,fun h1=>⟨fun h2=> ?_,fun n L hL hn hn0=> ?_⟩⟩
 ·have e2:e=2:=he.trans (Z4h (k:=k) h1)
  obtain ⟨rfl,rfl,rfl,rfl,rfl⟩:=no (by rw [e2];decide)
  and_intros<;>first|rfl|exact e2.symm
 ·have e2:e=180:=he.trans (QE (k:=k) h1 h2)
  obtain ⟨rfl,rfl,rfl,rfl,rfl⟩:=no (by rw [e2];decide)
  and_intros<;>first|rfl|exact e2.symm
 ·have e1:=QF (k:=k) h1 hL hn hn0
  have e2:e=0:=he.trans e1
  obtain ⟨rfl,rfl,rfl,rfl,rfl⟩:=go e2
  subst hn hL
  refine ⟨fun _ _=>trivial,txC k.t k.a0 k.a1 _,⟨rfl,⟨rfl,fun i hi=>Z2h _ i hi⟩,rfl,fun _ _=>rfl⟩,⟨Z0c ht.ok ht.fl,ht.ok.k0,Z0d e1⟩, ?_⟩
  and_intros<;>first|rfl|exact e2.symm
theorem Zdu (A:LI->Int×Int) (Tg:LI->TxS->LI) (k:ClS) (fee e kd am la:Int) (tg:LI) (of:Bool) (hA:A=ZB) (ht:k.t.All) (ha:k.a0<9223372036854775808) (hr:OfR Tg k 1 fee e kd am la tg of):
  evF (ZaS A Tg) 20 32 [.ptr (some ⟨0,0,0,0,0⟩),.int .i64 fee] ⟨1,[(0,.flat ((clD k 1).c++[.bool true]))]⟩ (Y6 1 (.ret (.tuple [.agg (sdN kd am tg).c,.int .i64 e])) 1 [(0,.flat ((clO (clD k 1) of la k.agrees k.fee).c++[.bool true]))]):=by
 refine @Eq.mpr _ (let f:=clD k 1;let l:=f.t;let q:=l.fund;let p:=l.index;let K:=l.cap;let J:=l.dust;let I:=l.fee;let H:=l.delay;let G:=l.k0;let o:=l.k1;let D:=Zi.mk q p K J I H G o;let b1:=[f.a0,f.a1];let d:=sdN kd am tg;let b0:=d.kind;let a9:=decide (0=b0);let C:=d.t;let B:=Z0=C.fund;let z:=Z0=C.k0;let y:=Z0=C.k1;let a8:=d.amount;let a7:=decide (0=a8);let x:=Z0=d.point;let w:=Z0=d.nxt;let v:=Z0=d.key;let u:=Z0=d.hash;let a6:=d.tag;let a5:=Z0=a6;let s:=Z0=d.secret;let r:=ByteArray.empty=d.route;let g:=clO f of la k.agrees k.fee;let j:=g.t;let a4:=q=j.fund;let a3:=decide (p=j.index);let a2:=decide (K=j.cap);let Z:=decide (J=j.dust);let Y:=decide (I=j.fee);let X:=decide (H=j.delay);let W:=G=j.k0;let V:=o=j.k1;let U:=b1=[g.a0,g.a1];let T:=decide (f.least=g.least);let S:=decide (f.most=g.most);let R:=g.offers;let Q:=g.last;let P:=Z6 (f.agrees=g.agrees) (Z6 (f.fee=g.fee) True);let O:=a4/\Z5 a3 (Z5 a2 (Z5 Z (Z5 Y (Z5 X (W/\V/\U/\Z5 T (Z5 S (Z6 (f.offers=R) (Z6 (f.last=Q) P))))))));let m:=InS.mk q p 1 Z0 Z0 Z0;
 Zi.Ok D/\
 ∃(a:Int),
 ∃(b:Int),
 let F:=clB A D a b fee;let E:=clL D a b fee;
 b1=[a,b]/\
 a<9223372036854775808/\
 (F=false->Z5 a9 (B/\z/\y/\Z5 a7 (x/\w/\v/\u/\a5/\s/\r/\Z6 (2=e) O)))/\
 (F=true->
 (E.length=0->Z5 a9 (B/\z/\y/\Z5 a7 (x/\w/\v/\u/\a5/\s/\r/\Z6 (180=e) O)))/\
 ∀(n:Nat) (L:List Zg),
 L=ZP E->
 n=L.length->
 n≠0->
 Z6 (0+n<=n) ((∀(i:Nat),i<n->true=true)/\
 ∃(t:TxS),
 (t.num=2147483647/\
 (((1:Nat)=1/\t.N=1)/\∀(i:Nat),i<1->YV [AV.arr u8 32 m.name,AV.int i64 m.index,AV.int i64 m.way,AV.arr u8 32 m.tag,AV.arr u8 32 m.also,AV.arr u8 32 m.secret] 0 130 i=InS.c (t.ins i))/\
 (n=n/\t.M=n)/\
 ∀(i:Nat),
 let h:=Yk L i;
 i<n->[AV.int i64 h.kind,AV.int i64 h.amount,AV.arr u8 32 h.owner,AV.arr u8 32 h.other,AV.arr u8 32 h.point,AV.arr u8 32 h.hash,AV.int i64 h.delay,AV.int i64 h.expiry]=Zp.c (t.outs i))/\
 (TxS.Ok t/\o.length=32/\Y5 A t=true)/\Z6 (13=b0) (B/\z/\y/\Z6 (fee=a8) (x/\w/\v/\u/\Tg o t=a6/\s/\r/\Z6 (0=e) (a4/\Z5 a3 (Z5 a2 (Z5 Z (Z5 Y (Z5 X (W/\V/\U/\Z5 T (Z5 S (Z6 (true=R) (Z6 (fee=Q) P)))))))))))))) (by kernel_rfl) ?_
 conv=>zeta
 try simp only [vcA]
 try simp only [vcB]
 try simp only [vcC]
 subst hA
 obtain ⟨he,go,no⟩:=hr
 refine ⟨ht.ok,k.a0,k.a1,rfl,ha,fun h1=> ?_,fun h1=>⟨fun h2=> ?_,fun n L hL hn hn0=> ?_⟩⟩
 ·have e2:e=2:=he.trans (Z4h (k:=k) h1)
  obtain ⟨rfl,rfl,rfl,rfl,rfl⟩:=no (by rw [e2];decide)
  and_intros<;>first|rfl|exact e2.symm
 ·have e2:e=180:=he.trans (QE (k:=k) h1 h2)
  obtain ⟨rfl,rfl,rfl,rfl,rfl⟩:=no (by rw [e2];decide)
  and_intros<;>first|rfl|exact e2.symm
 ·have e1:=QF (k:=k) h1 hL hn hn0
  have e2:e=0:=he.trans e1
  obtain ⟨rfl,rfl,rfl,rfl,rfl⟩:=go e2
  subst hn hL
  refine ⟨fun _ _=>trivial,txC k.t k.a0 k.a1 _,⟨rfl,⟨rfl,fun i hi=>Z2h _ i hi⟩,rfl,fun _ _=>rfl⟩,⟨Z0c ht.ok ht.fl,ht.ok.k1,Z0d e1⟩, ?_⟩
  and_intros<;>first|rfl|exact e2.symm
inductive XP (cs:List AV) (k:ClS):Prop
 | mk:cs=k.c++[.bool true]->XP cs k
structure XQ (k:ClS):Prop where
 t:k.t.All
 a:k.a0<9223372036854775808
 s:k.side=0\/k.side=1
theorem ZaT {k:ClS} (hk:XQ k) (fee:Int):(ZG k.t k.a0 k.a1 fee=0->Spec PP 32 [.ptr (some ⟨0,0,0,0,0⟩),.int .i64 fee] ⟨1,[(0,.flat (k.c++[.bool true]))]⟩ (.ret (.tuple [.agg (sdN 13 fee (Yh Zl k fee k.side)).c,.int .i64 0])) 1 [(0,.flat ((clO k true fee k.agrees k.fee).c++[.bool true]))])/\
  (ZG k.t k.a0 k.a1 fee≠0->Spec PP 32 [.ptr (some ⟨0,0,0,0,0⟩),.int .i64 fee] ⟨1,[(0,.flat (k.c++[.bool true]))]⟩ (.ret (.tuple [.agg (sdN 0 0 Z0).c,.int .i64 (ZG k.t k.a0 k.a1 fee)])) 1 [(0,.flat (k.c++[.bool true]))]):=by
 obtain ⟨ht,ha,hs⟩:=hk
 refine ⟨fun he=> ?_,fun he=> ?_⟩
 ·rw [Z4g he]
  rcases hs with hs|hs
  ·have hv:=Zdt ZB Zl k fee 0 13 fee fee (Zl (ZaR k.t 0) (txC k.t k.a0 k.a1 fee)) true rfl ht ha ⟨he.symm,fun _=>⟨rfl,rfl,rfl,rfl,rfl⟩,fun h=>absurd rfl h⟩
   rw [Vc hs] at hv
   rw [hs]
   exact .evM Up hv
  ·have hv:=Zdu ZB Zl k fee 0 13 fee fee (Zl (ZaR k.t 1) (txC k.t k.a0 k.a1 fee)) true rfl ht ha ⟨he.symm,fun _=>⟨rfl,rfl,rfl,rfl,rfl⟩,fun h=>absurd rfl h⟩
   rw [Vc hs] at hv
   rw [hs]
   exact .evM Up hv
 ·rcases hs with hs|hs
  ·have hv:=Zdt ZB Zl k fee (ZG k.t k.a0 k.a1 fee) 0 0 k.last Z0 k.offers rfl ht ha ⟨rfl,fun h=>absurd h he,fun _=>⟨rfl,rfl,rfl,rfl,rfl⟩⟩
   rw [Vc hs] at hv
   exact .evM Up hv
  ·have hv:=Zdu ZB Zl k fee (ZG k.t k.a0 k.a1 fee) 0 0 k.last Z0 k.offers rfl ht ha ⟨rfl,fun h=>absurd h he,fun _=>⟨rfl,rfl,rfl,rfl,rfl⟩⟩
   rw [Vc hs] at hv
   exact .evM Up hv
inductive QG (cs:List AV) (s:Zm):Prop
 | mk:cs=s.c->QG cs s
open Classical in
noncomputable def X5 (s:Zm):Bool:=decide (ZA s s.kind)
theorem U3 {s:Zm}:X5 s=true↔ZA s s.kind:=by unfold X5;simp
def ZcO (SB:Zm->Bool):ZJ:=fun args _ K=>match args with
 | [.agg cs]=>∃s,QG cs s/\s.Len/\(SB s=true->K (.int .i64 0))/\(SB s=false->K (.int .i64 2))
 | _=>False
structure HR where
 e:Int
 kd:Int
 am:Int
 tg:LI
 sy:Bool
 of:Bool
 la:Int
 ag:Bool
 fe:Int
def noR (k:ClS) (e:Int):HR:=⟨e,0,0,Z0,false,k.offers,k.last,k.agrees,k.fee⟩
def Yl (SB:Zm->Bool) (M:Int->Int->Int) (Tg:LI->TxS->LI) (k:ClS) (s:Zm):HR:=
 if SB s=false then noR k 2 else if s.kind≠13 then noR k 210 else if k.agrees=true then noR k 250
 else if ZG k.t k.a0 k.a1 s.amount≠0 then noR k (ZG k.t k.a0 k.a1 s.amount)
 else if Yh Tg k s.amount (1-k.side)≠s.tag then noR k 221
 else if k.offers=true/\k.last=s.amount then ⟨0,0,0,Z0,false,k.offers,k.last,true,s.amount⟩
 else if k.least<=s.amount/\s.amount<=k.most then ⟨0,13,s.amount,Yh Tg k s.amount k.side,true,true,s.amount,true,s.amount⟩
 else if k.offers=true/\Y4 M k s.amount=k.last then noR k 252
 else if ZG k.t k.a0 k.a1 (Y4 M k s.amount)≠0 then noR k (ZG k.t k.a0 k.a1 (Y4 M k s.amount))
 else ⟨0,13,Y4 M k s.amount,Yh Tg k (Y4 M k s.amount) k.side,true,true,Y4 M k s.amount,k.agrees,k.fee⟩
def h2E (Tg:LI->TxS->LI) (k:ClS) (s:Zm):Int:=if ZG k.t k.a0 k.a1 s.amount=0 then (if Yh Tg k s.amount (1-k.side)=s.tag then 0 else 221) else ZG k.t k.a0 k.a1 s.amount
theorem Z0e {k:ClS} {s:Zm} {m:Int} (h:ZG k.t k.a0 k.a1 s.amount=m) (hm:m≠0):h2E Tg k s=m:=by
 unfold h2E
 rw [h,if_neg hm]
theorem Z6L {k:ClS} {s:Zm} (h:ZG k.t k.a0 k.a1 s.amount=0):h2E Tg k s=if Yh Tg k s.amount (1-k.side)=s.tag then 0 else 221:=by
 unfold h2E
 rw [if_pos h]
theorem ZhJ (A:LI->Int×Int) (Tg:LI->TxS->LI) (k:ClS) (s:Zm) (e:Int) (hA:A=ZB) (ht:k.t.All) (ha:k.a0<9223372036854775808) (hl:s.Len) (hT:∀a t,(Tg a t).length=32) (he:e=h2E Tg (clD k 0) s):
  evF (ZaS A Tg) 20 37 [.ptr (some ⟨1,0,0,0,0⟩),.ptr (some ⟨2,0,0,0,0⟩)] ⟨3,[(0,.flat ((clD k 0).c++[.bool true])),(1,.flat [.ptr (some ⟨0,0,0,0,0⟩)]),(2,.flat s.c)]⟩ (Y6 3 (.ret (.int .i64 e)) 3 [(0,.flat ((clD k 0).c++[.bool true])),(1,.flat [.ptr (some ⟨0,0,0,0,0⟩)]),(2,.flat s.c)]):=by
 refine @Eq.mpr _ (let d:=clD k 0;let h:=d.t;let q:=h.fund;let m:=h.index;let y:=h.cap;let x:=h.dust;let w:=h.fee;let v:=h.delay;let u:=h.k0;let l:=h.k1;let B:=Zi.mk q m y x w v u l;let z:=[d.a0,d.a1];let r:=s.amount;let W:=d.least;let V:=d.most;let U:=d.offers;let T:=d.last;let S:=d.agrees;let R:=d.fee;let g:=s.t;let Q:=g.fund;let P:=g.index;let O:=g.cap;let K:=g.dust;let J:=g.fee;let I:=g.delay;let H:=g.k0;let G:=g.k1;let F:=s.reserve;let p:=s.tag;let E:=p=p;let o:=( q=q/\
 Z6 (m=m) (Z6 (y=y) (Z6 (x=x) (Z6 (w=w) (Z6 (v=v) (u=u/\l=l/\z=z/\Z6 (W=W) (Z6 (V=V) (Z6 (U=U) (Z6 (T=T) (Z6 (S=S) (Z6 (R=R) (Z6 (s.kind=s.kind) (Q=Q/\Z6 (P=P) (Z6 (O=O) (Z6 (K=K) (Z6 (J=J) (Z6 (I=I) (H=H/\G=G/\Z6 (F=F) (Z6 (r=r) (s.point=s.point/\s.nxt=s.nxt/\s.key=s.key/\s.hash=s.hash/\E/\s.secret=s.secret/\Z6 (s.id=s.id) (Z6 (s.number=s.number) (Z6 (s.index=s.index) (Z6 (s.expiry=s.expiry) (Z6 (s.code=s.code) (s.route=s.route/\True)))))))))))))))))))))))));let j:=InS.mk q m 1 Z0 Z0 Z0;
 Zi.Ok B/\
 ∃(a:Int),
 ∃(b:Int),
 let D:=clB A B a b r;let C:=clL B a b r;
 z=[a,b]/\
 a<9223372036854775808/\
 (D=false->Z6 (2=e) o)/\
 (D=true->
 (C.length=0->Z6 (180=e) o)/\
 ∀(n:Nat) (L:List Zg),
 L=ZP C->
 n=L.length->
 n≠0->
 Z6 (0+n<=n) ((∀(i:Nat),i<n->true=true)/\
 ∃(t:TxS),
 (t.num=2147483647/\
 (((1:Nat)=1/\t.N=1)/\∀(i:Nat),i<1->YV [AV.arr u8 32 j.name,AV.int i64 j.index,AV.int i64 j.way,AV.arr u8 32 j.tag,AV.arr u8 32 j.also,AV.arr u8 32 j.secret] 0 130 i=InS.c (t.ins i))/\
 (n=n/\t.M=n)/\
 ∀(i:Nat),
 let f:=Yk L i;
 i<n->[AV.int i64 f.kind,AV.int i64 f.amount,AV.arr u8 32 f.owner,AV.arr u8 32 f.other,AV.arr u8 32 f.point,AV.arr u8 32 f.hash,AV.int i64 f.delay,AV.int i64 f.expiry]=Zp.c (t.outs i))/\
 (TxS.Ok t/\l.length=32/\Y5 A t=true)/\E/\Z6 (List.length (Tg l t)=32/\p.length=32) (Z7 (Tg l t==p) (Z6 (0=e) o) (Z6 (221=e) o))))) (by kernel_rfl) ?_
 conv=>zeta
 try simp only [vcA]
 try simp only [vcB]
 try simp only [vcC]
 subst hA
 have hg:=fun (m:Int) (hm:h2E Tg (clD k 0) s=m)=>he.trans hm
 refine ⟨ht.ok,k.a0,k.a1,rfl,ha,fun h1=> ?_,fun h1=>⟨fun h2=> ?_,fun n L hL hn hn0=> ?_⟩⟩
 ·have e1:=Z4h (k:=k) h1
  have e2:=hg 2 (Z0e (k:=clD k 0) e1 (by decide))
  and_intros<;>first|rfl|exact e2.symm
 ·have e1:=QE (k:=k) h1 h2
  have e2:=hg 180 (Z0e (k:=clD k 0) e1 (by decide))
  and_intros<;>first|rfl|exact e2.symm
 ·have e1:=QF (k:=k) h1 hL hn hn0
  subst hn hL
  have hv:Yh Tg (clD k 0) s.amount (1-(clD k 0).side)=Tg k.t.k1 (txC k.t k.a0 k.a1 s.amount):=Z4g (k:=k) (sd:=1) e1
  refine ⟨fun _ _=>trivial,txC k.t k.a0 k.a1 s.amount,⟨rfl,⟨rfl,fun i hi=>Z2h _ i hi⟩,rfl,fun _ _=>rfl⟩,⟨Z0c ht.ok ht.fl,ht.ok.k1,Z0d e1⟩, ?_⟩
  have e2:=he.trans (Z6L (Tg:=Tg) (k:=clD k 0) e1)
  rw [hv] at e2
  refine ⟨⟨hT _ _,hl.h7⟩,fun h=> ?_,fun h=> ?_⟩
  ·have h:Tg k.t.k1 (txC k.t k.a0 k.a1 s.amount)=s.tag:=beq_iff_eq.1 h
   rw [if_pos h] at e2
   and_intros<;>first|rfl|exact e2.symm
  ·have h:¬Tg k.t.k1 (txC k.t k.a0 k.a1 s.amount)=s.tag:=beq_eq_false_iff_ne.1 h
   rw [if_neg h] at e2
   and_intros<;>first|rfl|exact e2.symm
theorem ZhK (A:LI->Int×Int) (Tg:LI->TxS->LI) (k:ClS) (s:Zm) (e:Int) (hA:A=ZB) (ht:k.t.All) (ha:k.a0<9223372036854775808) (hl:s.Len) (hT:∀a t,(Tg a t).length=32) (he:e=h2E Tg (clD k 1) s):
  evF (ZaS A Tg) 20 37 [.ptr (some ⟨1,0,0,0,0⟩),.ptr (some ⟨2,0,0,0,0⟩)] ⟨3,[(0,.flat ((clD k 1).c++[.bool true])),(1,.flat [.ptr (some ⟨0,0,0,0,0⟩)]),(2,.flat s.c)]⟩ (Y6 3 (.ret (.int .i64 e)) 3 [(0,.flat ((clD k 1).c++[.bool true])),(1,.flat [.ptr (some ⟨0,0,0,0,0⟩)]),(2,.flat s.c)]):=by
 refine @Eq.mpr _ (let d:=clD k 1;let h:=d.t;let q:=h.fund;let m:=h.index;let x:=h.cap;let w:=h.dust;let v:=h.fee;let u:=h.delay;let j:=h.k0;let B:=h.k1;let z:=Zi.mk q m x w v u j B;let y:=[d.a0,d.a1];let r:=s.amount;let W:=d.least;let V:=d.most;let U:=d.offers;let T:=d.last;let S:=d.agrees;let R:=d.fee;let g:=s.t;let Q:=g.fund;let P:=g.index;let O:=g.cap;let K:=g.dust;let J:=g.fee;let I:=g.delay;let H:=g.k0;let G:=g.k1;let F:=s.reserve;let p:=s.tag;let E:=p=p;let o:=( q=q/\
 Z6 (m=m) (Z6 (x=x) (Z6 (w=w) (Z6 (v=v) (Z6 (u=u) (j=j/\B=B/\y=y/\Z6 (W=W) (Z6 (V=V) (Z6 (U=U) (Z6 (T=T) (Z6 (S=S) (Z6 (R=R) (Z6 (s.kind=s.kind) (Q=Q/\Z6 (P=P) (Z6 (O=O) (Z6 (K=K) (Z6 (J=J) (Z6 (I=I) (H=H/\G=G/\Z6 (F=F) (Z6 (r=r) (s.point=s.point/\s.nxt=s.nxt/\s.key=s.key/\s.hash=s.hash/\E/\s.secret=s.secret/\Z6 (s.id=s.id) (Z6 (s.number=s.number) (Z6 (s.index=s.index) (Z6 (s.expiry=s.expiry) (Z6 (s.code=s.code) (s.route=s.route/\True)))))))))))))))))))))))));let l:=InS.mk q m 1 Z0 Z0 Z0;
 Zi.Ok z/\
 ∃(a:Int),
 ∃(b:Int),
 let D:=clB A z a b r;let C:=clL z a b r;
 y=[a,b]/\
 a<9223372036854775808/\
 (D=false->Z6 (2=e) o)/\
 (D=true->
 (C.length=0->Z6 (180=e) o)/\
 ∀(n:Nat) (L:List Zg),
 L=ZP C->
 n=L.length->
 n≠0->
 Z6 (0+n<=n) ((∀(i:Nat),i<n->true=true)/\
 ∃(t:TxS),
 (t.num=2147483647/\
 (((1:Nat)=1/\t.N=1)/\∀(i:Nat),i<1->YV [AV.arr u8 32 l.name,AV.int i64 l.index,AV.int i64 l.way,AV.arr u8 32 l.tag,AV.arr u8 32 l.also,AV.arr u8 32 l.secret] 0 130 i=InS.c (t.ins i))/\
 (n=n/\t.M=n)/\
 ∀(i:Nat),
 let f:=Yk L i;
 i<n->[AV.int i64 f.kind,AV.int i64 f.amount,AV.arr u8 32 f.owner,AV.arr u8 32 f.other,AV.arr u8 32 f.point,AV.arr u8 32 f.hash,AV.int i64 f.delay,AV.int i64 f.expiry]=Zp.c (t.outs i))/\
 (TxS.Ok t/\j.length=32/\Y5 A t=true)/\E/\Z6 (List.length (Tg j t)=32/\p.length=32) (Z7 (Tg j t==p) (Z6 (0=e) o) (Z6 (221=e) o))))) (by kernel_rfl) ?_
 conv=>zeta
 try simp only [vcA]
 try simp only [vcB]
 try simp only [vcC]
 subst hA
 have hg:=fun (m:Int) (hm:h2E Tg (clD k 1) s=m)=>he.trans hm
 refine ⟨ht.ok,k.a0,k.a1,rfl,ha,fun h1=> ?_,fun h1=>⟨fun h2=> ?_,fun n L hL hn hn0=> ?_⟩⟩
 ·have e1:=Z4h (k:=k) h1
  have e2:=hg 2 (Z0e (k:=clD k 1) e1 (by decide))
  and_intros<;>first|rfl|exact e2.symm
 ·have e1:=QE (k:=k) h1 h2
  have e2:=hg 180 (Z0e (k:=clD k 1) e1 (by decide))
  and_intros<;>first|rfl|exact e2.symm
 ·have e1:=QF (k:=k) h1 hL hn hn0
  subst hn hL
  have hv:Yh Tg (clD k 1) s.amount (1-(clD k 1).side)=Tg k.t.k0 (txC k.t k.a0 k.a1 s.amount):=Z4g (k:=k) (sd:=0) e1
  refine ⟨fun _ _=>trivial,txC k.t k.a0 k.a1 s.amount,⟨rfl,⟨rfl,fun i hi=>Z2h _ i hi⟩,rfl,fun _ _=>rfl⟩,⟨Z0c ht.ok ht.fl,ht.ok.k0,Z0d e1⟩, ?_⟩
  have e2:=he.trans (Z6L (Tg:=Tg) (k:=clD k 1) e1)
  rw [hv] at e2
  refine ⟨⟨hT _ _,hl.h7⟩,fun h=> ?_,fun h=> ?_⟩
  ·have h:Tg k.t.k0 (txC k.t k.a0 k.a1 s.amount)=s.tag:=beq_iff_eq.1 h
   rw [if_pos h] at e2
   and_intros<;>first|rfl|exact e2.symm
  ·have h:¬Tg k.t.k0 (txC k.t k.a0 k.a1 s.amount)=s.tag:=beq_eq_false_iff_ne.1 h
   rw [if_neg h] at e2
   and_intros<;>first|rfl|exact e2.symm
def h2S (Tg:LI->TxS->LI):Yb:=fun args h K=>match args with
 | [.ptr (some ⟨a,0,0,0,0⟩),.ptr (some ⟨b,0,0,0,0⟩)]=>match h.get a with
  | some (.flat [.ptr (some ⟨x,0,0,0,0⟩)])=>frA [x,a,b] h 40 args fun Bs aa=>match Bs,aa with
   | [.flat cs,.flat [.ptr (some ⟨0,0,0,0,0⟩)],.flat ss],[.ptr (some ⟨1,0,0,0,0⟩),.ptr (some ⟨2,0,0,0,0⟩)]=>∃k s,XP cs k/\QG ss s/\XQ k/\s.Len/\
    (ZG k.t k.a0 k.a1 s.amount=2->K (.ret (.int .i64 2)) ⟨h.next,(x,.flat cs)::(a,.flat [.ptr (some ⟨x,0,0,0,0⟩)])::(b,.flat ss)::Yu (Yu (Yu h.bs x) a) b⟩)/\
    (ZG k.t k.a0 k.a1 s.amount=180->K (.ret (.int .i64 180)) ⟨h.next,(x,.flat cs)::(a,.flat [.ptr (some ⟨x,0,0,0,0⟩)])::(b,.flat ss)::Yu (Yu (Yu h.bs x) a) b⟩)/\
    (ZG k.t k.a0 k.a1 s.amount=0->(Yh Tg k s.amount (1-k.side)≠s.tag->K (.ret (.int .i64 221)) ⟨h.next,(x,.flat cs)::(a,.flat [.ptr (some ⟨x,0,0,0,0⟩)])::(b,.flat ss)::Yu (Yu (Yu h.bs x) a) b⟩)/\
     (Yh Tg k s.amount (1-k.side)=s.tag->K (.ret (.int .i64 0)) ⟨h.next,(x,.flat cs)::(a,.flat [.ptr (some ⟨x,0,0,0,0⟩)])::(b,.flat ss)::Yu (Yu (Yu h.bs x) a) b⟩))
   | _,_=>False
  | _=>False
 | _=>False
theorem Z7J (t:Zi) (a b fee:Int):ZG t a b fee=2\/ZG t a b fee=180\/ZG t a b fee=0:=by
 unfold ZG
 split
 ·split
  ·exact .inr (.inl rfl)
  ·exact .inr (.inr rfl)
 ·exact .inl rfl
theorem ZcP {k:ClS} {s:Zm} (hk:XQ k) (hl:s.Len):Spec PP 37 [.ptr (some ⟨1,0,0,0,0⟩),.ptr (some ⟨2,0,0,0,0⟩)] ⟨3,[(0,.flat (k.c++[.bool true])),(1,.flat [.ptr (some ⟨0,0,0,0,0⟩)]),(2,.flat s.c)]⟩ (.ret (.int .i64 (h2E Zl k s))) 3 [(0,.flat (k.c++[.bool true])),(1,.flat [.ptr (some ⟨0,0,0,0,0⟩)]),(2,.flat s.c)]:=by
 obtain ⟨ht,ha,hs|hs⟩:=hk
 ·have hv:=ZhJ ZB Zl k s _ rfl ht ha hl Xf rfl
  rw [Vc hs] at hv
  exact .evM Up hv
 ·have hv:=ZhK ZB Zl k s _ rfl ht ha hl Xf rfl
  rw [Vc hs] at hv
  exact .evM Up hv
theorem ZeR (args:List AV) (h:Z9) (K:KO) (hl:h2S Zl args h K):Zh PP 37 args h K:=by
 unfold h2S at hl
 split at hl
 ·split at hl
  ·refine Spec.fsumm hl fun Bs a hlen hK0=> ?_
   split at hK0
   ·obtain ⟨k,s,⟨rfl⟩,⟨rfl⟩,hk,hs,k1,k2,k3⟩:=hK0
    refine ⟨_,_,_,_,_,ZcP hk hs,by simp,.ret _ _ rfl,.cons _ _ _ _ _ _ rfl (.flat _ _ rfl) (.cons _ _ _ _ _ _ rfl (.flat _ _ rfl) (.cons _ _ _ _ _ _ rfl (.flat _ _ rfl) .nil)), ?_⟩
    rcases Z7J k.t k.a0 k.a1 s.amount with e|e|e
    ·rw [Z0e e (by decide)];exact k1 e
    ·rw [Z0e e (by decide)];exact k2 e
    ·rw [Z6L e]
     split
     ·exact (k3 e).2 (by assumption)
     ·exact (k3 e).1 (by assumption)
   ·exact hK0.elim
  ·exact hl.elim
 ·exact hl.elim
def sdC (kd am:Int) (tg:LI):List AV:=[.int .i64 kd,.arr .u8 32 Z0,.int .i64 0,.int .i64 0,.int .i64 0,.int .i64 0,.int .i64 0,.arr .u8 32 Z0,.arr .u8 32 Z0,.int .i64 0,.int .i64 am,.arr .u8 32 Z0,.arr .u8 32 Z0,.arr .u8 32 Z0,.arr .u8 32 Z0,.arr .u8 32 tg,.arr .u8 32 Z0,.int .i64 0,.int .i64 0,.int .i64 0,.int .i64 0,.int .i64 0,.str ByteArray.empty]
def ZgM (cs:List AV) (fee:Int):List AV:=match cs with
 | [a,b,c,d,e,f,g,h,i,j,k,l,_,_,o,p,q]=>[a,b,c,d,e,f,g,h,i,j,k,l,.bool true,.int .i64 fee,o,p,q]
 | _=>[]
def ZcQ (Tg:LI->TxS->LI):Yb:=fun args h K=>match args with
 | [.ptr (some ⟨x,0,0,0,0⟩),_]=>frA [x] h 20 args fun Bs a=>match Bs,a with
  | [.flat cs],[.ptr (some ⟨0,0,0,0,0⟩),.int .i64 fee]=>∃k,XP cs k/\XQ k/\
   (ZG k.t k.a0 k.a1 fee=0->K (.ret (.tuple [.agg (sdC 13 fee (Yh Tg k fee k.side)),.int .i64 0])) ⟨h.next,(x,.flat (ZgM cs fee))::Yu h.bs x⟩)/\
   (ZG k.t k.a0 k.a1 fee=2->K (.ret (.tuple [.agg (sdC 0 0 Z0),.int .i64 2])) ⟨h.next,(x,.flat cs)::Yu h.bs x⟩)/\
   (ZG k.t k.a0 k.a1 fee=180->K (.ret (.tuple [.agg (sdC 0 0 Z0),.int .i64 180])) ⟨h.next,(x,.flat cs)::Yu h.bs x⟩)
  | _,_=>False
 | _=>False
theorem Z4i (args:List AV) (h:Z9) (K:KO) (hl:ZcQ Zl args h K):Zh PP 32 args h K:=by
 unfold ZcQ at hl
 split at hl
 ·refine Spec.fsumm hl fun Bs a hlen hK0=> ?_
  split at hK0
  ·rename_i cs fee
   obtain ⟨k,⟨rfl⟩,hk,h1,h2,h3⟩:=hK0
   have hs:=ZaT hk fee
   rcases Z7J k.t k.a0 k.a1 fee with e|e|e
   ·exact ⟨_,_,_,_,_,(hs.2 (by rw [e];decide)),by simp,.ret _ _ rfl,.cons _ _ _ _ _ _ rfl (.flat _ _ rfl) .nil,e▸h2 e⟩
   ·exact ⟨_,_,_,_,_,(hs.2 (by rw [e];decide)),by simp,.ret _ _ rfl,.cons _ _ _ _ _ _ rfl (.flat _ _ rfl) .nil,e▸h3 e⟩
   ·exact ⟨_,_,_,_,_,hs.1 e,by simp,.ret _ _ rfl,.cons _ _ _ _ _ _ rfl (.flat _ _ rfl) .nil,h1 e⟩
  ·exact hK0.elim
 ·exact hl.elim
def clP (k:ClS) (s:Int) (o g:Bool):ClS:=⟨k.t,s,k.a0,k.a1,k.least,k.most,o,k.last,g,k.fee⟩
def clT (k:ClS) (sd:Int) (o:Bool) (la:Int) (g:Bool) (fe:Int):List AV:=[.arr .u8 32 k.t.fund,.int .i64 k.t.index,.int .i64 k.t.cap,.int .i64 k.t.dust,.int .i64 k.t.fee,.int .i64 k.t.delay,.arr .u8 32 k.t.k0,.arr .u8 32 k.t.k1,.int .i64 sd,.arr .i64 2 [k.a0,k.a1],.int .i64 k.least,.int .i64 k.most,.bool o,.int .i64 la,.bool g,.int .i64 fe,.bool true]
theorem ndT {P:Prop} [Decidable P] (h:(!decide P)=true):¬P:=by simpa using h
theorem ndF {P:Prop} [Decidable P] (h:(!decide P)=false):P:=by simpa using h
structure HdC (SB:Zm->Bool) (k:ClS) (s:Zm):Prop where
 S:SB s=true
 K:s.kind=13
 A:k.agrees=false
structure HtC (SB:Zm->Bool) (Tg:LI->TxS->LI) (k:ClS) (s:Zm):Prop where
 h:HdC SB k s
 E:ZG k.t k.a0 k.a1 s.amount=0
 T:Yh Tg k s.amount (1-k.side)=s.tag
theorem Z4j {M:Int->Int->Int} {k:ClS} {s:Zm} (h:SB s=false):Yl SB M Tg k s=noR k 2:=by unfold Yl;rw [if_pos h]
theorem Z0Z {M:Int->Int->Int} {k:ClS} {s:Zm} (h:SB s=true) (h2:s.kind≠13):Yl SB M Tg k s=noR k 210:=by
 unfold Yl;rw [if_neg (by rw [h];decide),if_pos h2]
theorem ZcR {M:Int->Int->Int} {k:ClS} {s:Zm} (h:SB s=true) (h2:s.kind=13) (h3:k.agrees=true):Yl SB M Tg k s=noR k 250:=by
 unfold Yl;rw [if_neg (by rw [h];decide),if_neg (fun h=>h h2),if_pos h3]
theorem Z10 {M:Int->Int->Int} {k:ClS} {s:Zm} {m:Int} (h:HdC SB k s) (he:ZG k.t k.a0 k.a1 s.amount=m) (hm:m≠0):Yl SB M Tg k s=noR k m:=by
 unfold Yl;rw [if_neg (by rw [h.S];decide),if_neg (fun q=>q h.K),if_neg (by rw [h.A];decide),if_pos (by rw [he];exact hm),he]
theorem Z4k {M:Int->Int->Int} {k:ClS} {s:Zm} (h:HdC SB k s) (he:ZG k.t k.a0 k.a1 s.amount=0) (ht:Yh Tg k s.amount (1-k.side)≠s.tag):Yl SB M Tg k s=noR k 221:=by
 unfold Yl;rw [if_neg (by rw [h.S];decide),if_neg (fun q=>q h.K),if_neg (by rw [h.A];decide),if_neg (fun q=>q he),if_pos ht]
theorem Z4l {M:Int->Int->Int} {k:ClS} {s:Zm} (h:HtC SB Tg k s):Yl SB M Tg k s=if k.offers=true/\k.last=s.amount then ⟨0,0,0,Z0,false,k.offers,k.last,true,s.amount⟩
  else if k.least<=s.amount/\s.amount<=k.most then ⟨0,13,s.amount,Yh Tg k s.amount k.side,true,true,s.amount,true,s.amount⟩
  else if k.offers=true/\Y4 M k s.amount=k.last then noR k 252
  else if ZG k.t k.a0 k.a1 (Y4 M k s.amount)≠0 then noR k (ZG k.t k.a0 k.a1 (Y4 M k s.amount))
  else ⟨0,13,Y4 M k s.amount,Yh Tg k (Y4 M k s.amount) k.side,true,true,Y4 M k s.amount,k.agrees,k.fee⟩:=by
 obtain ⟨h,he,ht⟩:=h
 unfold Yl;rw [if_neg (by rw [h.S];decide),if_neg (fun q=>q h.K),if_neg (by rw [h.A];decide),if_neg (fun q=>q he),if_neg (fun q=>q ht)]
theorem Z5m {n a b:Int} (h:a<=b):a<=Xu n a b/\Xu n a b<=b:=by unfold Xu;omega
theorem Z5n {M:Int->Int->Int} {k:ClS} {x:Int} (h:k.least<=k.most):k.least<=Y4 M k x/\Y4 M k x<=k.most:=Z5m h
noncomputable def ZcS (SB:Zm->Bool) (M:Int->Int->Int) (Tg:LI->TxS->LI):Zf:=((((G0.withP 35 (ZcO SB)).withF 37 (h2S Tg)).withF 32 (ZcQ Tg)).withP 40 inQ).withP 41 (nxS M)
theorem ZhL (SB:Zm->Bool) (M:Int->Int->Int) (Tg:LI->TxS->LI) (k:ClS) (s:Zm) (sd e kd am:Int) (tg:LI) (sy of:Bool) (la:Int) (ag:Bool) (fe:Int) (hk:XO (clP k sd false false)) (ht:k.t.All) (hl:s.Len) (hSB:SB s=true->0<=s.amount/\s.amount<=1125899906842624) (hR:Yl SB M Tg (clP k sd false false) s=⟨e,kd,am,tg,sy,of,la,ag,fe⟩):
  evF (ZcS SB M Tg) 20 13 [.ptr (some ⟨0,0,0,0,0⟩),.agg s.c] ⟨1,[(0,.flat (clT k sd false k.last false k.fee))]⟩ (Y6 1 (.ret (.tuple [.agg (sdC kd am tg),.bool sy,.int .i64 e])) 1 [(0,.flat (clT k sd of la ag fe))]):=by
 refine @Eq.mpr _ (let d:=s.t;let a:=s.amount;let c:=k.t;let L:=c.fund;let q5:=AV.arr u8 32 L;let I:=c.index;let X:=AV.int i64 I;let H:=c.cap;let W:=AV.int i64 H;let V:=c.dust;let b6:=AV.int i64 V;let T:=c.fee;let b1:=AV.int i64 T;let R:=c.delay;let b0:=AV.int i64 R;let Q:=c.k0;let a9:=AV.arr u8 32 Q;let P:=c.k1;let a8:=AV.arr u8 32 P;let O:=[k.a0,k.a1];let a7:=AV.arr i64 2 O;let G:=k.least;let a6:=AV.int i64 G;let F:=k.most;let a5:=AV.int i64 F;let E:=AV.bool false;let a4:=AV.int i64 k.last;let a3:=AV.int i64 k.fee;let N:=[q5,X,W,b6,b1,b0,a9,a8,AV.int i64 sd,a7,a6,a5,E,a4,E,a3,AV.bool true];let D:=decide (0=kd);let C:=decide (0=am);let B:=decide (false=sy);let r:=L=L;let q:=decide (I=I);let p:=decide (H=H);let o:=decide (V=V);let n:=decide (T=T);let m:=decide (R=R);let l:=Q=Q;let j:=P=P;let i:=decide (sd=sd);let h:=O=O;let g:=decide (G=G);let f:=decide (F=F);let K:=Z6 (false=ag) (Z6 (k.fee=fe) True);let A:=r/\Z5 q (Z5 p (Z5 o (Z5 n (Z5 m (l/\j/\Z5 i (h/\Z5 g (Z5 f (Z6 (false=of) (Z6 (k.last=la) K)))))))));let z:=Z5 D (Z0=Z0/\Z0=Z0/\Z0=Z0/\Z5 C (Z0=Z0/\Z0=Z0/\Z0=Z0/\Z0=Z0/\Z0=tg/\Z0=Z0/\ByteArray.empty=ByteArray.empty/\Z5 B (Z6 (2=e) A)));let J:=Z5 D (Z0=Z0/\Z0=Z0/\Z0=Z0/\Z5 C (Z0=Z0/\Z0=Z0/\Z0=Z0/\Z0=Z0/\Z0=tg/\Z0=Z0/\ByteArray.empty=ByteArray.empty/\Z5 B (Z6 (180=e) A)));let y:=decide (13=kd);let x:=decide (true=sy);let w:=decide (0=e);let v:=decide (true=of);let a2:=decide (true=ag);let Z:=decide (a=am);let Y:=decide (a=la);
 ∃(s_1:Zm),
 let b5:=[AV.int i64 s.kind,AV.arr u8 32 d.fund,AV.int i64 d.index,AV.int i64 d.cap,AV.int i64 d.dust,AV.int i64 d.fee,AV.int i64 d.delay,AV.arr u8 32 d.k0,AV.arr u8 32 d.k1,AV.int i64 s.reserve,AV.int i64 a,AV.arr u8 32 s.point,AV.arr u8 32 s.nxt,AV.arr u8 32 s.key,AV.arr u8 32 s.hash,AV.arr u8 32 s.tag,AV.arr u8 32 s.secret,AV.int i64 s.id,AV.int i64 s.number,AV.int i64 s.index,AV.int i64 s.expiry,AV.int i64 s.code,AV.str s.route];
 QG b5 s_1/\
 Zm.Len s_1/\
 (SB s_1=true->
 Z7 (s.kind==13) (∃(k:ClS),
 ∃(s:Zm),
 let U:=ZG k.t k.a0 k.a1 s.amount;let b4:=Yh Tg k s.amount (1-k.side);
 XP N k/\
 QG b5 s/\
 XQ k/\
 Zm.Len s/\
 (U=2->z)/\
 (U=180->J)/\
 (U=0->
 (b4≠s.tag->Z5 D (Z0=Z0/\Z0=Z0/\Z0=Z0/\Z5 C (Z0=Z0/\Z0=Z0/\Z0=Z0/\Z0=Z0/\Z0=tg/\Z0=Z0/\ByteArray.empty=ByteArray.empty/\Z5 B (Z6 (221=e) A))))/\
 (b4=s.tag->
 Z7 (!decide (G<=a/\a<=F)) (∃(k:ClS),
 let b:=Y4 M k a;let u:=decide (b=am);let b3:=decide (b=la);
 Z5l [q5,X,W,b6,b1,b0,a9,a8,AV.int i64 sd,a7,a6,a5,E,a4,E,a3] k/\
 ((0<=k.last/\k.last<=1125899906842624)/\0<=a/\a<=1125899906842624)/\
 ∃(k:ClS),
 let S:=ZG k.t k.a0 k.a1 b;let b2:=Yh Tg k b k.side=tg;
 XP N k/\
 XQ k/\
 (S=0->Z7 (b==a) (Z5 y (Z0=Z0/\Z0=Z0/\Z0=Z0/\Z5 u (Z0=Z0/\Z0=Z0/\Z0=Z0/\Z0=Z0/\b2/\Z0=Z0/\ByteArray.empty=ByteArray.empty/\Z5 x (Z5 w (r/\Z5 q (Z5 p (Z5 o (Z5 n (Z5 m (l/\j/\Z5 i (h/\Z5 g (Z5 f (Z5 v (Z5 b3 (Z5 a2 (Z6 (b=fe) True)))))))))))))))) (Z5 y (Z0=Z0/\Z0=Z0/\Z0=Z0/\Z5 u (Z0=Z0/\Z0=Z0/\Z0=Z0/\Z0=Z0/\b2/\Z0=Z0/\ByteArray.empty=ByteArray.empty/\Z5 x (Z5 w (r/\Z5 q (Z5 p (Z5 o (Z5 n (Z5 m (l/\j/\Z5 i (h/\Z5 g (Z5 f (Z5 v (Z5 b3 K)))))))))))))))/\
 (S=2->z)/\(S=180->J)) (∃(k:ClS),
 let b:=ZG k.t k.a0 k.a1 a;let u:=Yh Tg k a k.side=tg;
 XP N k/\
 XQ k/\
 (b=0->Z7 (a==a) (Z5 y (Z0=Z0/\Z0=Z0/\Z0=Z0/\Z5 Z (Z0=Z0/\Z0=Z0/\Z0=Z0/\Z0=Z0/\u/\Z0=Z0/\ByteArray.empty=ByteArray.empty/\Z5 x (Z5 w (r/\Z5 q (Z5 p (Z5 o (Z5 n (Z5 m (l/\j/\Z5 i (h/\Z5 g (Z5 f (Z5 v (Z5 Y (Z5 a2 (Z6 (a=fe) True)))))))))))))))) (Z5 y (Z0=Z0/\Z0=Z0/\Z0=Z0/\Z5 Z (Z0=Z0/\Z0=Z0/\Z0=Z0/\Z0=Z0/\u/\Z0=Z0/\ByteArray.empty=ByteArray.empty/\Z5 x (Z5 w (r/\Z5 q (Z5 p (Z5 o (Z5 n (Z5 m (l/\j/\Z5 i (h/\Z5 g (Z5 f (Z5 v (Z5 Y K)))))))))))))))/\
 (b=2->z)/\(b=180->J))))) (Z5 D (Z0=Z0/\Z0=Z0/\Z0=Z0/\Z5 C (Z0=Z0/\Z0=Z0/\Z0=Z0/\Z0=Z0/\Z0=tg/\Z0=Z0/\ByteArray.empty=ByteArray.empty/\Z5 B (Z6 (210=e) A)))))/\
 (SB s_1=false->z)) (by kernel_rfl) ?_
 conv=>zeta
 try simp only [vcA]
 try simp only [vcB]
 try simp only [vcC]
 have hm:=hk.made
 have hd:=XD hm.t
 have hfe:=hk.fee_le
 have q3:=hm.a1
 have q4:=hm.sum
 have q5:=hm.lm
 have hlast:0<=(clP k sd false false).last/\(clP k sd false false).last<=1125899906842624:=by omega
 have hOff:XQ (clP k sd false false):=⟨ht,by omega,hm.side⟩
 have hnx:=fun x=>Z5n (M:=M) (x:=x) hm.lm
 refine ⟨s,⟨rfl⟩,hl,fun hS=>⟨fun hK=> ?_,fun hK=> ?_⟩,fun hS=> ?_⟩
 rotate_left
 ·cases hR.symm.trans (Z0Z hS (beq_eq_false_iff_ne.1 hK))
  and_intros<;>rfl
 ·cases hR.symm.trans (Z4j hS)
  and_intros<;>rfl
 have hd:HdC SB (clP k sd false false) s:=⟨hS,beq_iff_eq.1 hK,rfl⟩
 refine ⟨(clP k sd false false),s,⟨rfl⟩,⟨rfl⟩,hOff,hl,fun hE=> ?_,fun hE=> ?_,fun hE=>⟨fun hT=> ?_,fun hT=> ?_⟩⟩
 ·cases hR.symm.trans (Z10 hd hE (by decide))
  and_intros<;>rfl
 ·cases hR.symm.trans (Z10 hd hE (by decide))
  and_intros<;>rfl
 ·cases hR.symm.trans (Z4k hd hE hT)
  and_intros<;>rfl
 have hx:=hR.symm.trans (Z4l ⟨hd,hE,hT⟩)
 have hno:¬((clP k sd false false).offers=true/\(clP k sd false false).last=s.amount):=fun h=>nomatch h.1
 refine ⟨fun hi=> ?_,fun hi=> ?_⟩
 ·have hi:¬((clP k sd false false).least<=s.amount/\s.amount<=(clP k sd false false).most):=ndT hi
  rw [if_neg hno,if_neg hi] at hx
  have hq2:¬((clP k sd false false).offers=true/\Y4 M (clP k sd false false) s.amount=(clP k sd false false).last):=fun h=>nomatch h.1
  refine ⟨(clP k sd false false),⟨rfl⟩,⟨hlast,hSB hS⟩,(clP k sd false false),⟨rfl⟩,hOff,fun hN=>⟨fun hq=> ?_,fun _=> ?_⟩,fun hN=> ?_,fun hN=> ?_⟩
  ·have:=hnx s.amount
   rw [beq_iff_eq.1 hq] at this
   exact absurd this hi
  ·rw [if_neg hq2,if_neg (fun q=>q hN)] at hx
   cases hx
   and_intros<;>rfl
  ·rw [if_neg hq2,if_pos (by rw [hN];decide),hN] at hx
   cases hx
   and_intros<;>rfl
  ·rw [if_neg hq2,if_pos (by rw [hN];decide),hN] at hx
   cases hx
   and_intros<;>rfl
 ·have hi:(clP k sd false false).least<=s.amount/\s.amount<=(clP k sd false false).most:=ndF hi
  rw [if_neg hno,if_pos hi] at hx
  refine ⟨(clP k sd false false),⟨rfl⟩,hOff,fun hN=>⟨fun _=> ?_,fun hq=> ?_⟩,fun hN=> ?_,fun hN=> ?_⟩
  ·cases hx
   and_intros<;>rfl
  ·exact absurd rfl (beq_eq_false_iff_ne.1 hq)
  ·exact absurd (hE.symm.trans hN) (by decide)
  ·exact absurd (hE.symm.trans hN) (by decide)
theorem ZhM (SB:Zm->Bool) (M:Int->Int->Int) (Tg:LI->TxS->LI) (k:ClS) (s:Zm) (sd e kd am:Int) (tg:LI) (sy of:Bool) (la:Int) (ag:Bool) (fe:Int) (hk:XO (clP k sd true false)) (ht:k.t.All) (hl:s.Len) (hSB:SB s=true->0<=s.amount/\s.amount<=1125899906842624) (hR:Yl SB M Tg (clP k sd true false) s=⟨e,kd,am,tg,sy,of,la,ag,fe⟩):
  evF (ZcS SB M Tg) 20 13 [.ptr (some ⟨0,0,0,0,0⟩),.agg s.c] ⟨1,[(0,.flat (clT k sd true k.last false k.fee))]⟩ (Y6 1 (.ret (.tuple [.agg (sdC kd am tg),.bool sy,.int .i64 e])) 1 [(0,.flat (clT k sd of la ag fe))]):=by
 refine @Eq.mpr _ (let d:=s.t;let a:=s.amount;let c:=k.t;let L:=c.fund;let q5:=AV.arr u8 32 L;let I:=c.index;let Y:=AV.int i64 I;let H:=c.cap;let X:=AV.int i64 H;let W:=c.dust;let b9:=AV.int i64 W;let U:=c.fee;let b5:=AV.int i64 U;let S:=c.delay;let b3:=AV.int i64 S;let R:=c.k0;let b2:=AV.arr u8 32 R;let Q:=c.k1;let b1:=AV.arr u8 32 Q;let P:=[k.a0,k.a1];let b0:=AV.arr i64 2 P;let G:=k.least;let a9:=AV.int i64 G;let F:=k.most;let a8:=AV.int i64 F;let O:=AV.bool true;let E:=k.last;let a7:=AV.int i64 E;let a6:=AV.int i64 k.fee;let N:=[q5,Y,X,b9,b5,b3,b2,b1,AV.int i64 sd,b0,a9,a8,O,a7,AV.bool false,a6,O];let x:=decide (0=kd);let w:=decide (0=am);let v:=decide (false=sy);let u:=L=L;let r:=decide (I=I);let q:=decide (H=H);let p:=decide (W=W);let o:=decide (U=U);let n:=decide (S=S);let m:=R=R;let l:=Q=Q;let j:=decide (sd=sd);let i:=P=P;let h:=decide (G=G);let g:=decide (F=F);let f:=decide (true=of);let a5:=decide (E=la);let K:=Z6 (false=ag) (Z6 (k.fee=fe) True);let z:=u/\Z5 r (Z5 q (Z5 p (Z5 o (Z5 n (m/\l/\Z5 j (i/\Z5 h (Z5 g (Z5 f (Z5 a5 K)))))))));let D:=Z5 x (Z0=Z0/\Z0=Z0/\Z0=Z0/\Z5 w (Z0=Z0/\Z0=Z0/\Z0=Z0/\Z0=Z0/\Z0=tg/\Z0=Z0/\ByteArray.empty=ByteArray.empty/\Z5 v (Z6 (2=e) z)));let J:=Z5 x (Z0=Z0/\Z0=Z0/\Z0=Z0/\Z5 w (Z0=Z0/\Z0=Z0/\Z0=Z0/\Z0=Z0/\Z0=tg/\Z0=Z0/\ByteArray.empty=ByteArray.empty/\Z5 v (Z6 (180=e) z)));let y:=decide (0=e);let a4:=decide (true=ag);let a3:=Z5 a4 (Z6 (a=fe) True);let C:=decide (13=kd);let B:=decide (true=sy);let a2:=decide (a=am);let Z:=decide (a=la);
 ∃(s_1:Zm),
 let b8:=[AV.int i64 s.kind,AV.arr u8 32 d.fund,AV.int i64 d.index,AV.int i64 d.cap,AV.int i64 d.dust,AV.int i64 d.fee,AV.int i64 d.delay,AV.arr u8 32 d.k0,AV.arr u8 32 d.k1,AV.int i64 s.reserve,AV.int i64 a,AV.arr u8 32 s.point,AV.arr u8 32 s.nxt,AV.arr u8 32 s.key,AV.arr u8 32 s.hash,AV.arr u8 32 s.tag,AV.arr u8 32 s.secret,AV.int i64 s.id,AV.int i64 s.number,AV.int i64 s.index,AV.int i64 s.expiry,AV.int i64 s.code,AV.str s.route];
 QG b8 s_1/\
 Zm.Len s_1/\
 (SB s_1=true->
 Z7 (s.kind==13) (∃(k:ClS),
 ∃(s:Zm),
 let V:=ZG k.t k.a0 k.a1 s.amount;let b7:=Yh Tg k s.amount (1-k.side);
 XP N k/\
 QG b8 s/\
 XQ k/\
 Zm.Len s/\
 (V=2->D)/\
 (V=180->J)/\
 (V=0->
 (b7≠s.tag->Z5 x (Z0=Z0/\Z0=Z0/\Z0=Z0/\Z5 w (Z0=Z0/\Z0=Z0/\Z0=Z0/\Z0=Z0/\Z0=tg/\Z0=Z0/\ByteArray.empty=ByteArray.empty/\Z5 v (Z6 (221=e) z))))/\
 (b7=s.tag->
 Z7 (E==a) (Z5 x (Z0=Z0/\Z0=Z0/\Z0=Z0/\Z5 w (Z0=Z0/\Z0=Z0/\Z0=Z0/\Z0=Z0/\Z0=tg/\Z0=Z0/\ByteArray.empty=ByteArray.empty/\Z5 v (Z5 y (u/\Z5 r (Z5 q (Z5 p (Z5 o (Z5 n (m/\l/\Z5 j (i/\Z5 h (Z5 g (Z5 f (Z5 a5 a3)))))))))))))) (Z7 (!decide (G<=a/\a<=F)) (∃(k:ClS),
 let b:=Y4 M k a;let A:=decide (b=am);let b6:=decide (b=la);
 Z5l [q5,Y,X,b9,b5,b3,b2,b1,AV.int i64 sd,b0,a9,a8,O,a7,AV.bool false,a6] k/\
 ((0<=k.last/\k.last<=1125899906842624)/\0<=a/\a<=1125899906842624)/\
 Z7 (b==E) (Z5 x (Z0=Z0/\Z0=Z0/\Z0=Z0/\Z5 w (Z0=Z0/\Z0=Z0/\Z0=Z0/\Z0=Z0/\Z0=tg/\Z0=Z0/\ByteArray.empty=ByteArray.empty/\Z5 v (Z6 (252=e) z)))) (∃(k:ClS),
 let T:=ZG k.t k.a0 k.a1 b;let b4:=Yh Tg k b k.side=tg;
 XP N k/\
 XQ k/\
 (T=0->Z7 (b==a) (Z5 C (Z0=Z0/\Z0=Z0/\Z0=Z0/\Z5 A (Z0=Z0/\Z0=Z0/\Z0=Z0/\Z0=Z0/\b4/\Z0=Z0/\ByteArray.empty=ByteArray.empty/\Z5 B (Z5 y (u/\Z5 r (Z5 q (Z5 p (Z5 o (Z5 n (m/\l/\Z5 j (i/\Z5 h (Z5 g (Z5 f (Z5 b6 (Z5 a4 (Z6 (b=fe) True)))))))))))))))) (Z5 C (Z0=Z0/\Z0=Z0/\Z0=Z0/\Z5 A (Z0=Z0/\Z0=Z0/\Z0=Z0/\Z0=Z0/\b4/\Z0=Z0/\ByteArray.empty=ByteArray.empty/\Z5 B (Z5 y (u/\Z5 r (Z5 q (Z5 p (Z5 o (Z5 n (m/\l/\Z5 j (i/\Z5 h (Z5 g (Z5 f (Z5 b6 K)))))))))))))))/\
 (T=2->D)/\(T=180->J))) (∃(k:ClS),
 let b:=ZG k.t k.a0 k.a1 a;let A:=Yh Tg k a k.side=tg;
 XP N k/\
 XQ k/\(b=0->Z7 (a==a) (Z5 C (Z0=Z0/\Z0=Z0/\Z0=Z0/\Z5 a2 (Z0=Z0/\Z0=Z0/\Z0=Z0/\Z0=Z0/\A/\Z0=Z0/\ByteArray.empty=ByteArray.empty/\Z5 B (Z5 y (u/\Z5 r (Z5 q (Z5 p (Z5 o (Z5 n (m/\l/\Z5 j (i/\Z5 h (Z5 g (Z5 f (Z5 Z a3)))))))))))))) (Z5 C (Z0=Z0/\Z0=Z0/\Z0=Z0/\Z5 a2 (Z0=Z0/\Z0=Z0/\Z0=Z0/\Z0=Z0/\A/\Z0=Z0/\ByteArray.empty=ByteArray.empty/\Z5 B (Z5 y (u/\Z5 r (Z5 q (Z5 p (Z5 o (Z5 n (m/\l/\Z5 j (i/\Z5 h (Z5 g (Z5 f (Z5 Z K)))))))))))))))/\(b=2->D)/\(b=180->J)))))) (Z5 x (Z0=Z0/\Z0=Z0/\Z0=Z0/\Z5 w (Z0=Z0/\Z0=Z0/\Z0=Z0/\Z0=Z0/\Z0=tg/\Z0=Z0/\ByteArray.empty=ByteArray.empty/\Z5 v (Z6 (210=e) z)))))/\
 (SB s_1=false->D)) (by kernel_rfl) ?_
 conv=>zeta
 try simp only [vcA]
 try simp only [vcB]
 try simp only [vcC]
 have hm:=hk.made
 have hd:=XD hm.t
 have hfe:=hk.fee_le
 have q3:=hm.a1
 have q4:=hm.sum
 have q5:=hm.lm
 have hlast:0<=(clP k sd true false).last/\(clP k sd true false).last<=1125899906842624:=by omega
 have hOff:XQ (clP k sd true false):=⟨ht,by omega,hm.side⟩
 have hnx:=fun x=>Z5n (M:=M) (x:=x) hm.lm
 refine ⟨s,⟨rfl⟩,hl,fun hS=>⟨fun hK=> ?_,fun hK=> ?_⟩,fun hS=> ?_⟩
 rotate_left
 ·cases hR.symm.trans (Z0Z hS (beq_eq_false_iff_ne.1 hK))
  and_intros<;>rfl
 ·cases hR.symm.trans (Z4j hS)
  and_intros<;>rfl
 have hd:HdC SB (clP k sd true false) s:=⟨hS,beq_iff_eq.1 hK,rfl⟩
 refine ⟨(clP k sd true false),s,⟨rfl⟩,⟨rfl⟩,hOff,hl,fun hE=> ?_,fun hE=> ?_,fun hE=>⟨fun hT=> ?_,fun hT=> ?_⟩⟩
 ·cases hR.symm.trans (Z10 hd hE (by decide))
  and_intros<;>rfl
 ·cases hR.symm.trans (Z10 hd hE (by decide))
  and_intros<;>rfl
 ·cases hR.symm.trans (Z4k hd hE hT)
  and_intros<;>rfl
 have hx:=hR.symm.trans (Z4l ⟨hd,hE,hT⟩)
 refine ⟨fun hlt=> ?_,fun hlt=> ?_⟩
 ·rw [if_pos (⟨rfl,beq_iff_eq.1 hlt⟩:(clP k sd true false).offers=true/\(clP k sd true false).last=s.amount)] at hx
  cases hx
  and_intros<;>rfl
 have hno:¬((clP k sd true false).offers=true/\(clP k sd true false).last=s.amount):=fun h=>beq_eq_false_iff_ne.1 hlt h.2
 refine ⟨fun hi=> ?_,fun hi=> ?_⟩
 ·have hi:¬((clP k sd true false).least<=s.amount/\s.amount<=(clP k sd true false).most):=ndT hi
  rw [if_neg hno,if_neg hi] at hx
  refine ⟨(clP k sd true false),⟨rfl⟩,⟨hlast,hSB hS⟩,fun ha=> ?_,fun ha=> ?_⟩
  ·rw [if_pos (⟨rfl,beq_iff_eq.1 ha⟩:(clP k sd true false).offers=true/\Y4 M (clP k sd true false) s.amount=(clP k sd true false).last)] at hx
   cases hx
   and_intros<;>rfl
  have hq2:¬((clP k sd true false).offers=true/\Y4 M (clP k sd true false) s.amount=(clP k sd true false).last):=fun h=>beq_eq_false_iff_ne.1 ha h.2
  refine ⟨(clP k sd true false),⟨rfl⟩,hOff,fun hN=>⟨fun hq=> ?_,fun _=> ?_⟩,fun hN=> ?_,fun hN=> ?_⟩
  ·have:=hnx s.amount
   rw [beq_iff_eq.1 hq] at this
   exact absurd this hi
  ·rw [if_neg hq2,if_neg (fun q=>q hN)] at hx
   cases hx
   and_intros<;>rfl
  ·rw [if_neg hq2,if_pos (by rw [hN];decide),hN] at hx
   cases hx
   and_intros<;>rfl
  ·rw [if_neg hq2,if_pos (by rw [hN];decide),hN] at hx
   cases hx
   and_intros<;>rfl
 ·have hi:(clP k sd true false).least<=s.amount/\s.amount<=(clP k sd true false).most:=ndF hi
  rw [if_neg hno,if_pos hi] at hx
  refine ⟨(clP k sd true false),⟨rfl⟩,hOff,fun hN=>⟨fun _=> ?_,fun hq=> ?_⟩,fun hN=> ?_,fun hN=> ?_⟩
  ·cases hx
   and_intros<;>rfl
  ·exact absurd rfl (beq_eq_false_iff_ne.1 hq)
  ·exact absurd (hE.symm.trans hN) (by decide)
  ·exact absurd (hE.symm.trans hN) (by decide)
theorem ZhN (SB:Zm->Bool) (M:Int->Int->Int) (Tg:LI->TxS->LI) (k:ClS) (s:Zm) (sd e kd am:Int) (of0:Bool) (tg:LI) (sy of:Bool) (la:Int) (ag:Bool) (fe:Int) (hl:s.Len) (hR:Yl SB M Tg (clP k sd of0 true) s=⟨e,kd,am,tg,sy,of,la,ag,fe⟩):
  evF (ZcS SB M Tg) 20 13 [.ptr (some ⟨0,0,0,0,0⟩),.agg s.c] ⟨1,[(0,.flat (clT k sd of0 k.last true k.fee))]⟩ (Y6 1 (.ret (.tuple [.agg (sdC kd am tg),.bool sy,.int .i64 e])) 1 [(0,.flat (clT k sd of la ag fe))]):=by
 refine @Eq.mpr _ (let b:=s.t;let f:=decide (0=kd);let d:=decide (0=am);let c:=decide (false=sy);let a:=k.t;let l:=a.fund;let j:=a.index;let i:=a.cap;let h:=a.dust;let q:=a.fee;let p:=a.delay;let o:=a.k0;let n:=a.k1;let m:=[k.a0,k.a1];let g:=l=l/\Z6 (j=j) (Z6 (i=i) (Z6 (h=h) (Z6 (q=q) (Z6 (p=p) (o=o/\n=n/\Z6 (sd=sd) (m=m/\Z6 (k.least=k.least) (Z6 (k.most=k.most) (Z6 (of0=of) (Z6 (k.last=la) (Z6 (true=ag) (Z6 (k.fee=fe) True)))))))))));
 ∃(s_1:Zm),
 QG [AV.int i64 s.kind,AV.arr u8 32 b.fund,AV.int i64 b.index,AV.int i64 b.cap,AV.int i64 b.dust,AV.int i64 b.fee,AV.int i64 b.delay,AV.arr u8 32 b.k0,AV.arr u8 32 b.k1,AV.int i64 s.reserve,AV.int i64 s.amount,AV.arr u8 32 s.point,AV.arr u8 32 s.nxt,AV.arr u8 32 s.key,AV.arr u8 32 s.hash,AV.arr u8 32 s.tag,AV.arr u8 32 s.secret,AV.int i64 s.id,AV.int i64 s.number,AV.int i64 s.index,AV.int i64 s.expiry,AV.int i64 s.code,AV.str s.route] s_1/\
 Zm.Len s_1/\(SB s_1=true->Z7 (s.kind==13) (Z5 f (Z0=Z0/\Z0=Z0/\Z0=Z0/\Z5 d (Z0=Z0/\Z0=Z0/\Z0=Z0/\Z0=Z0/\Z0=tg/\Z0=Z0/\ByteArray.empty=ByteArray.empty/\Z5 c (Z6 (250=e) g)))) (Z5 f (Z0=Z0/\Z0=Z0/\Z0=Z0/\Z5 d (Z0=Z0/\Z0=Z0/\Z0=Z0/\Z0=Z0/\Z0=tg/\Z0=Z0/\ByteArray.empty=ByteArray.empty/\Z5 c (Z6 (210=e) g)))))/\(SB s_1=false->Z5 f (Z0=Z0/\Z0=Z0/\Z0=Z0/\Z5 d (Z0=Z0/\Z0=Z0/\Z0=Z0/\Z0=Z0/\Z0=tg/\Z0=Z0/\ByteArray.empty=ByteArray.empty/\Z5 c (Z6 (2=e) g))))) (by kernel_rfl) ?_
 conv=>zeta
 try simp only [vcA]
 try simp only [vcB]
 try simp only [vcC]
 refine ⟨s,⟨rfl⟩,hl,fun hS=>⟨fun hK=> ?_,fun hK=> ?_⟩,fun hS=> ?_⟩
 ·cases hR.symm.trans (ZcR hS (beq_iff_eq.1 hK) rfl)
  and_intros<;>rfl
 ·cases hR.symm.trans (Z0Z hS (beq_eq_false_iff_ne.1 hK))
  and_intros<;>rfl
 ·cases hR.symm.trans (Z4j hS)
  and_intros<;>rfl
theorem Z0f {k:ClS} {s:Zm} (hc:∀args h K,ZcO SB args h K->Zh PP 35 args h fun o h'=>∃v,o=.ret v/\h'=h/\K v) (hk:XO k) (ht:k.t.All) (hl:s.Len) (hSB:SB s=true->0<=s.amount/\s.amount<=1125899906842624) {r:HR} (hR:Yl SB Y9 Zl k s=r):
  Spec PP 13 [.ptr (some ⟨0,0,0,0,0⟩),.agg s.c] ⟨1,[(0,.flat (clT k k.side k.offers k.last k.agrees k.fee))]⟩ (.ret (.tuple [.agg (sdC r.kd r.am r.tg),.bool r.sy,.int .i64 r.e])) 1 [(0,.flat (clT k k.side r.of r.la r.ag r.fe))]:=by
 have hE:(ZcS SB Y9 Zl).Ok:=Zf.withP_ok (Zf.withP_ok (Zf.withF_ok (Zf.withF_ok (Zf.withP_ok Zu hc) ZeR) Z4i) ZeP) ZeO
 obtain ⟨e,kd,am,tg,sy,of,la,ag,fe⟩:=r
 obtain ⟨t,sd,a0,a1,le,mo,o0,l0,g0,f0⟩:=k
 cases g0 with
 | true=>exact .evM hE (ZhN SB Y9 Zl ⟨t,sd,a0,a1,le,mo,o0,l0,true,f0⟩ s sd e kd am o0 tg sy of la ag fe hl hR)
 | false=>cases o0 with
  | true=>exact .evM hE (ZhM SB Y9 Zl ⟨t,sd,a0,a1,le,mo,true,l0,false,f0⟩ s sd e kd am tg sy of la ag fe hk ht hl hSB hR)
  | false=>exact .evM hE (ZhL SB Y9 Zl ⟨t,sd,a0,a1,le,mo,false,l0,false,f0⟩ s sd e kd am tg sy of la ag fe hk ht hl hSB hR)
structure RwC (k:ClS):Prop where
 n:Zds 4611686018427387904 k
 f:k.t.fund.length=32
 h0:k.t.k0.length=32
 h1:k.t.k1.length=32
def k0C (t:Zi) (sd a b lo hi:Int):ClS:=⟨t,sd,a,b,lo,hi,false,0,false,0⟩
noncomputable def ZeS (A:LI->Int×Int):Zf:=G0.withP 30 (ZgJ A)
theorem ZhO (A:LI->Int×Int) (t:Zi) (sd a b lo hi:Int) (ht:t.Ok) (hm:Yt A (k0C t sd a b lo hi)=true):
  evF (ZeS A) 20 9 [.agg t.c,.int .i64 sd,.agg [.arr .i64 2 [a,b]],.int .i64 lo,.int .i64 hi] ⟨0,[]⟩ (clK true (k0C t sd a b lo hi)):=by
 refine @Eq.mpr _ (let e:=[a,b];let d:=k0C t sd a b lo hi;let c:=d.t;
 ∃(k:ClS),Z5l [AV.arr u8 32 t.fund,AV.int i64 t.index,AV.int i64 t.cap,AV.int i64 t.dust,AV.int i64 t.fee,AV.int i64 t.delay,AV.arr u8 32 t.k0,AV.arr u8 32 t.k1,AV.int i64 sd,AV.arr i64 2 e,AV.int i64 lo,AV.int i64 hi,AV.bool false,AV.int i64 0,AV.bool false,AV.int i64 0] k/\Zi.Ok k.t/\Z7 (!Yt A k) False (t.fund=c.fund/\Z6 (t.index=c.index) (Z6 (t.cap=c.cap) (Z6 (t.dust=c.dust) (Z6 (t.fee=c.fee) (Z6 (t.delay=c.delay) (t.k0=c.k0/\t.k1=c.k1/\Z6 (sd=d.side) (e=[d.a0,d.a1]/\Z6 (lo=d.least) (Z6 (hi=d.most) True))))))))) (by kernel_rfl) ?_
 conv=>zeta
 try simp only [vcA]
 try simp only [vcB]
 try simp only [vcC]
 refine ⟨k0C t sd a b lo hi,⟨rfl⟩,ht,by rw [hm];rfl, ?_⟩
 and_intros<;>rfl
theorem ZhP (A:LI->Int×Int) (t:Zi) (sd a b lo hi:Int) (ht:t.Ok) (hm:Yt A (k0C t sd a b lo hi)=false):
  evF (ZeS A) 20 9 [.agg t.c,.int .i64 sd,.agg [.arr .i64 2 [a,b]],.int .i64 lo,.int .i64 hi] ⟨0,[]⟩ (Y6 0 (.ret (.tuple [.ptr none,.int .i64 2])) 0 []):=by
 refine @Eq.mpr _ (∃(k:ClS),Z5l [AV.arr u8 32 t.fund,AV.int i64 t.index,AV.int i64 t.cap,AV.int i64 t.dust,AV.int i64 t.fee,AV.int i64 t.delay,AV.arr u8 32 t.k0,AV.arr u8 32 t.k1,AV.int i64 sd,AV.arr i64 2 [a,b],AV.int i64 lo,AV.int i64 hi,AV.bool false,AV.int i64 0,AV.bool false,AV.int i64 0] k/\Zi.Ok k.t/\Z5 (!Yt A k) True) (by kernel_rfl) ?_
 try simp only [vcA]
 try simp only [vcB]
 try simp only [vcC]
 refine ⟨k0C t sd a b lo hi,⟨rfl⟩,ht, ?_⟩
 rw [hm];rfl
inductive Z4m (cs:List AV) (t:Zi):Prop
 | mk:cs=t.c->Z4m cs t
def Zdv (A:LI->Int×Int):Yb:=fun args h K=>ZD none h true 40 args fun x=>match x with
 | [.agg cs,.int .i64 sd,.agg [.arr .i64 2 ab],.int .i64 lo,.int .i64 hi]=>∃t a b,Z4m cs t/\ab=[a,b]/\t.Ok/\
  (Yt A (k0C t sd a b lo hi)=true->K (.ret (.tuple [.ptr (some ⟨h.next,0,0,0,0⟩),.int .i64 0])) ⟨h.next+1,(h.next,.flat (clT (k0C t sd a b lo hi) sd false 0 false 0))::h.bs⟩)/\
  (Yt A (k0C t sd a b lo hi)=false->K (.ret (.tuple [.ptr none,.int .i64 2])) h)
 | _=>False
theorem ZgN {k:ClS} {o:Out} {h:Z9} (hk:clK true k o h):Y6 0 (.ret (.tuple [.ptr (some ⟨0,0,0,0,0⟩),.int .i64 0])) 1 [(0,.flat (k.c++[.bool true]))] o h:=by
 unfold clK at hk
 split at hk
 ·exact hk.elim
 ·exact hk
 ·exact hk.elim
theorem Z7K:(ZeS ZB).Ok:=Zf.withP_ok Zu ZcL
theorem Z5o (args:List AV) (h:Z9) (K:KO) (hl:Zdv ZB args h K):Zh PP 9 args h K:=by
 refine Zx.fsumm (d:=40) (Zk _ _ _ _ _ hl fun a ha=> ?_)
 split at ha
 ·rename_i cs sd ab lo hi
  obtain ⟨t,a,b,⟨rfl⟩,rfl,ht,h1,h0⟩:=ha
  cases hm:Yt ZB (k0C t sd a b lo hi) with
  | true=>exact ⟨_,_,_,_,Spec.pure (Spec.evK Z7K (ZhO _ t sd a b lo hi ht hm) fun o' h' hk=>ZgN hk),rfl,⟨JV,.flat _ rfl,trivial⟩,h1 hm⟩
  | false=>exact ⟨_,_,_,_,.evM Z7K (ZhP _ t sd a b lo hi ht hm),rfl,trivial,h0 hm⟩
 ·exact ha.elim
def Z0L (Tg:LI->TxS->LI) (k:ClS):HR:=
 if k.agrees=true then noR k 250 else if k.side≠0\/k.offers=true then noR k 251
 else if ZG k.t k.a0 k.a1 k.least≠0 then noR k (ZG k.t k.a0 k.a1 k.least)
 else ⟨0,13,k.least,Yh Tg k k.least k.side,true,true,k.least,k.agrees,k.fee⟩
theorem ZeT {k:ClS} (h:k.agrees=true):Z0L Tg k=noR k 250:=by unfold Z0L;rw [if_pos h]
theorem Z6M {k:ClS} (h:k.agrees=false) (h2:k.side≠0\/k.offers=true):Z0L Tg k=noR k 251:=by unfold Z0L;rw [if_neg (by rw [h];decide),if_pos h2]
theorem Z6N {k:ClS} {m:Int} (h:k.agrees=false) (h2:¬(k.side≠0\/k.offers=true)) (he:ZG k.t k.a0 k.a1 k.least=m) (hm:m≠0):Z0L Tg k=noR k m:=by
 unfold Z0L;rw [if_neg (by rw [h];decide),if_neg h2,if_pos (by rw [he];exact hm),he]
theorem Z6O {k:ClS} (h:k.agrees=false) (h2:¬(k.side≠0\/k.offers=true)) (he:ZG k.t k.a0 k.a1 k.least=0):Z0L Tg k=⟨0,13,k.least,Yh Tg k k.least k.side,true,true,k.least,k.agrees,k.fee⟩:=by
 unfold Z0L;rw [if_neg (by rw [h];decide),if_neg h2,if_neg (fun q=>q he)]
theorem ZeU (Tg:LI->TxS->LI) (k:ClS) (e kd am:Int) (tg:LI) (sy of:Bool) (la:Int) (ag:Bool) (fe:Int) (hk:XQ k) (hR:Z0L Tg k=⟨e,kd,am,tg,sy,of,la,ag,fe⟩):
  evF (G0.withF 32 (ZcQ Tg)) 20 12 [.ptr (some ⟨0,0,0,0,0⟩)] ⟨1,[(0,.flat (clT k k.side k.offers k.last k.agrees k.fee))]⟩ (Y6 1 (.ret (.tuple [.agg (sdC kd am tg),.int .i64 e])) 1 [(0,.flat (clT k k.side of la ag fe))]):=by
 refine @Eq.mpr _ (let v:=k.agrees;let g:=decide (0=kd);let d:=decide (0=am);let a:=k.t;let l:=a.fund;let x:=l=l;let i:=a.index;let w:=decide (i=i);let h:=a.cap;let J:=decide (h=h);let u:=a.dust;let I:=decide (u=u);let s:=a.fee;let H:=decide (s=s);let r:=a.delay;let G:=decide (r=r);let q:=a.k0;let F:=q=q;let p:=a.k1;let E:=p=p;let f:=k.side;let D:=decide (f=f);let o:=[k.a0,k.a1];let C:=o=o;let b:=k.least;let B:=decide (b=b);let n:=k.most;let A:=decide (n=n);let m:=k.offers;let z:=Z6 (v=ag) (Z6 (k.fee=fe) True);let c:=x/\Z5 w (Z5 J (Z5 I (Z5 H (Z5 G (F/\E/\Z5 D (C/\Z5 B (Z5 A (Z6 (m=of) (Z6 (k.last=la) z)))))))));let y:=Z5 g (Z0=Z0/\Z0=Z0/\Z0=Z0/\Z5 d (Z0=Z0/\Z0=Z0/\Z0=Z0/\Z0=Z0/\Z0=tg/\Z0=Z0/\ByteArray.empty=ByteArray.empty/\Z6 (251=e) c));
 Z7 v (Z5 g (Z0=Z0/\Z0=Z0/\Z0=Z0/\Z5 d (Z0=Z0/\Z0=Z0/\Z0=Z0/\Z0=Z0/\Z0=tg/\Z0=Z0/\ByteArray.empty=ByteArray.empty/\Z6 (250=e) c))) (Z7 (f !=0) y (Z7 m y (∃(k_1:ClS),
 let j:=ZG k_1.t k_1.a0 k_1.a1 b;
 XP [AV.arr u8 32 l,AV.int i64 i,AV.int i64 h,AV.int i64 u,AV.int i64 s,AV.int i64 r,AV.arr u8 32 q,AV.arr u8 32 p,AV.int i64 f,AV.arr i64 2 o,AV.int i64 b,AV.int i64 n,AV.bool m,AV.int i64 k.last,AV.bool v,AV.int i64 k.fee,AV.bool true] k_1/\
 XQ k_1/\
 (j=0->Z6 (13=kd) (Z0=Z0/\Z0=Z0/\Z0=Z0/\Z6 (b=am) (Z0=Z0/\Z0=Z0/\Z0=Z0/\Z0=Z0/\Yh Tg k_1 b k_1.side=tg/\Z0=Z0/\ByteArray.empty=ByteArray.empty/\Z6 (0=e) (x/\Z5 w (Z5 J (Z5 I (Z5 H (Z5 G (F/\E/\Z5 D (C/\Z5 B (Z5 A (Z6 (true=of) (Z6 (b=la) z)))))))))))))/\
 (j=2->Z5 g (Z0=Z0/\Z0=Z0/\Z0=Z0/\Z5 d (Z0=Z0/\Z0=Z0/\Z0=Z0/\Z0=Z0/\Z0=tg/\Z0=Z0/\ByteArray.empty=ByteArray.empty/\Z6 (2=e) c)))/\(j=180->Z5 g (Z0=Z0/\Z0=Z0/\Z0=Z0/\Z5 d (Z0=Z0/\Z0=Z0/\Z0=Z0/\Z0=Z0/\Z0=tg/\Z0=Z0/\ByteArray.empty=ByteArray.empty/\Z6 (180=e) c))))))) (by kernel_rfl) ?_
 conv=>zeta
 try simp only [vcA]
 try simp only [vcB]
 try simp only [vcC]
 refine ⟨fun hg=> ?_,fun hg=>⟨fun hs=> ?_,fun hs=>⟨fun ho=> ?_,fun ho=> ?_⟩⟩⟩
 ·cases hR.symm.trans (ZeT hg)
  and_intros<;>rfl
 ·cases hR.symm.trans (Z6M hg (.inl (bne_iff_ne.1 hs)))
  and_intros<;>rfl
 ·cases hR.symm.trans (Z6M hg (.inr ho))
  and_intros<;>rfl
 have hq:¬(k.side≠0\/k.offers=true):=by
  rintro (h|h)
  ·exact h (bne_eq_false_iff_eq.1 hs)
  ·rw [ho] at h;cases h
 refine ⟨k,⟨rfl⟩,hk,fun hE=> ?_,fun hE=> ?_,fun hE=> ?_⟩
 ·cases hR.symm.trans (Z6O hg hq hE)
  and_intros<;>rfl
 ·cases hR.symm.trans (Z6N hg hq hE (by decide))
  and_intros<;>rfl
 ·cases hR.symm.trans (Z6N hg hq hE (by decide))
  and_intros<;>rfl
def ZeV (Tg:LI->TxS->LI):Yb:=fun args h K=>match args with
 | [.ptr (some ⟨x,0,0,0,0⟩)]=>frA [x] h 40 args fun Bs a=>match Bs,a with
  | [.flat cs],[.ptr (some ⟨0,0,0,0,0⟩)]=>∃k,XP cs k/\XQ k/\∀r,r=Z0L Tg k->K (.ret (.tuple [.agg (sdC r.kd r.am r.tg),.int .i64 r.e])) ⟨h.next,(x,.flat (clT k k.side r.of r.la r.ag r.fe))::Yu h.bs x⟩
  | _,_=>False
 | _=>False
theorem ZcT (args:List AV) (h:Z9) (K:KO) (hl:ZeV Zl args h K):Zh PP 12 args h K:=by
 unfold ZeV at hl
 split at hl
 ·refine Spec.fsumm hl fun Bs a hlen hK0=> ?_
  split at hK0
  ·obtain ⟨k,⟨rfl⟩,hk,hK⟩:=hK0
   exact ⟨_,_,_,_,_,.evM (Zf.withF_ok Zu Z4i) (ZeU Zl k _ _ _ _ _ _ _ _ _ hk rfl),by simp,.ret _ _ rfl,.cons _ _ _ _ _ _ rfl (.flat _ _ rfl) .nil,hK _ rfl⟩
  ·exact hK0.elim
 ·exact hl.elim
end Go.Tk
end
