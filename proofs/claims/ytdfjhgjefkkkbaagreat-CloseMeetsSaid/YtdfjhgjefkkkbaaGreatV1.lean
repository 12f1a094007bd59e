/- V: part 1 of an engine (a symbolic evaluator, proved against the model) and of the walk by it. -/
import Derived.RangeFuncLeaves
import Derived.RecoverIn
import Derived.Laws.Cells
import Derived.KernelRfl
import Derived.Laws.IdiomCopy
import Derived.Laws.AppendOwn
import Derived.Laws.BitsLemmas
set_option linter.unusedVariables false
set_option linter.unusedSimpArgs false
set_option maxRecDepth 100000
set_option maxHeartbeats 0
section
namespace Go.Tk
open IntKind (i64 u8 u32 u64 wrap)
variable {w':World} {news olds vs:List Value} {rx ry z:Value} {esz sCap sLen:Nat} {t2 ti:TypeId} {op:BinOp} {ox oy:Operand}
theorem J0:type_of% @Nat.eq_of_beq_eq_true:=@Nat.eq_of_beq_eq_true
theorem J2:type_of% @List.getD_eq_getElem?_getD:=@List.getD_eq_getElem?_getD
theorem J3:type_of% @Bool.and_eq_true:=@Bool.and_eq_true
theorem J4:type_of% @Result.andThen_ok:=@Result.andThen_ok
theorem J5:type_of% @Nat.le_refl:=@Nat.le_refl
theorem J6:type_of% @Sem.run_bind:=@Sem.run_bind
theorem J7:type_of% @Nat.lt_or_ge:=@Nat.lt_or_ge
theorem J8:type_of% @List.getElem?_append_left:=@List.getElem?_append_left
theorem J9:type_of% @List.mem_cons:=@List.mem_cons
theorem Ja:type_of% @Bool.not_eq_true':=@Bool.not_eq_true'
theorem Jb:type_of% @List.getElem?_append_right:=@List.getElem?_append_right
theorem Jc:type_of% @Array.getD_eq_getD_getElem?:=@Array.getD_eq_getD_getElem?
theorem Jd:type_of% @List.getElem?_eq_getElem:=@List.getElem?_eq_getElem
theorem Je:type_of% @List.length_append:=@List.length_append
theorem Jf:type_of% @List.getElem?_drop:=@List.getElem?_drop
theorem Jg:type_of% @Nat.beq_refl:=@Nat.beq_refl
theorem Jh:type_of% @Nat.le_of_ble_eq_true:=@Nat.le_of_ble_eq_true
theorem Ji:type_of% @Sem.run_pure:=@Sem.run_pure
theorem Jj:type_of% @Array.getElem?_eq_none:=@Array.getElem?_eq_none
theorem Jk:type_of% @Array.getElem?_setIfInBounds:=@Array.getElem?_setIfInBounds
theorem Jl:type_of% @List.getElem?_eq_none:=@List.getElem?_eq_none
theorem Jm:type_of% @List.length_take:=@List.length_take
theorem Jo:type_of% @List.length_drop:=@List.length_drop
theorem Jp:type_of% @List.mem_cons_of_mem:=@List.mem_cons_of_mem
theorem Jq:type_of% @List.mem_range:=@List.mem_range
theorem Jr:type_of% @List.mem_append:=@List.mem_append
theorem Js:type_of% @List.getElem?_eq_some_iff:=@List.getElem?_eq_some_iff
theorem Jt:type_of% @And.intro:=@And.intro
theorem Ju:type_of% @Bool.not_eq_false':=@Bool.not_eq_false'
theorem Jv:type_of% @List.mem_append_right:=@List.mem_append_right
theorem Jw:type_of% @List.length_cons:=@List.length_cons
theorem Jx:type_of% @List.mem_append_left:=@List.mem_append_left
theorem Jy:type_of% @List.getElem?_take:=@List.getElem?_take
theorem Jz:type_of% @Option.bind_eq_some_iff:=@Option.bind_eq_some_iff
theorem JA:type_of% @Nat.mul_le_mul_right:=@Nat.mul_le_mul_right
theorem JB:type_of% @List.mem_cons_self:=@List.mem_cons_self
theorem JC:type_of% @List.append_assoc:=@List.append_assoc
theorem JD:type_of% @Nat.add_mul:=@Nat.add_mul
theorem JE:type_of% @Nat.zero_add:=@Nat.zero_add
theorem JF:type_of% @List.any_eq_false:=@List.any_eq_false
theorem JG:type_of% @Nat.eq_zero_or_pos:=@Nat.eq_zero_or_pos
theorem JH:type_of% @Bool.or_eq_true:=@Bool.or_eq_true
theorem JI:type_of% @Nat.zero_le:=@Nat.zero_le
theorem JJ:type_of% @Array.ext':=@Array.ext'
theorem JK:type_of% @List.length_nil:=@List.length_nil
theorem JL:type_of% @Nat.mul_one:=@Nat.mul_one
theorem JM:type_of% @Int.not_le:=@Int.not_le
theorem JN:type_of% @Int.not_lt:=@Int.not_lt
theorem JO:type_of% @List.getElem?_toArray:=@List.getElem?_toArray
theorem JP:type_of% @List.mem_iff_getElem?:=@List.mem_iff_getElem?
theorem JQ:type_of% @List.eq_nil_of_length_eq_zero:=@List.eq_nil_of_length_eq_zero
theorem JR:type_of% @List.mem_of_getElem?:=@List.mem_of_getElem?
theorem JS:type_of% @List.getElem?_cons_succ:=@List.getElem?_cons_succ
theorem JT:type_of% @List.getElem?_map:=@List.getElem?_map
theorem JU:type_of% @List.append_nil:=@List.append_nil
theorem JV:type_of% @Nat.one_pos:=@Nat.one_pos
theorem JW:type_of% @Bool.true_and:=@Bool.true_and
theorem JX:type_of% @List.pairwise_cons:=@List.pairwise_cons
theorem JY:type_of% @Int.le_refl:=@Int.le_refl
theorem JZ:type_of% @Option.isSome_iff_exists:=@Option.isSome_iff_exists
theorem K1:type_of% @List.map_append:=@List.map_append
theorem K2:type_of% @BitVec.ofInt_natCast:=@BitVec.ofInt_natCast
theorem K3:type_of% @List.getElem?_set:=@List.getElem?_set
theorem K4:type_of% @List.map_cons:=@List.map_cons
theorem K5:type_of% @List.all_eq_true:=@List.all_eq_true
theorem K6:type_of% @List.take_length:=@List.take_length
theorem K7:type_of% @Nat.mod_eq_of_lt:=@Nat.mod_eq_of_lt
theorem K8:type_of% @List.take_of_length_le:=@List.take_of_length_le
theorem K9:type_of% @BitVec.toNat_ofNat:=@BitVec.toNat_ofNat
theorem Ka:type_of% @Int.tdiv_eq_ediv_of_nonneg:=@Int.tdiv_eq_ediv_of_nonneg
theorem Kb:type_of% @Int.toNat_natCast:=@Int.toNat_natCast
theorem Kc:type_of% @List.ext_getElem?:=@List.ext_getElem?
theorem Kd:type_of% @Nat.le_trans:=@Nat.le_trans
theorem Ke:type_of% @Nat.add_zero:=@Nat.add_zero
theorem Kf:type_of% @List.length_eq_zero_iff:=@List.length_eq_zero_iff
theorem Kg:type_of% @Nat.not_lt_zero:=@Nat.not_lt_zero
theorem Kh:type_of% @Nat.one_mul:=@Nat.one_mul
theorem Ki:type_of% @List.cons_append:=@List.cons_append
theorem Kj:type_of% @Option.getD_some:=@Option.getD_some
theorem Kk:type_of% @List.getElem_mem:=@List.getElem_mem
theorem Kl:type_of% @Bool.not_true:=@Bool.not_true
abbrev LI:=List Int
variable {xs ys:LI}
theorem Y_s:(∀n:Nat,((n:Int)).toNat=n)∧(∀n:Nat,0+n=n)∧(∀p:Prop,(True∧p)=p)∧(∀p:Prop,(p∧True)=p)∧∀n:Nat,(n≤n)=True:=⟨Kb,JE,true_and,and_true,fun n=>eq_true (J5 n)⟩
def Z7 (b:Bool) (x y:Prop):Prop:=match b with|true=>x|false=>y
def Z6 (p:Prop) [Decidable p] (x:Prop):Prop:=Z7 (decide p) x False
theorem Zb {p x:Prop} [Decidable p] (h:Z6 p x):p/\x:=by
 unfold Z6 at h
 by_cases hp:p
 ·rw [decide_eq_true hp] at h;exact ⟨hp,h⟩
 ·rw [decide_eq_false hp] at h;exact h.elim
theorem U5 {p x:Prop} [Decidable p] (hp:p) (h:x):Z6 p x:=by
 unfold Z6;rw [decide_eq_true hp];exact h
theorem Zba {b:Bool} {x:Prop} (h:Z7 b x False):b=true/\x:=by
 cases b with
 | true=>exact ⟨rfl,h⟩
 | false=>exact h.elim
structure ZN where
 blk:Nat
 row:Nat
 sz:Nat
 off:Nat
 inn:Nat
def ZN.tot (p:ZN):Nat:=p.row*p.sz+p.off+p.inn
inductive AV where
 | top
 | bool (b:Bool)
 | int (k:IntKind) (n:Int)
 | str (s:ByteArray)
 | ptr (p:Option ZN)
 | pview (cs:List AV) (inn:Nat)
 | nslice (p:ZN) (esz len lo:Nat)
 | vints (k:IntKind) (xs:LI) (len:Nat)
 | vrows (esz n:Nat) (f:Nat->List AV) (len:Nat)
 | eslice
 | fslice
 | nilslice
 | map (r:Option Nat)
 | func (fn:Fn) (first captured:List AV)
 | yield (x:Nat)
 | nilFunc
 | nilIface
 | iface (t:TypeId) (v:AV)
 | agg (cs:List AV)
 | arr (k:IntKind) (n:Nat) (xs:LI)
 | tuple (vs:List AV)
variable {v:AV} {cs:List AV} {parts:List (Nat×AV)}
def AV.isCell:AV->Bool
 | .agg _|.tuple _|.arr _ _ _=>false
 | _=>true
def intCells (k:IntKind) (n:Nat) (xs:LI):List Value:=(List.range n).map fun i=>Value.int k (xs.getD i 0)
structure Env where
 blk:Nat->Option (Nat×Nat)
 imm:Addr->Value->Prop
variable {E':Env}
structure Env.le (E E':Env):Prop where
 blk:∀x r,E.blk x=some r->E'.blk x=some r
 imm:∀a c,E.imm a c->E'.imm a c
def Env.views (E:Env):Env:=⟨fun _=>none,E.imm⟩
theorem Env.le.refl (E:Env):E.le E:=⟨fun _ _ h=>h,fun _ _ h=>h⟩
theorem Env.le.trans {A B C:Env} (h:A.le B) (k:B.le C):A.le C:=⟨fun x r e=>k.blk x r (h.blk x r e),fun a c e=>k.imm a c (h.imm a c e)⟩
theorem Env.views_le (E:Env):E.views.le E:=⟨fun _ _ h=>by simp [Env.views] at h,fun _ _ h=>h⟩
theorem Env.le.views {A B:Env} (h:A.le B):A.views.le B.views:=⟨fun _ _ h=>by simp [Env.views] at h,fun a c e=>h.imm a c e⟩
mutual
inductive Zc:Env->AV->Value->Prop
 | top {E:Env} (v:Value):Zc E .top v
 | bool {E:Env} (b:Bool):Zc E (.bool b) (.bool b)
 | int {E:Env} (k:IntKind) (n:Int):Zc E (.int k n) (.int k n)
 | str {E:Env} (s:ByteArray):Zc E (.str s) (.string s)
 | nilptr {E:Env}:Zc E (.ptr none) (.pointer none)
 | ptr {E:Env} (p:ZN) (b N:Nat) (h:E.blk p.blk=some (b,N)):Zc E (.ptr (some p)) (.pointer (some ⟨b,p.tot,none⟩))
 | pview {E:Env} (cs:List AV) (inn:Nat) (a:Addr) (vs:List Value) (hc:Zn E.views cs vs) (hi:∀j c,vs[j]? =some c->E.imm (a.add j) c):Zc E (.pview cs inn) (.pointer (some (a.add inn)))
 | nslice0 {E:Env} (p:ZN) (esz len lo:Nat) (a:Option Addr) (h1:len=0) (h2:lo=0):Zc E (.nslice p esz len lo) (.slice a 0 0)
 | nslice {E:Env} (p:ZN) (esz len lo b N cap:Nat) (h:E.blk p.blk=some (b,N)) (h1:len<=cap) (h2:lo<=cap) (h3:p.tot+cap*esz<=N):Zc E (.nslice p esz len lo) (.slice (some ⟨b,p.tot,none⟩) len cap)
 | vintsNil {E:Env} (k:IntKind) (xs:LI) (len:Nat) (h1:xs=[]) (h2:len=0):Zc E (.vints k xs len) (.slice none 0 0)
 | vints {E:Env} (k:IntKind) (xs:LI) (len:Nat) (a:Addr) (cap:Nat) (h1:len<=xs.length) (h2:xs.length<=cap) (hi:∀i,i<xs.length->E.imm (a.add i) (.int k (xs.getD i 0))):Zc E (.vints k xs len) (.slice (some a) len cap)
 | vrowsNil {E:Env} (esz n:Nat) (f:Nat->List AV) (len:Nat) (h1:n=0) (h2:len=0):Zc E (.vrows esz n f len) (.slice none 0 0)
 |vrows {E:Env} (esz n:Nat) (f:Nat->List AV) (len:Nat) (a:Addr) (cap:Nat) (g:Nat->List Value) (h1:len<=n) (h2:n<=cap) (hc:∀i,i<n->Zn E.views (f i) (g i)) (hl:∀i,i<n->(g i).length=esz)
   (hi:∀i j c,i<n->(g i)[j]? =some c->E.imm (a.add (i*esz+j)) c):Zc E (.vrows esz n f len) (.slice (some a) len cap)
 | eslice {E:Env} (a:Option Addr):Zc E .eslice (.slice a 0 0)
 | fslice {E:Env} (a:Addr) (cap:Nat):Zc E .fslice (.slice (some a) 0 cap)
 | nilslice {E:Env}:Zc E .nilslice (.slice none 0 0)
 | nilmap {E:Env}:Zc E (.map none) (.map none)
 | map {E:Env} (x b N:Nat) (h:E.blk x=some (b,N)):Zc E (.map (some x)) (.map (some b))
 | func {E:Env} (fn:Fn) (first captured:List AV) (fs cs:List Value) (h1:Zw E first fs) (h2:Zw E captured cs):Zc E (.func fn first captured) (.func fn fs.toArray cs.toArray)
 | yield {E:Env} (x b N:Nat) (h:E.blk x=some (b,N)):Zc E (.yield x) (.func (.yield b) #[] #[])
 | nilFunc {E:Env}:Zc E .nilFunc .nilFunc
 | nilIface {E:Env}:Zc E .nilIface .nilIface
 | iface {E:Env} (t:TypeId) (v:AV) (x:Value) (h:Zc E v x):Zc E (.iface t v) (.iface t x)
 | agg {E:Env} (cs:List AV) (vs:List Value) (h:Zn E cs vs):Zc E (.agg cs) (.agg vs.toArray)
 | tuple {E:Env} (vs:List AV) (rs:List Value) (h:Zw E vs rs):Zc E (.tuple vs) (.tuple rs.toArray)
inductive Zn:Env->List AV->List Value->Prop
 | nil {E:Env}:Zn E [] []
 | one {E:Env} (v:AV) (c:Value) (vs:List AV) (cs:List Value) (h0:v.isCell=true) (h1:c.oneCell'=true) (h:Zc E v c) (t:Zn E vs cs):Zn E (v::vs) (c::cs)
 | arr {E:Env} (k:IntKind) (n:Nat) (xs:LI) (vs:List AV) (cs:List Value) (t:Zn E vs cs):Zn E (.arr k n xs::vs) (intCells k n xs++cs)
inductive Zw:Env->List AV->List Value->Prop
 | nil {E:Env}:Zw E [] []
 | cons {E:Env} (v:AV) (c:Value) (vs:List AV) (cs:List Value) (h:Zc E v c) (t:Zw E vs cs):Zw E (v::vs) (c::cs)
end
mutual
theorem Zc.mono {E E':Env} (le:E.le E') {v:AV} {r:Value} (h:Zc E v r):Zc E' v r:=match v,r,h with
 | _,_,.top v=>.top v
 | _,_,.bool b=>.bool b
 | _,_,.int k n=>.int k n
 | _,_,.str s=>.str s
 | _,_,.nilptr=>.nilptr
 | _,_,.ptr p b N h=>.ptr p b N (le.blk _ _ h)
 | _,_,.pview cs inn a vs hc hi=>.pview cs inn a vs (Zn.mono le.views hc) (fun j c h=>le.imm _ _ (hi j c h))
 | _,_,.nslice0 p esz len lo a h1 h2=>.nslice0 p esz len lo a h1 h2
 | _,_,.nslice p esz len lo b N cap h h1 h2 h3=>.nslice p esz len lo b N cap (le.blk _ _ h) h1 h2 h3
 | _,_,.vintsNil k xs len h1 h2=>.vintsNil k xs len h1 h2
 | _,_,.vints k xs len a cap h1 h2 hi=>.vints k xs len a cap h1 h2 (fun i h=>le.imm _ _ (hi i h))
 | _,_,.vrowsNil esz n f len h1 h2=>.vrowsNil esz n f len h1 h2
 | _,_,.vrows esz n f len a cap g h1 h2 hc hl hi=>.vrows esz n f len a cap g h1 h2 (fun i h=>Zn.mono le.views (hc i h)) hl (fun i j c h h'=>le.imm _ _ (hi i j c h h'))
 | _,_,.eslice a=>.eslice a
 | _,_,.fslice a cap=>.fslice a cap
 | _,_,.nilslice=>.nilslice
 | _,_,.nilmap=>.nilmap
 | _,_,.map x b N h=>.map x b N (le.blk _ _ h)
 | _,_,.func fn first captured fs cs h1 h2=>.func fn first captured fs cs (Zw.mono le h1) (Zw.mono le h2)
 | _,_,.yield x b N h=>.yield x b N (le.blk _ _ h)
 | _,_,.nilFunc=>.nilFunc
 | _,_,.nilIface=>.nilIface
 | _,_,.iface t v x h=>.iface t v x (Zc.mono le h)
 | _,_,.agg cs vs h=>.agg cs vs (Zn.mono le h)
 | _,_,.tuple vs rs h=>.tuple vs rs (Zw.mono le h)
theorem Zn.mono {E E':Env} (le:E.le E') {v:List AV} {r:List Value} (h:Zn E v r):Zn E' v r:=match v,r,h with
 | _,_,.nil=>.nil
 | _,_,.one v c vs cs h0 h1 h t=>.one v c vs cs h0 h1 (Zc.mono le h) (Zn.mono le t)
 | _,_,.arr k n xs vs cs t=>.arr k n xs vs cs (Zn.mono le t)
theorem Zw.mono {E E':Env} (le:E.le E') {v:List AV} {r:List Value} (h:Zw E v r):Zw E' v r:=match v,r,h with
 | _,_,.nil=>.nil
 | _,_,.cons v c vs cs h t=>.cons v c vs cs (Zc.mono le h) (Zw.mono le t)
end
abbrev ZL:=List (Nat×AV)
def Zz:ZL->Nat->Option AV
 | [],_=>none
 | (y,v)::r,x=>match Nat.beq y x with|true=>some v|false=>Zz r x
def Z0z:ZL->Nat->ZL
 | [],_=>[]
 | (y,v)::r,x=>match Nat.beq y x with|true=>Z0z r x|false=>(y,v)::Z0z r x
def Vv (t:ZL) (x:Nat) (v:AV):ZL:=(x,v)::Z0z t x
theorem XB (t:ZL) (x:Nat):Zz (Z0z t x) x=none:=by
 induction t with
 | nil=>rfl
 | cons p r ih=>
  obtain ⟨y,v⟩:=p
  cases hb:Nat.beq y x with
  | true=>simp only [Z0z,hb];exact ih
  | false=>simp only [Z0z,hb,Zz];exact ih
theorem Xj (t:ZL) (x y:Nat) (h:x≠y):Zz (Z0z t x) y=Zz t y:=by
 induction t with
 | nil=>rfl
 | cons p r ih=>
  obtain ⟨z,v⟩:=p
  cases hb:Nat.beq z x with
  | true=>
   have:z=x:=J0 hb
   subst this
   have hn:Nat.beq z y=false:=by
    cases hc:Nat.beq z y with
    | false=>rfl
    | true=>exact absurd (J0 hc) h
   simp only [Z0z,hb,Zz,hn];exact ih
  | false=>
   simp only [Z0z,hb,Zz]
   cases Nat.beq z y with
   | true=>rfl
   | false=>exact ih
theorem X7 (t:ZL) (x:Nat) (v:AV):Zz (Vv t x v) x=some v:=by
 simp [Vv,Zz,Jg]
theorem YW (t:ZL) (x y:Nat) (v:AV) (h:x≠y):Zz (Vv t x v) y=Zz t y:=by
 have hn:Nat.beq x y=false:=by
  cases hc:Nat.beq x y with
  | false=>rfl
  | true=>exact absurd (J0 hc) h
 simp only [Vv,Zz,hn]
 exact Xj t x y h
structure Z8P where
 state:LoopState
 pending:Option Code
 fn:FuncId
 n:Nat
 tmps:ZL
 params:List Nat
 assign:Code
 body:Code
 defers:Nat
inductive Blk where
 | flat (cs:List AV)
 | ints (k:IntKind) (xs:LI)
 | rows (sz n:Nat) (f:Nat->List AV)
 | map (es:List (AV×AV))
 | fmap (n:Nat) (kf vf:Nat->AV)
 | pmap (es:List (AV×AV))
 | loop (l:Z8P)
 | defd
variable {B:Blk}
structure Z9 where
 next:Nat
 bs:List (Nat×Blk)
variable {h':Z9}
def ZC:List (Nat×Blk)->Nat->Option Blk
 | [],_=>none
 | (y,v)::r,x=>match Nat.beq y x with|true=>some v|false=>ZC r x
def Yu:List (Nat×Blk)->Nat->List (Nat×Blk)
 | [],_=>[]
 | (y,v)::r,x=>match Nat.beq y x with|true=>Yu r x|false=>(y,v)::Yu r x
def Z2j:List (Nat×Blk)->Nat->Blk->List (Nat×Blk)
 | [],x,b=>[(x,b)]
 | (y,v)::r,x,b=>match Nat.beq y x with|true=>(x,b)::Yu r x|false=>(y,v)::Z2j r x b
def Z9.get (h:Z9) (x:Nat):Option Blk:=ZC h.bs x
def Z9.set (h:Z9) (x:Nat) (b:Blk):Z9:=⟨h.next,Z2j h.bs x b⟩
def Z9.del (h:Z9) (x:Nat):Z9:=⟨h.next,Yu h.bs x⟩
def Z9.add (h:Z9) (b:Blk):Z9:=⟨h.next+1,(h.next,b)::h.bs⟩
theorem Zs {x y:Nat} (h:x≠y):Nat.beq x y=false:=by
 cases hc:Nat.beq x y with
 | false=>rfl
 | true=>exact absurd (J0 hc) h
theorem Uu (t:List (Nat×Blk)) (x:Nat):ZC (Yu t x) x=none:=by
 induction t with
 | nil=>rfl
 | cons p r ih=>
  obtain ⟨y,v⟩:=p
  cases hb:Nat.beq y x with
  | true=>simp only [Yu,hb];exact ih
  | false=>simp only [Yu,hb,ZC];exact ih
theorem Wc (t:List (Nat×Blk)) (x y:Nat) (h:x≠y):ZC (Yu t x) y=ZC t y:=by
 induction t with
 | nil=>rfl
 | cons p r ih=>
  obtain ⟨z,v⟩:=p
  cases hb:Nat.beq z x with
  | true=>
   have:z=x:=J0 hb
   subst this
   simp only [Yu,hb,ZC,Zs h];exact ih
  | false=>
   simp only [Yu,hb,ZC]
   cases Nat.beq z y with
   | true=>rfl
   | false=>exact ih
theorem Z2k (t:List (Nat×Blk)) (x:Nat) (b:Blk):ZC (Z2j t x b) x=some b:=by
 induction t with
 | nil=>simp [Z2j,ZC,Jg]
 | cons p r ih=>
  obtain ⟨y,v⟩:=p
  cases hb:Nat.beq y x with
  | true=>simp [Z2j,hb,ZC,Jg]
  | false=>simp only [Z2j,hb,ZC];exact ih
theorem Z12 (t:List (Nat×Blk)) (x y:Nat) (b:Blk) (h:x≠y):ZC (Z2j t x b) y=ZC t y:=by
 induction t with
 | nil=>simp [Z2j,ZC,Zs h]
 | cons p r ih=>
  obtain ⟨z,v⟩:=p
  cases hb:Nat.beq z x with
  | true=>
   have:z=x:=J0 hb
   subst this
   simp only [Z2j,hb,ZC,Zs h]
   exact Wc r z y h
  | false=>
   simp only [Z2j,hb,ZC]
   cases Nat.beq z y with
   | true=>rfl
   | false=>exact ih
theorem Z9.get_set_same (h:Z9) (x:Nat) (b:Blk):(h.set x b).get x=some b:=Z2k _ _ _
theorem Z9.get_set_other (h:Z9) (x y:Nat) (b:Blk) (n:x≠y):(h.set x b).get y=h.get y:=Z12 _ _ _ _ n
theorem Z9.get_del_same (h:Z9) (x:Nat):(h.del x).get x=none:=Uu _ _
theorem Z9.get_del_other (h:Z9) (x y:Nat) (n:x≠y):(h.del x).get y=h.get y:=Wc _ _ _ n
theorem Z9.get_add_same (h:Z9) (b:Blk):(h.add b).get h.next=some b:=by simp [Z9.get,Z9.add,ZC,Jg]
theorem Z9.get_add_other (h:Z9) (y:Nat) (b:Blk) (n:h.next≠y):(h.add b).get y=h.get y:=by simp [Z9.get,Z9.add,ZC,Zs n]
def csz:List AV->Nat
 | []=>0
 | .arr _ n _::r=>n+csz r
 | _::r=>1+csz r
theorem Z8 (k:IntKind) (n:Nat) (xs:LI):(intCells k n xs).length=n:=by simp [intCells]
theorem Zn.length {E:Env}:∀{cs:List AV} {vs:List Value},Zn E cs vs->vs.length=csz cs
 | _,_,.nil=>rfl
 | _,_,.one v c vs cs h0 _ _ t=>by
  have:=Zn.length t
  cases v<;>simp_all [csz,AV.isCell]<;>omega
 | _,_,.arr k n xs vs cs t=>by
  have:=Zn.length t
  simp [csz,Z8,this]
structure WL (E:Env) (n:Nat) (t:ZL) (tm:Array Value):Prop where
 size:tm.size=n
 get:∀x v,Zz t x=some v->Zc E v (tm.getD x undef)
theorem WL.mono {E:Env} (le:E.le E') {n:Nat} {t:ZL} {tm:Array Value} (h:WL E n t tm):WL E' n t tm:=
 ⟨h.size,fun x v e=>(h.get x v e).mono le⟩
def free (cells:Array Value) (fr:Nat×Nat):Prop:=∀o,o<cells.size->¬(fr.1<=o/\o<fr.2)
inductive Ye (E:Env) (w:World) (x:Nat):Blk->Prop
 | flat0 (cs:List AV) (h0:csz cs=0) (hn:E.blk x=none):Ye E w x (.flat cs)
 |flat (cs:List AV) (b:Nat) (cells:Array Value) (elem:TypeId) (fr:Nat×Nat) (vs:List Value) (hb:E.blk x=some (b,cells.size)) (hw:w.heap[b]? =some (.cells cells elem fr)) (hf:free cells fr)
   (hc:Zn E cs vs) (hv:∀(j:Nat) (c:Value),vs[j]? =some c->cells[j]? =some c):Ye E w x (.flat cs)
 | ints0 (k:IntKind) (xs:LI) (h0:xs=[]) (hn:E.blk x=none):Ye E w x (.ints k xs)
 |ints (k:IntKind) (xs:LI) (b:Nat) (cells:Array Value) (elem:TypeId) (fr:Nat×Nat) (hb:E.blk x=some (b,cells.size)) (hw:w.heap[b]? =some (.cells cells elem fr)) (hf:free cells fr)
   (hv:∀(j:Nat),j<xs.length->cells[j]? =some (.int k (xs.getD j 0))):Ye E w x (.ints k xs)
 | rows0 (sz n:Nat) (f:Nat->List AV) (h0:n=0) (hn:E.blk x=none):Ye E w x (.rows sz n f)
 |rows (sz n:Nat) (f:Nat->List AV) (b:Nat) (cells:Array Value) (elem:TypeId) (fr:Nat×Nat) (g:Nat->List Value) (hb:E.blk x=some (b,cells.size)) (hw:w.heap[b]? =some (.cells cells elem fr)) (hf:free cells fr)
   (hc:∀i,i<n->Zn E (f i) (g i)) (hl:∀i,i<n->(g i).length=sz) (hv:∀(i j:Nat) (c:Value),i<n->(g i)[j]? =some c->cells[i*sz+j]? =some c):Ye E w x (.rows sz n f)
 |map (es:List (AV×AV)) (b:Nat) (ents:List MapEntry) (clock:Nat) (hb:E.blk x=some (b,0)) (hw:w.heap[b]? =some (.map ents.toArray clock))
   (hk:Zw E (es.map (·.1)) (ents.map (·.key))) (hv:Zw E (es.map (·.2)) (ents.map (·.val))):Ye E w x (.map es)
 |fmap (n:Nat) (kf vf:Nat->AV) (b:Nat) (ents:List MapEntry) (clock:Nat) (hb:E.blk x=some (b,0)) (hw:w.heap[b]? =some (.map ents.toArray clock)) (hl:ents.length=n)
   (hk:∀(i:Nat) (e:MapEntry),ents[i]? =some e->Zc E (kf i) e.key) (hv:∀(i:Nat) (e:MapEntry),ents[i]? =some e->Zc E (vf i) e.val):Ye E w x (.fmap n kf vf)
 |pmap (es:List (AV×AV)) (b:Nat) (k:IntKind) (ents ents':List MapEntry) (clock:Nat) (hb:E.blk x=some (b,0)) (hw:w.heap[b]? =some (.map ents.toArray clock)) (hp:ents'.Perm ents)
   (hn:(ents'.map (·.key)).Nodup) (hi:∀e∈ents',∃c,e.key=.int k c) (hk:Zw E (es.map (·.1)) (ents'.map (·.key))) (hv:Zw E (es.map (·.2)) (ents'.map (·.val))):Ye E w x (.pmap es)
 |loop (l:Z8P) (b d N:Nat) (fnr:FuncId) (tm:Array Value) (hb:E.blk x=some (b,0)) (hd:E.blk l.defers=some (d,N)) (hw:w.heap[b]? =some (.loop ⟨l.state,l.pending,fnr,tm,l.params.toArray,l.assign,l.body,d⟩))
   (ht:WL E l.n l.tmps tm):Ye E w x (.loop l)
 | defd (b:Nat) (hb:E.blk x=some (b,0)) (hw:w.heap[b]? =some (.deferred (some []))):Ye E w x .defd
theorem Ye.congr {E:Env} {w:World} {x:Nat} (h:Ye E w x B) (hw:∀b N,E.blk x=some (b,N)->w'.heap[b]? =w.heap[b]?):Ye E w' x B:=by
 cases h with
 | flat0 cs h0 hn=>exact .flat0 cs h0 hn
 | flat cs b cells elem fr vs hb h1 hf hc hv=>exact .flat cs b cells elem fr vs hb ((hw _ _ hb).trans h1) hf hc hv
 | ints0 k xs h0 hn=>exact .ints0 k xs h0 hn
 | ints k xs b cells elem fr hb h1 hf hv=>exact .ints k xs b cells elem fr hb ((hw _ _ hb).trans h1) hf hv
 | rows0 sz n f h0 hn=>exact .rows0 sz n f h0 hn
 | rows sz n f b cells elem fr g hb h1 hf hc hl hv=>exact .rows sz n f b cells elem fr g hb ((hw _ _ hb).trans h1) hf hc hl hv
 | map es b ents clock hb h1 hk hv=>exact .map es b ents clock hb ((hw _ _ hb).trans h1) hk hv
 | fmap n kf vf b ents clock hb h1 hl hk hv=>exact .fmap n kf vf b ents clock hb ((hw _ _ hb).trans h1) hl hk hv
 | pmap es b k ents ents' clock hb h1 hp hn hi hk hv=>exact .pmap es b k ents ents' clock hb ((hw _ _ hb).trans h1) hp hn hi hk hv
 | loop l b d N fnr tm hb hd h1 ht=>exact .loop l b d N fnr tm hb hd ((hw _ _ hb).trans h1) ht
 | defd b hb h1=>exact .defd b hb ((hw _ _ hb).trans h1)
theorem Ye.mono {E:Env} {w:World} {x:Nat} (h:Ye E w x B) (le:E.le E') (he:E.blk x=none->E'.blk x=none):Ye E' w x B:=by
 cases h with
 | flat0 cs h0 hn=>exact .flat0 cs h0 (he hn)
 | flat cs b cells elem fr vs hb h1 hf hc hv=>exact .flat cs b cells elem fr vs (le.blk _ _ hb) h1 hf (hc.mono le) hv
 | ints0 k xs h0 hn=>exact .ints0 k xs h0 (he hn)
 | ints k xs b cells elem fr hb h1 hf hv=>exact .ints k xs b cells elem fr (le.blk _ _ hb) h1 hf hv
 | rows0 sz n f h0 hn=>exact .rows0 sz n f h0 (he hn)
 | rows sz n f b cells elem fr g hb h1 hf hc hl hv=>exact .rows sz n f b cells elem fr g (le.blk _ _ hb) h1 hf (fun i hi=>(hc i hi).mono le) hl hv
 | map es b ents clock hb h1 hk hv=>exact .map es b ents clock (le.blk _ _ hb) h1 (hk.mono le) (hv.mono le)
 | fmap n kf vf b ents clock hb h1 hl hk hv=>exact .fmap n kf vf b ents clock (le.blk _ _ hb) h1 hl (fun i e h=>(hk i e h).mono le) (fun i e h=>(hv i e h).mono le)
 | pmap es b k ents ents' clock hb h1 hp hn hi hk hv=>exact .pmap es b k ents ents' clock (le.blk _ _ hb) h1 hp hn hi (hk.mono le) (hv.mono le)
 | loop l b d N fnr tm hb hd h1 ht=>exact .loop l b d N fnr tm (le.blk _ _ hb) (le.blk _ _ hd) h1 (ht.mono le)
 | defd b hb h1=>exact .defd b (le.blk _ _ hb) h1
theorem Ye.lt {E:Env} {w:World} {x:Nat} (h:Ye E w x B) {b N:Nat} (e:E.blk x=some (b,N)):b<w.heap.size:=by
 have key:∀(b':Nat) (o:Obj),w.heap[b']? =some o->b'<w.heap.size:=fun b' o ho=>by
  rcases J7 b' w.heap.size with hl|hg
  ·exact hl
  ·simp [Jj hg] at ho
 cases h with
 | flat0 cs h0 hn=>rw [hn] at e;cases e
 | flat cs b cells elem fr vs hb h1 hf hc hv=>rw [hb] at e;cases e;exact key _ _ h1
 | ints0 k xs h0 hn=>rw [hn] at e;cases e
 | ints k xs b cells elem fr hb h1 hf hv=>rw [hb] at e;cases e;exact key _ _ h1
 | rows0 sz n f h0 hn=>rw [hn] at e;cases e
 | rows sz n f b cells elem fr g hb h1 hf hc hl hv=>rw [hb] at e;cases e;exact key _ _ h1
 | map es b ents clock hb h1 hk hv=>rw [hb] at e;cases e;exact key _ _ h1
 | fmap n kf vf b ents clock hb h1 hl hk hv=>rw [hb] at e;cases e;exact key _ _ h1
 | pmap es b k ents ents' clock hb h1 hp hn hi hk hv=>rw [hb] at e;cases e;exact key _ _ h1
 | loop l b d N fnr tm hb hd h1 ht=>rw [hb] at e;cases e;exact key _ _ h1
 | defd b hb h1=>rw [hb] at e;cases e;exact key _ _ h1
structure Emb (E:Env) (h:Z9) (w:World):Prop where
 fresh:∀x,h.next<=x->E.blk x=none
 lt:∀x B,h.get x=some B->x<h.next
 own:∀x B,h.get x=some B->Ye E w x B
 disj:∀x y B B' b N N',h.get x=some B->h.get y=some B'->E.blk x=some (b,N)->E.blk y=some (b,N')->x=y
 imm:∀a c,E.imm a c->w.cell? a=some c
 sep:∀a c x B N,E.imm a c->h.get x=some B->E.blk x=some (a.block,N)->False
def YX (E:Env) (h:Z9) (b:Nat):Prop:=∃x B N,h.get x=some B/\E.blk x=some (b,N)
structure Evo (E:Env) (h:Z9) (w:World) (E':Env) (h':Z9) (w':World):Prop where
 le:E.le E'
 emb:Emb E' h' w'
 size:w.heap.size<=w'.heap.size
 os:w'.os=w.os
 tape:w'.tape=w.tape
 output:w'.output=w.output/\w.drawn<=w'.drawn
 keep:∀b,b<w.heap.size->¬YX E h b->w'.heap[b]? =w.heap[b]?
 own:∀b,YX E' h' b->YX E h b\/w.heap.size<=b
 imm:∀a c,E'.imm a c->E.imm a c
theorem Evo.refl {E:Env} {h:Z9} {w:World} (e:Emb E h w):Evo E h w E h w:=
 ⟨.refl E,e,J5 _,rfl,rfl,⟨rfl,J5 _⟩,fun _ _ _=>rfl,fun _ h=>.inl h,fun _ _ h=>h⟩
theorem Evo.trans {E E'':Env} {h h'':Z9} {w w'':World} (a:Evo E h w E' h' w') (b:Evo E' h' w' E'' h'' w''):Evo E h w E'' h'' w'' where
 le:=a.le.trans b.le
 emb:=b.emb
 size:=Kd a.size b.size
 os:=b.os.trans a.os
 tape:=b.tape.trans a.tape
 output:=⟨b.output.1.trans a.output.1,Kd a.output.2 b.output.2⟩
 keep:=fun i hi hn=>by
  have h1:=a.keep i hi hn
  have h2:=b.keep i (Nat.lt_of_lt_of_le hi a.size) (fun ho=>by
   rcases a.own i ho with h|h
   ·exact hn h
   ·omega)
  exact h2.trans h1
 own:=fun i ho=>by
  rcases b.own i ho with h|h
  ·exact a.own i h
  ·exact .inr (Kd a.size h)
 imm:=fun i c h=>a.imm i c (b.imm i c h)
theorem Emb.drew {E:Env} {h:Z9} {w:World} (e:Emb E h w) (hh:w'.heap=w.heap):Emb E h w' where
 fresh:=e.fresh
 lt:=e.lt
 own:=fun x B hx=>(e.own x B hx).congr fun _ _ _=>by rw [hh]
 disj:=e.disj
 imm:=fun a c hi=>by have:=e.imm a c hi;simpa [World.cell?,hh] using this
 sep:=e.sep
theorem Z13 {E:Env} {h:Z9} {w:World} (e:Emb E h w) (hh:w'.heap=w.heap) (h1:w'.os=w.os) (h2:w'.tape=w.tape) (h3:w'.output=w.output/\w.drawn<=w'.drawn):Evo E h w E h w':=
 ⟨.refl E,e.drew hh,by rw [hh];exact J5 _,h1,h2,h3,fun _ _ _=>by rw [hh],fun _ h=>.inl h,fun _ _ h=>h⟩
def Env.ext (E:Env) (x b N:Nat):Env:={ E with blk:=fun y=>if y=x then some (b,N) else E.blk y}
theorem Env.ext_le {E:Env} {x b N:Nat} (h:E.blk x=none):E.le (E.ext x b N):=
 ⟨fun y r e=>by
  show (if y=x then some (b,N) else E.blk y)=some r
  rw [if_neg (fun hy=>by rw [hy,h] at e;cases e)];exact e,fun _ _ h=>h⟩
theorem Env.ext_same (E:Env) (x b N:Nat):(E.ext x b N).blk x=some (b,N):=if_pos rfl
theorem Env.ext_other (E:Env) {x y:Nat} (b N:Nat) (h:y≠x):(E.ext x b N).blk y=E.blk y:=if_neg h
theorem World.push_old {w:World} {o:Obj} {b:Nat} (h:b<w.heap.size):(w.heap.push o)[b]? =w.heap[b]?:=by
 rw [Array.getElem?_push];rw [if_neg (by omega)]
theorem W8 {E:Env} {h:Z9} {w:World} (e:Emb E h w) (o:Obj) (N:Nat) (B:Blk)
  (hB:Ye (E.ext h.next w.heap.size N) { w with heap:=w.heap.push o} h.next B):
  Evo E h w (E.ext h.next w.heap.size N) (h.add B) { w with heap:=w.heap.push o}:=by
 have hfr:E.blk h.next=none:=e.fresh _ (J5 _)
 have hle:E.le (E.ext h.next w.heap.size N):=Env.ext_le hfr
 have hget:∀y B',(h.add B).get y=some B'->(y=h.next/\B'=B)\/(y≠h.next/\h.get y=some B'):=fun y B' hy=>by
  by_cases hn:h.next=y
  ·subst hn;rw [Z9.get_add_same] at hy;cases hy;exact .inl ⟨rfl,rfl⟩
  ·rw [Z9.get_add_other _ _ _ hn] at hy;exact .inr ⟨fun h=>hn h.symm,hy⟩
 refine ⟨hle,⟨?_, ?_, ?_, ?_, ?_, ?_⟩, ?_,rfl,rfl,⟨rfl,J5 _⟩, ?_, ?_,fun _ _ h=>h⟩
 ·intro x hx
  have hx':h.next+1<=x:=hx
  rw [Env.ext_other _ _ _ (by omega)]
  exact e.fresh x (by omega)
 ·intro x B' hx
  show x<h.next+1
  rcases hget x B' hx with ⟨rfl,_⟩|⟨_,h'⟩
  ·omega
  ·have:=e.lt x B' h';omega
 ·intro x B' hx
  rcases hget x B' hx with ⟨rfl,rfl⟩|⟨hne,h'⟩
  ·exact hB
  ·have h1:=(e.own x B' h').mono hle (fun hn=>by rw [Env.ext_other _ _ _ hne];exact hn)
   refine h1.congr fun b M hb=> ?_
   rw [Env.ext_other _ _ _ hne] at hb
   exact World.push_old ((e.own x B' h').lt hb)
 ·intro x y B1 B2 b M M' hx hy hbx hby
  rcases hget x B1 hx with ⟨rfl,_⟩|⟨hnx,hx'⟩<;>rcases hget y B2 hy with ⟨rfl,_⟩|⟨hny,hy'⟩
  ·rfl
  ·rw [Env.ext_same] at hbx;cases hbx
   rw [Env.ext_other _ _ _ hny] at hby
   have:=(e.own y B2 hy').lt hby;omega
  ·rw [Env.ext_same] at hby;cases hby
   rw [Env.ext_other _ _ _ hnx] at hbx
   have:=(e.own x B1 hx').lt hbx;omega
  ·rw [Env.ext_other _ _ _ hnx] at hbx;rw [Env.ext_other _ _ _ hny] at hby
   exact e.disj x y B1 B2 b M M' hx' hy' hbx hby
 ·intro a c hi
  have h1:=e.imm a c hi
  have hlt:a.block<w.heap.size:=by
   rcases J7 a.block w.heap.size with hl|hg
   ·exact hl
   ·simp [World.cell?,Jj hg] at h1
  simpa [World.cell?,World.push_old hlt] using h1
 ·intro a c x B' M hi hx hb
  rcases hget x B' hx with ⟨rfl,_⟩|⟨hne,hx'⟩
  ·rw [Env.ext_same] at hb
   have h1:=e.imm a c hi
   have hbl:w.heap.size=a.block:=by injection hb with hb;injection hb
   simp [World.cell?,<-hbl] at h1
  ·rw [Env.ext_other _ _ _ hne] at hb
   exact e.sep a c x B' M hi hx' hb
 ·simp
 ·intro b hb _;exact World.push_old hb
 ·rintro b ⟨x,B',M,hx,hb⟩
  rcases hget x B' hx with ⟨rfl,_⟩|⟨hne,hx'⟩
  ·rw [Env.ext_same] at hb;cases hb;exact .inr (J5 _)
  ·rw [Env.ext_other _ _ _ hne] at hb;exact .inl ⟨x,B',M,hx',hb⟩
theorem Xk {E:Env} {h:Z9} {w:World} (e:Emb E h w) (x:Nat) (B B':Blk) (b N:Nat) (hx:h.get x=some B) (hb:E.blk x=some (b,N))
  (hh:∀i,i≠b->w'.heap[i]? =w.heap[i]?) (hs:w'.heap.size=w.heap.size) (h1:w'.os=w.os) (h2:w'.tape=w.tape) (h3:w'.output=w.output/\w.drawn<=w'.drawn)
  (hB:Ye E w' x B'):Evo E h w E (h.set x B') w':=by
 have hget:∀y C,(h.set x B').get y=some C->(y=x/\C=B')\/(y≠x/\h.get y=some C):=fun y C hy=>by
  by_cases hn:x=y
  ·subst hn;rw [Z9.get_set_same] at hy;cases hy;exact .inl ⟨rfl,rfl⟩
  ·rw [Z9.get_set_other _ _ _ _ hn] at hy;exact .inr ⟨fun h=>hn h.symm,hy⟩
 have hget':∀y C,(h.set x B').get y=some C->∃C',h.get y=some C':=fun y C hy=>by
  rcases hget y C hy with ⟨rfl,_⟩|⟨_,h'⟩
  ·exact ⟨B,hx⟩
  ·exact ⟨C,h'⟩
 refine ⟨.refl E,⟨e.fresh, ?_, ?_, ?_, ?_, ?_⟩,by rw [hs];exact J5 _,h1,h2,h3, ?_, ?_,fun _ _ h=>h⟩
 ·intro y C hy
  obtain ⟨C',h'⟩:=hget' y C hy
  exact e.lt y C' h'
 ·intro y C hy
  rcases hget y C hy with ⟨rfl,rfl⟩|⟨hne,h'⟩
  ·exact hB
  ·refine (e.own y C h').congr fun b' M hb'=>hh b' ?_
   rintro rfl
   exact hne (e.disj y x C B b' M N h' hx hb' hb)
 ·intro y z C D b' M M' hy hz hby hbz
  obtain ⟨C',hy'⟩:=hget' y C hy
  obtain ⟨D',hz'⟩:=hget' z D hz
  exact e.disj y z C' D' b' M M' hy' hz' hby hbz
 ·intro a c hi
  have h0:=e.imm a c hi
  have hne:a.block≠b:=by
   rintro rfl
   exact e.sep a c x B N hi hx hb
  simpa [World.cell?,hh _ hne] using h0
 ·intro a c y C M hi hy hb'
  obtain ⟨C',hy'⟩:=hget' y C hy
  exact e.sep a c y C' M hi hy' hb'
 ·intro i _ hn
  refine hh i ?_
  rintro rfl
  exact hn ⟨x,B,N,hx,hb⟩
 ·rintro i ⟨y,C,M,hy,hb'⟩
  obtain ⟨C',hy'⟩:=hget' y C hy
  exact .inl ⟨y,C',M,hy',hb'⟩
theorem Z14 {E:Env} {h:Z9} {w:World} (e:Emb E h w) (hn:h'.next=h.next) (hg:∀x B,h'.get x=some B->h.get x=some B):Evo E h w E h' w:=
 ⟨.refl E,⟨fun x hx=>e.fresh x (hn▸hx),fun x B hx=>hn▸e.lt x B (hg x B hx),fun x B hx=>e.own x B (hg x B hx),
  fun x y B B' b N N' hx hy=>e.disj x y B B' b N N' (hg x B hx) (hg y B' hy),e.imm,fun a c x B N hi hx=>e.sep a c x B N hi (hg x B hx)⟩,
  J5 _,rfl,rfl,⟨rfl,J5 _⟩,fun _ _ _=>rfl,fun _ ⟨x,B,N,hx,hb⟩=>.inl ⟨x,B,N,hg x B hx,hb⟩,fun _ _ h=>h⟩
theorem Z0M {E:Env} {h:Z9} {w:World} (e:Emb E h w) (x:Nat):Evo E h w E (h.del x) w:=
 Z14 e rfl fun y B hy=>by
  by_cases hn:x=y
  ·subst hn;rw [Z9.get_del_same] at hy;cases hy
  ·rw [Z9.get_del_other _ _ _ hn] at hy;exact hy
def Ys:Nat->List AV->Option (List AV)
 | 0,cs=>some cs
 | _+1,[]=>none
 | n+1,.arr _ m _::r=>match Nat.ble m (n+1) with|true=>Ys (n+1-m) r|false=>none
 | n+1,_::r=>Ys n r
termination_by structural _ cs=>cs
def takeC:Nat->List AV->Option (List AV)
 | 0,_=>some []
 | _+1,[]=>none
 | n+1,.arr k m xs::r=>match Nat.ble m (n+1) with
  | true=>match takeC (n+1-m) r with
   | some cs=>some (.arr k m xs::cs)
   | none=>none
  | false=>none
 | n+1,v::r=>match takeC n r with
  | some cs=>some (v::cs)
  | none=>none
termination_by structural _ cs=>cs
theorem Zn.cons_cell {E:Env} {r:List AV} (h:Zn E (v::r) vs) (hv:∀k m xs,v≠.arr k m xs):
  ∃c ws,vs=c::ws/\v.isCell=true/\c.oneCell'=true/\Zc E v c/\Zn E r ws:=by
 cases h with
 | one v c vs cs h0 h1 h t=>exact ⟨c,cs,rfl,h0,h1,h,t⟩
 | arr k n xs vs cs t=>exact absurd rfl (hv k n xs)
theorem Zn.cons_arr {E:Env} {k:IntKind} {m:Nat} {r:List AV} (h:Zn E (.arr k m xs::r) vs):
  ∃ws,vs=intCells k m xs++ws/\Zn E r ws:=by
 cases h with
 | one v c vs cs h0 h1 h t=>simp [AV.isCell] at h0
 | arr k n xs vs cs t=>exact ⟨cs,rfl,t⟩
theorem WM {m n:Nat} (h:Nat.ble m n=true):m<=n:=Jh h
theorem ZQ {E:Env}:∀(cs:List AV) (n:Nat) (rest:List AV) (vs:List Value),Ys n cs=some rest->Zn E cs vs->Zn E rest (vs.drop n)/\n<=vs.length:=by
 intro cs
 induction cs with
 | nil=>
  intro n rest vs h hc
  cases n with
  | zero=>simp [Ys] at h;subst h;exact ⟨by simpa using hc,JI _⟩
  | succ n=>simp [Ys] at h
 | cons v r ih=>
  intro n rest vs h hc
  cases n with
  | zero=>simp [Ys] at h;subst h;exact ⟨by simpa using hc,JI _⟩
  | succ n=>
   by_cases hv:∃k m xs,v=.arr k m xs
   ·obtain ⟨k,m,xs,rfl⟩:=hv
    obtain ⟨ws,rfl,hr⟩:=hc.cons_arr
    simp only [Ys] at h
    split at h
    ·rename_i hb
     have hm:=WM hb
     obtain ⟨h1,h2⟩:=ih _ _ _ h hr
     refine ⟨?_,by simp [Z8];omega⟩
     rw [List.drop_append,List.drop_of_length_le (by simp [Z8];omega),List.nil_append,Z8]
     exact h1
    ·cases h
   ·have hv':∀k m xs,v≠.arr k m xs:=fun k m xs e=>hv ⟨k,m,xs,e⟩
    obtain ⟨c,ws,rfl,_,_,_,hr⟩:=hc.cons_cell hv'
    have h':Ys n r=some rest:=by
     cases v<;>first|exact h|exact absurd rfl (hv' _ _ _)
    obtain ⟨h1,h2⟩:=ih _ _ _ h' hr
    exact ⟨by simpa using h1,by simp;omega⟩
theorem WS {E:Env}:∀(cs:List AV) (n:Nat) (rest:List AV) (vs:List Value),takeC n cs=some rest->Zn E cs vs->Zn E rest (vs.take n)/\n<=vs.length:=by
 intro cs
 induction cs with
 | nil=>
  intro n rest vs h hc
  cases n with
  | zero=>simp [takeC] at h;subst h;exact ⟨by simpa using Zn.nil,JI _⟩
  | succ n=>simp [takeC] at h
 | cons v r ih=>
  intro n rest vs h hc
  cases n with
  | zero=>simp [takeC] at h;subst h;exact ⟨by simpa using Zn.nil,JI _⟩
  | succ n=>
   by_cases hv:∃k m xs,v=.arr k m xs
   ·obtain ⟨k,m,xs,rfl⟩:=hv
    obtain ⟨ws,rfl,hr⟩:=hc.cons_arr
    simp only [takeC] at h
    split at h
    ·rename_i hb
     have hm:=WM hb
     split at h
     ·rename_i cs' hcs
      injection h with h
      subst h
      obtain ⟨h1,h2⟩:=ih _ _ _ hcs hr
      refine ⟨?_,by simp [Z8];omega⟩
      rw [List.take_append,K8 (by simp [Z8];omega),Z8]
      exact .arr k m xs _ _ h1
     ·cases h
    ·cases h
   ·have hv':∀k m xs,v≠.arr k m xs:=fun k m xs e=>hv ⟨k,m,xs,e⟩
    obtain ⟨c,ws,rfl,h0,h1c,hvr,hr⟩:=hc.cons_cell hv'
    have h':∃cs',takeC n r=some cs'/\rest=v::cs':=by
     cases v<;>first
      | exact absurd rfl (hv' _ _ _)
      | (simp only [takeC] at h;split at h<;>first|(rename_i cs' hcs;injection h with h;exact ⟨cs',hcs,h.symm⟩)|cases h)
    obtain ⟨cs',hcs,rfl⟩:=h'
    obtain ⟨h1,h2⟩:=ih _ _ _ hcs hr
    exact ⟨by simpa using Zn.one v c _ _ h0 h1c hvr h1,by simp;omega⟩
def Vw (P:Program) (t:TypeId):Option Bool:=
 match P.underlying t with
 | some (.struct _)=>some true
 | some (.array _ _)=>some true
 | some _=>some false
 | none=>none
def ZV (P:Program) (t:TypeId):Option Nat:=match P.info? t with|some i=>some i.size|none=>none
theorem WT {P:Program} {t:TypeId} {b:Bool} (h:Vw P t=some b) (w:World):(isAgg t).run P w=.ok b w:=by
 unfold Vw at h
 unfold isAgg underlying
 simp only [J6,run_program,J4]
 cases hu:P.underlying t with
 | none=>simp [hu] at h
 | some d=>
  simp only [hu] at h
  cases d<;>simp_all
theorem run_sizeOf {P:Program} {t:TypeId} {n:Nat} (h:ZV P t=some n) (w:World):(sizeOf t).run P w=.ok n w:=by
 unfold ZV at h
 unfold sizeOf typeInfo
 simp only [J6,run_program,J4]
 cases hu:P.info? t with
 | none=>simp [hu] at h
 | some d=>simp [hu] at h;simp [h]
theorem XR {P:Program} {t:TypeId} (w:World) (a:Addr) (cs:List Value) (h:Vw P t=some true) (hs:ZV P t=some cs.length)
  (hc:∀(j:Nat) v,cs[j]? =some v->w.cell? (a.add j)=some v):(loadVar t a).run P w=.ok (.agg cs.toArray) w:=by
 unfold loadVar
 simp only [J6,WT h,J4,if_true,run_sizeOf hs,run_loadCells_list w a cs hc,Ji]
theorem XS {P:Program} {t:TypeId} (w:World) (a:Addr) (c:Value) (h:Vw P t=some false) (hc:w.cell? a=some c):(loadVar t a).run P w=.ok c w:=by
 unfold loadVar
 simp [J6,WT h,hc]
def Z3q (s:Nat) (cs:List AV) (inn:Nat) (K:AV->Prop):Prop:=
 match inn with
 | 0=>match takeC s cs with
  | some front=>K (.agg front)
  | none=>False
 | _+1=>False
def Z4q (P:Program) (t:TypeId) (cs:List AV) (inn:Nat) (K:AV->Prop):Prop:=
 match Vw P t with
 | none=>False
 | some true=>
  match ZV P t with
  | none=>False
  | some s=>
   match cs with
   | .arr k n xs::r=>
    match Nat.blt s n with
    | true=>Z6 (inn+s<=n) (K (.agg [.arr k s ((xs.drop inn).take s)]))
    | false=>Z3q s (.arr k n xs::r) inn K
   | cs=>Z3q s cs inn K
 | some false=>
  match cs with
  | []=>False
  | .arr k n xs::_=>Z6 (inn<n) (K (.int k (xs.getD inn 0)))
  | v::_=>match inn with
   | 0=>K v
   | _+1=>False
theorem Zj {k:IntKind} {n i:Nat} (h:i<n):(intCells k n xs)[i]? =some (.int k (xs.getD i 0)):=by
 simp [intCells,h]
theorem Ya {k:IntKind} {n i:Nat} (h:n<=i):(intCells k n xs)[i]? =none:=by
 simp [intCells,h]
theorem Xl (xs:LI) (inn s i:Nat) (h:i<s):((xs.drop inn).take s).getD i 0=xs.getD (inn+i) 0:=by
 simp only [J2,Jy,Jf,h,if_true]
theorem Addr.add_add (a:Addr) (m n:Nat):(a.add m).add n=a.add (m+n):=by
 unfold Addr.add
 by_cases hm:m=0
 ·subst hm;simp
 ·by_cases hn:n=0
  ·subst hn;simp
  ·rw [if_neg hm,if_neg hn,if_neg (by omega)];simp [Nat.add_assoc]
theorem Z15 {P:Program} {t:TypeId} {inn:Nat} {K:AV->Prop} (h:Z4q P t cs inn K):
  ∃v,K v/\∀(E:Env) (w:World) (a:Addr) (vs:List Value),Zn E cs vs->(∀(j:Nat) c,vs[j]? =some c->w.cell? (a.add j)=some c)->
   ∃r,(loadVar t (a.add inn)).run P w=.ok r w/\Zc E v r:=by
 unfold Z4q at h
 cases hag:Vw P t with
 | none=>simp [hag] at h
 | some ag=>
  rw [hag] at h
  cases ag with
  | true=>
   simp only at h
   cases hsz:ZV P t with
   | none=>simp [hsz] at h
   | some s=>
    rw [hsz] at h
    simp only at h
    have whole:∀(front:List AV),takeC s cs=some front->inn=0->K (.agg front)->
      ∃v,K v/\∀(E:Env) (w:World) (a:Addr) (vs:List Value),Zn E cs vs->(∀(j:Nat) c,vs[j]? =some c->w.cell? (a.add j)=some c)->
       ∃r,(loadVar t (a.add inn)).run P w=.ok r w/\Zc E v r:=by
     intro front hf hi hK
     subst hi
     refine ⟨_,hK,fun E w a vs hc hv=> ?_⟩
     obtain ⟨h1,h2⟩:=WS cs s front vs hf hc
     refine ⟨.agg (vs.take s).toArray, ?_,.agg _ _ h1⟩
     have h0:a.add 0=a:=rfl
     rw [h0]
     refine XR w a (vs.take s) hag (by rw [hsz];simp;omega) (fun j c hj=>hv j c ?_)
     rw [Jy] at hj
     split at hj
     ·exact hj
     ·cases hj
    have other:Z3q s cs inn K->
      ∃v,K v/\∀(E:Env) (w:World) (a:Addr) (vs:List Value),Zn E cs vs->(∀(j:Nat) c,vs[j]? =some c->w.cell? (a.add j)=some c)->
       ∃r,(loadVar t (a.add inn)).run P w=.ok r w/\Zc E v r:=by
     intro h
     unfold Z3q at h
     cases inn with
     | succ n=>exact h.elim
     | zero=>
      simp only at h
      cases hf:takeC s cs with
      | none=>simp [hf] at h
      | some front=>rw [hf] at h;exact whole front hf rfl h
    cases cs with
    | nil=>exact other h
    | cons v r=>
     by_cases hv:∃k m xs,v=.arr k m xs
     ·obtain ⟨k,n,xs,rfl⟩:=hv
      simp only at h
      cases hb:Nat.blt s n with
      | false=>rw [hb] at h;exact other h
      | true=>
       rw [hb] at h
       obtain ⟨hle,hK⟩:=Zb h
       refine ⟨_,hK,fun E w a vs hc hv=> ?_⟩
       obtain ⟨ws,rfl,_⟩:=hc.cons_arr
       refine ⟨.agg (intCells k s ((xs.drop inn).take s)).toArray, ?_,.agg _ _ (by simpa using Zn.arr k s ((xs.drop inn).take s) [] [] .nil)⟩
       refine XR w (a.add inn) _ hag (by rw [hsz,Z8]) (fun j c hj=> ?_)
       rw [Addr.add_add]
       rcases J7 j s with hjs|hjs
       ·rw [Zj hjs,Xl _ _ _ _ hjs] at hj
        apply hv
        rw [J8 (by rw [Z8];omega),Zj (by omega)]
        exact hj
       ·rw [Ya hjs] at hj;cases hj
     ·have hv':∀k m xs,v≠.arr k m xs:=fun k m xs e=>hv ⟨k,m,xs,e⟩
      apply other
      cases v<;>first|exact h|exact absurd rfl (hv' _ _ _)
  | false=>
   simp only at h
   cases cs with
   | nil=>exact h.elim
   | cons v r=>
    by_cases hv:∃k m xs,v=.arr k m xs
    ·obtain ⟨k,n,xs,rfl⟩:=hv
     obtain ⟨hlt,hK⟩:=Zb h
     refine ⟨_,hK,fun E w a vs hc hv=> ?_⟩
     obtain ⟨ws,rfl,_⟩:=hc.cons_arr
     refine ⟨_,XS w _ _ hag (hv inn _ ?_),.int k (xs.getD inn 0)⟩
     rw [J8 (by rw [Z8];omega),Zj hlt]
    ·have hv':∀k m xs,v≠.arr k m xs:=fun k m xs e=>hv ⟨k,m,xs,e⟩
     have h':inn=0/\K v:=by
      cases v<;>first
       | exact absurd rfl (hv' _ _ _)
       | (cases inn with
         | zero=>exact ⟨rfl,h⟩
         | succ n=>exact h.elim)
     obtain ⟨rfl,hK⟩:=h'
     refine ⟨v,hK,fun E w a vs hc hv=> ?_⟩
     obtain ⟨c,ws,rfl,_,_,hr,_⟩:=hc.cons_cell hv'
     exact ⟨c,XS w _ _ hag (hv 0 c rfl),hr⟩
def Z6Y (P:Program) (h:Z9) (t:TypeId) (x:AV) (K:AV->Prop):Prop:=
 match x with
 | .pview cs inn=>Z4q P t cs inn K
 | .ptr (some p)=>
  match h.get p.blk with
  | some (.flat cs)=>match p.row with
   | 0=>match Ys p.off cs with
    | some rest=>Z4q P t rest p.inn K
    | none=>False
   | _+1=>False
  | some (.ints k xs)=>match p.row,p.off with
   | 0,0=>match Vw P t,ZV P t with
    | some true,some s=>Z6 (p.inn+s<=xs.length) (K (.agg [.arr k s ((xs.drop p.inn).take s)]))
    | some false,_=>Z6 (p.inn<xs.length) (K (.int k (xs.getD p.inn 0)))
    | _,_=>False
   | _,_=>False
  | some (.rows sz n f)=>match Nat.beq sz p.sz with
   | true=>Z6 (p.row<n) (match Ys p.off (f p.row) with
    | some rest=>Z4q P t rest p.inn K
    | none=>False)
   | false=>False
  | _=>False
 | _=>False
theorem cell_of_heap {w:World} {b:Nat} {cells:Array Value} {elem:TypeId} {fr:Nat×Nat} (h:w.heap[b]? =some (.cells cells elem fr)) (o:Nat):w.cell? ⟨b,o,none⟩=cells[o]?:=by
 simp [World.cell?,h]
theorem YY (b o n:Nat):(⟨b,o,none⟩:Addr).add n=⟨b,o+n,none⟩:=by
 unfold Addr.add;split<;>simp_all
theorem Z4r {P:Program} {h:Z9} {t:TypeId} {x:AV} {K:AV->Prop} (hl:Z6Y P h t x K):
  ∃v,K v/\∀(E:Env) (w:World) (r:Value),Emb E h w->Zc E x r->∃a r',r=.pointer (some a)/\(loadVar t a).run P w=.ok r' w/\Zc E v r':=by
 unfold Z6Y at hl
 cases x with
 | pview cs inn=>
  obtain ⟨v,hK,hv⟩:=Z15 hl
  refine ⟨v,hK,fun E w r he hx=> ?_⟩
  cases hx with
  | pview cs inn a vs hc hi=>
   obtain ⟨r',h1,h2⟩:=hv E w a vs (hc.mono E.views_le) (fun j c hj=>he.imm _ _ (hi j c hj))
   exact ⟨_,r',rfl,h1,h2⟩
 | ptr p=>
  cases p with
  | none=>exact hl.elim
  | some p=>
   simp only at hl
   cases hg:h.get p.blk with
   | none=>simp [hg] at hl
   | some B=>
    rw [hg] at hl
    cases B with
    | flat cs=>
     simp only at hl
     cases hrow:p.row with
     | succ n=>simp [hrow] at hl
     | zero=>
      rw [hrow] at hl
      simp only at hl
      cases hd:Ys p.off cs with
      | none=>simp [hd] at hl
      | some rest=>
       rw [hd] at hl
       obtain ⟨v,hK,hv⟩:=Z15 hl
       refine ⟨v,hK,fun E w r he hx=> ?_⟩
       cases hx with
       | ptr p b N hb=>
        have hB:=he.own _ _ hg
        cases hB with
        | flat0 cs h0 hn=>rw [hn] at hb;cases hb
        | flat cs b' cells elem fr vs hb' hw hf hc hvv=>
         rw [hb'] at hb
         injection hb with hb
         injection hb with h1 h2
         subst h1
         obtain ⟨hr,hle⟩:=ZQ cs p.off rest vs hd hc
         obtain ⟨r',h1,h2⟩:=hv E w ⟨b',p.off,none⟩ _ hr (fun j c hj=>by
          rw [YY,cell_of_heap hw]
          apply hvv
          rw [Jf] at hj
          exact hj)
         rw [YY] at h1
         refine ⟨_,r',rfl, ?_,h2⟩
         have:p.tot=p.off+p.inn:=by simp [ZN.tot,hrow]
         rw [this]
         exact h1
    | ints k xs=>
     simp only at hl
     cases hrow:p.row with
     | succ n=>simp [hrow] at hl
     | zero=>
      cases hoff:p.off with
      | succ n=>simp [hrow,hoff] at hl
      | zero=>
       simp only [hrow,hoff] at hl
       have htot:p.tot=p.inn:=by simp [ZN.tot,hrow,hoff]
       cases hag:Vw P t with
       | none=>simp [hag] at hl
       | some ag=>
        cases ag with
        | true=>
         cases hsz:ZV P t with
         | none=>simp [hag,hsz] at hl
         | some s=>
          simp only [hag,hsz] at hl
          obtain ⟨hle,hK⟩:=Zb hl
          refine ⟨_,hK,fun E w r he hx=> ?_⟩
          cases hx with
          | ptr p b N hb=>
           have hB:=he.own _ _ hg
           cases hB with
           | ints0 k xs h0 hn=>rw [hn] at hb;cases hb
           | ints k xs b' cells elem fr hb' hw hf hvv=>
            rw [hb'] at hb
            injection hb with hb
            injection hb with h1 h2
            subst h1
            refine ⟨_,.agg (intCells k s ((xs.drop p.inn).take s)).toArray,rfl, ?_,.agg _ _ (by simpa using Zn.arr k s ((xs.drop p.inn).take s) [] [] .nil)⟩
            rw [htot]
            refine XR w _ _ hag (by rw [hsz,Z8]) (fun j c hj=> ?_)
            rw [YY,cell_of_heap hw]
            rcases J7 j s with hjs|hjs
            ·rw [Zj hjs,Xl _ _ _ _ hjs] at hj
             rw [hvv _ (by omega)];exact hj
            ·rw [Ya hjs] at hj;cases hj
        | false=>
         simp only [hag] at hl
         obtain ⟨hle,hK⟩:=Zb hl
         refine ⟨_,hK,fun E w r he hx=> ?_⟩
         cases hx with
         | ptr p b N hb=>
          have hB:=he.own _ _ hg
          cases hB with
          | ints0 k xs h0 hn=>rw [hn] at hb;cases hb
          | ints k xs b' cells elem fr hb' hw hf hvv=>
           rw [hb'] at hb
           injection hb with hb
           injection hb with h1 h2
           subst h1
           refine ⟨_,_,rfl,XS w _ _ hag ?_,.int k (xs.getD p.inn 0)⟩
           rw [htot,cell_of_heap hw]
           exact hvv _ hle
    | rows sz n f=>
     simp only at hl
     cases hbs:Nat.beq sz p.sz with
     | false=>simp [hbs] at hl
     | true=>
      rw [hbs] at hl
      have hsz:sz=p.sz:=J0 hbs
      obtain ⟨hrow,hl⟩:=Zb hl
      cases hd:Ys p.off (f p.row) with
      | none=>simp [hd] at hl
      | some rest=>
       rw [hd] at hl
       obtain ⟨v,hK,hv⟩:=Z15 hl
       refine ⟨v,hK,fun E w r he hx=> ?_⟩
       cases hx with
       | ptr p b N hb=>
        have hB:=he.own _ _ hg
        cases hB with
        | rows0 sz n f h0 hn=>rw [hn] at hb;cases hb
        | rows sz n f b' cells elem fr g hb' hw hf hc hlen hvv=>
         rw [hb'] at hb
         injection hb with hb
         injection hb with h1 h2
         subst h1
         obtain ⟨hr,hle⟩:=ZQ _ p.off rest _ hd (hc _ hrow)
         obtain ⟨r',h1,h2⟩:=hv E w ⟨b',p.row*p.sz+p.off,none⟩ _ hr (fun j c hj=>by
          rw [YY,cell_of_heap hw]
          rw [Jf] at hj
          have:=hvv p.row _ c hrow hj
          rw [hsz] at this
          rw [Nat.add_assoc]
          exact this)
         rw [YY] at h1
         exact ⟨_,r',rfl,h1,h2⟩
    | map es=>exact hl.elim
    | fmap n kf vf=>exact hl.elim
    | pmap es=>exact hl.elim
    | loop l=>exact hl.elim
    | defd=>exact hl.elim
 | _=>exact hl.elim
def YL (cells:Array Value):Nat->List Value->Array Value
 | _,[]=>cells
 | o,v::r=>YL (cells.setIfInBounds o v) (o+1) r
theorem Y3:∀(vs:List Value) (o:Nat) (cells:Array Value),(YL cells o vs).size=cells.size
 | [],_,_=>rfl
 | v::r,o,cells=>by simp [YL,Y3 r]
theorem X3:∀(vs:List Value) (o:Nat) (cells:Array Value) (j:Nat),o+vs.length<=cells.size->j<vs.length->(YL cells o vs)[o+j]? =vs[j]?
 | [],_,_,_,_,h=>by simp at h
 | v::r,o,cells,j,hl,hj=>by
  simp only [YL]
  simp only [Jw] at hl hj
  cases j with
  | zero=>
   have out:∀(vs:List Value) (p:Nat) (cs:Array Value) (i:Nat),i<p->(YL cs p vs)[i]? =cs[i]?:=by
    intro vs
    induction vs with
    | nil=>intro p cs i _;rfl
    | cons u s ih=>intro p cs i hi;simp only [YL];rw [ih (p+1) _ i (by omega)];rw [Jk];rw [if_neg (by omega)]
   rw [show o+0=o from rfl,out r (o+1) _ o (by omega)]
   simp [Jk];omega
  | succ j=>
   have:=X3 r (o+1) (cells.setIfInBounds o v) j (by simp;omega) (by omega)
   rw [show o+(j+1)=o+1+j by omega,this]
   simp
theorem YF:∀(vs:List Value) (o:Nat) (cells:Array Value) (j:Nat),(j<o\/o+vs.length<=j)->(YL cells o vs)[j]? =cells[j]?
 | [],_,_,_,_=>rfl
 | v::r,o,cells,j,h=>by
  simp only [Jw] at h
  simp only [YL]
  rw [YF r (o+1) _ j (by omega),Jk,if_neg (by omega)]
theorem YG:∀(vs:List Value) (o:Nat) (w:World) (b:Nat) (cells:Array Value) (elem:TypeId) (fr:Nat×Nat),w.heap[b]? =some (.cells cells elem fr)->
  (w.setCells b o vs).heap[b]? =some (.cells (YL cells o vs) elem fr)/\(∀i,i≠b->(w.setCells b o vs).heap[i]? =w.heap[i]?)/\(w.setCells b o vs).heap.size=w.heap.size/\
   (w.setCells b o vs).os=w.os/\(w.setCells b o vs).tape=w.tape/\((w.setCells b o vs).output=w.output/\w.drawn<=(w.setCells b o vs).drawn)
 | [],_,w,b,cells,elem,fr,h=>⟨h,fun _ _=>rfl,rfl,rfl,rfl,rfl,J5 _⟩
 | v::r,o,w,b,cells,elem,fr,h=>by
  have h1:(w.setCell ⟨b,o,none⟩ v).heap[b]? =some (.cells (cells.setIfInBounds o v) elem fr):=by
   simp [World.setCell,Array.getElem?_modify,h]
  obtain ⟨a1,a2,a3,a4,a5,a6⟩:=YG r (o+1) (w.setCell ⟨b,o,none⟩ v) b _ elem fr h1
  refine ⟨a1,fun i hi=>(a2 i hi).trans ?_,a3.trans ?_,a4,a5,a6⟩
  ·simp [World.setCell,Array.getElem?_modify,Ne.symm hi]
  ·simp [World.setCell]
def X8:AV->Option (List AV)
 | .agg cs=>some cs
 | .tuple _|.arr _ _ _|.top=>none
 | v=>some [v]
theorem Zn.all_one {E:Env}:∀{cs:List AV} {vs:List Value},Zn E cs vs->∀v∈vs,v.oneCell'=true
 | _,_,.nil=>by simp
 | _,_,.one v c vs cs h0 h1 h t=>by
  intro x hx
  rcases J9.1 hx with rfl|hx
  ·exact h1
  ·exact Zn.all_one t x hx
 | _,_,.arr k n xs vs cs t=>by
  intro x hx
  rcases Jr.1 hx with hx|hx
  ·simp [intCells] at hx
   obtain ⟨i,_,rfl⟩:=hx
   rfl
  ·exact Zn.all_one t x hx
theorem W0 {E:Env} {r:Value} (h:X8 v=some cs) (hv:Zc E v r):Zn E cs r.cells.toList:=by
 cases hv with
 | agg cs' vs hc=>simp [X8] at h;subst h;simpa [Value.cells] using hc
 | top v=>simp [X8] at h
 | tuple vs rs ht=>simp [X8] at h
 | _=>
  simp [X8] at h
  subst h
  simp only [Value.cells]
  refine Zn.one _ _ [] [] rfl rfl ?_ .nil
  first
   | exact .bool _
   | exact .int _ _
   | exact .str _
   | exact .nilptr
   | (exact .ptr _ _ _ ‹_›)
   | (exact .pview _ _ _ _ ‹_› ‹_›)
   | (exact .nslice0 _ _ _ _ _ ‹_› ‹_›)
   | (exact .nslice _ _ _ _ _ _ _ ‹_› ‹_› ‹_› ‹_›)
   | (exact .vintsNil _ _ _ ‹_› ‹_›)
   | (exact .vints _ _ _ _ _ ‹_› ‹_› ‹_›)
   | (exact .vrowsNil _ _ _ _ ‹_› ‹_›)
   | (exact .vrows _ _ _ _ _ _ _ ‹_› ‹_› ‹_› ‹_› ‹_›)
   | exact .eslice _
   | exact .fslice _ _
   | exact .nilslice
   | exact .nilmap
   | (exact .map _ _ _ ‹_›)
   | (exact .func _ _ _ _ _ ‹_› ‹_›)
   | (exact .yield _ _ _ ‹_›)
   | exact .nilFunc
   | exact .nilIface
   | (exact .iface _ _ _ ‹_›)
def Qd (inn:Nat) (news cs:List AV) (K:List AV->Prop):Prop:=
 match inn with
 | 0=>match Ys (csz news) cs with
  | some r=>K (news++r)
  | none=>False
 | _+1=>False
def Z8Q (inn:Nat) (news cs:List AV) (K:List AV->Prop):Prop:=
 match news,cs with
 | [.int k v],.arr k' n xs::r=>Z6 (k=k'/\inn<n/\inn<xs.length) (K (.arr k' n (xs.set inn v)::r))
 | [.arr k s ys],.arr k' n xs::r=>match Nat.blt s n with
  | true=>Z6 (k=k'/\inn+s<=n/\n=xs.length/\s=ys.length) (K (.arr k' n (xs.take inn++ys++xs.drop (inn+s))::r))
  | false=>Qd inn [.arr k s ys] (.arr k' n xs::r) K
 | news,cs=>Qd inn news cs K
def Z16:Nat->Nat->List AV->List AV->(List AV->Prop)->Prop
 | 0,inn,news,cs,K=>Z8Q inn news cs K
 | _+1,_,_,[],_=>False
 | n+1,inn,news,.arr k m xs::r,K=>match Nat.ble m (n+1) with
  | true=>Z16 (n+1-m) inn news r fun r'=>K (.arr k m xs::r')
  | false=>False
 | n+1,inn,news,v::r,K=>Z16 n inn news r fun r'=>K (v::r')
termination_by structural _ _ _ cs=>cs
theorem Zn.append {E:Env}:∀{cs ds:List AV} {vs ws:List Value},Zn E cs vs->Zn E ds ws->Zn E (cs++ds) (vs++ws)
 | _,_,_,_,.nil,h=>h
 | _,_,_,_,.one v c vs cs h0 h1 h t,k=>.one v c _ _ h0 h1 h (Zn.append t k)
 | _,_,_,_,.arr k n xs vs cs t,k'=>by rw [JC];exact .arr k n xs _ _ (Zn.append t k')
def Yc (vs:List Value) (o:Nat) (ws:List Value):List Value:=vs.take o++ws++vs.drop (o+ws.length)
theorem Wy {i:Nat} (h:i<xs.length):(xs++ys).getD i 0=xs.getD i 0:=by
 simp [J2,J8 h]
theorem Wd {i:Nat} (h:xs.length<=i):(xs++ys).getD i 0=ys.getD (i-xs.length) 0:=by
 simp [J2,Jb h]
theorem Z0A (k:IntKind) (n s inn:Nat) (xs ys:LI) (h1:inn+s<=n) (h2:n=xs.length) (h3:s=ys.length):
  intCells k n (xs.take inn++ys++xs.drop (inn+s))=(intCells k n xs).take inn++intCells k s ys++(intCells k n xs).drop (inn+s):=by
 apply Kc
 intro i
 rcases J7 i n with hi|hi
 ·rw [Zj hi]
  rcases J7 i inn with ha|ha
  ·rw [JC,Wy (by simp;omega),JC,J8 (by simp [Z8];omega),Jy,if_pos ha,Zj hi]
   simp [J2,ha]
  ·rcases J7 i (inn+s) with hb|hb
   ·rw [Wy (by simp;omega),Wd (by simp;omega),J8 (by simp [Z8];omega),Jb (by simp [Z8];omega)]
    have e1:(xs.take inn).length=inn:=by simp;omega
    have e2:((intCells k n xs).take inn).length=inn:=by simp [Z8];omega
    rw [e1,e2,Zj (by omega)]
   ·rw [Wd (by simp;omega),Jb (by simp [Z8];omega)]
    have e1:(xs.take inn++ys).length=inn+s:=by simp;omega
    have e2:((intCells k n xs).take inn++intCells k s ys).length=inn+s:=by simp [Z8];omega
    rw [e1,e2,Jf,show inn+s+(i-(inn+s))=i by omega,Zj hi]
    simp [J2,Jf,show inn+s+(i-(inn+s))=i by omega]
 ·rw [Ya hi,Jl]
  simp [Z8];omega
theorem Qe (k:IntKind) (n inn:Nat) (xs:LI) (v:Int) (h1:inn<n) (h2:inn<xs.length):
  intCells k n (xs.set inn v)=(intCells k n xs).take inn++[Value.int k v]++(intCells k n xs).drop (inn+1):=by
 apply Kc
 intro i
 rcases J7 i n with hi|hi
 ·rw [Zj hi]
  rcases Nat.lt_trichotomy i inn with ha|ha|ha
  ·rw [JC,J8 (by simp [Z8];omega),Jy,if_pos ha,Zj hi]
   simp only [J2,K3];rw [if_neg (by omega)]
  ·subst ha
   have e2:((intCells k n xs).take i).length=i:=by simp [Z8];omega
   rw [JC,Jb (by rw [e2];exact J5 _),e2]
   simp [J2,h2]
  ·have e2:((intCells k n xs).take inn++[Value.int k v]).length=inn+1:=by simp [Z8];omega
   rw [Jb (by rw [e2];omega),e2,Jf,show inn+1+(i-(inn+1))=i by omega,Zj hi]
   simp only [J2,K3];rw [if_neg (by omega)]
 ·rw [Ya hi,Jl]
  simp [Z8];omega
theorem Qf {inn:Nat} {news:List AV} {K:List AV->Prop} (h:Qd inn news cs K):
  ∃cs',K cs'/\∀(E:Env) (vs ws:List Value),Zn E cs vs->Zn E news ws->inn+ws.length<=vs.length/\Zn E cs' (Yc vs inn ws):=by
 unfold Qd at h
 cases inn with
 | succ n=>exact h.elim
 | zero=>
  simp only at h
  cases hd:Ys (csz news) cs with
  | none=>simp [hd] at h
  | some r=>
   rw [hd] at h
   refine ⟨_,h,fun E vs ws hc hn=> ?_⟩
   have hl:=hn.length
   obtain ⟨h1,h2⟩:=ZQ cs _ r vs hd hc
   refine ⟨by omega, ?_⟩
   simp only [Yc,List.take_zero,List.nil_append,JE,hl]
   exact hn.append h1
theorem Z4s {inn:Nat} {news:List AV} {K:List AV->Prop} (h:Z8Q inn news cs K):
  ∃cs',K cs'/\∀(E:Env) (vs ws:List Value),Zn E cs vs->Zn E news ws->inn+ws.length<=vs.length/\Zn E cs' (Yc vs inn ws):=by
 unfold Z8Q at h
 split at h
 ·rename_i k v k' n xs r
  obtain ⟨⟨rfl,h1,h2⟩,hK⟩:=Zb h
  refine ⟨_,hK,fun E vs ws hc hn=> ?_⟩
  obtain ⟨vs',rfl,hr⟩:=hc.cons_arr
  obtain ⟨c,ws',rfl,_,_,hv,hw⟩:=hn.cons_cell (by simp)
  cases hw
  cases hv
  refine ⟨by simp [Z8];omega, ?_⟩
  have e:Yc (intCells k n xs++vs') inn [Value.int k v]=intCells k n (xs.set inn v)++vs':=by
   rw [Qe k n inn xs v h1 h2]
   simp only [Yc,Jw,JK,JE]
   rw [List.take_append_of_le_length (by simp [Z8];omega),List.drop_append_of_le_length (by simp [Z8];omega)]
   simp
  rw [e]
  exact .arr k n _ _ _ hr
 ·rename_i k s ys k' n xs r
  split at h
  ·obtain ⟨⟨rfl,h1,h2,h3⟩,hK⟩:=Zb h
   refine ⟨_,hK,fun E vs ws hc hn=> ?_⟩
   obtain ⟨vs',rfl,hr⟩:=hc.cons_arr
   obtain ⟨ws',rfl,hw⟩:=hn.cons_arr
   cases hw
   refine ⟨by simp [Z8];omega, ?_⟩
   have e:Yc (intCells k n xs++vs') inn (intCells k s ys++[])=intCells k n (xs.take inn++ys++xs.drop (inn+s))++vs':=by
    rw [Z0A k n s inn xs ys h1 h2 h3]
    simp only [Yc,JU,Z8]
    rw [List.take_append_of_le_length (by simp [Z8];omega),List.drop_append_of_le_length (by simp [Z8];omega)]
    simp
   rw [e]
   exact .arr k n _ _ _ hr
  ·exact Qf h
 ·exact Qf h
theorem Z17:∀(cs:List AV) (off inn:Nat) (news:List AV) (K:List AV->Prop),Z16 off inn news cs K->
  ∃cs',K cs'/\∀(E:Env) (vs ws:List Value),Zn E cs vs->Zn E news ws->off+inn+ws.length<=vs.length/\Zn E cs' (Yc vs (off+inn) ws):=by
 intro cs
 induction cs with
 | nil=>
  intro off inn news K h
  cases off with
  | zero=>
   obtain ⟨cs',hK,hr⟩:=Z4s (show Z8Q inn news [] K by simpa [Z16] using h)
   exact ⟨cs',hK,fun E vs ws hc hn=>by simpa using hr E vs ws hc hn⟩
  | succ n=>simp [Z16] at h
 | cons v r ih=>
  intro off inn news K h
  cases off with
  | zero=>
   obtain ⟨cs',hK,hr⟩:=Z4s (show Z8Q inn news (v::r) K by simpa [Z16] using h)
   exact ⟨cs',hK,fun E vs ws hc hn=>by simpa using hr E vs ws hc hn⟩
  | succ n=>
   by_cases hv:∃k m xs,v=.arr k m xs
   ·obtain ⟨k,m,xs,rfl⟩:=hv
    simp only [Z16] at h
    split at h
    ·rename_i hb
     have hm:=WM hb
     obtain ⟨cs',hK,hr⟩:=ih _ _ _ _ h
     refine ⟨_,hK,fun E vs ws hc hn=> ?_⟩
     obtain ⟨vs',rfl,hr'⟩:=hc.cons_arr
     obtain ⟨h1,h2⟩:=hr E vs' ws hr' hn
     refine ⟨by simp [Z8];omega, ?_⟩
     have e:Yc (intCells k m xs++vs') (n+1+inn) ws=intCells k m xs++Yc vs' (n+1-m+inn) ws:=by
      simp only [Yc]
      rw [List.take_append,List.drop_append,Z8,K8 (by simp [Z8];omega),List.drop_of_length_le (by simp [Z8];omega)]
      rw [show n+1+inn-m=n+1-m+inn by omega,show n+1+inn+ws.length-m=n+1-m+inn+ws.length by omega]
      simp
     rw [e]
     exact .arr k m xs _ _ h2
    ·exact h.elim
   ·have hv':∀k m xs,v≠.arr k m xs:=fun k m xs e=>hv ⟨k,m,xs,e⟩
    have h':Z16 n inn news r fun r'=>K (v::r'):=by
     cases v<;>first|exact h|exact absurd rfl (hv' _ _ _)
    obtain ⟨cs',hK,hr⟩:=ih _ _ _ _ h'
    refine ⟨_,hK,fun E vs ws hc hn=> ?_⟩
    obtain ⟨c,vs',rfl,h0,h1c,hvr,hr'⟩:=hc.cons_cell hv'
    obtain ⟨h1,h2⟩:=hr E vs' ws hr' hn
    refine ⟨by simp;omega, ?_⟩
    have e:Yc (c::vs') (n+1+inn) ws=c::Yc vs' (n+inn) ws:=by
     simp only [Yc]
     rw [show n+1+inn=(n+inn)+1 by omega,List.take_succ_cons,show n+inn+1+ws.length=(n+inn+ws.length)+1 by omega,List.drop_succ_cons]
     simp
    rw [e]
    exact .one v c _ _ h0 h1c hvr h2
def Qg (b:Bool):AV->AV->Option AV
 | .int k x,.int k' y=>match decide (k=k') with|true=>some (.int k (match b with|true=>x|false=>y))|false=>none
 | .bool x,.bool y=>some (.bool (match b with|true=>x|false=>y))
 | .arr k n xs,.arr k' n' ys=>match decide (k=k')&&Nat.beq n n' with|true=>some (.arr k n (match b with|true=>xs|false=>ys))|false=>none
 | _,_=>none
def Z18 (b:Bool):List AV->List AV->Option (List AV)
 | [],[]=>some []
 | x::r,y::s=>match Qg b x y,Z18 b r s with
  | some v,some l=>some (v::l)
  | _,_=>none
 | _,_=>none
theorem Z8R {b:Bool} {x y:AV} (h:Qg b x y=some v):v=match b with|true=>x|false=>y:=by
 cases x with
 | int k a=>cases y with
  | int k' a'=>
   simp only [Qg] at h
   by_cases hk:k=k'
   ·subst hk;simp at h;subst h;cases b<;>rfl
   ·simp [hk] at h
  | _=>simp [Qg] at h
 | bool a=>cases y with
  | bool a'=>simp [Qg] at h;subst h;cases b<;>rfl
  | _=>simp [Qg] at h
 | arr k n xs=>cases y with
  | arr k' n' ys=>
   simp only [Qg] at h
   by_cases hk:k=k'
   ·by_cases hn:n=n'
    ·subst hk hn;simp [Jg] at h;subst h;cases b<;>rfl
    ·simp [Zs hn] at h
   ·simp [hk] at h
  | _=>simp [Qg] at h
 | _=>simp [Qg] at h
theorem Z4t {b:Bool}:∀{x y l:List AV},Z18 b x y=some l->l=match b with|true=>x|false=>y
 | [],[],l,h=>by simp [Z18] at h;subst h;cases b<;>rfl
 | x::r,y::s,l,h=>by
  unfold Z18 at h
  split at h
  ·rename_i v q hv hq
   cases h
   rw [Z8R hv,Z4t hq]
   cases b<;>rfl
  ·cases h
 | [],_::_,_,h=>by simp [Z18] at h
 | _::_,[],_,h=>by simp [Z18] at h
def UI (f:Nat->List AV) (row:Nat) (new:List AV):Nat->List AV:=fun i=>match Z18 (Nat.beq i row) new (f i) with
 | some l=>l
 | none=>match Nat.beq i row with|true=>new|false=>f i
theorem W1 (f:Nat->List AV) (row:Nat) (new:List AV) (i:Nat):UI f row new i=match Nat.beq i row with|true=>new|false=>f i:=by
 unfold UI
 split
 ·rename_i l hl;exact Z4t hl
 ·rfl
def Z5v (P:Program) (h:Z9) (t:TypeId) (p:ZN) (cs:List AV) (K:Z9->Prop):Prop:=
 match ZV P t with
 | none=>False
 | some s=>match Nat.beq s (csz cs) with
  | false=>False
  | true=>match h.get p.blk with
   | some (.flat old)=>match p.row with
    | 0=>Z16 p.off p.inn cs old fun new=>K (h.set p.blk (.flat new))
    | _+1=>False
   | some (.ints k xs)=>match p.row,p.off,cs with
    | 0,0,[.int k' v]=>Z6 (k'=k/\p.inn<xs.length) (K (h.set p.blk (.ints k (xs.set p.inn v))))
    | _,_,_=>False
   | some (.rows sz n f)=>match Nat.beq sz p.sz with
    | true=>Z6 (p.row<n) (Z16 p.off p.inn cs (f p.row) fun new=>K (h.set p.blk (.rows sz n (UI f p.row new))))
    | false=>False
   | _=>False
def Z5w (P:Program) (h:Z9) (t:TypeId) (x v:AV) (K:Z9->Prop):Prop:=
 match x with
 | .ptr (some p)=>match X8 v with
  | some cs=>Z5v P h t p cs K
  | none=>False
 | _=>False
theorem Vx (vs:List Value) (o:Nat) (ws:List Value) (hl:o+ws.length<=vs.length) (j:Nat):
  (Yc vs o ws)[j]? =if o<=j/\j<o+ws.length then ws[j-o]? else vs[j]?:=by
 unfold Yc
 have e1:(vs.take o).length=o:=by simp;omega
 have e2:(vs.take o++ws).length=o+ws.length:=by simp;omega
 rcases J7 j o with h|h
 ·rw [if_neg (by omega),JC,J8 (by omega),Jy,if_pos h]
 ·rcases J7 j (o+ws.length) with h'|h'
  ·rw [if_pos ⟨h,h'⟩,J8 (by omega),Jb (by omega),e1]
  ·rw [if_neg (by omega),Jb (by omega),e2,Jf,show o+ws.length+(j-(o+ws.length))=j by omega]
theorem Xa {P:Program} {t:TypeId} (w:World) (b o:Nat) (r:Value) (cells:Array Value) (elem:TypeId) (fr:Nat×Nat) (hs:ZV P t=some r.cells.size) (hw:w.heap[b]? =some (.cells cells elem fr)) (hf:free cells fr)
  (h1:∀v∈r.cells.toList,v.oneCell'=true) (hl:o+r.cells.size<=cells.size):
  (storeVar t ⟨b,o,none⟩ r).run P w=.ok () (w.setCells b o r.cells.toList):=by
 unfold storeVar
 have hst:=run_storeCells_cells (P:=P) b o r.cells.toList 0 w (fun j hj=>by
   rw [cell_of_heap hw];simp at hj;simp;omega) (fun j hj=>by
   have:=hf (o+0+j) (by simp at hj;omega)
   simp [World.frozen?,hw];omega) h1
 simp only [J6,run_sizeOf hs,J4,ne_eq,not_true_eq_false,if_false,Ke] at hst⊢
 simpa using hst
theorem Z7P {P:Program} {h:Z9} {t:TypeId} {p:ZN} {K:Z9->Prop} (hl:Z5v P h t p cs K):
  ∃h',K h'/\∀(E:Env) (w:World) (b N:Nat) (r:Value),Emb E h w->E.blk p.blk=some (b,N)->Zn E cs r.cells.toList->
   ∃w',(storeVar t ⟨b,p.tot,none⟩ r).run P w=.ok () w'/\Evo E h w E h' w':=by
 unfold Z5v at hl
 cases hts:ZV P t with
 | none=>simp [hts] at hl
 | some s=>
  rw [hts] at hl
  simp only at hl
  cases hbs:Nat.beq s (csz cs) with
  | false=>simp [hbs] at hl
  | true=>
   rw [hbs] at hl
   have hsc:s=csz cs:=J0 hbs
   simp only at hl
   cases hg:h.get p.blk with
   | none=>simp [hg] at hl
   | some B=>
    rw [hg] at hl
    cases B with
    | flat old=>
     simp only at hl
     cases hrow:p.row with
     | succ n=>simp [hrow] at hl
     | zero=>
      rw [hrow] at hl
      simp only at hl
      obtain ⟨new,hK,hr⟩:=Z17 _ _ _ _ _ hl
      refine ⟨_,hK,fun E w b N r he hb hc=> ?_⟩
      have hB:=he.own _ _ hg
      cases hB with
      | flat0 cs h0 hn=>rw [hn] at hb;cases hb
      | flat old b' cells elem fr vs hb' hw hf hcv hvv=>
       have hbb:=hb
       rw [hb'] at hb
       injection hb with hb
       injection hb with h1 h2
       subst h1
       obtain ⟨hle,hnew⟩:=hr E vs r.cells.toList hcv hc
       have htot:p.tot=p.off+p.inn:=by simp [ZN.tot,hrow]
       have hcl:=hc.length
       have hvl:vs.length<=cells.size:=by
        rcases JG vs.length with h0|h0
        ·omega
        ·have:=hvv (vs.length-1) _ (Jd (by omega))
         rcases J7 (vs.length-1) cells.size with hh|hh
         ·omega
         ·rw [Jj hh] at this;cases this
       have hrun:=Xa (P:=P) (t:=t) w b' p.tot r cells elem fr (by rw [hts,hsc,<-hcl];simp) hw hf hc.all_one (by simp at hle;omega)
       refine ⟨_,hrun, ?_⟩
       obtain ⟨a1,a2,a3,a4,a5,a6⟩:=YG r.cells.toList p.tot w b' cells elem fr hw
       refine Xk he p.blk _ _ b' _ hg hbb a2 a3 a4 a5 a6 ?_
       refine .flat new b' (YL cells p.tot r.cells.toList) elem fr _ (by rw [Y3];exact hb') a1 (fun o ho=>hf o (by rwa [Y3] at ho)) hnew ?_
       intro j c hj
       rw [Vx _ _ _ hle] at hj
       split at hj
       ·rename_i hin
        have:=X3 r.cells.toList p.tot cells (j-p.tot) (by rw [htot];simp at hle⊢;omega) (by rw [htot];omega)
        rw [show p.tot+(j-p.tot)=j by omega] at this
        rw [this,htot];exact hj
       ·rename_i hout
        rw [YF _ _ _ _ (by rw [htot];omega)]
        exact hvv j c hj
    | ints k xs=>
     simp only at hl
     split at hl
     ·rename_i k' v hrow hoff
      obtain ⟨⟨rfl,hlt⟩,hK⟩:=Zb hl
      refine ⟨_,hK,fun E w b N r he hb hc=> ?_⟩
      have htot:p.tot=p.inn:=by simp [ZN.tot,hrow,hoff]
      have hB:=he.own _ _ hg
      cases hB with
      | ints0 k xs h0 hn=>rw [hn] at hb;cases hb
      | ints k xs b' cells elem fr hb' hw hf hvv=>
       have hbb:=hb
       rw [hb'] at hb
       injection hb with hb
       injection hb with h1 h2
       subst h1
       obtain ⟨c,ws',hrc,_,_,hv',hw'⟩:=hc.cons_cell (by simp)
       cases hw'
       cases hv'
       have hsz:r.cells.size=1:=by have:=congrArg List.length hrc;simpa using this
       have hin:p.inn<cells.size:=by
        have:=hvv p.inn hlt
        rcases J7 p.inn cells.size with hh|hh
        ·exact hh
        ·rw [Jj hh] at this;cases this
       have hrun:=Xa (P:=P) (t:=t) w b' p.tot r cells elem fr (by rw [hts,hsc,hsz];rfl) hw hf hc.all_one (by rw [htot,hsz];omega)
       refine ⟨_,hrun, ?_⟩
       obtain ⟨a1,a2,a3,a4,a5,a6⟩:=YG r.cells.toList p.tot w b' cells elem fr hw
       refine Xk he p.blk _ _ b' _ hg hbb a2 a3 a4 a5 a6 ?_
       refine .ints k' _ b' (YL cells p.tot r.cells.toList) elem fr (by rw [Y3];exact hb') a1 (fun o ho=>hf o (by rwa [Y3] at ho)) ?_
       intro j hj
       rw [List.length_set] at hj
       rw [htot,hrc]
       by_cases hji:j=p.inn
       ·subst hji
        have:=X3 [Value.int k' v] p.inn cells 0 (by simp;omega) (by simp)
        rw [Ke] at this
        rw [this]
        simp [J2,hlt]
       ·rw [YF _ _ _ _ (by simp;omega),hvv j hj]
        simp only [J2,K3]
        rw [if_neg (by omega)]
     ·exact hl.elim
    | rows sz n f=>
     simp only at hl
     cases hbs:Nat.beq sz p.sz with
     | false=>simp [hbs] at hl
     | true=>
      rw [hbs] at hl
      have hsz:sz=p.sz:=J0 hbs
      obtain ⟨hrow,hl⟩:=Zb hl
      obtain ⟨new,hK,hr⟩:=Z17 _ _ _ _ _ hl
      refine ⟨_,hK,fun E w b N r he hb hc=> ?_⟩
      have hB:=he.own _ _ hg
      cases hB with
      | rows0 sz n f h0 hn=>rw [hn] at hb;cases hb
      | rows sz n f b' cells elem fr g hb' hw hf hcv hlen hvv=>
       have hbb:=hb
       rw [hb'] at hb
       injection hb with hb
       injection hb with h1 h2
       subst h1
       obtain ⟨hle,hnew⟩:=hr E (g p.row) r.cells.toList (hcv _ hrow) hc
       have hcl:=hc.length
       have hgl:=hlen p.row hrow
       have htot:p.tot=p.row*sz+(p.off+p.inn):=by simp [ZN.tot,hsz];omega
       have hvl:p.row*sz+(g p.row).length<=cells.size:=by
        rcases JG (g p.row).length with h0|h0
        ·rw [h0] at hgl
         have:sz=0:=hgl.symm
         subst this;simp [h0]
        ·have:=hvv p.row ((g p.row).length-1) _ hrow (Jd (by omega))
         rcases J7 (p.row*sz+((g p.row).length-1)) cells.size with hh|hh
         ·omega
         ·rw [Jj hh] at this;cases this
       have hrun:=Xa (P:=P) (t:=t) w b' p.tot r cells elem fr (by rw [hts,hsc,<-hcl];simp) hw hf hc.all_one (by simp at hle;omega)
       refine ⟨_,hrun, ?_⟩
       obtain ⟨a1,a2,a3,a4,a5,a6⟩:=YG r.cells.toList p.tot w b' cells elem fr hw
       refine Xk he p.blk _ _ b' _ hg hbb a2 a3 a4 a5 a6 ?_
       refine .rows sz n _ b' (YL cells p.tot r.cells.toList) elem fr (fun i=>if i=p.row then Yc (g p.row) (p.off+p.inn) r.cells.toList else g i) (by rw [Y3];exact hb') a1 (fun o ho=>hf o (by rwa [Y3] at ho)) ?_ ?_ ?_
       ·intro i hi
        by_cases hip:i=p.row
        ·subst hip;simp only [W1,Jg,if_true];exact hnew
        ·simp only [W1,Zs hip,if_neg hip];exact hcv i hi
       ·intro i hi
        by_cases hip:i=p.row
        ·subst hip;simp only [if_true,Yc];simp at hle⊢;omega
        ·simp only [if_neg hip];exact hlen i hi
       ·intro i j c hi hj
        by_cases hip:i=p.row
        ·subst hip
         simp only [if_true] at hj
         rw [Vx _ _ _ hle] at hj
         split at hj
         ·rename_i hin
          have:=X3 r.cells.toList p.tot cells (j-(p.off+p.inn)) (by simp at hle⊢;omega) (by omega)
          rw [show p.tot+(j-(p.off+p.inn))=p.row*sz+j by omega] at this
          rw [this];exact hj
         ·rename_i hout
          rw [YF _ _ _ _ (by omega)]
          exact hvv _ j c hrow hj
        ·simp only [if_neg hip] at hj
         have hjl:j<sz:=by
          have:=hlen i hi
          rcases J7 j sz with hh|hh
          ·exact hh
          ·rw [Jl (by omega)] at hj;cases hj
         have hsep:i*sz+j<p.row*sz\/p.row*sz+sz<=i*sz+j:=by
          rcases Nat.lt_or_gt_of_ne hip with hh|hh
          ·left
           have:(i+1)*sz<=p.row*sz:=JA _ hh
           rw [JD,Kh] at this
           omega
          ·right
           have:(p.row+1)*sz<=i*sz:=JA _ hh
           rw [JD,Kh] at this
           omega
         have hle':p.off+p.inn+r.cells.toList.length<=sz:=hgl▸hle
         rw [YF _ _ _ _ (by omega)]
         exact hvv i j c hi hj
    | map es=>exact hl.elim
    | fmap n kf vf=>exact hl.elim
    | pmap es=>exact hl.elim
    | loop l=>exact hl.elim
    | defd=>exact hl.elim
theorem Z7Q {P:Program} {h:Z9} {t:TypeId} {x:AV} {K:Z9->Prop} (hl:Z5w P h t x v K):
  ∃h',K h'/\∀(E:Env) (w:World) (r rv:Value),Emb E h w->Zc E x r->Zc E v rv->
   ∃w',(Instr.storeAt t r rv).run P w=.ok () w'/\Evo E h w E h' w':=by
 unfold Z5w at hl
 cases x with
 | ptr p=>
  cases p with
  | none=>exact hl.elim
  | some p=>
   simp only at hl
   cases hc:X8 v with
   | none=>simp [hc] at hl
   | some cs=>
    rw [hc] at hl
    obtain ⟨h',hK,hr⟩:=Z7P hl
    refine ⟨h',hK,fun E w r rv he hx hv=> ?_⟩
    cases hx with
    | ptr p b N hb=>
     obtain ⟨w',h1,h2⟩:=hr E w b N rv he hb (W0 hc hv)
     exact ⟨w',by simpa [Instr.storeAt,Instr.sureAddr] using h1,h2⟩
 | _=>exact hl.elim
theorem Za {P:Program} {t:TypeId} {d:TypeDesc} (h:P.underlying t=some d) (w:World):(underlying t).run P w=.ok d w:=by
 unfold underlying;simp [h]
def Z5x (P:Program) (S:TypeId) (x:AV) (f:Nat) (K:AV->Prop):Prop:=
 match P.underlying S with
 | some (.struct fields)=>match fields[f]? with
  | some fd=>match ZV P fd.type with
   | some (_+1)=>match x with
    | .ptr (some p)=>K (.ptr (some ⟨p.blk,p.row,p.sz,p.off+fd.offset,p.inn⟩))
    | .pview cs 0=>match Ys fd.offset cs with
     | some rest=>K (.pview rest 0)
     | none=>False
    | _=>False
   | _=>False
  | none=>False
 | _=>False
theorem Z7R {P:Program} {S:TypeId} {x:AV} {f:Nat} {K:AV->Prop} (h:Z5x P S x f K):
  ∃v,K v/\∀(E:Env) (w:World) (r:Value),Zc E x r->∃r',(Instr.fieldAt S r f).run P w=.ok r' w/\Zc E v r':=by
 unfold Z5x at h
 split at h
 ·rename_i fields hu
  split at h
  ·rename_i fd hf
   split at h
   ·rename_i n hs
    have hplace:∀(w:World) (a:Addr),(fieldPlace a fd).run P w=.ok (a.add fd.offset) w:=fun w a=>by
     unfold fieldPlace
     simp [J6,run_sizeOf hs]
    split at h
    ·rename_i p
     refine ⟨_,h,fun E w r hx=> ?_⟩
     cases hx with
     | ptr p b N hb=>
      refine ⟨.pointer (some ⟨b,p.tot+fd.offset,none⟩), ?_, ?_⟩
      ·simp [Instr.fieldAt,Za hu,hf,Instr.sureAddr,hplace,YY]
      ·have e:p.tot+fd.offset=(⟨p.blk,p.row,p.sz,p.off+fd.offset,p.inn⟩:ZN).tot:=by simp [ZN.tot];omega
       rw [e]
       exact .ptr ⟨p.blk,p.row,p.sz,p.off+fd.offset,p.inn⟩ b N hb
    ·rename_i cs
     split at h
     ·rename_i rest hd
      refine ⟨_,h,fun E w r hx=> ?_⟩
      cases hx with
      | pview cs inn a vs hc hi=>
       obtain ⟨h1,h2⟩:=ZQ cs _ rest vs hd hc
       refine ⟨.pointer (some ((a.add fd.offset).add 0)), ?_,.pview rest 0 (a.add fd.offset) _ h1 (fun j c hj=> ?_)⟩
       ·have e0:∀x:Addr,x.add 0=x:=fun x=>rfl
        simp [Instr.fieldAt,Za hu,hf,Instr.sureAddr,hplace,e0]
       ·rw [Addr.add_add]
        rw [Jf] at hj
        exact hi _ c hj
     ·exact h.elim
    ·exact h.elim
   ·exact h.elim
  ·exact h.elim
 ·exact h.elim
def X4 (P:Program) (e:TypeId):Bool:=match P.underlying e with|some (.int _)=>true|_=>false
def Z4u (P:Program) (h:Z9) (e:TypeId) (esz:Nat) (p:ZN) (i:Nat):ZN:=
 match X4 P e with
 | true=>⟨p.blk,p.row,p.sz,p.off,p.inn+i⟩
 | false=>match h.get p.blk with
  | some (.rows sz _ _)=>match Nat.beq sz esz,Nat.beq p.sz esz with
   | true,true=>⟨p.blk,p.row+i,p.sz,p.off,p.inn⟩
   | _,_=>⟨p.blk,p.row,p.sz,p.off+i*esz,p.inn⟩
  | _=>⟨p.blk,p.row,p.sz,p.off+i*esz,p.inn⟩
theorem Z19 (P:Program) (h:Z9) (e:TypeId) (esz:Nat) (p:ZN) (i:Nat):(Z4u P h e esz p i).blk=p.blk:=by
 unfold Z4u
 repeat' split
 all_goals rfl
theorem Z1a (P:Program) (h:Z9) (e:TypeId) (esz:Nat) (p:ZN) (i:Nat) (h1:X4 P e=true->esz=1):(Z4u P h e esz p i).tot=p.tot+i*esz:=by
 unfold Z4u
 split
 ·rename_i he;have:=h1 he;subst this;simp [ZN.tot];omega
 ·split
  ·split
   ·rename_i h2 h3
    have e3:p.sz=esz:=J0 h3
    simp only [ZN.tot,e3,JD];omega
   ·simp only [ZN.tot];omega
  ·simp only [ZN.tot];omega
def Z5y (P:Program) (h:Z9) (T:TypeId) (x i:AV) (K:AV->Prop):Prop:=
 match i with
 | .int _ i=>match P.underlying T with
  | some (.slice e)=>match ZV P e with
   | some esz=>match x with
    | .nslice p esz' len _=>match Nat.beq esz esz',(X4 P e&& !(Nat.beq esz 1)) with
     | true,false=>Z6 (0<=i/\i<len) (K (.ptr (some (Z4u P h e esz p i.toNat))))
     | _,_=>False
    | .vints k xs len=>match Nat.beq esz 1 with
     | true=>Z6 (0<=i/\i<len) (K (.pview [.int k (xs.getD i.toNat 0)] 0))
     | false=>False
    | .vrows esz' _ f len=>match Nat.beq esz esz' with
     | true=>Z6 (0<=i/\i<len) (K (.pview (f i.toNat) 0))
     | false=>False
    | _=>False
   | none=>False
  | some (.array n e)=>match ZV P e with
   | some esz=>match (X4 P e&& !(Nat.beq esz 1)) with
    | false=>match x with
     | .ptr (some p)=>Z6 (0<=i/\i<n) (K (.ptr (some (match X4 P e with|true=>⟨p.blk,p.row,p.sz,p.off,p.inn+i.toNat⟩|false=>⟨p.blk,p.row,p.sz,p.off+i.toNat*esz,p.inn⟩))))
     | .pview cs inn=>match X4 P e with
      | true=>Z6 (0<=i/\i<n) (K (.pview cs (inn+i.toNat)))
      | false=>match inn with
       | 0=>Z6 (0<=i/\i<n) (match Ys (i.toNat*esz) cs with
        | some rest=>K (.pview rest 0)
        | none=>False)
       | _+1=>False
     | _=>False
    | true=>False
   | none=>False
  | _=>False
 | _=>False
theorem YR (x:Addr):x.add 0=x:=rfl
theorem Z7S {P:Program} {h:Z9} {T:TypeId} {x i:AV} {K:AV->Prop} (hl:Z5y P h T x i K):
  ∃v,K v/\∀(E:Env) (w:World) (r ri:Value),Zc E x r->Zc E i ri->∃r',(Instr.indexAt T r ri).run P w=.ok r' w/\Zc E v r':=by
 unfold Z5y at hl
 split at hl
 ·rename_i ki i
  split at hl
  ·rename_i e hu
   split at hl
   ·rename_i esz hs
    split at hl
    ·rename_i p esz' len lo
     split at hl
     ·rename_i hb1 hb2
      have he:esz=esz':=J0 hb1
      subst he
      obtain ⟨⟨h0,h1⟩,hK⟩:=Zb hl
      refine ⟨_,hK,fun E w r ri hx hi=> ?_⟩
      cases hi with
      | int k n=>
       cases hx with
       | nslice0 p esz len lo a e1 e2=>exfalso;rw [e1] at h1;omega
       | nslice p esz len lo b N cap hb c1 c2 c3=>
        refine ⟨.pointer (some ⟨b,p.tot+i.toNat*esz,none⟩), ?_, ?_⟩
        ·simp [Instr.indexAt,asIntOf,Za hu,run_sizeOf hs,YY,h0,h1]
        ·have et:=Z1a P h e esz p i.toNat (fun he=>by
          rw [he] at hb2;simp at hb2;exact hb2)
         rw [<-et]
         exact .ptr (Z4u P h e esz p i.toNat) b N (by rw [Z19];exact hb)
     ·exact hl.elim
    ·rename_i k xs len
     split at hl
     ·rename_i hb
      have he:esz=1:=J0 hb
      subst he
      obtain ⟨⟨h0,h1⟩,hK⟩:=Zb hl
      refine ⟨_,hK,fun E w r ri hx hi=> ?_⟩
      cases hi with
      | int k' n=>
       cases hx with
       | vintsNil k xs len e1 e2=>exfalso;rw [e2] at h1;omega
       | vints k xs len a cap c1 c2 ci=>
        refine ⟨.pointer (some ((a.add i.toNat).add 0)), ?_,.pview _ 0 (a.add i.toNat) [.int k (xs.getD i.toNat 0)] (.one _ _ _ _ rfl rfl (.int _ _) .nil) (fun j c hj=> ?_)⟩
        ·simp [Instr.indexAt,asIntOf,Za hu,run_sizeOf hs,h0,h1,YR]
        ·cases j with
         | zero=>simp only [List.getElem?_cons_zero,Option.some.injEq] at hj;subst hj;rw [YR];exact ci _ (by omega)
         | succ j=>simp at hj
     ·exact hl.elim
    ·rename_i esz' n f len
     split at hl
     ·rename_i hb
      have he:esz=esz':=J0 hb
      subst he
      obtain ⟨⟨h0,h1⟩,hK⟩:=Zb hl
      refine ⟨_,hK,fun E w r ri hx hi=> ?_⟩
      cases hi with
      | int k' n'=>
       cases hx with
       | vrowsNil esz n f len e1 e2=>exfalso;rw [e2] at h1;omega
       | vrows esz n f len a cap g c1 c2 cc cl ci=>
        refine ⟨.pointer (some ((a.add (i.toNat*esz)).add 0)), ?_,.pview _ 0 (a.add (i.toNat*esz)) (g i.toNat) (cc _ (by omega)) (fun j c hj=> ?_)⟩
        ·simp [Instr.indexAt,asIntOf,Za hu,run_sizeOf hs,h0,h1,YR]
        ·rw [Addr.add_add];exact ci _ _ _ (by omega) hj
     ·exact hl.elim
    ·exact hl.elim
   ·exact hl.elim
  ·rename_i n e hu
   split at hl
   ·rename_i esz hs
    split at hl
    ·rename_i hb2
     have h1z:X4 P e=true->esz=1:=fun he=>by rw [he] at hb2;simp at hb2;exact hb2
     split at hl
     ·rename_i p
      obtain ⟨⟨h0,h1⟩,hK⟩:=Zb hl
      refine ⟨_,hK,fun E w r ri hx hi=> ?_⟩
      cases hi with
      | int k' n'=>
       cases hx with
       | ptr p b N hb=>
        refine ⟨.pointer (some ⟨b,p.tot+i.toNat*esz,none⟩), ?_, ?_⟩
        ·simp [Instr.indexAt,asIntOf,Za hu,run_sizeOf hs,YY,h0,h1,Instr.sureAddr]
        ·split
         ·rename_i he
          have:=h1z he;subst this
          have e:p.tot+i.toNat*1=(⟨p.blk,p.row,p.sz,p.off,p.inn+i.toNat⟩:ZN).tot:=by simp [ZN.tot];omega
          rw [e];exact .ptr ⟨p.blk,p.row,p.sz,p.off,p.inn+i.toNat⟩ b N hb
         ·have e:p.tot+i.toNat*esz=(⟨p.blk,p.row,p.sz,p.off+i.toNat*esz,p.inn⟩:ZN).tot:=by simp only [ZN.tot];omega
          rw [e];exact .ptr ⟨p.blk,p.row,p.sz,p.off+i.toNat*esz,p.inn⟩ b N hb
     ·rename_i cs inn
      split at hl
      ·rename_i he
       have:=h1z he;subst this
       obtain ⟨⟨h0,h1⟩,hK⟩:=Zb hl
       refine ⟨_,hK,fun E w r ri hx hi=> ?_⟩
       cases hi with
       | int k' n'=>
        cases hx with
        | pview cs inn a vs hc hi=>
         refine ⟨.pointer (some (a.add (inn+i.toNat))), ?_,.pview cs _ a vs hc hi⟩
         simp [Instr.indexAt,asIntOf,Za hu,run_sizeOf hs,h0,h1,Instr.sureAddr,Addr.add_add]
      ·split at hl
       ·obtain ⟨⟨h0,h1⟩,hl⟩:=Zb hl
        split at hl
        ·rename_i rest hd
         refine ⟨_,hl,fun E w r ri hx hi=> ?_⟩
         cases hi with
         | int k' n'=>
          cases hx with
          | pview cs inn a vs hc hi=>
           obtain ⟨h1',h2'⟩:=ZQ cs _ rest vs hd hc
           refine ⟨.pointer (some ((a.add (i.toNat*esz)).add 0)), ?_,.pview rest 0 (a.add (i.toNat*esz)) _ h1' (fun j c hj=> ?_)⟩
           ·simp [Instr.indexAt,asIntOf,Za hu,run_sizeOf hs,h0,h1,Instr.sureAddr,YR]
           ·rw [Addr.add_add];rw [Jf] at hj;exact hi _ c hj
        ·exact hl.elim
       ·exact hl.elim
     ·exact hl.elim
    ·exact hl.elim
   ·exact hl.elim
  ·exact hl.elim
 ·exact hl.elim
def Z2l (lo hi:Option AV) (len bound:Nat) (K:Option Nat->Nat->Prop):Prop:=
 match lo,hi with
 | none,none=>K none len
 | none,some (.int _ j)=>Z6 (0<=j/\j<=bound) (K none j.toNat)
 | some (.int _ i),none=>Z6 (0<=i/\i<=len) (K (some i.toNat) len)
 | some (.int _ i),some (.int _ j)=>Z6 (0<=i/\i<=j/\j<=bound) (K (some i.toNat) j.toNat)
 | _,_=>False
def ZS:Option Nat->Nat
 | none=>0
 | some n=>n
def Z4v {α:Type}:Option Nat->List α->List α
 | none,xs=>xs
 | some n,xs=>xs.drop n
def Z8S (f:Nat->List AV):Option Nat->Nat->List AV
 | none=>f
 | some n=>fun i=>f (i+n)
def Z0B (n:Nat):Option Nat->Nat
 | none=>n
 | some k=>n-k
theorem Wz (n:Nat) (o:Option Nat):Z0B n o=n-ZS o:=by cases o<;>rfl
theorem Z4w {α:Type} (o:Option Nat) (xs:List α):Z4v o xs=xs.drop (ZS o):=by cases o<;>rfl
theorem Z7T (f:Nat->List AV) (o:Option Nat) (i:Nat):Z8S f o i=f (i+ZS o):=by cases o<;>rfl
inductive Z1b (E:Env):Option AV->Option Value->Prop
 | none:Z1b E none none
 | some (v:AV) (r:Value) (h:Zc E v r):Z1b E (some v) (some r)
theorem WA {lo hi:Option AV} {len bound:Nat} {K:Option Nat->Nat->Prop} (hl:Z2l lo hi len bound K) (hlb:len<=bound):
  ∃l hh,K l hh/\ZS l<=hh/\hh<=bound/\∀(P:Program) (E:Env) (w:World) (isS:Bool) (rlo rhi:Option Value) (cap:Nat),bound<=cap->Z1b E lo rlo->Z1b E hi rhi->
   (Instr.sliceBounds isS len cap rlo rhi none).run P w=.ok (ZS l,hh,cap) w:=by
 unfold Z2l at hl
 split at hl
 ·refine ⟨_,_,hl,JI _,hlb,fun P E w isS rlo rhi cap hc h1 h2=> ?_⟩
  cases h1;cases h2
  simp [Instr.sliceBounds,ZS]
 ·rename_i k j
  obtain ⟨⟨a1,a2⟩,hK⟩:=Zb hl
  refine ⟨_,_,hK,JI _,by omega,fun P E w isS rlo rhi cap hc h1 h2=> ?_⟩
  cases h1;cases h2 with
  | some v r hv=>
   cases hv
   have:j<=(cap:Int):=by omega
   simp [Instr.sliceBounds,Instr.sliceBound,asIntOf,a1,this,ZS]
 ·rename_i k i
  obtain ⟨⟨a1,a2⟩,hK⟩:=Zb hl
  refine ⟨_,_,hK,by simp [ZS];omega,hlb,fun P E w isS rlo rhi cap hc h1 h2=> ?_⟩
  cases h2;cases h1 with
  | some v r hv=>
   cases hv
   simp [Instr.sliceBounds,Instr.sliceBound,asIntOf,a1,a2,ZS]
 ·rename_i k i k' j
  obtain ⟨⟨a1,a2,a3⟩,hK⟩:=Zb hl
  refine ⟨_,_,hK,by simp [ZS];omega,by omega,fun P E w isS rlo rhi cap hc h1 h2=> ?_⟩
  cases h1 with
  | some v r hv=>
   cases h2 with
   | some v' r' hv'=>
    cases hv;cases hv'
    have e1:j<=(cap:Int):=by omega
    have e2:0<=j:=by omega
    have e3:i<=(j.toNat:Int):=by omega
    simp [Instr.sliceBounds,Instr.sliceBound,asIntOf,a1,e1,e2,ZS]
    omega
 ·exact hl.elim
def Z8T (h:Z9) (p:ZN) (n:Nat):Bool:=
 match h.get p.blk,p.inn with
 | some (.flat cs),0=>match p.row with
  | 0=>match Ys p.off cs with
   | some rest=>Nat.ble n (csz rest)
   | none=>false
  | _+1=>false
 | some (.rows sz _ f),0=>match Nat.beq sz p.sz with
  | true=>match Ys p.off (f p.row) with
   | some rest=>Nat.ble n (csz rest)
   | none=>false
  | false=>false
 | _,_=>false
def Z8U (h:Z9) (p:ZN):Bool:=
 match h.get p.blk with
 | some (.rows _ m _)=>Nat.blt p.row m
 | _=>true
theorem Z8V {h:Z9} {p:ZN} {n:Nat} (hr:Z8T h p n=true) (hi:Z8U h p=true) {E:Env} {w:World} {b N:Nat} (he:Emb E h w) (hb:E.blk p.blk=some (b,N)):p.tot+n<=N\/n=0:=by
 unfold Z8T at hr
 split at hr
 ·rename_i cs hg hinn
  split at hr
  ·rename_i hrow
   split at hr
   ·rename_i rest hd
    have hn:=WM hr
    have hB:=he.own _ _ hg
    cases hB with
    | flat0 cs h0 hn=>rw [hn] at hb;cases hb
    | flat cs b' cells elem fr vs hb' hw hf hc hv=>
     rw [hb'] at hb
     injection hb with hb
     injection hb with h1 h2
     subst h1
     obtain ⟨h1,h3⟩:=ZQ cs _ rest vs hd hc
     have hl:=h1.length
     have hvl:vs.length<=cells.size:=by
      rcases JG vs.length with h0|h0
      ·omega
      ·have:=hv (vs.length-1) _ (Jd (by omega))
       rcases J7 (vs.length-1) cells.size with hh|hh
       ·omega
       ·rw [Jj hh] at this;cases this
     simp only [Jo] at hl
     left
     simp [ZN.tot,hrow,hinn];omega
   ·cases hr
  ·cases hr
 ·rename_i sz m f hg hinn
  split at hr
  ·rename_i hbs
   have hsz:sz=p.sz:=J0 hbs
   split at hr
   ·rename_i rest hd
    have hn:=WM hr
    have hB:=he.own _ _ hg
    have hrow:p.row<m:=by
     simp only [Z8U,hg] at hi
     have:=Jh hi
     omega
    cases hB with
    | rows0 sz n f h0 hn=>rw [hn] at hb;cases hb
    | rows sz n f b' cells elem fr g hb' hw hf hc hlen hv=>
     rw [hb'] at hb
     injection hb with hb
     injection hb with h1 h2
     subst h1
     obtain ⟨h1,h3⟩:=ZQ _ _ rest _ hd (hc _ hrow)
     have hl:=h1.length
     simp only [Jo] at hl
     rcases JG (csz rest) with h0|h0
     ·right;omega
     ·left
      have:=hv p.row ((g p.row).length-1) _ hrow (Jd (by omega))
      rcases J7 (p.row*sz+((g p.row).length-1)) cells.size with hh|hh
      ·simp [ZN.tot,hinn,<-hsz];omega
      ·rw [Jj hh] at this;cases this
   ·cases hr
  ·cases hr
 ·cases hr
def Z5z (P:Program) (h:Z9) (T:TypeId) (x:AV) (lo hi mx:Option AV) (K:AV->Prop):Prop:=
 match P.underlying T with
 | some (.array n e)=>match ZV P e,mx with
  | some esz,none=>match (X4 P e&& !(Nat.beq esz 1))||Nat.beq esz 0 with
   | false=>match x with
    | .ptr (some p)=>match Z8T h p (n*esz) with
     | true=>Z7 (Z8U h p) (Z2l lo hi n n fun l hh=>K (.nslice (Z4u P h e esz p (ZS l)) esz (Z0B hh l) (Z0B n l))) False
     | false=>False
    | .pview (.arr k m xs::_) 0=>match Nat.beq m n&&Nat.beq esz 1 with
     | true=>Z6 (xs.length=n) (Z2l lo hi n n fun l hh=>K (.vints k (Z4v l xs) (Z0B hh l)))
     | false=>False
    | _=>False
   | true=>False
  | _,_=>False
 | some (.slice e)=>match mx with
  | some (.int _ m)=>match lo,hi with
   | none,some (.int _ j)=>match x with
    | .nslice _ _ _ _|.vints _ _ _|.vrows _ _ _ _|.eslice|.fslice|.nilslice=>Z6 ((m=0/\j=0)/\(ZV P e).isSome=true) (K .eslice)
    | _=>False
   | _,_=>False
  | some _=>False
  | none=>match ZV P e with
   | some esz=>match x with
    | .nslice p esz' len lob=>match Nat.beq esz esz',(X4 P e&& !(Nat.beq esz 1)) with
     | true,false=>Z6 (len<=lob) (Z2l lo hi len lob fun l hh=>K (.nslice (Z4u P h e esz p (ZS l)) esz (Z0B hh l) (Z0B lob l)))
     | _,_=>False
    | .vints k xs len=>match Nat.beq esz 1 with
     | true=>Z6 (len<=xs.length) (Z2l lo hi len xs.length fun l hh=>K (.vints k (Z4v l xs) (Z0B hh l)))
     | false=>False
    | .vrows esz' n f len=>match Nat.beq esz esz' with
     | true=>Z6 (len<=n) (Z2l lo hi len n fun l hh=>K (.vrows esz (Z0B n l) (Z8S f l) (Z0B hh l)))
     | false=>False
    | .eslice=>Z2l lo hi 0 0 fun _ _=>K .eslice
    | .nilslice=>Z2l lo hi 0 0 fun _ _=>K .nilslice
    | _=>False
   | none=>False
 | some .string=>match mx,x with
  | none,.str s=>Z2l lo hi s.size s.size fun l hh=>K (.str (s.extract (ZS l) hh))
  | _,_=>False
 | _=>False
theorem Z1c (xs:LI) (n i:Nat):(xs.drop n).getD i 0=xs.getD (n+i) 0:=by
 simp [J2,Jf]
theorem run_sliceAt_slice {P:Program} {T e:TypeId} (hu:P.underlying T=some (.slice e)) (r:Value) (lo hi mx:Option Value) (w:World):
  (Instr.sliceAt T r lo hi mx).run P w=(Instr.slice T r lo hi mx).run P w:=by
 unfold Instr.sliceAt
 simp [Za hu]
theorem Z7U {P:Program} {h:Z9} {T:TypeId} {x:AV} {lo hi mx:Option AV} {K:AV->Prop} (hl:Z5z P h T x lo hi mx K):
  ∃v,K v/\∀(E:Env) (w:World) (r:Value) (rlo rhi rmx:Option Value),Emb E h w->Zc E x r->Z1b E lo rlo->Z1b E hi rhi->Z1b E mx rmx->
   ∃r',(Instr.sliceAt T r rlo rhi rmx).run P w=.ok r' w/\Zc E v r':=by
 unfold Z5z at hl
 split at hl
 ·-- an array
  rename_i n e hu
  split at hl
  ·rename_i esz hs
   split at hl
   ·rename_i hb2
    have hpos:0<esz:=by
     rcases JG esz with h0|h0
     ·rw [h0] at hb2;simp at hb2
     ·exact h0
    have h1z:X4 P e=true->esz=1:=fun he=>by rw [he] at hb2;simp at hb2;exact hb2.1
    split at hl
    ·rename_i p
     split at hl
     ·rename_i hroom
      obtain ⟨hrow,hl⟩:=Zba hl
      obtain ⟨l,hh,hK,hle,hhb,hrun⟩:=WA hl (J5 _)
      refine ⟨_,hK,fun E w r rlo rhi rmx he hx h1 h2 h3=> ?_⟩
      cases h3
      cases hx with
      | ptr p b N hb=>
       have hr:=hrun P E w false rlo rhi n (J5 _) h1 h2
       have hroom':=Z8V hroom hrow he hb
       rw [Wz,Wz]
       refine ⟨.slice (some (if n=ZS l then ⟨b,p.tot,none⟩ else (⟨b,p.tot,none⟩:Addr).add (ZS l*esz))) (hh-ZS l) (n-ZS l), ?_, ?_⟩
       ·simp [Instr.sliceAt,Za hu,Instr.sureAddr,hr,run_sizeOf hs]
       ·by_cases hnl:n=ZS l
        ·have z1:hh-ZS l=0:=by omega
         have z2:n-ZS l=0:=by omega
         rw [z1,z2]
         exact .nslice0 _ _ 0 0 _ rfl rfl
        ·rw [if_neg hnl,YY]
         have et:=Z1a P h e esz p (ZS l) h1z
         rw [<-et]
         refine .nslice _ _ _ _ b N _ (by rw [Z19];exact hb) (by omega) (J5 _) ?_
         rw [et]
         have:ZS l*esz+(n-ZS l)*esz=n*esz:=by rw [<-Nat.add_mul];congr 1;omega
         rcases hroom' with hroom'|hz
         ·omega
         ·exfalso
          have:n*esz>=n:=Nat.le_mul_of_pos_right n hpos
          omega
     ·exact hl.elim
    ·rename_i k m xs rest
     split at hl
     ·rename_i hbm
      rw [J3] at hbm
      have hm:m=n:=J0 hbm.1
      have h1e:esz=1:=J0 hbm.2
      subst hm
      subst h1e
      obtain ⟨hxl,hl⟩:=Zb hl
      obtain ⟨l,hh,hK,hle,hhb,hrun⟩:=WA hl (J5 _)
      refine ⟨_,hK,fun E w r rlo rhi rmx he hx h1 h2 h3=> ?_⟩
      cases h3
      cases hx with
      | pview cs inn a vs hc hi=>
       obtain ⟨ws,rfl,_⟩:=hc.cons_arr
       have hr:=hrun P E w false rlo rhi m (J5 _) h1 h2
       rw [Wz,Z4w]
       refine ⟨.slice (some (if m=ZS l then a else a.add (ZS l*1))) (hh-ZS l) (m-ZS l), ?_, ?_⟩
       ·simp [Instr.sliceAt,Za hu,Instr.sureAddr,hr,run_sizeOf hs,YR]
       ·refine .vints _ _ _ _ _ (by simp;omega) (by simp;omega) (fun i hi'=> ?_)
        simp only [Jo] at hi'
        rw [if_neg (by omega),JL,Addr.add_add,Z1c]
        apply hi
        rw [J8 (by rw [Z8];omega),Zj (by omega)]
     ·exact hl.elim
    ·exact hl.elim
   ·exact hl.elim
  ·exact hl.elim
 ·-- a slice
  rename_i e hu
  split at hl
  ·-- with a bound of its capacity
   rename_i k m
   split at hl
   ·rename_i k' j
    have key:Z6 ((m=0/\j=0)/\(ZV P e).isSome=true) (K .eslice)->(∀(E:Env) (r:Value),Zc E x r->∃a len cap,r=.slice a len cap)->
      ∃v,K v/\∀(E:Env) (w:World) (r:Value) (rlo rhi rmx:Option Value),Emb E h w->Zc E x r->Z1b E none rlo->Z1b E (some (.int k' j)) rhi->Z1b E (some (.int k m)) rmx->
       ∃r',(Instr.sliceAt T r rlo rhi rmx).run P w=.ok r' w/\Zc E v r':=by
     intro hneed hform
     obtain ⟨⟨⟨rfl,rfl⟩,hsz⟩,hK⟩:=Zb hneed
     obtain ⟨esz,hs⟩:=JZ.1 hsz
     refine ⟨_,hK,fun E w r rlo rhi rmx he hx h1 h2 h3=> ?_⟩
     obtain ⟨a,len,cap,rfl⟩:=hform E r hx
     cases h1
     cases h2 with
     | some v r2 hv2=>
      cases h3 with
      | some v3 r3 hv3=>
       cases hv2;cases hv3
       rw [run_sliceAt_slice hu]
       exact ⟨.slice a 0 0,by simp [Instr.slice,Za hu,Instr.sliceBounds,Instr.sliceBound,asIntOf,run_sizeOf hs],.eslice a⟩
    cases x with
    | nslice p esz len lo=>exact key hl (fun E r hx=>by cases hx<;>exact ⟨_,_,_,rfl⟩)
    | vints k xs len=>exact key hl (fun E r hx=>by cases hx<;>exact ⟨_,_,_,rfl⟩)
    | vrows esz n f len=>exact key hl (fun E r hx=>by cases hx<;>exact ⟨_,_,_,rfl⟩)
    | eslice=>exact key hl (fun E r hx=>by cases hx;exact ⟨_,_,_,rfl⟩)
    | fslice=>exact key hl (fun E r hx=>by cases hx;exact ⟨_,_,_,rfl⟩)
    | nilslice=>exact key hl (fun E r hx=>by cases hx;exact ⟨_,_,_,rfl⟩)
    | _=>exact hl.elim
   ·exact hl.elim
  ·exact hl.elim
  ·split at hl
   ·rename_i esz hs
    split at hl
    ·rename_i p esz' len lob
     split at hl
     ·rename_i hb1 hb2
      have hee:esz=esz':=J0 hb1
      subst hee
      have h1z:X4 P e=true->esz=1:=fun he=>by rw [he] at hb2;simp at hb2;exact hb2
      obtain ⟨hlb,hl⟩:=Zb hl
      obtain ⟨l,hh,hK,hle,hhb,hrun⟩:=WA hl hlb
      refine ⟨_,hK,fun E w r rlo rhi rmx he hx h1 h2 h3=> ?_⟩
      cases h3
      rw [run_sliceAt_slice hu,Wz,Wz]
      cases hx with
      | nslice0 p esz len lo a e1 e2=>
       subst e1;subst e2
       have hr:=hrun P E w true rlo rhi 0 (J5 _) h1 h2
       have z:ZS l=0:=by omega
       have z2:hh=0:=by omega
       subst z2
       rw [z] at hr⊢
       exact ⟨.slice a 0 0,by simp [Instr.slice,Za hu,hr,run_sizeOf hs],.nslice0 _ _ _ _ _ rfl rfl⟩
      | nslice p esz len lo b N cap hb c1 c2 c3=>
       have hr:=hrun P E w true rlo rhi cap c2 h1 h2
       refine ⟨.slice (if cap=ZS l then some ⟨b,p.tot,none⟩ else some ((⟨b,p.tot,none⟩:Addr).add (ZS l*esz))) (hh-ZS l) (cap-ZS l), ?_, ?_⟩
       ·simp [Instr.slice,Za hu,hr,run_sizeOf hs]
       ·by_cases hcl:cap=ZS l
        ·have z1:hh-ZS l=0:=by omega
         have z2:lob-ZS l=0:=by omega
         have z3:cap-ZS l=0:=by omega
         rw [z1,z2,z3]
         exact .nslice0 _ _ 0 0 _ rfl rfl
        ·rw [if_neg hcl,YY]
         have et:=Z1a P h e esz p (ZS l) h1z
         rw [<-et]
         refine .nslice _ _ _ _ b N _ (by rw [Z19];exact hb) (by omega) (by omega) ?_
         rw [et]
         have:ZS l*esz+(cap-ZS l)*esz=cap*esz:=by rw [<-Nat.add_mul];congr 1;omega
         omega
     ·exact hl.elim
    ·rename_i k xs len
     split at hl
     ·rename_i hb
      have he1:esz=1:=J0 hb
      subst he1
      obtain ⟨hlb,hl⟩:=Zb hl
      obtain ⟨l,hh,hK,hle,hhb,hrun⟩:=WA hl hlb
      refine ⟨_,hK,fun E w r rlo rhi rmx he hx h1 h2 h3=> ?_⟩
      cases h3
      rw [run_sliceAt_slice hu,Wz,Z4w]
      cases hx with
      | vintsNil k xs len e1 e2=>
       subst e1;subst e2
       have hr:=hrun P E w true rlo rhi 0 (J5 _) h1 h2
       simp only [JK] at hhb
       have z:ZS l=0:=by omega
       have z2:hh=0:=by omega
       subst z2
       rw [z] at hr⊢
       exact ⟨.slice none 0 0,by simp [Instr.slice,Za hu,hr,run_sizeOf hs],.vintsNil _ _ _ rfl rfl⟩
      | vints k xs len a cap c1 c2 ci=>
       have hr:=hrun P E w true rlo rhi cap c2 h1 h2
       refine ⟨.slice (if cap=ZS l then some a else some (a.add (ZS l*1))) (hh-ZS l) (cap-ZS l), ?_, ?_⟩
       ·simp [Instr.slice,Za hu,hr,run_sizeOf hs]
       ·have:(if cap=ZS l then some a else some (a.add (ZS l*1)))=some (if cap=ZS l then a else a.add (ZS l*1)):=by split<;>rfl
        rw [this]
        refine .vints _ _ _ _ _ (by simp;omega) (by simp;omega) (fun i hi'=> ?_)
        simp only [Jo] at hi'
        rw [if_neg (by omega),JL,Addr.add_add,Z1c]
        exact ci _ (by omega)
     ·exact hl.elim
    ·rename_i esz' n f len
     split at hl
     ·rename_i hb
      have hee:esz=esz':=J0 hb
      subst hee
      obtain ⟨hlb,hl⟩:=Zb hl
      obtain ⟨l,hh,hK,hle,hhb,hrun⟩:=WA hl hlb
      refine ⟨_,hK,fun E w r rlo rhi rmx he hx h1 h2 h3=> ?_⟩
      cases h3
      rw [run_sliceAt_slice hu,Wz,Wz]
      cases hx with
      | vrowsNil esz n f len e1 e2=>
       subst e1;subst e2
       have hr:=hrun P E w true rlo rhi 0 (J5 _) h1 h2
       have z:ZS l=0:=by omega
       have z2:hh=0:=by omega
       subst z2
       rw [z] at hr⊢
       exact ⟨.slice none 0 0,by simp [Instr.slice,Za hu,hr,run_sizeOf hs],.vrowsNil _ _ _ _ rfl rfl⟩
      | vrows esz n f len a cap g c1 c2 cc cl ci=>
       have hr:=hrun P E w true rlo rhi cap c2 h1 h2
       refine ⟨.slice (if cap=ZS l then some a else some (a.add (ZS l*esz))) (hh-ZS l) (cap-ZS l), ?_, ?_⟩
       ·simp [Instr.slice,Za hu,hr,run_sizeOf hs]
       ·have:(if cap=ZS l then some a else some (a.add (ZS l*esz)))=some (if cap=ZS l then a else a.add (ZS l*esz)):=by split<;>rfl
        rw [this]
        refine .vrows _ _ _ _ _ _ (fun i=>g (i+ZS l)) (by omega) (by omega) (fun i hi'=> ?_) (fun i hi'=>cl _ (by omega)) (fun i j c hi' hj=> ?_)
        ·rw [Z7T];exact cc _ (by omega)
        ·rw [if_neg (by omega),Addr.add_add]
         have e1:ZS l*esz+(i*esz+j)=(i+ZS l)*esz+j:=by rw [JD];omega
         rw [e1]
         exact ci _ _ _ (by omega) hj
     ·exact hl.elim
    ·obtain ⟨l,hh,hK,hle,hhb,hrun⟩:=WA hl (J5 _)
     refine ⟨_,hK,fun E w r rlo rhi rmx he hx h1 h2 h3=> ?_⟩
     cases h3
     rw [run_sliceAt_slice hu]
     cases hx with
     | eslice a=>
      have hr:=hrun P E w true rlo rhi 0 (J5 _) h1 h2
      have z:ZS l=0:=by omega
      have z2:hh=0:=by omega
      subst z2
      rw [z] at hr
      exact ⟨.slice a 0 0,by simp [Instr.slice,Za hu,hr,run_sizeOf hs],.eslice a⟩
    ·obtain ⟨l,hh,hK,hle,hhb,hrun⟩:=WA hl (J5 _)
     refine ⟨_,hK,fun E w r rlo rhi rmx he hx h1 h2 h3=> ?_⟩
     cases h3
     rw [run_sliceAt_slice hu]
     cases hx with
     | nilslice=>
      have hr:=hrun P E w true rlo rhi 0 (J5 _) h1 h2
      have z:ZS l=0:=by omega
      have z2:hh=0:=by omega
      subst z2
      rw [z] at hr
      exact ⟨.slice none 0 0,by simp [Instr.slice,Za hu,hr,run_sizeOf hs],.nilslice⟩
    ·exact hl.elim
   ·exact hl.elim
 ·-- a string
  rename_i hu
  split at hl
  ·rename_i s
   obtain ⟨l,hh,hK,hle,hhb,hrun⟩:=WA hl (J5 _)
   refine ⟨_,hK,fun E w r rlo rhi rmx he hx h1 h2 h3=> ?_⟩
   cases h3
   cases hx with
   | str s=>
    have hr:=hrun P E w false rlo rhi s.size (J5 _) h1 h2
    exact ⟨.string (s.extract (ZS l) hh),by simp [Instr.sliceAt,Instr.slice,Za hu,hr],.str _⟩
  ·exact hl.elim
 ·exact hl.elim
def Zf4:Nat->List AV->List AV
 | 0,_=>[]
 | n+1,cs=>cs++Zf4 n cs
def Z8W (P:Program):Nat->TypeId->Option (List AV)
 | 0,_=>none
 | n+1,t=>match P.underlying t with
  | some .bool=>some [.bool false]
  | some (.int k)=>some [.int k 0]
  | some .string=>some [.str ByteArray.empty]
  | some (.pointer _)=>some [.ptr none]
  | some (.slice _)=>some [.nilslice]
  | some (.map _ _)=>some [.map none]
  | some (.func _ _ _)=>some [.nilFunc]
  | some (.interface _)=>some [.nilIface]
  | some (.array m e)=>match P.underlying e with
   | some (.int k)=>some [.arr k m (List.replicate m 0)]
   | _=>match Z8W P n e with
    | some cs=>some (Zf4 m cs)
    | none=>none
  | some (.struct fs)=>fs.toList.foldr (fun f acc=>match Z8W P n f.type,acc with|some a,some b=>some (a++b)|_,_=>none) (some [])
  | _=>none
def UJ (k:IntKind):LI->List Value->Option (List Value)
 | [],vs=>some vs
 | x::xs,.int k' y::vs=>match decide (k=k')&&decide (x=y) with
  | true=>UJ k xs vs
  | false=>none
 | _,_=>none
def Z3r (s:ByteArray):Bool:=match s.data.toList with|[]=>true|_::_=>false
def ZE:List AV->List Value->Bool
 | [],[]=>true
 | .bool b::r,.bool c::s=>match decide (b=c) with|true=>ZE r s|false=>false
 | .int k n::r,.int k' n'::s=>match decide (k=k')&&decide (n=n') with|true=>ZE r s|false=>false
 | .str a::r,.string b::s=>match Z3r a&&Z3r b with|true=>ZE r s|false=>false
 | .ptr none::r,.pointer none::s=>ZE r s
 | .nilslice::r,.slice none 0 0::s=>ZE r s
 | .map none::r,.map none::s=>ZE r s
 | .nilFunc::r,.nilFunc::s=>ZE r s
 | .nilIface::r,.nilIface::s=>ZE r s
 | .arr k n xs::r,vs=>match Nat.beq n xs.length with
  | true=>match UJ k xs vs with
   | some s=>ZE r s
   | none=>false
  | false=>false
 | _,_=>false
theorem Z2y {k:IntKind}:∀(xs:LI) (vs s:List Value),UJ k xs vs=some s->vs=intCells k xs.length xs++s
 | [],vs,s,h=>by simp [UJ] at h;subst h;simp [intCells]
 | x::xs,vs,s,h=>by
  cases vs with
  | nil=>simp [UJ] at h
  | cons v vs=>
   cases v with
   | int k' y=>
    simp only [UJ] at h
    split at h
    ·rename_i hb
     rw [J3,decide_eq_true_eq,decide_eq_true_eq] at hb
     obtain ⟨rfl,rfl⟩:=hb
     have ih:=Z2y xs vs s h
     rw [ih]
     simp only [intCells,Jw,List.range_succ_eq_map,K4,List.getD_cons_zero,List.map_map,Ki]
     congr 2
    ·cases h
   | _=>simp [UJ] at h
theorem Z2z {s:ByteArray} (h:Z3r s=true):s=ByteArray.empty:=by
 unfold Z3r at h
 split at h
 ·rename_i hl
  obtain ⟨d⟩:=s
  simp at hl
  subst hl
  rfl
 ·cases h
theorem Z5A {E:Env}:∀(cs:List AV) (vs:List Value),ZE cs vs=true->Zn E cs vs:=by
 intro cs
 induction cs with
 | nil=>
  intro vs h
  cases vs with
  | nil=>exact .nil
  | cons v vs=>simp [ZE] at h
 | cons a r ih=>
  intro vs h
  cases a with
  | bool b=>
   cases vs with
   | nil=>simp [ZE] at h
   | cons v vs=>
    cases v<;>simp only [ZE] at h<;>try (cases h;done)
    split at h
    ·rename_i hd;rw [decide_eq_true_eq] at hd;subst hd;exact .one _ _ _ _ rfl rfl (.bool _) (ih _ h)
    ·cases h
  | int k n=>
   cases vs with
   | nil=>simp [ZE] at h
   | cons v vs=>
    cases v<;>simp only [ZE] at h<;>try (cases h;done)
    split at h
    ·rename_i hd
     rw [J3,decide_eq_true_eq,decide_eq_true_eq] at hd
     obtain ⟨rfl,rfl⟩:=hd
     exact .one _ _ _ _ rfl rfl (.int _ _) (ih _ h)
    ·cases h
  | str s=>
   cases vs with
   | nil=>simp [ZE] at h
   | cons v vs=>
    cases v<;>simp only [ZE] at h<;>try (cases h;done)
    split at h
    ·rename_i hd
     rw [J3] at hd
     rw [Z2z hd.1,Z2z hd.2]
     exact .one _ _ _ _ rfl rfl (.str _) (ih _ h)
    ·cases h
  | ptr p=>
   cases p with
   | some p=>cases vs<;>simp [ZE] at h
   | none=>
    cases vs with
    | nil=>simp [ZE] at h
    | cons v vs=>
     cases v with
     | pointer q=>
      cases q with
      | some q=>simp [ZE] at h
      | none=>exact .one _ _ _ _ rfl rfl .nilptr (ih _ (by simpa [ZE] using h))
     | _=>simp [ZE] at h
  | nilslice=>
   cases vs with
   | nil=>simp [ZE] at h
   | cons v vs=>
    cases v with
    | slice q l c=>
     cases q with
     | some q=>simp [ZE] at h
     | none=>
      cases l with
      | succ l=>simp [ZE] at h
      | zero=>
       cases c with
       | succ c=>simp [ZE] at h
       | zero=>exact .one _ _ _ _ rfl rfl .nilslice (ih _ (by simpa [ZE] using h))
    | _=>simp [ZE] at h
  | map p=>
   cases p with
   | some p=>cases vs<;>simp [ZE] at h
   | none=>
    cases vs with
    | nil=>simp [ZE] at h
    | cons v vs=>
     cases v with
     | map q=>
      cases q with
      | some q=>simp [ZE] at h
      | none=>exact .one _ _ _ _ rfl rfl .nilmap (ih _ (by simpa [ZE] using h))
     | _=>simp [ZE] at h
  | nilFunc=>
   cases vs with
   | nil=>simp [ZE] at h
   | cons v vs=>
    cases v with
    | nilFunc=>exact .one _ _ _ _ rfl rfl .nilFunc (ih _ (by simpa [ZE] using h))
    | _=>simp [ZE] at h
  | nilIface=>
   cases vs with
   | nil=>simp [ZE] at h
   | cons v vs=>
    cases v with
    | nilIface=>exact .one _ _ _ _ rfl rfl .nilIface (ih _ (by simpa [ZE] using h))
    | _=>simp [ZE] at h
  | arr k n xs=>
   simp only [ZE] at h
   split at h
   ·rename_i hn
    have hn':n=xs.length:=J0 hn
    split at h
    ·rename_i s hs
     have:=Z2y xs vs s hs
     rw [this,<-hn']
     exact .arr k n xs _ _ (ih _ h)
    ·cases h
   ·cases h
  | _=>cases vs<;>simp [ZE] at h
def Qh (P:Program) (t:TypeId):Option (List AV):=
 match P.info? t with
 | some i=>match i.zero with
  | some z=>match Z8W P 12 t with
   | some cs=>match ZE cs z.cells.toList with
    | true=>some cs
    | false=>none
   | none=>none
  | none=>none
 | none=>none
theorem We {P:Program} {t:TypeId} (h:Qh P t=some cs):
  ∃z:Value,(∀w,(zeroValue t).run P w=.ok z w)/\∀E,Zn E cs z.cells.toList:=by
 unfold Qh at h
 split at h
 ·rename_i i hi
  split at h
  ·rename_i z hz
   split at h
   ·rename_i cs' hc
    split at h
    ·rename_i hm
     injection h with h
     subst h
     exact ⟨z,fun w=>by simp [zeroValue,typeInfo,hi,hz],fun E=>Z5A _ _ hm⟩
    ·cases h
   ·cases h
  ·cases h
 ·cases h
def Z5B (h:Z9):AV:=.ptr (some ⟨h.next,0,0,0,0⟩)
theorem Wf (cells:Array Value):free cells (0,0):=fun o _ h=>by omega
theorem UK {P:Program} {E:Env} {h:Z9} {w:World} (e:Emb E h w) (elem:TypeId) (cells:Array Value) (B:Blk)
  (hB:∀E' w',E.le E'->E'.blk h.next=some (w.heap.size,cells.size)->w'.heap[w.heap.size]? =some (.cells cells elem (0,0))->Ye E' w' h.next B):
  ∃w' E',(newRow elem cells).run P w=.ok ⟨w.heap.size,0,none⟩ w'/\Evo E h w E' (h.add B) w'/\E'.blk h.next=some (w.heap.size,cells.size):=by
 refine ⟨{ w with heap:=w.heap.push (.cells cells elem (0,0))},E.ext h.next w.heap.size cells.size,by simp [newRow],W8 e _ _ _ (hB _ _ (Env.ext_le (e.fresh _ (J5 _))) (Env.ext_same _ _ _ _) ?_),Env.ext_same _ _ _ _⟩
 simp
theorem Z0h {P:Program} {E:Env} {h:Z9} {w:World} (e:Emb E h w) (elem:TypeId) (cs:List AV) (vs:List Value) (hc:Zn E cs vs):
  ∃w' E',(newRow elem vs.toArray).run P w=.ok ⟨w.heap.size,0,none⟩ w'/\Evo E h w E' (h.add (.flat cs)) w'/\E'.blk h.next=some (w.heap.size,vs.length):=by
 obtain ⟨w',E',h1,h2,h3⟩:=UK (P:=P) e elem vs.toArray (.flat cs) (fun E' w' le hb hw=>.flat cs w.heap.size vs.toArray elem (0,0) vs hb hw (Wf _) (hc.mono le) (fun j c hj=>by simpa using hj))
 exact ⟨w',E',h1,h2,by simpa using h3⟩
def Z1d (P:Program) (h:Z9) (t:TypeId) (K:AV->Z9->Prop):Prop:=
 match Qh P t with
 | some cs=>K (Z5B h) (h.add (.flat cs))
 | none=>False
theorem UL {E:Env} {h:Z9} {b N:Nat} (hb:E.blk h.next=some (b,N)):Zc E (Z5B h) (.pointer (some ⟨b,0,none⟩)):=
 .ptr ⟨h.next,0,0,0,0⟩ b N hb
theorem Z7V {P:Program} {h:Z9} {t:TypeId} {K:AV->Z9->Prop} (hl:Z1d P h t K):
  ∃v h',K v h'/\∀(E:Env) (w:World) (x:Value),Emb E h w->∃r w' E',(Instr.alloc t true x).run P w=.ok r w'/\Evo E h w E' h' w'/\Zc E' v r:=by
 unfold Z1d at hl
 split at hl
 ·rename_i cs hz
  obtain ⟨z,hz1,hz2⟩:=We hz
  refine ⟨_,_,hl,fun E w x he=> ?_⟩
  obtain ⟨w',E',h1,h2,h3⟩:=Z0h (P:=P) he t cs z.cells.toList (hz2 E)
  refine ⟨_,w',E', ?_,h2,UL h3⟩
  have h1':(newRow t z.cells).run P w=.ok ⟨w.heap.size,0,none⟩ w':=by simpa using h1
  simp [Instr.alloc,hz1,newVar,h1']
 ·exact hl.elim
def ZdA (h:Z9) (v:AV) (K:AV->Z9->Prop):Prop:=
 match X8 v with
 | some cs=>K (Z5B h) (h.add (.flat cs))
 | none=>False
theorem Zbb {h:Z9} {K:AV->Z9->Prop} (hl:ZdA h v K) (P:Program) (t:TypeId):
  ∃x h',K x h'/\∀(E:Env) (w:World) (rv:Value),Emb E h w->Zc E v rv->∃r w' E',(Instr.box t rv).run P w=.ok r w'/\Evo E h w E' h' w'/\Zc E' x r:=by
 unfold ZdA at hl
 split at hl
 ·rename_i cs hc
  refine ⟨_,_,hl,fun E w rv he hv=> ?_⟩
  obtain ⟨w',E',h1,h2,h3⟩:=Z0h (P:=P) he t cs rv.cells.toList (W0 hc hv)
  refine ⟨_,w',E', ?_,h2,UL h3⟩
  have h1':(newRow t rv.cells).run P w=.ok ⟨w.heap.size,0,none⟩ w':=by simpa using h1
  simp [Instr.box,newVar,h1']
 ·exact hl.elim
theorem XV (off:Nat):∀(vs:List Value) (k:Nat) (cells:Array Value),
  (vs.zipIdx k).foldl (fun cs (x:Value×Nat)=>cs.setIfInBounds (off+x.2) x.1) cells=YL cells (off+k) vs
 | [],_,_=>rfl
 | v::r,k,cells=>by
  simp only [List.zipIdx_cons,List.foldl_cons,YL]
  rw [XV off r (k+1)]
  rfl
theorem QK (place:Nat->Option (Nat×Nat)) (cells:Array Value) (i:Nat) (v:Value) (rest:List (Nat×Value)) (off size:Nat) (hp:place i=some (off,size)) (h1:v.cells.size=size) (h2:off+size<=cells.size):
  Instr.fill place cells ((i,v)::rest)=Instr.fill place (YL cells off v.cells.toList) rest:=by
 simp only [Instr.fill,hp]
 rw [if_neg (by simp;omega)]
 congr 1
 have:=XV off v.cells.toList 0 cells
 rw [Ke] at this
 rw [<-this,<-Array.foldl_toList]
 simp
theorem Uv (cells:Array Value) (o:Nat) (vs:List Value) (h:o+vs.length<=cells.size):(YL cells o vs).toList=Yc cells.toList o vs:=by
 apply Kc
 intro j
 rw [Vx _ _ _ (by simpa using h)]
 simp only [Array.getElem?_toList]
 split
 ·rename_i hj
  have:=X3 vs o cells (j-o) h (by omega)
  rw [show o+(j-o)=j by omega] at this
  exact this
 ·rename_i hj
  exact YF vs o cells j (by omega)
def Z1e (places:List (Nat×Nat)):List (Nat×AV)->List AV->(List AV->Prop)->Prop
 | [],cs,K=>K cs
 | (i,v)::r,cs,K=>match places[i]? with
  | some (off,sz)=>match X8 v with
   | some news=>match Nat.beq (csz news) sz with
    | true=>Z16 off 0 news cs fun cs'=>Z1e places r cs' K
    | false=>False
   | none=>False
  | none=>False
inductive Z3s (E:Env):List (Nat×AV)->List (Nat×Value)->Prop
 | nil:Z3s E [] []
 | cons (i:Nat) (v:AV) (r:Value) (vs:List (Nat×AV)) (rs:List (Nat×Value)) (h:Zc E v r) (t:Z3s E vs rs):Z3s E ((i,v)::vs) ((i,r)::rs)
theorem Z2A {places:List (Nat×Nat)}:∀(parts:List (Nat×AV)) (cs:List AV) (K:List AV->Prop),Z1e places parts cs K->
  ∃cs',K cs'/\∀(E:Env) (cells:Array Value) (rparts:List (Nat×Value)),Zn E cs cells.toList->Z3s E parts rparts->
   ∃cells',Instr.fill (places.toArray[·]?) cells rparts=some cells'/\Zn E cs' cells'.toList:=by
 intro parts
 induction parts with
 | nil=>
  intro cs K h
  refine ⟨cs,h,fun E cells rparts hc hp=> ?_⟩
  cases hp
  exact ⟨cells,rfl,hc⟩
 | cons p r ih=>
  intro cs K h
  obtain ⟨i,v⟩:=p
  simp only [Z1e] at h
  split at h
  ·rename_i off sz hpl
   split at h
   ·rename_i news hn
    split at h
    ·rename_i hb
     have hsz:csz news=sz:=J0 hb
     obtain ⟨cs1,hK1,hr1⟩:=Z17 _ _ _ _ _ h
     obtain ⟨cs2,hK2,hr2⟩:=ih cs1 K hK1
     refine ⟨cs2,hK2,fun E cells rparts hc hp=> ?_⟩
     cases hp with
     | cons i v rv vs rs hv ht=>
      have hnews:=W0 hn hv
      have hl:=hnews.length
      obtain ⟨hle,hc1⟩:=hr1 E cells.toList rv.cells.toList hc hnews
      have hle':off+rv.cells.size<=cells.size:=by simpa using hle
      rw [QK (places.toArray[·]?) cells i rv rs off sz (by simpa using hpl) (by rw [<-hsz,<-hl];simp) (by rw [<-hsz,<-hl];simpa using hle')]
      refine hr2 E _ rs ?_ ht
      rw [Uv _ _ _ (by simpa using hle')]
      simpa using hc1
    ·exact h.elim
   ·exact h.elim
  ·exact h.elim
 
theorem Z1f {E:Env} {h:Z9} {w:World} (e:Emb E h w) (o:Obj):Evo E h w E h { w with heap:=w.heap.push o}:=by
 refine ⟨.refl E,⟨e.fresh,e.lt,fun x B hx=>(e.own x B hx).congr fun b N hb=>World.push_old ((e.own x B hx).lt hb),e.disj,fun a c hi=> ?_,e.sep⟩,by simp,rfl,rfl,⟨rfl,J5 _⟩,fun b hb _=>World.push_old hb,fun b h=>.inl h,fun _ _ h=>h⟩
 have h1:=e.imm a c hi
 have hlt:a.block<w.heap.size:=by
  rcases J7 a.block w.heap.size with hl|hg
  ·exact hl
  ·simp [World.cell?,Jj hg] at h1
 simpa [World.cell?,World.push_old hlt] using h1
def Qi (P:Program):List Field->Option (List (Nat×Nat))
 | []=>some []
 | f::r=>match ZV P f.type,Qi P r with
  | some s,some l=>some ((f.offset,s)::l)
  | _,_=>none
theorem run_places {P:Program}:∀(fs:List Field) (l:List (Nat×Nat)),Qi P fs=some l->∀w,(fs.mapM (m:=Sem) fun (f:Field)=>do pure (f.offset,<-sizeOf f.type)).run P w=.ok l w
 | [],l,h,w=>by simp [Qi] at h;subst h;simp
 | f::r,l,h,w=>by
  simp only [Qi] at h
  split at h
  ·rename_i s l' hs hl
   injection h with h
   subst h
   have ih:=run_places r l' hl w
   simp only [List.mapM_cons,J6,run_sizeOf hs,J4,Ji,ih]
  ·cases h
def WN (k:IntKind):List (Nat×AV)->LI->Option (LI)
 | [],xs=>some xs
 | (i,.int k' v)::r,xs=>match decide (k=k')&&Nat.blt i xs.length with
  | true=>WN k r (xs.set i v)
  | false=>none
 | _,_=>none
theorem Z1g {k:IntKind}:∀(parts:List (Nat×AV)) (xs ys:LI),WN k parts xs=some ys->ys.length=xs.length
 | [],xs,ys,h=>by simp [WN] at h;rw [h]
 | (i,v)::r,xs,ys,h=>by
  cases v with
  | int k' n=>
   simp only [WN] at h
   split at h
   ·have:=Z1g r _ _ h;simpa using this
   ·cases h
  | _=>simp [WN] at h
theorem Z2B {k:IntKind} {E:Env}:∀(parts:List (Nat×AV)) (xs ys:LI) (cells:Array Value) (rparts:List (Nat×Value)),WN k parts xs=some ys->cells.toList=intCells k xs.length xs->Z3s E parts rparts->
   ∃cells',Instr.fill (fun i=>some (i*1,1)) cells rparts=some cells'/\cells'.toList=intCells k ys.length ys
 | [],xs,ys,cells,rparts,h,hc,hp=>by
  simp [WN] at h;subst h
  cases hp
  exact ⟨cells,rfl,hc⟩
 | (i,v)::r,xs,ys,cells,rparts,h,hc,hp=>by
  cases v with
  | int k' n=>
   simp only [WN] at h
   split at h
   ·rename_i hb
    rw [J3,decide_eq_true_eq] at hb
    obtain ⟨rfl,hb⟩:=hb
    have hlt:i<xs.length:=by
     have:=Jh hb
     omega
    cases hp with
    | cons i v rv vs rs hv ht=>
     cases hv
     have hcs:cells.size=xs.length:=by have:=congrArg List.length hc;simpa [Z8] using this
     rw [QK _ cells i _ rs (i*1) 1 rfl rfl (by omega)]
     refine Z2B r (xs.set i n) ys _ rs h ?_ ht
     rw [Uv _ _ _ (by simp [Value.cells];omega),hc,JL,List.length_set,Qe k xs.length i xs n hlt hlt]
     simp [Yc,Value.cells]
   ·cases h
  | _=>simp [WN] at h
def Z5C (P:Program) (t:TypeId) (parts:List (Nat×AV)) (K:AV->Prop):Prop:=
 match Qh P t with
 | none=>False
 | some cs0=>match P.underlying t with
  | some (.struct fields)=>match Qi P fields.toList with
   | some places=>Z1e places parts cs0 fun cs=>K (.agg cs)
   | none=>False
  | some (.array n e)=>match P.underlying e,ZV P e,cs0 with
   | some (.int k),some 1,[.arr k' n' zs]=>match decide (k=k')&&Nat.beq n n'&&Nat.beq n zs.length with
    | true=>match WN k parts zs with
     | some xs=>K (.agg [.arr k n xs])
     | none=>False
    | false=>False
   | _,some s,_=>Z1e ((List.range n).map fun i=>(i*s,s)) parts cs0 fun cs=>K (.agg cs)
   | _,none,_=>False
  | _=>False
theorem Z1h {p p':Nat->Option (Nat×Nat)} (h:∀i q,p i=some q->p' i=some q):∀(parts:List (Nat×Value)) (cells c:Array Value),Instr.fill p cells parts=some c->Instr.fill p' cells parts=some c
 | [],_,_,hf=>by simpa [Instr.fill] using hf
 | (i,v)::r,cells,c,hf=>by
  simp only [Instr.fill] at hf⊢
  cases hp:p i with
  | none=>rw [hp] at hf;cases hf
  | some q=>
   rw [hp] at hf
   rw [h i q hp]
   obtain ⟨off,size⟩:=q
   simp only at hf⊢
   split at hf
   ·cases hf
   ·rename_i hc
    rw [if_neg hc]
    exact Z1h h r _ c hf
theorem Z7W {P:Program} {t:TypeId} {K:AV->Prop} (hl:Z5C P t parts K):
  ∃v,K v/\∀(E:Env) (w:World) (rparts:List (Nat×Value)),Z3s E parts rparts->∃r,(Instr.build t rparts.toArray).run P w=.ok r w/\Zc E v r:=by
 unfold Z5C at hl
 split at hl
 ·exact hl.elim
 ·rename_i cs0 hz
  obtain ⟨z,hz1,hz2⟩:=We hz
  split at hl
  ·rename_i fields hu
   split at hl
   ·rename_i places hp
    obtain ⟨cs,hK,hr⟩:=Z2A _ _ _ hl
    refine ⟨_,hK,fun E w rparts hpr=> ?_⟩
    obtain ⟨cells',h1,h2⟩:=hr E z.cells rparts (hz2 E) hpr
    refine ⟨.agg cells', ?_, ?_⟩
    ·have hpl:=run_places fields.toList places hp w
     have h1':Instr.fill (fun x=>places[x]?) z.cells rparts=some cells':=by simpa using h1
     simp only [Instr.build,J6,hz1,J4,Za hu,Array.mapM_eq_mapM_toList,Sem.run_map,hpl]
     simp [h1']
    ·have:Zc E (.agg cs) (.agg cells'.toList.toArray):=.agg _ _ h2
     simpa using this
   ·exact hl.elim
  ·rename_i n e hu
   split at hl
   ·rename_i k k' n' zs hue hse
    split at hl
    ·rename_i hb
     rw [J3,J3,decide_eq_true_eq] at hb
     obtain ⟨⟨rfl,hb1⟩,hb2⟩:=hb
     have e1:n=n':=J0 hb1
     have e2:n=zs.length:=J0 hb2
     subst e1
     split at hl
     ·rename_i xs hx
      refine ⟨_,hl,fun E w rparts hpr=> ?_⟩
      have hc:=hz2 E
      obtain ⟨ws,hws,hnil⟩:=hc.cons_arr
      cases hnil
      obtain ⟨cells',h1,h2⟩:=Z2B parts zs xs z.cells rparts hx (by rw [hws,<-e2];simp) hpr
      refine ⟨.agg cells', ?_, ?_⟩
      ·simp [Instr.build,hz1,Za hu,run_sizeOf hse]
       simp at h1
       rw [h1]
       simp
      ·have hlen:=Z1g _ _ _ hx
       have:Zc E (.agg [.arr k n xs]) (.agg (intCells k n xs++[]).toArray):=.agg _ _ (.arr k n xs _ _ .nil)
       rw [JU] at this
       have e3:xs.length=n:=by omega
       rw [<-e3] at this⊢
       rw [<-h2] at this
       simpa using this
     ·exact hl.elim
    ·exact hl.elim
   ·rename_i s hse _
    obtain ⟨cs,hK,hr⟩:=Z2A _ _ _ hl
    refine ⟨_,hK,fun E w rparts hpr=> ?_⟩
    obtain ⟨cells',h1,h2⟩:=hr E z.cells rparts (hz2 E) hpr
    refine ⟨.agg cells', ?_, ?_⟩
    ·have h1':Instr.fill (fun i=>some (i*s,s)) z.cells rparts=some cells':=by
      refine Z1h (fun i q hq=> ?_) rparts _ _ h1
      simp only [JO,JT] at hq
      cases hg:(List.range n)[i]? with
      | none=>rw [hg] at hq;cases hq
      | some j=>
       rw [hg] at hq
       have:i=j:=by
        have:=Js.1 hg
        obtain ⟨_,h⟩:=this
        simpa using h
       subst this
       exact hq
     simp [Instr.build,hz1,Za hu,run_sizeOf hse,h1']
    ·have:Zc E (.agg cs) (.agg cells'.toList.toArray):=.agg _ _ h2
     simpa using this
   ·exact hl.elim
  ·exact hl.elim
def Z4x:Nat->List (Nat×AV)->Option (List AV)
 | _,[]=>some []
 | n,(i,v)::r=>match Nat.beq i n with
  | true=>match Z4x (n+1) r with
   | some l=>some (v::l)
   | none=>none
  | false=>none
def QL (k:IntKind):List AV->Option (LI)
 | []=>some []
 | .int k' n::r=>match decide (k=k') with
  | true=>match QL k r with
   | some l=>some (n::l)
   | none=>none
  | false=>none
 | _=>none
def Z8X (size:Nat):List AV->Option (List AV)
 | []=>some []
 | v::r=>match X8 v with
  | some cs=>match Nat.beq (csz cs) size with
   | true=>match Z8X size r with
    | some l=>some (cs++l)
    | none=>none
   | false=>none
  | none=>none
def XE:Nat->List Value->List (Nat×Value)
 | _,[]=>[]
 | n,v::r=>(n,v)::XE (n+1) r
theorem W9 {E:Env}:∀(parts:List (Nat×AV)) (n:Nat) (vs:List AV) (rparts:List (Nat×Value)),Z4x n parts=some vs->Z3s E parts rparts->∃rs,Zw E vs rs/\rparts=XE n rs
 | [],n,vs,rparts,h,hp=>by
  simp [Z4x] at h;subst h;cases hp
  exact ⟨[],.nil,rfl⟩
 | (i,v)::r,n,vs,rparts,h,hp=>by
  simp only [Z4x] at h
  split at h
  ·rename_i hb
   have:i=n:=J0 hb
   subst this
   split at h
   ·rename_i l hl
    injection h with h
    subst h
    cases hp with
    | cons i v rv vs rs hv ht=>
     obtain ⟨rs',h1,h2⟩:=W9 r (i+1) l rs hl ht
     exact ⟨rv::rs',.cons _ _ _ _ hv h1,by rw [h2];rfl⟩
   ·cases h
  ·cases h
def Z3t:List Value->List Value
 | []=>[]
 | v::r=>v.cells.toList++Z3t r
theorem Z4y (size:Nat):∀(rs:List Value) (k:Nat) (cells:Array Value),(∀r∈rs,r.cells.size=size)->(k+rs.length)*size<=cells.size->
  ∃cells',Instr.fill (fun i=>some (i*size,size)) cells (XE k rs)=some cells'/\cells'.size=cells.size/\(∀(j:Nat),j<k*size->cells'[j]? =cells[j]?)/\
   ∀(j:Nat) c,(Z3t rs)[j]? =some c->cells'[k*size+j]? =some c
 | [],k,cells,_,_=>⟨cells,rfl,rfl,fun _ _=>rfl,fun j c h=>by simp [Z3t] at h⟩
 | r::rs,k,cells,hs,hl=>by
  have hr:r.cells.size=size:=hs r (by simp)
  have e1:(k+(r::rs).length)*size=k*size+size+rs.length*size:=by simp only [Jw,JD,Kh];omega
  have e2:(k+1)*size=k*size+size:=by rw [JD,Kh]
  have e3:(k+1+rs.length)*size=k*size+size+rs.length*size:=by simp only [JD,Kh]
  obtain ⟨cells',h1,h2,h3,h4⟩:=Z4y size rs (k+1) (YL cells (k*size) r.cells.toList) (fun x hx=>hs x (by simp [hx])) (by rw [Y3,e3];omega)
  refine ⟨cells', ?_,by rw [h2,Y3], ?_, ?_⟩
  ·simp only [XE]
   rw [QK _ cells k r _ (k*size) size rfl hr (by omega)]
   exact h1
  ·intro j hj
   rw [h3 j (by omega),YF _ _ _ _ (by omega)]
  ·intro j c hc
   simp only [Z3t] at hc
   rcases J7 j size with hj|hj
   ·rw [J8 (by simp;omega)] at hc
    rw [h3 _ (by omega)]
    have:=X3 r.cells.toList (k*size) cells j (by simp;omega) (by simp;omega)
    rw [this];exact hc
   ·rw [Jb (by simp;omega)] at hc
    simp only [Array.length_toList,hr] at hc
    have:=h4 (j-size) c hc
    rw [e2,show k*size+size+(j-size)=k*size+j by omega] at this
    exact this
theorem Z1i {E:Env} {size:Nat}:∀(vs:List AV) (rs:List Value) (cs:List AV),Z8X size vs=some cs->Zw E vs rs->Zn E cs (Z3t rs)/\∀r∈rs,r.cells.size=size
 | [],rs,cs,h,hr=>by
  simp [Z8X] at h;subst h;cases hr
  exact ⟨.nil,by simp⟩
 | v::r,rs,cs,h,hr=>by
  simp only [Z8X] at h
  split at h
  ·rename_i c hc
   split at h
   ·rename_i hb
    split at h
    ·rename_i l hl
     injection h with h
     subst h
     cases hr with
     | cons v rv vs rs hv ht=>
      obtain ⟨h1,h2⟩:=Z1i r rs l hl ht
      have hcv:=W0 hc hv
      refine ⟨hcv.append h1,fun x hx=> ?_⟩
      rcases J9.1 hx with rfl|hx
      ·have:=hcv.length
       rw [J0 hb] at this
       simpa using this
      ·exact h2 x hx
    ·cases h
   ·cases h
  ·cases h
theorem UM {E:Env} {k:IntKind}:∀(vs:List AV) (rs:List Value) (xs:LI),QL k vs=some xs->Zw E vs rs->xs.length=rs.length/\(∀r∈rs,r.cells.size=1)/\∀(j:Nat),j<xs.length->(Z3t rs)[j]? =some (.int k (xs.getD j 0))
 | [],rs,xs,h,hr=>by
  simp [QL] at h;subst h;cases hr
  exact ⟨rfl,by simp,fun j hj=>by simp at hj⟩
 | v::r,rs,xs,h,hr=>by
  cases v with
  | int k' n=>
   simp only [QL] at h
   split at h
   ·rename_i hd
    rw [decide_eq_true_eq] at hd
    subst hd
    split at h
    ·rename_i l hl
     injection h with h
     subst h
     cases hr with
     | cons v rv vs rs hv ht=>
      cases hv
      obtain ⟨h0,h1,h2⟩:=UM r rs l hl ht
      refine ⟨by simp [h0],fun x hx=> ?_,fun j hj=> ?_⟩
      ·rcases J9.1 hx with rfl|hx
       ·rfl
       ·exact h1 x hx
      ·cases j with
       | zero=>simp [Z3t,Value.cells]
       | succ j=>
        simp only [Z3t,Value.cells,Ki,List.nil_append,JS,List.getD_cons_succ]
        exact h2 j (by simpa using hj)
    ·cases h
   ·cases h
  | _=>simp [QL] at h
def XF (P:Program) (h:Z9) (t:TypeId) (len:Nat) (parts:List (Nat×AV)) (K:AV->Z9->Prop):Prop:=
 match P.underlying t with
 | some (.slice e)=>match ZV P e,Z4x 0 parts with
  | some size,some vs=>match Nat.beq vs.length len,Nat.ble (len*size) 16777216,Qh P e with
   | true,true,some _=>match vs with
    | []=>K .eslice h
    | _::_=>match P.underlying e,Nat.beq size 1 with
     | some (.int k),true=>match QL k vs with
      | some xs=>K (.nslice ⟨h.next,0,0,0,0⟩ 1 len len) (h.add (.ints k xs))
      | none=>False
     | some (.int _),false=>False
     | _,_=>match Z8X size vs with
      | some cs=>K (.nslice ⟨h.next,0,0,0,0⟩ size len len) (h.add (.flat cs))
      | none=>False
   | _,_,_=>False
  | _,_=>False
 | _=>False
theorem Zw.length {E:Env}:∀{vs:List AV} {rs:List Value},Zw E vs rs->rs.length=vs.length
 | _,_,.nil=>rfl
 | _,_,.cons _ _ _ _ _ t=>by simp [Zw.length t]
theorem run_buildSlice {P:Program} {t e:TypeId} (hu:P.underlying t=some (.slice e)) {size len:Nat} (hs:ZV P e=some size) (hle:len*size<=16777216) (hz:∀w,(zeroValue e).run P w=.ok z w)
  (rs:List Value) (hl:rs.length=len) (h1:∀r∈rs,r.cells.size=size):
  ∃cells:Array Value,cells.size=len*size/\(∀(j:Nat) c,(Z3t rs)[j]? =some c->cells[j]? =some c)/\
   ∀w:World,(Instr.buildSlice t len (XE 0 rs).toArray).run P w=((newRow e cells).run P w).andThen fun a w'=>.ok (.slice (some a) len len) w':=by
 let z0:Array Value:=if len*size=0 then #[] else z.cells
 let c0:Array Value:=(Array.range (len*size)).map (z0[· %z0.size]!)
 have hc0:c0.size=len*size:=by simp [c0]
 obtain ⟨cells,f1,f2,_,f4⟩:=Z4y size rs 0 c0 h1 (by rw [hc0,JE,hl];exact J5 _)
 refine ⟨cells,by rw [f2,hc0],fun j c hj=>by simpa using f4 j c hj,fun w=> ?_⟩
 simp only [Instr.buildSlice,J6,Za hu,J4,run_sizeOf hs]
 rw [if_neg (by omega)]
 by_cases hz0:len*size=0
 ·have e0:z0= #[]:=if_pos hz0
  simp only [c0,e0,hz0] at f1
  simp only [hz0,if_true,J6,Ji,J4]
  rw [f1]
  simp
 ·have e0:z0=z.cells:=if_neg hz0
  simp only [hz0,if_false,J6,hz,Ji,J4]
  simp only [c0,e0] at f1
  rw [f1]
  simp
theorem Z1j {P:Program} {h:Z9} {t:TypeId} {len:Nat} {K:AV->Z9->Prop} (hl:XF P h t len parts K):
  ∃v h',K v h'/\∀(E:Env) (w:World) (rparts:List (Nat×Value)),Emb E h w->Z3s E parts rparts->∃r w' E',(Instr.buildSlice t len rparts.toArray).run P w=.ok r w'/\Evo E h w E' h' w'/\Zc E' v r:=by
 unfold XF at hl
 split at hl
 ·rename_i e hu
  split at hl
  ·rename_i size vs hs hrow
   split at hl
   ·rename_i zc hb1 hb2 hz
    have hlen:vs.length=len:=J0 hb1
    have hle:=WM hb2
    obtain ⟨z,hz1,_⟩:=We hz
    split at hl
    ·refine ⟨_,_,hl,fun E w rparts he hp=> ?_⟩
     obtain ⟨rs,hr1,rfl⟩:=W9 _ _ _ _ hrow hp
     cases hr1
     simp only [JK] at hlen
     subst hlen
     obtain ⟨cells,c1,c2,c3⟩:=run_buildSlice hu hs hle hz1 [] rfl (by simp)
     refine ⟨.slice (some ⟨w.heap.size,0,none⟩) 0 0,{ w with heap:=w.heap.push (.cells cells e (0,0))},E,by rw [c3];simp [newRow],Z1f he _,.eslice _⟩
    ·rename_i v0 vr
     have hpos:0<len:=by rw [<-hlen];simp
     split at hl
     ·rename_i k hue hb
      have hsz:size=1:=J0 hb
      subst hsz
      split at hl
      ·rename_i xs hx
       refine ⟨_,_,hl,fun E w rparts he hp=> ?_⟩
       obtain ⟨rs,hr1,rfl⟩:=W9 _ _ _ _ hrow hp
       obtain ⟨i0,i1,i2⟩:=UM _ _ _ hx hr1
       have hrl:rs.length=len:=by rw [hr1.length,hlen]
       obtain ⟨cells,c1,c2,c3⟩:=run_buildSlice hu hs hle hz1 rs hrl i1
       obtain ⟨w',E',n1,n2,n3⟩:=UK (P:=P) he e cells (.ints k xs) (fun E' w' le hb hw=>.ints k xs w.heap.size cells e (0,0) hb hw (Wf _) (fun j hj=>c2 _ _ (i2 j hj)))
       refine ⟨.slice (some ⟨w.heap.size,0,none⟩) len len,w',E',by rw [c3,n1];rfl,n2, ?_⟩
       exact .nslice ⟨h.next,0,0,0,0⟩ 1 len len w.heap.size cells.size len n3 (J5 _) (J5 _) (by simp [ZN.tot,c1])
      ·exact hl.elim
     ·exact hl.elim
     ·split at hl
      ·rename_i cs hcat
       refine ⟨_,_,hl,fun E w rparts he hp=> ?_⟩
       obtain ⟨rs,hr1,rfl⟩:=W9 _ _ _ _ hrow hp
       obtain ⟨i1,i2⟩:=Z1i _ _ _ hcat hr1
       have hrl:rs.length=len:=by rw [hr1.length,hlen]
       obtain ⟨cells,c1,c2,c3⟩:=run_buildSlice hu hs hle hz1 rs hrl i2
       obtain ⟨w',E',n1,n2,n3⟩:=UK (P:=P) he e cells (.flat cs) (fun E' w' le hb hw=>.flat cs w.heap.size cells e (0,0) _ hb hw (Wf _) (i1.mono le) c2)
       refine ⟨.slice (some ⟨w.heap.size,0,none⟩) len len,w',E',by rw [c3,n1];rfl,n2, ?_⟩
       exact .nslice ⟨h.next,0,0,0,0⟩ size len len w.heap.size cells.size len n3 (J5 _) (J5 _) (by simp [ZN.tot,c1])
      ·exact hl.elim
   ·exact hl.elim
  ·exact hl.elim
 ·exact hl.elim
def ZdB (P:Program) (h:Z9) (T:TypeId) (x:AV) (K:AV->Prop):Prop:=
 match P.underlying T with
 | some (.slice _)=>match x with
  | .nslice _ _ len _=>K (.int .i64 len)
  | .vints _ _ len=>K (.int .i64 len)
  | .vrows _ _ _ len=>K (.int .i64 len)
  | .eslice=>K (.int .i64 0)
  | .fslice=>K (.int .i64 0)
  | .nilslice=>K (.int .i64 0)
  | _=>False
 | some .string=>match x with
  | .str s=>K (.int .i64 s.size)
  | _=>False
 | some (.array n _)=>K (.int .i64 n)
 | some (.pointer arr)=>match P.underlying arr with
  | some (.array n _)=>K (.int .i64 n)
  | _=>False
 | some (.map _ _)=>match x with
  | .map none=>K (.int .i64 0)
  | .map (some y)=>match h.get y with
   | some (.map es)=>K (.int .i64 es.length)
   | some (.fmap n _ _)=>K (.int .i64 n)
   | _=>False
  | _=>False
 | _=>False
theorem Zbc {P:Program} {h:Z9} {T ty:TypeId} {x:AV} {K:AV->Prop} (hl:ZdB P h T x K):
  ∃v,K v/\∀(E:Env) (w:World) (r:Value),Emb E h w->Zc E x r->∃r',(Builtin.len_ #[T] ty #[r]).run P w=.ok r' w/\Zc E v r':=by
 unfold ZdB at hl
 split at hl
 ·rename_i e hu
  split at hl
  ·refine ⟨_,hl,fun E w r he hx=> ?_⟩
   cases hx with
   | nslice0 p esz len lo a h1 h2=>subst h1;exact ⟨_,by simp [Builtin.len_,Za hu,goInt],.int _ _⟩
   | nslice p esz len lo b N cap hb h1 h2 h3=>exact ⟨_,by simp [Builtin.len_,Za hu,goInt],.int _ _⟩
  ·refine ⟨_,hl,fun E w r he hx=> ?_⟩
   cases hx with
   | vintsNil k xs len h1 h2=>subst h2;exact ⟨_,by simp [Builtin.len_,Za hu,goInt],.int _ _⟩
   | vints k xs len a cap h1 h2 hi=>exact ⟨_,by simp [Builtin.len_,Za hu,goInt],.int _ _⟩
  ·refine ⟨_,hl,fun E w r he hx=> ?_⟩
   cases hx with
   | vrowsNil esz n f len h1 h2=>subst h2;exact ⟨_,by simp [Builtin.len_,Za hu,goInt],.int _ _⟩
   | vrows esz n f len a cap g h1 h2 hc hl hi=>exact ⟨_,by simp [Builtin.len_,Za hu,goInt],.int _ _⟩
  ·refine ⟨_,hl,fun E w r he hx=> ?_⟩
   cases hx
   exact ⟨_,by simp [Builtin.len_,Za hu,goInt],.int _ _⟩
  ·refine ⟨_,hl,fun E w r he hx=> ?_⟩
   cases hx
   exact ⟨_,by simp [Builtin.len_,Za hu,goInt],.int _ _⟩
  ·refine ⟨_,hl,fun E w r he hx=> ?_⟩
   cases hx
   exact ⟨_,by simp [Builtin.len_,Za hu,goInt],.int _ _⟩
  ·exact hl.elim
 ·rename_i hu
  split at hl
  ·refine ⟨_,hl,fun E w r he hx=> ?_⟩
   cases hx
   exact ⟨_,by simp [Builtin.len_,Za hu,goInt],.int _ _⟩
  ·exact hl.elim
 ·rename_i n e hu
  refine ⟨_,hl,fun E w r he hx=>⟨_,by simp [Builtin.len_,Za hu,goInt],.int _ _⟩⟩
 ·rename_i arr hu
  split at hl
  ·rename_i n e hu2
   refine ⟨_,hl,fun E w r he hx=>⟨_,by simp [Builtin.len_,Za hu,Za hu2,goInt],.int _ _⟩⟩
  ·exact hl.elim
 ·rename_i k e hu
  split at hl
  ·refine ⟨_,hl,fun E w r he hx=> ?_⟩
   cases hx
   exact ⟨_,by simp [Builtin.len_,Za hu,goInt],.int _ _⟩
  ·rename_i y
   split at hl
   ·rename_i es hg
    refine ⟨_,hl,fun E w r he hx=> ?_⟩
    cases hx with
    | map x b N hb=>
     have hB:=he.own _ _ hg
     cases hB with
     | map es b' ents clock hb' hw hk hv=>
      rw [hb'] at hb
      injection hb with hb
      injection hb with h1 h2
      subst h1
      have hlen:=hk.length
      simp only [List.length_map] at hlen
      refine ⟨.int .i64 es.length, ?_,.int _ _⟩
      simp [Builtin.len_,Za hu,goInt,getObj,Sem.run,hw,hlen]
   ·rename_i n kf vf hg
    refine ⟨_,hl,fun E w r he hx=> ?_⟩
    cases hx with
    | map x b N hb=>
     have hB:=he.own _ _ hg
     cases hB with
     | fmap n kf vf b' ents clock hb' hw hlen hk hv=>
      rw [hb'] at hb
      injection hb with hb
      injection hb with h1 h2
      subst h1
      refine ⟨.int .i64 n, ?_,.int _ _⟩
      simp [Builtin.len_,Za hu,goInt,getObj,Sem.run,hw,hlen]
   ·exact hl.elim
  ·exact hl.elim
 ·exact hl.elim
def X9 (n:Nat) (xs:LI):LI:=match n with|0=>xs|n+1=>xs.drop (n+1)
theorem YA (n:Nat) (xs:LI):X9 n xs=xs.drop n:=by cases n<;>rfl
def Uw (h:Z9) (k:IntKind) (x:AV) (K:LI->Prop):Prop:=
 match x with
 | .nilslice=>K []
 | .eslice=>K []
 | .fslice=>K []
 | .vints k' xs len=>Z6 (k'=k) (K (xs.take len))
 | .nslice p esz len _=>match Nat.beq esz 1,h.get p.blk with
  | true,some (.ints k' xs)=>Z6 (k'=k/\p.tot+len<=xs.length) (K ((X9 p.tot xs).take len))
  | true,some (.flat cs)=>match p.row,Ys p.off cs with
   | 0,some (.arr k' n xs::_)=>match Nat.beq p.inn 0&&Nat.beq len n with
    | true=>Z6 (k'=k/\xs.length=n) (K xs)
    | false=>Z6 (k'=k/\xs.length=n/\p.inn+len<=n) (K ((X9 p.inn xs).take len))
   | _,_=>False
  | _,_=>False
 | _=>False
def Reads (w:World) (esz:Nat) (r:Value) (m:Nat) (vs:List Value):Prop:=
 ∃a c,r=.slice a m c/\vs.length=m*esz/\∀j v,vs[j]? =some v->∃ad,a=some ad/\w.cell? (ad.add j)=some v
theorem XG {h:Z9} {k:IntKind} {x:AV} {K:LI->Prop} (hl:Uw h k x K):
  ∃ys,K ys/\∀(E:Env) (w:World) (r:Value),Emb E h w->Zc E x r->Reads w 1 r ys.length (intCells k ys.length ys):=by
 unfold Uw at hl
 have key:∀(w:World) (ys:LI) (a:Addr) (c:Nat),(∀i,i<ys.length->w.cell? (a.add i)=some (.int k (ys.getD i 0)))->Reads w 1 (.slice (some a) ys.length c) ys.length (intCells k ys.length ys):=fun w ys a c hc=>
  ⟨some a,c,rfl,by rw [Z8,JL],fun j v hj=>⟨a,rfl,by
   rcases J7 j ys.length with hlt|hge
   ·rw [Zj hlt] at hj;cases hj;exact hc j hlt
   ·rw [Ya hge] at hj;cases hj⟩⟩
 have hnil:∀(w:World) (a:Option Addr),Reads w 1 (.slice a 0 0) ([]:LI).length (intCells k ([]:LI).length []):=fun w a=>⟨a,0,rfl,rfl,fun j v hj=>by simp [intCells] at hj⟩
 split at hl
 ·exact ⟨[],hl,fun E w r he hx=>by cases hx;exact hnil w none⟩
 ·exact ⟨[],hl,fun E w r he hx=>by cases hx;exact hnil w _⟩
 ·exact ⟨[],hl,fun E w r he hx=>by cases hx with|fslice a cap=>exact ⟨some a,cap,rfl,rfl,fun j v hj=>by simp [intCells] at hj⟩⟩
 ·rename_i k' xs len
  obtain ⟨rfl,hk⟩:=Zb hl
  refine ⟨_,hk,fun E w r he hx=> ?_⟩
  cases hx with
  | vintsNil _ _ _ h1 h2=>subst h1;subst h2;exact hnil w none
  | vints _ _ _ a cap h1 h2 hi=>
   have hlen:(xs.take len).length=len:=by rw [Jm];omega
   have:=key w (xs.take len) a cap (fun i hi'=>by
    rw [hlen] at hi'
    have e:(xs.take len).getD i 0=xs.getD i 0:=by simp [J2,hi']
    rw [e]
    exact he.imm _ _ (hi i (by omega)))
   rw [hlen] at this⊢
   exact this
 ·rename_i p esz len lo
  split at hl
  ·rename_i k' xs hb hg
   have hes:esz=1:=J0 hb
   subst hes
   obtain ⟨⟨rfl,hle⟩,hk⟩:=Zb hl
   refine ⟨_,hk,fun E w r he hx=> ?_⟩
   rw [YA]
   have hlen:((xs.drop p.tot).take len).length=len:=by rw [Jm,Jo];omega
   cases hx with
   | nslice0 _ _ _ _ a h1 h2=>subst h1;simpa using hnil w a
   | nslice _ _ _ _ b N cap hb' h1 h2 h3=>
    have hown:=he.own _ _ hg
    cases hown with
    | ints0 _ _ h0 hn=>rw [hn] at hb';cases hb'
    | ints _ _ b' cells elem fr hbb hw hf hv=>
     rw [hbb] at hb'
     cases hb'
     have:=key w ((xs.drop p.tot).take len) ⟨b,p.tot,none⟩ cap (fun i hi'=>by
      rw [hlen] at hi'
      rw [YY,cell_of_heap hw,Xl _ _ _ _ hi']
      exact hv (p.tot+i) (by omega))
     rw [hlen] at this⊢
     exact this
  ·rename_i cs hb hg
   have hes:esz=1:=J0 hb
   subst hes
   split at hl
   ·rename_i k' n xs rest hrow hd
    have core:∀(ys:LI),k'=k->xs.length=n->ys=(xs.drop p.inn).take len->p.inn+len<=n->∀(E:Env) (w:World) (r:Value),Emb E h w->Zc E (.nslice p 1 len lo) r->Reads w 1 r ys.length (intCells k ys.length ys):=fun ys hkk hn hys hle E w r he hx=>by
     subst hkk
     have hlen:ys.length=len:=by rw [hys,Jm,Jo];omega
     cases hx with
     | nslice0 _ _ _ _ a h1 h2=>
      have:ys=[]:=JQ (by omega)
      subst this
      exact hnil w a
     | nslice _ _ _ _ b N cap hb' h1 h2 h3=>
      have hown:=he.own _ _ hg
      cases hown with
      | flat0 _ h0 hnn=>rw [hnn] at hb';cases hb'
      | flat _ b' cells elem fr vs hbb hw hf hc hv=>
       rw [hbb] at hb'
       cases hb'
       have hdr:=ZQ _ _ _ _ hd hc
       obtain ⟨ws,hws,_⟩:=hdr.1.cons_arr
       have:=key w ys ⟨b,p.tot,none⟩ cap (fun i hi'=>by
        rw [hlen] at hi'
        rw [YY,cell_of_heap hw]
        have e:ys.getD i 0=xs.getD (p.inn+i) 0:=by rw [hys];exact Xl _ _ _ _ hi'
        rw [e]
        apply hv
        have e2:p.tot+i=p.off+(p.inn+i):=by simp [ZN.tot,hrow];omega
        rw [e2,<-List.getElem?_drop,hws,J8 (by rw [Z8];omega)]
        exact Zj (by omega))
       rw [hlen] at this⊢
       exact this
    split at hl
    ·rename_i hbb
     rw [J3] at hbb
     obtain ⟨⟨rfl,hn⟩,hk⟩:=Zb hl
     have e1:p.inn=0:=J0 hbb.1
     have e2:len=n:=J0 hbb.2
     exact ⟨xs,hk,core xs rfl hn (by rw [e1,e2,<-hn];simp) (by omega)⟩
    ·obtain ⟨⟨rfl,hn,hle⟩,hk⟩:=Zb hl
     exact ⟨_,hk,core _ rfl hn (by rw [YA]) hle⟩
   ·exact hl.elim
  ·exact hl.elim
 ·exact hl.elim
def YV (cs:List AV) (off esz i:Nat):List AV:=
 match Ys (off+i*esz) cs with
 | some r=>match takeC esz r with|some c=>c|none=>[]
 | none=>[]
def Z6Z (cs:List AV) (off esz i:Nat):Bool:=
 match Ys (off+i*esz) cs with
 | some r=>match takeC esz r with|some _=>true|none=>false
 | none=>false
def UN (cs:List AV) (off esz:Nat):Nat->Bool
 | 0=>true
 | n+1=>Z6Z cs off esz n&&UN cs off esz n
theorem YN {cs:List AV} {off esz:Nat}:∀{n:Nat},UN cs off esz n=true->∀i,i<n->Z6Z cs off esz i=true
 | 0,_,i,hi=>by omega
 | n+1,h,i,hi=>by
  simp only [UN,J3] at h
  by_cases hin:i=n
  ·subst hin;exact h.1
  ·exact YN h.2 i (by omega)
theorem Xd {E:Env} {off i:Nat} (h:Z6Z cs off esz i=true) (hc:Zn E cs vs):
  Zn E (YV cs off esz i) ((vs.drop (off+i*esz)).take esz)/\((vs.drop (off+i*esz)).take esz).length=esz:=by
 unfold Z6Z at h
 unfold YV
 cases hd:Ys (off+i*esz) cs with
 | none=>rw [hd] at h;cases h
 | some r=>
  rw [hd] at h
  simp only at h⊢
  cases ht:takeC esz r with
  | none=>rw [ht] at h;cases h
  | some c=>
   have h1:=ZQ _ _ _ _ hd hc
   have h2:=WS _ _ _ _ ht h1.1
   exact ⟨h2.1,by rw [Jm];omega⟩
def YZ (n:Nat) (f:Nat->List AV):Nat->List AV:=match n with|0=>f|n+1=>fun i=>f (n+1+i)
theorem QM (n:Nat) (f:Nat->List AV) (i:Nat):YZ n f i=f (n+i):=by cases n<;>simp [YZ]
def Z70 (h:Z9) (esz:Nat) (x:AV) (K:Nat->(Nat->List AV)->Prop):Prop:=
 match x with
 | .nilslice=>K 0 fun _=>[]
 | .eslice=>K 0 fun _=>[]
 | .fslice=>K 0 fun _=>[]
 | .vrows esz' _ f len=>match Nat.beq esz' esz with
  | true=>K len f
  | false=>False
 | .nslice p esz' len _=>match Nat.beq esz' esz,h.get p.blk,p.inn with
  | true,some (.rows sz n f),0=>match Nat.beq sz esz&&Nat.beq p.off 0&&(Nat.beq p.sz esz||Nat.beq p.row 0) with
   | true=>Z6 (p.row+len<=n) (K len (YZ p.row f))
   | false=>False
  | true,some (.flat cs),0=>match p.row,UN cs p.off esz len with
   | 0,true=>K len (YV cs p.off esz)
   | _,_=>False
  | _,_,_=>False
 | _=>False
def Z3u (E:Env) (w:World) (esz:Nat) (r:Value) (n:Nat) (f:Nat->List AV):Prop:=
 ∃a c,∃g:Nat->List Value,r=.slice a n c/\(∀i,i<n->Zn E (f i) (g i))/\(∀i,i<n->(g i).length=esz)/\∀i j v,i<n->(g i)[j]? =some v->∃ad,a=some ad/\w.cell? (ad.add (i*esz+j))=some v
theorem Z8Y {h:Z9} {x:AV} {K:Nat->(Nat->List AV)->Prop} (hl:Z70 h esz x K):
  ∃n f,K n f/\∀(E:Env) (w:World) (r:Value),Emb E h w->Zc E x r->Z3u E w esz r n f:=by
 unfold Z70 at hl
 have hnil:∀(E:Env) (w:World) (a:Option Addr) (f:Nat->List AV),Z3u E w esz (.slice a 0 0) 0 f:=fun E w a f=>⟨a,0,fun _=>[],rfl,fun i hi=>by omega,fun i hi=>by omega,fun i j v hi=>by omega⟩
 split at hl
 ·exact ⟨0,_,hl,fun E w r he hx=>by cases hx;exact hnil E w none _⟩
 ·exact ⟨0,_,hl,fun E w r he hx=>by cases hx;exact hnil E w _ _⟩
 ·exact ⟨0,_,hl,fun E w r he hx=>by cases hx with|fslice a cap=>exact ⟨some a,cap,fun _=>[],rfl,fun i hi=>by omega,fun i hi=>by omega,fun i j v hi=>by omega⟩⟩
 ·rename_i esz' n f len
  split at hl
  ·rename_i hb
   have hes:esz'=esz:=J0 hb
   subst hes
   refine ⟨len,f,hl,fun E w r he hx=> ?_⟩
   cases hx with
   | vrowsNil _ _ _ _ h1 h2=>subst h2;exact hnil E w none f
   | vrows _ _ _ _ a cap g h1 h2 hc hlg hi=>
    exact ⟨some a,cap,g,rfl,fun i hi'=>(hc i (by omega)).mono E.views_le,fun i hi'=>hlg i (by omega),fun i j v hi' hv=>⟨a,rfl,he.imm _ _ (hi i j v (by omega) hv)⟩⟩
  ·exact hl.elim
 ·rename_i p esz' len lo
  split at hl
  ·rename_i sz n f hb hg hinn
   have hes:esz'=esz:=J0 hb
   subst hes
   split at hl
   ·rename_i hbb
    simp only [J3,JH] at hbb
    have hsz:sz=esz':=J0 hbb.1.1
    have hoff:p.off=0:=J0 hbb.1.2
    have htot:p.tot=p.row*esz':=by
     rcases hbb.2 with h1|h1
     ·have:=J0 h1;simp [ZN.tot,hoff,hinn,this]
     ·have:=J0 h1;simp [ZN.tot,hoff,hinn,this]
    subst hsz
    obtain ⟨hle,hk⟩:=Zb hl
    refine ⟨len,_,hk,fun E w r he hx=> ?_⟩
    cases hx with
    | nslice0 _ _ _ _ a h1 h2=>subst h1;exact hnil E w a _
    | nslice _ _ _ _ b N cap hb' h1 h2 h3=>
     have hown:=he.own _ _ hg
     cases hown with
     | rows0 _ _ _ h0 hn=>rw [hn] at hb';cases hb'
     | rows _ _ _ b' cells elem fr g hbb' hw hf hc hlg hv=>
      rw [hbb'] at hb'
      cases hb'
      refine ⟨_,cap,fun i=>g (p.row+i),rfl,fun i hi'=> ?_,fun i hi'=>hlg _ (by omega),fun i j v hi' hgv=>⟨_,rfl, ?_⟩⟩
      ·rw [QM];exact hc _ (by omega)
      ·rw [YY,cell_of_heap hw,htot]
       have:=hv (p.row+i) j v (by omega) hgv
       rw [<-this]
       congr 1
       rw [JD];omega
   ·exact hl.elim
  ·rename_i cs hb hg hinn
   have hes:esz'=esz:=J0 hb
   subst hes
   split at hl
   ·rename_i hrow hok
    refine ⟨len,_,hl,fun E w r he hx=> ?_⟩
    cases hx with
    | nslice0 _ _ _ _ a h1 h2=>subst h1;exact hnil E w a _
    | nslice _ _ _ _ b N cap hb' h1 h2 h3=>
     have hown:=he.own _ _ hg
     cases hown with
     | flat0 _ h0 hn=>rw [hn] at hb';cases hb'
     | flat _ b' cells elem fr vs hbb hw hf hc hv=>
      rw [hbb] at hb'
      cases hb'
      refine ⟨_,cap,fun i=>(vs.drop (p.off+i*esz')).take esz',rfl,fun i hi'=>(Xd (YN hok i hi') hc).1,fun i hi'=>(Xd (YN hok i hi') hc).2,fun i j v hi' hgv=>⟨_,rfl, ?_⟩⟩
      rw [YY,cell_of_heap hw]
      apply hv
      have hj:j<esz':=by
       rcases J7 j esz' with h|h
       ·exact h
       ·rw [Jl (by rw [Jm];omega)] at hgv;cases hgv
      rw [Jy,if_pos hj,Jf] at hgv
      rw [<-hgv]
      congr 1
      simp [ZN.tot,hrow,hinn];omega
   ·exact hl.elim
  ·exact hl.elim
 ·exact hl.elim
theorem Z5D {E:Env} {h:Z9} {w:World} (e:Emb E h w) (x:Nat) (B B':Blk) (b N:Nat) (hx:h.get x=some B) (hb:E.blk x=some (b,N))
  (hB:Ye (E.ext h.next b N) w h.next B'):Evo E h w (E.ext h.next b N) ((h.del x).add B') w:=by
 have hfr:E.blk h.next=none:=e.fresh _ (J5 _)
 have hle:E.le (E.ext h.next b N):=Env.ext_le hfr
 have hxn:x<h.next:=e.lt x B hx
 have hget:∀y C,((h.del x).add B').get y=some C->(y=h.next/\C=B')\/(y≠h.next/\y≠x/\h.get y=some C):=fun y C hy=>by
  by_cases hn:h.next=y
  ·subst hn
   have:((h.del x).add B').get h.next=some B':=Z9.get_add_same (h.del x) B'
   rw [this] at hy;cases hy;exact .inl ⟨rfl,rfl⟩
  ·have:((h.del x).add B').get y=(h.del x).get y:=Z9.get_add_other (h.del x) y B' hn
   rw [this] at hy
   by_cases hxy:x=y
   ·subst hxy;rw [Z9.get_del_same] at hy;cases hy
   ·rw [Z9.get_del_other _ _ _ hxy] at hy
    exact .inr ⟨fun h=>hn h.symm,fun h=>hxy h.symm,hy⟩
 refine ⟨hle,⟨?_, ?_, ?_, ?_,e.imm, ?_⟩,J5 _,rfl,rfl,⟨rfl,J5 _⟩,fun _ _ _=>rfl, ?_,fun _ _ h=>h⟩
 ·intro y hy
  have hy':h.next+1<=y:=hy
  rw [Env.ext_other _ _ _ (by omega)]
  exact e.fresh y (by omega)
 ·intro y C hy
  show y<h.next+1
  rcases hget y C hy with ⟨rfl,_⟩|⟨_,_,h'⟩
  ·omega
  ·have:=e.lt y C h';omega
 ·intro y C hy
  rcases hget y C hy with ⟨rfl,rfl⟩|⟨hne,_,h'⟩
  ·exact hB
  ·exact (e.own y C h').mono hle (fun hn=>by rw [Env.ext_other _ _ _ hne];exact hn)
 ·intro y z C1 C2 b' M M' hy hz hby hbz
  rcases hget y C1 hy with ⟨rfl,_⟩|⟨hny,hnx,hy'⟩<;>rcases hget z C2 hz with ⟨rfl,_⟩|⟨hnz,hnx',hz'⟩
  ·rfl
  ·rw [Env.ext_same] at hby;cases hby
   rw [Env.ext_other _ _ _ hnz] at hbz
   exact absurd (e.disj z x C2 B b M' N hz' hx hbz hb) hnx'
  ·rw [Env.ext_same] at hbz;cases hbz
   rw [Env.ext_other _ _ _ hny] at hby
   exact absurd (e.disj y x C1 B b M N hy' hx hby hb) hnx
  ·rw [Env.ext_other _ _ _ hny] at hby;rw [Env.ext_other _ _ _ hnz] at hbz
   exact e.disj y z C1 C2 b' M M' hy' hz' hby hbz
 ·intro ad c y C M hi hy hby
  rcases hget y C hy with ⟨rfl,_⟩|⟨hne,_,hy'⟩
  ·rw [Env.ext_same] at hby
   have:b=ad.block:=by injection hby with hby;injection hby
   exact e.sep ad c x B N hi hx (by rw [hb,this])
  ·rw [Env.ext_other _ _ _ hne] at hby
   exact e.sep ad c y C M hi hy' hby
 ·rintro b' ⟨y,C,M,hy,hby⟩
  rcases hget y C hy with ⟨rfl,_⟩|⟨hne,_,hy'⟩
  ·rw [Env.ext_same] at hby;cases hby
   exact .inl ⟨x,B,N,hx,hb⟩
  ·rw [Env.ext_other _ _ _ hne] at hby
   exact .inl ⟨y,C,M,hy',hby⟩
structure Z5E (P:Program) (e:TypeId) (i:TypeInfo) (w:World) (base:Option Addr) (sLen sCap m:Nat) (olds news:List Value) (run:Result Value):Prop where
 nought:sLen+m<=sCap->news=[]->run=.ok (.slice base (sLen+m) sCap) w
 fits:sLen+m<=sCap->∀b,base=some ⟨b,0,none⟩->(∀j,j<news.length->(w.cell? ⟨b,sLen*i.size+j,none⟩).isSome=true)->(∀j,j<news.length->w.frozen? ⟨b,sLen*i.size+j,none⟩=false)->
  run=.ok (.slice base (sLen+m) sCap) (w.setCells b (sLen*i.size) news)
 grow:sCap<sLen+m->∃cap:Nat,∃cells:Array Value,sLen+m<=cap/\cells.size=cap*i.size/\(∀(j:Nat) v,(olds++news)[j]? =some v->cells[j]? =some v)/\
  run=.ok (.slice (some ⟨w.heap.size,0,none⟩) (sLen+m) cap) { w with drawn:=w.drawn+1,heap:=w.heap.push (.cells cells e (0,0))}
theorem YB {P:Program} {w:World} {m:Nat} {r:Value} (h:Reads w esz r m vs) (hw:w'.heap=w.heap):(Builtin.firstCells esz m r).run P w'=.ok vs.toArray w':=by
 obtain ⟨a,c,rfl,hl,hc⟩:=h
 cases a with
 | none=>
  have:vs=[]:=by
   cases vs with
   | nil=>rfl
   | cons v r=>obtain ⟨ad,h1,_⟩:=hc 0 v rfl;cases h1
  subst this
  rw [run_firstCells_none]
 | some ad=>
  refine run_firstCells_some (P:=P) w' esz m ad m c vs hl fun j v hj=> ?_
  obtain ⟨ad',h1,h2⟩:=hc j v hj
  cases h1
  simpa [World.cell?,hw] using h2
theorem Qj {P:Program} {t e ty:TypeId} {i:TypeInfo} (ht:P.underlying t=some (.slice e)) (hi:P.info? e=some i) (hz:i.zero=some z) (hzs:z.cells.size=i.size)
  {w:World} {base:Option Addr} {m:Nat} (ho:Reads w i.size (.slice base sLen sCap) sLen olds) (hn:Reads w i.size rx m news) (h1:∀u∈news,u.oneCell'=true)
  (h63:sLen+m<=maxLen) (hbytes:(sLen+m)*i.bytes<=140737488355328):
  Z5E P e i w base sLen sCap m olds news ((Builtin.append_ #[t,t] ty #[.slice base sLen sCap,rx]).run P w):=by
 have hsmall:sLen+m<=9223372036854775807:=by simp only [maxLen] at h63;omega
 obtain ⟨a,c,rfl,hl,hc⟩:=hn
 have hn:Reads w i.size (.slice a m c) m news:=⟨a,c,rfl,hl,hc⟩
 have hf:=YB (P:=P) hn (w':=w) rfl
 refine ⟨fun hroom hne=> ?_,fun hroom b hb hcl hfr=> ?_,fun hg=> ?_⟩
 ·subst hne
  cases base with
  | none=>simp [Builtin.append_,run_underlying ht,sizeOf,typeInfo,hi,Builtin.lenOf,hroom,hf]
  | some ad=>simp [Builtin.append_,run_underlying ht,sizeOf,typeInfo,hi,Builtin.lenOf,hroom,hf,storeCells]
 ·subst hb
  have hst:=run_storeCells_cells (P:=P) b (sLen*i.size) news 0 w (by simpa using hcl) (by simpa using hfr) h1
  simp only [Ke] at hst
  have hadd:(⟨b,0,none⟩:Addr).add (sLen*i.size)=⟨b,sLen*i.size,none⟩:=by rw [YY];simp
  simp [Builtin.append_,run_underlying ht,sizeOf,typeInfo,hi,Builtin.lenOf,hroom,hf,hadd,hst]
 ·have hnle:¬(sLen+m<=sCap):=by omega
  have h63':¬(9223372036854775807<((sLen:Int)+(m:Int))):=by omega
  have h48':¬(281474976710656<Builtin.nextslicecap (sLen+m) sCap*i.bytes):=by
   have:=growslice_fits (bytes:=i.bytes) hg hbytes
   omega
  have hf':=YB (P:=P) hn (w':=w.drew) rfl
  have hfo:=YB (P:=P) ho (w':=w.drew) rfl
  obtain ⟨_,_,_,hlo,_⟩:=ho
  refine ⟨grownCap w (sLen+m) sCap e,olds.toArray++news.toArray++Builtin.zeroCells z.cells (grownCap w (sLen+m) sCap e-(sLen+m)),grownCap_ge w _ _ _, ?_,fun j v hj=> ?_, ?_⟩
  ·have:=grownCap_ge w (sLen+m) sCap e
   simp only [Array.size_append,List.size_toArray,size_zeroCells,hzs,hlo,hl,<-Nat.add_mul]
   congr 1
   omega
  ·rw [<-Array.getElem?_toList]
   simp only [Array.toList_append,JC]
   rw [<-List.append_assoc]
   have hlt:j<(olds++news).length:=by
    rcases J7 j (olds++news).length with h|h
    ·exact h
    ·rw [Jl h] at hj;cases hj
   rw [J8 hlt]
   exact hj
  ·simp [Builtin.append_,run_underlying ht,sizeOf,typeInfo,zeroValue,hi,hz,Builtin.lenOf,hnle,h63',h48',Question.forced,hf',hfo,newRow,grownCap]
   show World.alloc _ _=World.alloc w.drew _
   congr 2
   apply JJ
   simp [JC]
inductive Onto (E:Env) (h:Z9) (w:World) (esz:Nat) (base:Option Addr) (sLen sCap:Nat) (olds:List Value) (h':Z9):Prop
 | nought (h1:sLen=0) (h2:sCap=0) (h3:olds=[]) (h4:h'=h\/∃x,h'=h.del x):Onto E h w esz base sLen sCap olds h'
 |own (x b N:Nat) (B:Blk) (cells:Array Value) (elem:TypeId) (fr:Nat×Nat) (hx:h.get x=some B) (hb:E.blk x=some (b,N)) (hw:w.heap[b]? =some (.cells cells elem fr)) (hN:cells.size=N) (hf:free cells fr)
   (hbase:base=some ⟨b,0,none⟩) (hc:sLen<=sCap) (hN2:sCap*esz<=N) (hlo:olds.length=sLen*esz) (ho:∀(j:Nat) v,olds[j]? =some v->cells[j]? =some v) (h4:h'=h.del x):Onto E h w esz base sLen sCap olds h'
theorem Onto.reads {E:Env} {h:Z9} {w:World} {base:Option Addr} (o:Onto E h w esz base sLen sCap olds h'):Reads w esz (.slice base sLen sCap) sLen olds:=by
 cases o with
 | nought h1 h2 h3 h4=>subst h1;subst h2;subst h3;exact ⟨base,0,rfl,by simp,fun j v hj=>by simp at hj⟩
 |own x b N B cells elem fr hx hb hw hN hf hbase hc hN2 hlo ho h4=>
  subst hbase
  refine ⟨_,_,rfl,hlo,fun j v hj=>⟨_,rfl, ?_⟩⟩
  rw [YY,cell_of_heap hw,JE]
  exact ho j v hj
theorem Onto.next {E:Env} {h:Z9} {w:World} {base:Option Addr} (o:Onto E h w esz base sLen sCap olds h'):h'.next=h.next:=by
 cases o with
 | nought h1 h2 h3 h4=>rcases h4 with rfl|⟨x,rfl⟩<;>rfl
 | own x b N B cells elem fr hx hb hw hN hf hbase hc hN2 hlo ho h4=>subst h4;rfl
theorem Vy {P:Program} {e:TypeId} {i:TypeInfo} {E:Env} {h:Z9} {w:World} (he:Emb E h w) {base:Option Addr} {m:Nat} {run:Result Value}
  (ar:Z5E P e i w base sLen sCap m olds news run) (on:Onto E h w i.size base sLen sCap olds h') (hm:news.length=m*i.size) {B':Blk}
  (hB0:sLen+m=0->∀E' w',E.le E'->E'.blk h.next=none->Ye E' w' h.next B')
  (hB:∀E' w' b cells elem fr,E.le E'->E'.blk h.next=some (b,cells.size)->w'.heap[b]? =some (.cells cells elem fr)->free cells fr->(∀(j:Nat) v,(olds++news)[j]? =some v->cells[j]? =some v)->Ye E' w' h.next B'):
  ∃r w' E',run=.ok r w'/\Evo E h w E' (h'.add B') w'/\Zc E' (.nslice ⟨h.next,0,0,0,0⟩ i.size (sLen+m) (sLen+m)) r:=by
 have hless:Evo E h w E h' w:=by
  cases on with
  | nought h1 h2 h3 h4=>
   rcases h4 with rfl|⟨x,rfl⟩
   ·exact .refl he
   ·exact Z0M he x
  | own x b N B cells elem fr hx hb hw hN hf hbase hc hN2 hlo ho h4=>subst h4;exact Z0M he x
 have hnx:=on.next
 by_cases hroom:sLen+m<=sCap
 ·cases on with
  | nought h1 h2 h3 h4=>
   subst h1;subst h2;subst h3
   have hm0:m=0:=by omega
   subst hm0
   have hn0:news=[]:=JQ (by simpa using hm)
   subst hn0
   refine ⟨_,w,E,ar.nought hroom rfl,hless.trans ?_,.nslice0 _ _ _ _ _ rfl rfl⟩
   have e1:=hless.emb
   have hfr:E.blk h.next=none:=he.fresh _ (J5 _)
   have hget:∀y C,(h'.add B').get y=some C->(y=h.next/\C=B')\/(y≠h.next/\h'.get y=some C):=fun y C hy=>by
    by_cases hn:h'.next=y
    ·subst hn
     rw [Z9.get_add_same] at hy;cases hy;exact .inl ⟨hnx,rfl⟩
    ·rw [Z9.get_add_other _ _ _ hn] at hy
     exact .inr ⟨fun q=>hn (by rw [hnx,q]),hy⟩
   refine ⟨.refl E,⟨fun x hx=>e1.fresh x (by have:h'.next+1<=x:=hx;omega),fun y C hy=> ?_,fun y C hy=> ?_,fun y z C D b' M M' hy hz hby hbz=> ?_,e1.imm,fun ad c y C M hi hy hby=> ?_⟩,J5 _,rfl,rfl,⟨rfl,J5 _⟩,fun _ _ _=>rfl, ?_,fun _ _ h=>h⟩
   ·show y<h'.next+1
    rcases hget y C hy with ⟨rfl,_⟩|⟨_,h2⟩
    ·omega
    ·have:=e1.lt y C h2;omega
   ·rcases hget y C hy with ⟨rfl,rfl⟩|⟨_,h2⟩
    ·exact hB0 rfl E w (.refl E) hfr
    ·exact e1.own y C h2
   ·rcases hget y C hy with ⟨rfl,_⟩|⟨_,h2⟩
    ·rw [hfr] at hby;cases hby
    ·rcases hget z D hz with ⟨rfl,_⟩|⟨_,h3⟩
     ·rw [hfr] at hbz;cases hbz
     ·exact e1.disj y z C D b' M M' h2 h3 hby hbz
   ·rcases hget y C hy with ⟨rfl,_⟩|⟨_,h2⟩
    ·rw [hfr] at hby;cases hby
    ·exact e1.sep ad c y C M hi h2 hby
   ·rintro b' ⟨y,C,M,hy,hby⟩
    rcases hget y C hy with ⟨rfl,_⟩|⟨_,h2⟩
    ·rw [hfr] at hby;cases hby
    ·exact .inl ⟨y,C,M,h2,hby⟩
  |own x b N B cells elem fr hx hb hw hN hf hbase hc hN2 hlo ho h4=>
   subst hbase;subst h4
   have hfit:sLen*i.size+news.length<=cells.size:=by
    rw [hm,<-Nat.add_mul,hN]
    exact Kd (JA _ hroom) hN2
   have hrun:=ar.fits hroom b rfl (fun j hj=>by rw [cell_of_heap hw];simp;omega) (fun j hj=>by
    have:=hf (sLen*i.size+j) (by omega)
    simp [World.frozen?,hw];omega)
   obtain ⟨a1,a2,a3,a4,a5,a6⟩:=YG news (sLen*i.size) w b cells elem fr hw
   have hwsz:=Y3 news (sLen*i.size) cells
   have hcont:∀(j:Nat) v,(olds++news)[j]? =some v->(YL cells (sLen*i.size) news)[j]? =some v:=fun j v hj=>by
    rcases J7 j olds.length with hlt|hge
    ·rw [J8 hlt] at hj
     rw [YF _ _ _ _ (by omega)]
     exact ho j v hj
    ·rw [Jb hge] at hj
     have hjl:j-olds.length<news.length:=by
      rcases J7 (j-olds.length) news.length with h|h
      ·exact h
      ·rw [Jl h] at hj;cases hj
     have:=X3 news (sLen*i.size) cells (j-olds.length) hfit hjl
     rw [show sLen*i.size+(j-olds.length)=j from by omega] at this
     rw [this];exact hj
   have hfree:free (YL cells (sLen*i.size) news) fr:=fun o ho'=>hf o (by rw [hwsz] at ho';exact ho')
   -- the write, under the old name, known as nothing; then the new name
   have hev1:Evo E h w E (h.set x (.flat [])) (w.setCells b (sLen*i.size) news):=
    Xk he x B (.flat []) b N hx hb a2 a3 a4 a5 a6 (.flat [] b _ elem fr [] (by rw [hb,hwsz,hN]) a1 hfree .nil (fun j c hj=>by simp at hj))
   have hle:E.le (E.ext h.next b N):=Env.ext_le (he.fresh _ (J5 _))
   have hev2:=Z5D hev1.emb x (.flat []) B' b N (Z9.get_set_same _ _ _) hb (hB _ _ b _ elem fr hle (by rw [hwsz,hN];exact Env.ext_same ..) a1 hfree hcont)
   refine ⟨_,_,E.ext h.next b N,hrun, ?_, ?_⟩
   ·-- the same names
    have hsame:∀y,(((h.set x (.flat [])).del x).add B').get y=((h.del x).add B').get y:=fun y=>by
     by_cases hn:h.next=y
     ·subst hn
      exact (Z9.get_add_same ((h.set x (.flat [])).del x) B').trans (Z9.get_add_same (h.del x) B').symm
     ·refine (Z9.get_add_other ((h.set x (.flat [])).del x) y B' hn).trans (Eq.trans ?_ (Z9.get_add_other (h.del x) y B' hn).symm)
      by_cases hxy:x=y
      ·subst hxy;rw [Z9.get_del_same,Z9.get_del_same]
      ·rw [Z9.get_del_other _ _ _ hxy,Z9.get_del_other _ _ _ hxy,Z9.get_set_other _ _ _ _ hxy]
    exact (hev1.trans hev2).trans (Z14 hev2.emb rfl fun y C hy=>by rw [hsame];exact hy)
   ·exact .nslice ⟨h.next,0,0,0,0⟩ i.size (sLen+m) (sLen+m) b N sCap (Env.ext_same ..) hroom hroom (by simp [ZN.tot];exact hN2)
 ·obtain ⟨cap,cells,c1,c2,c3,c4⟩:=ar.grow (by omega)
  have hdr:Evo E h' w E h' { w with drawn:=w.drawn+1}:=Z13 hless.emb rfl rfl rfl ⟨rfl,Nat.le_succ _⟩
  have e2:=hdr.emb
  have hal:=W8 e2 (.cells cells e (0,0)) cells.size B' (by
   rw [hnx]
   exact hB _ _ w.heap.size cells e (0,0) (Env.ext_le (he.fresh _ (J5 _))) (Env.ext_same ..) (by simp) (Wf _) c3)
  refine ⟨_,_,_,c4,(hless.trans hdr).trans hal, ?_⟩
  rw [hnx]
  exact .nslice ⟨h.next,0,0,0,0⟩ i.size (sLen+m) (sLen+m) w.heap.size cells.size cap (Env.ext_same ..) c1 c1 (by simp [ZN.tot,c2])
theorem WP (k:IntKind) (xs:LI):intCells k xs.length xs=xs.map (Value.int k):=by
 apply Kc
 intro j
 rcases J7 j xs.length with h|h
 ·rw [Zj h];simp [J2,h]
 ·rw [Ya h];simp [h]
theorem Vq (k:IntKind) (xs ys:LI):intCells k xs.length xs++intCells k ys.length ys=intCells k (xs++ys).length (xs++ys):=by
 rw [WP,WP,WP,K1]
theorem Vd (k:IntKind) (n:Nat) (xs:LI):∀u∈intCells k n xs,u.oneCell'=true:=by
 intro u hu
 simp [intCells] at hu
 obtain ⟨i,_,rfl⟩:=hu
 rfl
def Vz (g:Nat->List Value):Nat->List Value
 | 0=>[]
 | n+1=>Vz g n++g n
theorem YC {g:Nat->List Value} {esz:Nat}:∀{n:Nat},(∀i,i<n->(g i).length=esz)->(Vz g n).length=n*esz
 | 0,_=>by simp [Vz]
 | n+1,h=>by
  simp only [Vz,Je,YC (n:=n) (fun i hi=>h i (by omega)),h n (by omega)]
  rw [JD];omega
theorem U6 {g:Nat->List Value} {esz:Nat}:∀{n:Nat},(∀i,i<n->(g i).length=esz)->∀i j,i<n->j<esz->(Vz g n)[i*esz+j]? =(g i)[j]?
 | 0,_,i,_,hi,_=>by omega
 | n+1,h,i,j,hi,hj=>by
  have hl:=YC (g:=g) (n:=n) (fun i hi=>h i (by omega))
  simp only [Vz]
  by_cases hin:i=n
  ·subst hin
   rw [Jb (by rw [hl];omega),hl]
   congr 1;omega
  ·have hlt:i*esz+j<n*esz:=by
    have:(i+1)*esz<=n*esz:=JA _ (by omega)
    rw [JD] at this;omega
   rw [J8 (by rw [hl];exact hlt)]
   exact U6 (n:=n) (fun i hi=>h i (by omega)) i j (by omega) hj
theorem WB {g:Nat->List Value} {n:Nat} (h:∀i,i<n->(g i).length=esz) {t:Nat} {v:Value} (ht:(Vz g n)[t]? =some v):∃i j,i<n/\j<esz/\t=i*esz+j/\(g i)[j]? =some v:=by
 have hl:=YC h
 have hlt:t<n*esz:=by
  rcases J7 t (n*esz) with h'|h'
  ·exact h'
  ·rw [Jl (by rw [hl];exact h')] at ht;cases ht
 have hpos:0<esz:=by
  rcases JG esz with h0|h0
  ·subst h0;simp at hlt
  ·exact h0
 have h1:t/esz<n:=(Nat.div_lt_iff_lt_mul hpos).2 hlt
 have h2:t%esz<esz:=Nat.mod_lt _ hpos
 have h3:t=t/esz*esz+t%esz:=by rw [Nat.mul_comm];exact (Nat.div_add_mod t esz).symm
 refine ⟨t/esz,t%esz,h1,h2,h3, ?_⟩
 rw [<-U6 h _ _ h1 h2,<-h3]
 exact ht
theorem Z3u.reads {E:Env} {w:World} {r:Value} {n:Nat} {f:Nat->List AV} (h:Z3u E w esz r n f):
  ∃g:Nat->List Value,(∀i,i<n->Zn E (f i) (g i))/\(∀i,i<n->(g i).length=esz)/\Reads w esz r n (Vz g n)/\∀u∈Vz g n,u.oneCell'=true:=by
 obtain ⟨a,c,g,rfl,h1,h2,h3⟩:=h
 refine ⟨g,h1,h2,⟨a,c,rfl,YC h2,fun t v ht=> ?_⟩,fun u hu=> ?_⟩
 ·obtain ⟨i,j,hi,hj,rfl,hg⟩:=WB h2 ht
  exact h3 i j v hi hg
 ·obtain ⟨t,ht⟩:=JP.1 hu
  obtain ⟨i,j,hi,hj,rfl,hg⟩:=WB h2 ht
  exact (h1 i hi).all_one u (JR hg)
def Ym (n:Nat) (f g:Nat->List AV) (i:Nat):List AV:=match Nat.blt i n with|true=>f i|false=>g (i-n)
def Zbd (h:Z9) (k:IntKind) (s:AV) (K:LI->Z9->Prop):Prop:=
 match s with
 | .nilslice=>K [] h
 | .eslice=>K [] h
 | .nslice ⟨x,0,_,0,0⟩ esz len _=>match Nat.beq esz 1,h.get x with
  | true,some (.ints k' xs)=>Z6 (k'=k/\xs.length=len) (K xs (h.del x))
  | _,_=>False
 | _=>False
def Zbe (h:Z9) (esz:Nat) (s:AV) (K:Nat->(Nat->List AV)->Z9->Prop):Prop:=
 match s with
 | .nilslice=>K 0 (fun _=>[]) h
 | .eslice=>K 0 (fun _=>[]) h
 | .nslice ⟨x,0,_,0,0⟩ esz' len _=>match Nat.beq esz' esz,h.get x with
  | true,some (.rows sz n f)=>match Nat.beq sz esz with
   | true=>Z6 (n=len) (K n f (h.del x))
   | false=>False
  | true,some (.flat cs)=>match UN cs 0 esz len with
   | true=>K len (YV cs 0 esz) (h.del x)
   | false=>False
  | _,_=>False
 | _=>False
theorem Z71 {h:Z9} {k:IntKind} {s:AV} {K:LI->Z9->Prop} (hl:Zbd h k s K):
  ∃xs h',K xs h'/\∀(E:Env) (w:World) (r:Value),Emb E h w->Zc E s r->∃base cap,r=.slice base xs.length cap/\Onto E h w 1 base xs.length cap (intCells k xs.length xs) h':=by
 unfold Zbd at hl
 split at hl
 ·exact ⟨[],h,hl,fun E w r he hx=>by cases hx;exact ⟨none,0,rfl,.nought rfl rfl rfl (.inl rfl)⟩⟩
 ·exact ⟨[],h,hl,fun E w r he hx=>by cases hx;exact ⟨_,0,rfl,.nought rfl rfl rfl (.inl rfl)⟩⟩
 ·rename_i x sz esz len lo
  split at hl
  ·rename_i k' xs hb hg
   have hes:esz=1:=J0 hb
   subst hes
   obtain ⟨⟨rfl,hlen⟩,hk⟩:=Zb hl
   refine ⟨xs,_,hk,fun E w r he hx=> ?_⟩
   cases hx with
   | nslice0 _ _ _ _ a h1 h2=>
    have:xs=[]:=JQ (by omega)
    subst this
    exact ⟨a,0,rfl,.nought rfl rfl rfl (.inr ⟨x,rfl⟩)⟩
   | nslice _ _ _ _ b N cap hb' h1 h2 h3=>
    have hown:=he.own _ _ hg
    cases hown with
    | ints0 _ _ h0 hn=>simp only at hb';rw [hn] at hb';cases hb'
    | ints _ _ b' cells elem fr hbb hw hf hv=>
     simp only at hb'
     rw [hbb] at hb'
     cases hb'
     have ht:ZN.tot ⟨x,0,sz,0,0⟩=0:=by simp [ZN.tot]
     rw [ht] at h3⊢
     subst hlen
     refine ⟨_,cap,rfl,.own x b cells.size (.ints k' xs) cells elem fr hg hbb hw rfl hf rfl h1 (by simpa using h3) (by rw [Z8,JL]) (fun j v hj=> ?_) rfl⟩
     rcases J7 j xs.length with hlt|hge
     ·rw [Zj hlt] at hj;cases hj;exact hv j hlt
     ·rw [Ya hge] at hj;cases hj
  ·exact hl.elim
 ·exact hl.elim
theorem Zbf {h:Z9} {s:AV} {K:Nat->(Nat->List AV)->Z9->Prop} (hl:Zbe h esz s K):
  ∃n f h',K n f h'/\∀(E:Env) (w:World) (r:Value),Emb E h w->Zc E s r->∃base cap,∃g:Nat->List Value,r=.slice base n cap/\(∀i,i<n->Zn E (f i) (g i))/\(∀i,i<n->(g i).length=esz)/\Onto E h w esz base n cap (Vz g n) h':=by
 unfold Zbe at hl
 have hz:∀(E:Env) (w:World) (a:Option Addr) (f:Nat->List AV) (h':Z9),(h'=h\/∃x,h'=h.del x)->∃base cap,∃g:Nat->List Value,Value.slice a 0 0=.slice base 0 cap/\(∀i,i<0->Zn E (f i) (g i))/\(∀i,i<0->(g i).length=esz)/\Onto E h w esz base 0 cap (Vz g 0) h':=fun E w a f h' hh=>
  ⟨a,0,fun _=>[],rfl,fun i hi=>by omega,fun i hi=>by omega,.nought rfl rfl rfl hh⟩
 split at hl
 ·exact ⟨0,_,h,hl,fun E w r he hx=>by cases hx;exact hz E w none _ h (.inl rfl)⟩
 ·exact ⟨0,_,h,hl,fun E w r he hx=>by cases hx;exact hz E w _ _ h (.inl rfl)⟩
 ·rename_i x sz esz' len lo
  have ht:ZN.tot ⟨x,0,sz,0,0⟩=0:=by simp [ZN.tot]
  split at hl
  ·rename_i sz' n f hb hg
   have hes:esz'=esz:=J0 hb
   subst hes
   split at hl
   ·rename_i hb2
    have hs2:sz'=esz':=J0 hb2
    subst hs2
    obtain ⟨rfl,hk⟩:=Zb hl
    refine ⟨n,f,_,hk,fun E w r he hx=> ?_⟩
    cases hx with
    | nslice0 _ _ _ _ a h1 h2=>subst h1;exact hz E w a f _ (.inr ⟨x,rfl⟩)
    | nslice _ _ _ _ b N cap hb' h1 h2 h3=>
     have hown:=he.own _ _ hg
     cases hown with
     | rows0 _ _ _ h0 hn=>simp only at hb';rw [hn] at hb';cases hb'
     | rows _ _ _ b' cells elem fr g hbb hw hf hc hlg hv=>
      simp only at hb'
      rw [hbb] at hb'
      cases hb'
      rw [ht] at h3⊢
      refine ⟨_,cap,g,rfl,hc,hlg,.own x b cells.size _ cells elem fr hg hbb hw rfl hf rfl h1 (by simpa using h3) (YC hlg) (fun t v hj=> ?_) rfl⟩
      obtain ⟨i,j,hi,hj',rfl,hgv⟩:=WB hlg hj
      exact hv i j v hi hgv
   ·exact hl.elim
  ·rename_i cs hb hg
   have hes:esz'=esz:=J0 hb
   subst hes
   split at hl
   ·rename_i hok
    refine ⟨len,_,_,hl,fun E w r he hx=> ?_⟩
    cases hx with
    | nslice0 _ _ _ _ a h1 h2=>subst h1;exact hz E w a _ _ (.inr ⟨x,rfl⟩)
    | nslice _ _ _ _ b N cap hb' h1 h2 h3=>
     have hown:=he.own _ _ hg
     cases hown with
     | flat0 _ h0 hn=>simp only at hb';rw [hn] at hb';cases hb'
     | flat _ b' cells elem fr vs hbb hw hf hc hv=>
      simp only at hb'
      rw [hbb] at hb'
      cases hb'
      rw [ht] at h3⊢
      have hlg:∀i,i<len->((vs.drop (0+i*esz')).take esz').length=esz':=fun i hi=>(Xd (YN hok i hi) hc).2
      refine ⟨_,cap,fun i=>(vs.drop (0+i*esz')).take esz',rfl,fun i hi=>(Xd (YN hok i hi) hc).1,hlg,.own x b cells.size _ cells elem fr hg hbb hw rfl hf rfl h1 (by simpa using h3) (YC hlg) (fun t v hj=> ?_) rfl⟩
      obtain ⟨i,j,hi,hj',rfl,hgv⟩:=WB hlg hj
      apply hv
      rw [Jy,if_pos hj',Jf] at hgv
      rw [<-hgv]
      congr 1;omega
   ·exact hl.elim
  ·exact hl.elim
 ·exact hl.elim
theorem Zc.resz {E:Env} {x len lo:Nat} {r:Value} (h:Zc E (.nslice ⟨x,0,0,0,0⟩ esz len lo) r) (s:Nat):Zc E (.nslice ⟨x,0,s,0,0⟩ esz len lo) r:=by
 cases h with
 | nslice0 p esz len lo a h1 h2=>exact .nslice0 _ _ _ _ a h1 h2
 | nslice p esz len lo b N cap hb h1 h2 h3=>
  have e:(⟨x,0,0,0,0⟩:ZN).tot=(⟨x,0,s,0,0⟩:ZN).tot:=by simp [ZN.tot]
  rw [e] at h3⊢
  exact .nslice ⟨x,0,s,0,0⟩ _ _ _ b N cap hb h1 h2 h3
def Z3v (P:Program) (h:Z9) (t:TypeId) (s x:AV) (K:AV->Z9->Prop):Prop:=
 match P.underlying t with
 | some (.slice e)=>match P.info? e with
  | some i=>match i.zero with
   | some z=>match Nat.beq z.cells.size i.size&&Nat.blt 0 i.bytes with
    | true=>match P.underlying e,Nat.beq i.size 1 with
     | some (.int k),true=>Uw h k x fun ys=>Zbd h k s fun xs h'=>Z6 ((xs++ys).length*i.bytes<=140737488355328) (K (.nslice ⟨h.next,0,0,0,0⟩ 1 (xs++ys).length (xs++ys).length) (h'.add (.ints k (xs++ys))))
     | some (.int _),false=>False
     | _,_=>Z70 h i.size x fun m g=>Zbe h i.size s fun n f h'=>Z6 ((n+m)*i.bytes<=140737488355328) (K (.nslice ⟨h.next,0,i.size,0,0⟩ i.size (n+m) (n+m)) (h'.add (.rows i.size (n+m) (Ym n f g))))
    | false=>False
   | none=>False
  | none=>False
 | _=>False
theorem Z5F {P:Program} {h:Z9} {t ty:TypeId} {s x:AV} {K:AV->Z9->Prop} (hl:Z3v P h t s x K):
  ∃v h',K v h'/\∀(E:Env) (w:World) (rs rx:Value),Emb E h w->Zc E s rs->Zc E x rx->∃r w' E',(Builtin.append_ #[t,t] ty #[rs,rx]).run P w=.ok r w'/\Evo E h w E' h' w'/\Zc E' v r:=by
 unfold Z3v at hl
 split at hl
 ·rename_i e ht
  split at hl
  ·rename_i i hi
   split at hl
   ·rename_i z hz
    split at hl
    ·rename_i hb
     rw [J3] at hb
     have hzs:z.cells.size=i.size:=J0 hb.1
     have hby:0<i.bytes:=Jh hb.2
     have hmax:∀n,n*i.bytes<=140737488355328->n<=maxLen:=fun n hn=>by
      have:=Kd (Nat.le_mul_of_pos_right n hby) hn
      simp only [maxLen];omega
     have hrows:(Z70 h i.size x fun m g=>Zbe h i.size s fun n f h'=>Z6 ((n+m)*i.bytes<=140737488355328) (K (.nslice ⟨h.next,0,i.size,0,0⟩ i.size (n+m) (n+m)) (h'.add (.rows i.size (n+m) (Ym n f g)))))->
       ∃v h',K v h'/\∀(E:Env) (w:World) (rs rx:Value),Emb E h w->Zc E s rs->Zc E x rx->∃r w' E',(Builtin.append_ #[t,t] ty #[rs,rx]).run P w=.ok r w'/\Evo E h w E' h' w'/\Zc E' v r:=fun hl=>by
      obtain ⟨m,g,hl,hx⟩:=Z8Y hl
      obtain ⟨n,f,h',hl,hs⟩:=Zbf hl
      obtain ⟨hfit,hk⟩:=Zb hl
      refine ⟨_,_,hk,fun E w rs rx he hvs hvx=> ?_⟩
      obtain ⟨base,cap,gs,rfl,s1,s2,s3⟩:=hs E w rs he hvs
      obtain ⟨gx,x1,x2,x3,x4⟩:=(hx E w rx he hvx).reads
      have ar:=Qj (ty:=ty) ht hi hz hzs (w:=w) s3.reads x3 x4 (hmax _ hfit) hfit
      have hlo:=YC s2
      obtain ⟨r,w',E',a1,a2,a3⟩:=Vy he ar s3 (YC x2) (B':=.rows i.size (n+m) (Ym n f g)) (fun h0 E' w' hle hn=>.rows0 _ _ _ h0 hn) (fun E' w' b cells elem fr hle hbk hw hf hc=>by
       refine .rows _ _ _ b cells elem fr (fun q=>if q<n then gs q else gx (q-n)) hbk hw hf (fun q hq=> ?_) (fun q hq=> ?_) (fun q j v hq hv=> ?_)
       ·by_cases hqn:q<n
        ·have:Ym n f g q=f q:=by simp [Ym,show Nat.blt q n=true from Nat.ble_eq_true_of_le hqn]
         rw [this,if_pos hqn];exact (s1 q hqn).mono hle
        ·have hbf:Nat.blt q n=false:=by
          cases hbq:Nat.blt q n with
          | false=>rfl
          | true=>exact absurd (Jh hbq) hqn
         have:Ym n f g q=g (q-n):=by simp [Ym,hbf]
         rw [this,if_neg hqn];exact (x1 (q-n) (by omega)).mono hle
       ·by_cases hqn:q<n
        ·simp only [if_pos hqn];exact s2 q hqn
        ·simp only [if_neg hqn];exact x2 (q-n) (by omega)
       ·apply hc
        have hj:j<i.size:=by
         have hll:(if q<n then gs q else gx (q-n)).length=i.size:=by
          by_cases hqn:q<n
          ·rw [if_pos hqn];exact s2 q hqn
          ·rw [if_neg hqn];exact x2 (q-n) (by omega)
         rcases J7 j i.size with h1|h1
         ·exact h1
         ·rw [Jl (by rw [hll];exact h1)] at hv;cases hv
        by_cases hqn:q<n
        ·rw [if_pos hqn] at hv
         have hlt:q*i.size+j<n*i.size:=by
          have:(q+1)*i.size<=n*i.size:=JA _ (by omega)
          rw [JD] at this;omega
         rw [J8 (by rw [hlo];exact hlt),U6 s2 q j hqn hj]
         exact hv
        ·rw [if_neg hqn] at hv
         have e1:q*i.size+j=n*i.size+((q-n)*i.size+j):=by
          have:q=n+(q-n):=by omega
          rw [Nat.sub_mul]
          have:n*i.size<=q*i.size:=JA _ (by omega)
          omega
         rw [Jb (by rw [hlo];omega),hlo,e1,Nat.add_sub_cancel_left,U6 x2 (q-n) j (by omega) hj]
         exact hv)
      exact ⟨r,w',E',a1,a2,a3.resz _⟩
     split at hl
     ·rename_i k hue hsz1
      have hs1:i.size=1:=J0 hsz1
      obtain ⟨ys,hl,hx⟩:=XG hl
      obtain ⟨xs,h',hl,hs⟩:=Z71 hl
      obtain ⟨hfit,hk⟩:=Zb hl
      refine ⟨_,_,hk,fun E w rs rx he hvs hvx=> ?_⟩
      obtain ⟨base,cap,rfl,hon⟩:=hs E w rs he hvs
      have hrx:=hx E w rx he hvx
      rw [Je] at hfit
      rw [<-hs1] at hon hrx
      have ar:=Qj (ty:=ty) ht hi hz hzs (w:=w) hon.reads hrx (Vd _ _ _) (hmax _ hfit) hfit
      obtain ⟨r,w',E',a1,a2,a3⟩:=Vy he ar hon (by rw [Z8,hs1,JL]) (B':=.ints k (xs++ys)) (fun h0 E' w' hle hn=>.ints0 _ _ (JQ (by rw [Je];exact h0)) hn) (fun E' w' b cells elem fr hle hbk hw hf hc=>by
       refine .ints _ _ b cells elem fr hbk hw hf (fun j hj=>hc j _ ?_)
       rw [Vq]
       exact Zj hj)
      refine ⟨r,w',E',a1,a2, ?_⟩
      rw [Je,<-hs1]
      exact a3
     ·exact hl.elim
     ·exact hrows hl
    ·exact hl.elim
   ·exact hl.elim
  ·exact hl.elim
 ·exact hl.elim
theorem Z3w {P:Program} {t e ty:TypeId} {ki ki' k:IntKind} {i:TypeInfo} (ht:P.underlying t=some (.slice e)) (hti:P.underlying ti=some (.int ki)) (hi:P.info? e=some i) (hz:i.zero=some (.int k 0)) (hs1:i.size=1)
  {w:World} {base:Option Addr} {n:Int} (ho:Reads w i.size (.slice base sLen sCap) sLen olds) (h0:0<=n)
  (h63:sLen+n.toNat<=maxLen) (hbytes:(sLen+n.toNat)*i.bytes<=140737488355328):
  Z5E P e i w base sLen sCap n.toNat olds (intCells k n.toNat (List.replicate n.toNat 0)) ((Builtin.append_ #[t,ti] ty #[.slice base sLen sCap,.int ki' n]).run P w):=by
 have hsmall:sLen+n.toNat<=9223372036854775807:=by simp only [maxLen] at h63;omega
 obtain ⟨m,rfl⟩:∃m:Nat,n=(m:Int):=⟨n.toNat,by omega⟩
 simp only [Kb] at*
 have hw:i64.wrap (m:Int)=m:=by rw [IntKind.wrap_i64];omega
 have hneg:¬((m:Int)<0):=by omega
 have hb2:¬(281474976710656<(m:Int)*(i.bytes:Int)):=by
  have h1:m*i.bytes<=(sLen+m)*i.bytes:=JA _ (by omega)
  have h2:m*i.bytes<=140737488355328:=Kd h1 hbytes
  have h3:(m:Int)*(i.bytes:Int)=((m*i.bytes:Nat):Int):=by simp
  rw [h3];omega
 have hzc:Builtin.zeroCells (Value.int k 0).cells m=(intCells k m (List.replicate m 0)).toArray:=by
  apply JJ
  simp only [Builtin.zeroCells,intCells,Value.cells]
  apply Kc
  intro j
  rcases J7 j m with h|h
  ·simp [h,J2,Nat.mod_one]
  ·simp [h]
 have hw0:i64.wrap 0=0:=by decide
 have hz0:intCells k 0 (List.replicate 0 0)=[]:=rfl
 refine ⟨fun hroom hne=> ?_,fun hroom b hb hcl hfr=> ?_,fun hg=> ?_⟩
 ·have hm0:m=0:=by
   have:=congrArg List.length hne
   simpa [intCells] using this
  subst hm0
  simp only [Ke] at hroom
  cases base with
  | none=>simp [Builtin.append_,run_underlying ht,run_underlying hti,sizeOf,typeInfo,hi,asInt,asIntOf,hw0,hroom]
  | some ad=>simp [Builtin.append_,run_underlying ht,run_underlying hti,sizeOf,typeInfo,hi,asInt,asIntOf,hw0,hroom,storeCells]
 ·subst hb
  have hst:=run_storeCells_cells (P:=P) b (sLen*i.size) (intCells k m (List.replicate m 0)) 0 w (by simpa using hcl) (by simpa using hfr) (Vd _ _ _)
  simp only [Ke,hs1,JL] at hst
  have hadd:(⟨b,0,none⟩:Addr).add sLen=⟨b,sLen,none⟩:=by rw [YY];simp
  by_cases hm:m=0
  ·subst hm
   simp only [Ke] at hroom
   rw [hz0] at hst⊢
   simp [Builtin.append_,run_underlying ht,run_underlying hti,sizeOf,typeInfo,hi,asInt,asIntOf,hw0,hs1,hroom,hadd,hst]
  ·simp [Builtin.append_,run_underlying ht,run_underlying hti,sizeOf,typeInfo,hi,asInt,asIntOf,hw,hneg,hb2,hs1,hroom,hm,zeroValue,hz,hzc,hadd,hst]
 ·have hnle:¬(sLen+m<=sCap):=by omega
  have h63':¬(9223372036854775807<((sLen:Int)+(m:Int))):=by omega
  have h48':¬(281474976710656<Builtin.nextslicecap (sLen+m) sCap*i.bytes):=by
   have:=growslice_fits (bytes:=i.bytes) hg hbytes
   omega
  have hfo:=YB (P:=P) ho (w':=w.drew) rfl
  obtain ⟨_,_,_,hlo,_⟩:=ho
  refine ⟨grownCap w (sLen+m) sCap e,olds.toArray++(intCells k m (List.replicate m 0)).toArray++Builtin.zeroCells (Value.int k 0).cells (grownCap w (sLen+m) sCap e-(sLen+m)),grownCap_ge w _ _ _, ?_,fun j v hj=> ?_, ?_⟩
  ·have:=grownCap_ge w (sLen+m) sCap e
   simp only [Array.size_append,List.size_toArray,size_zeroCells,hlo,Z8,hs1,Value.cells,Jw,JK]
   omega
  ·rw [<-Array.getElem?_toList]
   simp only [Array.toList_append,JC]
   rw [<-List.append_assoc]
   have hlt:j<(olds++intCells k m (List.replicate m 0)).length:=by
    rcases J7 j (olds++intCells k m (List.replicate m 0)).length with h|h
    ·exact h
    ·rw [Jl h] at hj;cases hj
   rw [J8 hlt]
   exact hj
  ·rw [hs1] at hfo
   by_cases hm:m=0
   ·subst hm
    simp only [Ke] at*
    have h63'':¬(9223372036854775807<(sLen:Int)):=by omega
    simp [Builtin.append_,run_underlying ht,run_underlying hti,sizeOf,typeInfo,zeroValue,hi,hz,asInt,asIntOf,hw0,hs1,hnle,h63'',h48',Question.forced,hfo,newRow,grownCap]
    show World.alloc _ _=World.alloc w.drew _
    congr 2
    apply JJ
    simp [intCells]
   ·simp [Builtin.append_,run_underlying ht,run_underlying hti,sizeOf,typeInfo,zeroValue,hi,hz,asInt,asIntOf,hw,hneg,hb2,hs1,hm,hzc,hnle,h63',h48',Question.forced,hfo,newRow,grownCap]
    show World.alloc _ _=World.alloc w.drew _
    congr 2
    apply JJ
    simp [JC]
def Z3x (P:Program) (h:Z9) (t ti:TypeId) (s x:AV) (K:AV->Z9->Prop):Prop:=
 match P.underlying t,P.underlying ti,x with
 | some (.slice e),some (.int _),.int _ n=>match P.info? e with
  | some i=>match i.zero,Nat.beq i.size 1&&Nat.blt 0 i.bytes with
   | some (.int k z),true=>Zbd h k s fun xs h'=>Z6 (z=0/\0<=n/\(xs.length+n.toNat)*i.bytes<=140737488355328)
     (K (.nslice ⟨h.next,0,0,0,0⟩ 1 (xs++List.replicate n.toNat 0).length (xs++List.replicate n.toNat 0).length) (h'.add (.ints k (xs++List.replicate n.toNat 0))))
   | _,_=>False
  | none=>False
 | _,_,_=>False
theorem Z5G {P:Program} {h:Z9} {t ty:TypeId} {s x:AV} {K:AV->Z9->Prop} (hl:Z3x P h t ti s x K):
  ∃v h',K v h'/\∀(E:Env) (w:World) (rs rx:Value),Emb E h w->Zc E s rs->Zc E x rx->∃r w' E',(Builtin.append_ #[t,ti] ty #[rs,rx]).run P w=.ok r w'/\Evo E h w E' h' w'/\Zc E' v r:=by
 unfold Z3x at hl
 split at hl
 ·rename_i e ki ki' n ht hti
  split at hl
  ·rename_i i hi
   split at hl
   ·rename_i k z hz hb
    rw [J3] at hb
    have hs1:i.size=1:=J0 hb.1
    have hby:0<i.bytes:=Jh hb.2
    obtain ⟨xs,h',hl,hs⟩:=Z71 hl
    obtain ⟨⟨rfl,h0,hfit⟩,hk⟩:=Zb hl
    refine ⟨_,_,hk,fun E w rs rx he hvs hvx=> ?_⟩
    cases hvx
    obtain ⟨base,cap,rfl,hon⟩:=hs E w rs he hvs
    rw [<-hs1] at hon
    have hmax:xs.length+n.toNat<=maxLen:=by
     have:=Kd (Nat.le_mul_of_pos_right (xs.length+n.toNat) hby) hfit
     simp only [maxLen];omega
    have ar:=Z3w (ty:=ty) (ki':=ki') ht hti hi hz hs1 (w:=w) hon.reads h0 hmax hfit
    have hrl:(List.replicate n.toNat (0:Int)).length=n.toNat:=List.length_replicate ..
    obtain ⟨r,w',E',a1,a2,a3⟩:=Vy he ar hon (by rw [Z8,hs1,JL]) (B':=.ints k (xs++List.replicate n.toNat 0)) (fun h0 E' w' hle hn=>.ints0 _ _ (JQ (by rw [Je,hrl];exact h0)) hn) (fun E' w' b cells elem fr hle hbk hw hf hc=>by
     refine .ints _ _ b cells elem fr hbk hw hf (fun j hj=>hc j _ ?_)
     have:=Vq k xs (List.replicate n.toNat 0)
     rw [hrl] at this
     rw [this]
     exact Zj hj)
    refine ⟨r,w',E',a1,a2, ?_⟩
    rw [Je,hrl,<-hs1]
    exact a3
   ·exact hl.elim
  ·exact hl.elim
 ·exact hl.elim
theorem Z1k {E:Env} {h:Z9} {w:World} (e:Emb E h w) (x:Nat) (B B':Blk) (hx:h.get x=some B) (hB:Ye E w x B'):Evo E h w E (h.set x B') w:=by
 have hget:∀y C,(h.set x B').get y=some C->(y=x/\C=B')\/(y≠x/\h.get y=some C):=fun y C hy=>by
  by_cases hn:x=y
  ·subst hn;rw [Z9.get_set_same] at hy;cases hy;exact .inl ⟨rfl,rfl⟩
  ·rw [Z9.get_set_other _ _ _ _ hn] at hy;exact .inr ⟨fun h=>hn h.symm,hy⟩
 have hget':∀y C,(h.set x B').get y=some C->∃C',h.get y=some C':=fun y C hy=>by
  rcases hget y C hy with ⟨rfl,_⟩|⟨_,h'⟩
  ·exact ⟨B,hx⟩
  ·exact ⟨C,h'⟩
 refine ⟨.refl E,⟨e.fresh, ?_, ?_, ?_,e.imm, ?_⟩,J5 _,rfl,rfl,⟨rfl,J5 _⟩,fun _ _ _=>rfl, ?_,fun _ _ h=>h⟩
 ·intro y C hy
  obtain ⟨C',h'⟩:=hget' y C hy
  exact e.lt y C' h'
 ·intro y C hy
  rcases hget y C hy with ⟨rfl,rfl⟩|⟨hne,h'⟩
  ·exact hB
  ·exact e.own y C h'
 ·intro y z C D b' M M' hy hz hby hbz
  obtain ⟨C',hy'⟩:=hget' y C hy
  obtain ⟨D',hz'⟩:=hget' z D hz
  exact e.disj y z C' D' b' M M' hy' hz' hby hbz
 ·intro a c y C M hi hy hb'
  obtain ⟨C',hy'⟩:=hget' y C hy
  exact e.sep a c y C' M hi hy' hb'
 ·rintro i ⟨y,C,M,hy,hb'⟩
  obtain ⟨C',hy'⟩:=hget' y C hy
  exact .inl ⟨y,C',M,hy',hb'⟩
def spl (xs:LI) (o:Nat) (ys:LI):LI:=xs.take o++ys++xs.drop (o+ys.length)
theorem UO {o:Nat} (h:o+ys.length<=xs.length):(spl xs o ys).length=xs.length:=by
 simp only [spl,Je,Jm,Jo];omega
theorem Z8Z {o:Nat} (h:o+ys.length<=xs.length) {j:Nat} (hj:j<ys.length):(spl xs o ys).getD (o+j) 0=ys.getD j 0:=by
 have h1:(xs.take o).length=o:=by rw [Jm];omega
 simp only [spl,J2]
 rw [JC,Jb (by omega),h1,J8 (by omega)]
 congr 2;omega
theorem Z72 {o:Nat} (h:o+ys.length<=xs.length) {j:Nat} (hj:j<o\/o+ys.length<=j):(spl xs o ys).getD j 0=xs.getD j 0:=by
 have h1:(xs.take o).length=o:=by rw [Jm];omega
 simp only [spl,J2]
 rcases hj with hj|hj
 ·rw [JC,J8 (by omega),Jy,if_pos hj]
 ·rw [Jb (by simp only [Je,h1];omega),Jf]
  congr 2
  simp only [Je,h1];omega
def YS (k:IntKind) (n:Nat) (xs:LI):Nat->List AV->Option (List AV)
 | 0,.arr k' m _::r=>match Nat.beq m n&&decide (k'=k) with|true=>some (.arr k n xs::r)|false=>none
 | 0,_=>none
 | _+1,[]=>none
 | o+1,.arr k' m ys::r=>match Nat.ble m (o+1) with
  | true=>match YS k n xs (o+1-m) r with|some r'=>some (.arr k' m ys::r')|none=>none
  | false=>none
 | o+1,v::r=>match YS k n xs o r with|some r'=>some (v::r')|none=>none
termination_by structural _ cs=>cs
theorem UP {E:Env} {k:IntKind} {n:Nat} {xs:LI}:∀(cs:List AV) (o:Nat) (cs':List AV) (vs:List Value),YS k n xs o cs=some cs'->Zn E cs vs->
  ∃vs',Zn E cs' vs'/\vs'.length=vs.length/\(∀j,j<n->vs'[o+j]? =some (.int k (xs.getD j 0)))/\∀j,(j<o\/o+n<=j)->vs'[j]? =vs[j]?
 | [],0,cs',vs,h,_=>by simp [YS] at h
 | [],o+1,cs',vs,h,_=>by simp [YS] at h
 | v::r,0,cs',vs,h,hc=>by
  cases v with
  | arr k' m ys=>
   simp only [YS] at h
   split at h
   ·rename_i hb
    rw [J3] at hb
    have hm:m=n:=J0 hb.1
    have hk:k'=k:=of_decide_eq_true hb.2
    subst hm;subst hk
    cases h
    obtain ⟨ws,rfl,hw⟩:=hc.cons_arr
    refine ⟨intCells k' m xs++ws,.arr _ _ _ _ _ hw,by simp [Z8],fun j hj=> ?_,fun j hj=> ?_⟩
    ·rw [JE,J8 (by rw [Z8];exact hj)]
     exact Zj hj
    ·rw [Jb (by rw [Z8];omega),Jb (by rw [Z8];omega),Z8,Z8]
   ·cases h
  | _=>simp [YS] at h
 | v::r,o+1,cs',vs,h,hc=>by
  have hone:(∀k m xs,v≠.arr k m xs)->(match YS k n xs o r with|some r'=>some (v::r')|none=>none)=some cs'->
    ∃vs',Zn E cs' vs'/\vs'.length=vs.length/\(∀j,j<n->vs'[o+1+j]? =some (.int k (xs.getD j 0)))/\∀j,(j<o+1\/o+1+n<=j)->vs'[j]? =vs[j]?:=fun hv h=>by
   obtain ⟨c,ws,rfl,h0,h1,hr,hw⟩:=hc.cons_cell hv
   split at h
   ·rename_i r' hr'
    cases h
    obtain ⟨us,u1,u2,u3,u4⟩:=UP r o r' ws hr' hw
    refine ⟨c::us,.one _ _ _ _ h0 h1 hr u1,by simp [u2],fun j hj=> ?_,fun j hj=> ?_⟩
    ·rw [show o+1+j=(o+j)+1 from by omega,JS];exact u3 j hj
    ·cases j with
     | zero=>rfl
     | succ j=>rw [JS,JS];exact u4 j (by omega)
   ·cases h
  cases v with
  | arr k' m ys=>
   simp only [YS] at h
   split at h
   ·rename_i hb
    have hmo:=WM hb
    split at h
    ·rename_i r' hr'
     cases h
     obtain ⟨ws,rfl,hw⟩:=hc.cons_arr
     obtain ⟨us,u1,u2,u3,u4⟩:=UP r (o+1-m) r' ws hr' hw
     refine ⟨intCells k' m ys++us,.arr _ _ _ _ _ u1,by simp [u2],fun j hj=> ?_,fun j hj=> ?_⟩
     ·rw [Jb (by rw [Z8];omega),Z8,show o+1+j-m=o+1-m+j from by omega]
      exact u3 j hj
     ·rcases J7 j m with hjm|hjm
      ·rw [J8 (by rw [Z8];exact hjm),J8 (by rw [Z8];exact hjm)]
      ·rw [Jb (by rw [Z8];exact hjm),Jb (by rw [Z8];exact hjm),Z8]
       exact u4 _ (by omega)
    ·cases h
   ·cases h
  | _=>exact hone (fun _ _ _ e=>by cases e) (by simpa only [YS] using h)
theorem UQ {k:IntKind} {n:Nat} {xs:LI}:∀(cs:List AV) (o:Nat) (cs':List AV),YS k n xs o cs=some cs'->csz cs'=csz cs
 | [],0,cs',h=>by simp [YS] at h
 | [],o+1,cs',h=>by simp [YS] at h
 | v::r,0,cs',h=>by
  cases v with
  | arr k' m ys=>
   simp only [YS] at h
   split at h
   ·rename_i hb
    rw [J3] at hb
    have hm:m=n:=J0 hb.1
    subst hm
    cases h
    rfl
   ·cases h
  | _=>simp [YS] at h
 | v::r,o+1,cs',h=>by
  cases v with
  | arr k' m ys=>
   simp only [YS] at h
   split at h
   ·split at h
    ·rename_i r' hr'
     cases h
     simp only [csz,UQ r _ r' hr']
    ·cases h
   ·cases h
  | _=>
   simp only [YS] at h
   split at h
   ·rename_i r' hr'
    cases h
    simp only [csz,UQ r _ r' hr']
   ·cases h
def Z90 (P:Program) (h:Z9) (t:TypeId) (d s:AV) (K:AV->Z9->Prop):Prop:=
 match P.underlying t with
 | some (.slice e)=>match P.underlying e,ZV P e with
  | some (.int k),some 1=>match d with
   | .eslice=>Uw h k s fun _=>K (.int .i64 0) h
   | .nilslice=>Uw h k s fun _=>K (.int .i64 0) h
   | .nslice p esz len _=>match Nat.beq esz 1,h.get p.blk with
    | true,some (.ints k' xs)=>Uw h k s fun ys=>Z6 (k'=k/\p.tot+len<=xs.length) (K (.int .i64 (ys.take len).length) (h.set p.blk (.ints k (spl xs p.tot (ys.take len)))))
    | true,some (.flat cs)=>match p.row,Ys p.off cs with
     | 0,some (.arr k' n xs::_)=>Uw h k s fun ys=>Z6 (k'=k/\xs.length=n/\p.inn+len<=n) (match YS k n (spl xs p.inn (ys.take len)) p.off cs with
      | some cs'=>K (.int .i64 (ys.take len).length) (h.set p.blk (.flat cs'))
      | none=>False)
     | _,_=>False
    | _,_=>False
   | _=>False
  | _,_=>False
 | _=>False
theorem Z1l {P:Program} {t e ty:TypeId} (ht:P.underlying t=some (.slice e)) (hs:ZV P e=some 1) {k:IntKind} {w:World} {base:Option Addr} {dLen dCap:Nat}
  (hr:Reads w 1 rx ys.length (intCells k ys.length ys)):
  (Builtin.copy_ #[t,t2] ty #[.slice base dLen dCap,rx]).run P w=
   (match base with
    | some a=>((storeCells a (intCells k (ys.take dLen).length (ys.take dLen))).run P w).andThen fun _ w'=>.ok (.int .i64 (ys.take dLen).length) w'
    | none=>.ok (.int .i64 (ys.take dLen).length) w):=by
 have hsz:(sizeOf e).run P w=.ok 1 w:=run_sizeOf hs w
 obtain ⟨a,c,rfl,hl,hc⟩:=hr
 have hn:Nat.min ys.length dLen=(ys.take dLen).length:=by rw [Jm,Nat.min_comm]
 have hf:(Builtin.firstCells 1 (ys.take dLen).length (.slice a ys.length c)).run P w=.ok (intCells k (ys.take dLen).length (ys.take dLen)).toArray w:=by
  cases a with
  | none=>
   have:ys=[]:=by
    cases ys with
    | nil=>rfl
    | cons y r=>obtain ⟨ad,h1,_⟩:=hc 0 _ (Zj (by simp));cases h1
   subst this
   rw [run_firstCells_none]
   simp [intCells]
  | some ad=>
   refine run_firstCells_some (P:=P) w 1 _ ad ys.length c _ (by rw [Z8,JL]) fun j v hj=> ?_
   rcases J7 j (ys.take dLen).length with h1|h1
   ·rw [Zj h1] at hj
    cases hj
    have hjl:j<ys.length:=by rw [Jm] at h1;omega
    have hjd:j<dLen:=by rw [Jm] at h1;omega
    obtain ⟨ad',h2,h3⟩:=hc j _ (Zj hjl)
    cases h2
    rw [h3]
    simp [J2,hjd]
   ·rw [Ya h1] at hj;cases hj
 simp only [Builtin.copy_,JO,List.getElem?_cons_zero,JS,J6,run_underlying ht,J4,Builtin.lenOf,Ji,hsz,hn,hf]
 generalize intCells k (ys.take dLen).length (ys.take dLen)=L
 generalize (ys.take dLen).length=N
 cases base with
 | none=>simp [goInt]
 | some ad=>simp [goInt]
theorem Z1m {P:Program} {a:Addr} {w:World}:(storeCells a []).run P w=.ok () w:=rfl
theorem Z91 {P:Program} {h:Z9} {t ty:TypeId} {d s:AV} {K:AV->Z9->Prop} (hl:Z90 P h t d s K):
  ∃v h',K v h'/\∀(E:Env) (w:World) (rd rs:Value),Emb E h w->Zc E d rd->Zc E s rs->∃r w' E',(Builtin.copy_ #[t,t2] ty #[rd,rs]).run P w=.ok r w'/\Evo E h w E' h' w'/\Zc E' v r:=by
 unfold Z90 at hl
 split at hl
 ·rename_i e ht
  split at hl
  ·rename_i k hue hts
   have hnone:∀(E:Env) (w:World) (a:Option Addr) (ys:LI) (rs:Value),Emb E h w->Reads w 1 rs ys.length (intCells k ys.length ys)->
     ∃r w' E',(Builtin.copy_ #[t,t2] ty #[.slice a 0 0,rs]).run P w=.ok r w'/\Evo E h w E' h w'/\Zc E' (.int .i64 0) r:=fun E w a ys rs he hr=>by
    refine ⟨.int .i64 0,w,E, ?_,.refl he,.int _ _⟩
    rw [Z1l ht hts hr]
    cases a with
    | none=>simp
    | some ad=>
     have e0:intCells k (ys.take 0).length (ys.take 0)=[]:=by simp [intCells]
     simp only [e0,Z1m,J4]
     simp
   split at hl
   ·obtain ⟨ys,hk,hy⟩:=XG hl
    refine ⟨_,_,hk,fun E w rd rs he hd hs=> ?_⟩
    cases hd
    exact hnone E w _ ys rs he (hy E w rs he hs)
   ·obtain ⟨ys,hk,hy⟩:=XG hl
    refine ⟨_,_,hk,fun E w rd rs he hd hs=> ?_⟩
    cases hd
    exact hnone E w none ys rs he (hy E w rs he hs)
   ·rename_i p esz len lo
    -- the write itself
    have hwrite:∀(w:World) (b:Nat) (cells:Array Value) (elem:TypeId) (fr:Nat×Nat) (ys:LI),w.heap[b]? =some (.cells cells elem fr)->free cells fr->p.tot+ys.length<=cells.size->
      (storeCells ⟨b,p.tot,none⟩ (intCells k ys.length ys)).run P w=.ok () (w.setCells b p.tot (intCells k ys.length ys)):=fun w b cells elem fr ys hw hf hle=>by
     have hst:=run_storeCells_cells (P:=P) b p.tot (intCells k ys.length ys) 0 w (fun j hj=>by
       rw [Z8] at hj
       rw [cell_of_heap hw];simp;omega) (fun j hj=>by
       rw [Z8] at hj
       have:=hf (p.tot+0+j) (by omega)
       simp [World.frozen?,hw];omega) (Vd _ _ _)
     simpa using hst
    split at hl
    ·rename_i k' xs hb hg
     have hes:esz=1:=J0 hb
     subst hes
     obtain ⟨ys,hl,hy⟩:=XG hl
     obtain ⟨⟨rfl,hle⟩,hk⟩:=Zb hl
     refine ⟨_,_,hk,fun E w rd rs he hd hs=> ?_⟩
     have hr:=hy E w rs he hs
     have hylen:(ys.take len).length<=len:=by rw [Jm];omega
     cases hd with
     | nslice0 _ _ _ _ a h1 h2=>
      subst h1
      obtain ⟨r,w',E',q1,q2,q3⟩:=hnone E w a ys rs he hr
      have hsame:spl xs p.tot (ys.take 0)=xs:=by simp [spl]
      have:Evo E' h w' E' (h.set p.blk (.ints k' (spl xs p.tot (ys.take 0)))) w':=by
       rw [hsame];exact Z1k q2.emb p.blk _ _ hg (q2.emb.own _ _ hg)
      exact ⟨r,w',E',q1,q2.trans this,by simpa using q3⟩
     | nslice _ _ _ _ b N cap hb' h1 h2 h3=>
      have hown:=he.own _ _ hg
      cases hown with
      | ints0 _ _ h0 hn=>rw [hn] at hb';cases hb'
      | ints _ _ b' cells elem fr hbb hw hf hv=>
       rw [hbb] at hb'
       cases hb'
       have hsz:p.tot+(ys.take len).length<=cells.size:=by omega
       have hsz2:p.tot+(ys.take len).length<=xs.length:=by omega
       obtain ⟨a1,a2,a3,a4,a5,a6⟩:=YG (intCells k' (ys.take len).length (ys.take len)) p.tot w b cells elem fr hw
       have hwsz:=Y3 (intCells k' (ys.take len).length (ys.take len)) p.tot cells
       refine ⟨.int .i64 (ys.take len).length,w.setCells b p.tot (intCells k' (ys.take len).length (ys.take len)),E,by rw [Z1l ht hts hr];simp only [hwrite w b cells elem fr (ys.take len) hw hf hsz,J4], ?_,.int _ _⟩
       refine Xk he p.blk _ _ b cells.size hg hbb a2 a3 a4 a5 a6 (.ints _ _ b _ elem fr (by rw [hwsz];exact hbb) a1 (fun o ho=>hf o (by rw [hwsz] at ho;exact ho)) fun j hj=> ?_)
       rw [UO hsz2] at hj
       by_cases hin:p.tot<=j/\j<p.tot+(ys.take len).length
       ·have h5:=X3 (intCells k' (ys.take len).length (ys.take len)) p.tot cells (j-p.tot) (by rw [Z8];exact hsz) (by rw [Z8];omega)
        rw [show p.tot+(j-p.tot)=j from by omega,Zj (by omega)] at h5
        have h6:=Z8Z hsz2 (j:=j-p.tot) (by omega)
        rw [show p.tot+(j-p.tot)=j from by omega] at h6
        rw [h5,h6]
       ·rw [YF _ _ _ _ (by rw [Z8];omega),Z72 hsz2 (by omega)]
        exact hv j hj
    ·rename_i cs hb hg
     have hes:esz=1:=J0 hb
     subst hes
     split at hl
     ·rename_i k' n xs rest hrow hdc
      obtain ⟨ys,hl,hy⟩:=XG hl
      obtain ⟨⟨rfl,hxn,hle⟩,hl⟩:=Zb hl
      split at hl
      ·rename_i cs' hput
       refine ⟨_,_,hl,fun E w rd rs he hd hs=> ?_⟩
       have hr:=hy E w rs he hs
       have hylen:(ys.take len).length<=len:=by rw [Jm];omega
       have hsz2:p.inn+(ys.take len).length<=xs.length:=by omega
       have htot:p.tot=p.off+p.inn:=by simp [ZN.tot,hrow]
       have hown:=he.own _ _ hg
       -- the cells told anew, where nothing is written
       have hrel:∀(E:Env) (vs:List Value),Zn E cs vs->∃vs',Zn E cs' vs'/\vs'.length=vs.length/\(∀j,j<n->vs'[p.off+j]? =some (.int k' ((spl xs p.inn (ys.take len)).getD j 0)))/\(∀j,(j<p.off\/p.off+n<=j)->vs'[j]? =vs[j]?)/\(∀j,j<n->vs[p.off+j]? =some (.int k' (xs.getD j 0))):=fun E vs hc=>by
        obtain ⟨vs',v1,v2,v3,v4⟩:=UP cs p.off cs' vs hput hc
        refine ⟨vs',v1,v2,v3,v4,fun j hj=> ?_⟩
        have hdr:=ZQ _ _ _ _ hdc hc
        obtain ⟨ws,hws,_⟩:=hdr.1.cons_arr
        rw [<-List.getElem?_drop,hws,J8 (by rw [Z8];exact hj)]
        exact Zj hj
       cases hd with
       | nslice0 _ _ _ _ a h1 h2=>
        subst h1
        obtain ⟨r,w',E',q1,q2,q3⟩:=hnone E w a ys rs he hr
        have hsame:spl xs p.inn (ys.take 0)=xs:=by simp [spl]
        have:Evo E' h w' E' (h.set p.blk (.flat cs')) w':=by
         have hown':=q2.emb.own _ _ hg
         refine Z1k q2.emb p.blk _ _ hg ?_
         cases hown' with
         | flat0 _ h0 hn=>exact .flat0 _ (by rw [UQ _ _ _ hput];exact h0) hn
         | flat _ b' cells elem fr vs hbb hw hf hc hv=>
          obtain ⟨vs',v1,v2,v3,v4,v5⟩:=hrel E' vs hc
          rw [hsame] at v3
          refine .flat _ b' cells elem fr vs' hbb hw hf v1 fun j c hj=>hv j c ?_
          by_cases hch:p.off<=j/\j<p.off+n
          ·have h7:=v3 (j-p.off) (by omega)
           have h8:=v5 (j-p.off) (by omega)
           rw [show p.off+(j-p.off)=j from by omega] at h7 h8
           rw [h8,<-h7,hj]
          ·rw [<-v4 j (by omega)];exact hj
        exact ⟨r,w',E',q1,q2.trans this,by simpa using q3⟩
       | nslice _ _ _ _ b N cap hb' h1 h2 h3=>
        cases hown with
        | flat0 _ h0 hn=>rw [hn] at hb';cases hb'
        | flat _ b' cells elem fr vs hbb hw hf hc hv=>
         rw [hbb] at hb'
         cases hb'
         obtain ⟨vs',v1,v2,v3,v4,v5⟩:=hrel E vs hc
         have hvl:∀j,j<vs.length->j<cells.size:=fun j hj=>by
          have:=hv j vs[j] (Jd hj)
          rcases J7 j cells.size with h|h
          ·exact h
          ·rw [Jj h] at this;cases this
         have hnle:p.off+n<=vs.length:=by
          rcases JG n with h0|h0
          ·have:=(ZQ _ _ _ _ hdc hc).2;omega
          ·have:=v5 (n-1) (by omega)
           rcases J7 (p.off+(n-1)) vs.length with h|h
           ·omega
           ·rw [Jl h] at this;cases this
         have hsz:p.tot+(ys.take len).length<=cells.size:=by
          rcases JG (p.tot+(ys.take len).length) with h0|h0
          ·omega
          ·have:=hvl (p.tot+(ys.take len).length-1) (by omega);omega
         obtain ⟨a1,a2,a3,a4,a5,a6⟩:=YG (intCells k' (ys.take len).length (ys.take len)) p.tot w b cells elem fr hw
         have hwsz:=Y3 (intCells k' (ys.take len).length (ys.take len)) p.tot cells
         refine ⟨.int .i64 (ys.take len).length,w.setCells b p.tot (intCells k' (ys.take len).length (ys.take len)),E,by rw [Z1l ht hts hr];simp only [hwrite w b cells elem fr (ys.take len) hw hf hsz,J4], ?_,.int _ _⟩
         refine Xk he p.blk _ _ b cells.size hg hbb a2 a3 a4 a5 a6 (.flat _ b _ elem fr vs' (by rw [hwsz];exact hbb) a1 (fun o ho=>hf o (by rw [hwsz] at ho;exact ho)) v1 fun j c hj=> ?_)
         by_cases hin:p.tot<=j/\j<p.tot+(ys.take len).length
         ·have h5:=X3 (intCells k' (ys.take len).length (ys.take len)) p.tot cells (j-p.tot) (by rw [Z8];exact hsz) (by rw [Z8];omega)
          rw [show p.tot+(j-p.tot)=j from by omega,Zj (by omega)] at h5
          have h6:=Z8Z hsz2 (j:=j-p.tot) (by omega)
          have h7:=v3 (j-p.off) (by omega)
          rw [show p.off+(j-p.off)=j from by omega,hj,show j-p.off=p.inn+(j-p.tot) from by omega,h6] at h7
          rw [h5,h7]
         ·rw [YF _ _ _ _ (by rw [Z8];omega)]
          apply hv
          by_cases hch:p.off<=j/\j<p.off+n
          ·have h7:=v3 (j-p.off) (by omega)
           have h8:=v5 (j-p.off) (by omega)
           rw [Z72 hsz2 (by omega)] at h7
           rw [show p.off+(j-p.off)=j from by omega] at h7 h8
           rw [h8,<-h7,hj]
          ·rw [<-v4 j (by omega)];exact hj
      ·exact hl.elim
     ·exact hl.elim
    ·exact hl.elim
   ·exact hl.elim
  ·exact hl.elim
 ·exact hl.elim
def Z0C (k:IntKind) (x y:Int):Int:=k.wrap (BitVec.ofInt k.bits x&&&BitVec.ofInt k.bits y).toNat
def bOr (k:IntKind) (x y:Int):Int:=k.wrap (BitVec.ofInt k.bits x|||BitVec.ofInt k.bits y).toNat
def XH (k:IntKind) (x y:Int):Int:=k.wrap (BitVec.ofInt k.bits x^^^BitVec.ofInt k.bits y).toNat
def Zbg (k:IntKind) (x y:Int):Int:=k.wrap (BitVec.ofInt k.bits x&&& ~~~(BitVec.ofInt k.bits y)).toNat
def ZM (k:IntKind) (x y:Int):Int:=k.wrap (x*2^(min y.toNat k.bits))
def Zy (k:IntKind) (x y:Int):Int:=x.fdiv (2^(min y.toNat k.bits))
def ZdC (op:BinOp) (k k':IntKind) (a b:Int) (K:AV->Prop):Prop:=
 match op with
 | .shl=>Z6 (0<=b) (K (.int k (ZM k a b)))
 | .shr=>Z6 (0<=b) (K (.int k (Zy k a b)))
 | op=>match decide (k=k') with
  | false=>False
  | true=>match op with
   | .add=>K (.int k (k.wrap (a+b)))
   | .sub=>K (.int k (k.wrap (a-b)))
   | .mul=>K (.int k (k.wrap (a*b)))
   | .quo=>Z6 (b≠0) (K (.int k (k.wrap (a.tdiv b))))
   | .rem=>Z6 (b≠0) (K (.int k (a.tmod b)))
   | .and=>K (.int k (Z0C k a b))
   | .or=>K (.int k (bOr k a b))
   | .xor=>K (.int k (XH k a b))
   | .andNot=>K (.int k (Zbg k a b))
   | .eql=>K (.bool (a==b))
   | .neq=>K (.bool (a !=b))
   | .lss=>K (.bool (decide (a<b)))
   | .leq=>K (.bool (decide (a<=b)))
   | .gtr=>K (.bool (decide (a>b)))
   | .geq=>K (.bool (decide (a>=b)))
   | .shl=>False
   | .shr=>False
theorem Zbh {k k':IntKind} {a b:Int} {K:AV->Prop} (h:ZdC op k k' a b K) (P:Program) (T:TypeId):
  ∃v,K v/\∀(E:Env) (w:World),∃r,(binOp op T (.int k a) (.int k' b)).run P w=.ok r w/\Zc E v r:=by
 unfold ZdC at h
 split at h
 ·obtain ⟨h0,hK⟩:=Zb h
  refine ⟨_,hK,fun E w=>⟨_, ?_,.int _ _⟩⟩
  have hn:¬(b<0):=by omega
  simp [binOp,Op.shift,ZM,hn]
 ·obtain ⟨h0,hK⟩:=Zb h
  refine ⟨_,hK,fun E w=>⟨_, ?_,.int _ _⟩⟩
  have hn:¬(b<0):=by omega
  simp [binOp,Op.shift,Zy,hn]
 ·split at h
  ·exact h.elim
  ·rename_i hd
   rw [decide_eq_true_eq] at hd
   subst hd
   cases op<;>simp only at h
   case add=>exact ⟨_,h,fun E w=>⟨_,by simp [binOp,Op.intArith],.int _ _⟩⟩
   case sub=>exact ⟨_,h,fun E w=>⟨_,by simp [binOp,Op.intArith],.int _ _⟩⟩
   case mul=>exact ⟨_,h,fun E w=>⟨_,by simp [binOp,Op.intArith],.int _ _⟩⟩
   case quo=>obtain ⟨h0,hK⟩:=Zb h;exact ⟨_,hK,fun E w=>⟨_,by simp [binOp,Op.intDiv,h0],.int _ _⟩⟩
   case rem=>obtain ⟨h0,hK⟩:=Zb h;exact ⟨_,hK,fun E w=>⟨_,by simp [binOp,Op.intDiv,h0],.int _ _⟩⟩
   case and=>exact ⟨_,h,fun E w=>⟨_,by simp only [binOp,Op.intBits,Ji,ne_eq,not_true_eq_false,if_false];rfl,.int _ _⟩⟩
   case or=>exact ⟨_,h,fun E w=>⟨_,by simp only [binOp,Op.intBits,Ji,ne_eq,not_true_eq_false,if_false];rfl,.int _ _⟩⟩
   case xor=>exact ⟨_,h,fun E w=>⟨_,by simp only [binOp,Op.intBits,Ji,ne_eq,not_true_eq_false,if_false];rfl,.int _ _⟩⟩
   case andNot=>exact ⟨_,h,fun E w=>⟨_,by simp only [binOp,Op.intBits,Ji,ne_eq,not_true_eq_false,if_false];rfl,.int _ _⟩⟩
   case eql=>exact ⟨_,h,fun E w=>⟨_,by simp [binOp,Op.intCmp],.bool _⟩⟩
   case neq=>exact ⟨_,h,fun E w=>⟨_,by simp [binOp,Op.intCmp],.bool _⟩⟩
   case lss=>exact ⟨_,h,fun E w=>⟨_,by simp [binOp,Op.intCmp],.bool _⟩⟩
   case leq=>exact ⟨_,h,fun E w=>⟨_,by simp [binOp,Op.intCmp],.bool _⟩⟩
   case gtr=>exact ⟨_,h,fun E w=>⟨_,by simp [binOp,Op.intCmp],.bool _⟩⟩
   case geq=>exact ⟨_,h,fun E w=>⟨_,by simp [binOp,Op.intCmp],.bool _⟩⟩
def isNil:AV->Option Bool
 | .ptr none=>some true
 | .ptr (some _)=>some false
 | .pview _ _=>some false
 | .nilslice=>some true
 | .fslice=>some false
 | .vrows _ (_+1) _ _=>some false
 | .vints _ (_::_) _=>some false
 | .map none=>some true
 | .map (some _)=>some false
 | .nilFunc=>some true
 | .func _ _ _=>some false
 | .yield _=>some false
 | .nilIface=>some true
 | .iface _ _=>some false
 | _=>none
def Z3y:AV->Nat
 | .ptr _|.pview _ _=>1
 | .nilslice|.fslice|.vrows _ _ _ _|.vints _ _ _=>2
 | .map _=>3
 | .nilFunc|.func _ _ _|.yield _=>4
 | .nilIface|.iface _ _=>5
 | _=>0
def YD:TypeDesc->Nat
 | .pointer _=>1
 | .slice _=>2
 | .map _ _=>3
 | .func _ _ _=>4
 | .interface _=>5
 | _=>0
def Z1n (P:Program) (T:TypeId) (x y:AV):Option Bool:=
 match P.underlying T with
 | some d=>match isNil x,isNil y with
  | some a,some b=>match a||b,Nat.beq (YD d) (Z3y x)&&Nat.beq (YD d) (Z3y y)&& !(Nat.beq (YD d) 0) with
   | true,true=>some (a&&b)
   | _,_=>none
  | _,_=>none
 | none=>none
def YO:Value->Option Bool
 | .pointer p=>some p.isNone
 | .slice a _ _=>some a.isNone
 | .map m=>some m.isNone
 | .nilFunc=>some true
 | .func _ _ _=>some false
 | .nilIface=>some true
 | .iface _ _=>some false
 | _=>none
def ZY:Value->Nat
 | .pointer _=>1
 | .slice _ _ _=>2
 | .map _=>3
 | .nilFunc|.func _ _ _=>4
 | .nilIface|.iface _ _=>5
 | _=>0
theorem Z1o {x:AV} {a:Bool} (h:isNil x=some a) {E:Env} {r:Value} (hr:Zc E x r):YO r=some a/\ZY r=Z3y x:=by
 cases hr with
 | vints k xs len a' cap h1 h2 hi=>
  cases xs with
  | nil=>simp [isNil] at h
  | cons y ys=>simp [isNil] at h;subst h;exact ⟨rfl,rfl⟩
 | vintsNil k xs len h1 h2=>subst h1;simp [isNil] at h
 | vrows esz n f len a' cap g h1 h2 hc hl hi=>
  cases n with
  | zero=>simp [isNil] at h
  | succ n=>simp [isNil] at h;subst h;exact ⟨rfl,rfl⟩
 | vrowsNil esz n f len h1 h2=>subst h1;simp [isNil] at h
 | _=>first
  | (simp [isNil] at h;done)
  | (simp [isNil] at h;subst h;exact ⟨rfl,rfl⟩)
theorem Z3z {P:Program} {T:TypeId} {d:TypeDesc} (hu:P.underlying T=some d) {x y:Value} {a b:Bool} (hx:YO x=some a) (hy:YO y=some b) (hab:(a||b)=true) (kx:YD d=ZY x) (ky:YD d=ZY y) (n:Nat) (w:World):
  (Op.equalIn (n+1) T x y).run P w=.ok (a&&b) w:=by
 simp only [Op.equalIn,J6,Za hu,J4]
 cases x with
 | pointer p=>cases y with
  | pointer q=>cases d<;>simp [YD,ZY] at kx<;>cases p<;>cases q<;>simp [YO] at hx hy<;>subst hx<;>subst hy<;>simp at hab⊢
  | _=>simp [ZY] at kx ky;omega
 | slice p l c=>cases y with
  | slice q l' c'=>cases d<;>simp [YD,ZY] at kx<;>cases p<;>cases q<;>simp [YO] at hx hy<;>subst hx<;>subst hy<;>simp at hab⊢
  | _=>simp [ZY] at kx ky;omega
 | map p=>cases y with
  | map q=>cases d<;>simp [YD,ZY] at kx<;>cases p<;>cases q<;>simp [YO] at hx hy<;>subst hx<;>subst hy<;>simp at hab⊢
  | _=>simp [ZY] at kx ky;omega
 | nilFunc=>cases y with
  | nilFunc=>cases d<;>simp [YD,ZY] at kx<;>simp [YO] at hx hy<;>subst hx<;>subst hy<;>simp
  | func f fs cs=>cases d<;>simp [YD,ZY] at kx<;>simp [YO] at hx hy<;>subst hx<;>subst hy<;>simp
  | _=>simp [ZY] at kx ky;omega
 | func f fs cs=>cases y with
  | nilFunc=>cases d<;>simp [YD,ZY] at kx<;>simp [YO] at hx hy<;>subst hx<;>subst hy<;>simp
  | func f' fs' cs'=>simp [YO] at hx hy;subst hx;subst hy;simp at hab
  | _=>simp [ZY] at kx ky;omega
 | nilIface=>cases y with
  | nilIface=>cases d<;>simp [YD,ZY] at kx<;>simp [YO] at hx hy<;>subst hx<;>subst hy<;>simp
  | iface t v=>cases d<;>simp [YD,ZY] at kx<;>simp [YO] at hx hy<;>subst hx<;>subst hy<;>simp
  | _=>simp [ZY] at kx ky;omega
 | iface t v=>cases y with
  | nilIface=>cases d<;>simp [YD,ZY] at kx<;>simp [YO] at hx hy<;>subst hx<;>subst hy<;>simp
  | iface t' v'=>simp [YO] at hx hy;subst hx;subst hy;simp at hab
  | _=>simp [ZY] at kx ky;omega
 | _=>simp [YO] at hx
theorem Z0D {P:Program} {T:TypeId} {x y:AV} {b:Bool} (h:Z1n P T x y=some b) {E:Env} {w:World} (hx:Zc E x rx) (hy:Zc E y ry) (n:Nat):
  (Op.equalIn (n+1) T rx ry).run P w=.ok b w:=by
 unfold Z1n at h
 split at h
 ·rename_i d hu
  split at h
  ·rename_i a c ha hc
   split at h
   ·rename_i hab hk
    cases h
    simp only [J3] at hk
    obtain ⟨x1,x2⟩:=Z1o ha hx
    obtain ⟨y1,y2⟩:=Z1o hc hy
    exact Z3z hu x1 y1 hab ((J0 hk.1.1).trans x2.symm) ((J0 hk.1.2).trans y2.symm) n w
   ·cases h
  ·cases h
 ·cases h
theorem Z2m {P:Program} {T:TypeId} {x y:AV} {b:Bool} (h:Z1n P T x y=some b) {E:Env} {w:World} (hx:Zc E x rx) (hy:Zc E y ry):
  (Op.equal T rx ry).run P w=.ok b w:=Z0D h hx hy 9999
def Z92 (P:Program) (neg:Bool) (T:TypeId) (x y:AV) (K:AV->Prop):Prop:=
 match x,y with
 | .bool a,.bool b=>match P.underlying T with
  | some .bool=>K (.bool (match neg with|true=> !(a==b)|false=>a==b))
  | _=>False
 | x,y=>match Z1n P T x y with
  | some b=>K (.bool (match neg with|true=> !b|false=>b))
  | none=>False
def Zf5 (P:Program) (op:BinOp) (T:TypeId) (x y:AV) (K:AV->Prop):Prop:=
 match x,y with
 | .int k a,.int k' b=>ZdC op k k' a b K
 | .str a,.str b=>match op with
  | .eql=>K (.bool (a.toList==b.toList))
  | .neq=>K (.bool (!(a.toList==b.toList)))
  | _=>False
 | x,y=>match op with
  | .eql=>Z92 P false T x y K
  | .neq=>Z92 P true T x y K
  | _=>False
theorem Zc.notInt {E:Env} {r:Value} (h:Zc E v r) (hv:∀k n,v≠.int k n) (ht:v≠.top):∀k n,r≠.int k n:=by
 rintro k n rfl
 cases h
 ·exact ht rfl
 ·exact hv _ _ rfl
theorem Zc.notStr {E:Env} {r:Value} (h:Zc E v r) (hv:∀s,v≠.str s) (ht:v≠.top):∀s,r≠.string s:=by
 rintro s rfl
 cases h
 ·exact ht rfl
 ·exact hv _ rfl
def Z1p:Operand->Bool
 | .const _=>true
 | _=>false
def Z93 (ox oy:Operand) (x y:AV):Bool:=
 match x,y with
 | .nilIface,.nilIface=>Z1p ox||Z1p oy
 | _,_=>true
def Z5H (P:Program) (op:BinOp) (T:TypeId) (ox oy:Operand) (x y:AV) (K:AV->Prop):Prop:=
 match Z93 ox oy x y with
 | true=>Zf5 P op T x y K
 | false=>False
theorem Z4z {P:Program} {T:TypeId} {x y:AV} {b:Bool} (h:Z1n P T x y=some b):(∀k n,x≠.int k n)/\(∀s,x≠.str s)/\x≠.top/\(∀cs,x≠.agg cs):=by
 unfold Z1n at h
 split at h
 ·split at h
  ·rename_i hx hy
   cases x<;>simp [isNil] at hx<;>simp
  ·cases h
 ·cases h
theorem Ux {P:Program} {T:TypeId} {b:Bool} {w:World} (neg:Bool) (hi:∀k n,rx≠.int k n) (hs:∀s,rx≠.string s) (hf:∀k n,rx≠.float k n) (hc:∀k m n,rx≠.complex k m n)
  (h:(Op.equal T rx ry).run P w=.ok b w):(binOp (match neg with|true=>.neq|false=>.eql) T rx ry).run P w=.ok (.bool (match neg with|true=> !b|false=>b)) w:=by
 cases neg<;>(unfold binOp;cases rx<;>simp_all)
theorem X0 {P:Program} {T:TypeId} {w:World} (h1:rx=.nilIface->ry=.nilIface->(Z1p ox||Z1p oy)=true) (h2:∀a,rx≠.agg a):
  (eqGuard op T ox oy rx ry).run P w=.ok () w:=by
 unfold eqGuard
 cases rx with
 | agg a=>exact absurd rfl (h2 a)
 | nilIface=>
  cases ry with
  | nilIface=>
   have h:=h1 rfl rfl
   clear h1 h2
   cases ox<;>cases oy<;>cases op<;>simp [Z1p] at h⊢
  | _=>cases op<;>simp
 | _=>cases op<;>simp
theorem Zc.forms {E:Env} {r:Value} (h:Zc E v r) (ht:v≠.top):(∀k n,r≠.float k n)/\(∀k m n,r≠.complex k m n)/\(r=.nilIface->v=.nilIface)/\((∃a,r=.agg a)->∃cs,v=.agg cs):=by
 cases h<;>simp at ht⊢
theorem Z7X {P:Program} {T:TypeId} {x y:AV} {K:AV->Prop} (h:Z5H P op T ox oy x y K):
  ∃v,K v/\∀(E:Env) (w:World) (rx ry:Value),Zc E x rx->Zc E y ry->∃r,(do eqGuard op T ox oy rx ry;binOp op T rx ry).run P w=.ok r w/\Zc E v r:=by
 unfold Z5H at h
 split at h
 ·rename_i hg
  unfold Zf5 at h
  split at h
  ·rename_i k a k' b
   obtain ⟨v,hK,hv⟩:=Zbh h P T
   refine ⟨v,hK,fun E w rx ry hx hy=> ?_⟩
   cases hx;cases hy
   obtain ⟨r,h1,h2⟩:=hv E w
   refine ⟨r, ?_,h2⟩
   rw [J6,X0 (by simp) (by simp)]
   exact h1
  ·rename_i a b
   split at h
   ·refine ⟨_,h,fun E w rx ry hx hy=> ?_⟩
    cases hx;cases hy
    refine ⟨_, ?_,.bool _⟩
    rw [J6,X0 (by simp) (by simp)]
    simp [binOp,Op.stringOp]
   ·refine ⟨_,h,fun E w rx ry hx hy=> ?_⟩
    cases hx;cases hy
    refine ⟨_, ?_,.bool _⟩
    rw [J6,X0 (by simp) (by simp)]
    simp [binOp,Op.stringOp]
   ·exact h.elim
  ·rename_i hn1 hn2
   have key:∀neg:Bool,Z92 P neg T x y K->∃v,K v/\∀(E:Env) (w:World) (rx ry:Value),Zc E x rx->Zc E y ry->
     ∃r,(do eqGuard (match neg with|true=>.neq|false=>.eql) T ox oy rx ry;binOp (match neg with|true=>.neq|false=>.eql) T rx ry).run P w=.ok r w/\Zc E v r:=by
    intro neg h
    by_cases hbb:∃a b,x=.bool a/\y=.bool b
    ·obtain ⟨a,b,rfl,rfl⟩:=hbb
     simp only [Z92] at h
     split at h
     ·rename_i hu
      refine ⟨_,h,fun E w rx ry hx hy=> ?_⟩
      cases hx;cases hy
      refine ⟨_, ?_,.bool _⟩
      rw [J6,X0 (by simp) (by simp)]
      have he:(Op.equal T (.bool a) (.bool b)).run P w=.ok (a==b) w:=by
       have:∀n,(Op.equalIn (n+1) T (.bool a) (.bool b)).run P w=.ok (a==b) w:=fun n=>by simp [Op.equalIn,Za hu]
       exact this 9999
      exact Ux neg (by simp) (by simp) (by simp) (by simp) he
     ·exact h.elim
    ·unfold Z92 at h
     split at h
     ·exact absurd ⟨_,_,rfl,rfl⟩ hbb
     split at h
     ·rename_i b hb
      obtain ⟨f1,f2,f3,f4⟩:=Z4z hb
      refine ⟨_,h,fun E w rx ry hx hy=> ?_⟩
      refine ⟨_, ?_,.bool _⟩
      obtain ⟨q1,q2,q3,q4⟩:=hx.forms f3
      rw [J6,X0 (fun e1 e2=> ?_) (fun a e=> ?_)]
      ·exact Ux neg (hx.notInt f1 f3) (hx.notStr f2 f3) q1 q2 (Z2m hb hx hy)
      ·have:=q3 e1
       subst this
       subst e2
       cases hy with
       | top v=>simp [Z1n,isNil] at hb;split at hb<;>simp at hb
       | nilIface=>simpa [Z93] using hg
      ·obtain ⟨cs,hcs⟩:=q4 ⟨a,e⟩
       exact f4 cs hcs
     ·exact h.elim
   split at h
   ·exact key false h
   ·exact key true h
   ·exact h.elim
 ·exact h.elim
def Z5I:Value->AV
 | .bool b=>.bool b
 | .int k n=>.int k n
 | .string s=>.str s
 | .pointer none=>.ptr none
 | .slice none 0 0=>.nilslice
 | .map none=>.map none
 | .nilFunc=>.nilFunc
 | .nilIface=>.nilIface
 | _=>.top
def aev (t:ZL):Operand->AV
 | .tmp x=>match Zz t x with|some v=>v|none=>.top
 | .const v=>Z5I v
 | .global _=>.top
 | .func f=>.func (.func f) [] []
theorem Z5J (E:Env) (v:Value):Zc E (Z5I v) v:=by
 unfold Z5I
 split<;>first|exact .bool _|exact .int _ _|exact .str _|exact .nilptr|exact .nilslice|exact .nilmap|exact .nilFunc|exact .nilIface|exact .top _
theorem Zo {E:Env} {n:Nat} {t:ZL} {a:Act} (h:WL E n t a.tmps) (o:Operand):Zc E (aev t o) (a.eval o):=by
 cases o with
 | tmp x=>
  simp only [aev,Act.eval]
  cases hg:Zz t x with
  | some v=>exact h.get x v hg
  | none=>exact .top _
 | const v=>exact Z5J E v
 | global g=>exact .top _
 | func f=>exact .func (.func f) [] [] [] [] .nil .nil
theorem Z1q {E:Env} {n:Nat} {t:ZL} {a:Act} (h:WL E n t a.tmps) (o:Option Operand):Z1b E (o.map (aev t)) (o.map a.eval):=by
 cases o with
 | none=>exact .none
 | some x=>exact .some _ _ (Zo h x)
def Z3A (t:ZL):List Operand->List AV
 | []=>[]
 | x::r=>aev t x::Z3A t r
theorem Wg {E:Env} {n:Nat} {t:ZL} {a:Act} (h:WL E n t a.tmps):∀l:List Operand,Zw E (Z3A t l) (l.map a.eval)
 | []=>.nil
 | x::r=>.cons _ _ _ _ (Zo h x) (Wg h r)
def Z94 (t:ZL):List (Nat×Operand)->List (Nat×AV)
 | []=>[]
 | (i,x)::r=>(i,aev t x)::Z94 t r
theorem VA {E:Env} {n:Nat} {t:ZL} {a:Act} (h:WL E n t a.tmps):∀l:List (Nat×Operand),Z3s E (Z94 t l) (l.map fun x=>(x.1,a.eval x.2))
 | []=>.nil
 | (_,x)::r=>.cons _ _ _ _ _ (Zo h x) (VA h r)
def unA (op:UnOp) (x:AV) (K:AV->Prop):Prop:=
 match op,x with
 | .not,.bool b=>K (.bool (!b))
 | .neg,.int k n=>K (.int k (k.wrap (0-n)))
 | .xor,.int k n=>K (.int k (XH k (if k.signed then -1 else k.max) n))
 | _,_=>False
theorem ZdD {op:UnOp} {x:AV} {K:AV->Prop} (h:unA op x K) (P:Program):
  ∃v,K v/\∀(E:Env) (w:World) (r:Value),Zc E x r->∃r',(Op.unary op r).run P w=.ok r' w/\Zc E v r':=by
 unfold unA at h
 split at h
 ·exact ⟨_,h,fun E w r hx=>by cases hx;exact ⟨_,by simp [Op.unary],.bool _⟩⟩
 ·exact ⟨_,h,fun E w r hx=>by cases hx;exact ⟨_,by simp only [Op.unary,Op.intArith,Ji],.int _ _⟩⟩
 ·exact ⟨_,h,fun E w r hx=>by cases hx;exact ⟨_,by simp only [Op.unary,Op.intBits,Ji];rfl,.int _ _⟩⟩
 ·exact h.elim
def Z95 (P:Program) (s d:TypeId) (x:AV) (K:AV->Prop):Prop:=
 match P.underlying s,P.underlying d with
 | some (.int _),some (.int k)=>match x with
  | .int _ n=>K (.int k (k.wrap n))
  | _=>False
 | some .string,some .string=>match x with
  | .str b=>K (.str b)
  | _=>False
 | _,_=>False
theorem Z96 {P:Program} {s d:TypeId} {x:AV} {K:AV->Prop} (h:Z95 P s d x K):
  ∃v,K v/\∀(E:Env) (w:World) (r:Value),Zc E x r->∃r',(convert s d r).run P w=.ok r' w/\Zc E v r':=by
 unfold Z95 at h
 split at h
 ·rename_i k1 k hs hd
  split at h
  ·exact ⟨_,h,fun E w r hx=>by cases hx;exact ⟨_,by simp [convert,Za hs,Za hd,Conv.intToInt],.int _ _⟩⟩
  ·exact h.elim
 ·rename_i hs hd
  split at h
  ·exact ⟨_,h,fun E w r hx=>by cases hx;exact ⟨_,by simp [convert,Za hs,Za hd],.str _⟩⟩
  ·exact h.elim
 ·exact h.elim
def Z7Y:List AV->Nat->Option AV
 | [],_=>none
 | v::_,0=>some v
 | _::r,n+1=>Z7Y r n
theorem Z4A {E:Env}:∀{vs:List AV} {rs:List Value} (i:Nat) (v:AV),Zw E vs rs->Z7Y vs i=some v->∃r,rs[i]? =some r/\Zc E v r
 | [],_,_,_,_,h=>by simp [Z7Y] at h
 | _::_,_,0,v,.cons _ c _ _ hv _,h=>by simp [Z7Y] at h;subst h;exact ⟨c,by simp,hv⟩
 | _::_,_,i+1,v,.cons _ _ _ _ _ t,h=>by
  obtain ⟨r,h1,h2⟩:=Z4A i v t (by simpa [Z7Y] using h)
  exact ⟨r,by simpa using h1,h2⟩
def Z1r (x:AV) (i:Nat) (K:AV->Prop):Prop:=
 match x with
 | .tuple vs=>match Z7Y vs i with
  | some v=>K v
  | none=>False
 | _=>False
theorem Z4B {x:AV} {i:Nat} {K:AV->Prop} (h:Z1r x i K) (P:Program):
  ∃v,K v/\∀(E:Env) (w:World) (r:Value),Zc E x r->∃r',(Instr.extract r i).run P w=.ok r' w/\Zc E v r':=by
 unfold Z1r at h
 split at h
 ·split at h
  ·rename_i v hv
   refine ⟨v,h,fun E w r hx=> ?_⟩
   cases hx with
   | tuple vs rs hl=>
    obtain ⟨r',h1,h2⟩:=Z4A i v hl hv
    exact ⟨r',by simp [Instr.extract,h1],h2⟩
  ·exact h.elim
 ·exact h.elim
def Qk (P:Program) (t:TypeId) (cs:List AV) (off:Nat) (K:AV->Prop):Prop:=
 match Ys off cs with
 | some rest=>match Vw P t,ZV P t with
  | some true,some s=>match takeC s rest with
   | some front=>K (.agg front)
   | none=>False
  | some false,_=>match rest with
   | []=>False
   | .arr _ _ _::_=>False
   | v::_=>K v
  | _,_=>False
 | none=>False
theorem Wh {P:Program} {t:TypeId} {off:Nat} {K:AV->Prop} (h:Qk P t cs off K):
  ∃v,K v/\∀(E:Env) (w:World) (vs:List Value),Zn E cs vs->∃r,(part t vs.toArray off).run P w=.ok r w/\Zc E v r:=by
 unfold Qk at h
 split at h
 ·rename_i rest hd
  split at h
  ·rename_i s hag hs
   split at h
   ·rename_i front hf
    refine ⟨_,h,fun E w vs hc=> ?_⟩
    obtain ⟨h1,h2⟩:=ZQ cs off rest vs hd hc
    obtain ⟨h3,h4⟩:=WS rest s front _ hf h1
    refine ⟨.agg ((vs.drop off).take s).toArray, ?_,.agg _ _ h3⟩
    simp only [part,J6,WT hag,J4,if_true,run_sizeOf hs,Ji]
    congr 2
    apply JJ
    simp [List.extract_eq_take_drop]
   ·exact h.elim
  ·rename_i hag
   cases rest with
   | nil=>exact h.elim
   | cons v r=>
    by_cases hv:∃k m xs,v=.arr k m xs
    ·obtain ⟨k,m,xs,rfl⟩:=hv;exact h.elim
    ·have hv':∀k m xs,v≠.arr k m xs:=fun k m xs e=>hv ⟨k,m,xs,e⟩
     have hK:K v:=by cases v<;>first|exact h|exact absurd rfl (hv' _ _ _)
     refine ⟨v,hK,fun E w vs hc=> ?_⟩
     obtain ⟨h1,h2⟩:=ZQ cs off _ vs hd hc
     obtain ⟨c,ws,hw,_,_,hr,_⟩:=h1.cons_cell hv'
     refine ⟨c, ?_,hr⟩
     have:vs[off]? =some c:=by
      have:=congrArg (fun l=>l[0]?) hw
      simpa using this
     simp [part,WT hag,this]
  ·exact h.elim
 ·exact h.elim
def Z5K (P:Program) (S:TypeId) (x:AV) (f:Nat) (K:AV->Prop):Prop:=
 match P.underlying S with
 | some (.struct fields)=>match fields[f]? with
  | some fd=>match x with
   | .agg cs=>Qk P fd.type cs fd.offset K
   | _=>False
  | none=>False
 | _=>False
theorem Z7Z {P:Program} {S:TypeId} {x:AV} {f:Nat} {K:AV->Prop} (h:Z5K P S x f K):
  ∃v,K v/\∀(E:Env) (w:World) (r:Value),Zc E x r->∃r',(Instr.field S r f).run P w=.ok r' w/\Zc E v r':=by
 unfold Z5K at h
 split at h
 ·rename_i fields hu
  split at h
  ·rename_i fd hf
   split at h
   ·obtain ⟨v,hK,hv⟩:=Wh h
    refine ⟨v,hK,fun E w r hx=> ?_⟩
    cases hx with
    | agg cs vs hc=>
     obtain ⟨r',h1,h2⟩:=hv E w vs hc
     exact ⟨r',by simp [Instr.field,Za hu,hf,asAgg,h1],h2⟩
   ·exact h.elim
  ·exact h.elim
 ·exact h.elim
def Z5L (P:Program) (T:TypeId) (x i:AV) (K:AV->Prop):Prop:=
 match P.underlying T,x,i with
 | some (.array n e),.agg [.arr k m xs],.int _ i=>match X4 P e,ZV P e,Nat.beq m n with
  | true,some 1,true=>Z6 (0<=i/\i<n) (K (.int k (xs.getD i.toNat 0)))
  | _,_,_=>False
 | some (.array n e),.agg cs,.int _ i=>match ZV P e with
  | some s=>Z6 (0<=i/\i<n) (Qk P e cs (i.toNat*s) K)
  | none=>False
 | _,_,_=>False
theorem Z80 {P:Program} {T:TypeId} {x i:AV} {K:AV->Prop} (h:Z5L P T x i K):
  ∃v,K v/\∀(E:Env) (w:World) (r ri:Value),Zc E x r->Zc E i ri->∃r',(Instr.index T r ri).run P w=.ok r' w/\Zc E v r':=by
 unfold Z5L at h
 split at h
 ·rename_i n e k m xs ki i hu
  split at h
  ·rename_i he hs hb
   have hm:m=n:=J0 hb
   subst hm
   obtain ⟨⟨h0,h1⟩,hK⟩:=Zb h
   refine ⟨_,hK,fun E w r ri hx hi=> ?_⟩
   cases hi
   cases hx with
   | agg cs vs hc=>
    obtain ⟨ws,rfl,hn⟩:=hc.cons_arr
    cases hn
    refine ⟨_, ?_,.int _ _⟩
    have hag:Vw P e=some false:=by
     unfold X4 at he
     unfold Vw
     split at he
     ·rename_i hq;simp [hq]
     ·cases he
    simp only [Instr.index,asIntOf,J6,Ji,J4,Za hu,h0,h1,and_self,if_true,run_sizeOf hs,part,WT hag,Bool.false_eq_true,if_false,JL]
    have hlt:i.toNat<m:=by omega
    have:(intCells k m xs++[]).toArray[i.toNat]? =some (Value.int k (xs.getD i.toNat 0)):=by
     simp only [JU,JO]
     exact Zj hlt
    rw [this]
    rfl
  ·exact h.elim
 ·rename_i n e cs ki i _ hu
  split at h
  ·rename_i s hs
   obtain ⟨⟨h0,h1⟩,h⟩:=Zb h
   obtain ⟨v,hK,hv⟩:=Wh h
   refine ⟨v,hK,fun E w r ri hx hi=> ?_⟩
   cases hi
   cases hx with
   | agg cs vs hc=>
    obtain ⟨r',h2,h3⟩:=hv E w vs hc
    exact ⟨r',by simp [Instr.index,asIntOf,Za hu,h0,h1,run_sizeOf hs,h2],h3⟩
  ·exact h.elim
 ·exact h.elim
def Ve (P:Program) (t:TypeId):Option AV:=
 match Qh P t with
 | some cs=>match P.info? t with
  | some i=>match i.zero with
   | some (.agg _)=>some (.agg cs)
   | some _=>match cs with
    | [.arr _ _ _]=>none
    | [v]=>some v
    | _=>none
   | none=>none
  | none=>none
 | none=>none
theorem Wi {P:Program} {t:TypeId} (h:Ve P t=some v):∃z,(∀w,(zeroValue t).run P w=.ok z w)/\∀E,Zc E v z:=by
 unfold Ve at h
 split at h
 ·rename_i cs hz
  obtain ⟨z,hz1,hz2⟩:=We hz
  split at h
  ·rename_i i hi
   have hzz:∀z',i.zero=some z'->z=z':=fun z' hz'=>by
    have:=hz1 default
    simp [zeroValue,typeInfo,hi,hz'] at this
    exact this.symm
   split at h
   ·rename_i a ha
    injection h with h
    subst h
    have:=hzz _ ha
    subst this
    refine ⟨_,hz1,fun E=> ?_⟩
    have:=Zc.agg cs _ (hz2 E)
    simpa [Value.cells] using this
   ·rename_i z' hna hz'
    have:=hzz _ hz'
    subst this
    split at h
    ·cases h
    ·rename_i v' hv'
     injection h with h
     subst h
     refine ⟨_,hz1,fun E=> ?_⟩
     obtain ⟨c,ws,hw,_,_,hr,_⟩:=(hz2 E).cons_cell (fun k m xs e=>hv' k m xs e)
     have:z.cells= #[z]:=by
      cases z<;>first|rfl|exact absurd rfl (hna _)
     rw [this] at hw
     simp at hw
     rw [hw.1];exact hr
    ·cases h
   ·cases h
  ·cases h
 ·cases h
def VB (P:Program) (x:AV) (asserted:TypeId) (ok:Bool) (K:AV->Prop):Prop:=
 match P.underlying asserted with
 | some (.interface _)=>False
 | none=>False
 | some _=>match x with
  | .iface t v=>match Nat.beq t asserted with
   | true=>match ok with
    | true=>K (.tuple [v,.bool true])
    | false=>K v
   | false=>match ok,Ve P asserted with
    | true,some z=>K (.tuple [z,.bool false])
    | _,_=>False
  | .nilIface=>match ok,Ve P asserted with
   | true,some z=>K (.tuple [z,.bool false])
   | _,_=>False
  | _=>False
theorem Z1s {P:Program} {x:AV} {xt asserted:TypeId} {ok:Bool} {K:AV->Prop} (h:VB P x asserted ok K):
  ∃v,K v/\∀(E:Env) (w:World) (r:Value),Zc E x r->∃r',(Instr.typeAssert r xt asserted ok).run P w=.ok r' w/\Zc E v r':=by
 unfold VB at h
 split at h
 ·exact h.elim
 ·exact h.elim
 ·rename_i d hni hu
  have hd:∀ms,d≠.interface ms:=fun ms e=>hni ms (by rw [e])
  split at h
  ·rename_i t v
   split at h
   ·rename_i hb
    have ht:t=asserted:=J0 hb
    subst ht
    split at h
    ·refine ⟨_,h,fun E w r hx=> ?_⟩
     cases hx with
     | iface t v x hv=>
      refine ⟨.tuple #[x,.bool true], ?_, ?_⟩
      ·simp only [Instr.typeAssert,J6,Za hu,J4]
       cases d<;>first|exact absurd rfl (hd _)|simp
      ·have:=Zc.tuple [v,.bool true] [x,.bool true] (.cons _ _ _ _ hv (.cons _ _ _ _ (.bool true) .nil)) (E:=E)
       simpa using this
    ·refine ⟨_,h,fun E w r hx=> ?_⟩
     cases hx with
     | iface t v x hv=>
      refine ⟨x, ?_,hv⟩
      simp only [Instr.typeAssert,J6,Za hu,J4]
      cases d<;>first|exact absurd rfl (hd _)|simp
   ·rename_i hb
    have ht:t≠asserted:=fun e=>by rw [e,Jg] at hb;cases hb
    split at h
    ·rename_i z hz
     obtain ⟨zr,hz1,hz2⟩:=Wi hz
     refine ⟨_,h,fun E w r hx=> ?_⟩
     cases hx with
     | iface t v x hv=>
      refine ⟨.tuple #[zr,.bool false], ?_, ?_⟩
      ·simp only [Instr.typeAssert,J6,Za hu,J4]
       cases d<;>first|exact absurd rfl (hd _)|simp [ht,hz1]
      ·have:=Zc.tuple [z,.bool false] [zr,.bool false] (.cons _ _ _ _ (hz2 E) (.cons _ _ _ _ (.bool false) .nil)) (E:=E)
       simpa using this
    ·exact h.elim
  ·split at h
   ·rename_i z hz
    obtain ⟨zr,hz1,hz2⟩:=Wi hz
    refine ⟨_,h,fun E w r hx=> ?_⟩
    cases hx
    refine ⟨.tuple #[zr,.bool false], ?_, ?_⟩
    ·simp only [Instr.typeAssert,J6,Za hu,J4]
     cases d<;>first|exact absurd rfl (hd _)|simp [hz1]
    ·have:=Zc.tuple [z,.bool false] [zr,.bool false] (.cons _ _ _ _ (hz2 E) (.cons _ _ _ _ (.bool false) .nil)) (E:=E)
     simpa using this
   ·exact h.elim
  ·exact h.elim
def Z2C (x:AV) (K:AV->Prop):Prop:=
 match x with
 | .ptr (some p)=>K (.ptr (some p))
 | .pview cs inn=>K (.pview cs inn)
 | .func (.func f) a b=>K (.func (.func f) a b)
 | .yield y=>K (.yield y)
 | _=>False
def Z4C (P:Program) (T:TypeId) (x:AV) (K:AV->Prop):Prop:=
 match P.underlying T with
 | some (.interface _)=>False
 | none=>False
 | some _=>K (.iface T x)
end Go.Tk
end
