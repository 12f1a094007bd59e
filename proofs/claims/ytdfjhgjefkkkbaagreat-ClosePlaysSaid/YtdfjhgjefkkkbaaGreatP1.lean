/- P: part 1 of an engine (a symbolic evaluator, proved against the model) and of the walk by it. -/
import Derived.RangeFuncLeaves
import Derived.RecoverIn
import Derived.Laws.Cells
import Derived.KernelRfl
import Derived.Laws.IdiomCopy
import Derived.Laws.AppendOwn
import Derived.Laws.BitsLemmas
set_option linter.unusedVariables false
set_option linter.unusedSimpArgs false
set_option maxRecDepth 100000
set_option maxHeartbeats 0
section
namespace Go.Tk
open IntKind (i64 u8 u32 u64 wrap)
variable {w':World} {news olds vs:List Value} {xs ys:List Int} {rx ry z:Value} {t2 ti ty:TypeId} {esz sCap sLen:Nat} {op:BinOp} {ox oy:Operand}
theorem J0:type_of% @Nat.eq_of_beq_eq_true:=@Nat.eq_of_beq_eq_true
theorem J2:type_of% @List.getD_eq_getElem?_getD:=@List.getD_eq_getElem?_getD
theorem J3:type_of% @Bool.and_eq_true:=@Bool.and_eq_true
theorem J4:type_of% @Nat.le_refl:=@Nat.le_refl
theorem J5:type_of% @Result.andThen_ok:=@Result.andThen_ok
theorem J6:type_of% @Bool.not_eq_true':=@Bool.not_eq_true'
theorem J7:type_of% @List.length_append:=@List.length_append
theorem J8:type_of% @Sem.run_bind:=@Sem.run_bind
theorem J9:type_of% @Nat.lt_or_ge:=@Nat.lt_or_ge
theorem Ja:type_of% @Bool.not_eq_false':=@Bool.not_eq_false'
theorem Jb:type_of% @List.getElem?_append_left:=@List.getElem?_append_left
theorem Jc:type_of% @And.intro:=@And.intro
theorem Jd:type_of% @List.mem_cons:=@List.mem_cons
theorem Je:type_of% @List.getElem?_eq_getElem:=@List.getElem?_eq_getElem
theorem Jf:type_of% @List.getElem?_append_right:=@List.getElem?_append_right
theorem Jg:type_of% @Array.getD_eq_getD_getElem?:=@Array.getD_eq_getD_getElem?
theorem Jh:type_of% @Int.not_le:=@Int.not_le
theorem Ji:type_of% @Int.not_lt:=@Int.not_lt
theorem Jj:type_of% @Nat.beq_refl:=@Nat.beq_refl
theorem Jk:type_of% @Nat.le_of_ble_eq_true:=@Nat.le_of_ble_eq_true
theorem Jl:type_of% @Sem.run_pure:=@Sem.run_pure
theorem Jm:type_of% @List.getElem?_drop:=@List.getElem?_drop
theorem Jo:type_of% @Array.getElem?_eq_none:=@Array.getElem?_eq_none
theorem Jp:type_of% @List.length_take:=@List.length_take
theorem Jq:type_of% @Array.getElem?_setIfInBounds:=@Array.getElem?_setIfInBounds
theorem Jr:type_of% @List.getElem?_eq_none:=@List.getElem?_eq_none
theorem Js:type_of% @List.length_cons:=@List.length_cons
theorem Jt:type_of% @List.length_drop:=@List.length_drop
theorem Ju:type_of% @List.mem_append:=@List.mem_append
theorem Jv:type_of% @List.mem_cons_of_mem:=@List.mem_cons_of_mem
theorem Jw:type_of% @List.getElem?_eq_some_iff:=@List.getElem?_eq_some_iff
theorem Jx:type_of% @List.mem_append_right:=@List.mem_append_right
theorem Jy:type_of% @List.length_nil:=@List.length_nil
theorem Jz:type_of% @List.mem_range:=@List.mem_range
theorem JA:type_of% @List.mem_append_left:=@List.mem_append_left
theorem JB:type_of% @List.append_assoc:=@List.append_assoc
theorem JC:type_of% @Nat.zero_le:=@Nat.zero_le
theorem JD:type_of% @List.take_of_length_le:=@List.take_of_length_le
theorem JE:type_of% @List.take_length:=@List.take_length
theorem JF:type_of% @List.getElem?_take:=@List.getElem?_take
theorem JG:type_of% @Option.bind_eq_some_iff:=@Option.bind_eq_some_iff
theorem JH:type_of% @List.mem_cons_self:=@List.mem_cons_self
theorem JI:type_of% @List.append_nil:=@List.append_nil
theorem JJ:type_of% @Nat.mod_eq_of_lt:=@Nat.mod_eq_of_lt
theorem JK:type_of% @Nat.zero_add:=@Nat.zero_add
theorem JL:type_of% @BitVec.ofInt_natCast:=@BitVec.ofInt_natCast
theorem JM:type_of% @Nat.eq_zero_or_pos:=@Nat.eq_zero_or_pos
theorem JN:type_of% @Nat.one_pos:=@Nat.one_pos
theorem JO:type_of% @Bool.true_and:=@Bool.true_and
theorem JP:type_of% @Int.tdiv_eq_ediv_of_nonneg:=@Int.tdiv_eq_ediv_of_nonneg
theorem JQ:type_of% @Nat.mul_le_mul_right:=@Nat.mul_le_mul_right
theorem JR:type_of% @Bool.or_eq_true:=@Bool.or_eq_true
theorem JS:type_of% @BitVec.toNat_ofNat:=@BitVec.toNat_ofNat
theorem JT:type_of% @Nat.add_mul:=@Nat.add_mul
theorem JU:type_of% @List.drop_eq_getElem_cons:=@List.drop_eq_getElem_cons
theorem JV:type_of% @List.eq_nil_of_length_eq_zero:=@List.eq_nil_of_length_eq_zero
theorem JW:type_of% @Int.toNat_natCast:=@Int.toNat_natCast
theorem JX:type_of% @Array.ext':=@Array.ext'
theorem JY:type_of% @List.any_eq_false:=@List.any_eq_false
theorem JZ:type_of% @List.nil_append:=@List.nil_append
theorem K1:type_of% @Nat.mul_one:=@Nat.mul_one
theorem K2:type_of% @Nat.lt_of_le_of_lt:=@Nat.lt_of_le_of_lt
theorem K3:type_of% @List.drop_eq_nil_of_le:=@List.drop_eq_nil_of_le
theorem K4:type_of% @List.getElem?_map:=@List.getElem?_map
theorem K5:type_of% @List.getElem?_toArray:=@List.getElem?_toArray
theorem K6:type_of% @List.mem_iff_getElem?:=@List.mem_iff_getElem?
theorem K7:type_of% @List.drop_append_of_le_length:=@List.drop_append_of_le_length
theorem K8:type_of% @List.map_cons:=@List.map_cons
theorem K9:type_of% @List.mem_of_getElem?:=@List.mem_of_getElem?
theorem Ka:type_of% @List.getElem?_cons_succ:=@List.getElem?_cons_succ
theorem Kb:type_of% @List.length_set:=@List.length_set
theorem Kc:type_of% @List.map_append:=@List.map_append
theorem Kd:type_of% @Bool.and_self:=@Bool.and_self
theorem Ke:type_of% @List.all_eq_true:=@List.all_eq_true
theorem Kf:type_of% @List.take_succ_eq_append_getElem:=@List.take_succ_eq_append_getElem
theorem Kg:type_of% @List.pairwise_cons:=@List.pairwise_cons
theorem Kh:type_of% @Option.isSome_iff_exists:=@Option.isSome_iff_exists
theorem Ki:type_of% @Nat.not_lt_zero:=@Nat.not_lt_zero
theorem Kj:type_of% @List.getElem?_set:=@List.getElem?_set
theorem Kk:type_of% @List.take_append_of_le_length:=@List.take_append_of_le_length
theorem Kl:type_of% @List.length_eq_zero_iff:=@List.length_eq_zero_iff
theorem Km:type_of% @List.getElem_mem:=@List.getElem_mem
theorem Kn:type_of% @List.drop_zero:=@List.drop_zero
theorem Ko:type_of% @Bool.and_false:=@Bool.and_false
theorem Kp:type_of% @Nat.le_trans:=@Nat.le_trans
theorem Kq:type_of% @Nat.add_zero:=@Nat.add_zero
theorem Kr:type_of% @Nat.xor_lt_two_pow:=@Nat.xor_lt_two_pow
theorem Ks:type_of% @List.foldl_cons:=@List.foldl_cons
theorem Kt:type_of% @Classical.choose_spec:=@Classical.choose_spec
theorem Ku:type_of% @Int.fdiv_eq_ediv_of_nonneg:=@Int.fdiv_eq_ediv_of_nonneg
theorem Kv:type_of% @List.ext_getElem?:=@List.ext_getElem?
theorem Kw:type_of% @List.cons_append:=@List.cons_append
theorem Kx:type_of% @Bool.not_true:=@Bool.not_true
theorem Ky:type_of% @List.mem_singleton:=@List.mem_singleton
theorem Kz:type_of% @Nat.and_le_left:=@Nat.and_le_left
theorem KA:type_of% @Nat.sub_self:=@Nat.sub_self
theorem KC:type_of% @Bool.false_and:=@Bool.false_and
theorem KD:type_of% @Option.getD_some:=@Option.getD_some
theorem Y_s:(∀n:Nat,((n:Int)).toNat=n)∧(∀n:Nat,0+n=n)∧(∀p:Prop,(True∧p)=p)∧(∀p:Prop,(p∧True)=p)∧∀n:Nat,(n≤n)=True:=⟨JW,JK,true_and,and_true,fun n=>eq_true (J4 n)⟩
def Z7 (b:Bool) (x y:Prop):Prop:=match b with|true=>x|false=>y
def Z6 (p:Prop) [Decidable p] (x:Prop):Prop:=Z7 (decide p) x False
theorem Zb {p x:Prop} [Decidable p] (h:Z6 p x):p/\x:=by
 unfold Z6 at h
 by_cases hp:p
 ·rw [decide_eq_true hp] at h;exact ⟨hp,h⟩
 ·rw [decide_eq_false hp] at h;exact h.elim
theorem Q4 {p x:Prop} [Decidable p] (hp:p) (h:x):Z6 p x:=by
 unfold Z6;rw [decide_eq_true hp];exact h
theorem ZeE {b:Bool} {x:Prop} (h:Z7 b x False):b=true/\x:=by
 cases b with
 | true=>exact ⟨rfl,h⟩
 | false=>exact h.elim
structure ZM where
 blk:Nat
 row:Nat
 sz:Nat
 off:Nat
 inn:Nat
def ZM.tot (p:ZM):Nat:=p.row*p.sz+p.off+p.inn
inductive AV where
 | top
 | bool (b:Bool)
 | int (k:IntKind) (n:Int)
 | str (s:ByteArray)
 | ptr (p:Option ZM)
 | pview (cs:List AV) (inn:Nat)
 | nslice (p:ZM) (esz len lo:Nat)
 | vints (k:IntKind) (xs:List Int) (len:Nat)
 | vrows (esz n:Nat) (f:Nat->List AV) (len:Nat)
 | eslice
 | fslice
 | nilslice
 | map (r:Option Nat)
 | func (fn:Fn) (first captured:List AV)
 | yield (x:Nat)
 | nilFunc
 | nilIface
 | iface (t:TypeId) (v:AV)
 | agg (cs:List AV)
 | arr (k:IntKind) (n:Nat) (xs:List Int)
 | tuple (vs:List AV)
variable {v:AV} {cs:List AV} {parts:List (Nat×AV)}
def AV.isCell:AV->Bool
 | .agg _|.tuple _|.arr _ _ _=>false
 | _=>true
def intCells (k:IntKind) (n:Nat) (xs:List Int):List Value:=(List.range n).map fun i=>Value.int k (xs.getD i 0)
structure Env where
 blk:Nat->Option (Nat×Nat)
 imm:Addr->Value->Prop
variable {E':Env}
structure Env.le (E E':Env):Prop where
 blk:∀x r,E.blk x=some r->E'.blk x=some r
 imm:∀a c,E.imm a c->E'.imm a c
def Env.views (E:Env):Env:=⟨fun _=>none,E.imm⟩
theorem Env.le.refl (E:Env):E.le E:=⟨fun _ _ h=>h,fun _ _ h=>h⟩
theorem Env.le.trans {A B C:Env} (h:A.le B) (k:B.le C):A.le C:=⟨fun x r e=>k.blk x r (h.blk x r e),fun a c e=>k.imm a c (h.imm a c e)⟩
theorem Env.views_le (E:Env):E.views.le E:=⟨fun _ _ h=>by simp [Env.views] at h,fun _ _ h=>h⟩
theorem Env.le.views {A B:Env} (h:A.le B):A.views.le B.views:=⟨fun _ _ h=>by simp [Env.views] at h,fun a c e=>h.imm a c e⟩
mutual
inductive Zh:Env->AV->Value->Prop
 | top {E:Env} (v:Value):Zh E .top v
 | bool {E:Env} (b:Bool):Zh E (.bool b) (.bool b)
 | int {E:Env} (k:IntKind) (n:Int):Zh E (.int k n) (.int k n)
 | str {E:Env} (s:ByteArray):Zh E (.str s) (.string s)
 | nilptr {E:Env}:Zh E (.ptr none) (.pointer none)
 | ptr {E:Env} (p:ZM) (b N:Nat) (h:E.blk p.blk=some (b,N)):Zh E (.ptr (some p)) (.pointer (some ⟨b,p.tot,none⟩))
 | pview {E:Env} (cs:List AV) (inn:Nat) (a:Addr) (vs:List Value) (hc:Zr E.views cs vs) (hi:∀j c,vs[j]? =some c->E.imm (a.add j) c):Zh E (.pview cs inn) (.pointer (some (a.add inn)))
 | nslice0 {E:Env} (p:ZM) (esz len lo:Nat) (a:Option Addr) (h1:len=0) (h2:lo=0):Zh E (.nslice p esz len lo) (.slice a 0 0)
 | nslice {E:Env} (p:ZM) (esz len lo b N cap:Nat) (h:E.blk p.blk=some (b,N)) (h1:len<=cap) (h2:lo<=cap) (h3:p.tot+cap*esz<=N):Zh E (.nslice p esz len lo) (.slice (some ⟨b,p.tot,none⟩) len cap)
 | vintsNil {E:Env} (k:IntKind) (xs:List Int) (len:Nat) (h1:xs=[]) (h2:len=0):Zh E (.vints k xs len) (.slice none 0 0)
 | vints {E:Env} (k:IntKind) (xs:List Int) (len:Nat) (a:Addr) (cap:Nat) (h1:len<=xs.length) (h2:xs.length<=cap) (hi:∀i,i<xs.length->E.imm (a.add i) (.int k (xs.getD i 0))):Zh E (.vints k xs len) (.slice (some a) len cap)
 | vrowsNil {E:Env} (esz n:Nat) (f:Nat->List AV) (len:Nat) (h1:n=0) (h2:len=0):Zh E (.vrows esz n f len) (.slice none 0 0)
 | vrows {E:Env} (esz n:Nat) (f:Nat->List AV) (len:Nat) (a:Addr) (cap:Nat) (g:Nat->List Value) (h1:len<=n) (h2:n<=cap) (hc:∀i,i<n->Zr E.views (f i) (g i)) (hl:∀i,i<n->(g i).length=esz)
   (hi:∀i j c,i<n->(g i)[j]? =some c->E.imm (a.add (i*esz+j)) c):Zh E (.vrows esz n f len) (.slice (some a) len cap)
 | eslice {E:Env} (a:Option Addr):Zh E .eslice (.slice a 0 0)
 | fslice {E:Env} (a:Addr) (cap:Nat):Zh E .fslice (.slice (some a) 0 cap)
 | nilslice {E:Env}:Zh E .nilslice (.slice none 0 0)
 | nilmap {E:Env}:Zh E (.map none) (.map none)
 | map {E:Env} (x b N:Nat) (h:E.blk x=some (b,N)):Zh E (.map (some x)) (.map (some b))
 | func {E:Env} (fn:Fn) (first captured:List AV) (fs cs:List Value) (h1:Zz E first fs) (h2:Zz E captured cs):Zh E (.func fn first captured) (.func fn fs.toArray cs.toArray)
 | yield {E:Env} (x b N:Nat) (h:E.blk x=some (b,N)):Zh E (.yield x) (.func (.yield b) #[] #[])
 | nilFunc {E:Env}:Zh E .nilFunc .nilFunc
 | nilIface {E:Env}:Zh E .nilIface .nilIface
 | iface {E:Env} (t:TypeId) (v:AV) (x:Value) (h:Zh E v x):Zh E (.iface t v) (.iface t x)
 | agg {E:Env} (cs:List AV) (vs:List Value) (h:Zr E cs vs):Zh E (.agg cs) (.agg vs.toArray)
 | tuple {E:Env} (vs:List AV) (rs:List Value) (h:Zz E vs rs):Zh E (.tuple vs) (.tuple rs.toArray)
inductive Zr:Env->List AV->List Value->Prop
 | nil {E:Env}:Zr E [] []
 | one {E:Env} (v:AV) (c:Value) (vs:List AV) (cs:List Value) (h0:v.isCell=true) (h1:c.oneCell'=true) (h:Zh E v c) (t:Zr E vs cs):Zr E (v::vs) (c::cs)
 | arr {E:Env} (k:IntKind) (n:Nat) (xs:List Int) (vs:List AV) (cs:List Value) (t:Zr E vs cs):Zr E (.arr k n xs::vs) (intCells k n xs++cs)
inductive Zz:Env->List AV->List Value->Prop
 | nil {E:Env}:Zz E [] []
 | cons {E:Env} (v:AV) (c:Value) (vs:List AV) (cs:List Value) (h:Zh E v c) (t:Zz E vs cs):Zz E (v::vs) (c::cs)
end
mutual
theorem Zh.mono {E E':Env} (le:E.le E') {v:AV} {r:Value} (h:Zh E v r):Zh E' v r:=match v,r,h with
 | _,_,.top v=>.top v
 | _,_,.bool b=>.bool b
 | _,_,.int k n=>.int k n
 | _,_,.str s=>.str s
 | _,_,.nilptr=>.nilptr
 | _,_,.ptr p b N h=>.ptr p b N (le.blk _ _ h)
 | _,_,.pview cs inn a vs hc hi=>.pview cs inn a vs (Zr.mono le.views hc) (fun j c h=>le.imm _ _ (hi j c h))
 | _,_,.nslice0 p esz len lo a h1 h2=>.nslice0 p esz len lo a h1 h2
 | _,_,.nslice p esz len lo b N cap h h1 h2 h3=>.nslice p esz len lo b N cap (le.blk _ _ h) h1 h2 h3
 | _,_,.vintsNil k xs len h1 h2=>.vintsNil k xs len h1 h2
 | _,_,.vints k xs len a cap h1 h2 hi=>.vints k xs len a cap h1 h2 (fun i h=>le.imm _ _ (hi i h))
 | _,_,.vrowsNil esz n f len h1 h2=>.vrowsNil esz n f len h1 h2
 | _,_,.vrows esz n f len a cap g h1 h2 hc hl hi=>.vrows esz n f len a cap g h1 h2 (fun i h=>Zr.mono le.views (hc i h)) hl (fun i j c h h'=>le.imm _ _ (hi i j c h h'))
 | _,_,.eslice a=>.eslice a
 | _,_,.fslice a cap=>.fslice a cap
 | _,_,.nilslice=>.nilslice
 | _,_,.nilmap=>.nilmap
 | _,_,.map x b N h=>.map x b N (le.blk _ _ h)
 | _,_,.func fn first captured fs cs h1 h2=>.func fn first captured fs cs (Zz.mono le h1) (Zz.mono le h2)
 | _,_,.yield x b N h=>.yield x b N (le.blk _ _ h)
 | _,_,.nilFunc=>.nilFunc
 | _,_,.nilIface=>.nilIface
 | _,_,.iface t v x h=>.iface t v x (Zh.mono le h)
 | _,_,.agg cs vs h=>.agg cs vs (Zr.mono le h)
 | _,_,.tuple vs rs h=>.tuple vs rs (Zz.mono le h)
theorem Zr.mono {E E':Env} (le:E.le E') {v:List AV} {r:List Value} (h:Zr E v r):Zr E' v r:=match v,r,h with
 | _,_,.nil=>.nil
 | _,_,.one v c vs cs h0 h1 h t=>.one v c vs cs h0 h1 (Zh.mono le h) (Zr.mono le t)
 | _,_,.arr k n xs vs cs t=>.arr k n xs vs cs (Zr.mono le t)
theorem Zz.mono {E E':Env} (le:E.le E') {v:List AV} {r:List Value} (h:Zz E v r):Zz E' v r:=match v,r,h with
 | _,_,.nil=>.nil
 | _,_,.cons v c vs cs h t=>.cons v c vs cs (Zh.mono le h) (Zz.mono le t)
end
abbrev ZW:=List (Nat×AV)
def ZL:ZW->Nat->Option AV
 | [],_=>none
 | (y,v)::r,x=>match Nat.beq y x with|true=>some v|false=>ZL r x
def Z1F:ZW->Nat->ZW
 | [],_=>[]
 | (y,v)::r,x=>match Nat.beq y x with|true=>Z1F r x|false=>(y,v)::Z1F r x
def Uo (t:ZW) (x:Nat) (v:AV):ZW:=(x,v)::Z1F t x
theorem W7 (t:ZW) (x:Nat):ZL (Z1F t x) x=none:=by
 induction t with
 | nil=>rfl
 | cons p r ih=>
  obtain ⟨y,v⟩:=p
  cases hb:Nat.beq y x with
  | true=>simp only [Z1F,hb];exact ih
  | false=>simp only [Z1F,hb,ZL];exact ih
theorem XG (t:ZW) (x y:Nat) (h:x≠y):ZL (Z1F t x) y=ZL t y:=by
 induction t with
 | nil=>rfl
 | cons p r ih=>
  obtain ⟨z,v⟩:=p
  cases hb:Nat.beq z x with
  | true=>
   have:z=x:=J0 hb
   subst this
   have hn:Nat.beq z y=false:=by
    cases hc:Nat.beq z y with
    | false=>rfl
    | true=>exact absurd (J0 hc) h
   simp only [Z1F,hb,ZL,hn];exact ih
  | false=>
   simp only [Z1F,hb,ZL]
   cases Nat.beq z y with
   | true=>rfl
   | false=>exact ih
theorem Xu (t:ZW) (x:Nat) (v:AV):ZL (Uo t x v) x=some v:=by
 simp [Uo,ZL,Jj]
theorem Xf (t:ZW) (x y:Nat) (v:AV) (h:x≠y):ZL (Uo t x v) y=ZL t y:=by
 have hn:Nat.beq x y=false:=by
  cases hc:Nat.beq x y with
  | false=>rfl
  | true=>exact absurd (J0 hc) h
 simp only [Uo,ZL,hn]
 exact XG t x y h
structure Zbu where
 state:LoopState
 pending:Option Code
 fn:FuncId
 n:Nat
 tmps:ZW
 params:List Nat
 assign:Code
 body:Code
 defers:Nat
inductive Blk where
 | flat (cs:List AV)
 | ints (k:IntKind) (xs:List Int)
 | rows (sz n:Nat) (f:Nat->List AV)
 | map (es:List (AV×AV))
 | fmap (n:Nat) (kf vf:Nat->AV)
 | pmap (es:List (AV×AV))
 | loop (l:Zbu)
 | defd
variable {B:Blk}
structure Z8 where
 next:Nat
 bs:List (Nat×Blk)
variable {h':Z8}
def ZO:List (Nat×Blk)->Nat->Option Blk
 | [],_=>none
 | (y,v)::r,x=>match Nat.beq y x with|true=>some v|false=>ZO r x
def Yl:List (Nat×Blk)->Nat->List (Nat×Blk)
 | [],_=>[]
 | (y,v)::r,x=>match Nat.beq y x with|true=>Yl r x|false=>(y,v)::Yl r x
def Z3M:List (Nat×Blk)->Nat->Blk->List (Nat×Blk)
 | [],x,b=>[(x,b)]
 | (y,v)::r,x,b=>match Nat.beq y x with|true=>(x,b)::Yl r x|false=>(y,v)::Z3M r x b
def Z8.get (h:Z8) (x:Nat):Option Blk:=ZO h.bs x
def Z8.set (h:Z8) (x:Nat) (b:Blk):Z8:=⟨h.next,Z3M h.bs x b⟩
def Z8.del (h:Z8) (x:Nat):Z8:=⟨h.next,Yl h.bs x⟩
def Z8.add (h:Z8) (b:Blk):Z8:=⟨h.next+1,(h.next,b)::h.bs⟩
theorem Zx {x y:Nat} (h:x≠y):Nat.beq x y=false:=by
 cases hc:Nat.beq x y with
 | false=>rfl
 | true=>exact absurd (J0 hc) h
theorem Qu (t:List (Nat×Blk)) (x:Nat):ZO (Yl t x) x=none:=by
 induction t with
 | nil=>rfl
 | cons p r ih=>
  obtain ⟨y,v⟩:=p
  cases hb:Nat.beq y x with
  | true=>simp only [Yl,hb];exact ih
  | false=>simp only [Yl,hb,ZO];exact ih
theorem WL (t:List (Nat×Blk)) (x y:Nat) (h:x≠y):ZO (Yl t x) y=ZO t y:=by
 induction t with
 | nil=>rfl
 | cons p r ih=>
  obtain ⟨z,v⟩:=p
  cases hb:Nat.beq z x with
  | true=>
   have:z=x:=J0 hb
   subst this
   simp only [Yl,hb,ZO,Zx h];exact ih
  | false=>
   simp only [Yl,hb,ZO]
   cases Nat.beq z y with
   | true=>rfl
   | false=>exact ih
theorem Z3N (t:List (Nat×Blk)) (x:Nat) (b:Blk):ZO (Z3M t x b) x=some b:=by
 induction t with
 | nil=>simp [Z3M,ZO,Jj]
 | cons p r ih=>
  obtain ⟨y,v⟩:=p
  cases hb:Nat.beq y x with
  | true=>simp [Z3M,hb,ZO,Jj]
  | false=>simp only [Z3M,hb,ZO];exact ih
theorem Z2f (t:List (Nat×Blk)) (x y:Nat) (b:Blk) (h:x≠y):ZO (Z3M t x b) y=ZO t y:=by
 induction t with
 | nil=>simp [Z3M,ZO,Zx h]
 | cons p r ih=>
  obtain ⟨z,v⟩:=p
  cases hb:Nat.beq z x with
  | true=>
   have:z=x:=J0 hb
   subst this
   simp only [Z3M,hb,ZO,Zx h]
   exact WL r z y h
  | false=>
   simp only [Z3M,hb,ZO]
   cases Nat.beq z y with
   | true=>rfl
   | false=>exact ih
theorem Z8.get_set_same (h:Z8) (x:Nat) (b:Blk):(h.set x b).get x=some b:=Z3N _ _ _
theorem Z8.get_set_other (h:Z8) (x y:Nat) (b:Blk) (n:x≠y):(h.set x b).get y=h.get y:=Z2f _ _ _ _ n
theorem Z8.get_del_same (h:Z8) (x:Nat):(h.del x).get x=none:=Qu _ _
theorem Z8.get_del_other (h:Z8) (x y:Nat) (n:x≠y):(h.del x).get y=h.get y:=WL _ _ _ n
theorem Z8.get_add_same (h:Z8) (b:Blk):(h.add b).get h.next=some b:=by simp [Z8.get,Z8.add,ZO,Jj]
theorem Z8.get_add_other (h:Z8) (y:Nat) (b:Blk) (n:h.next≠y):(h.add b).get y=h.get y:=by simp [Z8.get,Z8.add,ZO,Zx n]
def csz:List AV->Nat
 | []=>0
 | .arr _ n _::r=>n+csz r
 | _::r=>1+csz r
theorem Z9 (k:IntKind) (n:Nat) (xs:List Int):(intCells k n xs).length=n:=by simp [intCells]
theorem Zr.length {E:Env}:∀{cs:List AV} {vs:List Value},Zr E cs vs->vs.length=csz cs
 | _,_,.nil=>rfl
 | _,_,.one v c vs cs h0 _ _ t=>by
  have:=Zr.length t
  cases v<;>simp_all [csz,AV.isCell]<;>omega
 | _,_,.arr k n xs vs cs t=>by
  have:=Zr.length t
  simp [csz,Z9,this]
structure Vs (E:Env) (n:Nat) (t:ZW) (tm:Array Value):Prop where
 size:tm.size=n
 get:∀x v,ZL t x=some v->Zh E v (tm.getD x undef)
theorem Vs.mono {E:Env} (le:E.le E') {n:Nat} {t:ZW} {tm:Array Value} (h:Vs E n t tm):Vs E' n t tm:=
 ⟨h.size,fun x v e=>(h.get x v e).mono le⟩
def free (cells:Array Value) (fr:Nat×Nat):Prop:=∀o,o<cells.size->¬(fr.1<=o/\o<fr.2)
inductive Yw (E:Env) (w:World) (x:Nat):Blk->Prop
 | flat0 (cs:List AV) (h0:csz cs=0) (hn:E.blk x=none):Yw E w x (.flat cs)
 | flat (cs:List AV) (b:Nat) (cells:Array Value) (elem:TypeId) (fr:Nat×Nat) (vs:List Value) (hb:E.blk x=some (b,cells.size)) (hw:w.heap[b]? =some (.cells cells elem fr)) (hf:free cells fr)
   (hc:Zr E cs vs) (hv:∀(j:Nat) (c:Value),vs[j]? =some c->cells[j]? =some c):Yw E w x (.flat cs)
 | ints0 (k:IntKind) (xs:List Int) (h0:xs=[]) (hn:E.blk x=none):Yw E w x (.ints k xs)
 | ints (k:IntKind) (xs:List Int) (b:Nat) (cells:Array Value) (elem:TypeId) (fr:Nat×Nat) (hb:E.blk x=some (b,cells.size)) (hw:w.heap[b]? =some (.cells cells elem fr)) (hf:free cells fr)
   (hv:∀(j:Nat),j<xs.length->cells[j]? =some (.int k (xs.getD j 0))):Yw E w x (.ints k xs)
 | rows0 (sz n:Nat) (f:Nat->List AV) (h0:n=0) (hn:E.blk x=none):Yw E w x (.rows sz n f)
 | rows (sz n:Nat) (f:Nat->List AV) (b:Nat) (cells:Array Value) (elem:TypeId) (fr:Nat×Nat) (g:Nat->List Value) (hb:E.blk x=some (b,cells.size)) (hw:w.heap[b]? =some (.cells cells elem fr)) (hf:free cells fr)
   (hc:∀i,i<n->Zr E (f i) (g i)) (hl:∀i,i<n->(g i).length=sz) (hv:∀(i j:Nat) (c:Value),i<n->(g i)[j]? =some c->cells[i*sz+j]? =some c):Yw E w x (.rows sz n f)
 | map (es:List (AV×AV)) (b:Nat) (ents:List MapEntry) (clock:Nat) (hb:E.blk x=some (b,0)) (hw:w.heap[b]? =some (.map ents.toArray clock))
   (hk:Zz E (es.map (·.1)) (ents.map (·.key))) (hv:Zz E (es.map (·.2)) (ents.map (·.val))):Yw E w x (.map es)
 | fmap (n:Nat) (kf vf:Nat->AV) (b:Nat) (ents:List MapEntry) (clock:Nat) (hb:E.blk x=some (b,0)) (hw:w.heap[b]? =some (.map ents.toArray clock)) (hl:ents.length=n)
   (hk:∀(i:Nat) (e:MapEntry),ents[i]? =some e->Zh E (kf i) e.key) (hv:∀(i:Nat) (e:MapEntry),ents[i]? =some e->Zh E (vf i) e.val):Yw E w x (.fmap n kf vf)
 | pmap (es:List (AV×AV)) (b:Nat) (k:IntKind) (ents ents':List MapEntry) (clock:Nat) (hb:E.blk x=some (b,0)) (hw:w.heap[b]? =some (.map ents.toArray clock)) (hp:ents'.Perm ents)
   (hn:(ents'.map (·.key)).Nodup) (hi:∀e∈ents',∃c,e.key=.int k c) (hk:Zz E (es.map (·.1)) (ents'.map (·.key))) (hv:Zz E (es.map (·.2)) (ents'.map (·.val))):Yw E w x (.pmap es)
 | loop (l:Zbu) (b d N:Nat) (fnr:FuncId) (tm:Array Value) (hb:E.blk x=some (b,0)) (hd:E.blk l.defers=some (d,N)) (hw:w.heap[b]? =some (.loop ⟨l.state,l.pending,fnr,tm,l.params.toArray,l.assign,l.body,d⟩))
   (ht:Vs E l.n l.tmps tm):Yw E w x (.loop l)
 | defd (b:Nat) (hb:E.blk x=some (b,0)) (hw:w.heap[b]? =some (.deferred (some []))):Yw E w x .defd
theorem Yw.congr {E:Env} {w:World} {x:Nat} (h:Yw E w x B) (hw:∀b N,E.blk x=some (b,N)->w'.heap[b]? =w.heap[b]?):Yw E w' x B:=by
 cases h with
 | flat0 cs h0 hn=>exact .flat0 cs h0 hn
 | flat cs b cells elem fr vs hb h1 hf hc hv=>exact .flat cs b cells elem fr vs hb ((hw _ _ hb).trans h1) hf hc hv
 | ints0 k xs h0 hn=>exact .ints0 k xs h0 hn
 | ints k xs b cells elem fr hb h1 hf hv=>exact .ints k xs b cells elem fr hb ((hw _ _ hb).trans h1) hf hv
 | rows0 sz n f h0 hn=>exact .rows0 sz n f h0 hn
 | rows sz n f b cells elem fr g hb h1 hf hc hl hv=>exact .rows sz n f b cells elem fr g hb ((hw _ _ hb).trans h1) hf hc hl hv
 | map es b ents clock hb h1 hk hv=>exact .map es b ents clock hb ((hw _ _ hb).trans h1) hk hv
 | fmap n kf vf b ents clock hb h1 hl hk hv=>exact .fmap n kf vf b ents clock hb ((hw _ _ hb).trans h1) hl hk hv
 | pmap es b k ents ents' clock hb h1 hp hn hi hk hv=>exact .pmap es b k ents ents' clock hb ((hw _ _ hb).trans h1) hp hn hi hk hv
 | loop l b d N fnr tm hb hd h1 ht=>exact .loop l b d N fnr tm hb hd ((hw _ _ hb).trans h1) ht
 | defd b hb h1=>exact .defd b hb ((hw _ _ hb).trans h1)
theorem Yw.mono {E:Env} {w:World} {x:Nat} (h:Yw E w x B) (le:E.le E') (he:E.blk x=none->E'.blk x=none):Yw E' w x B:=by
 cases h with
 | flat0 cs h0 hn=>exact .flat0 cs h0 (he hn)
 | flat cs b cells elem fr vs hb h1 hf hc hv=>exact .flat cs b cells elem fr vs (le.blk _ _ hb) h1 hf (hc.mono le) hv
 | ints0 k xs h0 hn=>exact .ints0 k xs h0 (he hn)
 | ints k xs b cells elem fr hb h1 hf hv=>exact .ints k xs b cells elem fr (le.blk _ _ hb) h1 hf hv
 | rows0 sz n f h0 hn=>exact .rows0 sz n f h0 (he hn)
 | rows sz n f b cells elem fr g hb h1 hf hc hl hv=>exact .rows sz n f b cells elem fr g (le.blk _ _ hb) h1 hf (fun i hi=>(hc i hi).mono le) hl hv
 | map es b ents clock hb h1 hk hv=>exact .map es b ents clock (le.blk _ _ hb) h1 (hk.mono le) (hv.mono le)
 | fmap n kf vf b ents clock hb h1 hl hk hv=>exact .fmap n kf vf b ents clock (le.blk _ _ hb) h1 hl (fun i e h=>(hk i e h).mono le) (fun i e h=>(hv i e h).mono le)
 | pmap es b k ents ents' clock hb h1 hp hn hi hk hv=>exact .pmap es b k ents ents' clock (le.blk _ _ hb) h1 hp hn hi (hk.mono le) (hv.mono le)
 | loop l b d N fnr tm hb hd h1 ht=>exact .loop l b d N fnr tm (le.blk _ _ hb) (le.blk _ _ hd) h1 (ht.mono le)
 | defd b hb h1=>exact .defd b (le.blk _ _ hb) h1
theorem Yw.lt {E:Env} {w:World} {x:Nat} (h:Yw E w x B) {b N:Nat} (e:E.blk x=some (b,N)):b<w.heap.size:=by
 have key:∀(b':Nat) (o:Obj),w.heap[b']? =some o->b'<w.heap.size:=fun b' o ho=>by
  rcases J9 b' w.heap.size with hl|hg
  ·exact hl
  ·simp [Jo hg] at ho
 cases h with
 | flat0 cs h0 hn=>rw [hn] at e;cases e
 | flat cs b cells elem fr vs hb h1 hf hc hv=>rw [hb] at e;cases e;exact key _ _ h1
 | ints0 k xs h0 hn=>rw [hn] at e;cases e
 | ints k xs b cells elem fr hb h1 hf hv=>rw [hb] at e;cases e;exact key _ _ h1
 | rows0 sz n f h0 hn=>rw [hn] at e;cases e
 | rows sz n f b cells elem fr g hb h1 hf hc hl hv=>rw [hb] at e;cases e;exact key _ _ h1
 | map es b ents clock hb h1 hk hv=>rw [hb] at e;cases e;exact key _ _ h1
 | fmap n kf vf b ents clock hb h1 hl hk hv=>rw [hb] at e;cases e;exact key _ _ h1
 | pmap es b k ents ents' clock hb h1 hp hn hi hk hv=>rw [hb] at e;cases e;exact key _ _ h1
 | loop l b d N fnr tm hb hd h1 ht=>rw [hb] at e;cases e;exact key _ _ h1
 | defd b hb h1=>rw [hb] at e;cases e;exact key _ _ h1
structure Emb (E:Env) (h:Z8) (w:World):Prop where
 fresh:∀x,h.next<=x->E.blk x=none
 lt:∀x B,h.get x=some B->x<h.next
 own:∀x B,h.get x=some B->Yw E w x B
 disj:∀x y B B' b N N',h.get x=some B->h.get y=some B'->E.blk x=some (b,N)->E.blk y=some (b,N')->x=y
 imm:∀a c,E.imm a c->w.cell? a=some c
 sep:∀a c x B N,E.imm a c->h.get x=some B->E.blk x=some (a.block,N)->False
def Xg (E:Env) (h:Z8) (b:Nat):Prop:=∃x B N,h.get x=some B/\E.blk x=some (b,N)
structure Evo (E:Env) (h:Z8) (w:World) (E':Env) (h':Z8) (w':World):Prop where
 le:E.le E'
 emb:Emb E' h' w'
 size:w.heap.size<=w'.heap.size
 os:w'.os=w.os
 tape:w'.tape=w.tape
 output:w'.output=w.output/\w.drawn<=w'.drawn
 keep:∀b,b<w.heap.size->¬Xg E h b->w'.heap[b]? =w.heap[b]?
 own:∀b,Xg E' h' b->Xg E h b\/w.heap.size<=b
 imm:∀a c,E'.imm a c->E.imm a c
theorem Evo.refl {E:Env} {h:Z8} {w:World} (e:Emb E h w):Evo E h w E h w:=
 ⟨.refl E,e,J4 _,rfl,rfl,⟨rfl,J4 _⟩,fun _ _ _=>rfl,fun _ h=>.inl h,fun _ _ h=>h⟩
theorem Evo.trans {E E'':Env} {h h'':Z8} {w w'':World} (a:Evo E h w E' h' w') (b:Evo E' h' w' E'' h'' w''):Evo E h w E'' h'' w'' where
 le:=a.le.trans b.le
 emb:=b.emb
 size:=Kp a.size b.size
 os:=b.os.trans a.os
 tape:=b.tape.trans a.tape
 output:=⟨b.output.1.trans a.output.1,Kp a.output.2 b.output.2⟩
 keep:=fun i hi hn=>by
  have h1:=a.keep i hi hn
  have h2:=b.keep i (Nat.lt_of_lt_of_le hi a.size) (fun ho=>by
   rcases a.own i ho with h|h
   ·exact hn h
   ·omega)
  exact h2.trans h1
 own:=fun i ho=>by
  rcases b.own i ho with h|h
  ·exact a.own i h
  ·exact .inr (Kp a.size h)
 imm:=fun i c h=>a.imm i c (b.imm i c h)
theorem Emb.drew {E:Env} {h:Z8} {w:World} (e:Emb E h w) (hh:w'.heap=w.heap):Emb E h w' where
 fresh:=e.fresh
 lt:=e.lt
 own:=fun x B hx=>(e.own x B hx).congr fun _ _ _=>by rw [hh]
 disj:=e.disj
 imm:=fun a c hi=>by have:=e.imm a c hi;simpa [World.cell?,hh] using this
 sep:=e.sep
theorem Z2g {E:Env} {h:Z8} {w:World} (e:Emb E h w) (hh:w'.heap=w.heap) (h1:w'.os=w.os) (h2:w'.tape=w.tape) (h3:w'.output=w.output/\w.drawn<=w'.drawn):Evo E h w E h w':=
 ⟨.refl E,e.drew hh,by rw [hh];exact J4 _,h1,h2,h3,fun _ _ _=>by rw [hh],fun _ h=>.inl h,fun _ _ h=>h⟩
def Env.ext (E:Env) (x b N:Nat):Env:={ E with blk:=fun y=>if y=x then some (b,N) else E.blk y}
theorem Env.ext_le {E:Env} {x b N:Nat} (h:E.blk x=none):E.le (E.ext x b N):=
 ⟨fun y r e=>by
  show (if y=x then some (b,N) else E.blk y)=some r
  rw [if_neg (fun hy=>by rw [hy,h] at e;cases e)];exact e,fun _ _ h=>h⟩
theorem Env.ext_same (E:Env) (x b N:Nat):(E.ext x b N).blk x=some (b,N):=if_pos rfl
theorem Env.ext_other (E:Env) {x y:Nat} (b N:Nat) (h:y≠x):(E.ext x b N).blk y=E.blk y:=if_neg h
theorem World.push_old {w:World} {o:Obj} {b:Nat} (h:b<w.heap.size):(w.heap.push o)[b]? =w.heap[b]?:=by
 rw [Array.getElem?_push];rw [if_neg (by omega)]
theorem WH {E:Env} {h:Z8} {w:World} (e:Emb E h w) (o:Obj) (N:Nat) (B:Blk)
  (hB:Yw (E.ext h.next w.heap.size N) { w with heap:=w.heap.push o} h.next B):
  Evo E h w (E.ext h.next w.heap.size N) (h.add B) { w with heap:=w.heap.push o}:=by
 have hfr:E.blk h.next=none:=e.fresh _ (J4 _)
 have hle:E.le (E.ext h.next w.heap.size N):=Env.ext_le hfr
 have hget:∀y B',(h.add B).get y=some B'->(y=h.next/\B'=B)\/(y≠h.next/\h.get y=some B'):=fun y B' hy=>by
  by_cases hn:h.next=y
  ·subst hn;rw [Z8.get_add_same] at hy;cases hy;exact .inl ⟨rfl,rfl⟩
  ·rw [Z8.get_add_other _ _ _ hn] at hy;exact .inr ⟨fun h=>hn h.symm,hy⟩
 refine ⟨hle,⟨?_, ?_, ?_, ?_, ?_, ?_⟩, ?_,rfl,rfl,⟨rfl,J4 _⟩, ?_, ?_,fun _ _ h=>h⟩
 ·intro x hx
  have hx':h.next+1<=x:=hx
  rw [Env.ext_other _ _ _ (by omega)]
  exact e.fresh x (by omega)
 ·intro x B' hx
  show x<h.next+1
  rcases hget x B' hx with ⟨rfl,_⟩|⟨_,h'⟩
  ·omega
  ·have:=e.lt x B' h';omega
 ·intro x B' hx
  rcases hget x B' hx with ⟨rfl,rfl⟩|⟨hne,h'⟩
  ·exact hB
  ·have h1:=(e.own x B' h').mono hle (fun hn=>by rw [Env.ext_other _ _ _ hne];exact hn)
   refine h1.congr fun b M hb=> ?_
   rw [Env.ext_other _ _ _ hne] at hb
   exact World.push_old ((e.own x B' h').lt hb)
 ·intro x y B1 B2 b M M' hx hy hbx hby
  rcases hget x B1 hx with ⟨rfl,_⟩|⟨hnx,hx'⟩<;>rcases hget y B2 hy with ⟨rfl,_⟩|⟨hny,hy'⟩
  ·rfl
  ·rw [Env.ext_same] at hbx;cases hbx
   rw [Env.ext_other _ _ _ hny] at hby
   have:=(e.own y B2 hy').lt hby;omega
  ·rw [Env.ext_same] at hby;cases hby
   rw [Env.ext_other _ _ _ hnx] at hbx
   have:=(e.own x B1 hx').lt hbx;omega
  ·rw [Env.ext_other _ _ _ hnx] at hbx;rw [Env.ext_other _ _ _ hny] at hby
   exact e.disj x y B1 B2 b M M' hx' hy' hbx hby
 ·intro a c hi
  have h1:=e.imm a c hi
  have hlt:a.block<w.heap.size:=by
   rcases J9 a.block w.heap.size with hl|hg
   ·exact hl
   ·simp [World.cell?,Jo hg] at h1
  simpa [World.cell?,World.push_old hlt] using h1
 ·intro a c x B' M hi hx hb
  rcases hget x B' hx with ⟨rfl,_⟩|⟨hne,hx'⟩
  ·rw [Env.ext_same] at hb
   have h1:=e.imm a c hi
   have hbl:w.heap.size=a.block:=by injection hb with hb;injection hb
   simp [World.cell?,<-hbl] at h1
  ·rw [Env.ext_other _ _ _ hne] at hb
   exact e.sep a c x B' M hi hx' hb
 ·simp
 ·intro b hb _;exact World.push_old hb
 ·rintro b ⟨x,B',M,hx,hb⟩
  rcases hget x B' hx with ⟨rfl,_⟩|⟨hne,hx'⟩
  ·rw [Env.ext_same] at hb;cases hb;exact .inr (J4 _)
  ·rw [Env.ext_other _ _ _ hne] at hb;exact .inl ⟨x,B',M,hx',hb⟩
theorem XH {E:Env} {h:Z8} {w:World} (e:Emb E h w) (x:Nat) (B B':Blk) (b N:Nat) (hx:h.get x=some B) (hb:E.blk x=some (b,N))
  (hh:∀i,i≠b->w'.heap[i]? =w.heap[i]?) (hs:w'.heap.size=w.heap.size) (h1:w'.os=w.os) (h2:w'.tape=w.tape) (h3:w'.output=w.output/\w.drawn<=w'.drawn)
  (hB:Yw E w' x B'):Evo E h w E (h.set x B') w':=by
 have hget:∀y C,(h.set x B').get y=some C->(y=x/\C=B')\/(y≠x/\h.get y=some C):=fun y C hy=>by
  by_cases hn:x=y
  ·subst hn;rw [Z8.get_set_same] at hy;cases hy;exact .inl ⟨rfl,rfl⟩
  ·rw [Z8.get_set_other _ _ _ _ hn] at hy;exact .inr ⟨fun h=>hn h.symm,hy⟩
 have hget':∀y C,(h.set x B').get y=some C->∃C',h.get y=some C':=fun y C hy=>by
  rcases hget y C hy with ⟨rfl,_⟩|⟨_,h'⟩
  ·exact ⟨B,hx⟩
  ·exact ⟨C,h'⟩
 refine ⟨.refl E,⟨e.fresh, ?_, ?_, ?_, ?_, ?_⟩,by rw [hs];exact J4 _,h1,h2,h3, ?_, ?_,fun _ _ h=>h⟩
 ·intro y C hy
  obtain ⟨C',h'⟩:=hget' y C hy
  exact e.lt y C' h'
 ·intro y C hy
  rcases hget y C hy with ⟨rfl,rfl⟩|⟨hne,h'⟩
  ·exact hB
  ·refine (e.own y C h').congr fun b' M hb'=>hh b' ?_
   rintro rfl
   exact hne (e.disj y x C B b' M N h' hx hb' hb)
 ·intro y z C D b' M M' hy hz hby hbz
  obtain ⟨C',hy'⟩:=hget' y C hy
  obtain ⟨D',hz'⟩:=hget' z D hz
  exact e.disj y z C' D' b' M M' hy' hz' hby hbz
 ·intro a c hi
  have h0:=e.imm a c hi
  have hne:a.block≠b:=by
   rintro rfl
   exact e.sep a c x B N hi hx hb
  simpa [World.cell?,hh _ hne] using h0
 ·intro a c y C M hi hy hb'
  obtain ⟨C',hy'⟩:=hget' y C hy
  exact e.sep a c y C' M hi hy' hb'
 ·intro i _ hn
  refine hh i ?_
  rintro rfl
  exact hn ⟨x,B,N,hx,hb⟩
 ·rintro i ⟨y,C,M,hy,hb'⟩
  obtain ⟨C',hy'⟩:=hget' y C hy
  exact .inl ⟨y,C',M,hy',hb'⟩
theorem Z2h {E:Env} {h:Z8} {w:World} (e:Emb E h w) (hn:h'.next=h.next) (hg:∀x B,h'.get x=some B->h.get x=some B):Evo E h w E h' w:=
 ⟨.refl E,⟨fun x hx=>e.fresh x (hn▸hx),fun x B hx=>hn▸e.lt x B (hg x B hx),fun x B hx=>e.own x B (hg x B hx),
  fun x y B B' b N N' hx hy=>e.disj x y B B' b N N' (hg x B hx) (hg y B' hy),e.imm,fun a c x B N hi hx=>e.sep a c x B N hi (hg x B hx)⟩,
  J4 _,rfl,rfl,⟨rfl,J4 _⟩,fun _ _ _=>rfl,fun _ ⟨x,B,N,hx,hb⟩=>.inl ⟨x,B,N,hg x B hx,hb⟩,fun _ _ h=>h⟩
theorem Z1R {E:Env} {h:Z8} {w:World} (e:Emb E h w) (x:Nat):Evo E h w E (h.del x) w:=
 Z2h e rfl fun y B hy=>by
  by_cases hn:x=y
  ·subst hn;rw [Z8.get_del_same] at hy;cases hy
  ·rw [Z8.get_del_other _ _ _ hn] at hy;exact hy
def YF:Nat->List AV->Option (List AV)
 | 0,cs=>some cs
 | _+1,[]=>none
 | n+1,.arr _ m _::r=>match Nat.ble m (n+1) with|true=>YF (n+1-m) r|false=>none
 | n+1,_::r=>YF n r
termination_by structural _ cs=>cs
def takeC:Nat->List AV->Option (List AV)
 | 0,_=>some []
 | _+1,[]=>none
 | n+1,.arr k m xs::r=>match Nat.ble m (n+1) with
  | true=>match takeC (n+1-m) r with
   | some cs=>some (.arr k m xs::cs)
   | none=>none
  | false=>none
 | n+1,v::r=>match takeC n r with
  | some cs=>some (v::cs)
  | none=>none
termination_by structural _ cs=>cs
theorem Zr.cons_cell {E:Env} {r:List AV} (h:Zr E (v::r) vs) (hv:∀k m xs,v≠.arr k m xs):
  ∃c ws,vs=c::ws/\v.isCell=true/\c.oneCell'=true/\Zh E v c/\Zr E r ws:=by
 cases h with
 | one v c vs cs h0 h1 h t=>exact ⟨c,cs,rfl,h0,h1,h,t⟩
 | arr k n xs vs cs t=>exact absurd rfl (hv k n xs)
theorem Zr.cons_arr {E:Env} {k:IntKind} {m:Nat} {r:List AV} (h:Zr E (.arr k m xs::r) vs):
  ∃ws,vs=intCells k m xs++ws/\Zr E r ws:=by
 cases h with
 | one v c vs cs h0 h1 h t=>simp [AV.isCell] at h0
 | arr k n xs vs cs t=>exact ⟨cs,rfl,t⟩
theorem Vt {m n:Nat} (h:Nat.ble m n=true):m<=n:=Jk h
theorem Y2 {E:Env}:∀(cs:List AV) (n:Nat) (rest:List AV) (vs:List Value),YF n cs=some rest->Zr E cs vs->Zr E rest (vs.drop n)/\n<=vs.length:=by
 intro cs
 induction cs with
 | nil=>
  intro n rest vs h hc
  cases n with
  | zero=>simp [YF] at h;subst h;exact ⟨by simpa using hc,JC _⟩
  | succ n=>simp [YF] at h
 | cons v r ih=>
  intro n rest vs h hc
  cases n with
  | zero=>simp [YF] at h;subst h;exact ⟨by simpa using hc,JC _⟩
  | succ n=>
   by_cases hv:∃k m xs,v=.arr k m xs
   ·obtain ⟨k,m,xs,rfl⟩:=hv
    obtain ⟨ws,rfl,hr⟩:=hc.cons_arr
    simp only [YF] at h
    split at h
    ·rename_i hb
     have hm:=Vt hb
     obtain ⟨h1,h2⟩:=ih _ _ _ h hr
     refine ⟨?_,by simp [Z9];omega⟩
     rw [List.drop_append,List.drop_of_length_le (by simp [Z9];omega),JZ,Z9]
     exact h1
    ·cases h
   ·have hv':∀k m xs,v≠.arr k m xs:=fun k m xs e=>hv ⟨k,m,xs,e⟩
    obtain ⟨c,ws,rfl,_,_,_,hr⟩:=hc.cons_cell hv'
    have h':YF n r=some rest:=by
     cases v<;>first|exact h|exact absurd rfl (hv' _ _ _)
    obtain ⟨h1,h2⟩:=ih _ _ _ h' hr
    exact ⟨by simpa using h1,by simp;omega⟩
theorem VD {E:Env}:∀(cs:List AV) (n:Nat) (rest:List AV) (vs:List Value),takeC n cs=some rest->Zr E cs vs->Zr E rest (vs.take n)/\n<=vs.length:=by
 intro cs
 induction cs with
 | nil=>
  intro n rest vs h hc
  cases n with
  | zero=>simp [takeC] at h;subst h;exact ⟨by simpa using Zr.nil,JC _⟩
  | succ n=>simp [takeC] at h
 | cons v r ih=>
  intro n rest vs h hc
  cases n with
  | zero=>simp [takeC] at h;subst h;exact ⟨by simpa using Zr.nil,JC _⟩
  | succ n=>
   by_cases hv:∃k m xs,v=.arr k m xs
   ·obtain ⟨k,m,xs,rfl⟩:=hv
    obtain ⟨ws,rfl,hr⟩:=hc.cons_arr
    simp only [takeC] at h
    split at h
    ·rename_i hb
     have hm:=Vt hb
     split at h
     ·rename_i cs' hcs
      injection h with h
      subst h
      obtain ⟨h1,h2⟩:=ih _ _ _ hcs hr
      refine ⟨?_,by simp [Z9];omega⟩
      rw [List.take_append,JD (by simp [Z9];omega),Z9]
      exact .arr k m xs _ _ h1
     ·cases h
    ·cases h
   ·have hv':∀k m xs,v≠.arr k m xs:=fun k m xs e=>hv ⟨k,m,xs,e⟩
    obtain ⟨c,ws,rfl,h0,h1c,hvr,hr⟩:=hc.cons_cell hv'
    have h':∃cs',takeC n r=some cs'/\rest=v::cs':=by
     cases v<;>first
      | exact absurd rfl (hv' _ _ _)
      | (simp only [takeC] at h;split at h<;>first|(rename_i cs' hcs;injection h with h;exact ⟨cs',hcs,h.symm⟩)|cases h)
    obtain ⟨cs',hcs,rfl⟩:=h'
    obtain ⟨h1,h2⟩:=ih _ _ _ hcs hr
    exact ⟨by simpa using Zr.one v c _ _ h0 h1c hvr h1,by simp;omega⟩
def Up (P:Program) (t:TypeId):Option Bool:=
 match P.underlying t with
 | some (.struct _)=>some true
 | some (.array _ _)=>some true
 | some _=>some false
 | none=>none
def Ya (P:Program) (t:TypeId):Option Nat:=match P.info? t with|some i=>some i.size|none=>none
theorem VE {P:Program} {t:TypeId} {b:Bool} (h:Up P t=some b) (w:World):(isAgg t).run P w=.ok b w:=by
 unfold Up at h
 unfold isAgg underlying
 simp only [J8,run_program,J5]
 cases hu:P.underlying t with
 | none=>simp [hu] at h
 | some d=>
  simp only [hu] at h
  cases d<;>simp_all
theorem run_sizeOf {P:Program} {t:TypeId} {n:Nat} (h:Ya P t=some n) (w:World):(sizeOf t).run P w=.ok n w:=by
 unfold Ya at h
 unfold sizeOf typeInfo
 simp only [J8,run_program,J5]
 cases hu:P.info? t with
 | none=>simp [hu] at h
 | some d=>simp [hu] at h;simp [h]
theorem Wm {P:Program} {t:TypeId} (w:World) (a:Addr) (cs:List Value) (h:Up P t=some true) (hs:Ya P t=some cs.length)
  (hc:∀(j:Nat) v,cs[j]? =some v->w.cell? (a.add j)=some v):(loadVar t a).run P w=.ok (.agg cs.toArray) w:=by
 unfold loadVar
 simp only [J8,VE h,J5,if_true,run_sizeOf hs,run_loadCells_list w a cs hc,Jl]
theorem Wn {P:Program} {t:TypeId} (w:World) (a:Addr) (c:Value) (h:Up P t=some false) (hc:w.cell? a=some c):(loadVar t a).run P w=.ok c w:=by
 unfold loadVar
 simp [J8,VE h,hc]
def Z4Y (s:Nat) (cs:List AV) (inn:Nat) (K:AV->Prop):Prop:=
 match inn with
 | 0=>match takeC s cs with
  | some front=>K (.agg front)
  | none=>False
 | _+1=>False
def Z63 (P:Program) (t:TypeId) (cs:List AV) (inn:Nat) (K:AV->Prop):Prop:=
 match Up P t with
 | none=>False
 | some true=>
  match Ya P t with
  | none=>False
  | some s=>
   match cs with
   | .arr k n xs::r=>
    match Nat.blt s n with
    | true=>Z6 (inn+s<=n) (K (.agg [.arr k s ((xs.drop inn).take s)]))
    | false=>Z4Y s (.arr k n xs::r) inn K
   | cs=>Z4Y s cs inn K
 | some false=>
  match cs with
  | []=>False
  | .arr k n xs::_=>Z6 (inn<n) (K (.int k (xs.getD inn 0)))
  | v::_=>match inn with
   | 0=>K v
   | _+1=>False
theorem Zn {k:IntKind} {n i:Nat} (h:i<n):(intCells k n xs)[i]? =some (.int k (xs.getD i 0)):=by
 simp [intCells,h]
theorem Yp {k:IntKind} {n i:Nat} (h:n<=i):(intCells k n xs)[i]? =none:=by
 simp [intCells,h]
theorem XI (xs:List Int) (inn s i:Nat) (h:i<s):((xs.drop inn).take s).getD i 0=xs.getD (inn+i) 0:=by
 simp only [J2,JF,Jm,h,if_true]
theorem Addr.add_add (a:Addr) (m n:Nat):(a.add m).add n=a.add (m+n):=by
 unfold Addr.add
 by_cases hm:m=0
 ·subst hm;simp
 ·by_cases hn:n=0
  ·subst hn;simp
  ·rw [if_neg hm,if_neg hn,if_neg (by omega)];simp [Nat.add_assoc]
theorem Z2i {P:Program} {t:TypeId} {inn:Nat} {K:AV->Prop} (h:Z63 P t cs inn K):
  ∃v,K v/\∀(E:Env) (w:World) (a:Addr) (vs:List Value),Zr E cs vs->(∀(j:Nat) c,vs[j]? =some c->w.cell? (a.add j)=some c)->
   ∃r,(loadVar t (a.add inn)).run P w=.ok r w/\Zh E v r:=by
 unfold Z63 at h
 cases hag:Up P t with
 | none=>simp [hag] at h
 | some ag=>
  rw [hag] at h
  cases ag with
  | true=>
   simp only at h
   cases hsz:Ya P t with
   | none=>simp [hsz] at h
   | some s=>
    rw [hsz] at h
    simp only at h
    have whole:∀(front:List AV),takeC s cs=some front->inn=0->K (.agg front)->
      ∃v,K v/\∀(E:Env) (w:World) (a:Addr) (vs:List Value),Zr E cs vs->(∀(j:Nat) c,vs[j]? =some c->w.cell? (a.add j)=some c)->
       ∃r,(loadVar t (a.add inn)).run P w=.ok r w/\Zh E v r:=by
     intro front hf hi hK
     subst hi
     refine ⟨_,hK,fun E w a vs hc hv=> ?_⟩
     obtain ⟨h1,h2⟩:=VD cs s front vs hf hc
     refine ⟨.agg (vs.take s).toArray, ?_,.agg _ _ h1⟩
     have h0:a.add 0=a:=rfl
     rw [h0]
     refine Wm w a (vs.take s) hag (by rw [hsz];simp;omega) (fun j c hj=>hv j c ?_)
     rw [JF] at hj
     split at hj
     ·exact hj
     ·cases hj
    have other:Z4Y s cs inn K->
      ∃v,K v/\∀(E:Env) (w:World) (a:Addr) (vs:List Value),Zr E cs vs->(∀(j:Nat) c,vs[j]? =some c->w.cell? (a.add j)=some c)->
       ∃r,(loadVar t (a.add inn)).run P w=.ok r w/\Zh E v r:=by
     intro h
     unfold Z4Y at h
     cases inn with
     | succ n=>exact h.elim
     | zero=>
      simp only at h
      cases hf:takeC s cs with
      | none=>simp [hf] at h
      | some front=>rw [hf] at h;exact whole front hf rfl h
    cases cs with
    | nil=>exact other h
    | cons v r=>
     by_cases hv:∃k m xs,v=.arr k m xs
     ·obtain ⟨k,n,xs,rfl⟩:=hv
      simp only at h
      cases hb:Nat.blt s n with
      | false=>rw [hb] at h;exact other h
      | true=>
       rw [hb] at h
       obtain ⟨hle,hK⟩:=Zb h
       refine ⟨_,hK,fun E w a vs hc hv=> ?_⟩
       obtain ⟨ws,rfl,_⟩:=hc.cons_arr
       refine ⟨.agg (intCells k s ((xs.drop inn).take s)).toArray, ?_,.agg _ _ (by simpa using Zr.arr k s ((xs.drop inn).take s) [] [] .nil)⟩
       refine Wm w (a.add inn) _ hag (by rw [hsz,Z9]) (fun j c hj=> ?_)
       rw [Addr.add_add]
       rcases J9 j s with hjs|hjs
       ·rw [Zn hjs,XI _ _ _ _ hjs] at hj
        apply hv
        rw [Jb (by rw [Z9];omega),Zn (by omega)]
        exact hj
       ·rw [Yp hjs] at hj;cases hj
     ·have hv':∀k m xs,v≠.arr k m xs:=fun k m xs e=>hv ⟨k,m,xs,e⟩
      apply other
      cases v<;>first|exact h|exact absurd rfl (hv' _ _ _)
  | false=>
   simp only at h
   cases cs with
   | nil=>exact h.elim
   | cons v r=>
    by_cases hv:∃k m xs,v=.arr k m xs
    ·obtain ⟨k,n,xs,rfl⟩:=hv
     obtain ⟨hlt,hK⟩:=Zb h
     refine ⟨_,hK,fun E w a vs hc hv=> ?_⟩
     obtain ⟨ws,rfl,_⟩:=hc.cons_arr
     refine ⟨_,Wn w _ _ hag (hv inn _ ?_),.int k (xs.getD inn 0)⟩
     rw [Jb (by rw [Z9];omega),Zn hlt]
    ·have hv':∀k m xs,v≠.arr k m xs:=fun k m xs e=>hv ⟨k,m,xs,e⟩
     have h':inn=0/\K v:=by
      cases v<;>first
       | exact absurd rfl (hv' _ _ _)
       | (cases inn with
         | zero=>exact ⟨rfl,h⟩
         | succ n=>exact h.elim)
     obtain ⟨rfl,hK⟩:=h'
     refine ⟨v,hK,fun E w a vs hc hv=> ?_⟩
     obtain ⟨c,ws,rfl,_,_,hr,_⟩:=hc.cons_cell hv'
     exact ⟨c,Wn w _ _ hag (hv 0 c rfl),hr⟩
def Z95 (P:Program) (h:Z8) (t:TypeId) (x:AV) (K:AV->Prop):Prop:=
 match x with
 | .pview cs inn=>Z63 P t cs inn K
 | .ptr (some p)=>
  match h.get p.blk with
  | some (.flat cs)=>match p.row with
   | 0=>match YF p.off cs with
    | some rest=>Z63 P t rest p.inn K
    | none=>False
   | _+1=>False
  | some (.ints k xs)=>match p.row,p.off with
   | 0,0=>match Up P t,Ya P t with
    | some true,some s=>Z6 (p.inn+s<=xs.length) (K (.agg [.arr k s ((xs.drop p.inn).take s)]))
    | some false,_=>Z6 (p.inn<xs.length) (K (.int k (xs.getD p.inn 0)))
    | _,_=>False
   | _,_=>False
  | some (.rows sz n f)=>match Nat.beq sz p.sz with
   | true=>Z6 (p.row<n) (match YF p.off (f p.row) with
    | some rest=>Z63 P t rest p.inn K
    | none=>False)
   | false=>False
  | _=>False
 | _=>False
theorem cell_of_heap {w:World} {b:Nat} {cells:Array Value} {elem:TypeId} {fr:Nat×Nat} (h:w.heap[b]? =some (.cells cells elem fr)) (o:Nat):w.cell? ⟨b,o,none⟩=cells[o]?:=by
 simp [World.cell?,h]
theorem Xh (b o n:Nat):(⟨b,o,none⟩:Addr).add n=⟨b,o+n,none⟩:=by
 unfold Addr.add;split<;>simp_all
theorem Z64 {P:Program} {h:Z8} {t:TypeId} {x:AV} {K:AV->Prop} (hl:Z95 P h t x K):
  ∃v,K v/\∀(E:Env) (w:World) (r:Value),Emb E h w->Zh E x r->∃a r',r=.pointer (some a)/\(loadVar t a).run P w=.ok r' w/\Zh E v r':=by
 unfold Z95 at hl
 cases x with
 | pview cs inn=>
  obtain ⟨v,hK,hv⟩:=Z2i hl
  refine ⟨v,hK,fun E w r he hx=> ?_⟩
  cases hx with
  | pview cs inn a vs hc hi=>
   obtain ⟨r',h1,h2⟩:=hv E w a vs (hc.mono E.views_le) (fun j c hj=>he.imm _ _ (hi j c hj))
   exact ⟨_,r',rfl,h1,h2⟩
 | ptr p=>
  cases p with
  | none=>exact hl.elim
  | some p=>
   simp only at hl
   cases hg:h.get p.blk with
   | none=>simp [hg] at hl
   | some B=>
    rw [hg] at hl
    cases B with
    | flat cs=>
     simp only at hl
     cases hrow:p.row with
     | succ n=>simp [hrow] at hl
     | zero=>
      rw [hrow] at hl
      simp only at hl
      cases hd:YF p.off cs with
      | none=>simp [hd] at hl
      | some rest=>
       rw [hd] at hl
       obtain ⟨v,hK,hv⟩:=Z2i hl
       refine ⟨v,hK,fun E w r he hx=> ?_⟩
       cases hx with
       | ptr p b N hb=>
        have hB:=he.own _ _ hg
        cases hB with
        | flat0 cs h0 hn=>rw [hn] at hb;cases hb
        | flat cs b' cells elem fr vs hb' hw hf hc hvv=>
         rw [hb'] at hb
         injection hb with hb
         injection hb with h1 h2
         subst h1
         obtain ⟨hr,hle⟩:=Y2 cs p.off rest vs hd hc
         obtain ⟨r',h1,h2⟩:=hv E w ⟨b',p.off,none⟩ _ hr (fun j c hj=>by
          rw [Xh,cell_of_heap hw]
          apply hvv
          rw [Jm] at hj
          exact hj)
         rw [Xh] at h1
         refine ⟨_,r',rfl, ?_,h2⟩
         have:p.tot=p.off+p.inn:=by simp [ZM.tot,hrow]
         rw [this]
         exact h1
    | ints k xs=>
     simp only at hl
     cases hrow:p.row with
     | succ n=>simp [hrow] at hl
     | zero=>
      cases hoff:p.off with
      | succ n=>simp [hrow,hoff] at hl
      | zero=>
       simp only [hrow,hoff] at hl
       have htot:p.tot=p.inn:=by simp [ZM.tot,hrow,hoff]
       cases hag:Up P t with
       | none=>simp [hag] at hl
       | some ag=>
        cases ag with
        | true=>
         cases hsz:Ya P t with
         | none=>simp [hag,hsz] at hl
         | some s=>
          simp only [hag,hsz] at hl
          obtain ⟨hle,hK⟩:=Zb hl
          refine ⟨_,hK,fun E w r he hx=> ?_⟩
          cases hx with
          | ptr p b N hb=>
           have hB:=he.own _ _ hg
           cases hB with
           | ints0 k xs h0 hn=>rw [hn] at hb;cases hb
           | ints k xs b' cells elem fr hb' hw hf hvv=>
            rw [hb'] at hb
            injection hb with hb
            injection hb with h1 h2
            subst h1
            refine ⟨_,.agg (intCells k s ((xs.drop p.inn).take s)).toArray,rfl, ?_,.agg _ _ (by simpa using Zr.arr k s ((xs.drop p.inn).take s) [] [] .nil)⟩
            rw [htot]
            refine Wm w _ _ hag (by rw [hsz,Z9]) (fun j c hj=> ?_)
            rw [Xh,cell_of_heap hw]
            rcases J9 j s with hjs|hjs
            ·rw [Zn hjs,XI _ _ _ _ hjs] at hj
             rw [hvv _ (by omega)];exact hj
            ·rw [Yp hjs] at hj;cases hj
        | false=>
         simp only [hag] at hl
         obtain ⟨hle,hK⟩:=Zb hl
         refine ⟨_,hK,fun E w r he hx=> ?_⟩
         cases hx with
         | ptr p b N hb=>
          have hB:=he.own _ _ hg
          cases hB with
          | ints0 k xs h0 hn=>rw [hn] at hb;cases hb
          | ints k xs b' cells elem fr hb' hw hf hvv=>
           rw [hb'] at hb
           injection hb with hb
           injection hb with h1 h2
           subst h1
           refine ⟨_,_,rfl,Wn w _ _ hag ?_,.int k (xs.getD p.inn 0)⟩
           rw [htot,cell_of_heap hw]
           exact hvv _ hle
    | rows sz n f=>
     simp only at hl
     cases hbs:Nat.beq sz p.sz with
     | false=>simp [hbs] at hl
     | true=>
      rw [hbs] at hl
      have hsz:sz=p.sz:=J0 hbs
      obtain ⟨hrow,hl⟩:=Zb hl
      cases hd:YF p.off (f p.row) with
      | none=>simp [hd] at hl
      | some rest=>
       rw [hd] at hl
       obtain ⟨v,hK,hv⟩:=Z2i hl
       refine ⟨v,hK,fun E w r he hx=> ?_⟩
       cases hx with
       | ptr p b N hb=>
        have hB:=he.own _ _ hg
        cases hB with
        | rows0 sz n f h0 hn=>rw [hn] at hb;cases hb
        | rows sz n f b' cells elem fr g hb' hw hf hc hlen hvv=>
         rw [hb'] at hb
         injection hb with hb
         injection hb with h1 h2
         subst h1
         obtain ⟨hr,hle⟩:=Y2 _ p.off rest _ hd (hc _ hrow)
         obtain ⟨r',h1,h2⟩:=hv E w ⟨b',p.row*p.sz+p.off,none⟩ _ hr (fun j c hj=>by
          rw [Xh,cell_of_heap hw]
          rw [Jm] at hj
          have:=hvv p.row _ c hrow hj
          rw [hsz] at this
          rw [Nat.add_assoc]
          exact this)
         rw [Xh] at h1
         exact ⟨_,r',rfl,h1,h2⟩
    | map es=>exact hl.elim
    | fmap n kf vf=>exact hl.elim
    | pmap es=>exact hl.elim
    | loop l=>exact hl.elim
    | defd=>exact hl.elim
 | _=>exact hl.elim
def YW (cells:Array Value):Nat->List Value->Array Value
 | _,[]=>cells
 | o,v::r=>YW (cells.setIfInBounds o v) (o+1) r
theorem Yi:∀(vs:List Value) (o:Nat) (cells:Array Value),(YW cells o vs).size=cells.size
 | [],_,_=>rfl
 | v::r,o,cells=>by simp [YW,Yi r]
theorem Xq:∀(vs:List Value) (o:Nat) (cells:Array Value) (j:Nat),o+vs.length<=cells.size->j<vs.length->(YW cells o vs)[o+j]? =vs[j]?
 | [],_,_,_,_,h=>by simp at h
 | v::r,o,cells,j,hl,hj=>by
  simp only [YW]
  simp only [Js] at hl hj
  cases j with
  | zero=>
   have out:∀(vs:List Value) (p:Nat) (cs:Array Value) (i:Nat),i<p->(YW cs p vs)[i]? =cs[i]?:=by
    intro vs
    induction vs with
    | nil=>intro p cs i _;rfl
    | cons u s ih=>intro p cs i hi;simp only [YW];rw [ih (p+1) _ i (by omega)];rw [Jq];rw [if_neg (by omega)]
   rw [show o+0=o from rfl,out r (o+1) _ o (by omega)]
   simp [Jq];omega
  | succ j=>
   have:=Xq r (o+1) (cells.setIfInBounds o v) j (by simp;omega) (by omega)
   rw [show o+(j+1)=o+1+j by omega,this]
   simp
theorem YR:∀(vs:List Value) (o:Nat) (cells:Array Value) (j:Nat),(j<o\/o+vs.length<=j)->(YW cells o vs)[j]? =cells[j]?
 | [],_,_,_,_=>rfl
 | v::r,o,cells,j,h=>by
  simp only [Js] at h
  simp only [YW]
  rw [YR r (o+1) _ j (by omega),Jq,if_neg (by omega)]
theorem YS:∀(vs:List Value) (o:Nat) (w:World) (b:Nat) (cells:Array Value) (elem:TypeId) (fr:Nat×Nat),w.heap[b]? =some (.cells cells elem fr)->
  (w.setCells b o vs).heap[b]? =some (.cells (YW cells o vs) elem fr)/\(∀i,i≠b->(w.setCells b o vs).heap[i]? =w.heap[i]?)/\(w.setCells b o vs).heap.size=w.heap.size/\
   (w.setCells b o vs).os=w.os/\(w.setCells b o vs).tape=w.tape/\((w.setCells b o vs).output=w.output/\w.drawn<=(w.setCells b o vs).drawn)
 | [],_,w,b,cells,elem,fr,h=>⟨h,fun _ _=>rfl,rfl,rfl,rfl,rfl,J4 _⟩
 | v::r,o,w,b,cells,elem,fr,h=>by
  have h1:(w.setCell ⟨b,o,none⟩ v).heap[b]? =some (.cells (cells.setIfInBounds o v) elem fr):=by
   simp [World.setCell,Array.getElem?_modify,h]
  obtain ⟨a1,a2,a3,a4,a5,a6⟩:=YS r (o+1) (w.setCell ⟨b,o,none⟩ v) b _ elem fr h1
  refine ⟨a1,fun i hi=>(a2 i hi).trans ?_,a3.trans ?_,a4,a5,a6⟩
  ·simp [World.setCell,Array.getElem?_modify,Ne.symm hi]
  ·simp [World.setCell]
def Xv:AV->Option (List AV)
 | .agg cs=>some cs
 | .tuple _|.arr _ _ _|.top=>none
 | v=>some [v]
theorem Zr.all_one {E:Env}:∀{cs:List AV} {vs:List Value},Zr E cs vs->∀v∈vs,v.oneCell'=true
 | _,_,.nil=>by simp
 | _,_,.one v c vs cs h0 h1 h t=>by
  intro x hx
  rcases Jd.1 hx with rfl|hx
  ·exact h1
  ·exact Zr.all_one t x hx
 | _,_,.arr k n xs vs cs t=>by
  intro x hx
  rcases Ju.1 hx with hx|hx
  ·simp [intCells] at hx
   obtain ⟨i,_,rfl⟩:=hx
   rfl
  ·exact Zr.all_one t x hx
theorem Wx {E:Env} {r:Value} (h:Xv v=some cs) (hv:Zh E v r):Zr E cs r.cells.toList:=by
 cases hv with
 | agg cs' vs hc=>simp [Xv] at h;subst h;simpa [Value.cells] using hc
 | top v=>simp [Xv] at h
 | tuple vs rs ht=>simp [Xv] at h
 | _=>
  simp [Xv] at h
  subst h
  simp only [Value.cells]
  refine Zr.one _ _ [] [] rfl rfl ?_ .nil
  first
   | exact .bool _
   | exact .int _ _
   | exact .str _
   | exact .nilptr
   | (exact .ptr _ _ _ ‹_›)
   | (exact .pview _ _ _ _ ‹_› ‹_›)
   | (exact .nslice0 _ _ _ _ _ ‹_› ‹_›)
   | (exact .nslice _ _ _ _ _ _ _ ‹_› ‹_› ‹_› ‹_›)
   | (exact .vintsNil _ _ _ ‹_› ‹_›)
   | (exact .vints _ _ _ _ _ ‹_› ‹_› ‹_›)
   | (exact .vrowsNil _ _ _ _ ‹_› ‹_›)
   | (exact .vrows _ _ _ _ _ _ _ ‹_› ‹_› ‹_› ‹_› ‹_›)
   | exact .eslice _
   | exact .fslice _ _
   | exact .nilslice
   | exact .nilmap
   | (exact .map _ _ _ ‹_›)
   | (exact .func _ _ _ _ _ ‹_› ‹_›)
   | (exact .yield _ _ _ ‹_›)
   | exact .nilFunc
   | exact .nilIface
   | (exact .iface _ _ _ ‹_›)
def Z0f (inn:Nat) (news cs:List AV) (K:List AV->Prop):Prop:=
 match inn with
 | 0=>match YF (csz news) cs with
  | some r=>K (news++r)
  | none=>False
 | _+1=>False
def Zbv (inn:Nat) (news cs:List AV) (K:List AV->Prop):Prop:=
 match news,cs with
 | [.int k v],.arr k' n xs::r=>Z6 (k=k'/\inn<n/\inn<xs.length) (K (.arr k' n (xs.set inn v)::r))
 | [.arr k s ys],.arr k' n xs::r=>match Nat.blt s n with
  | true=>Z6 (k=k'/\inn+s<=n/\n=xs.length/\s=ys.length) (K (.arr k' n (xs.take inn++ys++xs.drop (inn+s))::r))
  | false=>Z0f inn [.arr k s ys] (.arr k' n xs::r) K
 | news,cs=>Z0f inn news cs K
def Z2j:Nat->Nat->List AV->List AV->(List AV->Prop)->Prop
 | 0,inn,news,cs,K=>Zbv inn news cs K
 | _+1,_,_,[],_=>False
 | n+1,inn,news,.arr k m xs::r,K=>match Nat.ble m (n+1) with
  | true=>Z2j (n+1-m) inn news r fun r'=>K (.arr k m xs::r')
  | false=>False
 | n+1,inn,news,v::r,K=>Z2j n inn news r fun r'=>K (v::r')
termination_by structural _ _ _ cs=>cs
theorem Zr.append {E:Env}:∀{cs ds:List AV} {vs ws:List Value},Zr E cs vs->Zr E ds ws->Zr E (cs++ds) (vs++ws)
 | _,_,_,_,.nil,h=>h
 | _,_,_,_,.one v c vs cs h0 h1 h t,k=>.one v c _ _ h0 h1 h (Zr.append t k)
 | _,_,_,_,.arr k n xs vs cs t,k'=>by rw [JB];exact .arr k n xs _ _ (Zr.append t k')
def Yt (vs:List Value) (o:Nat) (ws:List Value):List Value:=vs.take o++ws++vs.drop (o+ws.length)
theorem V8 {i:Nat} (h:i<xs.length):(xs++ys).getD i 0=xs.getD i 0:=by
 simp [J2,Jb h]
theorem WM {i:Nat} (h:xs.length<=i):(xs++ys).getD i 0=ys.getD (i-xs.length) 0:=by
 simp [J2,Jf h]
theorem Z1G (k:IntKind) (n s inn:Nat) (xs ys:List Int) (h1:inn+s<=n) (h2:n=xs.length) (h3:s=ys.length):
  intCells k n (xs.take inn++ys++xs.drop (inn+s))=(intCells k n xs).take inn++intCells k s ys++(intCells k n xs).drop (inn+s):=by
 apply Kv
 intro i
 rcases J9 i n with hi|hi
 ·rw [Zn hi]
  rcases J9 i inn with ha|ha
  ·rw [JB,V8 (by simp;omega),JB,Jb (by simp [Z9];omega),JF,if_pos ha,Zn hi]
   simp [J2,ha]
  ·rcases J9 i (inn+s) with hb|hb
   ·rw [V8 (by simp;omega),WM (by simp;omega),Jb (by simp [Z9];omega),Jf (by simp [Z9];omega)]
    have e1:(xs.take inn).length=inn:=by simp;omega
    have e2:((intCells k n xs).take inn).length=inn:=by simp [Z9];omega
    rw [e1,e2,Zn (by omega)]
   ·rw [WM (by simp;omega),Jf (by simp [Z9];omega)]
    have e1:(xs.take inn++ys).length=inn+s:=by simp;omega
    have e2:((intCells k n xs).take inn++intCells k s ys).length=inn+s:=by simp [Z9];omega
    rw [e1,e2,Jm,show inn+s+(i-(inn+s))=i by omega,Zn hi]
    simp [J2,Jm,show inn+s+(i-(inn+s))=i by omega]
 ·rw [Yp hi,Jr]
  simp [Z9];omega
theorem Z0g (k:IntKind) (n inn:Nat) (xs:List Int) (v:Int) (h1:inn<n) (h2:inn<xs.length):
  intCells k n (xs.set inn v)=(intCells k n xs).take inn++[Value.int k v]++(intCells k n xs).drop (inn+1):=by
 apply Kv
 intro i
 rcases J9 i n with hi|hi
 ·rw [Zn hi]
  rcases Nat.lt_trichotomy i inn with ha|ha|ha
  ·rw [JB,Jb (by simp [Z9];omega),JF,if_pos ha,Zn hi]
   simp only [J2,Kj];rw [if_neg (by omega)]
  ·subst ha
   have e2:((intCells k n xs).take i).length=i:=by simp [Z9];omega
   rw [JB,Jf (by rw [e2];exact J4 _),e2]
   simp [J2,h2]
  ·have e2:((intCells k n xs).take inn++[Value.int k v]).length=inn+1:=by simp [Z9];omega
   rw [Jf (by rw [e2];omega),e2,Jm,show inn+1+(i-(inn+1))=i by omega,Zn hi]
   simp only [J2,Kj];rw [if_neg (by omega)]
 ·rw [Yp hi,Jr]
  simp [Z9];omega
theorem Z0h {inn:Nat} {news:List AV} {K:List AV->Prop} (h:Z0f inn news cs K):
  ∃cs',K cs'/\∀(E:Env) (vs ws:List Value),Zr E cs vs->Zr E news ws->inn+ws.length<=vs.length/\Zr E cs' (Yt vs inn ws):=by
 unfold Z0f at h
 cases inn with
 | succ n=>exact h.elim
 | zero=>
  simp only at h
  cases hd:YF (csz news) cs with
  | none=>simp [hd] at h
  | some r=>
   rw [hd] at h
   refine ⟨_,h,fun E vs ws hc hn=> ?_⟩
   have hl:=hn.length
   obtain ⟨h1,h2⟩:=Y2 cs _ r vs hd hc
   refine ⟨by omega, ?_⟩
   simp only [Yt,List.take_zero,JZ,JK,hl]
   exact hn.append h1
theorem Z65 {inn:Nat} {news:List AV} {K:List AV->Prop} (h:Zbv inn news cs K):
  ∃cs',K cs'/\∀(E:Env) (vs ws:List Value),Zr E cs vs->Zr E news ws->inn+ws.length<=vs.length/\Zr E cs' (Yt vs inn ws):=by
 unfold Zbv at h
 split at h
 ·rename_i k v k' n xs r
  obtain ⟨⟨rfl,h1,h2⟩,hK⟩:=Zb h
  refine ⟨_,hK,fun E vs ws hc hn=> ?_⟩
  obtain ⟨vs',rfl,hr⟩:=hc.cons_arr
  obtain ⟨c,ws',rfl,_,_,hv,hw⟩:=hn.cons_cell (by simp)
  cases hw
  cases hv
  refine ⟨by simp [Z9];omega, ?_⟩
  have e:Yt (intCells k n xs++vs') inn [Value.int k v]=intCells k n (xs.set inn v)++vs':=by
   rw [Z0g k n inn xs v h1 h2]
   simp only [Yt,Js,Jy,JK]
   rw [Kk (by simp [Z9];omega),K7 (by simp [Z9];omega)]
   simp
  rw [e]
  exact .arr k n _ _ _ hr
 ·rename_i k s ys k' n xs r
  split at h
  ·obtain ⟨⟨rfl,h1,h2,h3⟩,hK⟩:=Zb h
   refine ⟨_,hK,fun E vs ws hc hn=> ?_⟩
   obtain ⟨vs',rfl,hr⟩:=hc.cons_arr
   obtain ⟨ws',rfl,hw⟩:=hn.cons_arr
   cases hw
   refine ⟨by simp [Z9];omega, ?_⟩
   have e:Yt (intCells k n xs++vs') inn (intCells k s ys++[])=intCells k n (xs.take inn++ys++xs.drop (inn+s))++vs':=by
    rw [Z1G k n s inn xs ys h1 h2 h3]
    simp only [Yt,JI,Z9]
    rw [Kk (by simp [Z9];omega),K7 (by simp [Z9];omega)]
    simp
   rw [e]
   exact .arr k n _ _ _ hr
  ·exact Z0h h
 ·exact Z0h h
theorem Z2k:∀(cs:List AV) (off inn:Nat) (news:List AV) (K:List AV->Prop),Z2j off inn news cs K->
  ∃cs',K cs'/\∀(E:Env) (vs ws:List Value),Zr E cs vs->Zr E news ws->off+inn+ws.length<=vs.length/\Zr E cs' (Yt vs (off+inn) ws):=by
 intro cs
 induction cs with
 | nil=>
  intro off inn news K h
  cases off with
  | zero=>
   obtain ⟨cs',hK,hr⟩:=Z65 (show Zbv inn news [] K by simpa [Z2j] using h)
   exact ⟨cs',hK,fun E vs ws hc hn=>by simpa using hr E vs ws hc hn⟩
  | succ n=>simp [Z2j] at h
 | cons v r ih=>
  intro off inn news K h
  cases off with
  | zero=>
   obtain ⟨cs',hK,hr⟩:=Z65 (show Zbv inn news (v::r) K by simpa [Z2j] using h)
   exact ⟨cs',hK,fun E vs ws hc hn=>by simpa using hr E vs ws hc hn⟩
  | succ n=>
   by_cases hv:∃k m xs,v=.arr k m xs
   ·obtain ⟨k,m,xs,rfl⟩:=hv
    simp only [Z2j] at h
    split at h
    ·rename_i hb
     have hm:=Vt hb
     obtain ⟨cs',hK,hr⟩:=ih _ _ _ _ h
     refine ⟨_,hK,fun E vs ws hc hn=> ?_⟩
     obtain ⟨vs',rfl,hr'⟩:=hc.cons_arr
     obtain ⟨h1,h2⟩:=hr E vs' ws hr' hn
     refine ⟨by simp [Z9];omega, ?_⟩
     have e:Yt (intCells k m xs++vs') (n+1+inn) ws=intCells k m xs++Yt vs' (n+1-m+inn) ws:=by
      simp only [Yt]
      rw [List.take_append,List.drop_append,Z9,JD (by simp [Z9];omega),List.drop_of_length_le (by simp [Z9];omega)]
      rw [show n+1+inn-m=n+1-m+inn by omega,show n+1+inn+ws.length-m=n+1-m+inn+ws.length by omega]
      simp
     rw [e]
     exact .arr k m xs _ _ h2
    ·exact h.elim
   ·have hv':∀k m xs,v≠.arr k m xs:=fun k m xs e=>hv ⟨k,m,xs,e⟩
    have h':Z2j n inn news r fun r'=>K (v::r'):=by
     cases v<;>first|exact h|exact absurd rfl (hv' _ _ _)
    obtain ⟨cs',hK,hr⟩:=ih _ _ _ _ h'
    refine ⟨_,hK,fun E vs ws hc hn=> ?_⟩
    obtain ⟨c,vs',rfl,h0,h1c,hvr,hr'⟩:=hc.cons_cell hv'
    obtain ⟨h1,h2⟩:=hr E vs' ws hr' hn
    refine ⟨by simp;omega, ?_⟩
    have e:Yt (c::vs') (n+1+inn) ws=c::Yt vs' (n+inn) ws:=by
     simp only [Yt]
     rw [show n+1+inn=(n+inn)+1 by omega,List.take_succ_cons,show n+inn+1+ws.length=(n+inn+ws.length)+1 by omega,List.drop_succ_cons]
     simp
    rw [e]
    exact .one v c _ _ h0 h1c hvr h2
def Z0i (b:Bool):AV->AV->Option AV
 | .int k x,.int k' y=>match decide (k=k') with|true=>some (.int k (match b with|true=>x|false=>y))|false=>none
 | .bool x,.bool y=>some (.bool (match b with|true=>x|false=>y))
 | .arr k n xs,.arr k' n' ys=>match decide (k=k')&&Nat.beq n n' with|true=>some (.arr k n (match b with|true=>xs|false=>ys))|false=>none
 | _,_=>none
def Z2l (b:Bool):List AV->List AV->Option (List AV)
 | [],[]=>some []
 | x::r,y::s=>match Z0i b x y,Z2l b r s with
  | some v,some l=>some (v::l)
  | _,_=>none
 | _,_=>none
theorem Zbw {b:Bool} {x y:AV} (h:Z0i b x y=some v):v=match b with|true=>x|false=>y:=by
 cases x with
 | int k a=>cases y with
  | int k' a'=>
   simp only [Z0i] at h
   by_cases hk:k=k'
   ·subst hk;simp at h;subst h;cases b<;>rfl
   ·simp [hk] at h
  | _=>simp [Z0i] at h
 | bool a=>cases y with
  | bool a'=>simp [Z0i] at h;subst h;cases b<;>rfl
  | _=>simp [Z0i] at h
 | arr k n xs=>cases y with
  | arr k' n' ys=>
   simp only [Z0i] at h
   by_cases hk:k=k'
   ·by_cases hn:n=n'
    ·subst hk hn;simp [Jj] at h;subst h;cases b<;>rfl
    ·simp [Zx hn] at h
   ·simp [hk] at h
  | _=>simp [Z0i] at h
 | _=>simp [Z0i] at h
theorem Z66 {b:Bool}:∀{x y l:List AV},Z2l b x y=some l->l=match b with|true=>x|false=>y
 | [],[],l,h=>by simp [Z2l] at h;subst h;cases b<;>rfl
 | x::r,y::s,l,h=>by
  unfold Z2l at h
  split at h
  ·rename_i v q hv hq
   cases h
   rw [Zbw hv,Z66 hq]
   cases b<;>rfl
  ·cases h
 | [],_::_,_,h=>by simp [Z2l] at h
 | _::_,[],_,h=>by simp [Z2l] at h
def QH (f:Nat->List AV) (row:Nat) (new:List AV):Nat->List AV:=fun i=>match Z2l (Nat.beq i row) new (f i) with
 | some l=>l
 | none=>match Nat.beq i row with|true=>new|false=>f i
theorem Wy (f:Nat->List AV) (row:Nat) (new:List AV) (i:Nat):QH f row new i=match Nat.beq i row with|true=>new|false=>f i:=by
 unfold QH
 split
 ·rename_i l hl;exact Z66 hl
 ·rfl
def Z7p (P:Program) (h:Z8) (t:TypeId) (p:ZM) (cs:List AV) (K:Z8->Prop):Prop:=
 match Ya P t with
 | none=>False
 | some s=>match Nat.beq s (csz cs) with
  | false=>False
  | true=>match h.get p.blk with
   | some (.flat old)=>match p.row with
    | 0=>Z2j p.off p.inn cs old fun new=>K (h.set p.blk (.flat new))
    | _+1=>False
   | some (.ints k xs)=>match p.row,p.off,cs with
    | 0,0,[.int k' v]=>Z6 (k'=k/\p.inn<xs.length) (K (h.set p.blk (.ints k (xs.set p.inn v))))
    | _,_,_=>False
   | some (.rows sz n f)=>match Nat.beq sz p.sz with
    | true=>Z6 (p.row<n) (Z2j p.off p.inn cs (f p.row) fun new=>K (h.set p.blk (.rows sz n (QH f p.row new))))
    | false=>False
   | _=>False
def Z7q (P:Program) (h:Z8) (t:TypeId) (x v:AV) (K:Z8->Prop):Prop:=
 match x with
 | .ptr (some p)=>match Xv v with
  | some cs=>Z7p P h t p cs K
  | none=>False
 | _=>False
theorem Uq (vs:List Value) (o:Nat) (ws:List Value) (hl:o+ws.length<=vs.length) (j:Nat):
  (Yt vs o ws)[j]? =if o<=j/\j<o+ws.length then ws[j-o]? else vs[j]?:=by
 unfold Yt
 have e1:(vs.take o).length=o:=by simp;omega
 have e2:(vs.take o++ws).length=o+ws.length:=by simp;omega
 rcases J9 j o with h|h
 ·rw [if_neg (by omega),JB,Jb (by omega),JF,if_pos h]
 ·rcases J9 j (o+ws.length) with h'|h'
  ·rw [if_pos ⟨h,h'⟩,Jb (by omega),Jf (by omega),e1]
  ·rw [if_neg (by omega),Jf (by omega),e2,Jm,show o+ws.length+(j-(o+ws.length))=j by omega]
theorem Xx {P:Program} {t:TypeId} (w:World) (b o:Nat) (r:Value) (cells:Array Value) (elem:TypeId) (fr:Nat×Nat) (hs:Ya P t=some r.cells.size) (hw:w.heap[b]? =some (.cells cells elem fr)) (hf:free cells fr)
  (h1:∀v∈r.cells.toList,v.oneCell'=true) (hl:o+r.cells.size<=cells.size):
  (storeVar t ⟨b,o,none⟩ r).run P w=.ok () (w.setCells b o r.cells.toList):=by
 unfold storeVar
 have hst:=run_storeCells_cells (P:=P) b o r.cells.toList 0 w (fun j hj=>by
   rw [cell_of_heap hw];simp at hj;simp;omega) (fun j hj=>by
   have:=hf (o+0+j) (by simp at hj;omega)
   simp [World.frozen?,hw];omega) h1
 simp only [J8,run_sizeOf hs,J5,ne_eq,not_true_eq_false,if_false,Kq] at hst⊢
 simpa using hst
theorem Zab {P:Program} {h:Z8} {t:TypeId} {p:ZM} {K:Z8->Prop} (hl:Z7p P h t p cs K):
  ∃h',K h'/\∀(E:Env) (w:World) (b N:Nat) (r:Value),Emb E h w->E.blk p.blk=some (b,N)->Zr E cs r.cells.toList->
   ∃w',(storeVar t ⟨b,p.tot,none⟩ r).run P w=.ok () w'/\Evo E h w E h' w':=by
 unfold Z7p at hl
 cases hts:Ya P t with
 | none=>simp [hts] at hl
 | some s=>
  rw [hts] at hl
  simp only at hl
  cases hbs:Nat.beq s (csz cs) with
  | false=>simp [hbs] at hl
  | true=>
   rw [hbs] at hl
   have hsc:s=csz cs:=J0 hbs
   simp only at hl
   cases hg:h.get p.blk with
   | none=>simp [hg] at hl
   | some B=>
    rw [hg] at hl
    cases B with
    | flat old=>
     simp only at hl
     cases hrow:p.row with
     | succ n=>simp [hrow] at hl
     | zero=>
      rw [hrow] at hl
      simp only at hl
      obtain ⟨new,hK,hr⟩:=Z2k _ _ _ _ _ hl
      refine ⟨_,hK,fun E w b N r he hb hc=> ?_⟩
      have hB:=he.own _ _ hg
      cases hB with
      | flat0 cs h0 hn=>rw [hn] at hb;cases hb
      | flat old b' cells elem fr vs hb' hw hf hcv hvv=>
       have hbb:=hb
       rw [hb'] at hb
       injection hb with hb
       injection hb with h1 h2
       subst h1
       obtain ⟨hle,hnew⟩:=hr E vs r.cells.toList hcv hc
       have htot:p.tot=p.off+p.inn:=by simp [ZM.tot,hrow]
       have hcl:=hc.length
       have hvl:vs.length<=cells.size:=by
        rcases JM vs.length with h0|h0
        ·omega
        ·have:=hvv (vs.length-1) _ (Je (by omega))
         rcases J9 (vs.length-1) cells.size with hh|hh
         ·omega
         ·rw [Jo hh] at this;cases this
       have hrun:=Xx (P:=P) (t:=t) w b' p.tot r cells elem fr (by rw [hts,hsc,<-hcl];simp) hw hf hc.all_one (by simp at hle;omega)
       refine ⟨_,hrun, ?_⟩
       obtain ⟨a1,a2,a3,a4,a5,a6⟩:=YS r.cells.toList p.tot w b' cells elem fr hw
       refine XH he p.blk _ _ b' _ hg hbb a2 a3 a4 a5 a6 ?_
       refine .flat new b' (YW cells p.tot r.cells.toList) elem fr _ (by rw [Yi];exact hb') a1 (fun o ho=>hf o (by rwa [Yi] at ho)) hnew ?_
       intro j c hj
       rw [Uq _ _ _ hle] at hj
       split at hj
       ·rename_i hin
        have:=Xq r.cells.toList p.tot cells (j-p.tot) (by rw [htot];simp at hle⊢;omega) (by rw [htot];omega)
        rw [show p.tot+(j-p.tot)=j by omega] at this
        rw [this,htot];exact hj
       ·rename_i hout
        rw [YR _ _ _ _ (by rw [htot];omega)]
        exact hvv j c hj
    | ints k xs=>
     simp only at hl
     split at hl
     ·rename_i k' v hrow hoff
      obtain ⟨⟨rfl,hlt⟩,hK⟩:=Zb hl
      refine ⟨_,hK,fun E w b N r he hb hc=> ?_⟩
      have htot:p.tot=p.inn:=by simp [ZM.tot,hrow,hoff]
      have hB:=he.own _ _ hg
      cases hB with
      | ints0 k xs h0 hn=>rw [hn] at hb;cases hb
      | ints k xs b' cells elem fr hb' hw hf hvv=>
       have hbb:=hb
       rw [hb'] at hb
       injection hb with hb
       injection hb with h1 h2
       subst h1
       obtain ⟨c,ws',hrc,_,_,hv',hw'⟩:=hc.cons_cell (by simp)
       cases hw'
       cases hv'
       have hsz:r.cells.size=1:=by have:=congrArg List.length hrc;simpa using this
       have hin:p.inn<cells.size:=by
        have:=hvv p.inn hlt
        rcases J9 p.inn cells.size with hh|hh
        ·exact hh
        ·rw [Jo hh] at this;cases this
       have hrun:=Xx (P:=P) (t:=t) w b' p.tot r cells elem fr (by rw [hts,hsc,hsz];rfl) hw hf hc.all_one (by rw [htot,hsz];omega)
       refine ⟨_,hrun, ?_⟩
       obtain ⟨a1,a2,a3,a4,a5,a6⟩:=YS r.cells.toList p.tot w b' cells elem fr hw
       refine XH he p.blk _ _ b' _ hg hbb a2 a3 a4 a5 a6 ?_
       refine .ints k' _ b' (YW cells p.tot r.cells.toList) elem fr (by rw [Yi];exact hb') a1 (fun o ho=>hf o (by rwa [Yi] at ho)) ?_
       intro j hj
       rw [Kb] at hj
       rw [htot,hrc]
       by_cases hji:j=p.inn
       ·subst hji
        have:=Xq [Value.int k' v] p.inn cells 0 (by simp;omega) (by simp)
        rw [Kq] at this
        rw [this]
        simp [J2,hlt]
       ·rw [YR _ _ _ _ (by simp;omega),hvv j hj]
        simp only [J2,Kj]
        rw [if_neg (by omega)]
     ·exact hl.elim
    | rows sz n f=>
     simp only at hl
     cases hbs:Nat.beq sz p.sz with
     | false=>simp [hbs] at hl
     | true=>
      rw [hbs] at hl
      have hsz:sz=p.sz:=J0 hbs
      obtain ⟨hrow,hl⟩:=Zb hl
      obtain ⟨new,hK,hr⟩:=Z2k _ _ _ _ _ hl
      refine ⟨_,hK,fun E w b N r he hb hc=> ?_⟩
      have hB:=he.own _ _ hg
      cases hB with
      | rows0 sz n f h0 hn=>rw [hn] at hb;cases hb
      | rows sz n f b' cells elem fr g hb' hw hf hcv hlen hvv=>
       have hbb:=hb
       rw [hb'] at hb
       injection hb with hb
       injection hb with h1 h2
       subst h1
       obtain ⟨hle,hnew⟩:=hr E (g p.row) r.cells.toList (hcv _ hrow) hc
       have hcl:=hc.length
       have hgl:=hlen p.row hrow
       have htot:p.tot=p.row*sz+(p.off+p.inn):=by simp [ZM.tot,hsz];omega
       have hvl:p.row*sz+(g p.row).length<=cells.size:=by
        rcases JM (g p.row).length with h0|h0
        ·rw [h0] at hgl
         have:sz=0:=hgl.symm
         subst this;simp [h0]
        ·have:=hvv p.row ((g p.row).length-1) _ hrow (Je (by omega))
         rcases J9 (p.row*sz+((g p.row).length-1)) cells.size with hh|hh
         ·omega
         ·rw [Jo hh] at this;cases this
       have hrun:=Xx (P:=P) (t:=t) w b' p.tot r cells elem fr (by rw [hts,hsc,<-hcl];simp) hw hf hc.all_one (by simp at hle;omega)
       refine ⟨_,hrun, ?_⟩
       obtain ⟨a1,a2,a3,a4,a5,a6⟩:=YS r.cells.toList p.tot w b' cells elem fr hw
       refine XH he p.blk _ _ b' _ hg hbb a2 a3 a4 a5 a6 ?_
       refine .rows sz n _ b' (YW cells p.tot r.cells.toList) elem fr (fun i=>if i=p.row then Yt (g p.row) (p.off+p.inn) r.cells.toList else g i) (by rw [Yi];exact hb') a1 (fun o ho=>hf o (by rwa [Yi] at ho)) ?_ ?_ ?_
       ·intro i hi
        by_cases hip:i=p.row
        ·subst hip;simp only [Wy,Jj,if_true];exact hnew
        ·simp only [Wy,Zx hip,if_neg hip];exact hcv i hi
       ·intro i hi
        by_cases hip:i=p.row
        ·subst hip;simp only [if_true,Yt];simp at hle⊢;omega
        ·simp only [if_neg hip];exact hlen i hi
       ·intro i j c hi hj
        by_cases hip:i=p.row
        ·subst hip
         simp only [if_true] at hj
         rw [Uq _ _ _ hle] at hj
         split at hj
         ·rename_i hin
          have:=Xq r.cells.toList p.tot cells (j-(p.off+p.inn)) (by simp at hle⊢;omega) (by omega)
          rw [show p.tot+(j-(p.off+p.inn))=p.row*sz+j by omega] at this
          rw [this];exact hj
         ·rename_i hout
          rw [YR _ _ _ _ (by omega)]
          exact hvv _ j c hrow hj
        ·simp only [if_neg hip] at hj
         have hjl:j<sz:=by
          have:=hlen i hi
          rcases J9 j sz with hh|hh
          ·exact hh
          ·rw [Jr (by omega)] at hj;cases hj
         have hsep:i*sz+j<p.row*sz\/p.row*sz+sz<=i*sz+j:=by
          rcases Nat.lt_or_gt_of_ne hip with hh|hh
          ·left
           have:(i+1)*sz<=p.row*sz:=JQ _ hh
           rw [JT,Nat.one_mul] at this
           omega
          ·right
           have:(p.row+1)*sz<=i*sz:=JQ _ hh
           rw [JT,Nat.one_mul] at this
           omega
         have hle':p.off+p.inn+r.cells.toList.length<=sz:=hgl▸hle
         rw [YR _ _ _ _ (by omega)]
         exact hvv i j c hi hj
    | map es=>exact hl.elim
    | fmap n kf vf=>exact hl.elim
    | pmap es=>exact hl.elim
    | loop l=>exact hl.elim
    | defd=>exact hl.elim
theorem Zac {P:Program} {h:Z8} {t:TypeId} {x:AV} {K:Z8->Prop} (hl:Z7q P h t x v K):
  ∃h',K h'/\∀(E:Env) (w:World) (r rv:Value),Emb E h w->Zh E x r->Zh E v rv->
   ∃w',(Instr.storeAt t r rv).run P w=.ok () w'/\Evo E h w E h' w':=by
 unfold Z7q at hl
 cases x with
 | ptr p=>
  cases p with
  | none=>exact hl.elim
  | some p=>
   simp only at hl
   cases hc:Xv v with
   | none=>simp [hc] at hl
   | some cs=>
    rw [hc] at hl
    obtain ⟨h',hK,hr⟩:=Zab hl
    refine ⟨h',hK,fun E w r rv he hx hv=> ?_⟩
    cases hx with
    | ptr p b N hb=>
     obtain ⟨w',h1,h2⟩:=hr E w b N rv he hb (Wx hc hv)
     exact ⟨w',by simpa [Instr.storeAt,Instr.sureAddr] using h1,h2⟩
 | _=>exact hl.elim
theorem Zc {P:Program} {t:TypeId} {d:TypeDesc} (h:P.underlying t=some d) (w:World):(underlying t).run P w=.ok d w:=by
 unfold underlying;simp [h]
def Z7r (P:Program) (S:TypeId) (x:AV) (f:Nat) (K:AV->Prop):Prop:=
 match P.underlying S with
 | some (.struct fields)=>match fields[f]? with
  | some fd=>match Ya P fd.type with
   | some (_+1)=>match x with
    | .ptr (some p)=>K (.ptr (some ⟨p.blk,p.row,p.sz,p.off+fd.offset,p.inn⟩))
    | .pview cs 0=>match YF fd.offset cs with
     | some rest=>K (.pview rest 0)
     | none=>False
    | _=>False
   | _=>False
  | none=>False
 | _=>False
theorem Zad {P:Program} {S:TypeId} {x:AV} {f:Nat} {K:AV->Prop} (h:Z7r P S x f K):
  ∃v,K v/\∀(E:Env) (w:World) (r:Value),Zh E x r->∃r',(Instr.fieldAt S r f).run P w=.ok r' w/\Zh E v r':=by
 unfold Z7r at h
 split at h
 ·rename_i fields hu
  split at h
  ·rename_i fd hf
   split at h
   ·rename_i n hs
    have hplace:∀(w:World) (a:Addr),(fieldPlace a fd).run P w=.ok (a.add fd.offset) w:=fun w a=>by
     unfold fieldPlace
     simp [J8,run_sizeOf hs]
    split at h
    ·rename_i p
     refine ⟨_,h,fun E w r hx=> ?_⟩
     cases hx with
     | ptr p b N hb=>
      refine ⟨.pointer (some ⟨b,p.tot+fd.offset,none⟩), ?_, ?_⟩
      ·simp [Instr.fieldAt,Zc hu,hf,Instr.sureAddr,hplace,Xh]
      ·have e:p.tot+fd.offset=(⟨p.blk,p.row,p.sz,p.off+fd.offset,p.inn⟩:ZM).tot:=by simp [ZM.tot];omega
       rw [e]
       exact .ptr ⟨p.blk,p.row,p.sz,p.off+fd.offset,p.inn⟩ b N hb
    ·rename_i cs
     split at h
     ·rename_i rest hd
      refine ⟨_,h,fun E w r hx=> ?_⟩
      cases hx with
      | pview cs inn a vs hc hi=>
       obtain ⟨h1,h2⟩:=Y2 cs _ rest vs hd hc
       refine ⟨.pointer (some ((a.add fd.offset).add 0)), ?_,.pview rest 0 (a.add fd.offset) _ h1 (fun j c hj=> ?_)⟩
       ·have e0:∀x:Addr,x.add 0=x:=fun x=>rfl
        simp [Instr.fieldAt,Zc hu,hf,Instr.sureAddr,hplace,e0]
       ·rw [Addr.add_add]
        rw [Jm] at hj
        exact hi _ c hj
     ·exact h.elim
    ·exact h.elim
   ·exact h.elim
  ·exact h.elim
 ·exact h.elim
def Xr (P:Program) (e:TypeId):Bool:=match P.underlying e with|some (.int _)=>true|_=>false
def Z67 (P:Program) (h:Z8) (e:TypeId) (esz:Nat) (p:ZM) (i:Nat):ZM:=
 match Xr P e with
 | true=>⟨p.blk,p.row,p.sz,p.off,p.inn+i⟩
 | false=>match h.get p.blk with
  | some (.rows sz _ _)=>match Nat.beq sz esz,Nat.beq p.sz esz with
   | true,true=>⟨p.blk,p.row+i,p.sz,p.off,p.inn⟩
   | _,_=>⟨p.blk,p.row,p.sz,p.off+i*esz,p.inn⟩
  | _=>⟨p.blk,p.row,p.sz,p.off+i*esz,p.inn⟩
theorem Z2m (P:Program) (h:Z8) (e:TypeId) (esz:Nat) (p:ZM) (i:Nat):(Z67 P h e esz p i).blk=p.blk:=by
 unfold Z67
 repeat' split
 all_goals rfl
theorem Z2n (P:Program) (h:Z8) (e:TypeId) (esz:Nat) (p:ZM) (i:Nat) (h1:Xr P e=true->esz=1):(Z67 P h e esz p i).tot=p.tot+i*esz:=by
 unfold Z67
 split
 ·rename_i he;have:=h1 he;subst this;simp [ZM.tot];omega
 ·split
  ·split
   ·rename_i h2 h3
    have e3:p.sz=esz:=J0 h3
    simp only [ZM.tot,e3,JT];omega
   ·simp only [ZM.tot];omega
  ·simp only [ZM.tot];omega
def Z7s (P:Program) (h:Z8) (T:TypeId) (x i:AV) (K:AV->Prop):Prop:=
 match i with
 | .int _ i=>match P.underlying T with
  | some (.slice e)=>match Ya P e with
   | some esz=>match x with
    | .nslice p esz' len _=>match Nat.beq esz esz',(Xr P e&& !(Nat.beq esz 1)) with
     | true,false=>Z6 (0<=i/\i<len) (K (.ptr (some (Z67 P h e esz p i.toNat))))
     | _,_=>False
    | .vints k xs len=>match Nat.beq esz 1 with
     | true=>Z6 (0<=i/\i<len) (K (.pview [.int k (xs.getD i.toNat 0)] 0))
     | false=>False
    | .vrows esz' _ f len=>match Nat.beq esz esz' with
     | true=>Z6 (0<=i/\i<len) (K (.pview (f i.toNat) 0))
     | false=>False
    | _=>False
   | none=>False
  | some (.array n e)=>match Ya P e with
   | some esz=>match (Xr P e&& !(Nat.beq esz 1)) with
    | false=>match x with
     | .ptr (some p)=>Z6 (0<=i/\i<n) (K (.ptr (some (match Xr P e with|true=>⟨p.blk,p.row,p.sz,p.off,p.inn+i.toNat⟩|false=>⟨p.blk,p.row,p.sz,p.off+i.toNat*esz,p.inn⟩))))
     | .pview cs inn=>match Xr P e with
      | true=>Z6 (0<=i/\i<n) (K (.pview cs (inn+i.toNat)))
      | false=>match inn with
       | 0=>Z6 (0<=i/\i<n) (match YF (i.toNat*esz) cs with
        | some rest=>K (.pview rest 0)
        | none=>False)
       | _+1=>False
     | _=>False
    | true=>False
   | none=>False
  | _=>False
 | _=>False
theorem X8 (x:Addr):x.add 0=x:=rfl
theorem Zae {P:Program} {h:Z8} {T:TypeId} {x i:AV} {K:AV->Prop} (hl:Z7s P h T x i K):
  ∃v,K v/\∀(E:Env) (w:World) (r ri:Value),Zh E x r->Zh E i ri->∃r',(Instr.indexAt T r ri).run P w=.ok r' w/\Zh E v r':=by
 unfold Z7s at hl
 split at hl
 ·rename_i ki i
  split at hl
  ·rename_i e hu
   split at hl
   ·rename_i esz hs
    split at hl
    ·rename_i p esz' len lo
     split at hl
     ·rename_i hb1 hb2
      have he:esz=esz':=J0 hb1
      subst he
      obtain ⟨⟨h0,h1⟩,hK⟩:=Zb hl
      refine ⟨_,hK,fun E w r ri hx hi=> ?_⟩
      cases hi with
      | int k n=>
       cases hx with
       | nslice0 p esz len lo a e1 e2=>exfalso;rw [e1] at h1;omega
       | nslice p esz len lo b N cap hb c1 c2 c3=>
        refine ⟨.pointer (some ⟨b,p.tot+i.toNat*esz,none⟩), ?_, ?_⟩
        ·simp [Instr.indexAt,asIntOf,Zc hu,run_sizeOf hs,Xh,h0,h1]
        ·have et:=Z2n P h e esz p i.toNat (fun he=>by
          rw [he] at hb2;simp at hb2;exact hb2)
         rw [<-et]
         exact .ptr (Z67 P h e esz p i.toNat) b N (by rw [Z2m];exact hb)
     ·exact hl.elim
    ·rename_i k xs len
     split at hl
     ·rename_i hb
      have he:esz=1:=J0 hb
      subst he
      obtain ⟨⟨h0,h1⟩,hK⟩:=Zb hl
      refine ⟨_,hK,fun E w r ri hx hi=> ?_⟩
      cases hi with
      | int k' n=>
       cases hx with
       | vintsNil k xs len e1 e2=>exfalso;rw [e2] at h1;omega
       | vints k xs len a cap c1 c2 ci=>
        refine ⟨.pointer (some ((a.add i.toNat).add 0)), ?_,.pview _ 0 (a.add i.toNat) [.int k (xs.getD i.toNat 0)] (.one _ _ _ _ rfl rfl (.int _ _) .nil) (fun j c hj=> ?_)⟩
        ·simp [Instr.indexAt,asIntOf,Zc hu,run_sizeOf hs,h0,h1,X8]
        ·cases j with
         | zero=>simp only [List.getElem?_cons_zero,Option.some.injEq] at hj;subst hj;rw [X8];exact ci _ (by omega)
         | succ j=>simp at hj
     ·exact hl.elim
    ·rename_i esz' n f len
     split at hl
     ·rename_i hb
      have he:esz=esz':=J0 hb
      subst he
      obtain ⟨⟨h0,h1⟩,hK⟩:=Zb hl
      refine ⟨_,hK,fun E w r ri hx hi=> ?_⟩
      cases hi with
      | int k' n'=>
       cases hx with
       | vrowsNil esz n f len e1 e2=>exfalso;rw [e2] at h1;omega
       | vrows esz n f len a cap g c1 c2 cc cl ci=>
        refine ⟨.pointer (some ((a.add (i.toNat*esz)).add 0)), ?_,.pview _ 0 (a.add (i.toNat*esz)) (g i.toNat) (cc _ (by omega)) (fun j c hj=> ?_)⟩
        ·simp [Instr.indexAt,asIntOf,Zc hu,run_sizeOf hs,h0,h1,X8]
        ·rw [Addr.add_add];exact ci _ _ _ (by omega) hj
     ·exact hl.elim
    ·exact hl.elim
   ·exact hl.elim
  ·rename_i n e hu
   split at hl
   ·rename_i esz hs
    split at hl
    ·rename_i hb2
     have h1z:Xr P e=true->esz=1:=fun he=>by rw [he] at hb2;simp at hb2;exact hb2
     split at hl
     ·rename_i p
      obtain ⟨⟨h0,h1⟩,hK⟩:=Zb hl
      refine ⟨_,hK,fun E w r ri hx hi=> ?_⟩
      cases hi with
      | int k' n'=>
       cases hx with
       | ptr p b N hb=>
        refine ⟨.pointer (some ⟨b,p.tot+i.toNat*esz,none⟩), ?_, ?_⟩
        ·simp [Instr.indexAt,asIntOf,Zc hu,run_sizeOf hs,Xh,h0,h1,Instr.sureAddr]
        ·split
         ·rename_i he
          have:=h1z he;subst this
          have e:p.tot+i.toNat*1=(⟨p.blk,p.row,p.sz,p.off,p.inn+i.toNat⟩:ZM).tot:=by simp [ZM.tot];omega
          rw [e];exact .ptr ⟨p.blk,p.row,p.sz,p.off,p.inn+i.toNat⟩ b N hb
         ·have e:p.tot+i.toNat*esz=(⟨p.blk,p.row,p.sz,p.off+i.toNat*esz,p.inn⟩:ZM).tot:=by simp only [ZM.tot];omega
          rw [e];exact .ptr ⟨p.blk,p.row,p.sz,p.off+i.toNat*esz,p.inn⟩ b N hb
     ·rename_i cs inn
      split at hl
      ·rename_i he
       have:=h1z he;subst this
       obtain ⟨⟨h0,h1⟩,hK⟩:=Zb hl
       refine ⟨_,hK,fun E w r ri hx hi=> ?_⟩
       cases hi with
       | int k' n'=>
        cases hx with
        | pview cs inn a vs hc hi=>
         refine ⟨.pointer (some (a.add (inn+i.toNat))), ?_,.pview cs _ a vs hc hi⟩
         simp [Instr.indexAt,asIntOf,Zc hu,run_sizeOf hs,h0,h1,Instr.sureAddr,Addr.add_add]
      ·split at hl
       ·obtain ⟨⟨h0,h1⟩,hl⟩:=Zb hl
        split at hl
        ·rename_i rest hd
         refine ⟨_,hl,fun E w r ri hx hi=> ?_⟩
         cases hi with
         | int k' n'=>
          cases hx with
          | pview cs inn a vs hc hi=>
           obtain ⟨h1',h2'⟩:=Y2 cs _ rest vs hd hc
           refine ⟨.pointer (some ((a.add (i.toNat*esz)).add 0)), ?_,.pview rest 0 (a.add (i.toNat*esz)) _ h1' (fun j c hj=> ?_)⟩
           ·simp [Instr.indexAt,asIntOf,Zc hu,run_sizeOf hs,h0,h1,Instr.sureAddr,X8]
           ·rw [Addr.add_add];rw [Jm] at hj;exact hi _ c hj
        ·exact hl.elim
       ·exact hl.elim
     ·exact hl.elim
    ·exact hl.elim
   ·exact hl.elim
  ·exact hl.elim
 ·exact hl.elim
def Z3O (lo hi:Option AV) (len bound:Nat) (K:Option Nat->Nat->Prop):Prop:=
 match lo,hi with
 | none,none=>K none len
 | none,some (.int _ j)=>Z6 (0<=j/\j<=bound) (K none j.toNat)
 | some (.int _ i),none=>Z6 (0<=i/\i<=len) (K (some i.toNat) len)
 | some (.int _ i),some (.int _ j)=>Z6 (0<=i/\i<=j/\j<=bound) (K (some i.toNat) j.toNat)
 | _,_=>False
def Y4:Option Nat->Nat
 | none=>0
 | some n=>n
def Z68 {α:Type}:Option Nat->List α->List α
 | none,xs=>xs
 | some n,xs=>xs.drop n
def Zbx (f:Nat->List AV):Option Nat->Nat->List AV
 | none=>f
 | some n=>fun i=>f (i+n)
def Z0j (n:Nat):Option Nat->Nat
 | none=>n
 | some k=>n-k
theorem V9 (n:Nat) (o:Option Nat):Z0j n o=n-Y4 o:=by cases o<;>rfl
theorem Z69 {α:Type} (o:Option Nat) (xs:List α):Z68 o xs=xs.drop (Y4 o):=by cases o<;>rfl
theorem Zaf (f:Nat->List AV) (o:Option Nat) (i:Nat):Zbx f o i=f (i+Y4 o):=by cases o<;>rfl
inductive Z2o (E:Env):Option AV->Option Value->Prop
 | none:Z2o E none none
 | some (v:AV) (r:Value) (h:Zh E v r):Z2o E (some v) (some r)
theorem Va {lo hi:Option AV} {len bound:Nat} {K:Option Nat->Nat->Prop} (hl:Z3O lo hi len bound K) (hlb:len<=bound):
  ∃l hh,K l hh/\Y4 l<=hh/\hh<=bound/\∀(P:Program) (E:Env) (w:World) (isS:Bool) (rlo rhi:Option Value) (cap:Nat),bound<=cap->Z2o E lo rlo->Z2o E hi rhi->
   (Instr.sliceBounds isS len cap rlo rhi none).run P w=.ok (Y4 l,hh,cap) w:=by
 unfold Z3O at hl
 split at hl
 ·refine ⟨_,_,hl,JC _,hlb,fun P E w isS rlo rhi cap hc h1 h2=> ?_⟩
  cases h1;cases h2
  simp [Instr.sliceBounds,Y4]
 ·rename_i k j
  obtain ⟨⟨a1,a2⟩,hK⟩:=Zb hl
  refine ⟨_,_,hK,JC _,by omega,fun P E w isS rlo rhi cap hc h1 h2=> ?_⟩
  cases h1;cases h2 with
  | some v r hv=>
   cases hv
   have:j<=(cap:Int):=by omega
   simp [Instr.sliceBounds,Instr.sliceBound,asIntOf,a1,this,Y4]
 ·rename_i k i
  obtain ⟨⟨a1,a2⟩,hK⟩:=Zb hl
  refine ⟨_,_,hK,by simp [Y4];omega,hlb,fun P E w isS rlo rhi cap hc h1 h2=> ?_⟩
  cases h2;cases h1 with
  | some v r hv=>
   cases hv
   simp [Instr.sliceBounds,Instr.sliceBound,asIntOf,a1,a2,Y4]
 ·rename_i k i k' j
  obtain ⟨⟨a1,a2,a3⟩,hK⟩:=Zb hl
  refine ⟨_,_,hK,by simp [Y4];omega,by omega,fun P E w isS rlo rhi cap hc h1 h2=> ?_⟩
  cases h1 with
  | some v r hv=>
   cases h2 with
   | some v' r' hv'=>
    cases hv;cases hv'
    have e1:j<=(cap:Int):=by omega
    have e2:0<=j:=by omega
    have e3:i<=(j.toNat:Int):=by omega
    simp [Instr.sliceBounds,Instr.sliceBound,asIntOf,a1,e1,e2,Y4]
    omega
 ·exact hl.elim
def Zby (h:Z8) (p:ZM) (n:Nat):Bool:=
 match h.get p.blk,p.inn with
 | some (.flat cs),0=>match p.row with
  | 0=>match YF p.off cs with
   | some rest=>Nat.ble n (csz rest)
   | none=>false
  | _+1=>false
 | some (.rows sz _ f),0=>match Nat.beq sz p.sz with
  | true=>match YF p.off (f p.row) with
   | some rest=>Nat.ble n (csz rest)
   | none=>false
  | false=>false
 | _,_=>false
def Zbz (h:Z8) (p:ZM):Bool:=
 match h.get p.blk with
 | some (.rows _ m _)=>Nat.blt p.row m
 | _=>true
theorem ZbA {h:Z8} {p:ZM} {n:Nat} (hr:Zby h p n=true) (hi:Zbz h p=true) {E:Env} {w:World} {b N:Nat} (he:Emb E h w) (hb:E.blk p.blk=some (b,N)):p.tot+n<=N\/n=0:=by
 unfold Zby at hr
 split at hr
 ·rename_i cs hg hinn
  split at hr
  ·rename_i hrow
   split at hr
   ·rename_i rest hd
    have hn:=Vt hr
    have hB:=he.own _ _ hg
    cases hB with
    | flat0 cs h0 hn=>rw [hn] at hb;cases hb
    | flat cs b' cells elem fr vs hb' hw hf hc hv=>
     rw [hb'] at hb
     injection hb with hb
     injection hb with h1 h2
     subst h1
     obtain ⟨h1,h3⟩:=Y2 cs _ rest vs hd hc
     have hl:=h1.length
     have hvl:vs.length<=cells.size:=by
      rcases JM vs.length with h0|h0
      ·omega
      ·have:=hv (vs.length-1) _ (Je (by omega))
       rcases J9 (vs.length-1) cells.size with hh|hh
       ·omega
       ·rw [Jo hh] at this;cases this
     simp only [Jt] at hl
     left
     simp [ZM.tot,hrow,hinn];omega
   ·cases hr
  ·cases hr
 ·rename_i sz m f hg hinn
  split at hr
  ·rename_i hbs
   have hsz:sz=p.sz:=J0 hbs
   split at hr
   ·rename_i rest hd
    have hn:=Vt hr
    have hB:=he.own _ _ hg
    have hrow:p.row<m:=by
     simp only [Zbz,hg] at hi
     have:=Jk hi
     omega
    cases hB with
    | rows0 sz n f h0 hn=>rw [hn] at hb;cases hb
    | rows sz n f b' cells elem fr g hb' hw hf hc hlen hv=>
     rw [hb'] at hb
     injection hb with hb
     injection hb with h1 h2
     subst h1
     obtain ⟨h1,h3⟩:=Y2 _ _ rest _ hd (hc _ hrow)
     have hl:=h1.length
     simp only [Jt] at hl
     rcases JM (csz rest) with h0|h0
     ·right;omega
     ·left
      have:=hv p.row ((g p.row).length-1) _ hrow (Je (by omega))
      rcases J9 (p.row*sz+((g p.row).length-1)) cells.size with hh|hh
      ·simp [ZM.tot,hinn,<-hsz];omega
      ·rw [Jo hh] at this;cases this
   ·cases hr
  ·cases hr
 ·cases hr
def Z7t (P:Program) (h:Z8) (T:TypeId) (x:AV) (lo hi mx:Option AV) (K:AV->Prop):Prop:=
 match P.underlying T with
 | some (.array n e)=>match Ya P e,mx with
  | some esz,none=>match (Xr P e&& !(Nat.beq esz 1))||Nat.beq esz 0 with
   | false=>match x with
    | .ptr (some p)=>match Zby h p (n*esz) with
     | true=>Z7 (Zbz h p) (Z3O lo hi n n fun l hh=>K (.nslice (Z67 P h e esz p (Y4 l)) esz (Z0j hh l) (Z0j n l))) False
     | false=>False
    | .pview (.arr k m xs::_) 0=>match Nat.beq m n&&Nat.beq esz 1 with
     | true=>Z6 (xs.length=n) (Z3O lo hi n n fun l hh=>K (.vints k (Z68 l xs) (Z0j hh l)))
     | false=>False
    | _=>False
   | true=>False
  | _,_=>False
 | some (.slice e)=>match mx with
  | some (.int _ m)=>match lo,hi with
   | none,some (.int _ j)=>match x with
    | .nslice _ _ _ _|.vints _ _ _|.vrows _ _ _ _|.eslice|.fslice|.nilslice=>Z6 ((m=0/\j=0)/\(Ya P e).isSome=true) (K .eslice)
    | _=>False
   | _,_=>False
  | some _=>False
  | none=>match Ya P e with
   | some esz=>match x with
    | .nslice p esz' len lob=>match Nat.beq esz esz',(Xr P e&& !(Nat.beq esz 1)) with
     | true,false=>Z6 (len<=lob) (Z3O lo hi len lob fun l hh=>K (.nslice (Z67 P h e esz p (Y4 l)) esz (Z0j hh l) (Z0j lob l)))
     | _,_=>False
    | .vints k xs len=>match Nat.beq esz 1 with
     | true=>Z6 (len<=xs.length) (Z3O lo hi len xs.length fun l hh=>K (.vints k (Z68 l xs) (Z0j hh l)))
     | false=>False
    | .vrows esz' n f len=>match Nat.beq esz esz' with
     | true=>Z6 (len<=n) (Z3O lo hi len n fun l hh=>K (.vrows esz (Z0j n l) (Zbx f l) (Z0j hh l)))
     | false=>False
    | .eslice=>Z3O lo hi 0 0 fun _ _=>K .eslice
    | .nilslice=>Z3O lo hi 0 0 fun _ _=>K .nilslice
    | _=>False
   | none=>False
 | some .string=>match mx,x with
  | none,.str s=>Z3O lo hi s.size s.size fun l hh=>K (.str (s.extract (Y4 l) hh))
  | _,_=>False
 | _=>False
theorem Z2p (xs:List Int) (n i:Nat):(xs.drop n).getD i 0=xs.getD (n+i) 0:=by
 simp [J2,Jm]
theorem run_sliceAt_slice {P:Program} {T e:TypeId} (hu:P.underlying T=some (.slice e)) (r:Value) (lo hi mx:Option Value) (w:World):
  (Instr.sliceAt T r lo hi mx).run P w=(Instr.slice T r lo hi mx).run P w:=by
 unfold Instr.sliceAt
 simp [Zc hu]
theorem Zag {P:Program} {h:Z8} {T:TypeId} {x:AV} {lo hi mx:Option AV} {K:AV->Prop} (hl:Z7t P h T x lo hi mx K):
  ∃v,K v/\∀(E:Env) (w:World) (r:Value) (rlo rhi rmx:Option Value),Emb E h w->Zh E x r->Z2o E lo rlo->Z2o E hi rhi->Z2o E mx rmx->
   ∃r',(Instr.sliceAt T r rlo rhi rmx).run P w=.ok r' w/\Zh E v r':=by
 unfold Z7t at hl
 split at hl
 ·-- an array
  rename_i n e hu
  split at hl
  ·rename_i esz hs
   split at hl
   ·rename_i hb2
    have hpos:0<esz:=by
     rcases JM esz with h0|h0
     ·rw [h0] at hb2;simp at hb2
     ·exact h0
    have h1z:Xr P e=true->esz=1:=fun he=>by rw [he] at hb2;simp at hb2;exact hb2.1
    split at hl
    ·rename_i p
     split at hl
     ·rename_i hroom
      obtain ⟨hrow,hl⟩:=ZeE hl
      obtain ⟨l,hh,hK,hle,hhb,hrun⟩:=Va hl (J4 _)
      refine ⟨_,hK,fun E w r rlo rhi rmx he hx h1 h2 h3=> ?_⟩
      cases h3
      cases hx with
      | ptr p b N hb=>
       have hr:=hrun P E w false rlo rhi n (J4 _) h1 h2
       have hroom':=ZbA hroom hrow he hb
       rw [V9,V9]
       refine ⟨.slice (some (if n=Y4 l then ⟨b,p.tot,none⟩ else (⟨b,p.tot,none⟩:Addr).add (Y4 l*esz))) (hh-Y4 l) (n-Y4 l), ?_, ?_⟩
       ·simp [Instr.sliceAt,Zc hu,Instr.sureAddr,hr,run_sizeOf hs]
       ·by_cases hnl:n=Y4 l
        ·have z1:hh-Y4 l=0:=by omega
         have z2:n-Y4 l=0:=by omega
         rw [z1,z2]
         exact .nslice0 _ _ 0 0 _ rfl rfl
        ·rw [if_neg hnl,Xh]
         have et:=Z2n P h e esz p (Y4 l) h1z
         rw [<-et]
         refine .nslice _ _ _ _ b N _ (by rw [Z2m];exact hb) (by omega) (J4 _) ?_
         rw [et]
         have:Y4 l*esz+(n-Y4 l)*esz=n*esz:=by rw [<-Nat.add_mul];congr 1;omega
         rcases hroom' with hroom'|hz
         ·omega
         ·exfalso
          have:n*esz>=n:=Nat.le_mul_of_pos_right n hpos
          omega
     ·exact hl.elim
    ·rename_i k m xs rest
     split at hl
     ·rename_i hbm
      rw [J3] at hbm
      have hm:m=n:=J0 hbm.1
      have h1e:esz=1:=J0 hbm.2
      subst hm
      subst h1e
      obtain ⟨hxl,hl⟩:=Zb hl
      obtain ⟨l,hh,hK,hle,hhb,hrun⟩:=Va hl (J4 _)
      refine ⟨_,hK,fun E w r rlo rhi rmx he hx h1 h2 h3=> ?_⟩
      cases h3
      cases hx with
      | pview cs inn a vs hc hi=>
       obtain ⟨ws,rfl,_⟩:=hc.cons_arr
       have hr:=hrun P E w false rlo rhi m (J4 _) h1 h2
       rw [V9,Z69]
       refine ⟨.slice (some (if m=Y4 l then a else a.add (Y4 l*1))) (hh-Y4 l) (m-Y4 l), ?_, ?_⟩
       ·simp [Instr.sliceAt,Zc hu,Instr.sureAddr,hr,run_sizeOf hs,X8]
       ·refine .vints _ _ _ _ _ (by simp;omega) (by simp;omega) (fun i hi'=> ?_)
        simp only [Jt] at hi'
        rw [if_neg (by omega),K1,Addr.add_add,Z2p]
        apply hi
        rw [Jb (by rw [Z9];omega),Zn (by omega)]
     ·exact hl.elim
    ·exact hl.elim
   ·exact hl.elim
  ·exact hl.elim
 ·-- a slice
  rename_i e hu
  split at hl
  ·-- with a bound of its capacity
   rename_i k m
   split at hl
   ·rename_i k' j
    have key:Z6 ((m=0/\j=0)/\(Ya P e).isSome=true) (K .eslice)->(∀(E:Env) (r:Value),Zh E x r->∃a len cap,r=.slice a len cap)->
      ∃v,K v/\∀(E:Env) (w:World) (r:Value) (rlo rhi rmx:Option Value),Emb E h w->Zh E x r->Z2o E none rlo->Z2o E (some (.int k' j)) rhi->Z2o E (some (.int k m)) rmx->
       ∃r',(Instr.sliceAt T r rlo rhi rmx).run P w=.ok r' w/\Zh E v r':=by
     intro hneed hform
     obtain ⟨⟨⟨rfl,rfl⟩,hsz⟩,hK⟩:=Zb hneed
     obtain ⟨esz,hs⟩:=Kh.1 hsz
     refine ⟨_,hK,fun E w r rlo rhi rmx he hx h1 h2 h3=> ?_⟩
     obtain ⟨a,len,cap,rfl⟩:=hform E r hx
     cases h1
     cases h2 with
     | some v r2 hv2=>
      cases h3 with
      | some v3 r3 hv3=>
       cases hv2;cases hv3
       rw [run_sliceAt_slice hu]
       exact ⟨.slice a 0 0,by simp [Instr.slice,Zc hu,Instr.sliceBounds,Instr.sliceBound,asIntOf,run_sizeOf hs],.eslice a⟩
    cases x with
    | nslice p esz len lo=>exact key hl (fun E r hx=>by cases hx<;>exact ⟨_,_,_,rfl⟩)
    | vints k xs len=>exact key hl (fun E r hx=>by cases hx<;>exact ⟨_,_,_,rfl⟩)
    | vrows esz n f len=>exact key hl (fun E r hx=>by cases hx<;>exact ⟨_,_,_,rfl⟩)
    | eslice=>exact key hl (fun E r hx=>by cases hx;exact ⟨_,_,_,rfl⟩)
    | fslice=>exact key hl (fun E r hx=>by cases hx;exact ⟨_,_,_,rfl⟩)
    | nilslice=>exact key hl (fun E r hx=>by cases hx;exact ⟨_,_,_,rfl⟩)
    | _=>exact hl.elim
   ·exact hl.elim
  ·exact hl.elim
  ·split at hl
   ·rename_i esz hs
    split at hl
    ·rename_i p esz' len lob
     split at hl
     ·rename_i hb1 hb2
      have hee:esz=esz':=J0 hb1
      subst hee
      have h1z:Xr P e=true->esz=1:=fun he=>by rw [he] at hb2;simp at hb2;exact hb2
      obtain ⟨hlb,hl⟩:=Zb hl
      obtain ⟨l,hh,hK,hle,hhb,hrun⟩:=Va hl hlb
      refine ⟨_,hK,fun E w r rlo rhi rmx he hx h1 h2 h3=> ?_⟩
      cases h3
      rw [run_sliceAt_slice hu,V9,V9]
      cases hx with
      | nslice0 p esz len lo a e1 e2=>
       subst e1;subst e2
       have hr:=hrun P E w true rlo rhi 0 (J4 _) h1 h2
       have z:Y4 l=0:=by omega
       have z2:hh=0:=by omega
       subst z2
       rw [z] at hr⊢
       exact ⟨.slice a 0 0,by simp [Instr.slice,Zc hu,hr,run_sizeOf hs],.nslice0 _ _ _ _ _ rfl rfl⟩
      | nslice p esz len lo b N cap hb c1 c2 c3=>
       have hr:=hrun P E w true rlo rhi cap c2 h1 h2
       refine ⟨.slice (if cap=Y4 l then some ⟨b,p.tot,none⟩ else some ((⟨b,p.tot,none⟩:Addr).add (Y4 l*esz))) (hh-Y4 l) (cap-Y4 l), ?_, ?_⟩
       ·simp [Instr.slice,Zc hu,hr,run_sizeOf hs]
       ·by_cases hcl:cap=Y4 l
        ·have z1:hh-Y4 l=0:=by omega
         have z2:lob-Y4 l=0:=by omega
         have z3:cap-Y4 l=0:=by omega
         rw [z1,z2,z3]
         exact .nslice0 _ _ 0 0 _ rfl rfl
        ·rw [if_neg hcl,Xh]
         have et:=Z2n P h e esz p (Y4 l) h1z
         rw [<-et]
         refine .nslice _ _ _ _ b N _ (by rw [Z2m];exact hb) (by omega) (by omega) ?_
         rw [et]
         have:Y4 l*esz+(cap-Y4 l)*esz=cap*esz:=by rw [<-Nat.add_mul];congr 1;omega
         omega
     ·exact hl.elim
    ·rename_i k xs len
     split at hl
     ·rename_i hb
      have he1:esz=1:=J0 hb
      subst he1
      obtain ⟨hlb,hl⟩:=Zb hl
      obtain ⟨l,hh,hK,hle,hhb,hrun⟩:=Va hl hlb
      refine ⟨_,hK,fun E w r rlo rhi rmx he hx h1 h2 h3=> ?_⟩
      cases h3
      rw [run_sliceAt_slice hu,V9,Z69]
      cases hx with
      | vintsNil k xs len e1 e2=>
       subst e1;subst e2
       have hr:=hrun P E w true rlo rhi 0 (J4 _) h1 h2
       simp only [Jy] at hhb
       have z:Y4 l=0:=by omega
       have z2:hh=0:=by omega
       subst z2
       rw [z] at hr⊢
       exact ⟨.slice none 0 0,by simp [Instr.slice,Zc hu,hr,run_sizeOf hs],.vintsNil _ _ _ rfl rfl⟩
      | vints k xs len a cap c1 c2 ci=>
       have hr:=hrun P E w true rlo rhi cap c2 h1 h2
       refine ⟨.slice (if cap=Y4 l then some a else some (a.add (Y4 l*1))) (hh-Y4 l) (cap-Y4 l), ?_, ?_⟩
       ·simp [Instr.slice,Zc hu,hr,run_sizeOf hs]
       ·have:(if cap=Y4 l then some a else some (a.add (Y4 l*1)))=some (if cap=Y4 l then a else a.add (Y4 l*1)):=by split<;>rfl
        rw [this]
        refine .vints _ _ _ _ _ (by simp;omega) (by simp;omega) (fun i hi'=> ?_)
        simp only [Jt] at hi'
        rw [if_neg (by omega),K1,Addr.add_add,Z2p]
        exact ci _ (by omega)
     ·exact hl.elim
    ·rename_i esz' n f len
     split at hl
     ·rename_i hb
      have hee:esz=esz':=J0 hb
      subst hee
      obtain ⟨hlb,hl⟩:=Zb hl
      obtain ⟨l,hh,hK,hle,hhb,hrun⟩:=Va hl hlb
      refine ⟨_,hK,fun E w r rlo rhi rmx he hx h1 h2 h3=> ?_⟩
      cases h3
      rw [run_sliceAt_slice hu,V9,V9]
      cases hx with
      | vrowsNil esz n f len e1 e2=>
       subst e1;subst e2
       have hr:=hrun P E w true rlo rhi 0 (J4 _) h1 h2
       have z:Y4 l=0:=by omega
       have z2:hh=0:=by omega
       subst z2
       rw [z] at hr⊢
       exact ⟨.slice none 0 0,by simp [Instr.slice,Zc hu,hr,run_sizeOf hs],.vrowsNil _ _ _ _ rfl rfl⟩
      | vrows esz n f len a cap g c1 c2 cc cl ci=>
       have hr:=hrun P E w true rlo rhi cap c2 h1 h2
       refine ⟨.slice (if cap=Y4 l then some a else some (a.add (Y4 l*esz))) (hh-Y4 l) (cap-Y4 l), ?_, ?_⟩
       ·simp [Instr.slice,Zc hu,hr,run_sizeOf hs]
       ·have:(if cap=Y4 l then some a else some (a.add (Y4 l*esz)))=some (if cap=Y4 l then a else a.add (Y4 l*esz)):=by split<;>rfl
        rw [this]
        refine .vrows _ _ _ _ _ _ (fun i=>g (i+Y4 l)) (by omega) (by omega) (fun i hi'=> ?_) (fun i hi'=>cl _ (by omega)) (fun i j c hi' hj=> ?_)
        ·rw [Zaf];exact cc _ (by omega)
        ·rw [if_neg (by omega),Addr.add_add]
         have e1:Y4 l*esz+(i*esz+j)=(i+Y4 l)*esz+j:=by rw [JT];omega
         rw [e1]
         exact ci _ _ _ (by omega) hj
     ·exact hl.elim
    ·obtain ⟨l,hh,hK,hle,hhb,hrun⟩:=Va hl (J4 _)
     refine ⟨_,hK,fun E w r rlo rhi rmx he hx h1 h2 h3=> ?_⟩
     cases h3
     rw [run_sliceAt_slice hu]
     cases hx with
     | eslice a=>
      have hr:=hrun P E w true rlo rhi 0 (J4 _) h1 h2
      have z:Y4 l=0:=by omega
      have z2:hh=0:=by omega
      subst z2
      rw [z] at hr
      exact ⟨.slice a 0 0,by simp [Instr.slice,Zc hu,hr,run_sizeOf hs],.eslice a⟩
    ·obtain ⟨l,hh,hK,hle,hhb,hrun⟩:=Va hl (J4 _)
     refine ⟨_,hK,fun E w r rlo rhi rmx he hx h1 h2 h3=> ?_⟩
     cases h3
     rw [run_sliceAt_slice hu]
     cases hx with
     | nilslice=>
      have hr:=hrun P E w true rlo rhi 0 (J4 _) h1 h2
      have z:Y4 l=0:=by omega
      have z2:hh=0:=by omega
      subst z2
      rw [z] at hr
      exact ⟨.slice none 0 0,by simp [Instr.slice,Zc hu,hr,run_sizeOf hs],.nilslice⟩
    ·exact hl.elim
   ·exact hl.elim
 ·-- a string
  rename_i hu
  split at hl
  ·rename_i s
   obtain ⟨l,hh,hK,hle,hhb,hrun⟩:=Va hl (J4 _)
   refine ⟨_,hK,fun E w r rlo rhi rmx he hx h1 h2 h3=> ?_⟩
   cases h3
   cases hx with
   | str s=>
    have hr:=hrun P E w false rlo rhi s.size (J4 _) h1 h2
    exact ⟨.string (s.extract (Y4 l) hh),by simp [Instr.sliceAt,Instr.slice,Zc hu,hr],.str _⟩
  ·exact hl.elim
 ·exact hl.elim
def ZjG:Nat->List AV->List AV
 | 0,_=>[]
 | n+1,cs=>cs++ZjG n cs
def ZbB (P:Program):Nat->TypeId->Option (List AV)
 | 0,_=>none
 | n+1,t=>match P.underlying t with
  | some .bool=>some [.bool false]
  | some (.int k)=>some [.int k 0]
  | some .string=>some [.str ByteArray.empty]
  | some (.pointer _)=>some [.ptr none]
  | some (.slice _)=>some [.nilslice]
  | some (.map _ _)=>some [.map none]
  | some (.func _ _ _)=>some [.nilFunc]
  | some (.interface _)=>some [.nilIface]
  | some (.array m e)=>match P.underlying e with
   | some (.int k)=>some [.arr k m (List.replicate m 0)]
   | _=>match ZbB P n e with
    | some cs=>some (ZjG m cs)
    | none=>none
  | some (.struct fs)=>fs.toList.foldr (fun f acc=>match ZbB P n f.type,acc with|some a,some b=>some (a++b)|_,_=>none) (some [])
  | _=>none
def QI (k:IntKind):List Int->List Value->Option (List Value)
 | [],vs=>some vs
 | x::xs,.int k' y::vs=>match decide (k=k')&&decide (x=y) with
  | true=>QI k xs vs
  | false=>none
 | _,_=>none
def Z4Z (s:ByteArray):Bool:=match s.data.toList with|[]=>true|_::_=>false
def ZP:List AV->List Value->Bool
 | [],[]=>true
 | .bool b::r,.bool c::s=>match decide (b=c) with|true=>ZP r s|false=>false
 | .int k n::r,.int k' n'::s=>match decide (k=k')&&decide (n=n') with|true=>ZP r s|false=>false
 | .str a::r,.string b::s=>match Z4Z a&&Z4Z b with|true=>ZP r s|false=>false
 | .ptr none::r,.pointer none::s=>ZP r s
 | .nilslice::r,.slice none 0 0::s=>ZP r s
 | .map none::r,.map none::s=>ZP r s
 | .nilFunc::r,.nilFunc::s=>ZP r s
 | .nilIface::r,.nilIface::s=>ZP r s
 | .arr k n xs::r,vs=>match Nat.beq n xs.length with
  | true=>match QI k xs vs with
   | some s=>ZP r s
   | none=>false
  | false=>false
 | _,_=>false
theorem Z40 {k:IntKind}:∀(xs:List Int) (vs s:List Value),QI k xs vs=some s->vs=intCells k xs.length xs++s
 | [],vs,s,h=>by simp [QI] at h;subst h;simp [intCells]
 | x::xs,vs,s,h=>by
  cases vs with
  | nil=>simp [QI] at h
  | cons v vs=>
   cases v with
   | int k' y=>
    simp only [QI] at h
    split at h
    ·rename_i hb
     rw [J3,decide_eq_true_eq,decide_eq_true_eq] at hb
     obtain ⟨rfl,rfl⟩:=hb
     have ih:=Z40 xs vs s h
     rw [ih]
     simp only [intCells,Js,List.range_succ_eq_map,K8,List.getD_cons_zero,List.map_map,Kw]
     congr 2
    ·cases h
   | _=>simp [QI] at h
theorem Z41 {s:ByteArray} (h:Z4Z s=true):s=ByteArray.empty:=by
 unfold Z4Z at h
 split at h
 ·rename_i hl
  obtain ⟨d⟩:=s
  simp at hl
  subst hl
  rfl
 ·cases h
theorem Z7u {E:Env}:∀(cs:List AV) (vs:List Value),ZP cs vs=true->Zr E cs vs:=by
 intro cs
 induction cs with
 | nil=>
  intro vs h
  cases vs with
  | nil=>exact .nil
  | cons v vs=>simp [ZP] at h
 | cons a r ih=>
  intro vs h
  cases a with
  | bool b=>
   cases vs with
   | nil=>simp [ZP] at h
   | cons v vs=>
    cases v<;>simp only [ZP] at h<;>try (cases h;done)
    split at h
    ·rename_i hd;rw [decide_eq_true_eq] at hd;subst hd;exact .one _ _ _ _ rfl rfl (.bool _) (ih _ h)
    ·cases h
  | int k n=>
   cases vs with
   | nil=>simp [ZP] at h
   | cons v vs=>
    cases v<;>simp only [ZP] at h<;>try (cases h;done)
    split at h
    ·rename_i hd
     rw [J3,decide_eq_true_eq,decide_eq_true_eq] at hd
     obtain ⟨rfl,rfl⟩:=hd
     exact .one _ _ _ _ rfl rfl (.int _ _) (ih _ h)
    ·cases h
  | str s=>
   cases vs with
   | nil=>simp [ZP] at h
   | cons v vs=>
    cases v<;>simp only [ZP] at h<;>try (cases h;done)
    split at h
    ·rename_i hd
     rw [J3] at hd
     rw [Z41 hd.1,Z41 hd.2]
     exact .one _ _ _ _ rfl rfl (.str _) (ih _ h)
    ·cases h
  | ptr p=>
   cases p with
   | some p=>cases vs<;>simp [ZP] at h
   | none=>
    cases vs with
    | nil=>simp [ZP] at h
    | cons v vs=>
     cases v with
     | pointer q=>
      cases q with
      | some q=>simp [ZP] at h
      | none=>exact .one _ _ _ _ rfl rfl .nilptr (ih _ (by simpa [ZP] using h))
     | _=>simp [ZP] at h
  | nilslice=>
   cases vs with
   | nil=>simp [ZP] at h
   | cons v vs=>
    cases v with
    | slice q l c=>
     cases q with
     | some q=>simp [ZP] at h
     | none=>
      cases l with
      | succ l=>simp [ZP] at h
      | zero=>
       cases c with
       | succ c=>simp [ZP] at h
       | zero=>exact .one _ _ _ _ rfl rfl .nilslice (ih _ (by simpa [ZP] using h))
    | _=>simp [ZP] at h
  | map p=>
   cases p with
   | some p=>cases vs<;>simp [ZP] at h
   | none=>
    cases vs with
    | nil=>simp [ZP] at h
    | cons v vs=>
     cases v with
     | map q=>
      cases q with
      | some q=>simp [ZP] at h
      | none=>exact .one _ _ _ _ rfl rfl .nilmap (ih _ (by simpa [ZP] using h))
     | _=>simp [ZP] at h
  | nilFunc=>
   cases vs with
   | nil=>simp [ZP] at h
   | cons v vs=>
    cases v with
    | nilFunc=>exact .one _ _ _ _ rfl rfl .nilFunc (ih _ (by simpa [ZP] using h))
    | _=>simp [ZP] at h
  | nilIface=>
   cases vs with
   | nil=>simp [ZP] at h
   | cons v vs=>
    cases v with
    | nilIface=>exact .one _ _ _ _ rfl rfl .nilIface (ih _ (by simpa [ZP] using h))
    | _=>simp [ZP] at h
  | arr k n xs=>
   simp only [ZP] at h
   split at h
   ·rename_i hn
    have hn':n=xs.length:=J0 hn
    split at h
    ·rename_i s hs
     have:=Z40 xs vs s hs
     rw [this,<-hn']
     exact .arr k n xs _ _ (ih _ h)
    ·cases h
   ·cases h
  | _=>cases vs<;>simp [ZP] at h
def Z0k (P:Program) (t:TypeId):Option (List AV):=
 match P.info? t with
 | some i=>match i.zero with
  | some z=>match ZbB P 12 t with
   | some cs=>match ZP cs z.cells.toList with
    | true=>some cs
    | false=>none
   | none=>none
  | none=>none
 | none=>none
theorem WN {P:Program} {t:TypeId} (h:Z0k P t=some cs):
  ∃z:Value,(∀w,(zeroValue t).run P w=.ok z w)/\∀E,Zr E cs z.cells.toList:=by
 unfold Z0k at h
 split at h
 ·rename_i i hi
  split at h
  ·rename_i z hz
   split at h
   ·rename_i cs' hc
    split at h
    ·rename_i hm
     injection h with h
     subst h
     exact ⟨z,fun w=>by simp [zeroValue,typeInfo,hi,hz],fun E=>Z7u _ _ hm⟩
    ·cases h
   ·cases h
  ·cases h
 ·cases h
def Z7v (h:Z8):AV:=.ptr (some ⟨h.next,0,0,0,0⟩)
theorem WP (cells:Array Value):free cells (0,0):=fun o _ h=>by omega
theorem QJ {P:Program} {E:Env} {h:Z8} {w:World} (e:Emb E h w) (elem:TypeId) (cells:Array Value) (B:Blk)
  (hB:∀E' w',E.le E'->E'.blk h.next=some (w.heap.size,cells.size)->w'.heap[w.heap.size]? =some (.cells cells elem (0,0))->Yw E' w' h.next B):
  ∃w' E',(newRow elem cells).run P w=.ok ⟨w.heap.size,0,none⟩ w'/\Evo E h w E' (h.add B) w'/\E'.blk h.next=some (w.heap.size,cells.size):=by
 refine ⟨{ w with heap:=w.heap.push (.cells cells elem (0,0))},E.ext h.next w.heap.size cells.size,by simp [newRow],WH e _ _ _ (hB _ _ (Env.ext_le (e.fresh _ (J4 _))) (Env.ext_same _ _ _ _) ?_),Env.ext_same _ _ _ _⟩
 simp
theorem Z1n {P:Program} {E:Env} {h:Z8} {w:World} (e:Emb E h w) (elem:TypeId) (cs:List AV) (vs:List Value) (hc:Zr E cs vs):
  ∃w' E',(newRow elem vs.toArray).run P w=.ok ⟨w.heap.size,0,none⟩ w'/\Evo E h w E' (h.add (.flat cs)) w'/\E'.blk h.next=some (w.heap.size,vs.length):=by
 obtain ⟨w',E',h1,h2,h3⟩:=QJ (P:=P) e elem vs.toArray (.flat cs) (fun E' w' le hb hw=>.flat cs w.heap.size vs.toArray elem (0,0) vs hb hw (WP _) (hc.mono le) (fun j c hj=>by simpa using hj))
 exact ⟨w',E',h1,h2,by simpa using h3⟩
def Z2q (P:Program) (h:Z8) (t:TypeId) (K:AV->Z8->Prop):Prop:=
 match Z0k P t with
 | some cs=>K (Z7v h) (h.add (.flat cs))
 | none=>False
theorem QK {E:Env} {h:Z8} {b N:Nat} (hb:E.blk h.next=some (b,N)):Zh E (Z7v h) (.pointer (some ⟨b,0,none⟩)):=
 .ptr ⟨h.next,0,0,0,0⟩ b N hb
theorem Zah {P:Program} {h:Z8} {t:TypeId} {K:AV->Z8->Prop} (hl:Z2q P h t K):
  ∃v h',K v h'/\∀(E:Env) (w:World) (x:Value),Emb E h w->∃r w' E',(Instr.alloc t true x).run P w=.ok r w'/\Evo E h w E' h' w'/\Zh E' v r:=by
 unfold Z2q at hl
 split at hl
 ·rename_i cs hz
  obtain ⟨z,hz1,hz2⟩:=WN hz
  refine ⟨_,_,hl,fun E w x he=> ?_⟩
  obtain ⟨w',E',h1,h2,h3⟩:=Z1n (P:=P) he t cs z.cells.toList (hz2 E)
  refine ⟨_,w',E', ?_,h2,QK h3⟩
  have h1':(newRow t z.cells).run P w=.ok ⟨w.heap.size,0,none⟩ w':=by simpa using h1
  simp [Instr.alloc,hz1,newVar,h1']
 ·exact hl.elim
def ZhF (h:Z8) (v:AV) (K:AV->Z8->Prop):Prop:=
 match Xv v with
 | some cs=>K (Z7v h) (h.add (.flat cs))
 | none=>False
theorem ZeF {h:Z8} {K:AV->Z8->Prop} (hl:ZhF h v K) (P:Program) (t:TypeId):
  ∃x h',K x h'/\∀(E:Env) (w:World) (rv:Value),Emb E h w->Zh E v rv->∃r w' E',(Instr.box t rv).run P w=.ok r w'/\Evo E h w E' h' w'/\Zh E' x r:=by
 unfold ZhF at hl
 split at hl
 ·rename_i cs hc
  refine ⟨_,_,hl,fun E w rv he hv=> ?_⟩
  obtain ⟨w',E',h1,h2,h3⟩:=Z1n (P:=P) he t cs rv.cells.toList (Wx hc hv)
  refine ⟨_,w',E', ?_,h2,QK h3⟩
  have h1':(newRow t rv.cells).run P w=.ok ⟨w.heap.size,0,none⟩ w':=by simpa using h1
  simp [Instr.box,newVar,h1']
 ·exact hl.elim
theorem Wu (off:Nat):∀(vs:List Value) (k:Nat) (cells:Array Value),
  (vs.zipIdx k).foldl (fun cs (x:Value×Nat)=>cs.setIfInBounds (off+x.2) x.1) cells=YW cells (off+k) vs
 | [],_,_=>rfl
 | v::r,k,cells=>by
  simp only [List.zipIdx_cons,Ks,YW]
  rw [Wu off r (k+1)]
  rfl
theorem Z0P (place:Nat->Option (Nat×Nat)) (cells:Array Value) (i:Nat) (v:Value) (rest:List (Nat×Value)) (off size:Nat) (hp:place i=some (off,size)) (h1:v.cells.size=size) (h2:off+size<=cells.size):
  Instr.fill place cells ((i,v)::rest)=Instr.fill place (YW cells off v.cells.toList) rest:=by
 simp only [Instr.fill,hp]
 rw [if_neg (by simp;omega)]
 congr 1
 have:=Wu off v.cells.toList 0 cells
 rw [Kq] at this
 rw [<-this,<-Array.foldl_toList]
 simp
theorem Qv (cells:Array Value) (o:Nat) (vs:List Value) (h:o+vs.length<=cells.size):(YW cells o vs).toList=Yt cells.toList o vs:=by
 apply Kv
 intro j
 rw [Uq _ _ _ (by simpa using h)]
 simp only [Array.getElem?_toList]
 split
 ·rename_i hj
  have:=Xq vs o cells (j-o) h (by omega)
  rw [show o+(j-o)=j by omega] at this
  exact this
 ·rename_i hj
  exact YR vs o cells j (by omega)
def Z2r (places:List (Nat×Nat)):List (Nat×AV)->List AV->(List AV->Prop)->Prop
 | [],cs,K=>K cs
 | (i,v)::r,cs,K=>match places[i]? with
  | some (off,sz)=>match Xv v with
   | some news=>match Nat.beq (csz news) sz with
    | true=>Z2j off 0 news cs fun cs'=>Z2r places r cs' K
    | false=>False
   | none=>False
  | none=>False
inductive Z50 (E:Env):List (Nat×AV)->List (Nat×Value)->Prop
 | nil:Z50 E [] []
 | cons (i:Nat) (v:AV) (r:Value) (vs:List (Nat×AV)) (rs:List (Nat×Value)) (h:Zh E v r) (t:Z50 E vs rs):Z50 E ((i,v)::vs) ((i,r)::rs)
theorem Z42 {places:List (Nat×Nat)}:∀(parts:List (Nat×AV)) (cs:List AV) (K:List AV->Prop),Z2r places parts cs K->
  ∃cs',K cs'/\∀(E:Env) (cells:Array Value) (rparts:List (Nat×Value)),Zr E cs cells.toList->Z50 E parts rparts->
   ∃cells',Instr.fill (places.toArray[·]?) cells rparts=some cells'/\Zr E cs' cells'.toList:=by
 intro parts
 induction parts with
 | nil=>
  intro cs K h
  refine ⟨cs,h,fun E cells rparts hc hp=> ?_⟩
  cases hp
  exact ⟨cells,rfl,hc⟩
 | cons p r ih=>
  intro cs K h
  obtain ⟨i,v⟩:=p
  simp only [Z2r] at h
  split at h
  ·rename_i off sz hpl
   split at h
   ·rename_i news hn
    split at h
    ·rename_i hb
     have hsz:csz news=sz:=J0 hb
     obtain ⟨cs1,hK1,hr1⟩:=Z2k _ _ _ _ _ h
     obtain ⟨cs2,hK2,hr2⟩:=ih cs1 K hK1
     refine ⟨cs2,hK2,fun E cells rparts hc hp=> ?_⟩
     cases hp with
     | cons i v rv vs rs hv ht=>
      have hnews:=Wx hn hv
      have hl:=hnews.length
      obtain ⟨hle,hc1⟩:=hr1 E cells.toList rv.cells.toList hc hnews
      have hle':off+rv.cells.size<=cells.size:=by simpa using hle
      rw [Z0P (places.toArray[·]?) cells i rv rs off sz (by simpa using hpl) (by rw [<-hsz,<-hl];simp) (by rw [<-hsz,<-hl];simpa using hle')]
      refine hr2 E _ rs ?_ ht
      rw [Qv _ _ _ (by simpa using hle')]
      simpa using hc1
    ·exact h.elim
   ·exact h.elim
  ·exact h.elim
 
theorem Z2s {E:Env} {h:Z8} {w:World} (e:Emb E h w) (o:Obj):Evo E h w E h { w with heap:=w.heap.push o}:=by
 refine ⟨.refl E,⟨e.fresh,e.lt,fun x B hx=>(e.own x B hx).congr fun b N hb=>World.push_old ((e.own x B hx).lt hb),e.disj,fun a c hi=> ?_,e.sep⟩,by simp,rfl,rfl,⟨rfl,J4 _⟩,fun b hb _=>World.push_old hb,fun b h=>.inl h,fun _ _ h=>h⟩
 have h1:=e.imm a c hi
 have hlt:a.block<w.heap.size:=by
  rcases J9 a.block w.heap.size with hl|hg
  ·exact hl
  ·simp [World.cell?,Jo hg] at h1
 simpa [World.cell?,World.push_old hlt] using h1
def Z0l (P:Program):List Field->Option (List (Nat×Nat))
 | []=>some []
 | f::r=>match Ya P f.type,Z0l P r with
  | some s,some l=>some ((f.offset,s)::l)
  | _,_=>none
theorem run_places {P:Program}:∀(fs:List Field) (l:List (Nat×Nat)),Z0l P fs=some l->∀w,(fs.mapM (m:=Sem) fun (f:Field)=>do pure (f.offset,<-sizeOf f.type)).run P w=.ok l w
 | [],l,h,w=>by simp [Z0l] at h;subst h;simp
 | f::r,l,h,w=>by
  simp only [Z0l] at h
  split at h
  ·rename_i s l' hs hl
   injection h with h
   subst h
   have ih:=run_places r l' hl w
   simp only [List.mapM_cons,J8,run_sizeOf hs,J5,Jl,ih]
  ·cases h
def Vu (k:IntKind):List (Nat×AV)->List Int->Option (List Int)
 | [],xs=>some xs
 | (i,.int k' v)::r,xs=>match decide (k=k')&&Nat.blt i xs.length with
  | true=>Vu k r (xs.set i v)
  | false=>none
 | _,_=>none
theorem Z2t {k:IntKind}:∀(parts:List (Nat×AV)) (xs ys:List Int),Vu k parts xs=some ys->ys.length=xs.length
 | [],xs,ys,h=>by simp [Vu] at h;rw [h]
 | (i,v)::r,xs,ys,h=>by
  cases v with
  | int k' n=>
   simp only [Vu] at h
   split at h
   ·have:=Z2t r _ _ h;simpa using this
   ·cases h
  | _=>simp [Vu] at h
theorem Z43 {k:IntKind} {E:Env}:∀(parts:List (Nat×AV)) (xs ys:List Int) (cells:Array Value) (rparts:List (Nat×Value)),Vu k parts xs=some ys->cells.toList=intCells k xs.length xs->Z50 E parts rparts->
   ∃cells',Instr.fill (fun i=>some (i*1,1)) cells rparts=some cells'/\cells'.toList=intCells k ys.length ys
 | [],xs,ys,cells,rparts,h,hc,hp=>by
  simp [Vu] at h;subst h
  cases hp
  exact ⟨cells,rfl,hc⟩
 | (i,v)::r,xs,ys,cells,rparts,h,hc,hp=>by
  cases v with
  | int k' n=>
   simp only [Vu] at h
   split at h
   ·rename_i hb
    rw [J3,decide_eq_true_eq] at hb
    obtain ⟨rfl,hb⟩:=hb
    have hlt:i<xs.length:=by
     have:=Jk hb
     omega
    cases hp with
    | cons i v rv vs rs hv ht=>
     cases hv
     have hcs:cells.size=xs.length:=by have:=congrArg List.length hc;simpa [Z9] using this
     rw [Z0P _ cells i _ rs (i*1) 1 rfl rfl (by omega)]
     refine Z43 r (xs.set i n) ys _ rs h ?_ ht
     rw [Qv _ _ _ (by simp [Value.cells];omega),hc,K1,Kb,Z0g k xs.length i xs n hlt hlt]
     simp [Yt,Value.cells]
   ·cases h
  | _=>simp [Vu] at h
def Z7w (P:Program) (t:TypeId) (parts:List (Nat×AV)) (K:AV->Prop):Prop:=
 match Z0k P t with
 | none=>False
 | some cs0=>match P.underlying t with
  | some (.struct fields)=>match Z0l P fields.toList with
   | some places=>Z2r places parts cs0 fun cs=>K (.agg cs)
   | none=>False
  | some (.array n e)=>match P.underlying e,Ya P e,cs0 with
   | some (.int k),some 1,[.arr k' n' zs]=>match decide (k=k')&&Nat.beq n n'&&Nat.beq n zs.length with
    | true=>match Vu k parts zs with
     | some xs=>K (.agg [.arr k n xs])
     | none=>False
    | false=>False
   | _,some s,_=>Z2r ((List.range n).map fun i=>(i*s,s)) parts cs0 fun cs=>K (.agg cs)
   | _,none,_=>False
  | _=>False
theorem Z2u {p p':Nat->Option (Nat×Nat)} (h:∀i q,p i=some q->p' i=some q):∀(parts:List (Nat×Value)) (cells c:Array Value),Instr.fill p cells parts=some c->Instr.fill p' cells parts=some c
 | [],_,_,hf=>by simpa [Instr.fill] using hf
 | (i,v)::r,cells,c,hf=>by
  simp only [Instr.fill] at hf⊢
  cases hp:p i with
  | none=>rw [hp] at hf;cases hf
  | some q=>
   rw [hp] at hf
   rw [h i q hp]
   obtain ⟨off,size⟩:=q
   simp only at hf⊢
   split at hf
   ·cases hf
   ·rename_i hc
    rw [if_neg hc]
    exact Z2u h r _ c hf
theorem Zai {P:Program} {t:TypeId} {K:AV->Prop} (hl:Z7w P t parts K):
  ∃v,K v/\∀(E:Env) (w:World) (rparts:List (Nat×Value)),Z50 E parts rparts->∃r,(Instr.build t rparts.toArray).run P w=.ok r w/\Zh E v r:=by
 unfold Z7w at hl
 split at hl
 ·exact hl.elim
 ·rename_i cs0 hz
  obtain ⟨z,hz1,hz2⟩:=WN hz
  split at hl
  ·rename_i fields hu
   split at hl
   ·rename_i places hp
    obtain ⟨cs,hK,hr⟩:=Z42 _ _ _ hl
    refine ⟨_,hK,fun E w rparts hpr=> ?_⟩
    obtain ⟨cells',h1,h2⟩:=hr E z.cells rparts (hz2 E) hpr
    refine ⟨.agg cells', ?_, ?_⟩
    ·have hpl:=run_places fields.toList places hp w
     have h1':Instr.fill (fun x=>places[x]?) z.cells rparts=some cells':=by simpa using h1
     simp only [Instr.build,J8,hz1,J5,Zc hu,Array.mapM_eq_mapM_toList,Sem.run_map,hpl]
     simp [h1']
    ·have:Zh E (.agg cs) (.agg cells'.toList.toArray):=.agg _ _ h2
     simpa using this
   ·exact hl.elim
  ·rename_i n e hu
   split at hl
   ·rename_i k k' n' zs hue hse
    split at hl
    ·rename_i hb
     rw [J3,J3,decide_eq_true_eq] at hb
     obtain ⟨⟨rfl,hb1⟩,hb2⟩:=hb
     have e1:n=n':=J0 hb1
     have e2:n=zs.length:=J0 hb2
     subst e1
     split at hl
     ·rename_i xs hx
      refine ⟨_,hl,fun E w rparts hpr=> ?_⟩
      have hc:=hz2 E
      obtain ⟨ws,hws,hnil⟩:=hc.cons_arr
      cases hnil
      obtain ⟨cells',h1,h2⟩:=Z43 parts zs xs z.cells rparts hx (by rw [hws,<-e2];simp) hpr
      refine ⟨.agg cells', ?_, ?_⟩
      ·simp [Instr.build,hz1,Zc hu,run_sizeOf hse]
       simp at h1
       rw [h1]
       simp
      ·have hlen:=Z2t _ _ _ hx
       have:Zh E (.agg [.arr k n xs]) (.agg (intCells k n xs++[]).toArray):=.agg _ _ (.arr k n xs _ _ .nil)
       rw [JI] at this
       have e3:xs.length=n:=by omega
       rw [<-e3] at this⊢
       rw [<-h2] at this
       simpa using this
     ·exact hl.elim
    ·exact hl.elim
   ·rename_i s hse _
    obtain ⟨cs,hK,hr⟩:=Z42 _ _ _ hl
    refine ⟨_,hK,fun E w rparts hpr=> ?_⟩
    obtain ⟨cells',h1,h2⟩:=hr E z.cells rparts (hz2 E) hpr
    refine ⟨.agg cells', ?_, ?_⟩
    ·have h1':Instr.fill (fun i=>some (i*s,s)) z.cells rparts=some cells':=by
      refine Z2u (fun i q hq=> ?_) rparts _ _ h1
      simp only [K5,K4] at hq
      cases hg:(List.range n)[i]? with
      | none=>rw [hg] at hq;cases hq
      | some j=>
       rw [hg] at hq
       have:i=j:=by
        have:=Jw.1 hg
        obtain ⟨_,h⟩:=this
        simpa using h
       subst this
       exact hq
     simp [Instr.build,hz1,Zc hu,run_sizeOf hse,h1']
    ·have:Zh E (.agg cs) (.agg cells'.toList.toArray):=.agg _ _ h2
     simpa using this
   ·exact hl.elim
  ·exact hl.elim
def Z6a:Nat->List (Nat×AV)->Option (List AV)
 | _,[]=>some []
 | n,(i,v)::r=>match Nat.beq i n with
  | true=>match Z6a (n+1) r with
   | some l=>some (v::l)
   | none=>none
  | false=>none
def Z0Q (k:IntKind):List AV->Option (List Int)
 | []=>some []
 | .int k' n::r=>match decide (k=k') with
  | true=>match Z0Q k r with
   | some l=>some (n::l)
   | none=>none
  | false=>none
 | _=>none
def ZbC (size:Nat):List AV->Option (List AV)
 | []=>some []
 | v::r=>match Xv v with
  | some cs=>match Nat.beq (csz cs) size with
   | true=>match ZbC size r with
    | some l=>some (cs++l)
    | none=>none
   | false=>none
  | none=>none
def Wb:Nat->List Value->List (Nat×Value)
 | _,[]=>[]
 | n,v::r=>(n,v)::Wb (n+1) r
theorem WI {E:Env}:∀(parts:List (Nat×AV)) (n:Nat) (vs:List AV) (rparts:List (Nat×Value)),Z6a n parts=some vs->Z50 E parts rparts->∃rs,Zz E vs rs/\rparts=Wb n rs
 | [],n,vs,rparts,h,hp=>by
  simp [Z6a] at h;subst h;cases hp
  exact ⟨[],.nil,rfl⟩
 | (i,v)::r,n,vs,rparts,h,hp=>by
  simp only [Z6a] at h
  split at h
  ·rename_i hb
   have:i=n:=J0 hb
   subst this
   split at h
   ·rename_i l hl
    injection h with h
    subst h
    cases hp with
    | cons i v rv vs rs hv ht=>
     obtain ⟨rs',h1,h2⟩:=WI r (i+1) l rs hl ht
     exact ⟨rv::rs',.cons _ _ _ _ hv h1,by rw [h2];rfl⟩
   ·cases h
  ·cases h
def Z51:List Value->List Value
 | []=>[]
 | v::r=>v.cells.toList++Z51 r
theorem Z6b (size:Nat):∀(rs:List Value) (k:Nat) (cells:Array Value),(∀r∈rs,r.cells.size=size)->(k+rs.length)*size<=cells.size->
  ∃cells',Instr.fill (fun i=>some (i*size,size)) cells (Wb k rs)=some cells'/\cells'.size=cells.size/\(∀(j:Nat),j<k*size->cells'[j]? =cells[j]?)/\
   ∀(j:Nat) c,(Z51 rs)[j]? =some c->cells'[k*size+j]? =some c
 | [],k,cells,_,_=>⟨cells,rfl,rfl,fun _ _=>rfl,fun j c h=>by simp [Z51] at h⟩
 | r::rs,k,cells,hs,hl=>by
  have hr:r.cells.size=size:=hs r (by simp)
  have e1:(k+(r::rs).length)*size=k*size+size+rs.length*size:=by simp only [Js,JT,Nat.one_mul];omega
  have e2:(k+1)*size=k*size+size:=by rw [JT,Nat.one_mul]
  have e3:(k+1+rs.length)*size=k*size+size+rs.length*size:=by simp only [JT,Nat.one_mul]
  obtain ⟨cells',h1,h2,h3,h4⟩:=Z6b size rs (k+1) (YW cells (k*size) r.cells.toList) (fun x hx=>hs x (by simp [hx])) (by rw [Yi,e3];omega)
  refine ⟨cells', ?_,by rw [h2,Yi], ?_, ?_⟩
  ·simp only [Wb]
   rw [Z0P _ cells k r _ (k*size) size rfl hr (by omega)]
   exact h1
  ·intro j hj
   rw [h3 j (by omega),YR _ _ _ _ (by omega)]
  ·intro j c hc
   simp only [Z51] at hc
   rcases J9 j size with hj|hj
   ·rw [Jb (by simp;omega)] at hc
    rw [h3 _ (by omega)]
    have:=Xq r.cells.toList (k*size) cells j (by simp;omega) (by simp;omega)
    rw [this];exact hc
   ·rw [Jf (by simp;omega)] at hc
    simp only [Array.length_toList,hr] at hc
    have:=h4 (j-size) c hc
    rw [e2,show k*size+size+(j-size)=k*size+j by omega] at this
    exact this
theorem Z2v {E:Env} {size:Nat}:∀(vs:List AV) (rs:List Value) (cs:List AV),ZbC size vs=some cs->Zz E vs rs->Zr E cs (Z51 rs)/\∀r∈rs,r.cells.size=size
 | [],rs,cs,h,hr=>by
  simp [ZbC] at h;subst h;cases hr
  exact ⟨.nil,by simp⟩
 | v::r,rs,cs,h,hr=>by
  simp only [ZbC] at h
  split at h
  ·rename_i c hc
   split at h
   ·rename_i hb
    split at h
    ·rename_i l hl
     injection h with h
     subst h
     cases hr with
     | cons v rv vs rs hv ht=>
      obtain ⟨h1,h2⟩:=Z2v r rs l hl ht
      have hcv:=Wx hc hv
      refine ⟨hcv.append h1,fun x hx=> ?_⟩
      rcases Jd.1 hx with rfl|hx
      ·have:=hcv.length
       rw [J0 hb] at this
       simpa using this
      ·exact h2 x hx
    ·cases h
   ·cases h
  ·cases h
theorem QL {E:Env} {k:IntKind}:∀(vs:List AV) (rs:List Value) (xs:List Int),Z0Q k vs=some xs->Zz E vs rs->xs.length=rs.length/\(∀r∈rs,r.cells.size=1)/\∀(j:Nat),j<xs.length->(Z51 rs)[j]? =some (.int k (xs.getD j 0))
 | [],rs,xs,h,hr=>by
  simp [Z0Q] at h;subst h;cases hr
  exact ⟨rfl,by simp,fun j hj=>by simp at hj⟩
 | v::r,rs,xs,h,hr=>by
  cases v with
  | int k' n=>
   simp only [Z0Q] at h
   split at h
   ·rename_i hd
    rw [decide_eq_true_eq] at hd
    subst hd
    split at h
    ·rename_i l hl
     injection h with h
     subst h
     cases hr with
     | cons v rv vs rs hv ht=>
      cases hv
      obtain ⟨h0,h1,h2⟩:=QL r rs l hl ht
      refine ⟨by simp [h0],fun x hx=> ?_,fun j hj=> ?_⟩
      ·rcases Jd.1 hx with rfl|hx
       ·rfl
       ·exact h1 x hx
      ·cases j with
       | zero=>simp [Z51,Value.cells]
       | succ j=>
        simp only [Z51,Value.cells,Kw,JZ,Ka,List.getD_cons_succ]
        exact h2 j (by simpa using hj)
    ·cases h
   ·cases h
  | _=>simp [Z0Q] at h
def Wc (P:Program) (h:Z8) (t:TypeId) (len:Nat) (parts:List (Nat×AV)) (K:AV->Z8->Prop):Prop:=
 match P.underlying t with
 | some (.slice e)=>match Ya P e,Z6a 0 parts with
  | some size,some vs=>match Nat.beq vs.length len,Nat.ble (len*size) 16777216,Z0k P e with
   | true,true,some _=>match vs with
    | []=>K .eslice h
    | _::_=>match P.underlying e,Nat.beq size 1 with
     | some (.int k),true=>match Z0Q k vs with
      | some xs=>K (.nslice ⟨h.next,0,0,0,0⟩ 1 len len) (h.add (.ints k xs))
      | none=>False
     | some (.int _),false=>False
     | _,_=>match ZbC size vs with
      | some cs=>K (.nslice ⟨h.next,0,0,0,0⟩ size len len) (h.add (.flat cs))
      | none=>False
   | _,_,_=>False
  | _,_=>False
 | _=>False
theorem Zz.length {E:Env}:∀{vs:List AV} {rs:List Value},Zz E vs rs->rs.length=vs.length
 | _,_,.nil=>rfl
 | _,_,.cons _ _ _ _ _ t=>by simp [Zz.length t]
theorem run_buildSlice {P:Program} {t e:TypeId} (hu:P.underlying t=some (.slice e)) {size len:Nat} (hs:Ya P e=some size) (hle:len*size<=16777216) (hz:∀w,(zeroValue e).run P w=.ok z w)
  (rs:List Value) (hl:rs.length=len) (h1:∀r∈rs,r.cells.size=size):
  ∃cells:Array Value,cells.size=len*size/\(∀(j:Nat) c,(Z51 rs)[j]? =some c->cells[j]? =some c)/\
   ∀w:World,(Instr.buildSlice t len (Wb 0 rs).toArray).run P w=((newRow e cells).run P w).andThen fun a w'=>.ok (.slice (some a) len len) w':=by
 let z0:Array Value:=if len*size=0 then #[] else z.cells
 let c0:Array Value:=(Array.range (len*size)).map (z0[· %z0.size]!)
 have hc0:c0.size=len*size:=by simp [c0]
 obtain ⟨cells,f1,f2,_,f4⟩:=Z6b size rs 0 c0 h1 (by rw [hc0,JK,hl];exact J4 _)
 refine ⟨cells,by rw [f2,hc0],fun j c hj=>by simpa using f4 j c hj,fun w=> ?_⟩
 simp only [Instr.buildSlice,J8,Zc hu,J5,run_sizeOf hs]
 rw [if_neg (by omega)]
 by_cases hz0:len*size=0
 ·have e0:z0= #[]:=if_pos hz0
  simp only [c0,e0,hz0] at f1
  simp only [hz0,if_true,J8,Jl,J5]
  rw [f1]
  simp
 ·have e0:z0=z.cells:=if_neg hz0
  simp only [hz0,if_false,J8,hz,Jl,J5]
  simp only [c0,e0] at f1
  rw [f1]
  simp
theorem Z2w {P:Program} {h:Z8} {t:TypeId} {len:Nat} {K:AV->Z8->Prop} (hl:Wc P h t len parts K):
  ∃v h',K v h'/\∀(E:Env) (w:World) (rparts:List (Nat×Value)),Emb E h w->Z50 E parts rparts->∃r w' E',(Instr.buildSlice t len rparts.toArray).run P w=.ok r w'/\Evo E h w E' h' w'/\Zh E' v r:=by
 unfold Wc at hl
 split at hl
 ·rename_i e hu
  split at hl
  ·rename_i size vs hs hrow
   split at hl
   ·rename_i zc hb1 hb2 hz
    have hlen:vs.length=len:=J0 hb1
    have hle:=Vt hb2
    obtain ⟨z,hz1,_⟩:=WN hz
    split at hl
    ·refine ⟨_,_,hl,fun E w rparts he hp=> ?_⟩
     obtain ⟨rs,hr1,rfl⟩:=WI _ _ _ _ hrow hp
     cases hr1
     simp only [Jy] at hlen
     subst hlen
     obtain ⟨cells,c1,c2,c3⟩:=run_buildSlice hu hs hle hz1 [] rfl (by simp)
     refine ⟨.slice (some ⟨w.heap.size,0,none⟩) 0 0,{ w with heap:=w.heap.push (.cells cells e (0,0))},E,by rw [c3];simp [newRow],Z2s he _,.eslice _⟩
    ·rename_i v0 vr
     have hpos:0<len:=by rw [<-hlen];simp
     split at hl
     ·rename_i k hue hb
      have hsz:size=1:=J0 hb
      subst hsz
      split at hl
      ·rename_i xs hx
       refine ⟨_,_,hl,fun E w rparts he hp=> ?_⟩
       obtain ⟨rs,hr1,rfl⟩:=WI _ _ _ _ hrow hp
       obtain ⟨i0,i1,i2⟩:=QL _ _ _ hx hr1
       have hrl:rs.length=len:=by rw [hr1.length,hlen]
       obtain ⟨cells,c1,c2,c3⟩:=run_buildSlice hu hs hle hz1 rs hrl i1
       obtain ⟨w',E',n1,n2,n3⟩:=QJ (P:=P) he e cells (.ints k xs) (fun E' w' le hb hw=>.ints k xs w.heap.size cells e (0,0) hb hw (WP _) (fun j hj=>c2 _ _ (i2 j hj)))
       refine ⟨.slice (some ⟨w.heap.size,0,none⟩) len len,w',E',by rw [c3,n1];rfl,n2, ?_⟩
       exact .nslice ⟨h.next,0,0,0,0⟩ 1 len len w.heap.size cells.size len n3 (J4 _) (J4 _) (by simp [ZM.tot,c1])
      ·exact hl.elim
     ·exact hl.elim
     ·split at hl
      ·rename_i cs hcat
       refine ⟨_,_,hl,fun E w rparts he hp=> ?_⟩
       obtain ⟨rs,hr1,rfl⟩:=WI _ _ _ _ hrow hp
       obtain ⟨i1,i2⟩:=Z2v _ _ _ hcat hr1
       have hrl:rs.length=len:=by rw [hr1.length,hlen]
       obtain ⟨cells,c1,c2,c3⟩:=run_buildSlice hu hs hle hz1 rs hrl i2
       obtain ⟨w',E',n1,n2,n3⟩:=QJ (P:=P) he e cells (.flat cs) (fun E' w' le hb hw=>.flat cs w.heap.size cells e (0,0) _ hb hw (WP _) (i1.mono le) c2)
       refine ⟨.slice (some ⟨w.heap.size,0,none⟩) len len,w',E',by rw [c3,n1];rfl,n2, ?_⟩
       exact .nslice ⟨h.next,0,0,0,0⟩ size len len w.heap.size cells.size len n3 (J4 _) (J4 _) (by simp [ZM.tot,c1])
      ·exact hl.elim
   ·exact hl.elim
  ·exact hl.elim
 ·exact hl.elim
def ZhG (P:Program) (h:Z8) (T:TypeId) (x:AV) (K:AV->Prop):Prop:=
 match P.underlying T with
 | some (.slice _)=>match x with
  | .nslice _ _ len _=>K (.int .i64 len)
  | .vints _ _ len=>K (.int .i64 len)
  | .vrows _ _ _ len=>K (.int .i64 len)
  | .eslice=>K (.int .i64 0)
  | .fslice=>K (.int .i64 0)
  | .nilslice=>K (.int .i64 0)
  | _=>False
 | some .string=>match x with
  | .str s=>K (.int .i64 s.size)
  | _=>False
 | some (.array n _)=>K (.int .i64 n)
 | some (.pointer arr)=>match P.underlying arr with
  | some (.array n _)=>K (.int .i64 n)
  | _=>False
 | some (.map _ _)=>match x with
  | .map none=>K (.int .i64 0)
  | .map (some y)=>match h.get y with
   | some (.map es)=>K (.int .i64 es.length)
   | some (.fmap n _ _)=>K (.int .i64 n)
   | _=>False
  | _=>False
 | _=>False
theorem ZeG {P:Program} {h:Z8} {T:TypeId} {x:AV} {K:AV->Prop} (hl:ZhG P h T x K):
  ∃v,K v/\∀(E:Env) (w:World) (r:Value),Emb E h w->Zh E x r->∃r',(Builtin.len_ #[T] ty #[r]).run P w=.ok r' w/\Zh E v r':=by
 unfold ZhG at hl
 split at hl
 ·rename_i e hu
  split at hl
  ·refine ⟨_,hl,fun E w r he hx=> ?_⟩
   cases hx with
   | nslice0 p esz len lo a h1 h2=>subst h1;exact ⟨_,by simp [Builtin.len_,Zc hu,goInt],.int _ _⟩
   | nslice p esz len lo b N cap hb h1 h2 h3=>exact ⟨_,by simp [Builtin.len_,Zc hu,goInt],.int _ _⟩
  ·refine ⟨_,hl,fun E w r he hx=> ?_⟩
   cases hx with
   | vintsNil k xs len h1 h2=>subst h2;exact ⟨_,by simp [Builtin.len_,Zc hu,goInt],.int _ _⟩
   | vints k xs len a cap h1 h2 hi=>exact ⟨_,by simp [Builtin.len_,Zc hu,goInt],.int _ _⟩
  ·refine ⟨_,hl,fun E w r he hx=> ?_⟩
   cases hx with
   | vrowsNil esz n f len h1 h2=>subst h2;exact ⟨_,by simp [Builtin.len_,Zc hu,goInt],.int _ _⟩
   | vrows esz n f len a cap g h1 h2 hc hl hi=>exact ⟨_,by simp [Builtin.len_,Zc hu,goInt],.int _ _⟩
  ·refine ⟨_,hl,fun E w r he hx=> ?_⟩
   cases hx
   exact ⟨_,by simp [Builtin.len_,Zc hu,goInt],.int _ _⟩
  ·refine ⟨_,hl,fun E w r he hx=> ?_⟩
   cases hx
   exact ⟨_,by simp [Builtin.len_,Zc hu,goInt],.int _ _⟩
  ·refine ⟨_,hl,fun E w r he hx=> ?_⟩
   cases hx
   exact ⟨_,by simp [Builtin.len_,Zc hu,goInt],.int _ _⟩
  ·exact hl.elim
 ·rename_i hu
  split at hl
  ·refine ⟨_,hl,fun E w r he hx=> ?_⟩
   cases hx
   exact ⟨_,by simp [Builtin.len_,Zc hu,goInt],.int _ _⟩
  ·exact hl.elim
 ·rename_i n e hu
  refine ⟨_,hl,fun E w r he hx=>⟨_,by simp [Builtin.len_,Zc hu,goInt],.int _ _⟩⟩
 ·rename_i arr hu
  split at hl
  ·rename_i n e hu2
   refine ⟨_,hl,fun E w r he hx=>⟨_,by simp [Builtin.len_,Zc hu,Zc hu2,goInt],.int _ _⟩⟩
  ·exact hl.elim
 ·rename_i k e hu
  split at hl
  ·refine ⟨_,hl,fun E w r he hx=> ?_⟩
   cases hx
   exact ⟨_,by simp [Builtin.len_,Zc hu,goInt],.int _ _⟩
  ·rename_i y
   split at hl
   ·rename_i es hg
    refine ⟨_,hl,fun E w r he hx=> ?_⟩
    cases hx with
    | map x b N hb=>
     have hB:=he.own _ _ hg
     cases hB with
     | map es b' ents clock hb' hw hk hv=>
      rw [hb'] at hb
      injection hb with hb
      injection hb with h1 h2
      subst h1
      have hlen:=hk.length
      simp only [List.length_map] at hlen
      refine ⟨.int .i64 es.length, ?_,.int _ _⟩
      simp [Builtin.len_,Zc hu,goInt,getObj,Sem.run,hw,hlen]
   ·rename_i n kf vf hg
    refine ⟨_,hl,fun E w r he hx=> ?_⟩
    cases hx with
    | map x b N hb=>
     have hB:=he.own _ _ hg
     cases hB with
     | fmap n kf vf b' ents clock hb' hw hlen hk hv=>
      rw [hb'] at hb
      injection hb with hb
      injection hb with h1 h2
      subst h1
      refine ⟨.int .i64 n, ?_,.int _ _⟩
      simp [Builtin.len_,Zc hu,goInt,getObj,Sem.run,hw,hlen]
   ·exact hl.elim
  ·exact hl.elim
 ·exact hl.elim
def Y0 (n:Nat) (xs:List Int):List Int:=match n with|0=>xs|n+1=>xs.drop (n+1)
theorem Yk (n:Nat) (xs:List Int):Y0 n xs=xs.drop n:=by cases n<;>rfl
def Qw (h:Z8) (k:IntKind) (x:AV) (K:List Int->Prop):Prop:=
 match x with
 | .nilslice=>K []
 | .eslice=>K []
 | .fslice=>K []
 | .vints k' xs len=>Z6 (k'=k) (K (xs.take len))
 | .nslice p esz len _=>match Nat.beq esz 1,h.get p.blk with
  | true,some (.ints k' xs)=>Z6 (k'=k/\p.tot+len<=xs.length) (K ((Y0 p.tot xs).take len))
  | true,some (.flat cs)=>match p.row,YF p.off cs with
   | 0,some (.arr k' n xs::_)=>match Nat.beq p.inn 0&&Nat.beq len n with
    | true=>Z6 (k'=k/\xs.length=n) (K xs)
    | false=>Z6 (k'=k/\xs.length=n/\p.inn+len<=n) (K ((Y0 p.inn xs).take len))
   | _,_=>False
  | _,_=>False
 | _=>False
def Reads (w:World) (esz:Nat) (r:Value) (m:Nat) (vs:List Value):Prop:=
 ∃a c,r=.slice a m c/\vs.length=m*esz/\∀j v,vs[j]? =some v->∃ad,a=some ad/\w.cell? (ad.add j)=some v
theorem Wd {h:Z8} {k:IntKind} {x:AV} {K:List Int->Prop} (hl:Qw h k x K):
  ∃ys,K ys/\∀(E:Env) (w:World) (r:Value),Emb E h w->Zh E x r->Reads w 1 r ys.length (intCells k ys.length ys):=by
 unfold Qw at hl
 have key:∀(w:World) (ys:List Int) (a:Addr) (c:Nat),(∀i,i<ys.length->w.cell? (a.add i)=some (.int k (ys.getD i 0)))->Reads w 1 (.slice (some a) ys.length c) ys.length (intCells k ys.length ys):=fun w ys a c hc=>
  ⟨some a,c,rfl,by rw [Z9,K1],fun j v hj=>⟨a,rfl,by
   rcases J9 j ys.length with hlt|hge
   ·rw [Zn hlt] at hj;cases hj;exact hc j hlt
   ·rw [Yp hge] at hj;cases hj⟩⟩
 have hnil:∀(w:World) (a:Option Addr),Reads w 1 (.slice a 0 0) ([]:List Int).length (intCells k ([]:List Int).length []):=fun w a=>⟨a,0,rfl,rfl,fun j v hj=>by simp [intCells] at hj⟩
 split at hl
 ·exact ⟨[],hl,fun E w r he hx=>by cases hx;exact hnil w none⟩
 ·exact ⟨[],hl,fun E w r he hx=>by cases hx;exact hnil w _⟩
 ·exact ⟨[],hl,fun E w r he hx=>by cases hx with|fslice a cap=>exact ⟨some a,cap,rfl,rfl,fun j v hj=>by simp [intCells] at hj⟩⟩
 ·rename_i k' xs len
  obtain ⟨rfl,hk⟩:=Zb hl
  refine ⟨_,hk,fun E w r he hx=> ?_⟩
  cases hx with
  | vintsNil _ _ _ h1 h2=>subst h1;subst h2;exact hnil w none
  | vints _ _ _ a cap h1 h2 hi=>
   have hlen:(xs.take len).length=len:=by rw [Jp];omega
   have:=key w (xs.take len) a cap (fun i hi'=>by
    rw [hlen] at hi'
    have e:(xs.take len).getD i 0=xs.getD i 0:=by simp [J2,hi']
    rw [e]
    exact he.imm _ _ (hi i (by omega)))
   rw [hlen] at this⊢
   exact this
 ·rename_i p esz len lo
  split at hl
  ·rename_i k' xs hb hg
   have hes:esz=1:=J0 hb
   subst hes
   obtain ⟨⟨rfl,hle⟩,hk⟩:=Zb hl
   refine ⟨_,hk,fun E w r he hx=> ?_⟩
   rw [Yk]
   have hlen:((xs.drop p.tot).take len).length=len:=by rw [Jp,Jt];omega
   cases hx with
   | nslice0 _ _ _ _ a h1 h2=>subst h1;simpa using hnil w a
   | nslice _ _ _ _ b N cap hb' h1 h2 h3=>
    have hown:=he.own _ _ hg
    cases hown with
    | ints0 _ _ h0 hn=>rw [hn] at hb';cases hb'
    | ints _ _ b' cells elem fr hbb hw hf hv=>
     rw [hbb] at hb'
     cases hb'
     have:=key w ((xs.drop p.tot).take len) ⟨b,p.tot,none⟩ cap (fun i hi'=>by
      rw [hlen] at hi'
      rw [Xh,cell_of_heap hw,XI _ _ _ _ hi']
      exact hv (p.tot+i) (by omega))
     rw [hlen] at this⊢
     exact this
  ·rename_i cs hb hg
   have hes:esz=1:=J0 hb
   subst hes
   split at hl
   ·rename_i k' n xs rest hrow hd
    have core:∀(ys:List Int),k'=k->xs.length=n->ys=(xs.drop p.inn).take len->p.inn+len<=n->∀(E:Env) (w:World) (r:Value),Emb E h w->Zh E (.nslice p 1 len lo) r->Reads w 1 r ys.length (intCells k ys.length ys):=fun ys hkk hn hys hle E w r he hx=>by
     subst hkk
     have hlen:ys.length=len:=by rw [hys,Jp,Jt];omega
     cases hx with
     | nslice0 _ _ _ _ a h1 h2=>
      have:ys=[]:=JV (by omega)
      subst this
      exact hnil w a
     | nslice _ _ _ _ b N cap hb' h1 h2 h3=>
      have hown:=he.own _ _ hg
      cases hown with
      | flat0 _ h0 hnn=>rw [hnn] at hb';cases hb'
      | flat _ b' cells elem fr vs hbb hw hf hc hv=>
       rw [hbb] at hb'
       cases hb'
       have hdr:=Y2 _ _ _ _ hd hc
       obtain ⟨ws,hws,_⟩:=hdr.1.cons_arr
       have:=key w ys ⟨b,p.tot,none⟩ cap (fun i hi'=>by
        rw [hlen] at hi'
        rw [Xh,cell_of_heap hw]
        have e:ys.getD i 0=xs.getD (p.inn+i) 0:=by rw [hys];exact XI _ _ _ _ hi'
        rw [e]
        apply hv
        have e2:p.tot+i=p.off+(p.inn+i):=by simp [ZM.tot,hrow];omega
        rw [e2,<-List.getElem?_drop,hws,Jb (by rw [Z9];omega)]
        exact Zn (by omega))
       rw [hlen] at this⊢
       exact this
    split at hl
    ·rename_i hbb
     rw [J3] at hbb
     obtain ⟨⟨rfl,hn⟩,hk⟩:=Zb hl
     have e1:p.inn=0:=J0 hbb.1
     have e2:len=n:=J0 hbb.2
     exact ⟨xs,hk,core xs rfl hn (by rw [e1,e2,<-hn];simp) (by omega)⟩
    ·obtain ⟨⟨rfl,hn,hle⟩,hk⟩:=Zb hl
     exact ⟨_,hk,core _ rfl hn (by rw [Yk]) hle⟩
   ·exact hl.elim
  ·exact hl.elim
 ·exact hl.elim
def Y9 (cs:List AV) (off esz i:Nat):List AV:=
 match YF (off+i*esz) cs with
 | some r=>match takeC esz r with|some c=>c|none=>[]
 | none=>[]
def Z96 (cs:List AV) (off esz i:Nat):Bool:=
 match YF (off+i*esz) cs with
 | some r=>match takeC esz r with|some _=>true|none=>false
 | none=>false
def QM (cs:List AV) (off esz:Nat):Nat->Bool
 | 0=>true
 | n+1=>Z96 cs off esz n&&QM cs off esz n
theorem X0 {cs:List AV} {off esz:Nat}:∀{n:Nat},QM cs off esz n=true->∀i,i<n->Z96 cs off esz i=true
 | 0,_,i,hi=>by omega
 | n+1,h,i,hi=>by
  simp only [QM,J3] at h
  by_cases hin:i=n
  ·subst hin;exact h.1
  ·exact X0 h.2 i (by omega)
theorem XB {E:Env} {off i:Nat} (h:Z96 cs off esz i=true) (hc:Zr E cs vs):
  Zr E (Y9 cs off esz i) ((vs.drop (off+i*esz)).take esz)/\((vs.drop (off+i*esz)).take esz).length=esz:=by
 unfold Z96 at h
 unfold Y9
 cases hd:YF (off+i*esz) cs with
 | none=>rw [hd] at h;cases h
 | some r=>
  rw [hd] at h
  simp only at h⊢
  cases ht:takeC esz r with
  | none=>rw [ht] at h;cases h
  | some c=>
   have h1:=Y2 _ _ _ _ hd hc
   have h2:=VD _ _ _ _ ht h1.1
   exact ⟨h2.1,by rw [Jp];omega⟩
def Yj (n:Nat) (f:Nat->List AV):Nat->List AV:=match n with|0=>f|n+1=>fun i=>f (n+1+i)
theorem Z0R (n:Nat) (f:Nat->List AV) (i:Nat):Yj n f i=f (n+i):=by cases n<;>simp [Yj]
def Z97 (h:Z8) (esz:Nat) (x:AV) (K:Nat->(Nat->List AV)->Prop):Prop:=
 match x with
 | .nilslice=>K 0 fun _=>[]
 | .eslice=>K 0 fun _=>[]
 | .fslice=>K 0 fun _=>[]
 | .vrows esz' _ f len=>match Nat.beq esz' esz with
  | true=>K len f
  | false=>False
 | .nslice p esz' len _=>match Nat.beq esz' esz,h.get p.blk,p.inn with
  | true,some (.rows sz n f),0=>match Nat.beq sz esz&&Nat.beq p.off 0&&(Nat.beq p.sz esz||Nat.beq p.row 0) with
   | true=>Z6 (p.row+len<=n) (K len (Yj p.row f))
   | false=>False
  | true,some (.flat cs),0=>match p.row,QM cs p.off esz len with
   | 0,true=>K len (Y9 cs p.off esz)
   | _,_=>False
  | _,_,_=>False
 | _=>False
def Z52 (E:Env) (w:World) (esz:Nat) (r:Value) (n:Nat) (f:Nat->List AV):Prop:=
 ∃a c,∃g:Nat->List Value,r=.slice a n c/\(∀i,i<n->Zr E (f i) (g i))/\(∀i,i<n->(g i).length=esz)/\∀i j v,i<n->(g i)[j]? =some v->∃ad,a=some ad/\w.cell? (ad.add (i*esz+j))=some v
theorem ZbD {h:Z8} {x:AV} {K:Nat->(Nat->List AV)->Prop} (hl:Z97 h esz x K):
  ∃n f,K n f/\∀(E:Env) (w:World) (r:Value),Emb E h w->Zh E x r->Z52 E w esz r n f:=by
 unfold Z97 at hl
 have hnil:∀(E:Env) (w:World) (a:Option Addr) (f:Nat->List AV),Z52 E w esz (.slice a 0 0) 0 f:=fun E w a f=>⟨a,0,fun _=>[],rfl,fun i hi=>by omega,fun i hi=>by omega,fun i j v hi=>by omega⟩
 split at hl
 ·exact ⟨0,_,hl,fun E w r he hx=>by cases hx;exact hnil E w none _⟩
 ·exact ⟨0,_,hl,fun E w r he hx=>by cases hx;exact hnil E w _ _⟩
 ·exact ⟨0,_,hl,fun E w r he hx=>by cases hx with|fslice a cap=>exact ⟨some a,cap,fun _=>[],rfl,fun i hi=>by omega,fun i hi=>by omega,fun i j v hi=>by omega⟩⟩
 ·rename_i esz' n f len
  split at hl
  ·rename_i hb
   have hes:esz'=esz:=J0 hb
   subst hes
   refine ⟨len,f,hl,fun E w r he hx=> ?_⟩
   cases hx with
   | vrowsNil _ _ _ _ h1 h2=>subst h2;exact hnil E w none f
   | vrows _ _ _ _ a cap g h1 h2 hc hlg hi=>
    exact ⟨some a,cap,g,rfl,fun i hi'=>(hc i (by omega)).mono E.views_le,fun i hi'=>hlg i (by omega),fun i j v hi' hv=>⟨a,rfl,he.imm _ _ (hi i j v (by omega) hv)⟩⟩
  ·exact hl.elim
 ·rename_i p esz' len lo
  split at hl
  ·rename_i sz n f hb hg hinn
   have hes:esz'=esz:=J0 hb
   subst hes
   split at hl
   ·rename_i hbb
    simp only [J3,JR] at hbb
    have hsz:sz=esz':=J0 hbb.1.1
    have hoff:p.off=0:=J0 hbb.1.2
    have htot:p.tot=p.row*esz':=by
     rcases hbb.2 with h1|h1
     ·have:=J0 h1;simp [ZM.tot,hoff,hinn,this]
     ·have:=J0 h1;simp [ZM.tot,hoff,hinn,this]
    subst hsz
    obtain ⟨hle,hk⟩:=Zb hl
    refine ⟨len,_,hk,fun E w r he hx=> ?_⟩
    cases hx with
    | nslice0 _ _ _ _ a h1 h2=>subst h1;exact hnil E w a _
    | nslice _ _ _ _ b N cap hb' h1 h2 h3=>
     have hown:=he.own _ _ hg
     cases hown with
     | rows0 _ _ _ h0 hn=>rw [hn] at hb';cases hb'
     | rows _ _ _ b' cells elem fr g hbb' hw hf hc hlg hv=>
      rw [hbb'] at hb'
      cases hb'
      refine ⟨_,cap,fun i=>g (p.row+i),rfl,fun i hi'=> ?_,fun i hi'=>hlg _ (by omega),fun i j v hi' hgv=>⟨_,rfl, ?_⟩⟩
      ·rw [Z0R];exact hc _ (by omega)
      ·rw [Xh,cell_of_heap hw,htot]
       have:=hv (p.row+i) j v (by omega) hgv
       rw [<-this]
       congr 1
       rw [JT];omega
   ·exact hl.elim
  ·rename_i cs hb hg hinn
   have hes:esz'=esz:=J0 hb
   subst hes
   split at hl
   ·rename_i hrow hok
    refine ⟨len,_,hl,fun E w r he hx=> ?_⟩
    cases hx with
    | nslice0 _ _ _ _ a h1 h2=>subst h1;exact hnil E w a _
    | nslice _ _ _ _ b N cap hb' h1 h2 h3=>
     have hown:=he.own _ _ hg
     cases hown with
     | flat0 _ h0 hn=>rw [hn] at hb';cases hb'
     | flat _ b' cells elem fr vs hbb hw hf hc hv=>
      rw [hbb] at hb'
      cases hb'
      refine ⟨_,cap,fun i=>(vs.drop (p.off+i*esz')).take esz',rfl,fun i hi'=>(XB (X0 hok i hi') hc).1,fun i hi'=>(XB (X0 hok i hi') hc).2,fun i j v hi' hgv=>⟨_,rfl, ?_⟩⟩
      rw [Xh,cell_of_heap hw]
      apply hv
      have hj:j<esz':=by
       rcases J9 j esz' with h|h
       ·exact h
       ·rw [Jr (by rw [Jp];omega)] at hgv;cases hgv
      rw [JF,if_pos hj,Jm] at hgv
      rw [<-hgv]
      congr 1
      simp [ZM.tot,hrow,hinn];omega
   ·exact hl.elim
  ·exact hl.elim
 ·exact hl.elim
theorem Z7x {E:Env} {h:Z8} {w:World} (e:Emb E h w) (x:Nat) (B B':Blk) (b N:Nat) (hx:h.get x=some B) (hb:E.blk x=some (b,N))
  (hB:Yw (E.ext h.next b N) w h.next B'):Evo E h w (E.ext h.next b N) ((h.del x).add B') w:=by
 have hfr:E.blk h.next=none:=e.fresh _ (J4 _)
 have hle:E.le (E.ext h.next b N):=Env.ext_le hfr
 have hxn:x<h.next:=e.lt x B hx
 have hget:∀y C,((h.del x).add B').get y=some C->(y=h.next/\C=B')\/(y≠h.next/\y≠x/\h.get y=some C):=fun y C hy=>by
  by_cases hn:h.next=y
  ·subst hn
   have:((h.del x).add B').get h.next=some B':=Z8.get_add_same (h.del x) B'
   rw [this] at hy;cases hy;exact .inl ⟨rfl,rfl⟩
  ·have:((h.del x).add B').get y=(h.del x).get y:=Z8.get_add_other (h.del x) y B' hn
   rw [this] at hy
   by_cases hxy:x=y
   ·subst hxy;rw [Z8.get_del_same] at hy;cases hy
   ·rw [Z8.get_del_other _ _ _ hxy] at hy
    exact .inr ⟨fun h=>hn h.symm,fun h=>hxy h.symm,hy⟩
 refine ⟨hle,⟨?_, ?_, ?_, ?_,e.imm, ?_⟩,J4 _,rfl,rfl,⟨rfl,J4 _⟩,fun _ _ _=>rfl, ?_,fun _ _ h=>h⟩
 ·intro y hy
  have hy':h.next+1<=y:=hy
  rw [Env.ext_other _ _ _ (by omega)]
  exact e.fresh y (by omega)
 ·intro y C hy
  show y<h.next+1
  rcases hget y C hy with ⟨rfl,_⟩|⟨_,_,h'⟩
  ·omega
  ·have:=e.lt y C h';omega
 ·intro y C hy
  rcases hget y C hy with ⟨rfl,rfl⟩|⟨hne,_,h'⟩
  ·exact hB
  ·exact (e.own y C h').mono hle (fun hn=>by rw [Env.ext_other _ _ _ hne];exact hn)
 ·intro y z C1 C2 b' M M' hy hz hby hbz
  rcases hget y C1 hy with ⟨rfl,_⟩|⟨hny,hnx,hy'⟩<;>rcases hget z C2 hz with ⟨rfl,_⟩|⟨hnz,hnx',hz'⟩
  ·rfl
  ·rw [Env.ext_same] at hby;cases hby
   rw [Env.ext_other _ _ _ hnz] at hbz
   exact absurd (e.disj z x C2 B b M' N hz' hx hbz hb) hnx'
  ·rw [Env.ext_same] at hbz;cases hbz
   rw [Env.ext_other _ _ _ hny] at hby
   exact absurd (e.disj y x C1 B b M N hy' hx hby hb) hnx
  ·rw [Env.ext_other _ _ _ hny] at hby;rw [Env.ext_other _ _ _ hnz] at hbz
   exact e.disj y z C1 C2 b' M M' hy' hz' hby hbz
 ·intro ad c y C M hi hy hby
  rcases hget y C hy with ⟨rfl,_⟩|⟨hne,_,hy'⟩
  ·rw [Env.ext_same] at hby
   have:b=ad.block:=by injection hby with hby;injection hby
   exact e.sep ad c x B N hi hx (by rw [hb,this])
  ·rw [Env.ext_other _ _ _ hne] at hby
   exact e.sep ad c y C M hi hy' hby
 ·rintro b' ⟨y,C,M,hy,hby⟩
  rcases hget y C hy with ⟨rfl,_⟩|⟨hne,_,hy'⟩
  ·rw [Env.ext_same] at hby;cases hby
   exact .inl ⟨x,B,N,hx,hb⟩
  ·rw [Env.ext_other _ _ _ hne] at hby
   exact .inl ⟨y,C,M,hy',hby⟩
structure Z7y (P:Program) (e:TypeId) (i:TypeInfo) (w:World) (base:Option Addr) (sLen sCap m:Nat) (olds news:List Value) (run:Result Value):Prop where
 nought:sLen+m<=sCap->news=[]->run=.ok (.slice base (sLen+m) sCap) w
 fits:sLen+m<=sCap->∀b,base=some ⟨b,0,none⟩->(∀j,j<news.length->(w.cell? ⟨b,sLen*i.size+j,none⟩).isSome=true)->(∀j,j<news.length->w.frozen? ⟨b,sLen*i.size+j,none⟩=false)->
  run=.ok (.slice base (sLen+m) sCap) (w.setCells b (sLen*i.size) news)
 grow:sCap<sLen+m->∃cap:Nat,∃cells:Array Value,sLen+m<=cap/\cells.size=cap*i.size/\(∀(j:Nat) v,(olds++news)[j]? =some v->cells[j]? =some v)/\
  run=.ok (.slice (some ⟨w.heap.size,0,none⟩) (sLen+m) cap) { w with drawn:=w.drawn+1,heap:=w.heap.push (.cells cells e (0,0))}
theorem YO {P:Program} {w:World} {m:Nat} {r:Value} (h:Reads w esz r m vs) (hw:w'.heap=w.heap):(Builtin.firstCells esz m r).run P w'=.ok vs.toArray w':=by
 obtain ⟨a,c,rfl,hl,hc⟩:=h
 cases a with
 | none=>
  have:vs=[]:=by
   cases vs with
   | nil=>rfl
   | cons v r=>obtain ⟨ad,h1,_⟩:=hc 0 v rfl;cases h1
  subst this
  rw [run_firstCells_none]
 | some ad=>
  refine run_firstCells_some (P:=P) w' esz m ad m c vs hl fun j v hj=> ?_
  obtain ⟨ad',h1,h2⟩:=hc j v hj
  cases h1
  simpa [World.cell?,hw] using h2
theorem Z0m {P:Program} {t e:TypeId} {i:TypeInfo} (ht:P.underlying t=some (.slice e)) (hi:P.info? e=some i) (hz:i.zero=some z) (hzs:z.cells.size=i.size)
  {w:World} {base:Option Addr} {m:Nat} (ho:Reads w i.size (.slice base sLen sCap) sLen olds) (hn:Reads w i.size rx m news) (h1:∀u∈news,u.oneCell'=true)
  (h63:sLen+m<=maxLen) (hbytes:(sLen+m)*i.bytes<=140737488355328):
  Z7y P e i w base sLen sCap m olds news ((Builtin.append_ #[t,t] ty #[.slice base sLen sCap,rx]).run P w):=by
 have hsmall:sLen+m<=9223372036854775807:=by simp only [maxLen] at h63;omega
 obtain ⟨a,c,rfl,hl,hc⟩:=hn
 have hn:Reads w i.size (.slice a m c) m news:=⟨a,c,rfl,hl,hc⟩
 have hf:=YO (P:=P) hn (w':=w) rfl
 refine ⟨fun hroom hne=> ?_,fun hroom b hb hcl hfr=> ?_,fun hg=> ?_⟩
 ·subst hne
  cases base with
  | none=>simp [Builtin.append_,run_underlying ht,sizeOf,typeInfo,hi,Builtin.lenOf,hroom,hf]
  | some ad=>simp [Builtin.append_,run_underlying ht,sizeOf,typeInfo,hi,Builtin.lenOf,hroom,hf,storeCells]
 ·subst hb
  have hst:=run_storeCells_cells (P:=P) b (sLen*i.size) news 0 w (by simpa using hcl) (by simpa using hfr) h1
  simp only [Kq] at hst
  have hadd:(⟨b,0,none⟩:Addr).add (sLen*i.size)=⟨b,sLen*i.size,none⟩:=by rw [Xh];simp
  simp [Builtin.append_,run_underlying ht,sizeOf,typeInfo,hi,Builtin.lenOf,hroom,hf,hadd,hst]
 ·have hnle:¬(sLen+m<=sCap):=by omega
  have h63':¬(9223372036854775807<((sLen:Int)+(m:Int))):=by omega
  have h48':¬(281474976710656<Builtin.nextslicecap (sLen+m) sCap*i.bytes):=by
   have:=growslice_fits (bytes:=i.bytes) hg hbytes
   omega
  have hf':=YO (P:=P) hn (w':=w.drew) rfl
  have hfo:=YO (P:=P) ho (w':=w.drew) rfl
  obtain ⟨_,_,_,hlo,_⟩:=ho
  refine ⟨grownCap w (sLen+m) sCap e,olds.toArray++news.toArray++Builtin.zeroCells z.cells (grownCap w (sLen+m) sCap e-(sLen+m)),grownCap_ge w _ _ _, ?_,fun j v hj=> ?_, ?_⟩
  ·have:=grownCap_ge w (sLen+m) sCap e
   simp only [Array.size_append,List.size_toArray,size_zeroCells,hzs,hlo,hl,<-Nat.add_mul]
   congr 1
   omega
  ·rw [<-Array.getElem?_toList]
   simp only [Array.toList_append,JB]
   rw [<-List.append_assoc]
   have hlt:j<(olds++news).length:=by
    rcases J9 j (olds++news).length with h|h
    ·exact h
    ·rw [Jr h] at hj;cases hj
   rw [Jb hlt]
   exact hj
  ·simp [Builtin.append_,run_underlying ht,sizeOf,typeInfo,zeroValue,hi,hz,Builtin.lenOf,hnle,h63',h48',Question.forced,hf',hfo,newRow,grownCap]
   show World.alloc _ _=World.alloc w.drew _
   congr 2
   apply JX
   simp [JB]
inductive Onto (E:Env) (h:Z8) (w:World) (esz:Nat) (base:Option Addr) (sLen sCap:Nat) (olds:List Value) (h':Z8):Prop
 | nought (h1:sLen=0) (h2:sCap=0) (h3:olds=[]) (h4:h'=h\/∃x,h'=h.del x):Onto E h w esz base sLen sCap olds h'
 | own (x b N:Nat) (B:Blk) (cells:Array Value) (elem:TypeId) (fr:Nat×Nat) (hx:h.get x=some B) (hb:E.blk x=some (b,N)) (hw:w.heap[b]? =some (.cells cells elem fr)) (hN:cells.size=N) (hf:free cells fr)
   (hbase:base=some ⟨b,0,none⟩) (hc:sLen<=sCap) (hN2:sCap*esz<=N) (hlo:olds.length=sLen*esz) (ho:∀(j:Nat) v,olds[j]? =some v->cells[j]? =some v) (h4:h'=h.del x):Onto E h w esz base sLen sCap olds h'
theorem Onto.reads {E:Env} {h:Z8} {w:World} {base:Option Addr} (o:Onto E h w esz base sLen sCap olds h'):Reads w esz (.slice base sLen sCap) sLen olds:=by
 cases o with
 | nought h1 h2 h3 h4=>subst h1;subst h2;subst h3;exact ⟨base,0,rfl,by simp,fun j v hj=>by simp at hj⟩
 |own x b N B cells elem fr hx hb hw hN hf hbase hc hN2 hlo ho h4=>
  subst hbase
  refine ⟨_,_,rfl,hlo,fun j v hj=>⟨_,rfl, ?_⟩⟩
  rw [Xh,cell_of_heap hw,JK]
  exact ho j v hj
theorem Onto.next {E:Env} {h:Z8} {w:World} {base:Option Addr} (o:Onto E h w esz base sLen sCap olds h'):h'.next=h.next:=by
 cases o with
 | nought h1 h2 h3 h4=>rcases h4 with rfl|⟨x,rfl⟩<;>rfl
 | own x b N B cells elem fr hx hb hw hN hf hbase hc hN2 hlo ho h4=>subst h4;rfl
theorem Ur {P:Program} {e:TypeId} {i:TypeInfo} {E:Env} {h:Z8} {w:World} (he:Emb E h w) {base:Option Addr} {m:Nat} {run:Result Value}
  (ar:Z7y P e i w base sLen sCap m olds news run) (on:Onto E h w i.size base sLen sCap olds h') (hm:news.length=m*i.size) {B':Blk}
  (hB0:sLen+m=0->∀E' w',E.le E'->E'.blk h.next=none->Yw E' w' h.next B')
  (hB:∀E' w' b cells elem fr,E.le E'->E'.blk h.next=some (b,cells.size)->w'.heap[b]? =some (.cells cells elem fr)->free cells fr->(∀(j:Nat) v,(olds++news)[j]? =some v->cells[j]? =some v)->Yw E' w' h.next B'):
  ∃r w' E',run=.ok r w'/\Evo E h w E' (h'.add B') w'/\Zh E' (.nslice ⟨h.next,0,0,0,0⟩ i.size (sLen+m) (sLen+m)) r:=by
 have hless:Evo E h w E h' w:=by
  cases on with
  | nought h1 h2 h3 h4=>
   rcases h4 with rfl|⟨x,rfl⟩
   ·exact .refl he
   ·exact Z1R he x
  | own x b N B cells elem fr hx hb hw hN hf hbase hc hN2 hlo ho h4=>subst h4;exact Z1R he x
 have hnx:=on.next
 by_cases hroom:sLen+m<=sCap
 ·cases on with
  | nought h1 h2 h3 h4=>
   subst h1;subst h2;subst h3
   have hm0:m=0:=by omega
   subst hm0
   have hn0:news=[]:=JV (by simpa using hm)
   subst hn0
   refine ⟨_,w,E,ar.nought hroom rfl,hless.trans ?_,.nslice0 _ _ _ _ _ rfl rfl⟩
   have e1:=hless.emb
   have hfr:E.blk h.next=none:=he.fresh _ (J4 _)
   have hget:∀y C,(h'.add B').get y=some C->(y=h.next/\C=B')\/(y≠h.next/\h'.get y=some C):=fun y C hy=>by
    by_cases hn:h'.next=y
    ·subst hn
     rw [Z8.get_add_same] at hy;cases hy;exact .inl ⟨hnx,rfl⟩
    ·rw [Z8.get_add_other _ _ _ hn] at hy
     exact .inr ⟨fun q=>hn (by rw [hnx,q]),hy⟩
   refine ⟨.refl E,⟨fun x hx=>e1.fresh x (by have:h'.next+1<=x:=hx;omega),fun y C hy=> ?_,fun y C hy=> ?_,fun y z C D b' M M' hy hz hby hbz=> ?_,e1.imm,fun ad c y C M hi hy hby=> ?_⟩,J4 _,rfl,rfl,⟨rfl,J4 _⟩,fun _ _ _=>rfl, ?_,fun _ _ h=>h⟩
   ·show y<h'.next+1
    rcases hget y C hy with ⟨rfl,_⟩|⟨_,h2⟩
    ·omega
    ·have:=e1.lt y C h2;omega
   ·rcases hget y C hy with ⟨rfl,rfl⟩|⟨_,h2⟩
    ·exact hB0 rfl E w (.refl E) hfr
    ·exact e1.own y C h2
   ·rcases hget y C hy with ⟨rfl,_⟩|⟨_,h2⟩
    ·rw [hfr] at hby;cases hby
    ·rcases hget z D hz with ⟨rfl,_⟩|⟨_,h3⟩
     ·rw [hfr] at hbz;cases hbz
     ·exact e1.disj y z C D b' M M' h2 h3 hby hbz
   ·rcases hget y C hy with ⟨rfl,_⟩|⟨_,h2⟩
    ·rw [hfr] at hby;cases hby
    ·exact e1.sep ad c y C M hi h2 hby
   ·rintro b' ⟨y,C,M,hy,hby⟩
    rcases hget y C hy with ⟨rfl,_⟩|⟨_,h2⟩
    ·rw [hfr] at hby;cases hby
    ·exact .inl ⟨y,C,M,h2,hby⟩
  |own x b N B cells elem fr hx hb hw hN hf hbase hc hN2 hlo ho h4=>
   subst hbase;subst h4
   have hfit:sLen*i.size+news.length<=cells.size:=by
    rw [hm,<-Nat.add_mul,hN]
    exact Kp (JQ _ hroom) hN2
   have hrun:=ar.fits hroom b rfl (fun j hj=>by rw [cell_of_heap hw];simp;omega) (fun j hj=>by
    have:=hf (sLen*i.size+j) (by omega)
    simp [World.frozen?,hw];omega)
   obtain ⟨a1,a2,a3,a4,a5,a6⟩:=YS news (sLen*i.size) w b cells elem fr hw
   have hwsz:=Yi news (sLen*i.size) cells
   have hcont:∀(j:Nat) v,(olds++news)[j]? =some v->(YW cells (sLen*i.size) news)[j]? =some v:=fun j v hj=>by
    rcases J9 j olds.length with hlt|hge
    ·rw [Jb hlt] at hj
     rw [YR _ _ _ _ (by omega)]
     exact ho j v hj
    ·rw [Jf hge] at hj
     have hjl:j-olds.length<news.length:=by
      rcases J9 (j-olds.length) news.length with h|h
      ·exact h
      ·rw [Jr h] at hj;cases hj
     have:=Xq news (sLen*i.size) cells (j-olds.length) hfit hjl
     rw [show sLen*i.size+(j-olds.length)=j from by omega] at this
     rw [this];exact hj
   have hfree:free (YW cells (sLen*i.size) news) fr:=fun o ho'=>hf o (by rw [hwsz] at ho';exact ho')
   -- the write, under the old name, known as nothing; then the new name
   have hev1:Evo E h w E (h.set x (.flat [])) (w.setCells b (sLen*i.size) news):=
    XH he x B (.flat []) b N hx hb a2 a3 a4 a5 a6 (.flat [] b _ elem fr [] (by rw [hb,hwsz,hN]) a1 hfree .nil (fun j c hj=>by simp at hj))
   have hle:E.le (E.ext h.next b N):=Env.ext_le (he.fresh _ (J4 _))
   have hev2:=Z7x hev1.emb x (.flat []) B' b N (Z8.get_set_same _ _ _) hb (hB _ _ b _ elem fr hle (by rw [hwsz,hN];exact Env.ext_same ..) a1 hfree hcont)
   refine ⟨_,_,E.ext h.next b N,hrun, ?_, ?_⟩
   ·-- the same names
    have hsame:∀y,(((h.set x (.flat [])).del x).add B').get y=((h.del x).add B').get y:=fun y=>by
     by_cases hn:h.next=y
     ·subst hn
      exact (Z8.get_add_same ((h.set x (.flat [])).del x) B').trans (Z8.get_add_same (h.del x) B').symm
     ·refine (Z8.get_add_other ((h.set x (.flat [])).del x) y B' hn).trans (Eq.trans ?_ (Z8.get_add_other (h.del x) y B' hn).symm)
      by_cases hxy:x=y
      ·subst hxy;rw [Z8.get_del_same,Z8.get_del_same]
      ·rw [Z8.get_del_other _ _ _ hxy,Z8.get_del_other _ _ _ hxy,Z8.get_set_other _ _ _ _ hxy]
    exact (hev1.trans hev2).trans (Z2h hev2.emb rfl fun y C hy=>by rw [hsame];exact hy)
   ·exact .nslice ⟨h.next,0,0,0,0⟩ i.size (sLen+m) (sLen+m) b N sCap (Env.ext_same ..) hroom hroom (by simp [ZM.tot];exact hN2)
 ·obtain ⟨cap,cells,c1,c2,c3,c4⟩:=ar.grow (by omega)
  have hdr:Evo E h' w E h' { w with drawn:=w.drawn+1}:=Z2g hless.emb rfl rfl rfl ⟨rfl,Nat.le_succ _⟩
  have e2:=hdr.emb
  have hal:=WH e2 (.cells cells e (0,0)) cells.size B' (by
   rw [hnx]
   exact hB _ _ w.heap.size cells e (0,0) (Env.ext_le (he.fresh _ (J4 _))) (Env.ext_same ..) (by simp) (WP _) c3)
  refine ⟨_,_,_,c4,(hless.trans hdr).trans hal, ?_⟩
  rw [hnx]
  exact .nslice ⟨h.next,0,0,0,0⟩ i.size (sLen+m) (sLen+m) w.heap.size cells.size cap (Env.ext_same ..) c1 c1 (by simp [ZM.tot,c2])
theorem Vv (k:IntKind) (xs:List Int):intCells k xs.length xs=xs.map (Value.int k):=by
 apply Kv
 intro j
 rcases J9 j xs.length with h|h
 ·rw [Zn h];simp [J2,h]
 ·rw [Yp h];simp [h]
theorem Ug (k:IntKind) (xs ys:List Int):intCells k xs.length xs++intCells k ys.length ys=intCells k (xs++ys).length (xs++ys):=by
 rw [Vv,Vv,Vv,Kc]
theorem VY (k:IntKind) (n:Nat) (xs:List Int):∀u∈intCells k n xs,u.oneCell'=true:=by
 intro u hu
 simp [intCells] at hu
 obtain ⟨i,_,rfl⟩:=hu
 rfl
def Us (g:Nat->List Value):Nat->List Value
 | 0=>[]
 | n+1=>Us g n++g n
theorem YP {g:Nat->List Value} {esz:Nat}:∀{n:Nat},(∀i,i<n->(g i).length=esz)->(Us g n).length=n*esz
 | 0,_=>by simp [Us]
 | n+1,h=>by
  simp only [Us,J7,YP (n:=n) (fun i hi=>h i (by omega)),h n (by omega)]
  rw [JT];omega
theorem Q5 {g:Nat->List Value} {esz:Nat}:∀{n:Nat},(∀i,i<n->(g i).length=esz)->∀i j,i<n->j<esz->(Us g n)[i*esz+j]? =(g i)[j]?
 | 0,_,i,_,hi,_=>by omega
 | n+1,h,i,j,hi,hj=>by
  have hl:=YP (g:=g) (n:=n) (fun i hi=>h i (by omega))
  simp only [Us]
  by_cases hin:i=n
  ·subst hin
   rw [Jf (by rw [hl];omega),hl]
   congr 1;omega
  ·have hlt:i*esz+j<n*esz:=by
    have:(i+1)*esz<=n*esz:=JQ _ (by omega)
    rw [JT] at this;omega
   rw [Jb (by rw [hl];exact hlt)]
   exact Q5 (n:=n) (fun i hi=>h i (by omega)) i j (by omega) hj
theorem Vb {g:Nat->List Value} {n:Nat} (h:∀i,i<n->(g i).length=esz) {t:Nat} {v:Value} (ht:(Us g n)[t]? =some v):∃i j,i<n/\j<esz/\t=i*esz+j/\(g i)[j]? =some v:=by
 have hl:=YP h
 have hlt:t<n*esz:=by
  rcases J9 t (n*esz) with h'|h'
  ·exact h'
  ·rw [Jr (by rw [hl];exact h')] at ht;cases ht
 have hpos:0<esz:=by
  rcases JM esz with h0|h0
  ·subst h0;simp at hlt
  ·exact h0
 have h1:t/esz<n:=(Nat.div_lt_iff_lt_mul hpos).2 hlt
 have h2:t%esz<esz:=Nat.mod_lt _ hpos
 have h3:t=t/esz*esz+t%esz:=by rw [Nat.mul_comm];exact (Nat.div_add_mod t esz).symm
 refine ⟨t/esz,t%esz,h1,h2,h3, ?_⟩
 rw [<-Q5 h _ _ h1 h2,<-h3]
 exact ht
theorem Z52.reads {E:Env} {w:World} {r:Value} {n:Nat} {f:Nat->List AV} (h:Z52 E w esz r n f):
  ∃g:Nat->List Value,(∀i,i<n->Zr E (f i) (g i))/\(∀i,i<n->(g i).length=esz)/\Reads w esz r n (Us g n)/\∀u∈Us g n,u.oneCell'=true:=by
 obtain ⟨a,c,g,rfl,h1,h2,h3⟩:=h
 refine ⟨g,h1,h2,⟨a,c,rfl,YP h2,fun t v ht=> ?_⟩,fun u hu=> ?_⟩
 ·obtain ⟨i,j,hi,hj,rfl,hg⟩:=Vb h2 ht
  exact h3 i j v hi hg
 ·obtain ⟨t,ht⟩:=K6.1 hu
  obtain ⟨i,j,hi,hj,rfl,hg⟩:=Vb h2 ht
  exact (h1 i hi).all_one u (K9 hg)
def ZT (n:Nat) (f g:Nat->List AV) (i:Nat):List AV:=match Nat.blt i n with|true=>f i|false=>g (i-n)
def ZeH (h:Z8) (k:IntKind) (s:AV) (K:List Int->Z8->Prop):Prop:=
 match s with
 | .nilslice=>K [] h
 | .eslice=>K [] h
 | .nslice ⟨x,0,_,0,0⟩ esz len _=>match Nat.beq esz 1,h.get x with
  | true,some (.ints k' xs)=>Z6 (k'=k/\xs.length=len) (K xs (h.del x))
  | _,_=>False
 | _=>False
def ZeI (h:Z8) (esz:Nat) (s:AV) (K:Nat->(Nat->List AV)->Z8->Prop):Prop:=
 match s with
 | .nilslice=>K 0 (fun _=>[]) h
 | .eslice=>K 0 (fun _=>[]) h
 | .nslice ⟨x,0,_,0,0⟩ esz' len _=>match Nat.beq esz' esz,h.get x with
  | true,some (.rows sz n f)=>match Nat.beq sz esz with
   | true=>Z6 (n=len) (K n f (h.del x))
   | false=>False
  | true,some (.flat cs)=>match QM cs 0 esz len with
   | true=>K len (Y9 cs 0 esz) (h.del x)
   | false=>False
  | _,_=>False
 | _=>False
theorem Z98 {h:Z8} {k:IntKind} {s:AV} {K:List Int->Z8->Prop} (hl:ZeH h k s K):
  ∃xs h',K xs h'/\∀(E:Env) (w:World) (r:Value),Emb E h w->Zh E s r->∃base cap,r=.slice base xs.length cap/\Onto E h w 1 base xs.length cap (intCells k xs.length xs) h':=by
 unfold ZeH at hl
 split at hl
 ·exact ⟨[],h,hl,fun E w r he hx=>by cases hx;exact ⟨none,0,rfl,.nought rfl rfl rfl (.inl rfl)⟩⟩
 ·exact ⟨[],h,hl,fun E w r he hx=>by cases hx;exact ⟨_,0,rfl,.nought rfl rfl rfl (.inl rfl)⟩⟩
 ·rename_i x sz esz len lo
  split at hl
  ·rename_i k' xs hb hg
   have hes:esz=1:=J0 hb
   subst hes
   obtain ⟨⟨rfl,hlen⟩,hk⟩:=Zb hl
   refine ⟨xs,_,hk,fun E w r he hx=> ?_⟩
   cases hx with
   | nslice0 _ _ _ _ a h1 h2=>
    have:xs=[]:=JV (by omega)
    subst this
    exact ⟨a,0,rfl,.nought rfl rfl rfl (.inr ⟨x,rfl⟩)⟩
   | nslice _ _ _ _ b N cap hb' h1 h2 h3=>
    have hown:=he.own _ _ hg
    cases hown with
    | ints0 _ _ h0 hn=>simp only at hb';rw [hn] at hb';cases hb'
    | ints _ _ b' cells elem fr hbb hw hf hv=>
     simp only at hb'
     rw [hbb] at hb'
     cases hb'
     have ht:ZM.tot ⟨x,0,sz,0,0⟩=0:=by simp [ZM.tot]
     rw [ht] at h3⊢
     subst hlen
     refine ⟨_,cap,rfl,.own x b cells.size (.ints k' xs) cells elem fr hg hbb hw rfl hf rfl h1 (by simpa using h3) (by rw [Z9,K1]) (fun j v hj=> ?_) rfl⟩
     rcases J9 j xs.length with hlt|hge
     ·rw [Zn hlt] at hj;cases hj;exact hv j hlt
     ·rw [Yp hge] at hj;cases hj
  ·exact hl.elim
 ·exact hl.elim
theorem ZeJ {h:Z8} {s:AV} {K:Nat->(Nat->List AV)->Z8->Prop} (hl:ZeI h esz s K):
  ∃n f h',K n f h'/\∀(E:Env) (w:World) (r:Value),Emb E h w->Zh E s r->∃base cap,∃g:Nat->List Value,r=.slice base n cap/\(∀i,i<n->Zr E (f i) (g i))/\(∀i,i<n->(g i).length=esz)/\Onto E h w esz base n cap (Us g n) h':=by
 unfold ZeI at hl
 have hz:∀(E:Env) (w:World) (a:Option Addr) (f:Nat->List AV) (h':Z8),(h'=h\/∃x,h'=h.del x)->∃base cap,∃g:Nat->List Value,Value.slice a 0 0=.slice base 0 cap/\(∀i,i<0->Zr E (f i) (g i))/\(∀i,i<0->(g i).length=esz)/\Onto E h w esz base 0 cap (Us g 0) h':=fun E w a f h' hh=>
  ⟨a,0,fun _=>[],rfl,fun i hi=>by omega,fun i hi=>by omega,.nought rfl rfl rfl hh⟩
 split at hl
 ·exact ⟨0,_,h,hl,fun E w r he hx=>by cases hx;exact hz E w none _ h (.inl rfl)⟩
 ·exact ⟨0,_,h,hl,fun E w r he hx=>by cases hx;exact hz E w _ _ h (.inl rfl)⟩
 ·rename_i x sz esz' len lo
  have ht:ZM.tot ⟨x,0,sz,0,0⟩=0:=by simp [ZM.tot]
  split at hl
  ·rename_i sz' n f hb hg
   have hes:esz'=esz:=J0 hb
   subst hes
   split at hl
   ·rename_i hb2
    have hs2:sz'=esz':=J0 hb2
    subst hs2
    obtain ⟨rfl,hk⟩:=Zb hl
    refine ⟨n,f,_,hk,fun E w r he hx=> ?_⟩
    cases hx with
    | nslice0 _ _ _ _ a h1 h2=>subst h1;exact hz E w a f _ (.inr ⟨x,rfl⟩)
    | nslice _ _ _ _ b N cap hb' h1 h2 h3=>
     have hown:=he.own _ _ hg
     cases hown with
     | rows0 _ _ _ h0 hn=>simp only at hb';rw [hn] at hb';cases hb'
     | rows _ _ _ b' cells elem fr g hbb hw hf hc hlg hv=>
      simp only at hb'
      rw [hbb] at hb'
      cases hb'
      rw [ht] at h3⊢
      refine ⟨_,cap,g,rfl,hc,hlg,.own x b cells.size _ cells elem fr hg hbb hw rfl hf rfl h1 (by simpa using h3) (YP hlg) (fun t v hj=> ?_) rfl⟩
      obtain ⟨i,j,hi,hj',rfl,hgv⟩:=Vb hlg hj
      exact hv i j v hi hgv
   ·exact hl.elim
  ·rename_i cs hb hg
   have hes:esz'=esz:=J0 hb
   subst hes
   split at hl
   ·rename_i hok
    refine ⟨len,_,_,hl,fun E w r he hx=> ?_⟩
    cases hx with
    | nslice0 _ _ _ _ a h1 h2=>subst h1;exact hz E w a _ _ (.inr ⟨x,rfl⟩)
    | nslice _ _ _ _ b N cap hb' h1 h2 h3=>
     have hown:=he.own _ _ hg
     cases hown with
     | flat0 _ h0 hn=>simp only at hb';rw [hn] at hb';cases hb'
     | flat _ b' cells elem fr vs hbb hw hf hc hv=>
      simp only at hb'
      rw [hbb] at hb'
      cases hb'
      rw [ht] at h3⊢
      have hlg:∀i,i<len->((vs.drop (0+i*esz')).take esz').length=esz':=fun i hi=>(XB (X0 hok i hi) hc).2
      refine ⟨_,cap,fun i=>(vs.drop (0+i*esz')).take esz',rfl,fun i hi=>(XB (X0 hok i hi) hc).1,hlg,.own x b cells.size _ cells elem fr hg hbb hw rfl hf rfl h1 (by simpa using h3) (YP hlg) (fun t v hj=> ?_) rfl⟩
      obtain ⟨i,j,hi,hj',rfl,hgv⟩:=Vb hlg hj
      apply hv
      rw [JF,if_pos hj',Jm] at hgv
      rw [<-hgv]
      congr 1;omega
   ·exact hl.elim
  ·exact hl.elim
 ·exact hl.elim
theorem Zh.resz {E:Env} {x len lo:Nat} {r:Value} (h:Zh E (.nslice ⟨x,0,0,0,0⟩ esz len lo) r) (s:Nat):Zh E (.nslice ⟨x,0,s,0,0⟩ esz len lo) r:=by
 cases h with
 | nslice0 p esz len lo a h1 h2=>exact .nslice0 _ _ _ _ a h1 h2
 | nslice p esz len lo b N cap hb h1 h2 h3=>
  have e:(⟨x,0,0,0,0⟩:ZM).tot=(⟨x,0,s,0,0⟩:ZM).tot:=by simp [ZM.tot]
  rw [e] at h3⊢
  exact .nslice ⟨x,0,s,0,0⟩ _ _ _ b N cap hb h1 h2 h3
def Z53 (P:Program) (h:Z8) (t:TypeId) (s x:AV) (K:AV->Z8->Prop):Prop:=
 match P.underlying t with
 | some (.slice e)=>match P.info? e with
  | some i=>match i.zero with
   | some z=>match Nat.beq z.cells.size i.size&&Nat.blt 0 i.bytes with
    | true=>match P.underlying e,Nat.beq i.size 1 with
     | some (.int k),true=>Qw h k x fun ys=>ZeH h k s fun xs h'=>Z6 ((xs++ys).length*i.bytes<=140737488355328) (K (.nslice ⟨h.next,0,0,0,0⟩ 1 (xs++ys).length (xs++ys).length) (h'.add (.ints k (xs++ys))))
     | some (.int _),false=>False
     | _,_=>Z97 h i.size x fun m g=>ZeI h i.size s fun n f h'=>Z6 ((n+m)*i.bytes<=140737488355328) (K (.nslice ⟨h.next,0,i.size,0,0⟩ i.size (n+m) (n+m)) (h'.add (.rows i.size (n+m) (ZT n f g))))
    | false=>False
   | none=>False
  | none=>False
 | _=>False
theorem Z7z {P:Program} {h:Z8} {t:TypeId} {s x:AV} {K:AV->Z8->Prop} (hl:Z53 P h t s x K):
  ∃v h',K v h'/\∀(E:Env) (w:World) (rs rx:Value),Emb E h w->Zh E s rs->Zh E x rx->∃r w' E',(Builtin.append_ #[t,t] ty #[rs,rx]).run P w=.ok r w'/\Evo E h w E' h' w'/\Zh E' v r:=by
 unfold Z53 at hl
 split at hl
 ·rename_i e ht
  split at hl
  ·rename_i i hi
   split at hl
   ·rename_i z hz
    split at hl
    ·rename_i hb
     rw [J3] at hb
     have hzs:z.cells.size=i.size:=J0 hb.1
     have hby:0<i.bytes:=Jk hb.2
     have hmax:∀n,n*i.bytes<=140737488355328->n<=maxLen:=fun n hn=>by
      have:=Kp (Nat.le_mul_of_pos_right n hby) hn
      simp only [maxLen];omega
     have hrows:(Z97 h i.size x fun m g=>ZeI h i.size s fun n f h'=>Z6 ((n+m)*i.bytes<=140737488355328) (K (.nslice ⟨h.next,0,i.size,0,0⟩ i.size (n+m) (n+m)) (h'.add (.rows i.size (n+m) (ZT n f g)))))->
       ∃v h',K v h'/\∀(E:Env) (w:World) (rs rx:Value),Emb E h w->Zh E s rs->Zh E x rx->∃r w' E',(Builtin.append_ #[t,t] ty #[rs,rx]).run P w=.ok r w'/\Evo E h w E' h' w'/\Zh E' v r:=fun hl=>by
      obtain ⟨m,g,hl,hx⟩:=ZbD hl
      obtain ⟨n,f,h',hl,hs⟩:=ZeJ hl
      obtain ⟨hfit,hk⟩:=Zb hl
      refine ⟨_,_,hk,fun E w rs rx he hvs hvx=> ?_⟩
      obtain ⟨base,cap,gs,rfl,s1,s2,s3⟩:=hs E w rs he hvs
      obtain ⟨gx,x1,x2,x3,x4⟩:=(hx E w rx he hvx).reads
      have ar:=Z0m (ty:=ty) ht hi hz hzs (w:=w) s3.reads x3 x4 (hmax _ hfit) hfit
      have hlo:=YP s2
      obtain ⟨r,w',E',a1,a2,a3⟩:=Ur he ar s3 (YP x2) (B':=.rows i.size (n+m) (ZT n f g)) (fun h0 E' w' hle hn=>.rows0 _ _ _ h0 hn) (fun E' w' b cells elem fr hle hbk hw hf hc=>by
       refine .rows _ _ _ b cells elem fr (fun q=>if q<n then gs q else gx (q-n)) hbk hw hf (fun q hq=> ?_) (fun q hq=> ?_) (fun q j v hq hv=> ?_)
       ·by_cases hqn:q<n
        ·have:ZT n f g q=f q:=by simp [ZT,show Nat.blt q n=true from Nat.ble_eq_true_of_le hqn]
         rw [this,if_pos hqn];exact (s1 q hqn).mono hle
        ·have hbf:Nat.blt q n=false:=by
          cases hbq:Nat.blt q n with
          | false=>rfl
          | true=>exact absurd (Jk hbq) hqn
         have:ZT n f g q=g (q-n):=by simp [ZT,hbf]
         rw [this,if_neg hqn];exact (x1 (q-n) (by omega)).mono hle
       ·by_cases hqn:q<n
        ·simp only [if_pos hqn];exact s2 q hqn
        ·simp only [if_neg hqn];exact x2 (q-n) (by omega)
       ·apply hc
        have hj:j<i.size:=by
         have hll:(if q<n then gs q else gx (q-n)).length=i.size:=by
          by_cases hqn:q<n
          ·rw [if_pos hqn];exact s2 q hqn
          ·rw [if_neg hqn];exact x2 (q-n) (by omega)
         rcases J9 j i.size with h1|h1
         ·exact h1
         ·rw [Jr (by rw [hll];exact h1)] at hv;cases hv
        by_cases hqn:q<n
        ·rw [if_pos hqn] at hv
         have hlt:q*i.size+j<n*i.size:=by
          have:(q+1)*i.size<=n*i.size:=JQ _ (by omega)
          rw [JT] at this;omega
         rw [Jb (by rw [hlo];exact hlt),Q5 s2 q j hqn hj]
         exact hv
        ·rw [if_neg hqn] at hv
         have e1:q*i.size+j=n*i.size+((q-n)*i.size+j):=by
          have:q=n+(q-n):=by omega
          rw [Nat.sub_mul]
          have:n*i.size<=q*i.size:=JQ _ (by omega)
          omega
         rw [Jf (by rw [hlo];omega),hlo,e1,Nat.add_sub_cancel_left,Q5 x2 (q-n) j (by omega) hj]
         exact hv)
      exact ⟨r,w',E',a1,a2,a3.resz _⟩
     split at hl
     ·rename_i k hue hsz1
      have hs1:i.size=1:=J0 hsz1
      obtain ⟨ys,hl,hx⟩:=Wd hl
      obtain ⟨xs,h',hl,hs⟩:=Z98 hl
      obtain ⟨hfit,hk⟩:=Zb hl
      refine ⟨_,_,hk,fun E w rs rx he hvs hvx=> ?_⟩
      obtain ⟨base,cap,rfl,hon⟩:=hs E w rs he hvs
      have hrx:=hx E w rx he hvx
      rw [J7] at hfit
      rw [<-hs1] at hon hrx
      have ar:=Z0m (ty:=ty) ht hi hz hzs (w:=w) hon.reads hrx (VY _ _ _) (hmax _ hfit) hfit
      obtain ⟨r,w',E',a1,a2,a3⟩:=Ur he ar hon (by rw [Z9,hs1,K1]) (B':=.ints k (xs++ys)) (fun h0 E' w' hle hn=>.ints0 _ _ (JV (by rw [J7];exact h0)) hn) (fun E' w' b cells elem fr hle hbk hw hf hc=>by
       refine .ints _ _ b cells elem fr hbk hw hf (fun j hj=>hc j _ ?_)
       rw [Ug]
       exact Zn hj)
      refine ⟨r,w',E',a1,a2, ?_⟩
      rw [J7,<-hs1]
      exact a3
     ·exact hl.elim
     ·exact hrows hl
    ·exact hl.elim
   ·exact hl.elim
  ·exact hl.elim
 ·exact hl.elim
theorem Z54 {P:Program} {t e:TypeId} {ki ki' k:IntKind} {i:TypeInfo} (ht:P.underlying t=some (.slice e)) (hti:P.underlying ti=some (.int ki)) (hi:P.info? e=some i) (hz:i.zero=some (.int k 0)) (hs1:i.size=1)
  {w:World} {base:Option Addr} {n:Int} (ho:Reads w i.size (.slice base sLen sCap) sLen olds) (h0:0<=n)
  (h63:sLen+n.toNat<=maxLen) (hbytes:(sLen+n.toNat)*i.bytes<=140737488355328):
  Z7y P e i w base sLen sCap n.toNat olds (intCells k n.toNat (List.replicate n.toNat 0)) ((Builtin.append_ #[t,ti] ty #[.slice base sLen sCap,.int ki' n]).run P w):=by
 have hsmall:sLen+n.toNat<=9223372036854775807:=by simp only [maxLen] at h63;omega
 obtain ⟨m,rfl⟩:∃m:Nat,n=(m:Int):=⟨n.toNat,by omega⟩
 simp only [JW] at*
 have hw:i64.wrap (m:Int)=m:=by rw [IntKind.wrap_i64];omega
 have hneg:¬((m:Int)<0):=by omega
 have hb2:¬(281474976710656<(m:Int)*(i.bytes:Int)):=by
  have h1:m*i.bytes<=(sLen+m)*i.bytes:=JQ _ (by omega)
  have h2:m*i.bytes<=140737488355328:=Kp h1 hbytes
  have h3:(m:Int)*(i.bytes:Int)=((m*i.bytes:Nat):Int):=by simp
  rw [h3];omega
 have hzc:Builtin.zeroCells (Value.int k 0).cells m=(intCells k m (List.replicate m 0)).toArray:=by
  apply JX
  simp only [Builtin.zeroCells,intCells,Value.cells]
  apply Kv
  intro j
  rcases J9 j m with h|h
  ·simp [h,J2,Nat.mod_one]
  ·simp [h]
 have hw0:i64.wrap 0=0:=by decide
 have hz0:intCells k 0 (List.replicate 0 0)=[]:=rfl
 refine ⟨fun hroom hne=> ?_,fun hroom b hb hcl hfr=> ?_,fun hg=> ?_⟩
 ·have hm0:m=0:=by
   have:=congrArg List.length hne
   simpa [intCells] using this
  subst hm0
  simp only [Kq] at hroom
  cases base with
  | none=>simp [Builtin.append_,run_underlying ht,run_underlying hti,sizeOf,typeInfo,hi,asInt,asIntOf,hw0,hroom]
  | some ad=>simp [Builtin.append_,run_underlying ht,run_underlying hti,sizeOf,typeInfo,hi,asInt,asIntOf,hw0,hroom,storeCells]
 ·subst hb
  have hst:=run_storeCells_cells (P:=P) b (sLen*i.size) (intCells k m (List.replicate m 0)) 0 w (by simpa using hcl) (by simpa using hfr) (VY _ _ _)
  simp only [Kq,hs1,K1] at hst
  have hadd:(⟨b,0,none⟩:Addr).add sLen=⟨b,sLen,none⟩:=by rw [Xh];simp
  by_cases hm:m=0
  ·subst hm
   simp only [Kq] at hroom
   rw [hz0] at hst⊢
   simp [Builtin.append_,run_underlying ht,run_underlying hti,sizeOf,typeInfo,hi,asInt,asIntOf,hw0,hs1,hroom,hadd,hst]
  ·simp [Builtin.append_,run_underlying ht,run_underlying hti,sizeOf,typeInfo,hi,asInt,asIntOf,hw,hneg,hb2,hs1,hroom,hm,zeroValue,hz,hzc,hadd,hst]
 ·have hnle:¬(sLen+m<=sCap):=by omega
  have h63':¬(9223372036854775807<((sLen:Int)+(m:Int))):=by omega
  have h48':¬(281474976710656<Builtin.nextslicecap (sLen+m) sCap*i.bytes):=by
   have:=growslice_fits (bytes:=i.bytes) hg hbytes
   omega
  have hfo:=YO (P:=P) ho (w':=w.drew) rfl
  obtain ⟨_,_,_,hlo,_⟩:=ho
  refine ⟨grownCap w (sLen+m) sCap e,olds.toArray++(intCells k m (List.replicate m 0)).toArray++Builtin.zeroCells (Value.int k 0).cells (grownCap w (sLen+m) sCap e-(sLen+m)),grownCap_ge w _ _ _, ?_,fun j v hj=> ?_, ?_⟩
  ·have:=grownCap_ge w (sLen+m) sCap e
   simp only [Array.size_append,List.size_toArray,size_zeroCells,hlo,Z9,hs1,Value.cells,Js,Jy]
   omega
  ·rw [<-Array.getElem?_toList]
   simp only [Array.toList_append,JB]
   rw [<-List.append_assoc]
   have hlt:j<(olds++intCells k m (List.replicate m 0)).length:=by
    rcases J9 j (olds++intCells k m (List.replicate m 0)).length with h|h
    ·exact h
    ·rw [Jr h] at hj;cases hj
   rw [Jb hlt]
   exact hj
  ·rw [hs1] at hfo
   by_cases hm:m=0
   ·subst hm
    simp only [Kq] at*
    have h63'':¬(9223372036854775807<(sLen:Int)):=by omega
    simp [Builtin.append_,run_underlying ht,run_underlying hti,sizeOf,typeInfo,zeroValue,hi,hz,asInt,asIntOf,hw0,hs1,hnle,h63'',h48',Question.forced,hfo,newRow,grownCap]
    show World.alloc _ _=World.alloc w.drew _
    congr 2
    apply JX
    simp [intCells]
   ·simp [Builtin.append_,run_underlying ht,run_underlying hti,sizeOf,typeInfo,zeroValue,hi,hz,asInt,asIntOf,hw,hneg,hb2,hs1,hm,hzc,hnle,h63',h48',Question.forced,hfo,newRow,grownCap]
    show World.alloc _ _=World.alloc w.drew _
    congr 2
    apply JX
    simp [JB]
def Z55 (P:Program) (h:Z8) (t ti:TypeId) (s x:AV) (K:AV->Z8->Prop):Prop:=
 match P.underlying t,P.underlying ti,x with
 | some (.slice e),some (.int _),.int _ n=>match P.info? e with
  | some i=>match i.zero,Nat.beq i.size 1&&Nat.blt 0 i.bytes with
   | some (.int k z),true=>ZeH h k s fun xs h'=>Z6 (z=0/\0<=n/\(xs.length+n.toNat)*i.bytes<=140737488355328)
     (K (.nslice ⟨h.next,0,0,0,0⟩ 1 (xs++List.replicate n.toNat 0).length (xs++List.replicate n.toNat 0).length) (h'.add (.ints k (xs++List.replicate n.toNat 0))))
   | _,_=>False
  | none=>False
 | _,_,_=>False
theorem Z7A {P:Program} {h:Z8} {t:TypeId} {s x:AV} {K:AV->Z8->Prop} (hl:Z55 P h t ti s x K):
  ∃v h',K v h'/\∀(E:Env) (w:World) (rs rx:Value),Emb E h w->Zh E s rs->Zh E x rx->∃r w' E',(Builtin.append_ #[t,ti] ty #[rs,rx]).run P w=.ok r w'/\Evo E h w E' h' w'/\Zh E' v r:=by
 unfold Z55 at hl
 split at hl
 ·rename_i e ki ki' n ht hti
  split at hl
  ·rename_i i hi
   split at hl
   ·rename_i k z hz hb
    rw [J3] at hb
    have hs1:i.size=1:=J0 hb.1
    have hby:0<i.bytes:=Jk hb.2
    obtain ⟨xs,h',hl,hs⟩:=Z98 hl
    obtain ⟨⟨rfl,h0,hfit⟩,hk⟩:=Zb hl
    refine ⟨_,_,hk,fun E w rs rx he hvs hvx=> ?_⟩
    cases hvx
    obtain ⟨base,cap,rfl,hon⟩:=hs E w rs he hvs
    rw [<-hs1] at hon
    have hmax:xs.length+n.toNat<=maxLen:=by
     have:=Kp (Nat.le_mul_of_pos_right (xs.length+n.toNat) hby) hfit
     simp only [maxLen];omega
    have ar:=Z54 (ty:=ty) (ki':=ki') ht hti hi hz hs1 (w:=w) hon.reads h0 hmax hfit
    have hrl:(List.replicate n.toNat (0:Int)).length=n.toNat:=List.length_replicate ..
    obtain ⟨r,w',E',a1,a2,a3⟩:=Ur he ar hon (by rw [Z9,hs1,K1]) (B':=.ints k (xs++List.replicate n.toNat 0)) (fun h0 E' w' hle hn=>.ints0 _ _ (JV (by rw [J7,hrl];exact h0)) hn) (fun E' w' b cells elem fr hle hbk hw hf hc=>by
     refine .ints _ _ b cells elem fr hbk hw hf (fun j hj=>hc j _ ?_)
     have:=Ug k xs (List.replicate n.toNat 0)
     rw [hrl] at this
     rw [this]
     exact Zn hj)
    refine ⟨r,w',E',a1,a2, ?_⟩
    rw [J7,hrl,<-hs1]
    exact a3
   ·exact hl.elim
  ·exact hl.elim
 ·exact hl.elim
theorem Z2x {E:Env} {h:Z8} {w:World} (e:Emb E h w) (x:Nat) (B B':Blk) (hx:h.get x=some B) (hB:Yw E w x B'):Evo E h w E (h.set x B') w:=by
 have hget:∀y C,(h.set x B').get y=some C->(y=x/\C=B')\/(y≠x/\h.get y=some C):=fun y C hy=>by
  by_cases hn:x=y
  ·subst hn;rw [Z8.get_set_same] at hy;cases hy;exact .inl ⟨rfl,rfl⟩
  ·rw [Z8.get_set_other _ _ _ _ hn] at hy;exact .inr ⟨fun h=>hn h.symm,hy⟩
 have hget':∀y C,(h.set x B').get y=some C->∃C',h.get y=some C':=fun y C hy=>by
  rcases hget y C hy with ⟨rfl,_⟩|⟨_,h'⟩
  ·exact ⟨B,hx⟩
  ·exact ⟨C,h'⟩
 refine ⟨.refl E,⟨e.fresh, ?_, ?_, ?_,e.imm, ?_⟩,J4 _,rfl,rfl,⟨rfl,J4 _⟩,fun _ _ _=>rfl, ?_,fun _ _ h=>h⟩
 ·intro y C hy
  obtain ⟨C',h'⟩:=hget' y C hy
  exact e.lt y C' h'
 ·intro y C hy
  rcases hget y C hy with ⟨rfl,rfl⟩|⟨hne,h'⟩
  ·exact hB
  ·exact e.own y C h'
 ·intro y z C D b' M M' hy hz hby hbz
  obtain ⟨C',hy'⟩:=hget' y C hy
  obtain ⟨D',hz'⟩:=hget' z D hz
  exact e.disj y z C' D' b' M M' hy' hz' hby hbz
 ·intro a c y C M hi hy hb'
  obtain ⟨C',hy'⟩:=hget' y C hy
  exact e.sep a c y C' M hi hy' hb'
 ·rintro i ⟨y,C,M,hy,hb'⟩
  obtain ⟨C',hy'⟩:=hget' y C hy
  exact .inl ⟨y,C',M,hy',hb'⟩
def spl (xs:List Int) (o:Nat) (ys:List Int):List Int:=xs.take o++ys++xs.drop (o+ys.length)
theorem QN {o:Nat} (h:o+ys.length<=xs.length):(spl xs o ys).length=xs.length:=by
 simp only [spl,J7,Jp,Jt];omega
theorem ZbE {o:Nat} (h:o+ys.length<=xs.length) {j:Nat} (hj:j<ys.length):(spl xs o ys).getD (o+j) 0=ys.getD j 0:=by
 have h1:(xs.take o).length=o:=by rw [Jp];omega
 simp only [spl,J2]
 rw [JB,Jf (by omega),h1,Jb (by omega)]
 congr 2;omega
theorem Z99 {o:Nat} (h:o+ys.length<=xs.length) {j:Nat} (hj:j<o\/o+ys.length<=j):(spl xs o ys).getD j 0=xs.getD j 0:=by
 have h1:(xs.take o).length=o:=by rw [Jp];omega
 simp only [spl,J2]
 rcases hj with hj|hj
 ·rw [JB,Jb (by omega),JF,if_pos hj]
 ·rw [Jf (by simp only [J7,h1];omega),Jm]
  congr 2
  simp only [J7,h1];omega
def Xb (k:IntKind) (n:Nat) (xs:List Int):Nat->List AV->Option (List AV)
 | 0,.arr k' m _::r=>match Nat.beq m n&&decide (k'=k) with|true=>some (.arr k n xs::r)|false=>none
 | 0,_=>none
 | _+1,[]=>none
 | o+1,.arr k' m ys::r=>match Nat.ble m (o+1) with
  | true=>match Xb k n xs (o+1-m) r with|some r'=>some (.arr k' m ys::r')|none=>none
  | false=>none
 | o+1,v::r=>match Xb k n xs o r with|some r'=>some (v::r')|none=>none
termination_by structural _ cs=>cs
theorem QO {E:Env} {k:IntKind} {n:Nat} {xs:List Int}:∀(cs:List AV) (o:Nat) (cs':List AV) (vs:List Value),Xb k n xs o cs=some cs'->Zr E cs vs->
  ∃vs',Zr E cs' vs'/\vs'.length=vs.length/\(∀j,j<n->vs'[o+j]? =some (.int k (xs.getD j 0)))/\∀j,(j<o\/o+n<=j)->vs'[j]? =vs[j]?
 | [],0,cs',vs,h,_=>by simp [Xb] at h
 | [],o+1,cs',vs,h,_=>by simp [Xb] at h
 | v::r,0,cs',vs,h,hc=>by
  cases v with
  | arr k' m ys=>
   simp only [Xb] at h
   split at h
   ·rename_i hb
    rw [J3] at hb
    have hm:m=n:=J0 hb.1
    have hk:k'=k:=of_decide_eq_true hb.2
    subst hm;subst hk
    cases h
    obtain ⟨ws,rfl,hw⟩:=hc.cons_arr
    refine ⟨intCells k' m xs++ws,.arr _ _ _ _ _ hw,by simp [Z9],fun j hj=> ?_,fun j hj=> ?_⟩
    ·rw [JK,Jb (by rw [Z9];exact hj)]
     exact Zn hj
    ·rw [Jf (by rw [Z9];omega),Jf (by rw [Z9];omega),Z9,Z9]
   ·cases h
  | _=>simp [Xb] at h
 | v::r,o+1,cs',vs,h,hc=>by
  have hone:(∀k m xs,v≠.arr k m xs)->(match Xb k n xs o r with|some r'=>some (v::r')|none=>none)=some cs'->
    ∃vs',Zr E cs' vs'/\vs'.length=vs.length/\(∀j,j<n->vs'[o+1+j]? =some (.int k (xs.getD j 0)))/\∀j,(j<o+1\/o+1+n<=j)->vs'[j]? =vs[j]?:=fun hv h=>by
   obtain ⟨c,ws,rfl,h0,h1,hr,hw⟩:=hc.cons_cell hv
   split at h
   ·rename_i r' hr'
    cases h
    obtain ⟨us,u1,u2,u3,u4⟩:=QO r o r' ws hr' hw
    refine ⟨c::us,.one _ _ _ _ h0 h1 hr u1,by simp [u2],fun j hj=> ?_,fun j hj=> ?_⟩
    ·rw [show o+1+j=(o+j)+1 from by omega,Ka];exact u3 j hj
    ·cases j with
     | zero=>rfl
     | succ j=>rw [Ka,Ka];exact u4 j (by omega)
   ·cases h
  cases v with
  | arr k' m ys=>
   simp only [Xb] at h
   split at h
   ·rename_i hb
    have hmo:=Vt hb
    split at h
    ·rename_i r' hr'
     cases h
     obtain ⟨ws,rfl,hw⟩:=hc.cons_arr
     obtain ⟨us,u1,u2,u3,u4⟩:=QO r (o+1-m) r' ws hr' hw
     refine ⟨intCells k' m ys++us,.arr _ _ _ _ _ u1,by simp [u2],fun j hj=> ?_,fun j hj=> ?_⟩
     ·rw [Jf (by rw [Z9];omega),Z9,show o+1+j-m=o+1-m+j from by omega]
      exact u3 j hj
     ·rcases J9 j m with hjm|hjm
      ·rw [Jb (by rw [Z9];exact hjm),Jb (by rw [Z9];exact hjm)]
      ·rw [Jf (by rw [Z9];exact hjm),Jf (by rw [Z9];exact hjm),Z9]
       exact u4 _ (by omega)
    ·cases h
   ·cases h
  | _=>exact hone (fun _ _ _ e=>by cases e) (by simpa only [Xb] using h)
theorem QP {k:IntKind} {n:Nat} {xs:List Int}:∀(cs:List AV) (o:Nat) (cs':List AV),Xb k n xs o cs=some cs'->csz cs'=csz cs
 | [],0,cs',h=>by simp [Xb] at h
 | [],o+1,cs',h=>by simp [Xb] at h
 | v::r,0,cs',h=>by
  cases v with
  | arr k' m ys=>
   simp only [Xb] at h
   split at h
   ·rename_i hb
    rw [J3] at hb
    have hm:m=n:=J0 hb.1
    subst hm
    cases h
    rfl
   ·cases h
  | _=>simp [Xb] at h
 | v::r,o+1,cs',h=>by
  cases v with
  | arr k' m ys=>
   simp only [Xb] at h
   split at h
   ·split at h
    ·rename_i r' hr'
     cases h
     simp only [csz,QP r _ r' hr']
    ·cases h
   ·cases h
  | _=>
   simp only [Xb] at h
   split at h
   ·rename_i r' hr'
    cases h
    simp only [csz,QP r _ r' hr']
   ·cases h
def ZbF (P:Program) (h:Z8) (t:TypeId) (d s:AV) (K:AV->Z8->Prop):Prop:=
 match P.underlying t with
 | some (.slice e)=>match P.underlying e,Ya P e with
  | some (.int k),some 1=>match d with
   | .eslice=>Qw h k s fun _=>K (.int .i64 0) h
   | .nilslice=>Qw h k s fun _=>K (.int .i64 0) h
   | .nslice p esz len _=>match Nat.beq esz 1,h.get p.blk with
    | true,some (.ints k' xs)=>Qw h k s fun ys=>Z6 (k'=k/\p.tot+len<=xs.length) (K (.int .i64 (ys.take len).length) (h.set p.blk (.ints k (spl xs p.tot (ys.take len)))))
    | true,some (.flat cs)=>match p.row,YF p.off cs with
     | 0,some (.arr k' n xs::_)=>Qw h k s fun ys=>Z6 (k'=k/\xs.length=n/\p.inn+len<=n) (match Xb k n (spl xs p.inn (ys.take len)) p.off cs with
      | some cs'=>K (.int .i64 (ys.take len).length) (h.set p.blk (.flat cs'))
      | none=>False)
     | _,_=>False
    | _,_=>False
   | _=>False
  | _,_=>False
 | _=>False
theorem Z2y {P:Program} {t e:TypeId} (ht:P.underlying t=some (.slice e)) (hs:Ya P e=some 1) {k:IntKind} {w:World} {base:Option Addr} {dLen dCap:Nat}
  (hr:Reads w 1 rx ys.length (intCells k ys.length ys)):
  (Builtin.copy_ #[t,t2] ty #[.slice base dLen dCap,rx]).run P w=
   (match base with
    | some a=>((storeCells a (intCells k (ys.take dLen).length (ys.take dLen))).run P w).andThen fun _ w'=>.ok (.int .i64 (ys.take dLen).length) w'
    | none=>.ok (.int .i64 (ys.take dLen).length) w):=by
 have hsz:(sizeOf e).run P w=.ok 1 w:=run_sizeOf hs w
 obtain ⟨a,c,rfl,hl,hc⟩:=hr
 have hn:Nat.min ys.length dLen=(ys.take dLen).length:=by rw [Jp,Nat.min_comm]
 have hf:(Builtin.firstCells 1 (ys.take dLen).length (.slice a ys.length c)).run P w=.ok (intCells k (ys.take dLen).length (ys.take dLen)).toArray w:=by
  cases a with
  | none=>
   have:ys=[]:=by
    cases ys with
    | nil=>rfl
    | cons y r=>obtain ⟨ad,h1,_⟩:=hc 0 _ (Zn (by simp));cases h1
   subst this
   rw [run_firstCells_none]
   simp [intCells]
  | some ad=>
   refine run_firstCells_some (P:=P) w 1 _ ad ys.length c _ (by rw [Z9,K1]) fun j v hj=> ?_
   rcases J9 j (ys.take dLen).length with h1|h1
   ·rw [Zn h1] at hj
    cases hj
    have hjl:j<ys.length:=by rw [Jp] at h1;omega
    have hjd:j<dLen:=by rw [Jp] at h1;omega
    obtain ⟨ad',h2,h3⟩:=hc j _ (Zn hjl)
    cases h2
    rw [h3]
    simp [J2,hjd]
   ·rw [Yp h1] at hj;cases hj
 simp only [Builtin.copy_,K5,List.getElem?_cons_zero,Ka,J8,run_underlying ht,J5,Builtin.lenOf,Jl,hsz,hn,hf]
 generalize intCells k (ys.take dLen).length (ys.take dLen)=L
 generalize (ys.take dLen).length=N
 cases base with
 | none=>simp [goInt]
 | some ad=>simp [goInt]
theorem Z2z {P:Program} {a:Addr} {w:World}:(storeCells a []).run P w=.ok () w:=rfl
theorem ZbG {P:Program} {h:Z8} {t:TypeId} {d s:AV} {K:AV->Z8->Prop} (hl:ZbF P h t d s K):
  ∃v h',K v h'/\∀(E:Env) (w:World) (rd rs:Value),Emb E h w->Zh E d rd->Zh E s rs->∃r w' E',(Builtin.copy_ #[t,t2] ty #[rd,rs]).run P w=.ok r w'/\Evo E h w E' h' w'/\Zh E' v r:=by
 unfold ZbF at hl
 split at hl
 ·rename_i e ht
  split at hl
  ·rename_i k hue hts
   have hnone:∀(E:Env) (w:World) (a:Option Addr) (ys:List Int) (rs:Value),Emb E h w->Reads w 1 rs ys.length (intCells k ys.length ys)->
     ∃r w' E',(Builtin.copy_ #[t,t2] ty #[.slice a 0 0,rs]).run P w=.ok r w'/\Evo E h w E' h w'/\Zh E' (.int .i64 0) r:=fun E w a ys rs he hr=>by
    refine ⟨.int .i64 0,w,E, ?_,.refl he,.int _ _⟩
    rw [Z2y ht hts hr]
    cases a with
    | none=>simp
    | some ad=>
     have e0:intCells k (ys.take 0).length (ys.take 0)=[]:=by simp [intCells]
     simp only [e0,Z2z,J5]
     simp
   split at hl
   ·obtain ⟨ys,hk,hy⟩:=Wd hl
    refine ⟨_,_,hk,fun E w rd rs he hd hs=> ?_⟩
    cases hd
    exact hnone E w _ ys rs he (hy E w rs he hs)
   ·obtain ⟨ys,hk,hy⟩:=Wd hl
    refine ⟨_,_,hk,fun E w rd rs he hd hs=> ?_⟩
    cases hd
    exact hnone E w none ys rs he (hy E w rs he hs)
   ·rename_i p esz len lo
    -- the write itself
    have hwrite:∀(w:World) (b:Nat) (cells:Array Value) (elem:TypeId) (fr:Nat×Nat) (ys:List Int),w.heap[b]? =some (.cells cells elem fr)->free cells fr->p.tot+ys.length<=cells.size->
      (storeCells ⟨b,p.tot,none⟩ (intCells k ys.length ys)).run P w=.ok () (w.setCells b p.tot (intCells k ys.length ys)):=fun w b cells elem fr ys hw hf hle=>by
     have hst:=run_storeCells_cells (P:=P) b p.tot (intCells k ys.length ys) 0 w (fun j hj=>by
       rw [Z9] at hj
       rw [cell_of_heap hw];simp;omega) (fun j hj=>by
       rw [Z9] at hj
       have:=hf (p.tot+0+j) (by omega)
       simp [World.frozen?,hw];omega) (VY _ _ _)
     simpa using hst
    split at hl
    ·rename_i k' xs hb hg
     have hes:esz=1:=J0 hb
     subst hes
     obtain ⟨ys,hl,hy⟩:=Wd hl
     obtain ⟨⟨rfl,hle⟩,hk⟩:=Zb hl
     refine ⟨_,_,hk,fun E w rd rs he hd hs=> ?_⟩
     have hr:=hy E w rs he hs
     have hylen:(ys.take len).length<=len:=by rw [Jp];omega
     cases hd with
     | nslice0 _ _ _ _ a h1 h2=>
      subst h1
      obtain ⟨r,w',E',q1,q2,q3⟩:=hnone E w a ys rs he hr
      have hsame:spl xs p.tot (ys.take 0)=xs:=by simp [spl]
      have:Evo E' h w' E' (h.set p.blk (.ints k' (spl xs p.tot (ys.take 0)))) w':=by
       rw [hsame];exact Z2x q2.emb p.blk _ _ hg (q2.emb.own _ _ hg)
      exact ⟨r,w',E',q1,q2.trans this,by simpa using q3⟩
     | nslice _ _ _ _ b N cap hb' h1 h2 h3=>
      have hown:=he.own _ _ hg
      cases hown with
      | ints0 _ _ h0 hn=>rw [hn] at hb';cases hb'
      | ints _ _ b' cells elem fr hbb hw hf hv=>
       rw [hbb] at hb'
       cases hb'
       have hsz:p.tot+(ys.take len).length<=cells.size:=by omega
       have hsz2:p.tot+(ys.take len).length<=xs.length:=by omega
       obtain ⟨a1,a2,a3,a4,a5,a6⟩:=YS (intCells k' (ys.take len).length (ys.take len)) p.tot w b cells elem fr hw
       have hwsz:=Yi (intCells k' (ys.take len).length (ys.take len)) p.tot cells
       refine ⟨.int .i64 (ys.take len).length,w.setCells b p.tot (intCells k' (ys.take len).length (ys.take len)),E,by rw [Z2y ht hts hr];simp only [hwrite w b cells elem fr (ys.take len) hw hf hsz,J5], ?_,.int _ _⟩
       refine XH he p.blk _ _ b cells.size hg hbb a2 a3 a4 a5 a6 (.ints _ _ b _ elem fr (by rw [hwsz];exact hbb) a1 (fun o ho=>hf o (by rw [hwsz] at ho;exact ho)) fun j hj=> ?_)
       rw [QN hsz2] at hj
       by_cases hin:p.tot<=j/\j<p.tot+(ys.take len).length
       ·have h5:=Xq (intCells k' (ys.take len).length (ys.take len)) p.tot cells (j-p.tot) (by rw [Z9];exact hsz) (by rw [Z9];omega)
        rw [show p.tot+(j-p.tot)=j from by omega,Zn (by omega)] at h5
        have h6:=ZbE hsz2 (j:=j-p.tot) (by omega)
        rw [show p.tot+(j-p.tot)=j from by omega] at h6
        rw [h5,h6]
       ·rw [YR _ _ _ _ (by rw [Z9];omega),Z99 hsz2 (by omega)]
        exact hv j hj
    ·rename_i cs hb hg
     have hes:esz=1:=J0 hb
     subst hes
     split at hl
     ·rename_i k' n xs rest hrow hdc
      obtain ⟨ys,hl,hy⟩:=Wd hl
      obtain ⟨⟨rfl,hxn,hle⟩,hl⟩:=Zb hl
      split at hl
      ·rename_i cs' hput
       refine ⟨_,_,hl,fun E w rd rs he hd hs=> ?_⟩
       have hr:=hy E w rs he hs
       have hylen:(ys.take len).length<=len:=by rw [Jp];omega
       have hsz2:p.inn+(ys.take len).length<=xs.length:=by omega
       have htot:p.tot=p.off+p.inn:=by simp [ZM.tot,hrow]
       have hown:=he.own _ _ hg
       -- the cells told anew, where nothing is written
       have hrel:∀(E:Env) (vs:List Value),Zr E cs vs->∃vs',Zr E cs' vs'/\vs'.length=vs.length/\(∀j,j<n->vs'[p.off+j]? =some (.int k' ((spl xs p.inn (ys.take len)).getD j 0)))/\(∀j,(j<p.off\/p.off+n<=j)->vs'[j]? =vs[j]?)/\(∀j,j<n->vs[p.off+j]? =some (.int k' (xs.getD j 0))):=fun E vs hc=>by
        obtain ⟨vs',v1,v2,v3,v4⟩:=QO cs p.off cs' vs hput hc
        refine ⟨vs',v1,v2,v3,v4,fun j hj=> ?_⟩
        have hdr:=Y2 _ _ _ _ hdc hc
        obtain ⟨ws,hws,_⟩:=hdr.1.cons_arr
        rw [<-List.getElem?_drop,hws,Jb (by rw [Z9];exact hj)]
        exact Zn hj
       cases hd with
       | nslice0 _ _ _ _ a h1 h2=>
        subst h1
        obtain ⟨r,w',E',q1,q2,q3⟩:=hnone E w a ys rs he hr
        have hsame:spl xs p.inn (ys.take 0)=xs:=by simp [spl]
        have:Evo E' h w' E' (h.set p.blk (.flat cs')) w':=by
         have hown':=q2.emb.own _ _ hg
         refine Z2x q2.emb p.blk _ _ hg ?_
         cases hown' with
         | flat0 _ h0 hn=>exact .flat0 _ (by rw [QP _ _ _ hput];exact h0) hn
         | flat _ b' cells elem fr vs hbb hw hf hc hv=>
          obtain ⟨vs',v1,v2,v3,v4,v5⟩:=hrel E' vs hc
          rw [hsame] at v3
          refine .flat _ b' cells elem fr vs' hbb hw hf v1 fun j c hj=>hv j c ?_
          by_cases hch:p.off<=j/\j<p.off+n
          ·have h7:=v3 (j-p.off) (by omega)
           have h8:=v5 (j-p.off) (by omega)
           rw [show p.off+(j-p.off)=j from by omega] at h7 h8
           rw [h8,<-h7,hj]
          ·rw [<-v4 j (by omega)];exact hj
        exact ⟨r,w',E',q1,q2.trans this,by simpa using q3⟩
       | nslice _ _ _ _ b N cap hb' h1 h2 h3=>
        cases hown with
        | flat0 _ h0 hn=>rw [hn] at hb';cases hb'
        | flat _ b' cells elem fr vs hbb hw hf hc hv=>
         rw [hbb] at hb'
         cases hb'
         obtain ⟨vs',v1,v2,v3,v4,v5⟩:=hrel E vs hc
         have hvl:∀j,j<vs.length->j<cells.size:=fun j hj=>by
          have:=hv j vs[j] (Je hj)
          rcases J9 j cells.size with h|h
          ·exact h
          ·rw [Jo h] at this;cases this
         have hnle:p.off+n<=vs.length:=by
          rcases JM n with h0|h0
          ·have:=(Y2 _ _ _ _ hdc hc).2;omega
          ·have:=v5 (n-1) (by omega)
           rcases J9 (p.off+(n-1)) vs.length with h|h
           ·omega
           ·rw [Jr h] at this;cases this
         have hsz:p.tot+(ys.take len).length<=cells.size:=by
          rcases JM (p.tot+(ys.take len).length) with h0|h0
          ·omega
          ·have:=hvl (p.tot+(ys.take len).length-1) (by omega);omega
         obtain ⟨a1,a2,a3,a4,a5,a6⟩:=YS (intCells k' (ys.take len).length (ys.take len)) p.tot w b cells elem fr hw
         have hwsz:=Yi (intCells k' (ys.take len).length (ys.take len)) p.tot cells
         refine ⟨.int .i64 (ys.take len).length,w.setCells b p.tot (intCells k' (ys.take len).length (ys.take len)),E,by rw [Z2y ht hts hr];simp only [hwrite w b cells elem fr (ys.take len) hw hf hsz,J5], ?_,.int _ _⟩
         refine XH he p.blk _ _ b cells.size hg hbb a2 a3 a4 a5 a6 (.flat _ b _ elem fr vs' (by rw [hwsz];exact hbb) a1 (fun o ho=>hf o (by rw [hwsz] at ho;exact ho)) v1 fun j c hj=> ?_)
         by_cases hin:p.tot<=j/\j<p.tot+(ys.take len).length
         ·have h5:=Xq (intCells k' (ys.take len).length (ys.take len)) p.tot cells (j-p.tot) (by rw [Z9];exact hsz) (by rw [Z9];omega)
          rw [show p.tot+(j-p.tot)=j from by omega,Zn (by omega)] at h5
          have h6:=ZbE hsz2 (j:=j-p.tot) (by omega)
          have h7:=v3 (j-p.off) (by omega)
          rw [show p.off+(j-p.off)=j from by omega,hj,show j-p.off=p.inn+(j-p.tot) from by omega,h6] at h7
          rw [h5,h7]
         ·rw [YR _ _ _ _ (by rw [Z9];omega)]
          apply hv
          by_cases hch:p.off<=j/\j<p.off+n
          ·have h7:=v3 (j-p.off) (by omega)
           have h8:=v5 (j-p.off) (by omega)
           rw [Z99 hsz2 (by omega)] at h7
           rw [show p.off+(j-p.off)=j from by omega] at h7 h8
           rw [h8,<-h7,hj]
          ·rw [<-v4 j (by omega)];exact hj
      ·exact hl.elim
     ·exact hl.elim
    ·exact hl.elim
   ·exact hl.elim
  ·exact hl.elim
 ·exact hl.elim
def Ut (k:IntKind) (x y:Int):Int:=k.wrap (BitVec.ofInt k.bits x&&&BitVec.ofInt k.bits y).toNat
def bOr (k:IntKind) (x y:Int):Int:=k.wrap (BitVec.ofInt k.bits x|||BitVec.ofInt k.bits y).toNat
def Yh (k:IntKind) (x y:Int):Int:=k.wrap (BitVec.ofInt k.bits x^^^BitVec.ofInt k.bits y).toNat
def ZeK (k:IntKind) (x y:Int):Int:=k.wrap (BitVec.ofInt k.bits x&&& ~~~(BitVec.ofInt k.bits y)).toNat
def ZG (k:IntKind) (x y:Int):Int:=k.wrap (x*2^(min y.toNat k.bits))
def Zq (k:IntKind) (x y:Int):Int:=x.fdiv (2^(min y.toNat k.bits))
def ZhH (op:BinOp) (k k':IntKind) (a b:Int) (K:AV->Prop):Prop:=
 match op with
 | .shl=>Z6 (0<=b) (K (.int k (ZG k a b)))
 | .shr=>Z6 (0<=b) (K (.int k (Zq k a b)))
 | op=>match decide (k=k') with
  | false=>False
  | true=>match op with
   | .add=>K (.int k (k.wrap (a+b)))
   | .sub=>K (.int k (k.wrap (a-b)))
   | .mul=>K (.int k (k.wrap (a*b)))
   | .quo=>Z6 (b≠0) (K (.int k (k.wrap (a.tdiv b))))
   | .rem=>Z6 (b≠0) (K (.int k (a.tmod b)))
   | .and=>K (.int k (Ut k a b))
   | .or=>K (.int k (bOr k a b))
   | .xor=>K (.int k (Yh k a b))
   | .andNot=>K (.int k (ZeK k a b))
   | .eql=>K (.bool (a==b))
   | .neq=>K (.bool (a !=b))
   | .lss=>K (.bool (decide (a<b)))
   | .leq=>K (.bool (decide (a<=b)))
   | .gtr=>K (.bool (decide (a>b)))
   | .geq=>K (.bool (decide (a>=b)))
   | .shl=>False
   | .shr=>False
theorem ZeL {k k':IntKind} {a b:Int} {K:AV->Prop} (h:ZhH op k k' a b K) (P:Program) (T:TypeId):
  ∃v,K v/\∀(E:Env) (w:World),∃r,(binOp op T (.int k a) (.int k' b)).run P w=.ok r w/\Zh E v r:=by
 unfold ZhH at h
 split at h
 ·obtain ⟨h0,hK⟩:=Zb h
  refine ⟨_,hK,fun E w=>⟨_, ?_,.int _ _⟩⟩
  have hn:¬(b<0):=by omega
  simp [binOp,Op.shift,ZG,hn]
 ·obtain ⟨h0,hK⟩:=Zb h
  refine ⟨_,hK,fun E w=>⟨_, ?_,.int _ _⟩⟩
  have hn:¬(b<0):=by omega
  simp [binOp,Op.shift,Zq,hn]
 ·split at h
  ·exact h.elim
  ·rename_i hd
   rw [decide_eq_true_eq] at hd
   subst hd
   cases op<;>simp only at h
   case add=>exact ⟨_,h,fun E w=>⟨_,by simp [binOp,Op.intArith],.int _ _⟩⟩
   case sub=>exact ⟨_,h,fun E w=>⟨_,by simp [binOp,Op.intArith],.int _ _⟩⟩
   case mul=>exact ⟨_,h,fun E w=>⟨_,by simp [binOp,Op.intArith],.int _ _⟩⟩
   case quo=>obtain ⟨h0,hK⟩:=Zb h;exact ⟨_,hK,fun E w=>⟨_,by simp [binOp,Op.intDiv,h0],.int _ _⟩⟩
   case rem=>obtain ⟨h0,hK⟩:=Zb h;exact ⟨_,hK,fun E w=>⟨_,by simp [binOp,Op.intDiv,h0],.int _ _⟩⟩
   case and=>exact ⟨_,h,fun E w=>⟨_,by simp only [binOp,Op.intBits,Jl,ne_eq,not_true_eq_false,if_false];rfl,.int _ _⟩⟩
   case or=>exact ⟨_,h,fun E w=>⟨_,by simp only [binOp,Op.intBits,Jl,ne_eq,not_true_eq_false,if_false];rfl,.int _ _⟩⟩
   case xor=>exact ⟨_,h,fun E w=>⟨_,by simp only [binOp,Op.intBits,Jl,ne_eq,not_true_eq_false,if_false];rfl,.int _ _⟩⟩
   case andNot=>exact ⟨_,h,fun E w=>⟨_,by simp only [binOp,Op.intBits,Jl,ne_eq,not_true_eq_false,if_false];rfl,.int _ _⟩⟩
   case eql=>exact ⟨_,h,fun E w=>⟨_,by simp [binOp,Op.intCmp],.bool _⟩⟩
   case neq=>exact ⟨_,h,fun E w=>⟨_,by simp [binOp,Op.intCmp],.bool _⟩⟩
   case lss=>exact ⟨_,h,fun E w=>⟨_,by simp [binOp,Op.intCmp],.bool _⟩⟩
   case leq=>exact ⟨_,h,fun E w=>⟨_,by simp [binOp,Op.intCmp],.bool _⟩⟩
   case gtr=>exact ⟨_,h,fun E w=>⟨_,by simp [binOp,Op.intCmp],.bool _⟩⟩
   case geq=>exact ⟨_,h,fun E w=>⟨_,by simp [binOp,Op.intCmp],.bool _⟩⟩
def isNil:AV->Option Bool
 | .ptr none=>some true
 | .ptr (some _)=>some false
 | .pview _ _=>some false
 | .nilslice=>some true
 | .fslice=>some false
 | .vrows _ (_+1) _ _=>some false
 | .vints _ (_::_) _=>some false
 | .map none=>some true
 | .map (some _)=>some false
 | .nilFunc=>some true
 | .func _ _ _=>some false
 | .yield _=>some false
 | .nilIface=>some true
 | .iface _ _=>some false
 | _=>none
def Z56:AV->Nat
 | .ptr _|.pview _ _=>1
 | .nilslice|.fslice|.vrows _ _ _ _|.vints _ _ _=>2
 | .map _=>3
 | .nilFunc|.func _ _ _|.yield _=>4
 | .nilIface|.iface _ _=>5
 | _=>0
def YQ:TypeDesc->Nat
 | .pointer _=>1
 | .slice _=>2
 | .map _ _=>3
 | .func _ _ _=>4
 | .interface _=>5
 | _=>0
def Z2A (P:Program) (T:TypeId) (x y:AV):Option Bool:=
 match P.underlying T with
 | some d=>match isNil x,isNil y with
  | some a,some b=>match a||b,Nat.beq (YQ d) (Z56 x)&&Nat.beq (YQ d) (Z56 y)&& !(Nat.beq (YQ d) 0) with
   | true,true=>some (a&&b)
   | _,_=>none
  | _,_=>none
 | none=>none
def X1:Value->Option Bool
 | .pointer p=>some p.isNone
 | .slice a _ _=>some a.isNone
 | .map m=>some m.isNone
 | .nilFunc=>some true
 | .func _ _ _=>some false
 | .nilIface=>some true
 | .iface _ _=>some false
 | _=>none
def Yd:Value->Nat
 | .pointer _=>1
 | .slice _ _ _=>2
 | .map _=>3
 | .nilFunc|.func _ _ _=>4
 | .nilIface|.iface _ _=>5
 | _=>0
theorem Z2B {x:AV} {a:Bool} (h:isNil x=some a) {E:Env} {r:Value} (hr:Zh E x r):X1 r=some a/\Yd r=Z56 x:=by
 cases hr with
 | vints k xs len a' cap h1 h2 hi=>
  cases xs with
  | nil=>simp [isNil] at h
  | cons y ys=>simp [isNil] at h;subst h;exact ⟨rfl,rfl⟩
 | vintsNil k xs len h1 h2=>subst h1;simp [isNil] at h
 | vrows esz n f len a' cap g h1 h2 hc hl hi=>
  cases n with
  | zero=>simp [isNil] at h
  | succ n=>simp [isNil] at h;subst h;exact ⟨rfl,rfl⟩
 | vrowsNil esz n f len h1 h2=>subst h1;simp [isNil] at h
 | _=>first
  | (simp [isNil] at h;done)
  | (simp [isNil] at h;subst h;exact ⟨rfl,rfl⟩)
theorem Z57 {P:Program} {T:TypeId} {d:TypeDesc} (hu:P.underlying T=some d) {x y:Value} {a b:Bool} (hx:X1 x=some a) (hy:X1 y=some b) (hab:(a||b)=true) (kx:YQ d=Yd x) (ky:YQ d=Yd y) (n:Nat) (w:World):
  (Op.equalIn (n+1) T x y).run P w=.ok (a&&b) w:=by
 simp only [Op.equalIn,J8,Zc hu,J5]
 cases x with
 | pointer p=>cases y with
  | pointer q=>cases d<;>simp [YQ,Yd] at kx<;>cases p<;>cases q<;>simp [X1] at hx hy<;>subst hx<;>subst hy<;>simp at hab⊢
  | _=>simp [Yd] at kx ky;omega
 | slice p l c=>cases y with
  | slice q l' c'=>cases d<;>simp [YQ,Yd] at kx<;>cases p<;>cases q<;>simp [X1] at hx hy<;>subst hx<;>subst hy<;>simp at hab⊢
  | _=>simp [Yd] at kx ky;omega
 | map p=>cases y with
  | map q=>cases d<;>simp [YQ,Yd] at kx<;>cases p<;>cases q<;>simp [X1] at hx hy<;>subst hx<;>subst hy<;>simp at hab⊢
  | _=>simp [Yd] at kx ky;omega
 | nilFunc=>cases y with
  | nilFunc=>cases d<;>simp [YQ,Yd] at kx<;>simp [X1] at hx hy<;>subst hx<;>subst hy<;>simp
  | func f fs cs=>cases d<;>simp [YQ,Yd] at kx<;>simp [X1] at hx hy<;>subst hx<;>subst hy<;>simp
  | _=>simp [Yd] at kx ky;omega
 | func f fs cs=>cases y with
  | nilFunc=>cases d<;>simp [YQ,Yd] at kx<;>simp [X1] at hx hy<;>subst hx<;>subst hy<;>simp
  | func f' fs' cs'=>simp [X1] at hx hy;subst hx;subst hy;simp at hab
  | _=>simp [Yd] at kx ky;omega
 | nilIface=>cases y with
  | nilIface=>cases d<;>simp [YQ,Yd] at kx<;>simp [X1] at hx hy<;>subst hx<;>subst hy<;>simp
  | iface t v=>cases d<;>simp [YQ,Yd] at kx<;>simp [X1] at hx hy<;>subst hx<;>subst hy<;>simp
  | _=>simp [Yd] at kx ky;omega
 | iface t v=>cases y with
  | nilIface=>cases d<;>simp [YQ,Yd] at kx<;>simp [X1] at hx hy<;>subst hx<;>subst hy<;>simp
  | iface t' v'=>simp [X1] at hx hy;subst hx;subst hy;simp at hab
  | _=>simp [Yd] at kx ky;omega
 | _=>simp [X1] at hx
theorem Z1H {P:Program} {T:TypeId} {x y:AV} {b:Bool} (h:Z2A P T x y=some b) {E:Env} {w:World} (hx:Zh E x rx) (hy:Zh E y ry) (n:Nat):
  (Op.equalIn (n+1) T rx ry).run P w=.ok b w:=by
 unfold Z2A at h
 split at h
 ·rename_i d hu
  split at h
  ·rename_i a c ha hc
   split at h
   ·rename_i hab hk
    cases h
    simp only [J3] at hk
    obtain ⟨x1,x2⟩:=Z2B ha hx
    obtain ⟨y1,y2⟩:=Z2B hc hy
    exact Z57 hu x1 y1 hab ((J0 hk.1.1).trans x2.symm) ((J0 hk.1.2).trans y2.symm) n w
   ·cases h
  ·cases h
 ·cases h
theorem Z3P {P:Program} {T:TypeId} {x y:AV} {b:Bool} (h:Z2A P T x y=some b) {E:Env} {w:World} (hx:Zh E x rx) (hy:Zh E y ry):
  (Op.equal T rx ry).run P w=.ok b w:=Z1H h hx hy 9999
def ZbH (P:Program) (neg:Bool) (T:TypeId) (x y:AV) (K:AV->Prop):Prop:=
 match x,y with
 | .bool a,.bool b=>match P.underlying T with
  | some .bool=>K (.bool (match neg with|true=> !(a==b)|false=>a==b))
  | _=>False
 | x,y=>match Z2A P T x y with
  | some b=>K (.bool (match neg with|true=> !b|false=>b))
  | none=>False
def ZjH (P:Program) (op:BinOp) (T:TypeId) (x y:AV) (K:AV->Prop):Prop:=
 match x,y with
 | .int k a,.int k' b=>ZhH op k k' a b K
 | .str a,.str b=>match op with
  | .eql=>K (.bool (a.toList==b.toList))
  | .neq=>K (.bool (!(a.toList==b.toList)))
  | _=>False
 | x,y=>match op with
  | .eql=>ZbH P false T x y K
  | .neq=>ZbH P true T x y K
  | _=>False
theorem Zh.notInt {E:Env} {r:Value} (h:Zh E v r) (hv:∀k n,v≠.int k n) (ht:v≠.top):∀k n,r≠.int k n:=by
 rintro k n rfl
 cases h
 ·exact ht rfl
 ·exact hv _ _ rfl
theorem Zh.notStr {E:Env} {r:Value} (h:Zh E v r) (hv:∀s,v≠.str s) (ht:v≠.top):∀s,r≠.string s:=by
 rintro s rfl
 cases h
 ·exact ht rfl
 ·exact hv _ rfl
def Z2C:Operand->Bool
 | .const _=>true
 | _=>false
def ZbI (ox oy:Operand) (x y:AV):Bool:=
 match x,y with
 | .nilIface,.nilIface=>Z2C ox||Z2C oy
 | _,_=>true
def Z7B (P:Program) (op:BinOp) (T:TypeId) (ox oy:Operand) (x y:AV) (K:AV->Prop):Prop:=
 match ZbI ox oy x y with
 | true=>ZjH P op T x y K
 | false=>False
theorem Z6c {P:Program} {T:TypeId} {x y:AV} {b:Bool} (h:Z2A P T x y=some b):(∀k n,x≠.int k n)/\(∀s,x≠.str s)/\x≠.top/\(∀cs,x≠.agg cs):=by
 unfold Z2A at h
 split at h
 ·split at h
  ·rename_i hx hy
   cases x<;>simp [isNil] at hx<;>simp
  ·cases h
 ·cases h
theorem Qx {P:Program} {T:TypeId} {b:Bool} {w:World} (neg:Bool) (hi:∀k n,rx≠.int k n) (hs:∀s,rx≠.string s) (hf:∀k n,rx≠.float k n) (hc:∀k m n,rx≠.complex k m n)
  (h:(Op.equal T rx ry).run P w=.ok b w):(binOp (match neg with|true=>.neq|false=>.eql) T rx ry).run P w=.ok (.bool (match neg with|true=> !b|false=>b)) w:=by
 cases neg<;>(unfold binOp;cases rx<;>simp_all)
theorem Xi {P:Program} {T:TypeId} {w:World} (h1:rx=.nilIface->ry=.nilIface->(Z2C ox||Z2C oy)=true) (h2:∀a,rx≠.agg a):
  (eqGuard op T ox oy rx ry).run P w=.ok () w:=by
 unfold eqGuard
 cases rx with
 | agg a=>exact absurd rfl (h2 a)
 | nilIface=>
  cases ry with
  | nilIface=>
   have h:=h1 rfl rfl
   clear h1 h2
   cases ox<;>cases oy<;>cases op<;>simp [Z2C] at h⊢
  | _=>cases op<;>simp
 | _=>cases op<;>simp
theorem Zh.forms {E:Env} {r:Value} (h:Zh E v r) (ht:v≠.top):(∀k n,r≠.float k n)/\(∀k m n,r≠.complex k m n)/\(r=.nilIface->v=.nilIface)/\((∃a,r=.agg a)->∃cs,v=.agg cs):=by
 cases h<;>simp at ht⊢
theorem Zaj {P:Program} {T:TypeId} {x y:AV} {K:AV->Prop} (h:Z7B P op T ox oy x y K):
  ∃v,K v/\∀(E:Env) (w:World) (rx ry:Value),Zh E x rx->Zh E y ry->∃r,(do eqGuard op T ox oy rx ry;binOp op T rx ry).run P w=.ok r w/\Zh E v r:=by
 unfold Z7B at h
 split at h
 ·rename_i hg
  unfold ZjH at h
  split at h
  ·rename_i k a k' b
   obtain ⟨v,hK,hv⟩:=ZeL h P T
   refine ⟨v,hK,fun E w rx ry hx hy=> ?_⟩
   cases hx;cases hy
   obtain ⟨r,h1,h2⟩:=hv E w
   refine ⟨r, ?_,h2⟩
   rw [J8,Xi (by simp) (by simp)]
   exact h1
  ·rename_i a b
   split at h
   ·refine ⟨_,h,fun E w rx ry hx hy=> ?_⟩
    cases hx;cases hy
    refine ⟨_, ?_,.bool _⟩
    rw [J8,Xi (by simp) (by simp)]
    simp [binOp,Op.stringOp]
   ·refine ⟨_,h,fun E w rx ry hx hy=> ?_⟩
    cases hx;cases hy
    refine ⟨_, ?_,.bool _⟩
    rw [J8,Xi (by simp) (by simp)]
    simp [binOp,Op.stringOp]
   ·exact h.elim
  ·rename_i hn1 hn2
   have key:∀neg:Bool,ZbH P neg T x y K->∃v,K v/\∀(E:Env) (w:World) (rx ry:Value),Zh E x rx->Zh E y ry->
     ∃r,(do eqGuard (match neg with|true=>.neq|false=>.eql) T ox oy rx ry;binOp (match neg with|true=>.neq|false=>.eql) T rx ry).run P w=.ok r w/\Zh E v r:=by
    intro neg h
    by_cases hbb:∃a b,x=.bool a/\y=.bool b
    ·obtain ⟨a,b,rfl,rfl⟩:=hbb
     simp only [ZbH] at h
     split at h
     ·rename_i hu
      refine ⟨_,h,fun E w rx ry hx hy=> ?_⟩
      cases hx;cases hy
      refine ⟨_, ?_,.bool _⟩
      rw [J8,Xi (by simp) (by simp)]
      have he:(Op.equal T (.bool a) (.bool b)).run P w=.ok (a==b) w:=by
       have:∀n,(Op.equalIn (n+1) T (.bool a) (.bool b)).run P w=.ok (a==b) w:=fun n=>by simp [Op.equalIn,Zc hu]
       exact this 9999
      exact Qx neg (by simp) (by simp) (by simp) (by simp) he
     ·exact h.elim
    ·unfold ZbH at h
     split at h
     ·exact absurd ⟨_,_,rfl,rfl⟩ hbb
     split at h
     ·rename_i b hb
      obtain ⟨f1,f2,f3,f4⟩:=Z6c hb
      refine ⟨_,h,fun E w rx ry hx hy=> ?_⟩
      refine ⟨_, ?_,.bool _⟩
      obtain ⟨q1,q2,q3,q4⟩:=hx.forms f3
      rw [J8,Xi (fun e1 e2=> ?_) (fun a e=> ?_)]
      ·exact Qx neg (hx.notInt f1 f3) (hx.notStr f2 f3) q1 q2 (Z3P hb hx hy)
      ·have:=q3 e1
       subst this
       subst e2
       cases hy with
       | top v=>simp [Z2A,isNil] at hb;split at hb<;>simp at hb
       | nilIface=>simpa [ZbI] using hg
      ·obtain ⟨cs,hcs⟩:=q4 ⟨a,e⟩
       exact f4 cs hcs
     ·exact h.elim
   split at h
   ·exact key false h
   ·exact key true h
   ·exact h.elim
 ·exact h.elim
def Z7C:Value->AV
 | .bool b=>.bool b
 | .int k n=>.int k n
 | .string s=>.str s
 | .pointer none=>.ptr none
 | .slice none 0 0=>.nilslice
 | .map none=>.map none
 | .nilFunc=>.nilFunc
 | .nilIface=>.nilIface
 | _=>.top
def aev (t:ZW):Operand->AV
 | .tmp x=>match ZL t x with|some v=>v|none=>.top
 | .const v=>Z7C v
 | .global _=>.top
 | .func f=>.func (.func f) [] []
theorem Z7D (E:Env) (v:Value):Zh E (Z7C v) v:=by
 unfold Z7C
 split<;>first|exact .bool _|exact .int _ _|exact .str _|exact .nilptr|exact .nilslice|exact .nilmap|exact .nilFunc|exact .nilIface|exact .top _
theorem Zt {E:Env} {n:Nat} {t:ZW} {a:Act} (h:Vs E n t a.tmps) (o:Operand):Zh E (aev t o) (a.eval o):=by
 cases o with
 | tmp x=>
  simp only [aev,Act.eval]
  cases hg:ZL t x with
  | some v=>exact h.get x v hg
  | none=>exact .top _
 | const v=>exact Z7D E v
 | global g=>exact .top _
 | func f=>exact .func (.func f) [] [] [] [] .nil .nil
theorem Z2D {E:Env} {n:Nat} {t:ZW} {a:Act} (h:Vs E n t a.tmps) (o:Option Operand):Z2o E (o.map (aev t)) (o.map a.eval):=by
 cases o with
 | none=>exact .none
 | some x=>exact .some _ _ (Zt h x)
def Z58 (t:ZW):List Operand->List AV
 | []=>[]
 | x::r=>aev t x::Z58 t r
theorem WQ {E:Env} {n:Nat} {t:ZW} {a:Act} (h:Vs E n t a.tmps):∀l:List Operand,Zz E (Z58 t l) (l.map a.eval)
 | []=>.nil
 | x::r=>.cons _ _ _ _ (Zt h x) (WQ h r)
def ZbJ (t:ZW):List (Nat×Operand)->List (Nat×AV)
 | []=>[]
 | (i,x)::r=>(i,aev t x)::ZbJ t r
theorem Uu {E:Env} {n:Nat} {t:ZW} {a:Act} (h:Vs E n t a.tmps):∀l:List (Nat×Operand),Z50 E (ZbJ t l) (l.map fun x=>(x.1,a.eval x.2))
 | []=>.nil
 | (_,x)::r=>.cons _ _ _ _ _ (Zt h x) (Uu h r)
def unA (op:UnOp) (x:AV) (K:AV->Prop):Prop:=
 match op,x with
 | .not,.bool b=>K (.bool (!b))
 | .neg,.int k n=>K (.int k (k.wrap (0-n)))
 | .xor,.int k n=>K (.int k (Yh k (if k.signed then -1 else k.max) n))
 | _,_=>False
theorem ZhI {op:UnOp} {x:AV} {K:AV->Prop} (h:unA op x K) (P:Program):
  ∃v,K v/\∀(E:Env) (w:World) (r:Value),Zh E x r->∃r',(Op.unary op r).run P w=.ok r' w/\Zh E v r':=by
 unfold unA at h
 split at h
 ·exact ⟨_,h,fun E w r hx=>by cases hx;exact ⟨_,by simp [Op.unary],.bool _⟩⟩
 ·exact ⟨_,h,fun E w r hx=>by cases hx;exact ⟨_,by simp only [Op.unary,Op.intArith,Jl],.int _ _⟩⟩
 ·exact ⟨_,h,fun E w r hx=>by cases hx;exact ⟨_,by simp only [Op.unary,Op.intBits,Jl];rfl,.int _ _⟩⟩
 ·exact h.elim
def ZbK (P:Program) (s d:TypeId) (x:AV) (K:AV->Prop):Prop:=
 match P.underlying s,P.underlying d with
 | some (.int _),some (.int k)=>match x with
  | .int _ n=>K (.int k (k.wrap n))
  | _=>False
 | some .string,some .string=>match x with
  | .str b=>K (.str b)
  | _=>False
 | _,_=>False
theorem ZbL {P:Program} {s d:TypeId} {x:AV} {K:AV->Prop} (h:ZbK P s d x K):
  ∃v,K v/\∀(E:Env) (w:World) (r:Value),Zh E x r->∃r',(convert s d r).run P w=.ok r' w/\Zh E v r':=by
 unfold ZbK at h
 split at h
 ·rename_i k1 k hs hd
  split at h
  ·exact ⟨_,h,fun E w r hx=>by cases hx;exact ⟨_,by simp [convert,Zc hs,Zc hd,Conv.intToInt],.int _ _⟩⟩
  ·exact h.elim
 ·rename_i hs hd
  split at h
  ·exact ⟨_,h,fun E w r hx=>by cases hx;exact ⟨_,by simp [convert,Zc hs,Zc hd],.str _⟩⟩
  ·exact h.elim
 ·exact h.elim
def Zak:List AV->Nat->Option AV
 | [],_=>none
 | v::_,0=>some v
 | _::r,n+1=>Zak r n
theorem Z6d {E:Env}:∀{vs:List AV} {rs:List Value} (i:Nat) (v:AV),Zz E vs rs->Zak vs i=some v->∃r,rs[i]? =some r/\Zh E v r
 | [],_,_,_,_,h=>by simp [Zak] at h
 | _::_,_,0,v,.cons _ c _ _ hv _,h=>by simp [Zak] at h;subst h;exact ⟨c,by simp,hv⟩
 | _::_,_,i+1,v,.cons _ _ _ _ _ t,h=>by
  obtain ⟨r,h1,h2⟩:=Z6d i v t (by simpa [Zak] using h)
  exact ⟨r,by simpa using h1,h2⟩
def Z2E (x:AV) (i:Nat) (K:AV->Prop):Prop:=
 match x with
 | .tuple vs=>match Zak vs i with
  | some v=>K v
  | none=>False
 | _=>False
theorem Z6e {x:AV} {i:Nat} {K:AV->Prop} (h:Z2E x i K) (P:Program):
  ∃v,K v/\∀(E:Env) (w:World) (r:Value),Zh E x r->∃r',(Instr.extract r i).run P w=.ok r' w/\Zh E v r':=by
 unfold Z2E at h
 split at h
 ·split at h
  ·rename_i v hv
   refine ⟨v,h,fun E w r hx=> ?_⟩
   cases hx with
   | tuple vs rs hl=>
    obtain ⟨r',h1,h2⟩:=Z6d i v hl hv
    exact ⟨r',by simp [Instr.extract,h1],h2⟩
  ·exact h.elim
 ·exact h.elim
def Z0n (P:Program) (t:TypeId) (cs:List AV) (off:Nat) (K:AV->Prop):Prop:=
 match YF off cs with
 | some rest=>match Up P t,Ya P t with
  | some true,some s=>match takeC s rest with
   | some front=>K (.agg front)
   | none=>False
  | some false,_=>match rest with
   | []=>False
   | .arr _ _ _::_=>False
   | v::_=>K v
  | _,_=>False
 | none=>False
theorem WR {P:Program} {t:TypeId} {off:Nat} {K:AV->Prop} (h:Z0n P t cs off K):
  ∃v,K v/\∀(E:Env) (w:World) (vs:List Value),Zr E cs vs->∃r,(part t vs.toArray off).run P w=.ok r w/\Zh E v r:=by
 unfold Z0n at h
 split at h
 ·rename_i rest hd
  split at h
  ·rename_i s hag hs
   split at h
   ·rename_i front hf
    refine ⟨_,h,fun E w vs hc=> ?_⟩
    obtain ⟨h1,h2⟩:=Y2 cs off rest vs hd hc
    obtain ⟨h3,h4⟩:=VD rest s front _ hf h1
    refine ⟨.agg ((vs.drop off).take s).toArray, ?_,.agg _ _ h3⟩
    simp only [part,J8,VE hag,J5,if_true,run_sizeOf hs,Jl]
    congr 2
    apply JX
    simp [List.extract_eq_take_drop]
   ·exact h.elim
  ·rename_i hag
   cases rest with
   | nil=>exact h.elim
   | cons v r=>
    by_cases hv:∃k m xs,v=.arr k m xs
    ·obtain ⟨k,m,xs,rfl⟩:=hv;exact h.elim
    ·have hv':∀k m xs,v≠.arr k m xs:=fun k m xs e=>hv ⟨k,m,xs,e⟩
     have hK:K v:=by cases v<;>first|exact h|exact absurd rfl (hv' _ _ _)
     refine ⟨v,hK,fun E w vs hc=> ?_⟩
     obtain ⟨h1,h2⟩:=Y2 cs off _ vs hd hc
     obtain ⟨c,ws,hw,_,_,hr,_⟩:=h1.cons_cell hv'
     refine ⟨c, ?_,hr⟩
     have:vs[off]? =some c:=by
      have:=congrArg (fun l=>l[0]?) hw
      simpa using this
     simp [part,VE hag,this]
  ·exact h.elim
 ·exact h.elim
def Z7E (P:Program) (S:TypeId) (x:AV) (f:Nat) (K:AV->Prop):Prop:=
 match P.underlying S with
 | some (.struct fields)=>match fields[f]? with
  | some fd=>match x with
   | .agg cs=>Z0n P fd.type cs fd.offset K
   | _=>False
  | none=>False
 | _=>False
theorem Zal {P:Program} {S:TypeId} {x:AV} {f:Nat} {K:AV->Prop} (h:Z7E P S x f K):
  ∃v,K v/\∀(E:Env) (w:World) (r:Value),Zh E x r->∃r',(Instr.field S r f).run P w=.ok r' w/\Zh E v r':=by
 unfold Z7E at h
 split at h
 ·rename_i fields hu
  split at h
  ·rename_i fd hf
   split at h
   ·obtain ⟨v,hK,hv⟩:=WR h
    refine ⟨v,hK,fun E w r hx=> ?_⟩
    cases hx with
    | agg cs vs hc=>
     obtain ⟨r',h1,h2⟩:=hv E w vs hc
     exact ⟨r',by simp [Instr.field,Zc hu,hf,asAgg,h1],h2⟩
   ·exact h.elim
  ·exact h.elim
 ·exact h.elim
def Z7F (P:Program) (T:TypeId) (x i:AV) (K:AV->Prop):Prop:=
 match P.underlying T,x,i with
 | some (.array n e),.agg [.arr k m xs],.int _ i=>match Xr P e,Ya P e,Nat.beq m n with
  | true,some 1,true=>Z6 (0<=i/\i<n) (K (.int k (xs.getD i.toNat 0)))
  | _,_,_=>False
 | some (.array n e),.agg cs,.int _ i=>match Ya P e with
  | some s=>Z6 (0<=i/\i<n) (Z0n P e cs (i.toNat*s) K)
  | none=>False
 | _,_,_=>False
theorem Zam {P:Program} {T:TypeId} {x i:AV} {K:AV->Prop} (h:Z7F P T x i K):
  ∃v,K v/\∀(E:Env) (w:World) (r ri:Value),Zh E x r->Zh E i ri->∃r',(Instr.index T r ri).run P w=.ok r' w/\Zh E v r':=by
 unfold Z7F at h
 split at h
 ·rename_i n e k m xs ki i hu
  split at h
  ·rename_i he hs hb
   have hm:m=n:=J0 hb
   subst hm
   obtain ⟨⟨h0,h1⟩,hK⟩:=Zb h
   refine ⟨_,hK,fun E w r ri hx hi=> ?_⟩
   cases hi
   cases hx with
   | agg cs vs hc=>
    obtain ⟨ws,rfl,hn⟩:=hc.cons_arr
    cases hn
    refine ⟨_, ?_,.int _ _⟩
    have hag:Up P e=some false:=by
     unfold Xr at he
     unfold Up
     split at he
     ·rename_i hq;simp [hq]
     ·cases he
    simp only [Instr.index,asIntOf,J8,Jl,J5,Zc hu,h0,h1,and_self,if_true,run_sizeOf hs,part,VE hag,Bool.false_eq_true,if_false,K1]
    have hlt:i.toNat<m:=by omega
    have:(intCells k m xs++[]).toArray[i.toNat]? =some (Value.int k (xs.getD i.toNat 0)):=by
     simp only [JI,K5]
     exact Zn hlt
    rw [this]
    rfl
  ·exact h.elim
 ·rename_i n e cs ki i _ hu
  split at h
  ·rename_i s hs
   obtain ⟨⟨h0,h1⟩,h⟩:=Zb h
   obtain ⟨v,hK,hv⟩:=WR h
   refine ⟨v,hK,fun E w r ri hx hi=> ?_⟩
   cases hi
   cases hx with
   | agg cs vs hc=>
    obtain ⟨r',h2,h3⟩:=hv E w vs hc
    exact ⟨r',by simp [Instr.index,asIntOf,Zc hu,h0,h1,run_sizeOf hs,h2],h3⟩
  ·exact h.elim
 ·exact h.elim
def VZ (P:Program) (t:TypeId):Option AV:=
 match Z0k P t with
 | some cs=>match P.info? t with
  | some i=>match i.zero with
   | some (.agg _)=>some (.agg cs)
   | some _=>match cs with
    | [.arr _ _ _]=>none
    | [v]=>some v
    | _=>none
   | none=>none
  | none=>none
 | none=>none
theorem WS {P:Program} {t:TypeId} (h:VZ P t=some v):∃z,(∀w,(zeroValue t).run P w=.ok z w)/\∀E,Zh E v z:=by
 unfold VZ at h
 split at h
 ·rename_i cs hz
  obtain ⟨z,hz1,hz2⟩:=WN hz
  split at h
  ·rename_i i hi
   have hzz:∀z',i.zero=some z'->z=z':=fun z' hz'=>by
    have:=hz1 default
    simp [zeroValue,typeInfo,hi,hz'] at this
    exact this.symm
   split at h
   ·rename_i a ha
    injection h with h
    subst h
    have:=hzz _ ha
    subst this
    refine ⟨_,hz1,fun E=> ?_⟩
    have:=Zh.agg cs _ (hz2 E)
    simpa [Value.cells] using this
   ·rename_i z' hna hz'
    have:=hzz _ hz'
    subst this
    split at h
    ·cases h
    ·rename_i v' hv'
     injection h with h
     subst h
     refine ⟨_,hz1,fun E=> ?_⟩
     obtain ⟨c,ws,hw,_,_,hr,_⟩:=(hz2 E).cons_cell (fun k m xs e=>hv' k m xs e)
     have:z.cells= #[z]:=by
      cases z<;>first|rfl|exact absurd rfl (hna _)
     rw [this] at hw
     simp at hw
     rw [hw.1];exact hr
    ·cases h
   ·cases h
  ·cases h
 ·cases h
def Uv (P:Program) (x:AV) (asserted:TypeId) (ok:Bool) (K:AV->Prop):Prop:=
 match P.underlying asserted with
 | some (.interface _)=>False
 | none=>False
 | some _=>match x with
  | .iface t v=>match Nat.beq t asserted with
   | true=>match ok with
    | true=>K (.tuple [v,.bool true])
    | false=>K v
   | false=>match ok,VZ P asserted with
    | true,some z=>K (.tuple [z,.bool false])
    | _,_=>False
  | .nilIface=>match ok,VZ P asserted with
   | true,some z=>K (.tuple [z,.bool false])
   | _,_=>False
  | _=>False
theorem Z2F {P:Program} {x:AV} {xt asserted:TypeId} {ok:Bool} {K:AV->Prop} (h:Uv P x asserted ok K):
  ∃v,K v/\∀(E:Env) (w:World) (r:Value),Zh E x r->∃r',(Instr.typeAssert r xt asserted ok).run P w=.ok r' w/\Zh E v r':=by
 unfold Uv at h
 split at h
 ·exact h.elim
 ·exact h.elim
 ·rename_i d hni hu
  have hd:∀ms,d≠.interface ms:=fun ms e=>hni ms (by rw [e])
  split at h
  ·rename_i t v
   split at h
   ·rename_i hb
    have ht:t=asserted:=J0 hb
    subst ht
    split at h
    ·refine ⟨_,h,fun E w r hx=> ?_⟩
     cases hx with
     | iface t v x hv=>
      refine ⟨.tuple #[x,.bool true], ?_, ?_⟩
      ·simp only [Instr.typeAssert,J8,Zc hu,J5]
       cases d<;>first|exact absurd rfl (hd _)|simp
      ·have:=Zh.tuple [v,.bool true] [x,.bool true] (.cons _ _ _ _ hv (.cons _ _ _ _ (.bool true) .nil)) (E:=E)
       simpa using this
    ·refine ⟨_,h,fun E w r hx=> ?_⟩
     cases hx with
     | iface t v x hv=>
      refine ⟨x, ?_,hv⟩
      simp only [Instr.typeAssert,J8,Zc hu,J5]
      cases d<;>first|exact absurd rfl (hd _)|simp
   ·rename_i hb
    have ht:t≠asserted:=fun e=>by rw [e,Jj] at hb;cases hb
    split at h
    ·rename_i z hz
     obtain ⟨zr,hz1,hz2⟩:=WS hz
     refine ⟨_,h,fun E w r hx=> ?_⟩
     cases hx with
     | iface t v x hv=>
      refine ⟨.tuple #[zr,.bool false], ?_, ?_⟩
      ·simp only [Instr.typeAssert,J8,Zc hu,J5]
       cases d<;>first|exact absurd rfl (hd _)|simp [ht,hz1]
      ·have:=Zh.tuple [z,.bool false] [zr,.bool false] (.cons _ _ _ _ (hz2 E) (.cons _ _ _ _ (.bool false) .nil)) (E:=E)
       simpa using this
    ·exact h.elim
  ·split at h
   ·rename_i z hz
    obtain ⟨zr,hz1,hz2⟩:=WS hz
    refine ⟨_,h,fun E w r hx=> ?_⟩
    cases hx
    refine ⟨.tuple #[zr,.bool false], ?_, ?_⟩
    ·simp only [Instr.typeAssert,J8,Zc hu,J5]
     cases d<;>first|exact absurd rfl (hd _)|simp [hz1]
    ·have:=Zh.tuple [z,.bool false] [zr,.bool false] (.cons _ _ _ _ (hz2 E) (.cons _ _ _ _ (.bool false) .nil)) (E:=E)
     simpa using this
   ·exact h.elim
  ·exact h.elim
def Z44 (x:AV) (K:AV->Prop):Prop:=
 match x with
 | .ptr (some p)=>K (.ptr (some p))
 | .pview cs inn=>K (.pview cs inn)
 | .func (.func f) a b=>K (.func (.func f) a b)
 | .yield y=>K (.yield y)
 | _=>False
def Z6f (P:Program) (T:TypeId) (x:AV) (K:AV->Prop):Prop:=
 match P.underlying T with
 | some (.interface _)=>False
 | none=>False
 | some _=>K (.iface T x)
end Go.Tk
end
