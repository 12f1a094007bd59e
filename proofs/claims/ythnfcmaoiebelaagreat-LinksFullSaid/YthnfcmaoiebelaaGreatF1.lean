/- F: part 1 of an engine (a symbolic evaluator, proved against the model) and of the walk by it. -/
import Derived.RangeFuncLeaves
import Derived.RecoverIn
import Derived.Laws.Cells
import Derived.KernelRfl
import Derived.Laws.IdiomCopy
import Derived.Laws.AppendOwn
import Derived.Laws.BitsLemmas
set_option linter.unusedVariables false
set_option linter.unusedSimpArgs false
set_option maxRecDepth 100000
set_option maxHeartbeats 0
section
namespace Go.Tk
open IntKind (i64 u8 u32 u64 wrap)
variable {ents ents':List MapEntry} {clock esz j sCap sLen:Nat} {w':World} {r rx ry z:Value} {news olds vs:List Value} {t2 ti ty:TypeId} {op:BinOp} {ox oy:Operand} {kk:IntKind} {es:Array MapEntry}
theorem J0:type_of% @Nat.eq_of_beq_eq_true:=@Nat.eq_of_beq_eq_true
theorem J1:type_of% @Nat.le_refl:=@Nat.le_refl
theorem J2:type_of% @Bool.and_eq_true:=@Bool.and_eq_true
theorem J3:type_of% @List.length_append:=@List.length_append
theorem J4:type_of% @Result.andThen_ok:=@Result.andThen_ok
theorem J5:type_of% @List.getD_eq_getElem?_getD:=@List.getD_eq_getElem?_getD
theorem J6:type_of% @Sem.run_bind:=@Sem.run_bind
theorem J7:type_of% @List.mem_cons:=@List.mem_cons
theorem J8:type_of% @List.getElem?_eq_getElem:=@List.getElem?_eq_getElem
theorem J9:type_of% @List.length_drop:=@List.length_drop
theorem Ja:type_of% @List.getElem?_eq_some_iff:=@List.getElem?_eq_some_iff
theorem Jb:type_of% @List.getElem?_append_left:=@List.getElem?_append_left
theorem Jc:type_of% @List.length_take:=@List.length_take
theorem Jd:type_of% @Array.getElem?_setIfInBounds:=@Array.getElem?_setIfInBounds
theorem Je:type_of% @Nat.le_of_ble_eq_true:=@Nat.le_of_ble_eq_true
theorem Jf:type_of% @Sem.run_pure:=@Sem.run_pure
theorem Jg:type_of% @Option.bind_some:=@Option.bind_some
theorem Jh:type_of% @List.mem_cons_of_mem:=@List.mem_cons_of_mem
theorem Ji:type_of% @Option.bind_eq_some_iff:=@Option.bind_eq_some_iff
theorem Jj:type_of% @Nat.beq_refl:=@Nat.beq_refl
theorem Jk:type_of% @List.pairwise_iff_getElem:=@List.pairwise_iff_getElem
theorem Jl:type_of% @List.append_assoc:=@List.append_assoc
theorem Jm:type_of% @List.eq_nil_of_length_eq_zero:=@List.eq_nil_of_length_eq_zero
theorem Jo:type_of% @Nat.lt_or_ge:=@Nat.lt_or_ge
theorem Jp:type_of% @Nat.le_of_eq:=@Nat.le_of_eq
theorem Jq:type_of% @Nat.zero_add:=@Nat.zero_add
theorem Jr:type_of% @List.take_length:=@List.take_length
theorem Js:type_of% @List.getElem?_append_right:=@List.getElem?_append_right
theorem Jt:type_of% @List.length_cons:=@List.length_cons
theorem Ju:type_of% @List.getElem_of_mem:=@List.getElem_of_mem
theorem Jv:type_of% @List.getElem?_eq_none:=@List.getElem?_eq_none
theorem Jw:type_of% @Array.getD_eq_getD_getElem?:=@Array.getD_eq_getD_getElem?
theorem Jx:type_of% @List.getElem_mem:=@List.getElem_mem
theorem Jy:type_of% @Bool.not_eq_true':=@Bool.not_eq_true'
theorem Jz:type_of% @List.mem_cons_self:=@List.mem_cons_self
theorem JA:type_of% @Option.some.injEq:=@Option.some.injEq
theorem JB:type_of% @List.mem_append_right:=@List.mem_append_right
theorem JC:type_of% @Nat.not_lt_zero:=@Nat.not_lt_zero
theorem JD:type_of% @Nat.eq_zero_or_pos:=@Nat.eq_zero_or_pos
theorem JE:type_of% @List.append_nil:=@List.append_nil
theorem JF:type_of% @List.getElem?_drop:=@List.getElem?_drop
theorem JG:type_of% @And.intro:=@And.intro
theorem JH:type_of% @List.not_mem_nil:=@List.not_mem_nil
theorem JI:type_of% @Nat.zero_le:=@Nat.zero_le
theorem JJ:type_of% @Bool.or_eq_true:=@Bool.or_eq_true
theorem JK:type_of% @Bool.eq_iff_iff:=@Bool.eq_iff_iff
theorem JL:type_of% @List.mem_singleton:=@List.mem_singleton
theorem JM:type_of% @Nat.lt_of_le_of_lt:=@Nat.lt_of_le_of_lt
theorem JN:type_of% @Nat.mul_le_mul_right:=@Nat.mul_le_mul_right
theorem JO:type_of% @List.mem_append_left:=@List.mem_append_left
theorem JP:type_of% @Nat.mod_eq_of_lt:=@Nat.mod_eq_of_lt
theorem JQ:type_of% @Option.bind_none:=@Option.bind_none
theorem JR:type_of% @Int.toNat_natCast:=@Int.toNat_natCast
theorem JS:type_of% @List.map_append:=@List.map_append
theorem JT:type_of% @Nat.mul_one:=@Nat.mul_one
theorem JU:type_of% @List.mem_range:=@List.mem_range
theorem JV:type_of% @List.mem_append:=@List.mem_append
theorem JW:type_of% @List.take_of_length_le:=@List.take_of_length_le
theorem JX:type_of% @List.mem_iff_getElem?:=@List.mem_iff_getElem?
theorem JY:type_of% @Nat.ble_eq_true_of_le:=@Nat.ble_eq_true_of_le
theorem JZ:type_of% @List.length_nil:=@List.length_nil
theorem K1:type_of% @Option.isSome_iff_exists:=@Option.isSome_iff_exists
theorem K2:type_of% @List.mem_of_getElem?:=@List.mem_of_getElem?
theorem K3:type_of% @List.map_cons:=@List.map_cons
theorem K4:type_of% @List.drop_append_of_le_length:=@List.drop_append_of_le_length
theorem K5:type_of% @List.any_eq_true:=@List.any_eq_true
theorem K6:type_of% @List.drop_zero:=@List.drop_zero
theorem K7:type_of% @Nat.add_mul:=@Nat.add_mul
theorem K8:type_of% @Array.getElem?_eq_none:=@Array.getElem?_eq_none
theorem K9:type_of% @List.drop_eq_nil_of_le:=@List.drop_eq_nil_of_le
theorem Ka:type_of% @Nat.le_trans:=@Nat.le_trans
theorem Kb:type_of% @BitVec.toNat_ofNat:=@BitVec.toNat_ofNat
theorem Kc:type_of% @List.eraseIdx_of_length_le:=@List.eraseIdx_of_length_le
theorem Kd:type_of% @List.length_eraseIdx_of_lt:=@List.length_eraseIdx_of_lt
theorem Ke:type_of% @List.any_eq_false:=@List.any_eq_false
theorem Kf:type_of% @BitVec.ofInt_natCast:=@BitVec.ofInt_natCast
theorem Kg:type_of% @List.pairwise_append:=@List.pairwise_append
theorem Kh:type_of% @List.mem_map:=@List.mem_map
theorem Ki:type_of% @Nat.add_zero:=@Nat.add_zero
theorem Kj:type_of% @List.getElem?_take:=@List.getElem?_take
theorem Kk:type_of% @List.length_set:=@List.length_set
theorem Kl:type_of% @List.nil_append:=@List.nil_append
theorem Km:type_of% @Nat.xor_lt_two_pow:=@Nat.xor_lt_two_pow
theorem Kn:type_of% @Nat.and_le_left:=@Nat.and_le_left
theorem Ko:type_of% @List.pairwise_cons:=@List.pairwise_cons
theorem Kp:type_of% @List.ext_getElem?:=@List.ext_getElem?
theorem Kq:type_of% @List.getElem?_set:=@List.getElem?_set
theorem Kr:type_of% @Nat.lt_succ_self:=@Nat.lt_succ_self
theorem Ks:type_of% @Nat.one_pos:=@Nat.one_pos
abbrev LI:=List Int
variable {xs ys:LI}
theorem Y_s:(∀n:Nat,((n:Int)).toNat=n)∧(∀n:Nat,0+n=n)∧(∀p:Prop,(True∧p)=p)∧(∀p:Prop,(p∧True)=p)∧∀n:Nat,(n≤n)=True:=⟨JR,Jq,true_and,and_true,fun n=>eq_true (J1 n)⟩
def Z8 (b:Bool) (x y:Prop):Prop:=match b with|true=>x|false=>y
def Z4 (p:Prop) [Decidable p] (x:Prop):Prop:=Z8 (decide p) x False
theorem Zd {p x:Prop} [Decidable p] (h:Z4 p x):p/\x:=by
 unfold Z4 at h
 by_cases hp:p
 ·rw [decide_eq_true hp] at h;exact ⟨hp,h⟩
 ·rw [decide_eq_false hp] at h;exact h.elim
theorem UU {p x:Prop} [Decidable p] (hp:p) (h:x):Z4 p x:=by
 unfold Z4;rw [decide_eq_true hp];exact h
theorem ZdX {b:Bool} {x:Prop} (h:Z8 b x False):b=true/\x:=by
 cases b with
 | true=>exact ⟨rfl,h⟩
 | false=>exact h.elim
structure ZI where
 blk:Nat
 row:Nat
 sz:Nat
 off:Nat
 inn:Nat
def ZI.tot (p:ZI):Nat:=p.row*p.sz+p.off+p.inn
inductive AV where
 | top
 | bool (b:Bool)
 | int (k:IntKind) (n:Int)
 | str (s:ByteArray)
 | ptr (p:Option ZI)
 | pview (cs:List AV) (inn:Nat)
 | nslice (p:ZI) (esz len lo:Nat)
 | vints (k:IntKind) (xs:LI) (len:Nat)
 | vrows (esz n:Nat) (f:Nat->List AV) (len:Nat)
 | eslice
 | fslice
 | nilslice
 | map (r:Option Nat)
 | func (fn:Fn) (first captured:List AV)
 | yield (x:Nat)
 | nilFunc
 | nilIface
 | iface (t:TypeId) (v:AV)
 | agg (cs:List AV)
 | arr (k:IntKind) (n:Nat) (xs:LI)
 | tuple (vs:List AV)
 | stamp (y:Nat)
variable {cs:List AV} {K:AV->Prop} {hi lo:Option AV} {parts:List (Nat×AV)}
def AV.isCell:AV->Bool
 | .agg _|.tuple _|.arr _ _ _=>false
 | _=>true
def intCells (k:IntKind) (n:Nat) (xs:LI):List Value:=(List.range n).map fun i=>Value.int k (xs.getD i 0)
structure Env where
 blk:Nat->Option (Nat×Nat)
 imm:Addr->Value->Prop
variable {A E E':Env}
structure Env.le (E E':Env):Prop where
 blk:∀x r,E.blk x=some r->E'.blk x=some r
 imm:∀a c,E.imm a c->E'.imm a c
def Env.views (E:Env):Env:=⟨fun _=>none,E.imm⟩
theorem Env.le.refl (E:Env):E.le E:=⟨fun _ _ h=>h,fun _ _ h=>h⟩
theorem Env.le.trans {B C:Env} (h:A.le B) (k:B.le C):A.le C:=⟨fun x r e=>k.blk x r (h.blk x r e),fun a c e=>k.imm a c (h.imm a c e)⟩
theorem Env.views_le (E:Env):E.views.le E:=⟨fun _ _ h=>by simp [Env.views] at h,fun _ _ h=>h⟩
theorem Env.le.views {B:Env} (h:A.le B):A.views.le B.views:=⟨fun _ _ h=>by simp [Env.views] at h,fun a c e=>h.imm a c e⟩
mutual
inductive Zc:Env->AV->Value->Prop
 | top {E:Env} (v:Value):Zc E .top v
 | bool {E:Env} (b:Bool):Zc E (.bool b) (.bool b)
 | int {E:Env} (k:IntKind) (n:Int):Zc E (.int k n) (.int k n)
 | str {E:Env} (s:ByteArray):Zc E (.str s) (.string s)
 | nilptr {E:Env}:Zc E (.ptr none) (.pointer none)
 | ptr {E:Env} (p:ZI) (b N:Nat) (h:E.blk p.blk=some (b,N)):Zc E (.ptr (some p)) (.pointer (some ⟨b,p.tot,none⟩))
 | pview {E:Env} (cs:List AV) (inn:Nat) (a:Addr) (vs:List Value) (hc:Zm E.views cs vs) (hi:∀j c,vs[j]? =some c->E.imm (a.add j) c):Zc E (.pview cs inn) (.pointer (some (a.add inn)))
 | nslice0 {E:Env} (p:ZI) (esz len lo:Nat) (a:Option Addr) (h1:len=0) (h2:lo=0):Zc E (.nslice p esz len lo) (.slice a 0 0)
 | nslice {E:Env} (p:ZI) (esz len lo b N cap:Nat) (h:E.blk p.blk=some (b,N)) (h1:len<=cap) (h2:lo<=cap) (h3:p.tot+cap*esz<=N):Zc E (.nslice p esz len lo) (.slice (some ⟨b,p.tot,none⟩) len cap)
 | vintsNil {E:Env} (k:IntKind) (xs:LI) (len:Nat) (h1:xs=[]) (h2:len=0):Zc E (.vints k xs len) (.slice none 0 0)
 | vints {E:Env} (k:IntKind) (xs:LI) (len:Nat) (a:Addr) (cap:Nat) (h1:len<=xs.length) (h2:xs.length<=cap) (hi:∀i,i<xs.length->E.imm (a.add i) (.int k (xs.getD i 0))):Zc E (.vints k xs len) (.slice (some a) len cap)
 | vrowsNil {E:Env} (esz n:Nat) (f:Nat->List AV) (len:Nat) (h1:n=0) (h2:len=0):Zc E (.vrows esz n f len) (.slice none 0 0)
 |vrows {E:Env} (esz n:Nat) (f:Nat->List AV) (len:Nat) (a:Addr) (cap:Nat) (g:Nat->List Value) (h1:len<=n) (h2:n<=cap) (hc:∀i,i<n->Zm E.views (f i) (g i)) (hl:∀i,i<n->(g i).length=esz)
   (hi:∀i j c,i<n->(g i)[j]? =some c->E.imm (a.add (i*esz+j)) c):Zc E (.vrows esz n f len) (.slice (some a) len cap)
 | eslice {E:Env} (a:Option Addr):Zc E .eslice (.slice a 0 0)
 | fslice {E:Env} (a:Addr) (cap:Nat):Zc E .fslice (.slice (some a) 0 cap)
 | nilslice {E:Env}:Zc E .nilslice (.slice none 0 0)
 | nilmap {E:Env}:Zc E (.map none) (.map none)
 | map {E:Env} (x b N:Nat) (h:E.blk x=some (b,N)):Zc E (.map (some x)) (.map (some b))
 | func {E:Env} (fn:Fn) (first captured:List AV) (fs cs:List Value) (h1:Zt E first fs) (h2:Zt E captured cs):Zc E (.func fn first captured) (.func fn fs.toArray cs.toArray)
 | yield {E:Env} (x b N:Nat) (h:E.blk x=some (b,N)):Zc E (.yield x) (.func (.yield b) #[] #[])
 | nilFunc {E:Env}:Zc E .nilFunc .nilFunc
 | nilIface {E:Env}:Zc E .nilIface .nilIface
 | iface {E:Env} (t:TypeId) (v:AV) (x:Value) (h:Zc E v x):Zc E (.iface t v) (.iface t x)
 | agg {E:Env} (cs:List AV) (vs:List Value) (h:Zm E cs vs):Zc E (.agg cs) (.agg vs.toArray)
 | tuple {E:Env} (vs:List AV) (rs:List Value) (h:Zt E vs rs):Zc E (.tuple vs) (.tuple rs.toArray)
 | stamp {E:Env} (y c:Nat) (h:E.blk y=some (c,0)):Zc E (.stamp y) (.int .i64 c)
inductive Zm:Env->List AV->List Value->Prop
 | nil {E:Env}:Zm E [] []
 | one {E:Env} (v:AV) (c:Value) (vs:List AV) (cs:List Value) (h0:v.isCell=true) (h1:c.oneCell'=true) (h:Zc E v c) (t:Zm E vs cs):Zm E (v::vs) (c::cs)
 | arr {E:Env} (k:IntKind) (n:Nat) (xs:LI) (vs:List AV) (cs:List Value) (t:Zm E vs cs):Zm E (.arr k n xs::vs) (intCells k n xs++cs)
inductive Zt:Env->List AV->List Value->Prop
 | nil {E:Env}:Zt E [] []
 | cons {E:Env} (v:AV) (c:Value) (vs:List AV) (cs:List Value) (h:Zc E v c) (t:Zt E vs cs):Zt E (v::vs) (c::cs)
end
mutual
theorem Zc.mono {E E':Env} (le:E.le E') {v:AV} {r:Value} (h:Zc E v r):Zc E' v r:=match v,r,h with
 | _,_,.top v=>.top v
 | _,_,.bool b=>.bool b
 | _,_,.int k n=>.int k n
 | _,_,.str s=>.str s
 | _,_,.nilptr=>.nilptr
 | _,_,.ptr p b N h=>.ptr p b N (le.blk _ _ h)
 | _,_,.pview cs inn a vs hc hi=>.pview cs inn a vs (Zm.mono le.views hc) (fun j c h=>le.imm _ _ (hi j c h))
 | _,_,.nslice0 p esz len lo a h1 h2=>.nslice0 p esz len lo a h1 h2
 | _,_,.nslice p esz len lo b N cap h h1 h2 h3=>.nslice p esz len lo b N cap (le.blk _ _ h) h1 h2 h3
 | _,_,.vintsNil k xs len h1 h2=>.vintsNil k xs len h1 h2
 | _,_,.vints k xs len a cap h1 h2 hi=>.vints k xs len a cap h1 h2 (fun i h=>le.imm _ _ (hi i h))
 | _,_,.vrowsNil esz n f len h1 h2=>.vrowsNil esz n f len h1 h2
 | _,_,.vrows esz n f len a cap g h1 h2 hc hl hi=>.vrows esz n f len a cap g h1 h2 (fun i h=>Zm.mono le.views (hc i h)) hl (fun i j c h h'=>le.imm _ _ (hi i j c h h'))
 | _,_,.eslice a=>.eslice a
 | _,_,.fslice a cap=>.fslice a cap
 | _,_,.nilslice=>.nilslice
 | _,_,.nilmap=>.nilmap
 | _,_,.map x b N h=>.map x b N (le.blk _ _ h)
 | _,_,.func fn first captured fs cs h1 h2=>.func fn first captured fs cs (Zt.mono le h1) (Zt.mono le h2)
 | _,_,.yield x b N h=>.yield x b N (le.blk _ _ h)
 | _,_,.nilFunc=>.nilFunc
 | _,_,.nilIface=>.nilIface
 | _,_,.iface t v x h=>.iface t v x (Zc.mono le h)
 | _,_,.agg cs vs h=>.agg cs vs (Zm.mono le h)
 | _,_,.tuple vs rs h=>.tuple vs rs (Zt.mono le h)
 | _,_,.stamp y c h=>.stamp y c (le.blk _ _ h)
theorem Zm.mono {E E':Env} (le:E.le E') {v:List AV} {r:List Value} (h:Zm E v r):Zm E' v r:=match v,r,h with
 | _,_,.nil=>.nil
 | _,_,.one v c vs cs h0 h1 h t=>.one v c vs cs h0 h1 (Zc.mono le h) (Zm.mono le t)
 | _,_,.arr k n xs vs cs t=>.arr k n xs vs cs (Zm.mono le t)
theorem Zt.mono {E E':Env} (le:E.le E') {v:List AV} {r:List Value} (h:Zt E v r):Zt E' v r:=match v,r,h with
 | _,_,.nil=>.nil
 | _,_,.cons v c vs cs h t=>.cons v c vs cs (Zc.mono le h) (Zt.mono le t)
end
abbrev ZM:=List (Nat×AV)
def ZD:ZM->Nat->Option AV
 | [],_=>none
 | (y,v)::r,x=>match Nat.beq y x with|true=>some v|false=>ZD r x
def Z3N:ZM->Nat->ZM
 | [],_=>[]
 | (y,v)::r,x=>match Nat.beq y x with|true=>Z3N r x|false=>(y,v)::Z3N r x
def Ue (t:ZM) (x:Nat) (v:AV):ZM:=(x,v)::Z3N t x
theorem XS (t:ZM) (x:Nat):ZD (Z3N t x) x=none:=by
 induction t with
 | nil=>rfl
 | cons p r ih=>
  grind [Z3N,ZD]
theorem Xn (t:ZM) (x y:Nat) (h:x≠y):ZD (Z3N t x) y=ZD t y:=by
 induction t with
 | nil=>rfl
 | cons p r ih=>
  grind [J0,Z3N,ZD]
theorem X4 (t:ZM) (x:Nat) (v:AV):ZD (Ue t x v) x=some v:=by
 simp [Ue,ZD]
theorem YT (t:ZM) (x y:Nat) (v:AV) (h:x≠y):ZD (Ue t x v) y=ZD t y:=by
 grind [J0,Ue,ZD,Xn]
structure Z3Y where
 state:LoopState
 pending:Option Code
 fn:FuncId
 n:Nat
 tmps:ZM
 params:List Nat
 assign:Code
 body:Code
 defers:Nat
inductive Blk where
 | flat (cs:List AV)
 | ints (k:IntKind) (xs:LI)
 | rows (sz n:Nat) (f:Nat->List AV)
 | map (es:List (AV×AV))
 | fmap (n:Nat) (kf vf:Nat->AV)
 | pmap (es:List (AV×AV))
 | smap (es:List (AV×AV)) (i y:Nat)
 | sfmap (n:Nat) (kf vf:Nat->AV) (key:AV) (y:Nat)
 | git (m y:Nat) (js:List Nat)
 | froz (B:Blk) (y:Nat)
 | loop (l:Z3Y)
 | defd
variable {B:Blk}
structure Z6 where
 next:Nat
 bs:List (Nat×Blk)
variable {h':Z6}
def ZC:List (Nat×Blk)->Nat->Option Blk
 | [],_=>none
 | (y,v)::r,x=>match Nat.beq y x with|true=>some v|false=>ZC r x
def ZK:List (Nat×Blk)->Nat->List (Nat×Blk)
 | [],_=>[]
 | (y,v)::r,x=>match Nat.beq y x with|true=>ZK r x|false=>(y,v)::ZK r x
def Z5X:List (Nat×Blk)->Nat->Blk->List (Nat×Blk)
 | [],x,b=>[(x,b)]
 | (y,v)::r,x,b=>match Nat.beq y x with|true=>(x,b)::ZK r x|false=>(y,v)::Z5X r x b
def Z6.get (h:Z6) (x:Nat):Option Blk:=ZC h.bs x
def Z6.set (h:Z6) (x:Nat) (b:Blk):Z6:=⟨h.next,Z5X h.bs x b⟩
def Z6.del (h:Z6) (x:Nat):Z6:=⟨h.next,ZK h.bs x⟩
def Z6.add (h:Z6) (b:Blk):Z6:=⟨h.next+1,(h.next,b)::h.bs⟩
theorem Zu {x y:Nat} (h:x≠y):Nat.beq x y=false:=by
 grind [J0]
theorem Qk (t:List (Nat×Blk)) (x:Nat):ZC (ZK t x) x=none:=by
 induction t with
 | nil=>rfl
 | cons p r ih=>
  grind [ZK,ZC]
theorem WA (t:List (Nat×Blk)) (x y:Nat) (h:x≠y):ZC (ZK t x) y=ZC t y:=by
 induction t with
 | nil=>rfl
 | cons p r ih=>
  grind [ZK,ZC,Zu]
theorem Z3O (t:List (Nat×Blk)) (x:Nat) (b:Blk):ZC (Z5X t x b) x=some b:=by
 induction t with
 | nil=>simp [Z5X,ZC]
 | cons p r ih=>
  grind [Z5X,ZC,Jj]
theorem Z2n (t:List (Nat×Blk)) (x y:Nat) (b:Blk) (h:x≠y):ZC (Z5X t x b) y=ZC t y:=by
 induction t with
 | nil=>simp [Z5X,ZC,Zu h]
 | cons p r ih=>
  grind [Z5X,ZC,Zu,WA]
theorem Z6.get_set_same (h:Z6) (x:Nat) (b:Blk):(h.set x b).get x=some b:=Z3O _ _ _
theorem Z6.get_set_other (h:Z6) (x y:Nat) (b:Blk) (n:x≠y):(h.set x b).get y=h.get y:=Z2n _ _ _ _ n
theorem Z6.get_del_same (h:Z6) (x:Nat):(h.del x).get x=none:=Qk _ _
theorem Z6.get_del_other (h:Z6) (x y:Nat) (n:x≠y):(h.del x).get y=h.get y:=WA _ _ _ n
theorem Z6.get_add_same (h:Z6) (b:Blk):(h.add b).get h.next=some b:=by simp [Z6.get,Z6.add,ZC]
theorem Z6.get_add_other (h:Z6) (y:Nat) (b:Blk) (n:h.next≠y):(h.add b).get y=h.get y:=by simp [Z6.get,Z6.add,ZC,Zu n]
def csz:List AV->Nat
 | []=>0
 | .arr _ n _::r=>n+csz r
 | _::r=>1+csz r
theorem Z9 (k:IntKind) (n:Nat) (xs:LI):(intCells k n xs).length=n:=by simp [intCells]
theorem Zm.length {E:Env}:∀{cs:List AV} {vs:List Value},Zm E cs vs->vs.length=csz cs
 | _,_,.nil=>rfl
 | _,_,.one v c vs cs h0 _ _ t=>by
  have:=Zm.length t
  cases v<;>simp_all [csz,AV.isCell]<;>omega
 | _,_,.arr k n xs vs cs t=>by
  have:=Zm.length t
  simp [csz,Z9,this]
structure V8 (E:Env) (n:Nat) (t:ZM) (tm:Array Value):Prop where
 size:tm.size=n
 get:∀x v,ZD t x=some v->Zc E v (tm.getD x undef)
theorem V8.mono (le:E.le E') {n:Nat} {t:ZM} {tm:Array Value} (h:V8 E n t tm):V8 E' n t tm:=
 ⟨h.size,fun x v e=>(h.get x v e).mono le⟩
def free (cells:Array Value) (fr:Nat×Nat):Prop:=∀o,o<cells.size->¬(fr.1<=o/\o<fr.2)
structure YE (ents:List MapEntry) (clock:Nat):Prop where
 nd:(ents.map (·.born)).Nodup
 lt:∀e∈ents,e.born<clock
theorem YE.nil (c:Nat):YE [] c:=⟨.nil,fun _ h=>by cases h⟩
theorem YE.push (h:YE ents clock) (k v:Value):YE (ents++[⟨k,v,clock⟩]) (clock+1):=by
 refine ⟨?_,fun e he=> ?_⟩
 ·rw [JS,List.nodup_append]
  refine ⟨h.nd,by simp,fun a ha b hb=> ?_⟩
  obtain ⟨e,he,rfl⟩:=Kh.1 ha
  have:=h.lt e he
  simp at hb
  omega
 ·rcases JV.1 he with he|he
  ·have:=h.lt e he;omega
  ·simp at he;subst he;exact Kr _
theorem YE.erase (h:YE ents clock) (j:Nat):YE (ents.eraseIdx j) clock:=
 ⟨h.nd.sublist ((List.eraseIdx_sublist ents j).map _),fun e he=>h.lt e (List.mem_of_mem_eraseIdx he)⟩
theorem YE.of_born {c:Nat} (h:YE ents c) (e:ents'.map (·.born)=ents.map (·.born)):YE ents' c:=by
 refine ⟨e▸h.nd,fun x hx=> ?_⟩
 have:x.born∈ents'.map (·.born):=Kh.2 ⟨x,hx,rfl⟩
 rw [e] at this
 obtain ⟨y,hy,hyx⟩:=Kh.1 this
 have:=h.lt y hy
 omega
def Z2o:List Nat->Nat
 | []=>0
 | a::r=>2^a*(2*Z2o r+1)
theorem Z5Y:∀(a b x y:Nat),2^a*(2*x+1)=2^b*(2*y+1)->a=b/\x=y
 | 0,0,x,y,h=>by simp at h;exact ⟨rfl,by omega⟩
 | 0,b+1,x,y,h=>by rw [Nat.pow_succ,Nat.mul_right_comm] at h;omega
 | a+1,0,x,y,h=>by rw [Nat.pow_succ,Nat.mul_right_comm] at h;omega
 | a+1,b+1,x,y,h=>by
  rw [Nat.pow_succ,Nat.mul_right_comm,Nat.pow_succ,Nat.mul_right_comm (2^b)] at h
  obtain ⟨rfl,rfl⟩:=Z5Y a b x y (by omega)
  exact ⟨rfl,rfl⟩
theorem Z2p:∀{l m:List Nat},Z2o l=Z2o m->l=m
 | [],[],_=>rfl
 | [],b::s,h=>by
  have:0<2^b*(2*Z2o s+1):=Nat.mul_pos (Nat.two_pow_pos b) (by omega)
  simp only [Z2o] at h
  omega
 | a::r,[],h=>by
  have:0<2^a*(2*Z2o r+1):=Nat.mul_pos (Nat.two_pow_pos a) (by omega)
  simp only [Z2o] at h
  omega
 | a::r,b::s,h=>by
  obtain ⟨rfl,h2⟩:=Z5Y _ _ _ _ h
  rw [Z2p h2]
inductive ZV (E:Env) (w:World) (x:Nat):Blk->Prop
 | flat0 (cs:List AV) (h0:csz cs=0) (hn:E.blk x=none):ZV E w x (.flat cs)
 |flat (cs:List AV) (b:Nat) (cells:Array Value) (elem:TypeId) (fr:Nat×Nat) (vs:List Value) (hb:E.blk x=some (b,cells.size)) (hw:w.heap[b]? =some (.cells cells elem fr)) (hf:free cells fr)
   (hc:Zm E cs vs) (hv:∀(j:Nat) (c:Value),vs[j]? =some c->cells[j]? =some c):ZV E w x (.flat cs)
 | ints0 (k:IntKind) (xs:LI) (h0:xs=[]) (hn:E.blk x=none):ZV E w x (.ints k xs)
 |ints (k:IntKind) (xs:LI) (b:Nat) (cells:Array Value) (elem:TypeId) (fr:Nat×Nat) (hb:E.blk x=some (b,cells.size)) (hw:w.heap[b]? =some (.cells cells elem fr)) (hf:free cells fr)
   (hv:∀(j:Nat),j<xs.length->cells[j]? =some (.int k (xs.getD j 0))):ZV E w x (.ints k xs)
 | rows0 (sz n:Nat) (f:Nat->List AV) (h0:n=0) (hn:E.blk x=none):ZV E w x (.rows sz n f)
 |rows (sz n:Nat) (f:Nat->List AV) (b:Nat) (cells:Array Value) (elem:TypeId) (fr:Nat×Nat) (g:Nat->List Value) (hb:E.blk x=some (b,cells.size)) (hw:w.heap[b]? =some (.cells cells elem fr)) (hf:free cells fr)
   (hc:∀i,i<n->Zm E (f i) (g i)) (hl:∀i,i<n->(g i).length=sz) (hv:∀(i j:Nat) (c:Value),i<n->(g i)[j]? =some c->cells[i*sz+j]? =some c):ZV E w x (.rows sz n f)
 |map (es:List (AV×AV)) (b:Nat) (ents:List MapEntry) (clock:Nat) (hb:E.blk x=some (b,0)) (hw:w.heap[b]? =some (.map ents.toArray clock))
   (hk:Zt E (es.map (·.1)) (ents.map (·.key))) (hv:Zt E (es.map (·.2)) (ents.map (·.val))) (hbn:YE ents clock):ZV E w x (.map es)
 |smap (es:List (AV×AV)) (i y:Nat) (b:Nat) (ents:List MapEntry) (clock s:Nat) (e:MapEntry) (hb:E.blk x=some (b,0)) (hw:w.heap[b]? =some (.map ents.toArray clock))
   (hk:Zt E (es.map (·.1)) (ents.map (·.key))) (hv:Zt E (es.map (·.2)) (ents.map (·.val))) (hbn:YE ents clock) (hs:E.blk y=some (s,0)) (he:ents[i]? =some e) (hy:e.born=s):ZV E w x (.smap es i y)
 |fmap (n:Nat) (kf vf:Nat->AV) (b:Nat) (ents:List MapEntry) (clock:Nat) (hb:E.blk x=some (b,0)) (hw:w.heap[b]? =some (.map ents.toArray clock)) (hl:ents.length=n)
   (hk:∀(i:Nat) (e:MapEntry),ents[i]? =some e->Zc E (kf i) e.key) (hv:∀(i:Nat) (e:MapEntry),ents[i]? =some e->Zc E (vf i) e.val) (hbn:YE ents clock):ZV E w x (.fmap n kf vf)
 |sfmap (n:Nat) (kf vf:Nat->AV) (key:AV) (y b:Nat) (ents:List MapEntry) (clock:Nat) (e:MapEntry) (hb:E.blk x=some (b,0)) (hw:w.heap[b]? =some (.map (ents++[e]).toArray clock)) (hl:ents.length=n)
   (hk:∀(i:Nat) (e:MapEntry),ents[i]? =some e->Zc E (kf i) e.key) (hv:∀(i:Nat) (e:MapEntry),ents[i]? =some e->Zc E (vf i) e.val) (hbn:YE (ents++[e]) clock) (hs:E.blk y=some (e.born,0)) (he:Zc E key e.key):ZV E w x (.sfmap n kf vf key y)
 |git (m y:Nat) (js:List Nat) (b mb clock:Nat) (bs:List Nat) (seen:Array Nat) (hb:E.blk x=some (b,0)) (hm:E.blk m=some (mb,0)) (hy:E.blk y=some (clock,Z2o bs)) (hs:seen.toList=(js.map fun j=>bs.getD j 0).reverse) (hj:∀j∈js,j<bs.length)
   (hw:w.heap[b]? =some (.mapIter (some mb) clock seen clock)):ZV E w x (.git m y js)
 | froz (B:Blk) (y b:Nat) (ents:List MapEntry) (clock:Nat) (hB:ZV E w x B) (hb:E.blk x=some (b,0)) (hw:w.heap[b]? =some (.map ents.toArray clock)) (hbn:YE ents clock) (hy:E.blk y=some (clock,Z2o (ents.map (·.born)))):ZV E w x (.froz B y)
 |pmap (es:List (AV×AV)) (b:Nat) (k:IntKind) (ents ents':List MapEntry) (clock:Nat) (hb:E.blk x=some (b,0)) (hw:w.heap[b]? =some (.map ents.toArray clock)) (hp:ents'.Perm ents)
   (hn:(ents'.map (·.key)).Nodup) (hi:∀e∈ents',∃c,e.key=.int k c) (hk:Zt E (es.map (·.1)) (ents'.map (·.key))) (hv:Zt E (es.map (·.2)) (ents'.map (·.val))):ZV E w x (.pmap es)
 |loop (l:Z3Y) (b d N:Nat) (fnr:FuncId) (tm:Array Value) (hb:E.blk x=some (b,0)) (hd:E.blk l.defers=some (d,N)) (hw:w.heap[b]? =some (.loop ⟨l.state,l.pending,fnr,tm,l.params.toArray,l.assign,l.body,d⟩))
   (ht:V8 E l.n l.tmps tm):ZV E w x (.loop l)
 | defd (b:Nat) (hb:E.blk x=some (b,0)) (hw:w.heap[b]? =some (.deferred (some []))):ZV E w x .defd
theorem ZV.congr {w:World} {x:Nat} (h:ZV E w x B) (hw:∀b N,E.blk x=some (b,N)->w'.heap[b]? =w.heap[b]?):ZV E w' x B:=by
 induction h with
 | flat0 cs h0 hn=>exact .flat0 cs h0 hn
 | flat cs b cells elem fr vs hb h1 hf hc hv=>exact .flat cs b cells elem fr vs hb ((hw _ _ hb).trans h1) hf hc hv
 | ints0 k xs h0 hn=>exact .ints0 k xs h0 hn
 | ints k xs b cells elem fr hb h1 hf hv=>exact .ints k xs b cells elem fr hb ((hw _ _ hb).trans h1) hf hv
 | rows0 sz n f h0 hn=>exact .rows0 sz n f h0 hn
 | rows sz n f b cells elem fr g hb h1 hf hc hl hv=>exact .rows sz n f b cells elem fr g hb ((hw _ _ hb).trans h1) hf hc hl hv
 | map es b ents clock hb h1 hk hv hbn=>exact .map es b ents clock hb ((hw _ _ hb).trans h1) hk hv hbn
 | smap es i y b ents clock s e hb h1 hk hv hbn hs he hy=>exact .smap es i y b ents clock s e hb ((hw _ _ hb).trans h1) hk hv hbn hs he hy
 | fmap n kf vf b ents clock hb h1 hl hk hv hbn=>exact .fmap n kf vf b ents clock hb ((hw _ _ hb).trans h1) hl hk hv hbn
 | sfmap n kf vf key y b ents clock e hb h1 hl hk hv hbn hs he=>exact .sfmap n kf vf key y b ents clock e hb ((hw _ _ hb).trans h1) hl hk hv hbn hs he
 | git m y js b mb clock bs seen hb hm hy hs hj h1=>exact .git m y js b mb clock bs seen hb hm hy hs hj ((hw _ _ hb).trans h1)
 | froz B y b ents clock hB hb h1 hbn hy ih=>exact .froz B y b ents clock ih hb ((hw _ _ hb).trans h1) hbn hy
 | pmap es b k ents ents' clock hb h1 hp hn hi hk hv=>exact .pmap es b k ents ents' clock hb ((hw _ _ hb).trans h1) hp hn hi hk hv
 | loop l b d N fnr tm hb hd h1 ht=>exact .loop l b d N fnr tm hb hd ((hw _ _ hb).trans h1) ht
 | defd b hb h1=>exact .defd b hb ((hw _ _ hb).trans h1)
theorem ZV.mono {w:World} {x:Nat} (h:ZV E w x B) (le:E.le E') (he:E.blk x=none->E'.blk x=none):ZV E' w x B:=by
 induction h with
 | flat0 cs h0 hn=>exact .flat0 cs h0 (he hn)
 | flat cs b cells elem fr vs hb h1 hf hc hv=>exact .flat cs b cells elem fr vs (le.blk _ _ hb) h1 hf (hc.mono le) hv
 | ints0 k xs h0 hn=>exact .ints0 k xs h0 (he hn)
 | ints k xs b cells elem fr hb h1 hf hv=>exact .ints k xs b cells elem fr (le.blk _ _ hb) h1 hf hv
 | rows0 sz n f h0 hn=>exact .rows0 sz n f h0 (he hn)
 | rows sz n f b cells elem fr g hb h1 hf hc hl hv=>exact .rows sz n f b cells elem fr g (le.blk _ _ hb) h1 hf (fun i hi=>(hc i hi).mono le) hl hv
 | map es b ents clock hb h1 hk hv hbn=>exact .map es b ents clock (le.blk _ _ hb) h1 (hk.mono le) (hv.mono le) hbn
 | smap es i y b ents clock s e hb h1 hk hv hbn hs he hy=>exact .smap es i y b ents clock s e (le.blk _ _ hb) h1 (hk.mono le) (hv.mono le) hbn (le.blk _ _ hs) he hy
 | fmap n kf vf b ents clock hb h1 hl hk hv hbn=>exact .fmap n kf vf b ents clock (le.blk _ _ hb) h1 hl (fun i e h=>(hk i e h).mono le) (fun i e h=>(hv i e h).mono le) hbn
 | sfmap n kf vf key y b ents clock e hb h1 hl hk hv hbn hs he=>exact .sfmap n kf vf key y b ents clock e (le.blk _ _ hb) h1 hl (fun i e h=>(hk i e h).mono le) (fun i e h=>(hv i e h).mono le) hbn (le.blk _ _ hs) (he.mono le)
 | git m y js b mb clock bs seen hb hm hy hs hj h1=>exact .git m y js b mb clock bs seen (le.blk _ _ hb) (le.blk _ _ hm) (le.blk _ _ hy) hs hj h1
 | froz B y b ents clock hB hb h1 hbn hy ih=>exact .froz B y b ents clock ih (le.blk _ _ hb) h1 hbn (le.blk _ _ hy)
 | pmap es b k ents ents' clock hb h1 hp hn hi hk hv=>exact .pmap es b k ents ents' clock (le.blk _ _ hb) h1 hp hn hi (hk.mono le) (hv.mono le)
 | loop l b d N fnr tm hb hd h1 ht=>exact .loop l b d N fnr tm (le.blk _ _ hb) (le.blk _ _ hd) h1 (ht.mono le)
 | defd b hb h1=>exact .defd b (le.blk _ _ hb) h1
theorem ZV.lt {w:World} {x:Nat} (h:ZV E w x B) {b N:Nat} (e:E.blk x=some (b,N)):b<w.heap.size:=by
 have key:∀(b':Nat) (o:Obj),w.heap[b']? =some o->b'<w.heap.size:=fun b' o ho=>by
  grind
 cases h with
 | flat0 cs h0 hn=>rw [hn] at e;cases e
 | flat cs b cells elem fr vs hb h1 hf hc hv=>simp_all
 | ints0 k xs h0 hn=>rw [hn] at e;cases e
 | ints k xs b cells elem fr hb h1 hf hv=>simp_all
 | rows0 sz n f h0 hn=>rw [hn] at e;cases e
 | rows sz n f b cells elem fr g hb h1 hf hc hl hv=>simp_all
 | map es b ents clock hb h1 hk hv hbn=>simp_all
 | fmap n kf vf b ents clock hb h1 hl hk hv hbn=>simp_all
 | sfmap n kf vf key y b ents clock e hb h1 hl hk hv hbn hs he=>simp_all
 | git m y js b mb clock bs seen hb hm hy hs hj h1=>simp_all
 | froz B y b ents clock hB hb h1 hbn hy=>simp_all
 | smap es i y b ents clock s e hb h1 hk hv hbn hs he' hy=>simp_all
 | pmap es b k ents ents' clock hb h1 hp hn hi hk hv=>simp_all
 | loop l b d N fnr tm hb hd h1 ht=>simp_all
 | defd b hb h1=>simp_all
structure Emb (E:Env) (h:Z6) (w:World):Prop where
 fresh:∀x,h.next<=x->E.blk x=none
 lt:∀x B,h.get x=some B->x<h.next
 own:∀x B,h.get x=some B->ZV E w x B
 disj:∀x y B B' b N N',h.get x=some B->h.get y=some B'->E.blk x=some (b,N)->E.blk y=some (b,N')->x=y
 imm:∀a c,E.imm a c->w.cell? a=some c
 sep:∀a c x B N,E.imm a c->h.get x=some B->E.blk x=some (a.block,N)->False
def X5 (E:Env) (h:Z6) (b:Nat):Prop:=∃x B N,h.get x=some B/\E.blk x=some (b,N)
structure Evo (E:Env) (h:Z6) (w:World) (E':Env) (h':Z6) (w':World):Prop where
 le:E.le E'
 emb:Emb E' h' w'
 size:w.heap.size<=w'.heap.size
 os:w'.os=w.os
 tape:w'.tape=w.tape
 output:w'.output=w.output/\w.drawn<=w'.drawn
 keep:∀b,b<w.heap.size->¬X5 E h b->w'.heap[b]? =w.heap[b]?
 own:∀b,X5 E' h' b->X5 E h b\/w.heap.size<=b
 imm:∀a c,E'.imm a c->E.imm a c
theorem Evo.refl {h:Z6} {w:World} (e:Emb E h w):Evo E h w E h w:=
 ⟨.refl E,e,J1 _,rfl,rfl,⟨rfl,J1 _⟩,fun _ _ _=>rfl,fun _ h=>.inl h,fun _ _ h=>h⟩
theorem Evo.trans {E'':Env} {h h'':Z6} {w w'':World} (a:Evo E h w E' h' w') (b:Evo E' h' w' E'' h'' w''):Evo E h w E'' h'' w'' where
 le:=a.le.trans b.le
 emb:=b.emb
 size:=Ka a.size b.size
 os:=b.os.trans a.os
 tape:=b.tape.trans a.tape
 output:=⟨b.output.1.trans a.output.1,Ka a.output.2 b.output.2⟩
 keep:=fun i hi hn=>by
  have h1:=a.keep i hi hn
  have h2:=b.keep i (Nat.lt_of_lt_of_le hi a.size) (fun ho=>by
   rcases a.own i ho with h|h
   all_goals grind)
  simp_all
 own:=fun i ho=>by
  rcases b.own i ho with h|h
  ·exact a.own i h
  ·exact .inr (Ka a.size h)
 imm:=fun i c h=>a.imm i c (b.imm i c h)
theorem Emb.drew {h:Z6} {w:World} (e:Emb E h w) (hh:w'.heap=w.heap):Emb E h w' where
 fresh:=e.fresh
 lt:=e.lt
 own:=fun x B hx=>(e.own x B hx).congr fun _ _ _=>by rw [hh]
 disj:=e.disj
 imm:=fun a c hi=>by have:=e.imm a c hi;simpa [World.cell?,hh] using this
 sep:=e.sep
theorem Z01 {h:Z6} {w:World} (e:Emb E h w) (hh:w'.heap=w.heap) (h1:w'.os=w.os) (h2:w'.tape=w.tape) (h3:w'.output=w.output/\w.drawn<=w'.drawn):Evo E h w E h w':=
 ⟨.refl E,e.drew hh,by rw [hh];omega,h1,h2,h3,fun _ _ _=>by rw [hh],fun _ h=>.inl h,fun _ _ h=>h⟩
def Env.ext (E:Env) (x b N:Nat):Env:={ E with blk:=fun y=>if y=x then some (b,N) else E.blk y}
theorem Env.ext_le {x b N:Nat} (h:E.blk x=none):E.le (E.ext x b N):=
 ⟨fun y r e=>by
  show (if y=x then some (b,N) else E.blk y)=some r
  rw [if_neg (fun hy=>by rw [hy,h] at e;cases e)];exact e,fun _ _ h=>h⟩
theorem Env.ext_same (E:Env) (x b N:Nat):(E.ext x b N).blk x=some (b,N):=if_pos rfl
theorem Env.ext_other (E:Env) {x y:Nat} (b N:Nat) (h:y≠x):(E.ext x b N).blk y=E.blk y:=if_neg h
theorem World.push_old {w:World} {o:Obj} {b:Nat} (h:b<w.heap.size):(w.heap.push o)[b]? =w.heap[b]?:=by
 rw [Array.getElem?_push];rw [if_neg (by omega)]
theorem XC {h:Z6} {w:World} (e:Emb E h w) (o:Obj) (N:Nat) (B:Blk)
  (hB:ZV (E.ext h.next w.heap.size N) { w with heap:=w.heap.push o} h.next B):
  Evo E h w (E.ext h.next w.heap.size N) (h.add B) { w with heap:=w.heap.push o}:=by
 have hfr:E.blk h.next=none:=e.fresh _ (J1 _)
 have hle:E.le (E.ext h.next w.heap.size N):=Env.ext_le hfr
 have hget:∀y B',(h.add B).get y=some B'->(y=h.next/\B'=B)\/(y≠h.next/\h.get y=some B'):=fun y B' hy=>by
  grind [Z6.get_add_same,Z6.get_add_other]
 refine ⟨hle,⟨?_, ?_, ?_, ?_, ?_, ?_⟩, ?_,rfl,rfl,⟨rfl,J1 _⟩, ?_, ?_,fun _ _ h=>h⟩
 ·intro x hx
  have hx':h.next+1<=x:=hx
  rw [Env.ext_other _ _ _ (by omega)]
  exact e.fresh x (by omega)
 ·intro x B' hx
  show x<h.next+1
  rcases hget x B' hx with ⟨rfl,_⟩|⟨_,h'⟩
  ·omega
  ·have:=e.lt x B' h';omega
 ·intro x B' hx
  rcases hget x B' hx with ⟨rfl,rfl⟩|⟨hne,h'⟩
  ·exact hB
  ·have h1:=(e.own x B' h').mono hle (fun hn=>by rw [Env.ext_other _ _ _ hne];exact hn)
   refine h1.congr fun b M hb=> ?_
   rw [Env.ext_other _ _ _ hne] at hb
   exact World.push_old ((e.own x B' h').lt hb)
 ·intro x y B1 B2 b M M' hx hy hbx hby
  rcases hget x B1 hx with ⟨rfl,_⟩|⟨hnx,hx'⟩<;>rcases hget y B2 hy with ⟨rfl,_⟩|⟨hny,hy'⟩
  ·rfl
  ·rw [Env.ext_same] at hbx;cases hbx
   rw [Env.ext_other _ _ _ hny] at hby
   have:=(e.own y B2 hy').lt hby;omega
  ·rw [Env.ext_same] at hby;cases hby
   rw [Env.ext_other _ _ _ hnx] at hbx
   have:=(e.own x B1 hx').lt hbx;omega
  ·rw [Env.ext_other _ _ _ hnx] at hbx;rw [Env.ext_other _ _ _ hny] at hby
   exact e.disj x y B1 B2 b M M' hx' hy' hbx hby
 ·intro a c hi
  have h1:=e.imm a c hi
  grind [World.cell?]
 ·intro a c x B' M hi hx hb
  rcases hget x B' hx with ⟨rfl,_⟩|⟨hne,hx'⟩
  ·rw [Env.ext_same] at hb
   have h1:=e.imm a c hi
   simp_all [World.cell?]
  ·rw [Env.ext_other _ _ _ hne] at hb
   exact e.sep a c x B' M hi hx' hb
 ·simp
 ·grind
 ·rintro b ⟨x,B',M,hx,hb⟩
  rcases hget x B' hx with ⟨rfl,_⟩|⟨hne,hx'⟩
  ·rw [Env.ext_same] at hb;simp_all
  ·rw [Env.ext_other _ _ _ hne] at hb;exact .inl ⟨x,B',M,hx',hb⟩
theorem Yg {h:Z6} {w:World} (e:Emb E h w) (x:Nat) (B B':Blk) (b N:Nat) (hx:h.get x=some B) (hb:E.blk x=some (b,N))
  (hh:∀i,i≠b->w'.heap[i]? =w.heap[i]?) (hs:w'.heap.size=w.heap.size) (h1:w'.os=w.os) (h2:w'.tape=w.tape) (h3:w'.output=w.output/\w.drawn<=w'.drawn)
  (hB:ZV E w' x B'):Evo E h w E (h.set x B') w':=by
 have hget:∀y C,(h.set x B').get y=some C->(y=x/\C=B')\/(y≠x/\h.get y=some C):=fun y C hy=>by
  grind [Z6.get_set_same,Z6.get_set_other]
 have hget':∀y C,(h.set x B').get y=some C->∃C',h.get y=some C':=fun y C hy=>by
  grind
 refine ⟨.refl E,⟨e.fresh, ?_, ?_, ?_, ?_, ?_⟩,by omega,h1,h2,h3, ?_, ?_,fun _ _ h=>h⟩
 ·intro y C hy
  obtain ⟨C',h'⟩:=hget' y C hy
  exact e.lt y C' h'
 ·intro y C hy
  rcases hget y C hy with ⟨rfl,rfl⟩|⟨hne,h'⟩
  ·exact hB
  ·refine (e.own y C h').congr fun b' M hb'=>hh b' ?_
   rintro rfl
   exact hne (e.disj y x C B b' M N h' hx hb' hb)
 ·intro y z C D b' M M' hy hz hby hbz
  obtain ⟨C',hy'⟩:=hget' y C hy
  obtain ⟨D',hz'⟩:=hget' z D hz
  exact e.disj y z C' D' b' M M' hy' hz' hby hbz
 ·intro a c hi
  have h0:=e.imm a c hi
  have hne:a.block≠b:=by
   rintro rfl
   exact e.sep a c x B N hi hx hb
  simpa [World.cell?,hh _ hne] using h0
 ·intro a c y C M hi hy hb'
  obtain ⟨C',hy'⟩:=hget' y C hy
  exact e.sep a c y C' M hi hy' hb'
 ·intro i _ hn
  refine hh i ?_
  rintro rfl
  exact hn ⟨x,B,N,hx,hb⟩
 ·rintro i ⟨y,C,M,hy,hb'⟩
  obtain ⟨C',hy'⟩:=hget' y C hy
  exact .inl ⟨y,C',M,hy',hb'⟩
theorem Z2q {h:Z6} {w:World} (e:Emb E h w) (hn:h'.next=h.next) (hg:∀x B,h'.get x=some B->h.get x=some B):Evo E h w E h' w:=
 ⟨.refl E,⟨fun x hx=>e.fresh x (hn▸hx),fun x B hx=>hn▸e.lt x B (hg x B hx),fun x B hx=>e.own x B (hg x B hx),
  fun x y B B' b N N' hx hy=>e.disj x y B B' b N N' (hg x B hx) (hg y B' hy),e.imm,fun a c x B N hi hx=>e.sep a c x B N hi (hg x B hx)⟩,
  J1 _,rfl,rfl,⟨rfl,J1 _⟩,fun _ _ _=>rfl,fun _ ⟨x,B,N,hx,hb⟩=>.inl ⟨x,B,N,hg x B hx,hb⟩,fun _ _ h=>h⟩
theorem Z21 {h:Z6} {w:World} (e:Emb E h w) (x:Nat):Evo E h w E (h.del x) w:=
 Z2q e rfl fun y B hy=>by
  grind [Z6.get_del_same,Z6.get_del_other]
def Ym:Nat->List AV->Option (List AV)
 | 0,cs=>some cs
 | _+1,[]=>none
 | n+1,.arr _ m _::r=>match Nat.ble m (n+1) with|true=>Ym (n+1-m) r|false=>none
 | n+1,_::r=>Ym n r
termination_by structural _ cs=>cs
def takeC:Nat->List AV->Option (List AV)
 | 0,_=>some []
 | _+1,[]=>none
 | n+1,.arr k m xs::r=>match Nat.ble m (n+1) with
  | true=>match takeC (n+1-m) r with
   | some cs=>some (.arr k m xs::cs)
   | none=>none
  | false=>none
 | n+1,v::r=>match takeC n r with
  | some cs=>some (v::cs)
  | none=>none
termination_by structural _ cs=>cs
theorem Zm.cons_cell {v:AV} {r:List AV} (h:Zm E (v::r) vs) (hv:∀k m xs,v≠.arr k m xs):
  ∃c ws,vs=c::ws/\v.isCell=true/\c.oneCell'=true/\Zc E v c/\Zm E r ws:=by
 cases h with
 | one v c vs cs h0 h1 h t=>grind
 | arr k n xs vs cs t=>simp_all
theorem Zm.cons_arr {k:IntKind} {m:Nat} {r:List AV} (h:Zm E (.arr k m xs::r) vs):
  ∃ws,vs=intCells k m xs++ws/\Zm E r ws:=by
 cases h with
 | one v c vs cs h0 h1 h t=>simp [AV.isCell] at h0
 | arr k n xs vs cs t=>simp_all
theorem V9 {m n:Nat} (h:Nat.ble m n=true):m<=n:=Je h
theorem ZN:∀(cs:List AV) (n:Nat) (rest:List AV) (vs:List Value),Ym n cs=some rest->Zm E cs vs->Zm E rest (vs.drop n)/\n<=vs.length:=by
 intro cs
 induction cs with
 | nil=>
  intro n rest vs h hc
  cases n with
  | zero=>simp_all [Ym]
  | succ n=>simp [Ym] at h
 | cons v r ih=>
  intro n rest vs h hc
  cases n with
  | zero=>simp_all [Ym]
  | succ n=>
   by_cases hv:∃k m xs,v=.arr k m xs
   ·obtain ⟨k,m,xs,rfl⟩:=hv
    obtain ⟨ws,rfl,hr⟩:=hc.cons_arr
    simp only [Ym] at h
    split at h
    all_goals grind [V9,Z9,List.drop_append,List.drop_of_length_le]
   ·have hv':∀k m xs,v≠.arr k m xs:=fun k m xs e=>hv ⟨k,m,xs,e⟩
    obtain ⟨c,ws,rfl,_,_,_,hr⟩:=hc.cons_cell hv'
    simp_all [Ym]
theorem Vh:∀(cs:List AV) (n:Nat) (rest:List AV) (vs:List Value),takeC n cs=some rest->Zm E cs vs->Zm E rest (vs.take n)/\n<=vs.length:=by
 intro cs
 induction cs with
 | nil=>
  intro n rest vs h hc
  cases n with
  | zero=>simp_all [takeC,Zm.nil]
  | succ n=>simp [takeC] at h
 | cons v r ih=>
  intro n rest vs h hc
  cases n with
  | zero=>simp_all [takeC,Zm.nil]
  | succ n=>
   by_cases hv:∃k m xs,v=.arr k m xs
   ·obtain ⟨k,m,xs,rfl⟩:=hv
    obtain ⟨ws,rfl,hr⟩:=hc.cons_arr
    simp only [takeC] at h
    split at h
    ·rename_i hb
     have hm:=V9 hb
     split at h
     ·rename_i cs' hcs
      injection h with h
      subst h
      obtain ⟨h1,h2⟩:=ih _ _ _ hcs hr
      refine ⟨?_,by simp [Z9];omega⟩
      rw [List.take_append,JW (by simp [Z9];omega),Z9]
      exact .arr k m xs _ _ h1
     ·cases h
    ·cases h
   ·have hv':∀k m xs,v≠.arr k m xs:=fun k m xs e=>hv ⟨k,m,xs,e⟩
    obtain ⟨c,ws,rfl,h0,h1c,hvr,hr⟩:=hc.cons_cell hv'
    have h':∃cs',takeC n r=some cs'/\rest=v::cs':=by
     cases v<;>first
      | exact absurd rfl (hv' _ _ _)
      | (simp only [takeC] at h;split at h<;>first|(rename_i cs' hcs;injection h with h;exact ⟨cs',hcs,h.symm⟩)|cases h)
    grind [Zm.one]
def Uf (P:Program) (t:TypeId):Option Bool:=
 match P.underlying t with
 | some (.struct _)=>some true
 | some (.array _ _)=>some true
 | some _=>some false
 | none=>none
def ZS (P:Program) (t:TypeId):Option Nat:=match P.info? t with|some i=>some i.size|none=>none
theorem Vi {P:Program} {t:TypeId} {b:Bool} (h:Uf P t=some b) (w:World):(isAgg t).run P w=.ok b w:=by
 unfold Uf at h
 unfold isAgg underlying
 simp only [J6,run_program]
 cases hu:P.underlying t with
 | none=>simp_all
 | some d=>
  cases d<;>simp_all
theorem run_sizeOf {P:Program} {t:TypeId} {n:Nat} (h:ZS P t=some n) (w:World):(sizeOf t).run P w=.ok n w:=by
 unfold ZS at h
 unfold sizeOf typeInfo
 cases hu:P.info? t with
 | none=>simp_all
 | some d=>simp_all
theorem W7 {P:Program} {t:TypeId} (w:World) (a:Addr) (cs:List Value) (h:Uf P t=some true) (hs:ZS P t=some cs.length)
  (hc:∀(j:Nat) v,cs[j]? =some v->w.cell? (a.add j)=some v):(loadVar t a).run P w=.ok (.agg cs.toArray) w:=by
 simp_all [loadVar,Vi,run_sizeOf,run_loadCells_list]
theorem W9 {P:Program} {t:TypeId} (w:World) (a:Addr) (c:Value) (h:Uf P t=some false) (hc:w.cell? a=some c):(loadVar t a).run P w=.ok c w:=by
 simp_all [loadVar,Vi]
def Z54 (s:Nat) (cs:List AV) (inn:Nat) (K:AV->Prop):Prop:=
 match inn with
 | 0=>match takeC s cs with
  | some front=>K (.agg front)
  | none=>False
 | _+1=>False
def Z5Z (P:Program) (t:TypeId) (cs:List AV) (inn:Nat) (K:AV->Prop):Prop:=
 match Uf P t with
 | none=>False
 | some true=>
  match ZS P t with
  | none=>False
  | some s=>
   match cs with
   | .arr k n xs::r=>
    match Nat.blt s n with
    | true=>Z4 (inn+s<=n) (K (.agg [.arr k s ((xs.drop inn).take s)]))
    | false=>Z54 s (.arr k n xs::r) inn K
   | cs=>Z54 s cs inn K
 | some false=>
  match cs with
  | []=>False
  | .arr k n xs::_=>Z4 (inn<n) (K (.int k (xs.getD inn 0)))
  | v::_=>match inn with
   | 0=>K v
   | _+1=>False
theorem Zj {k:IntKind} {n i:Nat} (h:i<n):(intCells k n xs)[i]? =some (.int k (xs.getD i 0)):=by
 simp [intCells,h]
theorem X6 {k:IntKind} {n i:Nat} (h:n<=i):(intCells k n xs)[i]? =none:=by
 simp [intCells,h]
theorem Z2r (xs:LI) (inn s i:Nat) (h:i<s):((xs.drop inn).take s).getD i 0=xs.getD (inn+i) 0:=by
 simp_all
theorem Addr.add_add (a:Addr) (m n:Nat):(a.add m).add n=a.add (m+n):=by
 grind [Addr.add]
theorem Z2s {P:Program} {t:TypeId} {inn:Nat} (h:Z5Z P t cs inn K):
  ∃v,K v/\∀(E:Env) (w:World) (a:Addr) (vs:List Value),Zm E cs vs->(∀(j:Nat) c,vs[j]? =some c->w.cell? (a.add j)=some c)->
   ∃r,(loadVar t (a.add inn)).run P w=.ok r w/\Zc E v r:=by
 unfold Z5Z at h
 cases hag:Uf P t with
 | none=>simp_all
 | some ag=>
  rw [hag] at h
  cases ag with
  | true=>
   simp only at h
   cases hsz:ZS P t with
   | none=>simp_all
   | some s=>
    rw [hsz] at h
    simp only at h
    have whole:∀(front:List AV),takeC s cs=some front->inn=0->K (.agg front)->
      ∃v,K v/\∀(E:Env) (w:World) (a:Addr) (vs:List Value),Zm E cs vs->(∀(j:Nat) c,vs[j]? =some c->w.cell? (a.add j)=some c)->
       ∃r,(loadVar t (a.add inn)).run P w=.ok r w/\Zc E v r:=by
     intro front hf hi hK
     subst hi
     refine ⟨_,hK,fun E w a vs hc hv=> ?_⟩
     obtain ⟨h1,h2⟩:=Vh cs s front vs hf hc
     refine ⟨.agg (vs.take s).toArray, ?_,.agg _ _ h1⟩
     have h0:a.add 0=a:=rfl
     rw [h0]
     refine W7 w a (vs.take s) hag (by rw [hsz];simp;omega) (fun j c hj=>hv j c ?_)
     rw [Kj] at hj
     split at hj
     ·exact hj
     ·cases hj
    have other:Z54 s cs inn K->
      ∃v,K v/\∀(E:Env) (w:World) (a:Addr) (vs:List Value),Zm E cs vs->(∀(j:Nat) c,vs[j]? =some c->w.cell? (a.add j)=some c)->
       ∃r,(loadVar t (a.add inn)).run P w=.ok r w/\Zc E v r:=by
     intro h
     unfold Z54 at h
     cases inn with
     | succ n=>exact h.elim
     | zero=>
      cases hf:takeC s cs with
      | none=>simp [hf] at h
      | some front=>rw [hf] at h;exact whole front hf rfl h
    cases cs with
    | nil=>simp_all
    | cons v r=>
     by_cases hv:∃k m xs,v=.arr k m xs
     ·obtain ⟨k,n,xs,rfl⟩:=hv
      simp only at h
      cases hb:Nat.blt s n with
      | false=>simp_all
      | true=>
       rw [hb] at h
       obtain ⟨hle,hK⟩:=Zd h
       refine ⟨_,hK,fun E w a vs hc hv=> ?_⟩
       obtain ⟨ws,rfl,_⟩:=hc.cons_arr
       refine ⟨.agg (intCells k s ((xs.drop inn).take s)).toArray, ?_,.agg _ _ (by simpa using Zm.arr k s ((xs.drop inn).take s) [] [] .nil)⟩
       grind [W7,Z9,Addr.add_add,Zj]
     simp_all
  | false=>
   cases cs with
   | nil=>simp_all
   | cons v r=>
    by_cases hv:∃k m xs,v=.arr k m xs
    ·obtain ⟨k,n,xs,rfl⟩:=hv
     obtain ⟨hlt,hK⟩:=Zd h
     refine ⟨_,hK,fun E w a vs hc hv=> ?_⟩
     obtain ⟨ws,rfl,_⟩:=hc.cons_arr
     refine ⟨_,W9 w _ _ hag (hv inn _ ?_),.int k (xs.getD inn 0)⟩
     rw [Jb (by rw [Z9];omega),Zj hlt]
    ·have hv':∀k m xs,v≠.arr k m xs:=fun k m xs e=>hv ⟨k,m,xs,e⟩
     have h':inn=0/\K v:=by
      cases v<;>first
       | exact absurd rfl (hv' _ _ _)
       | (cases inn with
         | zero=>exact ⟨rfl,h⟩
         | succ n=>exact h.elim)
     obtain ⟨rfl,hK⟩:=h'
     refine ⟨v,hK,fun E w a vs hc hv=> ?_⟩
     obtain ⟨c,ws,rfl,_,_,hr,_⟩:=hc.cons_cell hv'
     grind [W9]
def Z8J (P:Program) (h:Z6) (t:TypeId) (x:AV) (K:AV->Prop):Prop:=
 match x with
 | .pview cs inn=>Z5Z P t cs inn K
 | .ptr (some p)=>
  match h.get p.blk with
  | some (.flat cs)=>match p.row with
   | 0=>match Ym p.off cs with
    | some rest=>Z5Z P t rest p.inn K
    | none=>False
   | _+1=>False
  | some (.ints k xs)=>match p.row,p.off with
   | 0,0=>match Uf P t,ZS P t with
    | some true,some s=>Z4 (p.inn+s<=xs.length) (K (.agg [.arr k s ((xs.drop p.inn).take s)]))
    | some false,_=>Z4 (p.inn<xs.length) (K (.int k (xs.getD p.inn 0)))
    | _,_=>False
   | _,_=>False
  | some (.rows sz n f)=>match Nat.beq sz p.sz with
   | true=>Z4 (p.row<n) (match Ym p.off (f p.row) with
    | some rest=>Z5Z P t rest p.inn K
    | none=>False)
   | false=>False
  | _=>False
 | _=>False
theorem cell_of_heap {w:World} {b:Nat} {cells:Array Value} {elem:TypeId} {fr:Nat×Nat} (h:w.heap[b]? =some (.cells cells elem fr)) (o:Nat):w.cell? ⟨b,o,none⟩=cells[o]?:=by
 simp [World.cell?,h]
theorem YU (b o n:Nat):(⟨b,o,none⟩:Addr).add n=⟨b,o+n,none⟩:=by
 unfold Addr.add;split<;>simp_all
theorem Z60 {P:Program} {h:Z6} {t:TypeId} {x:AV} (hl:Z8J P h t x K):
  ∃v,K v/\∀(E:Env) (w:World) (r:Value),Emb E h w->Zc E x r->∃a r',r=.pointer (some a)/\(loadVar t a).run P w=.ok r' w/\Zc E v r':=by
 unfold Z8J at hl
 cases x with
 | pview cs inn=>
  obtain ⟨v,hK,hv⟩:=Z2s hl
  refine ⟨v,hK,fun E w r he hx=> ?_⟩
  cases hx with
  | pview cs inn a vs hc hi=>
   obtain ⟨r',h1,h2⟩:=hv E w a vs (hc.mono E.views_le) (fun j c hj=>he.imm _ _ (hi j c hj))
   simp_all
 | ptr p=>
  cases p with
  | none=>simp_all
  | some p=>
   simp only at hl
   cases hg:h.get p.blk with
   | none=>simp_all
   | some B=>
    rw [hg] at hl
    cases B with
    | flat cs=>
     simp only at hl
     cases hrow:p.row with
     | succ n=>simp_all
     | zero=>
      rw [hrow] at hl
      cases hd:Ym p.off cs with
      | none=>simp_all
      | some rest=>
       rw [hd] at hl
       obtain ⟨v,hK,hv⟩:=Z2s hl
       refine ⟨v,hK,fun E w r he hx=> ?_⟩
       cases hx with
       | ptr p b N hb=>
        have hB:=he.own _ _ hg
        cases hB with
        | flat0 cs h0 hn=>rw [hn] at hb;cases hb
        | flat cs b' cells elem fr vs hb' hw hf hc hvv=>
         obtain ⟨hr,hle⟩:=ZN cs p.off rest vs hd hc
         obtain ⟨r',h1,h2⟩:=hv E w ⟨b',p.off,none⟩ _ hr (fun j c hj=>by
          rw [YU,cell_of_heap hw]
          simp_all)
         rw [YU] at h1
         simp_all [ZI.tot]
    | ints k xs=>
     cases hrow:p.row with
     | succ n=>simp_all
     | zero=>
      cases hoff:p.off with
      | succ n=>simp_all
      | zero=>
       simp only [hrow,hoff] at hl
       have htot:p.tot=p.inn:=by simp [ZI.tot,hrow,hoff]
       cases hag:Uf P t with
       | none=>simp_all
       | some ag=>
        cases ag with
        | true=>
         cases hsz:ZS P t with
         | none=>simp_all
         | some s=>
          simp only [hag,hsz] at hl
          obtain ⟨hle,hK⟩:=Zd hl
          refine ⟨_,hK,fun E w r he hx=> ?_⟩
          cases hx with
          | ptr p b N hb=>
           have hB:=he.own _ _ hg
           cases hB with
           | ints0 k xs h0 hn=>rw [hn] at hb;cases hb
           | ints k xs b' cells elem fr hb' hw hf hvv=>
            refine ⟨_,.agg (intCells k s ((xs.drop p.inn).take s)).toArray,rfl, ?_,.agg _ _ (by simpa using Zm.arr k s ((xs.drop p.inn).take s) [] [] .nil)⟩
            grind [W7,Z9,YU,cell_of_heap,Zj]
        | false=>
         simp only [hag] at hl
         obtain ⟨hle,hK⟩:=Zd hl
         refine ⟨_,hK,fun E w r he hx=> ?_⟩
         cases hx with
         | ptr p b N hb=>
          have hB:=he.own _ _ hg
          cases hB with
          | ints0 k xs h0 hn=>rw [hn] at hb;cases hb
          | ints k xs b' cells elem fr hb' hw hf hvv=>
           rw [hb'] at hb
           injection hb with hb
           injection hb with h1 h2
           subst h1
           refine ⟨_,_,rfl,W9 w _ _ hag ?_,.int k (xs.getD p.inn 0)⟩
           rw [htot,cell_of_heap hw]
           simp_all
    | rows sz n f=>
     simp only at hl
     cases hbs:Nat.beq sz p.sz with
     | false=>simp_all
     | true=>
      rw [hbs] at hl
      have hsz:sz=p.sz:=J0 hbs
      obtain ⟨hrow,hl⟩:=Zd hl
      cases hd:Ym p.off (f p.row) with
      | none=>simp_all
      | some rest=>
       rw [hd] at hl
       obtain ⟨v,hK,hv⟩:=Z2s hl
       refine ⟨v,hK,fun E w r he hx=> ?_⟩
       cases hx with
       | ptr p b N hb=>
        have hB:=he.own _ _ hg
        cases hB with
        | rows0 sz n f h0 hn=>rw [hn] at hb;cases hb
        | rows sz n f b' cells elem fr g hb' hw hf hc hlen hvv=>
         rw [hb'] at hb
         injection hb with hb
         injection hb with h1 h2
         subst h1
         obtain ⟨hr,hle⟩:=ZN _ p.off rest _ hd (hc _ hrow)
         obtain ⟨r',h1,h2⟩:=hv E w ⟨b',p.row*p.sz+p.off,none⟩ _ hr (fun j c hj=>by
          rw [YU,cell_of_heap hw]
          rw [JF] at hj
          have:=hvv p.row _ c hrow hj
          rw [hsz] at this
          rw [Nat.add_assoc]
          exact this)
         rw [YU] at h1
         exact ⟨_,r',rfl,h1,h2⟩
    | map es=>simp_all
    | fmap n kf vf=>simp_all
    | pmap es=>simp_all
    | sfmap n kf vf key y=>simp_all
    | git m y js=>simp_all
    | froz B y=>simp_all
    | smap es i y=>simp_all
    | loop l=>simp_all
    | defd=>simp_all
 | _=>exact hl.elim
def YF (cells:Array Value):Nat->List Value->Array Value
 | _,[]=>cells
 | o,v::r=>YF (cells.setIfInBounds o v) (o+1) r
theorem Y1:∀(vs:List Value) (o:Nat) (cells:Array Value),(YF cells o vs).size=cells.size
 | [],_,_=>rfl
 | v::r,o,cells=>by simp [YF,Y1 r]
theorem YX:∀(vs:List Value) (o:Nat) (cells:Array Value) (j:Nat),o+vs.length<=cells.size->j<vs.length->(YF cells o vs)[o+j]? =vs[j]?
 | [],_,_,_,_,h=>by simp at h
 | v::r,o,cells,j,hl,hj=>by
  simp only [YF]
  simp only [Jt] at hl hj
  cases j with
  | zero=>
   have out:∀(vs:List Value) (p:Nat) (cs:Array Value) (i:Nat),i<p->(YF cs p vs)[i]? =cs[i]?:=by
    intro vs
    induction vs with
    | nil=>intro p cs i _;rfl
    | cons u s ih=>intro p cs i hi;simp only [YF];rw [ih (p+1) _ i (by omega)];rw [Jd];rw [if_neg (by omega)]
   rw [show o+0=o from rfl,out r (o+1) _ o (by omega)]
   simp [Jd];omega
  | succ j=>
   have:=YX r (o+1) (cells.setIfInBounds o v) j (by simp;omega) (by omega)
   rw [show o+(j+1)=o+1+j by omega,this]
   simp
theorem Yw:∀(vs:List Value) (o:Nat) (cells:Array Value) (j:Nat),(j<o\/o+vs.length<=j)->(YF cells o vs)[j]? =cells[j]?
 | [],_,_,_,_=>rfl
 | v::r,o,cells,j,h=>by
  simp only [Jt] at h
  simp only [YF]
  rw [Yw r (o+1) _ j (by omega),Jd,if_neg (by omega)]
theorem Yx:∀(vs:List Value) (o:Nat) (w:World) (b:Nat) (cells:Array Value) (elem:TypeId) (fr:Nat×Nat),w.heap[b]? =some (.cells cells elem fr)->
  (w.setCells b o vs).heap[b]? =some (.cells (YF cells o vs) elem fr)/\(∀i,i≠b->(w.setCells b o vs).heap[i]? =w.heap[i]?)/\(w.setCells b o vs).heap.size=w.heap.size/\
   (w.setCells b o vs).os=w.os/\(w.setCells b o vs).tape=w.tape/\((w.setCells b o vs).output=w.output/\w.drawn<=(w.setCells b o vs).drawn)
 | [],_,w,b,cells,elem,fr,h=>⟨h,fun _ _=>rfl,rfl,rfl,rfl,rfl,J1 _⟩
 | v::r,o,w,b,cells,elem,fr,h=>by
  have h1:(w.setCell ⟨b,o,none⟩ v).heap[b]? =some (.cells (cells.setIfInBounds o v) elem fr):=by
   simp [World.setCell,Array.getElem?_modify,h]
  obtain ⟨a1,a2,a3,a4,a5,a6⟩:=Yx r (o+1) (w.setCell ⟨b,o,none⟩ v) b _ elem fr h1
  refine ⟨a1,fun i hi=>(a2 i hi).trans ?_,a3.trans ?_,a4,a5,a6⟩
  all_goals simp_all [World.setCell,Array.getElem?_modify,Ne.symm]
def X7:AV->Option (List AV)
 | .agg cs=>some cs
 | .tuple _|.arr _ _ _|.top=>none
 | v=>some [v]
theorem Zm.all_one {E:Env}:∀{cs:List AV} {vs:List Value},Zm E cs vs->∀v∈vs,v.oneCell'=true
 | _,_,.nil=>by simp
 | _,_,.one v c vs cs h0 h1 h t=>by
  intro x hx
  rcases J7.1 hx with rfl|hx
  ·exact h1
  ·exact Zm.all_one t x hx
 | _,_,.arr k n xs vs cs t=>by
  intro x hx
  rcases JV.1 hx with hx|hx
  ·simp [intCells] at hx
   obtain ⟨i,_,rfl⟩:=hx
   rfl
  ·exact Zm.all_one t x hx
theorem Wm {v:AV} (h:X7 v=some cs) (hv:Zc E v r):Zm E cs r.cells.toList:=by
 cases hv with
 | agg cs' vs hc=>simp_all [X7,Value.cells]
 | top v=>simp [X7] at h
 | tuple vs rs ht=>simp [X7] at h
 | _=>
  simp [X7] at h
  subst h
  refine Zm.one _ _ [] [] rfl rfl ?_ .nil
  first
   | exact .bool _
   | exact .int _ _
   | exact .str _
   | exact .nilptr
   | (exact .ptr _ _ _ ‹_›)
   | (exact .pview _ _ _ _ ‹_› ‹_›)
   | (exact .nslice0 _ _ _ _ _ ‹_› ‹_›)
   | (exact .nslice _ _ _ _ _ _ _ ‹_› ‹_› ‹_› ‹_›)
   | (exact .vintsNil _ _ _ ‹_› ‹_›)
   | (exact .vints _ _ _ _ _ ‹_› ‹_› ‹_›)
   | (exact .vrowsNil _ _ _ _ ‹_› ‹_›)
   | (exact .vrows _ _ _ _ _ _ _ ‹_› ‹_› ‹_› ‹_› ‹_›)
   | exact .eslice _
   | exact .fslice _ _
   | exact .nilslice
   | exact .nilmap
   | (exact .map _ _ _ ‹_›)
   | (exact .func _ _ _ _ _ ‹_› ‹_›)
   | (exact .yield _ _ _ ‹_›)
   | exact .nilFunc
   | exact .nilIface
   | (exact .iface _ _ _ ‹_›)
   | (exact .stamp _ _ ‹_›)
def Z02 (inn:Nat) (news cs:List AV) (K:List AV->Prop):Prop:=
 match inn with
 | 0=>match Ym (csz news) cs with
  | some r=>K (news++r)
  | none=>False
 | _+1=>False
def Zgx (inn:Nat) (news cs:List AV) (K:List AV->Prop):Prop:=
 match news,cs with
 | [.int k v],.arr k' n xs::r=>Z4 (k=k'/\inn<n/\inn<xs.length) (K (.arr k' n (xs.set inn v)::r))
 | [.arr k s ys],.arr k' n xs::r=>match Nat.blt s n with
  | true=>Z4 (k=k'/\inn+s<=n/\n=xs.length/\s=ys.length) (K (.arr k' n (xs.take inn++ys++xs.drop (inn+s))::r))
  | false=>Z02 inn [.arr k s ys] (.arr k' n xs::r) K
 | news,cs=>Z02 inn news cs K
def Z2t:Nat->Nat->List AV->List AV->(List AV->Prop)->Prop
 | 0,inn,news,cs,K=>Zgx inn news cs K
 | _+1,_,_,[],_=>False
 | n+1,inn,news,.arr k m xs::r,K=>match Nat.ble m (n+1) with
  | true=>Z2t (n+1-m) inn news r fun r'=>K (.arr k m xs::r')
  | false=>False
 | n+1,inn,news,v::r,K=>Z2t n inn news r fun r'=>K (v::r')
termination_by structural _ _ _ cs=>cs
theorem Zm.append {E:Env}:∀{cs ds:List AV} {vs ws:List Value},Zm E cs vs->Zm E ds ws->Zm E (cs++ds) (vs++ws)
 | _,_,_,_,.nil,h=>h
 | _,_,_,_,.one v c vs cs h0 h1 h t,k=>.one v c _ _ h0 h1 h (Zm.append t k)
 | _,_,_,_,.arr k n xs vs cs t,k'=>by rw [Jl];exact .arr k n xs _ _ (Zm.append t k')
def Ye (vs:List Value) (o:Nat) (ws:List Value):List Value:=vs.take o++ws++vs.drop (o+ws.length)
theorem Z03 {i:Nat} (h:i<xs.length):(xs++ys).getD i 0=xs.getD i 0:=by
 grind
theorem Z1N (k:IntKind) (n s inn:Nat) (xs ys:LI) (h1:inn+s<=n) (h2:n=xs.length) (h3:s=ys.length):
  intCells k n (xs.take inn++ys++xs.drop (inn+s))=(intCells k n xs).take inn++intCells k s ys++(intCells k n xs).drop (inn+s):=by
 apply Kp
 intro i
 rcases Jo i n with hi|hi
 ·rw [Zj hi]
  rcases Jo i inn with ha|ha
  ·rw [Jl,Z03 (by simp;omega),Jl,Jb (by simp [Z9];omega),Kj,if_pos ha,Zj hi]
   simp_all
  ·all_goals grind [intCells]
 grind [Z9]
theorem Z04 (k:IntKind) (n inn:Nat) (xs:LI) (v:Int) (h1:inn<n) (h2:inn<xs.length):
  intCells k n (xs.set inn v)=(intCells k n xs).take inn++[Value.int k v]++(intCells k n xs).drop (inn+1):=by
 apply Kp
 intro i
 rcases Jo i n with hi|hi
 ·rw [Zj hi]
  rcases Nat.lt_trichotomy i inn with ha|ha|ha
  ·rw [Jl,Jb (by simp [Z9];omega),Kj,if_pos ha,Zj hi]
   simp only [J5,Kq];rw [if_neg (by omega)]
  ·have e2:((intCells k n xs).take i).length=i:=by simp [Z9];omega
   simp_all
  ·have e2:((intCells k n xs).take inn++[Value.int k v]).length=inn+1:=by simp [Z9];omega
   rw [Js (by omega),e2,JF,show inn+1+(i-(inn+1))=i by omega,Zj hi]
   simp only [J5,Kq];rw [if_neg (by omega)]
 grind [Z9]
theorem Z05 {inn:Nat} {news:List AV} {K:List AV->Prop} (h:Z02 inn news cs K):
  ∃cs',K cs'/\∀(E:Env) (vs ws:List Value),Zm E cs vs->Zm E news ws->inn+ws.length<=vs.length/\Zm E cs' (Ye vs inn ws):=by
 unfold Z02 at h
 cases inn with
 | succ n=>simp_all
 | zero=>
  cases hd:Ym (csz news) cs with
  | none=>simp_all
  | some r=>
   rw [hd] at h
   refine ⟨_,h,fun E vs ws hc hn=> ?_⟩
   have hl:=hn.length
   obtain ⟨h1,h2⟩:=ZN cs _ r vs hd hc
   refine ⟨by omega, ?_⟩
   simp only [Ye,Jq,hl]
   exact hn.append h1
theorem Z61 {inn:Nat} {news:List AV} {K:List AV->Prop} (h:Zgx inn news cs K):
  ∃cs',K cs'/\∀(E:Env) (vs ws:List Value),Zm E cs vs->Zm E news ws->inn+ws.length<=vs.length/\Zm E cs' (Ye vs inn ws):=by
 unfold Zgx at h
 split at h
 ·rename_i k v k' n xs r
  obtain ⟨⟨rfl,h1,h2⟩,hK⟩:=Zd h
  refine ⟨_,hK,fun E vs ws hc hn=> ?_⟩
  obtain ⟨vs',rfl,hr⟩:=hc.cons_arr
  obtain ⟨c,ws',rfl,_,_,hv,hw⟩:=hn.cons_cell (by simp)
  cases hw
  cases hv
  refine ⟨by simp [Z9];omega, ?_⟩
  have e:Ye (intCells k n xs++vs') inn [Value.int k v]=intCells k n (xs.set inn v)++vs':=by
   rw [Z04 k n inn xs v h1 h2]
   simp only [Ye,JZ]
   rw [List.take_append_of_le_length (by simp [Z9];omega),K4 (by simp [Z9];omega)]
   simp
  rw [e]
  exact .arr k n _ _ _ hr
 ·rename_i k s ys k' n xs r
  split at h
  ·obtain ⟨⟨rfl,h1,h2,h3⟩,hK⟩:=Zd h
   refine ⟨_,hK,fun E vs ws hc hn=> ?_⟩
   obtain ⟨vs',rfl,hr⟩:=hc.cons_arr
   obtain ⟨ws',rfl,hw⟩:=hn.cons_arr
   cases hw
   refine ⟨by simp [Z9];omega, ?_⟩
   have e:Ye (intCells k n xs++vs') inn (intCells k s ys++[])=intCells k n (xs.take inn++ys++xs.drop (inn+s))++vs':=by
    rw [Z1N k n s inn xs ys h1 h2 h3]
    grind [Ye,Z9]
   rw [e]
   exact .arr k n _ _ _ hr
  ·exact Z05 h
 ·exact Z05 h
theorem Z2u:∀(cs:List AV) (off inn:Nat) (news:List AV) (K:List AV->Prop),Z2t off inn news cs K->
  ∃cs',K cs'/\∀(E:Env) (vs ws:List Value),Zm E cs vs->Zm E news ws->off+inn+ws.length<=vs.length/\Zm E cs' (Ye vs (off+inn) ws):=by
 intro cs
 induction cs with
 | nil=>
  intro off inn news K h
  cases off with
  | zero=>
   grind [Z61,Z2t]
  | succ n=>simp [Z2t] at h
 | cons v r ih=>
  intro off inn news K h
  cases off with
  | zero=>
   grind [Z61,Z2t]
  | succ n=>
   by_cases hv:∃k m xs,v=.arr k m xs
   ·obtain ⟨k,m,xs,rfl⟩:=hv
    simp only [Z2t] at h
    split at h
    ·rename_i hb
     have hm:=V9 hb
     obtain ⟨cs',hK,hr⟩:=ih _ _ _ _ h
     refine ⟨_,hK,fun E vs ws hc hn=> ?_⟩
     obtain ⟨vs',rfl,hr'⟩:=hc.cons_arr
     obtain ⟨h1,h2⟩:=hr E vs' ws hr' hn
     refine ⟨by simp [Z9];omega, ?_⟩
     have e:Ye (intCells k m xs++vs') (n+1+inn) ws=intCells k m xs++Ye vs' (n+1-m+inn) ws:=by
      simp only [Ye]
      rw [List.take_append,List.drop_append,Z9,JW (by simp [Z9];omega),List.drop_of_length_le (by simp [Z9];omega)]
      rw [show n+1+inn-m=n+1-m+inn by omega,show n+1+inn+ws.length-m=n+1-m+inn+ws.length by omega]
      simp
     rw [e]
     exact .arr k m xs _ _ h2
    simp_all
   ·have hv':∀k m xs,v≠.arr k m xs:=fun k m xs e=>hv ⟨k,m,xs,e⟩
    have h':Z2t n inn news r fun r'=>K (v::r'):=by
     cases v<;>first|exact h|simp_all
    obtain ⟨cs',hK,hr⟩:=ih _ _ _ _ h'
    refine ⟨_,hK,fun E vs ws hc hn=> ?_⟩
    obtain ⟨c,vs',rfl,h0,h1c,hvr,hr'⟩:=hc.cons_cell hv'
    obtain ⟨h1,h2⟩:=hr E vs' ws hr' hn
    refine ⟨by simp;omega, ?_⟩
    have e:Ye (c::vs') (n+1+inn) ws=c::Ye vs' (n+inn) ws:=by
     grind [Ye]
    rw [e]
    exact .one v c _ _ h0 h1c hvr h2
def Z06 (b:Bool):AV->AV->Option AV
 | .int k x,.int k' y=>match decide (k=k') with|true=>some (.int k (match b with|true=>x|false=>y))|false=>none
 | .bool x,.bool y=>some (.bool (match b with|true=>x|false=>y))
 | .arr k n xs,.arr k' n' ys=>match decide (k=k')&&Nat.beq n n' with|true=>some (.arr k n (match b with|true=>xs|false=>ys))|false=>none
 | _,_=>none
def Z2v (b:Bool):List AV->List AV->Option (List AV)
 | [],[]=>some []
 | x::r,y::s=>match Z06 b x y,Z2v b r s with
  | some v,some l=>some (v::l)
  | _,_=>none
 | _,_=>none
theorem Zb8 {b:Bool} {x y v:AV} (h:Z06 b x y=some v):v=match b with|true=>x|false=>y:=by
 cases x with
 | int k a=>cases y with
  | int k' a'=>
   grind [Z06]
  | _=>simp [Z06] at h
 | bool a=>cases y with
  | bool a'=>simp [Z06] at h;subst h;cases b<;>rfl
  | _=>simp [Z06] at h
 | arr k n xs=>cases y with
  | arr k' n' ys=>
   grind [Z06,Zu]
  | _=>simp [Z06] at h
 | _=>simp [Z06] at h
theorem Z62 {b:Bool}:∀{x y l:List AV},Z2v b x y=some l->l=match b with|true=>x|false=>y
 | [],[],l,h=>by simp [Z2v] at h;subst h;cases b<;>rfl
 | x::r,y::s,l,h=>by
  unfold Z2v at h
  split at h
  ·rename_i v q hv hq
   cases h
   rw [Zb8 hv,Z62 hq]
   cases b<;>rfl
  ·cases h
 | [],_::_,_,h=>by simp [Z2v] at h
 | _::_,[],_,h=>by simp [Z2v] at h
def Zgy (f:Nat->List AV) (row:Nat) (new:List AV):Nat->List AV:=fun i=>match Z2v (Nat.beq i row) new (f i) with
 | some l=>l
 | none=>match Nat.beq i row with|true=>new|false=>f i
theorem ZdY (f:Nat->List AV) (row:Nat) (new:List AV) (i:Nat):Zgy f row new i=match Nat.beq i row with|true=>new|false=>f i:=by
 grind [Zgy,Z62]
def Z7c (P:Program) (h:Z6) (t:TypeId) (p:ZI) (cs:List AV) (K:Z6->Prop):Prop:=
 match ZS P t with
 | none=>False
 | some s=>match Nat.beq s (csz cs) with
  | false=>False
  | true=>match h.get p.blk with
   | some (.flat old)=>match p.row with
    | 0=>Z2t p.off p.inn cs old fun new=>K (h.set p.blk (.flat new))
    | _+1=>False
   | some (.ints k xs)=>match p.row,p.off,cs with
    | 0,0,[.int k' v]=>Z4 (k'=k/\p.inn<xs.length) (K (h.set p.blk (.ints k (xs.set p.inn v))))
    | _,_,_=>False
   | some (.rows sz n f)=>match Nat.beq sz p.sz with
    | true=>Z4 (p.row<n) (Z2t p.off p.inn cs (f p.row) fun new=>K (h.set p.blk (.rows sz n (Zgy f p.row new))))
    | false=>False
   | _=>False
def Z7d (P:Program) (h:Z6) (t:TypeId) (x v:AV) (K:Z6->Prop):Prop:=
 match x with
 | .ptr (some p)=>match X7 v with
  | some cs=>Z7c P h t p cs K
  | none=>False
 | _=>False
theorem Ug (vs:List Value) (o:Nat) (ws:List Value) (hl:o+ws.length<=vs.length) (j:Nat):
  (Ye vs o ws)[j]? =if o<=j/\j<o+ws.length then ws[j-o]? else vs[j]?:=by
 grind [Ye,Js]
theorem Xd {P:Program} {t:TypeId} (w:World) (b o:Nat) (r:Value) (cells:Array Value) (elem:TypeId) (fr:Nat×Nat) (hs:ZS P t=some r.cells.size) (hw:w.heap[b]? =some (.cells cells elem fr)) (hf:free cells fr)
  (h1:∀v∈r.cells.toList,v.oneCell'=true) (hl:o+r.cells.size<=cells.size):
  (storeVar t ⟨b,o,none⟩ r).run P w=.ok () (w.setCells b o r.cells.toList):=by
 unfold storeVar
 have hst:=run_storeCells_cells (P:=P) b o r.cells.toList 0 w (fun j hj=>by
   rw [cell_of_heap hw];grind) (fun j hj=>by
   have:=hf (o+0+j) (by grind)
   simp [World.frozen?,hw];omega) h1
 simp_all [run_sizeOf]
theorem Z9S {P:Program} {h:Z6} {t:TypeId} {p:ZI} {K:Z6->Prop} (hl:Z7c P h t p cs K):
  ∃h',K h'/\∀(E:Env) (w:World) (b N:Nat) (r:Value),Emb E h w->E.blk p.blk=some (b,N)->Zm E cs r.cells.toList->
   ∃w',(storeVar t ⟨b,p.tot,none⟩ r).run P w=.ok () w'/\Evo E h w E h' w':=by
 unfold Z7c at hl
 cases hts:ZS P t with
 | none=>simp_all
 | some s=>
  rw [hts] at hl
  simp only at hl
  cases hbs:Nat.beq s (csz cs) with
  | false=>simp_all
  | true=>
   rw [hbs] at hl
   have hsc:s=csz cs:=J0 hbs
   simp only at hl
   cases hg:h.get p.blk with
   | none=>simp_all
   | some B=>
    rw [hg] at hl
    cases B with
    | flat old=>
     simp only at hl
     cases hrow:p.row with
     | succ n=>simp_all
     | zero=>
      rw [hrow] at hl
      simp only at hl
      obtain ⟨new,hK,hr⟩:=Z2u _ _ _ _ _ hl
      refine ⟨_,hK,fun E w b N r he hb hc=> ?_⟩
      have hB:=he.own _ _ hg
      cases hB with
      | flat0 cs h0 hn=>rw [hn] at hb;cases hb
      | flat old b' cells elem fr vs hb' hw hf hcv hvv=>
       have hbb:=hb
       rw [hb'] at hb
       injection hb with hb
       injection hb with h1 h2
       subst h1
       obtain ⟨hle,hnew⟩:=hr E vs r.cells.toList hcv hc
       have htot:p.tot=p.off+p.inn:=by simp [ZI.tot,hrow]
       have hcl:=hc.length
       have hvl:vs.length<=cells.size:=by
        rcases JD vs.length with h0|h0
        ·omega
        ·have:=hvv (vs.length-1) _ (J8 (by omega))
         grind
       have hrun:=Xd (P:=P) (t:=t) w b' p.tot r cells elem fr (by rw [hts,hsc,<-hcl];simp) hw hf hc.all_one (by grind)
       refine ⟨_,hrun, ?_⟩
       obtain ⟨a1,a2,a3,a4,a5,a6⟩:=Yx r.cells.toList p.tot w b' cells elem fr hw
       refine Yg he p.blk _ _ b' _ hg hbb a2 a3 a4 a5 a6 ?_
       refine .flat new b' (YF cells p.tot r.cells.toList) elem fr _ (by rw [Y1];exact hb') a1 (fun o ho=>hf o (by rwa [Y1] at ho)) hnew ?_
       intro j c hj
       rw [Ug _ _ _ hle] at hj
       split at hj
       ·rename_i hin
        have:=YX r.cells.toList p.tot cells (j-p.tot) (by rw [htot];omega) (by rw [htot];omega)
        rw [show p.tot+(j-p.tot)=j by omega] at this
        rw [this,htot];exact hj
       grind [Yw]
    | ints k xs=>
     simp only at hl
     split at hl
     ·rename_i k' v hrow hoff
      obtain ⟨⟨rfl,hlt⟩,hK⟩:=Zd hl
      refine ⟨_,hK,fun E w b N r he hb hc=> ?_⟩
      have htot:p.tot=p.inn:=by simp [ZI.tot,hrow,hoff]
      have hB:=he.own _ _ hg
      cases hB with
      | ints0 k xs h0 hn=>rw [hn] at hb;cases hb
      | ints k xs b' cells elem fr hb' hw hf hvv=>
       have hbb:=hb
       rw [hb'] at hb
       injection hb with hb
       injection hb with h1 h2
       subst h1
       obtain ⟨c,ws',hrc,_,_,hv',hw'⟩:=hc.cons_cell (by simp)
       cases hw'
       cases hv'
       have hsz:r.cells.size=1:=by have:=congrArg List.length hrc;omega
       have hin:p.inn<cells.size:=by
        have:=hvv p.inn hlt
        grind
       have hrun:=Xd (P:=P) (t:=t) w b' p.tot r cells elem fr (by rw [hts,hsc,hsz];rfl) hw hf hc.all_one (by rw [htot,hsz];omega)
       refine ⟨_,hrun, ?_⟩
       obtain ⟨a1,a2,a3,a4,a5,a6⟩:=Yx r.cells.toList p.tot w b' cells elem fr hw
       refine Yg he p.blk _ _ b' _ hg hbb a2 a3 a4 a5 a6 ?_
       refine .ints k' _ b' (YF cells p.tot r.cells.toList) elem fr (by rw [Y1];exact hb') a1 (fun o ho=>hf o (by rwa [Y1] at ho)) ?_
       intro j hj
       rw [Kk] at hj
       rw [htot,hrc]
       by_cases hji:j=p.inn
       ·subst hji
        have:=YX [Value.int k' v] p.inn cells 0 (by simp;omega) (by simp)
        rw [Ki] at this
        rw [this]
        simp_all
       grind [Yw]
     simp_all
    | rows sz n f=>
     simp only at hl
     cases hbs:Nat.beq sz p.sz with
     | false=>simp_all
     | true=>
      rw [hbs] at hl
      have hsz:sz=p.sz:=J0 hbs
      obtain ⟨hrow,hl⟩:=Zd hl
      obtain ⟨new,hK,hr⟩:=Z2u _ _ _ _ _ hl
      refine ⟨_,hK,fun E w b N r he hb hc=> ?_⟩
      have hB:=he.own _ _ hg
      cases hB with
      | rows0 sz n f h0 hn=>rw [hn] at hb;cases hb
      | rows sz n f b' cells elem fr g hb' hw hf hcv hlen hvv=>
       have hbb:=hb
       rw [hb'] at hb
       injection hb with hb
       injection hb with h1 h2
       subst h1
       obtain ⟨hle,hnew⟩:=hr E (g p.row) r.cells.toList (hcv _ hrow) hc
       have hcl:=hc.length
       have hgl:=hlen p.row hrow
       have htot:p.tot=p.row*sz+(p.off+p.inn):=by simp [ZI.tot,hsz];omega
       have hvl:p.row*sz+(g p.row).length<=cells.size:=by
        rcases JD (g p.row).length with h0|h0
        ·rw [h0] at hgl
         have:sz=0:=hgl.symm
         grind
        ·have:=hvv p.row ((g p.row).length-1) _ hrow (J8 (by omega))
         grind
       have hrun:=Xd (P:=P) (t:=t) w b' p.tot r cells elem fr (by rw [hts,hsc,<-hcl];simp) hw hf hc.all_one (by grind)
       refine ⟨_,hrun, ?_⟩
       obtain ⟨a1,a2,a3,a4,a5,a6⟩:=Yx r.cells.toList p.tot w b' cells elem fr hw
       refine Yg he p.blk _ _ b' _ hg hbb a2 a3 a4 a5 a6 ?_
       refine .rows sz n _ b' (YF cells p.tot r.cells.toList) elem fr (fun i=>if i=p.row then Ye (g p.row) (p.off+p.inn) r.cells.toList else g i) (by rw [Y1];exact hb') a1 (fun o ho=>hf o (by rwa [Y1] at ho)) ?_ ?_ ?_
       ·intro i hi
        by_cases hip:i=p.row
        all_goals simp_all [ZdY,Zu]
       ·intro i hi
        by_cases hip:i=p.row
        ·subst hip;simp only [if_true,Ye];grind
        simp_all
       ·intro i j c hi hj
        by_cases hip:i=p.row
        ·subst hip
         simp only [if_true] at hj
         rw [Ug _ _ _ hle] at hj
         split at hj
         ·have:=YX r.cells.toList p.tot cells (j-(p.off+p.inn)) (by omega) (by omega)
          rw [show p.tot+(j-(p.off+p.inn))=p.row*sz+j by omega] at this
          rw [this];exact hj
         grind [Yw]
        ·have hjl:j<sz:=by
          grind
         have hsep:i*sz+j<p.row*sz\/p.row*sz+sz<=i*sz+j:=by
          rcases Nat.lt_or_gt_of_ne hip with hh|hh
          ·have:(i+1)*sz<=p.row*sz:=JN _ hh
           rw [K7,Nat.one_mul] at this
           omega
          ·have:(p.row+1)*sz<=i*sz:=JN _ hh
           rw [K7,Nat.one_mul] at this
           omega
         rw [Yw _ _ _ _ (by omega)]
         simp_all
    | map es=>simp_all
    | fmap n kf vf=>simp_all
    | pmap es=>simp_all
    | sfmap n kf vf key y=>simp_all
    | git m y js=>simp_all
    | froz B y=>simp_all
    | smap es i y=>simp_all
    | loop l=>simp_all
    | defd=>simp_all
theorem Z9T {P:Program} {h:Z6} {t:TypeId} {x v:AV} {K:Z6->Prop} (hl:Z7d P h t x v K):
  ∃h',K h'/\∀(E:Env) (w:World) (r rv:Value),Emb E h w->Zc E x r->Zc E v rv->
   ∃w',(Instr.storeAt t r rv).run P w=.ok () w'/\Evo E h w E h' w':=by
 unfold Z7d at hl
 cases x with
 | ptr p=>
  cases p with
  | none=>simp_all
  | some p=>
   cases hc:X7 v with
   | none=>simp_all
   | some cs=>
    rw [hc] at hl
    obtain ⟨h',hK,hr⟩:=Z9S hl
    refine ⟨h',hK,fun E w r rv he hx hv=> ?_⟩
    cases hx with
    | ptr p b N hb=>
     obtain ⟨w',h1,h2⟩:=hr E w b N rv he hb (Wm hc hv)
     simp_all [Instr.storeAt,Instr.sureAddr]
 | _=>exact hl.elim
theorem Zb {P:Program} {t:TypeId} {d:TypeDesc} (h:P.underlying t=some d) (w:World):(underlying t).run P w=.ok d w:=by
 unfold underlying;simp [h]
def Z7e (P:Program) (S:TypeId) (x:AV) (f:Nat) (K:AV->Prop):Prop:=
 match P.underlying S with
 | some (.struct fields)=>match fields[f]? with
  | some fd=>match ZS P fd.type with
   | some (_+1)=>match x with
    | .ptr (some p)=>K (.ptr (some ⟨p.blk,p.row,p.sz,p.off+fd.offset,p.inn⟩))
    | .pview cs 0=>match Ym fd.offset cs with
     | some rest=>K (.pview rest 0)
     | none=>False
    | _=>False
   | _=>False
  | none=>False
 | _=>False
theorem Z9U {P:Program} {S:TypeId} {x:AV} {f:Nat} (h:Z7e P S x f K):
  ∃v,K v/\∀(E:Env) (w:World) (r:Value),Zc E x r->∃r',(Instr.fieldAt S r f).run P w=.ok r' w/\Zc E v r':=by
 unfold Z7e at h
 split at h
 ·split at h
  ·rename_i fd hf
   split at h
   ·have hplace:∀(w:World) (a:Addr),(fieldPlace a fd).run P w=.ok (a.add fd.offset) w:=fun w a=>by
     simp_all [fieldPlace,run_sizeOf]
    split at h
    ·rename_i p
     refine ⟨_,h,fun E w r hx=> ?_⟩
     cases hx with
     | ptr p b N hb=>
      refine ⟨.pointer (some ⟨b,p.tot+fd.offset,none⟩), ?_, ?_⟩
      ·simp_all [Instr.fieldAt,Zb,Instr.sureAddr,YU]
      ·have e:p.tot+fd.offset=(⟨p.blk,p.row,p.sz,p.off+fd.offset,p.inn⟩:ZI).tot:=by simp [ZI.tot];omega
       rw [e]
       exact .ptr ⟨p.blk,p.row,p.sz,p.off+fd.offset,p.inn⟩ b N hb
    ·rename_i cs
     split at h
     ·rename_i rest hd
      refine ⟨_,h,fun E w r hx=> ?_⟩
      cases hx with
      | pview cs inn a vs hc hi=>
       obtain ⟨h1,h2⟩:=ZN cs _ rest vs hd hc
       refine ⟨.pointer (some ((a.add fd.offset).add 0)), ?_,.pview rest 0 (a.add fd.offset) _ h1 (fun j c hj=> ?_)⟩
       all_goals simp_all [Instr.fieldAt,Zb,Instr.sureAddr,Addr.add_add]
     simp_all
    simp_all
   simp_all
  simp_all
 simp_all
def YY (P:Program) (e:TypeId):Bool:=match P.underlying e with|some (.int _)=>true|_=>false
def Z63 (P:Program) (h:Z6) (e:TypeId) (esz:Nat) (p:ZI) (i:Nat):ZI:=
 match YY P e with
 | true=>⟨p.blk,p.row,p.sz,p.off,p.inn+i⟩
 | false=>match h.get p.blk with
  | some (.rows sz _ _)=>match Nat.beq sz esz,Nat.beq p.sz esz with
   | true,true=>⟨p.blk,p.row+i,p.sz,p.off,p.inn⟩
   | _,_=>⟨p.blk,p.row,p.sz,p.off+i*esz,p.inn⟩
  | _=>⟨p.blk,p.row,p.sz,p.off+i*esz,p.inn⟩
theorem Z2w (P:Program) (h:Z6) (e:TypeId) (esz:Nat) (p:ZI) (i:Nat):(Z63 P h e esz p i).blk=p.blk:=by
 unfold Z63
 grind
theorem Z2x (P:Program) (h:Z6) (e:TypeId) (esz:Nat) (p:ZI) (i:Nat) (h1:YY P e=true->esz=1):(Z63 P h e esz p i).tot=p.tot+i*esz:=by
 grind [Z63,ZI.tot,J0]
def Z7f (P:Program) (h:Z6) (T:TypeId) (x i:AV) (K:AV->Prop):Prop:=
 match i with
 | .int _ i=>match P.underlying T with
  | some (.slice e)=>match ZS P e with
   | some esz=>match x with
    | .nslice p esz' len _=>match Nat.beq esz esz',(YY P e&& !(Nat.beq esz 1)) with
     | true,false=>Z4 (0<=i/\i<len) (K (.ptr (some (Z63 P h e esz p i.toNat))))
     | _,_=>False
    | .vints k xs len=>match Nat.beq esz 1 with
     | true=>Z4 (0<=i/\i<len) (K (.pview [.int k (xs.getD i.toNat 0)] 0))
     | false=>False
    | .vrows esz' _ f len=>match Nat.beq esz esz' with
     | true=>Z4 (0<=i/\i<len) (K (.pview (f i.toNat) 0))
     | false=>False
    | _=>False
   | none=>False
  | some (.array n e)=>match ZS P e with
   | some esz=>match (YY P e&& !(Nat.beq esz 1)) with
    | false=>match x with
     | .ptr (some p)=>Z4 (0<=i/\i<n) (K (.ptr (some (match YY P e with|true=>⟨p.blk,p.row,p.sz,p.off,p.inn+i.toNat⟩|false=>⟨p.blk,p.row,p.sz,p.off+i.toNat*esz,p.inn⟩))))
     | .pview cs inn=>match YY P e with
      | true=>Z4 (0<=i/\i<n) (K (.pview cs (inn+i.toNat)))
      | false=>match inn with
       | 0=>Z4 (0<=i/\i<n) (match Ym (i.toNat*esz) cs with
        | some rest=>K (.pview rest 0)
        | none=>False)
       | _+1=>False
     | _=>False
    | true=>False
   | none=>False
  | _=>False
 | _=>False
theorem YM (x:Addr):x.add 0=x:=rfl
theorem Z9V {P:Program} {h:Z6} {T:TypeId} {x i:AV} (hl:Z7f P h T x i K):
  ∃v,K v/\∀(E:Env) (w:World) (r ri:Value),Zc E x r->Zc E i ri->∃r',(Instr.indexAt T r ri).run P w=.ok r' w/\Zc E v r':=by
 unfold Z7f at hl
 split at hl
 ·rename_i ki i
  split at hl
  ·rename_i e hu
   split at hl
   ·rename_i esz hs
    split at hl
    ·rename_i p esz' len lo
     split at hl
     ·rename_i hb1 hb2
      have he:esz=esz':=J0 hb1
      subst he
      obtain ⟨⟨h0,h1⟩,hK⟩:=Zd hl
      refine ⟨_,hK,fun E w r ri hx hi=> ?_⟩
      cases hi with
      | int k n=>
       cases hx with
       | nslice0 p esz len lo a e1 e2=>omega
       | nslice p esz len lo b N cap hb c1 c2 c3=>
        refine ⟨.pointer (some ⟨b,p.tot+i.toNat*esz,none⟩), ?_, ?_⟩
        ·simp [Instr.indexAt,asIntOf,Zb hu,run_sizeOf hs,YU,h0,h1]
        ·have et:=Z2x P h e esz p i.toNat (fun he=>by
          rw [he] at hb2;simp_all)
         rw [<-et]
         exact .ptr (Z63 P h e esz p i.toNat) b N (by rw [Z2w];exact hb)
     simp_all
    ·rename_i k xs len
     split at hl
     ·rename_i hb
      have he:esz=1:=J0 hb
      subst he
      obtain ⟨⟨h0,h1⟩,hK⟩:=Zd hl
      refine ⟨_,hK,fun E w r ri hx hi=> ?_⟩
      cases hi with
      | int k' n=>
       cases hx with
       | vintsNil k xs len e1 e2=>omega
       | vints k xs len a cap c1 c2 ci=>
        refine ⟨.pointer (some ((a.add i.toNat).add 0)), ?_,.pview _ 0 (a.add i.toNat) [.int k (xs.getD i.toNat 0)] (.one _ _ _ _ rfl rfl (.int _ _) .nil) (fun j c hj=> ?_)⟩
        ·simp [Instr.indexAt,asIntOf,Zb hu,run_sizeOf hs,h0,h1,YM]
        grind [YM]
     simp_all
    ·rename_i esz' n f len
     split at hl
     ·rename_i hb
      have he:esz=esz':=J0 hb
      subst he
      obtain ⟨⟨h0,h1⟩,hK⟩:=Zd hl
      refine ⟨_,hK,fun E w r ri hx hi=> ?_⟩
      cases hi with
      | int k' n'=>
       cases hx with
       | vrowsNil esz n f len e1 e2=>omega
       | vrows esz n f len a cap g c1 c2 cc cl ci=>
        refine ⟨.pointer (some ((a.add (i.toNat*esz)).add 0)), ?_,.pview _ 0 (a.add (i.toNat*esz)) (g i.toNat) (cc _ (by omega)) (fun j c hj=> ?_)⟩
        ·simp [Instr.indexAt,asIntOf,Zb hu,run_sizeOf hs,h0,h1,YM]
        grind [Addr.add_add]
     simp_all
    simp_all
   simp_all
  ·rename_i n e hu
   split at hl
   ·rename_i esz hs
    split at hl
    ·rename_i hb2
     have h1z:YY P e=true->esz=1:=fun he=>by rw [he] at hb2;simp_all
     split at hl
     ·rename_i p
      obtain ⟨⟨h0,h1⟩,hK⟩:=Zd hl
      refine ⟨_,hK,fun E w r ri hx hi=> ?_⟩
      cases hi with
      | int k' n'=>
       cases hx with
       | ptr p b N hb=>
        refine ⟨.pointer (some ⟨b,p.tot+i.toNat*esz,none⟩), ?_, ?_⟩
        ·simp [Instr.indexAt,asIntOf,Zb hu,run_sizeOf hs,YU,h0,h1,Instr.sureAddr]
        ·split
         ·rename_i he
          have:=h1z he;subst this
          have e:p.tot+i.toNat*1=(⟨p.blk,p.row,p.sz,p.off,p.inn+i.toNat⟩:ZI).tot:=by simp [ZI.tot];omega
          rw [e];exact .ptr ⟨p.blk,p.row,p.sz,p.off,p.inn+i.toNat⟩ b N hb
         ·have e:p.tot+i.toNat*esz=(⟨p.blk,p.row,p.sz,p.off+i.toNat*esz,p.inn⟩:ZI).tot:=by simp only [ZI.tot];omega
          rw [e];exact .ptr ⟨p.blk,p.row,p.sz,p.off+i.toNat*esz,p.inn⟩ b N hb
     ·rename_i cs inn
      split at hl
      ·rename_i he
       have:=h1z he;subst this
       obtain ⟨⟨h0,h1⟩,hK⟩:=Zd hl
       refine ⟨_,hK,fun E w r ri hx hi=> ?_⟩
       cases hi with
       | int k' n'=>
        cases hx with
        | pview cs inn a vs hc hi=>
         refine ⟨.pointer (some (a.add (inn+i.toNat))), ?_,.pview cs _ a vs hc hi⟩
         simp [Instr.indexAt,asIntOf,Zb hu,run_sizeOf hs,h0,h1,Instr.sureAddr,Addr.add_add]
      ·split at hl
       ·obtain ⟨⟨h0,h1⟩,hl⟩:=Zd hl
        split at hl
        ·rename_i rest hd
         refine ⟨_,hl,fun E w r ri hx hi=> ?_⟩
         cases hi with
         | int k' n'=>
          cases hx with
          | pview cs inn a vs hc hi=>
           obtain ⟨h1',h2'⟩:=ZN cs _ rest vs hd hc
           refine ⟨.pointer (some ((a.add (i.toNat*esz)).add 0)), ?_,.pview rest 0 (a.add (i.toNat*esz)) _ h1' (fun j c hj=> ?_)⟩
           ·simp [Instr.indexAt,asIntOf,Zb hu,run_sizeOf hs,h0,h1,Instr.sureAddr,YM]
           simp_all [Addr.add_add]
        simp_all
       simp_all
     simp_all
    simp_all
   simp_all
  simp_all
 simp_all
def Z3P (lo hi:Option AV) (len bound:Nat) (K:Option Nat->Nat->Prop):Prop:=
 match lo,hi with
 | none,none=>K none len
 | none,some (.int _ j)=>Z4 (0<=j/\j<=bound) (K none j.toNat)
 | some (.int _ i),none=>Z4 (0<=i/\i<=len) (K (some i.toNat) len)
 | some (.int _ i),some (.int _ j)=>Z4 (0<=i/\i<=j/\j<=bound) (K (some i.toNat) j.toNat)
 | _,_=>False
def ZP:Option Nat->Nat
 | none=>0
 | some n=>n
def Z1p {α:Type}:Option Nat->List α->List α
 | none,xs=>xs
 | some n,xs=>xs.drop n
def Zb9 (f:Nat->List AV):Option Nat->Nat->List AV
 | none=>f
 | some n=>fun i=>f (i+n)
def U9 (n:Nat):Option Nat->Nat
 | none=>n
 | some k=>n-k
theorem WP (n:Nat) (o:Option Nat):U9 n o=n-ZP o:=by cases o<;>rfl
theorem Z64 {α:Type} (o:Option Nat) (xs:List α):Z1p o xs=xs.drop (ZP o):=by cases o<;>rfl
theorem Z9W (f:Nat->List AV) (o:Option Nat) (i:Nat):Zb9 f o i=f (i+ZP o):=by cases o<;>rfl
inductive Z2y (E:Env):Option AV->Option Value->Prop
 | none:Z2y E none none
 | some (v:AV) (r:Value) (h:Zc E v r):Z2y E (some v) (some r)
theorem WQ {len bound:Nat} {K:Option Nat->Nat->Prop} (hl:Z3P lo hi len bound K) (hlb:len<=bound):
  ∃l hh,K l hh/\ZP l<=hh/\hh<=bound/\∀(P:Program) (E:Env) (w:World) (isS:Bool) (rlo rhi:Option Value) (cap:Nat),bound<=cap->Z2y E lo rlo->Z2y E hi rhi->
   (Instr.sliceBounds isS len cap rlo rhi none).run P w=.ok (ZP l,hh,cap) w:=by
 unfold Z3P at hl
 split at hl
 ·refine ⟨_,_,hl,JI _,hlb,fun P E w isS rlo rhi cap hc h1 h2=> ?_⟩
  cases h1;cases h2
  simp [Instr.sliceBounds,ZP]
 ·rename_i k j
  obtain ⟨⟨a1,a2⟩,hK⟩:=Zd hl
  refine ⟨_,_,hK,JI _,by omega,fun P E w isS rlo rhi cap hc h1 h2=> ?_⟩
  cases h1;cases h2 with
  | some v r hv=>
   cases hv
   have:j<=(cap:Int):=by omega
   simp_all [Instr.sliceBounds,Instr.sliceBound,asIntOf,ZP]
 ·obtain ⟨⟨a1,a2⟩,hK⟩:=Zd hl
  refine ⟨_,_,hK,by simp [ZP];omega,hlb,fun P E w isS rlo rhi cap hc h1 h2=> ?_⟩
  cases h2;cases h1 with
  | some v r hv=>
   cases hv
   simp_all [Instr.sliceBounds,Instr.sliceBound,asIntOf,ZP]
 ·rename_i k i k' j
  obtain ⟨⟨a1,a2,a3⟩,hK⟩:=Zd hl
  refine ⟨_,_,hK,by simp [ZP];omega,by omega,fun P E w isS rlo rhi cap hc h1 h2=> ?_⟩
  cases h1 with
  | some v r hv=>
   cases h2 with
   | some v' r' hv'=>
    cases hv;cases hv'
    have e1:j<=(cap:Int):=by omega
    have e2:0<=j:=by omega
    have e3:i<=(j.toNat:Int):=by omega
    simp_all [Instr.sliceBounds,Instr.sliceBound,asIntOf,ZP]
 simp_all
def Zba (h:Z6) (p:ZI) (n:Nat):Bool:=
 match h.get p.blk,p.inn with
 | some (.flat cs),0=>match p.row with
  | 0=>match Ym p.off cs with
   | some rest=>Nat.ble n (csz rest)
   | none=>false
  | _+1=>false
 | some (.rows sz _ f),0=>match Nat.beq sz p.sz with
  | true=>match Ym p.off (f p.row) with
   | some rest=>Nat.ble n (csz rest)
   | none=>false
  | false=>false
 | _,_=>false
def Zbb (h:Z6) (p:ZI):Bool:=
 match h.get p.blk with
 | some (.rows _ m _)=>Nat.blt p.row m
 | _=>true
theorem Zbc {h:Z6} {p:ZI} {n:Nat} (hr:Zba h p n=true) (hi:Zbb h p=true) {w:World} {b N:Nat} (he:Emb E h w) (hb:E.blk p.blk=some (b,N)):p.tot+n<=N\/n=0:=by
 unfold Zba at hr
 split at hr
 ·rename_i cs hg hinn
  split at hr
  ·split at hr
   ·rename_i rest hd
    have hn:=V9 hr
    have hB:=he.own _ _ hg
    cases hB with
    | flat0 cs h0 hn=>rw [hn] at hb;cases hb
    | flat cs b' cells elem fr vs hb' hw hf hc hv=>
     obtain ⟨h1,h3⟩:=ZN cs _ rest vs hd hc
     have hl:=h1.length
     have hvl:vs.length<=cells.size:=by
      rcases JD vs.length with h0|h0
      ·omega
      ·have:=hv (vs.length-1) _ (J8 (by omega))
       grind
     grind [ZI.tot]
   ·cases hr
  ·cases hr
 ·rename_i sz m f hg hinn
  split at hr
  ·rename_i hbs
   have hsz:sz=p.sz:=J0 hbs
   split at hr
   ·rename_i rest hd
    have hn:=V9 hr
    have hB:=he.own _ _ hg
    have hrow:p.row<m:=by
     simp_all [Zbb]
    cases hB with
    | rows0 sz n f h0 hn=>rw [hn] at hb;cases hb
    | rows sz n f b' cells elem fr g hb' hw hf hc hlen hv=>
     obtain ⟨h1,h3⟩:=ZN _ _ rest _ hd (hc _ hrow)
     have hl:=h1.length
     simp only [J9] at hl
     rcases JD (csz rest) with h0|h0
     ·omega
     ·have:=hv p.row ((g p.row).length-1) _ hrow (J8 (by omega))
      grind [ZI.tot]
   ·cases hr
  ·cases hr
 ·cases hr
def Z7g (P:Program) (h:Z6) (T:TypeId) (x:AV) (lo hi mx:Option AV) (K:AV->Prop):Prop:=
 match P.underlying T with
 | some (.array n e)=>match ZS P e,mx with
  | some esz,none=>match (YY P e&& !(Nat.beq esz 1))||Nat.beq esz 0 with
   | false=>match x with
    | .ptr (some p)=>match Zba h p (n*esz) with
     | true=>Z8 (Zbb h p) (Z3P lo hi n n fun l hh=>K (.nslice (Z63 P h e esz p (ZP l)) esz (U9 hh l) (U9 n l))) False
     | false=>False
    | .pview (.arr k m xs::_) 0=>match Nat.beq m n&&Nat.beq esz 1 with
     | true=>Z4 (xs.length=n) (Z3P lo hi n n fun l hh=>K (.vints k (Z1p l xs) (U9 hh l)))
     | false=>False
    | _=>False
   | true=>False
  | _,_=>False
 | some (.slice e)=>match mx with
  | some (.int _ m)=>match lo,hi with
   | none,some (.int _ j)=>match x with
    | .nslice _ _ _ _|.vints _ _ _|.vrows _ _ _ _|.eslice|.fslice|.nilslice=>Z4 ((m=0/\j=0)/\(ZS P e).isSome=true) (K .eslice)
    | _=>False
   | _,_=>False
  | some _=>False
  | none=>match ZS P e with
   | some esz=>match x with
    | .nslice p esz' len lob=>match Nat.beq esz esz',(YY P e&& !(Nat.beq esz 1)) with
     | true,false=>Z4 (len<=lob) (Z3P lo hi len lob fun l hh=>K (.nslice (Z63 P h e esz p (ZP l)) esz (U9 hh l) (U9 lob l)))
     | _,_=>False
    | .vints k xs len=>match Nat.beq esz 1 with
     | true=>Z4 (len<=xs.length) (Z3P lo hi len xs.length fun l hh=>K (.vints k (Z1p l xs) (U9 hh l)))
     | false=>False
    | .vrows esz' n f len=>match Nat.beq esz esz' with
     | true=>Z4 (len<=n) (Z3P lo hi len n fun l hh=>K (.vrows esz (U9 n l) (Zb9 f l) (U9 hh l)))
     | false=>False
    | .eslice=>Z3P lo hi 0 0 fun _ _=>K .eslice
    | .nilslice=>Z3P lo hi 0 0 fun _ _=>K .nilslice
    | _=>False
   | none=>False
 | some .string=>match mx,x with
  | none,.str s=>Z3P lo hi s.size s.size fun l hh=>K (.str (s.extract (ZP l) hh))
  | _,_=>False
 | _=>False
theorem Z2z (xs:LI) (n i:Nat):(xs.drop n).getD i 0=xs.getD (n+i) 0:=by
 simp_all
theorem run_sliceAt_slice {P:Program} {T e:TypeId} (hu:P.underlying T=some (.slice e)) (r:Value) (lo hi mx:Option Value) (w:World):
  (Instr.sliceAt T r lo hi mx).run P w=(Instr.slice T r lo hi mx).run P w:=by
 simp_all [Instr.sliceAt,Zb]
theorem Z9X {P:Program} {h:Z6} {T:TypeId} {x:AV} {mx:Option AV} (hl:Z7g P h T x lo hi mx K):
  ∃v,K v/\∀(E:Env) (w:World) (r:Value) (rlo rhi rmx:Option Value),Emb E h w->Zc E x r->Z2y E lo rlo->Z2y E hi rhi->Z2y E mx rmx->
   ∃r',(Instr.sliceAt T r rlo rhi rmx).run P w=.ok r' w/\Zc E v r':=by
 unfold Z7g at hl
 split at hl
 ·-- an array
  rename_i n e hu
  split at hl
  ·rename_i esz hs
   split at hl
   ·rename_i hb2
    have hpos:0<esz:=by
     rcases JD esz with h0|h0
     all_goals simp_all
    have h1z:YY P e=true->esz=1:=fun he=>by rw [he] at hb2;simp_all
    split at hl
    ·rename_i p
     split at hl
     ·rename_i hroom
      obtain ⟨hrow,hl⟩:=ZdX hl
      obtain ⟨l,hh,hK,hle,hhb,hrun⟩:=WQ hl (J1 _)
      refine ⟨_,hK,fun E w r rlo rhi rmx he hx h1 h2 h3=> ?_⟩
      cases h3
      cases hx with
      | ptr p b N hb=>
       have hr:=hrun P E w false rlo rhi n (J1 _) h1 h2
       have hroom':=Zbc hroom hrow he hb
       rw [WP,WP]
       refine ⟨.slice (some (if n=ZP l then ⟨b,p.tot,none⟩ else (⟨b,p.tot,none⟩:Addr).add (ZP l*esz))) (hh-ZP l) (n-ZP l), ?_, ?_⟩
       ·simp_all [Instr.sliceAt,Zb,Instr.sureAddr,run_sizeOf]
       ·by_cases hnl:n=ZP l
        ·have z1:hh-ZP l=0:=by omega
         have z2:n-ZP l=0:=by omega
         rw [z1,z2]
         exact .nslice0 _ _ 0 0 _ rfl rfl
        ·rw [if_neg hnl,YU]
         have et:=Z2x P h e esz p (ZP l) h1z
         rw [<-et]
         refine .nslice _ _ _ _ b N _ (by rw [Z2w];exact hb) (by omega) (J1 _) ?_
         rw [et]
         have:ZP l*esz+(n-ZP l)*esz=n*esz:=by rw [<-Nat.add_mul];grind
         rcases hroom' with hroom'|hz
         ·omega
         ·exfalso
          have:n*esz>=n:=Nat.le_mul_of_pos_right n hpos
          omega
     simp_all
    ·rename_i k m xs rest
     split at hl
     ·rename_i hbm
      rw [J2] at hbm
      have hm:m=n:=J0 hbm.1
      have h1e:esz=1:=J0 hbm.2
      subst hm
      subst h1e
      obtain ⟨hxl,hl⟩:=Zd hl
      obtain ⟨l,hh,hK,hle,hhb,hrun⟩:=WQ hl (J1 _)
      refine ⟨_,hK,fun E w r rlo rhi rmx he hx h1 h2 h3=> ?_⟩
      cases h3
      cases hx with
      | pview cs inn a vs hc hi=>
       obtain ⟨ws,rfl,_⟩:=hc.cons_arr
       have hr:=hrun P E w false rlo rhi m (J1 _) h1 h2
       rw [WP,Z64]
       refine ⟨.slice (some (if m=ZP l then a else a.add (ZP l*1))) (hh-ZP l) (m-ZP l), ?_, ?_⟩
       ·simp_all [Instr.sliceAt,Zb,Instr.sureAddr,run_sizeOf,YM]
       ·refine .vints _ _ _ _ _ (by simp;omega) (by simp;omega) (fun i hi'=> ?_)
        simp only [J9] at hi'
        rw [if_neg (by omega),JT,Addr.add_add,Z2z]
        apply hi
        rw [Jb (by rw [Z9];omega),Zj (by omega)]
     simp_all
    simp_all
   simp_all
  simp_all
 ·-- a slice
  rename_i e hu
  split at hl
  ·-- with a bound of its capacity
   rename_i k m
   split at hl
   ·rename_i k' j
    have key:Z4 ((m=0/\j=0)/\(ZS P e).isSome=true) (K .eslice)->(∀(E:Env) (r:Value),Zc E x r->∃a len cap,r=.slice a len cap)->
      ∃v,K v/\∀(E:Env) (w:World) (r:Value) (rlo rhi rmx:Option Value),Emb E h w->Zc E x r->Z2y E none rlo->Z2y E (some (.int k' j)) rhi->Z2y E (some (.int k m)) rmx->
       ∃r',(Instr.sliceAt T r rlo rhi rmx).run P w=.ok r' w/\Zc E v r':=by
     intro hneed hform
     obtain ⟨⟨⟨rfl,rfl⟩,hsz⟩,hK⟩:=Zd hneed
     obtain ⟨esz,hs⟩:=K1.1 hsz
     refine ⟨_,hK,fun E w r rlo rhi rmx he hx h1 h2 h3=> ?_⟩
     obtain ⟨a,len,cap,rfl⟩:=hform E r hx
     cases h1
     cases h2 with
     | some v r2 hv2=>
      cases h3 with
      | some v3 r3 hv3=>
       cases hv2;cases hv3
       rw [run_sliceAt_slice hu]
       exact ⟨.slice a 0 0,by simp [Instr.slice,Zb hu,Instr.sliceBounds,Instr.sliceBound,asIntOf,run_sizeOf hs],.eslice a⟩
    cases x with
    | nslice p esz len lo=>exact key hl (fun E r hx=>by cases hx<;>exact ⟨_,_,_,rfl⟩)
    | vints k xs len=>exact key hl (fun E r hx=>by cases hx<;>exact ⟨_,_,_,rfl⟩)
    | vrows esz n f len=>exact key hl (fun E r hx=>by cases hx<;>exact ⟨_,_,_,rfl⟩)
    | eslice=>exact key hl (fun E r hx=>by cases hx;simp_all)
    | fslice=>exact key hl (fun E r hx=>by cases hx;simp_all)
    | nilslice=>exact key hl (fun E r hx=>by cases hx;simp_all)
    | _=>exact hl.elim
   simp_all
  ·simp_all
  ·split at hl
   ·rename_i esz hs
    split at hl
    ·rename_i p esz' len lob
     split at hl
     ·rename_i hb1 hb2
      have hee:esz=esz':=J0 hb1
      subst hee
      have h1z:YY P e=true->esz=1:=fun he=>by rw [he] at hb2;simp_all
      obtain ⟨hlb,hl⟩:=Zd hl
      obtain ⟨l,hh,hK,hle,hhb,hrun⟩:=WQ hl hlb
      refine ⟨_,hK,fun E w r rlo rhi rmx he hx h1 h2 h3=> ?_⟩
      cases h3
      rw [run_sliceAt_slice hu,WP,WP]
      cases hx with
      | nslice0 p esz len lo a e1 e2=>
       subst e1;subst e2
       have hr:=hrun P E w true rlo rhi 0 (J1 _) h1 h2
       have z:ZP l=0:=by omega
       have z2:hh=0:=by omega
       subst z2
       rw [z] at hr⊢
       exact ⟨.slice a 0 0,by simp_all [Instr.slice,Zb,run_sizeOf],.nslice0 _ _ _ _ _ rfl rfl⟩
      | nslice p esz len lo b N cap hb c1 c2 c3=>
       have hr:=hrun P E w true rlo rhi cap c2 h1 h2
       refine ⟨.slice (if cap=ZP l then some ⟨b,p.tot,none⟩ else some ((⟨b,p.tot,none⟩:Addr).add (ZP l*esz))) (hh-ZP l) (cap-ZP l), ?_, ?_⟩
       ·simp_all [Instr.slice,Zb,run_sizeOf]
       ·by_cases hcl:cap=ZP l
        ·have z1:hh-ZP l=0:=by omega
         have z2:lob-ZP l=0:=by omega
         have z3:cap-ZP l=0:=by omega
         rw [z1,z2,z3]
         exact .nslice0 _ _ 0 0 _ rfl rfl
        ·rw [if_neg hcl,YU]
         have et:=Z2x P h e esz p (ZP l) h1z
         rw [<-et]
         refine .nslice _ _ _ _ b N _ (by rw [Z2w];exact hb) (by omega) (by omega) ?_
         rw [et]
         have:ZP l*esz+(cap-ZP l)*esz=cap*esz:=by rw [<-Nat.add_mul];grind
         omega
     simp_all
    ·rename_i k xs len
     split at hl
     ·rename_i hb
      have he1:esz=1:=J0 hb
      subst he1
      obtain ⟨hlb,hl⟩:=Zd hl
      obtain ⟨l,hh,hK,hle,hhb,hrun⟩:=WQ hl hlb
      refine ⟨_,hK,fun E w r rlo rhi rmx he hx h1 h2 h3=> ?_⟩
      cases h3
      rw [run_sliceAt_slice hu,WP,Z64]
      cases hx with
      | vintsNil k xs len e1 e2=>
       subst e1;subst e2
       have hr:=hrun P E w true rlo rhi 0 (J1 _) h1 h2
       simp only [JZ] at hhb
       have z:ZP l=0:=by omega
       have z2:hh=0:=by omega
       subst z2
       rw [z] at hr⊢
       exact ⟨.slice none 0 0,by simp_all [Instr.slice,Zb,run_sizeOf],.vintsNil _ _ _ rfl rfl⟩
      | vints k xs len a cap c1 c2 ci=>
       have hr:=hrun P E w true rlo rhi cap c2 h1 h2
       refine ⟨.slice (if cap=ZP l then some a else some (a.add (ZP l*1))) (hh-ZP l) (cap-ZP l), ?_, ?_⟩
       ·simp_all [Instr.slice,Zb,run_sizeOf]
       ·have:(if cap=ZP l then some a else some (a.add (ZP l*1)))=some (if cap=ZP l then a else a.add (ZP l*1)):=by split<;>rfl
        rw [this]
        refine .vints _ _ _ _ _ (by simp;omega) (by simp;omega) (fun i hi'=> ?_)
        simp only [J9] at hi'
        rw [if_neg (by omega),JT,Addr.add_add,Z2z]
        grind
     simp_all
    ·rename_i esz' n f len
     split at hl
     ·rename_i hb
      have hee:esz=esz':=J0 hb
      subst hee
      obtain ⟨hlb,hl⟩:=Zd hl
      obtain ⟨l,hh,hK,hle,hhb,hrun⟩:=WQ hl hlb
      refine ⟨_,hK,fun E w r rlo rhi rmx he hx h1 h2 h3=> ?_⟩
      cases h3
      rw [run_sliceAt_slice hu,WP,WP]
      cases hx with
      | vrowsNil esz n f len e1 e2=>
       subst e1;subst e2
       have hr:=hrun P E w true rlo rhi 0 (J1 _) h1 h2
       have z:ZP l=0:=by omega
       have z2:hh=0:=by omega
       subst z2
       rw [z] at hr⊢
       exact ⟨.slice none 0 0,by simp_all [Instr.slice,Zb,run_sizeOf],.vrowsNil _ _ _ _ rfl rfl⟩
      | vrows esz n f len a cap g c1 c2 cc cl ci=>
       have hr:=hrun P E w true rlo rhi cap c2 h1 h2
       refine ⟨.slice (if cap=ZP l then some a else some (a.add (ZP l*esz))) (hh-ZP l) (cap-ZP l), ?_, ?_⟩
       ·simp_all [Instr.slice,Zb,run_sizeOf]
       ·have:(if cap=ZP l then some a else some (a.add (ZP l*esz)))=some (if cap=ZP l then a else a.add (ZP l*esz)):=by split<;>rfl
        rw [this]
        refine .vrows _ _ _ _ _ _ (fun i=>g (i+ZP l)) (by omega) (by omega) (fun i hi'=> ?_) (fun i hi'=>cl _ (by omega)) (fun i j c hi' hj=> ?_)
        all_goals grind [Z9W,Addr.add_add]
     ·exact hl.elim
    ·obtain ⟨l,hh,hK,hle,hhb,hrun⟩:=WQ hl (J1 _)
     refine ⟨_,hK,fun E w r rlo rhi rmx he hx h1 h2 h3=> ?_⟩
     cases h3
     rw [run_sliceAt_slice hu]
     cases hx with
     | eslice a=>
      have hr:=hrun P E w true rlo rhi 0 (J1 _) h1 h2
      have z:ZP l=0:=by omega
      have z2:hh=0:=by omega
      subst z2
      rw [z] at hr
      exact ⟨.slice a 0 0,by simp [Instr.slice,Zb hu,hr,run_sizeOf hs],.eslice a⟩
    ·obtain ⟨l,hh,hK,hle,hhb,hrun⟩:=WQ hl (J1 _)
     refine ⟨_,hK,fun E w r rlo rhi rmx he hx h1 h2 h3=> ?_⟩
     cases h3
     rw [run_sliceAt_slice hu]
     cases hx with
     | nilslice=>
      have hr:=hrun P E w true rlo rhi 0 (J1 _) h1 h2
      have z:ZP l=0:=by omega
      have z2:hh=0:=by omega
      subst z2
      rw [z] at hr
      exact ⟨.slice none 0 0,by simp [Instr.slice,Zb hu,hr,run_sizeOf hs],.nilslice⟩
    ·exact hl.elim
   ·exact hl.elim
 ·-- a string
  rename_i hu
  split at hl
  ·rename_i s
   obtain ⟨l,hh,hK,hle,hhb,hrun⟩:=WQ hl (J1 _)
   refine ⟨_,hK,fun E w r rlo rhi rmx he hx h1 h2 h3=> ?_⟩
   cases h3
   cases hx with
   | str s=>
    have hr:=hrun P E w false rlo rhi s.size (J1 _) h1 h2
    exact ⟨.string (s.extract (ZP l) hh),by simp [Instr.sliceAt,Instr.slice,Zb hu,hr],.str _⟩
  ·exact hl.elim
 ·exact hl.elim
def ZhQ:Nat->List AV->List AV
 | 0,_=>[]
 | n+1,cs=>cs++ZhQ n cs
def Zbd (P:Program):Nat->TypeId->Option (List AV)
 | 0,_=>none
 | n+1,t=>match P.underlying t with
  | some .bool=>some [.bool false]
  | some (.int k)=>some [.int k 0]
  | some .string=>some [.str ByteArray.empty]
  | some (.pointer _)=>some [.ptr none]
  | some (.slice _)=>some [.nilslice]
  | some (.map _ _)=>some [.map none]
  | some (.func _ _ _)=>some [.nilFunc]
  | some (.interface _)=>some [.nilIface]
  | some (.array m e)=>match P.underlying e with
   | some (.int k)=>some [.arr k m (List.replicate m 0)]
   | _=>match Zbd P n e with
    | some cs=>some (ZhQ m cs)
    | none=>none
  | some (.struct fs)=>fs.toList.foldr (fun f acc=>match Zbd P n f.type,acc with|some a,some b=>some (a++b)|_,_=>none) (some [])
  | _=>none
def Qy (k:IntKind):LI->List Value->Option (List Value)
 | [],vs=>some vs
 | x::xs,.int k' y::vs=>match decide (k=k')&&decide (x=y) with
  | true=>Qy k xs vs
  | false=>none
 | _,_=>none
def Z55 (s:ByteArray):Bool:=match s.data.toList with|[]=>true|_::_=>false
def ZF:List AV->List Value->Bool
 | [],[]=>true
 | .bool b::r,.bool c::s=>match decide (b=c) with|true=>ZF r s|false=>false
 | .int k n::r,.int k' n'::s=>match decide (k=k')&&decide (n=n') with|true=>ZF r s|false=>false
 | .str a::r,.string b::s=>match Z55 a&&Z55 b with|true=>ZF r s|false=>false
 | .ptr none::r,.pointer none::s=>ZF r s
 | .nilslice::r,.slice none 0 0::s=>ZF r s
 | .map none::r,.map none::s=>ZF r s
 | .nilFunc::r,.nilFunc::s=>ZF r s
 | .nilIface::r,.nilIface::s=>ZF r s
 | .arr k n xs::r,vs=>match Nat.beq n xs.length with
  | true=>match Qy k xs vs with
   | some s=>ZF r s
   | none=>false
  | false=>false
 | _,_=>false
theorem Z3Z {k:IntKind}:∀(xs:LI) (vs s:List Value),Qy k xs vs=some s->vs=intCells k xs.length xs++s
 | [],vs,s,h=>by simp [Qy] at h;subst h;simp [intCells]
 | x::xs,vs,s,h=>by
  cases vs with
  | nil=>simp [Qy] at h
  | cons v vs=>
   cases v with
   | int k' y=>
    simp only [Qy] at h
    split at h
    ·rename_i hb
     rw [J2,decide_eq_true_eq,decide_eq_true_eq] at hb
     obtain ⟨rfl,rfl⟩:=hb
     have ih:=Z3Z xs vs s h
     simp only [intCells,Jt,List.range_succ_eq_map,K3,List.map_map]
     congr 2
    ·cases h
   | _=>simp [Qy] at h
theorem Z40 {s:ByteArray} (h:Z55 s=true):s=ByteArray.empty:=by
 unfold Z55 at h
 split at h
 ·rename_i hl
  obtain ⟨d⟩:=s
  simp at hl
  subst hl
  rfl
 ·cases h
theorem Z7h:∀(cs:List AV) (vs:List Value),ZF cs vs=true->Zm E cs vs:=by
 intro cs
 induction cs with
 | nil=>
  intro vs h
  cases vs with
  | nil=>exact .nil
  | cons v vs=>simp [ZF] at h
 | cons a r ih=>
  intro vs h
  cases a with
  | bool b=>
   cases vs with
   | nil=>simp [ZF] at h
   | cons v vs=>
    cases v<;>simp only [ZF] at h<;>try (cases h)
    split at h
    ·rename_i hd;rw [decide_eq_true_eq] at hd;subst hd;exact .one _ _ _ _ rfl rfl (.bool _) (ih _ h)
    ·cases h
  | int k n=>
   cases vs with
   | nil=>simp [ZF] at h
   | cons v vs=>
    cases v<;>simp only [ZF] at h<;>try (cases h)
    split at h
    ·rename_i hd
     rw [J2,decide_eq_true_eq,decide_eq_true_eq] at hd
     obtain ⟨rfl,rfl⟩:=hd
     exact .one _ _ _ _ rfl rfl (.int _ _) (ih _ h)
    ·cases h
  | str s=>
   cases vs with
   | nil=>simp [ZF] at h
   | cons v vs=>
    cases v<;>simp only [ZF] at h<;>try (cases h)
    split at h
    ·rename_i hd
     rw [J2] at hd
     rw [Z40 hd.1,Z40 hd.2]
     exact .one _ _ _ _ rfl rfl (.str _) (ih _ h)
    ·cases h
  | ptr p=>
   cases p with
   | some p=>cases vs<;>simp [ZF] at h
   | none=>
    cases vs with
    | nil=>simp [ZF] at h
    | cons v vs=>
     cases v with
     | pointer q=>
      cases q with
      | some q=>simp [ZF] at h
      | none=>exact .one _ _ _ _ rfl rfl .nilptr (ih _ (by simpa [ZF] using h))
     | _=>simp [ZF] at h
  | nilslice=>
   cases vs with
   | nil=>simp [ZF] at h
   | cons v vs=>
    cases v with
    | slice q l c=>
     cases q with
     | some q=>simp [ZF] at h
     | none=>
      cases l with
      | succ l=>simp [ZF] at h
      | zero=>
       cases c with
       | succ c=>simp [ZF] at h
       | zero=>exact .one _ _ _ _ rfl rfl .nilslice (ih _ (by simpa [ZF] using h))
    | _=>simp [ZF] at h
  | map p=>
   cases p with
   | some p=>cases vs<;>simp [ZF] at h
   | none=>
    cases vs with
    | nil=>simp [ZF] at h
    | cons v vs=>
     cases v with
     | map q=>
      cases q with
      | some q=>simp [ZF] at h
      | none=>exact .one _ _ _ _ rfl rfl .nilmap (ih _ (by simpa [ZF] using h))
     | _=>simp [ZF] at h
  | nilFunc=>
   cases vs with
   | nil=>simp [ZF] at h
   | cons v vs=>
    cases v with
    | nilFunc=>exact .one _ _ _ _ rfl rfl .nilFunc (ih _ (by simpa [ZF] using h))
    | _=>simp [ZF] at h
  | nilIface=>
   cases vs with
   | nil=>simp [ZF] at h
   | cons v vs=>
    cases v with
    | nilIface=>exact .one _ _ _ _ rfl rfl .nilIface (ih _ (by simpa [ZF] using h))
    | _=>simp [ZF] at h
  | arr k n xs=>
   simp only [ZF] at h
   split at h
   ·rename_i hn
    have hn':n=xs.length:=J0 hn
    split at h
    ·rename_i s hs
     have:=Z3Z xs vs s hs
     rw [this,<-hn']
     exact .arr k n xs _ _ (ih _ h)
    ·cases h
   ·cases h
  | _=>cases vs<;>simp [ZF] at h
def Z07 (P:Program) (t:TypeId):Option (List AV):=
 match P.info? t with
 | some i=>match i.zero with
  | some z=>match Zbd P 12 t with
   | some cs=>match ZF cs z.cells.toList with
    | true=>some cs
    | false=>none
   | none=>none
  | none=>none
 | none=>none
theorem WB {P:Program} {t:TypeId} (h:Z07 P t=some cs):
  ∃z:Value,(∀w,(zeroValue t).run P w=.ok z w)/\∀E,Zm E cs z.cells.toList:=by
 unfold Z07 at h
 split at h
 ·split at h
  ·split at h
   ·split at h
    all_goals simp_all [zeroValue,typeInfo,Z7h]
   ·cases h
  ·cases h
 ·cases h
def Z7i (h:Z6):AV:=.ptr (some ⟨h.next,0,0,0,0⟩)
theorem WC (cells:Array Value):free cells (0,0):=fun o _ h=>by omega
theorem Qz {P:Program} {h:Z6} {w:World} (e:Emb E h w) (elem:TypeId) (cells:Array Value) (B:Blk)
  (hB:∀E' w',E.le E'->E'.blk h.next=some (w.heap.size,cells.size)->w'.heap[w.heap.size]? =some (.cells cells elem (0,0))->ZV E' w' h.next B):
  ∃w' E',(newRow elem cells).run P w=.ok ⟨w.heap.size,0,none⟩ w'/\Evo E h w E' (h.add B) w'/\E'.blk h.next=some (w.heap.size,cells.size):=by
 refine ⟨{ w with heap:=w.heap.push (.cells cells elem (0,0))},E.ext h.next w.heap.size cells.size,by simp [newRow],XC e _ _ _ (hB _ _ (Env.ext_le (e.fresh _ (J1 _))) (Env.ext_same _ _ _ _) ?_),Env.ext_same _ _ _ _⟩
 simp
theorem Z1q {P:Program} {h:Z6} {w:World} (e:Emb E h w) (elem:TypeId) (cs:List AV) (vs:List Value) (hc:Zm E cs vs):
  ∃w' E',(newRow elem vs.toArray).run P w=.ok ⟨w.heap.size,0,none⟩ w'/\Evo E h w E' (h.add (.flat cs)) w'/\E'.blk h.next=some (w.heap.size,vs.length):=by
 obtain ⟨w',E',h1,h2,h3⟩:=Qz (P:=P) e elem vs.toArray (.flat cs) (fun E' w' le hb hw=>.flat cs w.heap.size vs.toArray elem (0,0) vs hb hw (WC _) (hc.mono le) (fun j c hj=>by simp_all))
 grind
def Z2A (P:Program) (h:Z6) (t:TypeId) (K:AV->Z6->Prop):Prop:=
 match Z07 P t with
 | some cs=>K (Z7i h) (h.add (.flat cs))
 | none=>False
theorem QA {h:Z6} {b N:Nat} (hb:E.blk h.next=some (b,N)):Zc E (Z7i h) (.pointer (some ⟨b,0,none⟩)):=
 .ptr ⟨h.next,0,0,0,0⟩ b N hb
theorem Z9Y {P:Program} {h:Z6} {t:TypeId} {K:AV->Z6->Prop} (hl:Z2A P h t K):
  ∃v h',K v h'/\∀(E:Env) (w:World) (x:Value),Emb E h w->∃r w' E',(Instr.alloc t true x).run P w=.ok r w'/\Evo E h w E' h' w'/\Zc E' v r:=by
 unfold Z2A at hl
 split at hl
 ·rename_i cs hz
  obtain ⟨z,hz1,hz2⟩:=WB hz
  refine ⟨_,_,hl,fun E w x he=> ?_⟩
  obtain ⟨w',E',h1,h2,h3⟩:=Z1q (P:=P) he t cs z.cells.toList (hz2 E)
  refine ⟨_,w',E', ?_,h2,QA h3⟩
  simp_all [Instr.alloc,newVar]
 simp_all
def Zgz (h:Z6) (v:AV) (K:AV->Z6->Prop):Prop:=
 match X7 v with
 | some cs=>K (Z7i h) (h.add (.flat cs))
 | none=>False
theorem ZdZ {h:Z6} {v:AV} {K:AV->Z6->Prop} (hl:Zgz h v K) (P:Program) (t:TypeId):
  ∃x h',K x h'/\∀(E:Env) (w:World) (rv:Value),Emb E h w->Zc E v rv->∃r w' E',(Instr.box t rv).run P w=.ok r w'/\Evo E h w E' h' w'/\Zc E' x r:=by
 unfold Zgz at hl
 split at hl
 ·rename_i cs hc
  refine ⟨_,_,hl,fun E w rv he hv=> ?_⟩
  obtain ⟨w',E',h1,h2,h3⟩:=Z1q (P:=P) he t cs rv.cells.toList (Wm hc hv)
  refine ⟨_,w',E', ?_,h2,QA h3⟩
  simp_all [Instr.box,newVar]
 simp_all
theorem Wi (off:Nat):∀(vs:List Value) (k:Nat) (cells:Array Value),
  (vs.zipIdx k).foldl (fun cs (x:Value×Nat)=>cs.setIfInBounds (off+x.2) x.1) cells=YF cells (off+k) vs
 | [],_,_=>rfl
 | v::r,k,cells=>by
  simp only [List.zipIdx_cons,List.foldl_cons]
  rw [Wi off r (k+1)]
  rfl
theorem Z0Q (place:Nat->Option (Nat×Nat)) (cells:Array Value) (i:Nat) (v:Value) (rest:List (Nat×Value)) (off size:Nat) (hp:place i=some (off,size)) (h1:v.cells.size=size) (h2:off+size<=cells.size):
  Instr.fill place cells ((i,v)::rest)=Instr.fill place (YF cells off v.cells.toList) rest:=by
 simp only [Instr.fill,hp]
 rw [if_neg (by simp;omega)]
 have:=Wi off v.cells.toList 0 cells
 rw [Ki] at this
 rw [<-this,<-Array.foldl_toList]
 simp
theorem Ql (cells:Array Value) (o:Nat) (vs:List Value) (h:o+vs.length<=cells.size):(YF cells o vs).toList=Ye cells.toList o vs:=by
 apply Kp
 intro j
 rw [Ug _ _ _ (by omega)]
 simp only [Array.getElem?_toList]
 split
 ·have:=YX vs o cells (j-o) h (by omega)
  rw [show o+(j-o)=j by omega] at this
  exact this
 grind [Yw]
def Z2B (places:List (Nat×Nat)):List (Nat×AV)->List AV->(List AV->Prop)->Prop
 | [],cs,K=>K cs
 | (i,v)::r,cs,K=>match places[i]? with
  | some (off,sz)=>match X7 v with
   | some news=>match Nat.beq (csz news) sz with
    | true=>Z2t off 0 news cs fun cs'=>Z2B places r cs' K
    | false=>False
   | none=>False
  | none=>False
inductive Z56 (E:Env):List (Nat×AV)->List (Nat×Value)->Prop
 | nil:Z56 E [] []
 | cons (i:Nat) (v:AV) (r:Value) (vs:List (Nat×AV)) (rs:List (Nat×Value)) (h:Zc E v r) (t:Z56 E vs rs):Z56 E ((i,v)::vs) ((i,r)::rs)
theorem Z41 {places:List (Nat×Nat)}:∀(parts:List (Nat×AV)) (cs:List AV) (K:List AV->Prop),Z2B places parts cs K->
  ∃cs',K cs'/\∀(E:Env) (cells:Array Value) (rparts:List (Nat×Value)),Zm E cs cells.toList->Z56 E parts rparts->
   ∃cells',Instr.fill (places.toArray[·]?) cells rparts=some cells'/\Zm E cs' cells'.toList:=by
 intro parts
 induction parts with
 | nil=>
  intro cs K h
  refine ⟨cs,h,fun E cells rparts hc hp=> ?_⟩
  cases hp
  exact ⟨cells,rfl,hc⟩
 | cons p r ih=>
  intro cs K h
  simp only [Z2B] at h
  split at h
  ·rename_i off sz hpl
   split at h
   ·rename_i news hn
    split at h
    ·rename_i hb
     have hsz:csz news=sz:=J0 hb
     obtain ⟨cs1,hK1,hr1⟩:=Z2u _ _ _ _ _ h
     obtain ⟨cs2,hK2,hr2⟩:=ih cs1 K hK1
     refine ⟨cs2,hK2,fun E cells rparts hc hp=> ?_⟩
     cases hp with
     | cons i v rv vs rs hv ht=>
      have hnews:=Wm hn hv
      have hl:=hnews.length
      obtain ⟨hle,hc1⟩:=hr1 E cells.toList rv.cells.toList hc hnews
      rw [Z0Q (places.toArray[·]?) cells i rv rs off sz (by simp_all) (by rw [<-hsz,<-hl];simp) (by rw [<-hsz,<-hl];omega)]
      simp_all [Ql]
    simp_all
   simp_all
  simp_all
 
theorem Z2C {h:Z6} {w:World} (e:Emb E h w) (o:Obj):Evo E h w E h { w with heap:=w.heap.push o}:=by
 refine ⟨.refl E,⟨e.fresh,e.lt,fun x B hx=>(e.own x B hx).congr fun b N hb=>World.push_old ((e.own x B hx).lt hb),e.disj,fun a c hi=> ?_,e.sep⟩,by simp,rfl,rfl,⟨rfl,J1 _⟩,fun b hb _=>World.push_old hb,fun b h=>.inl h,fun _ _ h=>h⟩
 have h1:=e.imm a c hi
 grind [World.cell?]
def Z08 (P:Program):List Field->Option (List (Nat×Nat))
 | []=>some []
 | f::r=>match ZS P f.type,Z08 P r with
  | some s,some l=>some ((f.offset,s)::l)
  | _,_=>none
theorem run_places {P:Program}:∀(fs:List Field) (l:List (Nat×Nat)),Z08 P fs=some l->∀w,(fs.mapM (m:=Sem) fun (f:Field)=>do pure (f.offset,<-sizeOf f.type)).run P w=.ok l w
 | [],l,h,w=>by simp [Z08] at h;simp_all
 | f::r,l,h,w=>by
  simp only [Z08] at h
  split at h
  ·rename_i s l' hs hl
   injection h with h
   subst h
   have ih:=run_places r l' hl w
   simp only [List.mapM_cons,J6,run_sizeOf hs,J4,Jf,ih]
  ·cases h
def Va (k:IntKind):List (Nat×AV)->LI->Option (LI)
 | [],xs=>some xs
 | (i,.int k' v)::r,xs=>match decide (k=k')&&Nat.blt i xs.length with
  | true=>Va k r (xs.set i v)
  | false=>none
 | _,_=>none
theorem Z2D {k:IntKind}:∀(parts:List (Nat×AV)) (xs ys:LI),Va k parts xs=some ys->ys.length=xs.length
 | [],xs,ys,h=>by simp [Va] at h;rw [h]
 | (i,v)::r,xs,ys,h=>by
  cases v with
  | int k' n=>
   simp only [Va] at h
   split at h
   ·have:=Z2D r _ _ h;simpa using this
   ·cases h
  | _=>simp [Va] at h
theorem Z42 {k:IntKind} {E:Env}:∀(parts:List (Nat×AV)) (xs ys:LI) (cells:Array Value) (rparts:List (Nat×Value)),Va k parts xs=some ys->cells.toList=intCells k xs.length xs->Z56 E parts rparts->
   ∃cells',Instr.fill (fun i=>some (i*1,1)) cells rparts=some cells'/\cells'.toList=intCells k ys.length ys
 | [],xs,ys,cells,rparts,h,hc,hp=>by
  simp [Va] at h;subst h
  cases hp
  exact ⟨cells,rfl,hc⟩
 | (i,v)::r,xs,ys,cells,rparts,h,hc,hp=>by
  cases v with
  | int k' n=>
   simp only [Va] at h
   split at h
   ·rename_i hb
    rw [J2,decide_eq_true_eq] at hb
    obtain ⟨rfl,hb⟩:=hb
    have hlt:i<xs.length:=by
     have:=Je hb
     omega
    cases hp with
    | cons i v rv vs rs hv ht=>
     cases hv
     have hcs:cells.size=xs.length:=by have:=congrArg List.length hc;simpa [Z9] using this
     rw [Z0Q _ cells i _ rs (i*1) 1 rfl rfl (by omega)]
     refine Z42 r (xs.set i n) ys _ rs h ?_ ht
     rw [Ql _ _ _ (by simp [Value.cells];omega),hc,JT,Kk,Z04 k xs.length i xs n hlt hlt]
     simp [Ye,Value.cells]
   ·cases h
  | _=>simp [Va] at h
def Z7j (P:Program) (t:TypeId) (parts:List (Nat×AV)) (K:AV->Prop):Prop:=
 match Z07 P t with
 | none=>False
 | some cs0=>match P.underlying t with
  | some (.struct fields)=>match Z08 P fields.toList with
   | some places=>Z2B places parts cs0 fun cs=>K (.agg cs)
   | none=>False
  | some (.array n e)=>match P.underlying e,ZS P e,cs0 with
   | some (.int k),some 1,[.arr k' n' zs]=>match decide (k=k')&&Nat.beq n n'&&Nat.beq n zs.length with
    | true=>match Va k parts zs with
     | some xs=>K (.agg [.arr k n xs])
     | none=>False
    | false=>False
   | _,some s,_=>Z2B ((List.range n).map fun i=>(i*s,s)) parts cs0 fun cs=>K (.agg cs)
   | _,none,_=>False
  | _=>False
theorem Z2E {p p':Nat->Option (Nat×Nat)} (h:∀i q,p i=some q->p' i=some q):∀(parts:List (Nat×Value)) (cells c:Array Value),Instr.fill p cells parts=some c->Instr.fill p' cells parts=some c
 | [],_,_,hf=>by simpa [Instr.fill] using hf
 | (i,v)::r,cells,c,hf=>by
  simp only [Instr.fill] at hf⊢
  cases hp:p i with
  | none=>rw [hp] at hf;cases hf
  | some q=>
   rw [hp] at hf
   rw [h i q hp]
   simp only at hf⊢
   split at hf
   ·cases hf
   ·rename_i hc
    rw [if_neg hc]
    exact Z2E h r _ c hf
theorem Z9Z {P:Program} {t:TypeId} (hl:Z7j P t parts K):
  ∃v,K v/\∀(E:Env) (w:World) (rparts:List (Nat×Value)),Z56 E parts rparts->∃r,(Instr.build t rparts.toArray).run P w=.ok r w/\Zc E v r:=by
 unfold Z7j at hl
 split at hl
 ·simp_all
 ·rename_i cs0 hz
  obtain ⟨z,hz1,hz2⟩:=WB hz
  split at hl
  ·rename_i fields hu
   split at hl
   ·rename_i places hp
    obtain ⟨cs,hK,hr⟩:=Z41 _ _ _ hl
    refine ⟨_,hK,fun E w rparts hpr=> ?_⟩
    obtain ⟨cells',h1,h2⟩:=hr E z.cells rparts (hz2 E) hpr
    refine ⟨.agg cells', ?_, ?_⟩
    ·have hpl:=run_places fields.toList places hp w
     simp_all [Instr.build,Zb,Array.mapM_eq_mapM_toList]
    ·have:Zc E (.agg cs) (.agg cells'.toList.toArray):=.agg _ _ h2
     omega
   simp_all
  ·rename_i n e hu
   split at hl
   ·rename_i k k' n' zs hue hse
    split at hl
    ·rename_i hb
     rw [J2,J2,decide_eq_true_eq] at hb
     obtain ⟨⟨rfl,hb1⟩,hb2⟩:=hb
     have e1:n=n':=J0 hb1
     have e2:n=zs.length:=J0 hb2
     subst e1
     split at hl
     ·rename_i xs hx
      refine ⟨_,hl,fun E w rparts hpr=> ?_⟩
      have hc:=hz2 E
      obtain ⟨ws,hws,hnil⟩:=hc.cons_arr
      cases hnil
      obtain ⟨cells',h1,h2⟩:=Z42 parts zs xs z.cells rparts hx (by rw [hws,<-e2];simp) hpr
      refine ⟨.agg cells', ?_, ?_⟩
      ·simp_all [Instr.build,Zb,run_sizeOf]
      ·have hlen:=Z2D _ _ _ hx
       have:Zc E (.agg [.arr k n xs]) (.agg (intCells k n xs++[]).toArray):=.agg _ _ (.arr k n xs _ _ .nil)
       rw [JE] at this
       have e3:xs.length=n:=by omega
       rw [<-e3] at this⊢
       rw [<-h2] at this
       omega
     simp_all
    simp_all
   ·rename_i s hse _
    obtain ⟨cs,hK,hr⟩:=Z41 _ _ _ hl
    refine ⟨_,hK,fun E w rparts hpr=> ?_⟩
    obtain ⟨cells',h1,h2⟩:=hr E z.cells rparts (hz2 E) hpr
    refine ⟨.agg cells', ?_, ?_⟩
    ·have h1':Instr.fill (fun i=>some (i*s,s)) z.cells rparts=some cells':=by
      refine Z2E (fun i q hq=> ?_) rparts _ _ h1
      grind
     simp_all [Instr.build,Zb,run_sizeOf]
    ·have:Zc E (.agg cs) (.agg cells'.toList.toArray):=.agg _ _ h2
     omega
   simp_all
  simp_all
def Z65:Nat->List (Nat×AV)->Option (List AV)
 | _,[]=>some []
 | n,(i,v)::r=>match Nat.beq i n with
  | true=>match Z65 (n+1) r with
   | some l=>some (v::l)
   | none=>none
  | false=>none
def Z0R (k:IntKind):List AV->Option (LI)
 | []=>some []
 | .int k' n::r=>match decide (k=k') with
  | true=>match Z0R k r with
   | some l=>some (n::l)
   | none=>none
  | false=>none
 | _=>none
def Zbe (size:Nat):List AV->Option (List AV)
 | []=>some []
 | v::r=>match X7 v with
  | some cs=>match Nat.beq (csz cs) size with
   | true=>match Zbe size r with
    | some l=>some (cs++l)
    | none=>none
   | false=>none
  | none=>none
def XV:Nat->List Value->List (Nat×Value)
 | _,[]=>[]
 | n,v::r=>(n,v)::XV (n+1) r
theorem Wx {E:Env}:∀(parts:List (Nat×AV)) (n:Nat) (vs:List AV) (rparts:List (Nat×Value)),Z65 n parts=some vs->Z56 E parts rparts->∃rs,Zt E vs rs/\rparts=XV n rs
 | [],n,vs,rparts,h,hp=>by
  simp [Z65] at h;subst h;cases hp
  exact ⟨[],.nil,rfl⟩
 | (i,v)::r,n,vs,rparts,h,hp=>by
  simp only [Z65] at h
  split at h
  ·rename_i hb
   have:i=n:=J0 hb
   subst this
   split at h
   ·rename_i l hl
    injection h with h
    subst h
    cases hp with
    | cons i v rv vs rs hv ht=>
     obtain ⟨rs',h1,h2⟩:=Wx r (i+1) l rs hl ht
     exact ⟨rv::rs',.cons _ _ _ _ hv h1,by rw [h2];rfl⟩
   ·cases h
  ·cases h
def Z66:List Value->List Value
 | []=>[]
 | v::r=>v.cells.toList++Z66 r
theorem Z67 (size:Nat):∀(rs:List Value) (k:Nat) (cells:Array Value),(∀r∈rs,r.cells.size=size)->(k+rs.length)*size<=cells.size->
  ∃cells',Instr.fill (fun i=>some (i*size,size)) cells (XV k rs)=some cells'/\cells'.size=cells.size/\(∀(j:Nat),j<k*size->cells'[j]? =cells[j]?)/\
   ∀(j:Nat) c,(Z66 rs)[j]? =some c->cells'[k*size+j]? =some c
 | [],k,cells,_,_=>⟨cells,rfl,rfl,fun _ _=>rfl,fun j c h=>by simp [Z66] at h⟩
 | r::rs,k,cells,hs,hl=>by
  have hr:r.cells.size=size:=hs r (by simp)
  have e1:(k+(r::rs).length)*size=k*size+size+rs.length*size:=by grind
  have e2:(k+1)*size=k*size+size:=by rw [K7,Nat.one_mul]
  have e3:(k+1+rs.length)*size=k*size+size+rs.length*size:=by grind
  obtain ⟨cells',h1,h2,h3,h4⟩:=Z67 size rs (k+1) (YF cells (k*size) r.cells.toList) (fun x hx=>hs x (by simp [hx])) (by rw [Y1,e3];omega)
  refine ⟨cells', ?_,by rw [h2,Y1], ?_, ?_⟩
  ·simp only [XV]
   rw [Z0Q _ cells k r _ (k*size) size rfl hr (by omega)]
   exact h1
  ·intro j hj
   rw [h3 j (by omega),Yw _ _ _ _ (by omega)]
  ·intro j c hc
   simp only [Z66] at hc
   rcases Jo j size with hj|hj
   ·rw [Jb (by simp;omega)] at hc
    rw [h3 _ (by omega)]
    have:=YX r.cells.toList (k*size) cells j (by simp;omega) (by simp;omega)
    rw [this];exact hc
   grind
theorem Z2F {E:Env} {size:Nat}:∀(vs:List AV) (rs:List Value) (cs:List AV),Zbe size vs=some cs->Zt E vs rs->Zm E cs (Z66 rs)/\∀r∈rs,r.cells.size=size
 | [],rs,cs,h,hr=>by
  simp [Zbe] at h;subst h;cases hr
  exact ⟨.nil,by simp⟩
 | v::r,rs,cs,h,hr=>by
  simp only [Zbe] at h
  split at h
  ·rename_i c hc
   split at h
   ·rename_i hb
    split at h
    ·rename_i l hl
     injection h with h
     subst h
     cases hr with
     | cons v rv vs rs hv ht=>
      obtain ⟨h1,h2⟩:=Z2F r rs l hl ht
      have hcv:=Wm hc hv
      refine ⟨hcv.append h1,fun x hx=> ?_⟩
      rcases J7.1 hx with rfl|hx
      ·have:=hcv.length
       rw [J0 hb] at this
       simpa using this
      ·exact h2 x hx
    ·cases h
   ·cases h
  ·cases h
theorem QB {E:Env} {k:IntKind}:∀(vs:List AV) (rs:List Value) (xs:LI),Z0R k vs=some xs->Zt E vs rs->xs.length=rs.length/\(∀r∈rs,r.cells.size=1)/\∀(j:Nat),j<xs.length->(Z66 rs)[j]? =some (.int k (xs.getD j 0))
 | [],rs,xs,h,hr=>by
  simp [Z0R] at h;cases hr
  simp_all
 | v::r,rs,xs,h,hr=>by
  cases v with
  | int k' n=>
   simp only [Z0R] at h
   split at h
   ·rename_i hd
    rw [decide_eq_true_eq] at hd
    subst hd
    split at h
    ·rename_i l hl
     injection h with h
     subst h
     cases hr with
     | cons v rv vs rs hv ht=>
      cases hv
      obtain ⟨h0,h1,h2⟩:=QB r rs l hl ht
      refine ⟨by simp [h0],fun x hx=> ?_,fun j hj=> ?_⟩
      ·rcases J7.1 hx with rfl|hx
       ·rfl
       ·exact h1 x hx
      ·cases j with
       | zero=>simp [Z66,Value.cells]
       | succ j=>
        exact h2 j (by simpa using hj)
    ·cases h
   ·cases h
  | _=>simp [Z0R] at h
def XW (P:Program) (h:Z6) (t:TypeId) (len:Nat) (parts:List (Nat×AV)) (K:AV->Z6->Prop):Prop:=
 match P.underlying t with
 | some (.slice e)=>match ZS P e,Z65 0 parts with
  | some size,some vs=>match Nat.beq vs.length len,Nat.ble (len*size) 16777216,Z07 P e with
   | true,true,some _=>match vs with
    | []=>K .eslice h
    | _::_=>match P.underlying e,Nat.beq size 1 with
     | some (.int k),true=>match Z0R k vs with
      | some xs=>K (.nslice ⟨h.next,0,0,0,0⟩ 1 len len) (h.add (.ints k xs))
      | none=>False
     | some (.int _),false=>False
     | _,_=>match Zbe size vs with
      | some cs=>K (.nslice ⟨h.next,0,0,0,0⟩ size len len) (h.add (.flat cs))
      | none=>False
   | _,_,_=>False
  | _,_=>False
 | _=>False
theorem Zt.length {E:Env}:∀{vs:List AV} {rs:List Value},Zt E vs rs->rs.length=vs.length
 | _,_,.nil=>rfl
 | _,_,.cons _ _ _ _ _ t=>by simp [Zt.length t]
theorem run_buildSlice {P:Program} {t e:TypeId} (hu:P.underlying t=some (.slice e)) {size len:Nat} (hs:ZS P e=some size) (hle:len*size<=16777216) (hz:∀w,(zeroValue e).run P w=.ok z w)
  (rs:List Value) (hl:rs.length=len) (h1:∀r∈rs,r.cells.size=size):
  ∃cells:Array Value,cells.size=len*size/\(∀(j:Nat) c,(Z66 rs)[j]? =some c->cells[j]? =some c)/\
   ∀w:World,(Instr.buildSlice t len (XV 0 rs).toArray).run P w=((newRow e cells).run P w).andThen fun a w'=>.ok (.slice (some a) len len) w':=by
 let z0:Array Value:=if len*size=0 then #[] else z.cells
 let c0:Array Value:=(Array.range (len*size)).map (z0[· %z0.size]!)
 have hc0:c0.size=len*size:=by simp [c0]
 obtain ⟨cells,f1,f2,_,f4⟩:=Z67 size rs 0 c0 h1 (by rw [hc0,Jq,hl];omega)
 refine ⟨cells,by rw [f2,hc0],fun j c hj=>by simp_all,fun w=> ?_⟩
 simp only [Instr.buildSlice,J6,Zb hu,J4,run_sizeOf hs]
 rw [if_neg (by omega)]
 by_cases hz0:len*size=0
 ·have e0:z0= #[]:=if_pos hz0
  simp only [c0,e0] at f1
  simp_all
 ·have e0:z0=z.cells:=if_neg hz0
  simp only [hz0,if_false,J6,hz,Jf,J4]
  simp only [c0,e0] at f1
  rw [f1]
  simp
theorem Z2G {P:Program} {h:Z6} {t:TypeId} {len:Nat} {K:AV->Z6->Prop} (hl:XW P h t len parts K):
  ∃v h',K v h'/\∀(E:Env) (w:World) (rparts:List (Nat×Value)),Emb E h w->Z56 E parts rparts->∃r w' E',(Instr.buildSlice t len rparts.toArray).run P w=.ok r w'/\Evo E h w E' h' w'/\Zc E' v r:=by
 unfold XW at hl
 split at hl
 ·rename_i e hu
  split at hl
  ·rename_i size vs hs hrow
   split at hl
   ·rename_i zc hb1 hb2 hz
    have hlen:vs.length=len:=J0 hb1
    have hle:=V9 hb2
    obtain ⟨z,hz1,_⟩:=WB hz
    split at hl
    ·refine ⟨_,_,hl,fun E w rparts he hp=> ?_⟩
     obtain ⟨rs,hr1,rfl⟩:=Wx _ _ _ _ hrow hp
     cases hr1
     subst hlen
     obtain ⟨cells,c1,c2,c3⟩:=run_buildSlice hu hs hle hz1 [] rfl (by simp)
     refine ⟨.slice (some ⟨w.heap.size,0,none⟩) 0 0,{ w with heap:=w.heap.push (.cells cells e (0,0))},E,by rw [c3];simp [newRow],Z2C he _,.eslice _⟩
    ·split at hl
     ·rename_i k hue hb
      have hsz:size=1:=J0 hb
      subst hsz
      split at hl
      ·rename_i xs hx
       refine ⟨_,_,hl,fun E w rparts he hp=> ?_⟩
       obtain ⟨rs,hr1,rfl⟩:=Wx _ _ _ _ hrow hp
       obtain ⟨i0,i1,i2⟩:=QB _ _ _ hx hr1
       have hrl:rs.length=len:=by rw [hr1.length,hlen]
       obtain ⟨cells,c1,c2,c3⟩:=run_buildSlice hu hs hle hz1 rs hrl i1
       obtain ⟨w',E',n1,n2,n3⟩:=Qz (P:=P) he e cells (.ints k xs) (fun E' w' le hb hw=>.ints k xs w.heap.size cells e (0,0) hb hw (WC _) (fun j hj=>c2 _ _ (i2 j hj)))
       refine ⟨.slice (some ⟨w.heap.size,0,none⟩) len len,w',E',by rw [c3,n1];rfl,n2, ?_⟩
       exact .nslice ⟨h.next,0,0,0,0⟩ 1 len len w.heap.size cells.size len n3 (J1 _) (J1 _) (by simp [ZI.tot,c1])
      simp_all
     ·simp_all
     ·split at hl
      ·rename_i cs hcat
       refine ⟨_,_,hl,fun E w rparts he hp=> ?_⟩
       obtain ⟨rs,hr1,rfl⟩:=Wx _ _ _ _ hrow hp
       obtain ⟨i1,i2⟩:=Z2F _ _ _ hcat hr1
       have hrl:rs.length=len:=by rw [hr1.length,hlen]
       obtain ⟨cells,c1,c2,c3⟩:=run_buildSlice hu hs hle hz1 rs hrl i2
       obtain ⟨w',E',n1,n2,n3⟩:=Qz (P:=P) he e cells (.flat cs) (fun E' w' le hb hw=>.flat cs w.heap.size cells e (0,0) _ hb hw (WC _) (i1.mono le) c2)
       refine ⟨.slice (some ⟨w.heap.size,0,none⟩) len len,w',E',by rw [c3,n1];rfl,n2, ?_⟩
       exact .nslice ⟨h.next,0,0,0,0⟩ size len len w.heap.size cells.size len n3 (J1 _) (J1 _) (by simp [ZI.tot,c1])
      simp_all
   simp_all
  simp_all
 simp_all
def ZgA (P:Program) (h:Z6) (T:TypeId) (x:AV) (K:AV->Prop):Prop:=
 match P.underlying T with
 | some (.slice _)=>match x with
  | .nslice _ _ len _=>K (.int .i64 len)
  | .vints _ _ len=>K (.int .i64 len)
  | .vrows _ _ _ len=>K (.int .i64 len)
  | .eslice=>K (.int .i64 0)
  | .fslice=>K (.int .i64 0)
  | .nilslice=>K (.int .i64 0)
  | _=>False
 | some .string=>match x with
  | .str s=>K (.int .i64 s.size)
  | _=>False
 | some (.array n _)=>K (.int .i64 n)
 | some (.pointer arr)=>match P.underlying arr with
  | some (.array n _)=>K (.int .i64 n)
  | _=>False
 | some (.map _ _)=>match x with
  | .map none=>K (.int .i64 0)
  | .map (some y)=>match h.get y with
   | some (.map es)=>K (.int .i64 es.length)
   | some (.fmap n _ _)=>K (.int .i64 n)
   | _=>False
  | _=>False
 | _=>False
theorem Ze0 {P:Program} {h:Z6} {T:TypeId} {x:AV} (hl:ZgA P h T x K):
  ∃v,K v/\∀(E:Env) (w:World) (r:Value),Emb E h w->Zc E x r->∃r',(Builtin.len_ #[T] ty #[r]).run P w=.ok r' w/\Zc E v r':=by
 unfold ZgA at hl
 split at hl
 ·rename_i e hu
  split at hl
  ·refine ⟨_,hl,fun E w r he hx=> ?_⟩
   cases hx with
   | nslice0 p esz len lo a h1 h2=>subst h1;exact ⟨_,by simp [Builtin.len_,Zb hu,goInt],.int _ _⟩
   | nslice p esz len lo b N cap hb h1 h2 h3=>exact ⟨_,by simp [Builtin.len_,Zb hu,goInt],.int _ _⟩
  ·refine ⟨_,hl,fun E w r he hx=> ?_⟩
   cases hx with
   | vintsNil k xs len h1 h2=>subst h2;exact ⟨_,by simp [Builtin.len_,Zb hu,goInt],.int _ _⟩
   | vints k xs len a cap h1 h2 hi=>exact ⟨_,by simp [Builtin.len_,Zb hu,goInt],.int _ _⟩
  ·refine ⟨_,hl,fun E w r he hx=> ?_⟩
   cases hx with
   | vrowsNil esz n f len h1 h2=>subst h2;exact ⟨_,by simp [Builtin.len_,Zb hu,goInt],.int _ _⟩
   | vrows esz n f len a cap g h1 h2 hc hl hi=>exact ⟨_,by simp [Builtin.len_,Zb hu,goInt],.int _ _⟩
  ·refine ⟨_,hl,fun E w r he hx=> ?_⟩
   cases hx
   exact ⟨_,by simp [Builtin.len_,Zb hu,goInt],.int _ _⟩
  ·refine ⟨_,hl,fun E w r he hx=> ?_⟩
   cases hx
   exact ⟨_,by simp [Builtin.len_,Zb hu,goInt],.int _ _⟩
  ·refine ⟨_,hl,fun E w r he hx=> ?_⟩
   cases hx
   exact ⟨_,by simp [Builtin.len_,Zb hu,goInt],.int _ _⟩
  simp_all
 ·rename_i hu
  split at hl
  ·refine ⟨_,hl,fun E w r he hx=> ?_⟩
   cases hx
   exact ⟨_,by simp [Builtin.len_,Zb hu,goInt],.int _ _⟩
  simp_all
 ·rename_i n e hu
  refine ⟨_,hl,fun E w r he hx=>⟨_,by simp [Builtin.len_,Zb hu,goInt],.int _ _⟩⟩
 ·rename_i arr hu
  split at hl
  ·rename_i n e hu2
   refine ⟨_,hl,fun E w r he hx=>⟨_,by simp_all [Builtin.len_,Zb,goInt],.int _ _⟩⟩
  simp_all
 ·rename_i k e hu
  split at hl
  ·refine ⟨_,hl,fun E w r he hx=> ?_⟩
   cases hx
   exact ⟨_,by simp [Builtin.len_,Zb hu,goInt],.int _ _⟩
  ·rename_i y
   split at hl
   ·rename_i es hg
    refine ⟨_,hl,fun E w r he hx=> ?_⟩
    cases hx with
    | map x b N hb=>
     have hB:=he.own _ _ hg
     cases hB with
     | map es b' ents clock hb' hw hk hv hbn=>
      have hlen:=hk.length
      refine ⟨.int .i64 es.length, ?_,.int _ _⟩
      simp_all [Builtin.len_,Zb,goInt,getObj,Sem.run]
   ·rename_i n kf vf hg
    refine ⟨_,hl,fun E w r he hx=> ?_⟩
    cases hx with
    | map x b N hb=>
     have hB:=he.own _ _ hg
     cases hB with
     | fmap n kf vf b' ents clock hb' hw hlen hk hv hbn=>
      refine ⟨.int .i64 n, ?_,.int _ _⟩
      simp_all [Builtin.len_,Zb,goInt,getObj,Sem.run]
   simp_all
  simp_all
 simp_all
def Y2 (n:Nat) (xs:LI):LI:=match n with|0=>xs|n+1=>xs.drop (n+1)
theorem ZU (n:Nat) (xs:LI):Y2 n xs=xs.drop n:=by cases n<;>rfl
def Qm (h:Z6) (k:IntKind) (x:AV) (K:LI->Prop):Prop:=
 match x with
 | .nilslice=>K []
 | .eslice=>K []
 | .fslice=>K []
 | .vints k' xs len=>Z4 (k'=k) (K (xs.take len))
 | .nslice p esz len _=>match Nat.beq esz 1,h.get p.blk with
  | true,some (.ints k' xs)=>Z4 (k'=k/\p.tot+len<=xs.length) (K ((Y2 p.tot xs).take len))
  | true,some (.flat cs)=>match p.row,Ym p.off cs with
   | 0,some (.arr k' n xs::_)=>match Nat.beq p.inn 0&&Nat.beq len n with
    | true=>Z4 (k'=k/\xs.length=n) (K xs)
    | false=>Z4 (k'=k/\xs.length=n/\p.inn+len<=n) (K ((Y2 p.inn xs).take len))
   | _,_=>False
  | _,_=>False
 | _=>False
def Reads (w:World) (esz:Nat) (r:Value) (m:Nat) (vs:List Value):Prop:=
 ∃a c,r=.slice a m c/\vs.length=m*esz/\∀j v,vs[j]? =some v->∃ad,a=some ad/\w.cell? (ad.add j)=some v
theorem XX {h:Z6} {k:IntKind} {x:AV} {K:LI->Prop} (hl:Qm h k x K):
  ∃ys,K ys/\∀(E:Env) (w:World) (r:Value),Emb E h w->Zc E x r->Reads w 1 r ys.length (intCells k ys.length ys):=by
 unfold Qm at hl
 have key:∀(w:World) (ys:LI) (a:Addr) (c:Nat),(∀i,i<ys.length->w.cell? (a.add i)=some (.int k (ys.getD i 0)))->Reads w 1 (.slice (some a) ys.length c) ys.length (intCells k ys.length ys):=fun w ys a c hc=>
  ⟨some a,c,rfl,by rw [Z9,JT],fun j v hj=>⟨a,rfl,by
   grind [Zj,X6]⟩⟩
 have hnil:∀(w:World) (a:Option Addr),Reads w 1 (.slice a 0 0) ([]:LI).length (intCells k ([]:LI).length []):=fun w a=>⟨a,0,rfl,rfl,fun j v hj=>by simp [intCells] at hj⟩
 split at hl
 ·exact ⟨[],hl,fun E w r he hx=>by cases hx;simp_all⟩
 ·exact ⟨[],hl,fun E w r he hx=>by cases hx;simp_all⟩
 ·exact ⟨[],hl,fun E w r he hx=>by cases hx with|fslice a cap=>grind⟩
 ·rename_i k' xs len
  obtain ⟨rfl,hk⟩:=Zd hl
  refine ⟨_,hk,fun E w r he hx=> ?_⟩
  cases hx with
  | vintsNil _ _ _ h1 h2=>simp_all
  | vints _ _ _ a cap h1 h2 hi=>
   have hlen:(xs.take len).length=len:=by rw [Jc];omega
   have:=key w (xs.take len) a cap (fun i hi'=>by
    rw [hlen] at hi'
    have e:(xs.take len).getD i 0=xs.getD i 0:=by grind
    rw [e]
    exact he.imm _ _ (hi i (by omega)))
   rw [hlen] at this⊢
   exact this
 ·rename_i p esz len lo
  split at hl
  ·rename_i k' xs hb hg
   have hes:esz=1:=J0 hb
   subst hes
   obtain ⟨⟨rfl,hle⟩,hk⟩:=Zd hl
   refine ⟨_,hk,fun E w r he hx=> ?_⟩
   rw [ZU]
   have hlen:((xs.drop p.tot).take len).length=len:=by rw [Jc,J9];omega
   cases hx with
   | nslice0 _ _ _ _ a h1 h2=>simp_all
   | nslice _ _ _ _ b N cap hb' h1 h2 h3=>
    have hown:=he.own _ _ hg
    cases hown with
    | ints0 _ _ h0 hn=>rw [hn] at hb';cases hb'
    | ints _ _ b' cells elem fr hbb hw hf hv=>
     rw [hbb] at hb'
     cases hb'
     have:=key w ((xs.drop p.tot).take len) ⟨b,p.tot,none⟩ cap (fun i hi'=>by
      rw [hlen] at hi'
      rw [YU,cell_of_heap hw,Z2r _ _ _ _ hi']
      grind)
     rw [hlen] at this⊢
     exact this
  ·rename_i cs hb hg
   have hes:esz=1:=J0 hb
   split at hl
   ·rename_i k' n xs rest hrow hd
    have core:∀(ys:LI),k'=k->xs.length=n->ys=(xs.drop p.inn).take len->p.inn+len<=n->∀(E:Env) (w:World) (r:Value),Emb E h w->Zc E (.nslice p 1 len lo) r->Reads w 1 r ys.length (intCells k ys.length ys):=fun ys hkk hn hys hle E w r he hx=>by
     subst hkk
     have hlen:ys.length=len:=by rw [hys,Jc,J9];omega
     cases hx with
     | nslice0 _ _ _ _ a h1 h2=>
      simp_all
     | nslice _ _ _ _ b N cap hb' h1 h2 h3=>
      have hown:=he.own _ _ hg
      cases hown with
      | flat0 _ h0 hnn=>rw [hnn] at hb';cases hb'
      | flat _ b' cells elem fr vs hbb hw hf hc hv=>
       rw [hbb] at hb'
       cases hb'
       have hdr:=ZN _ _ _ _ hd hc
       obtain ⟨ws,hws,_⟩:=hdr.1.cons_arr
       have:=key w ys ⟨b,p.tot,none⟩ cap (fun i hi'=>by
        rw [YU,cell_of_heap hw]
        have e:ys.getD i 0=xs.getD (p.inn+i) 0:=by grind
        rw [e]
        apply hv
        have e2:p.tot+i=p.off+(p.inn+i):=by simp [ZI.tot,hrow];omega
        rw [e2,<-List.getElem?_drop,hws,Jb (by rw [Z9];omega)]
        exact Zj (by omega))
       rw [hlen] at this⊢
       exact this
    split at hl
    ·grind [Zd,J0]
    grind [Zd,ZU]
   simp_all
  simp_all
 simp_all
def XD (cs:List AV) (off esz i:Nat):List AV:=
 match Ym (off+i*esz) cs with
 | some r=>match takeC esz r with|some c=>c|none=>[]
 | none=>[]
def Z8K (cs:List AV) (off esz i:Nat):Bool:=
 match Ym (off+i*esz) cs with
 | some r=>match takeC esz r with|some _=>true|none=>false
 | none=>false
def QC (cs:List AV) (off esz:Nat):Nat->Bool
 | 0=>true
 | n+1=>Z8K cs off esz n&&QC cs off esz n
theorem YG {cs:List AV} {off esz:Nat}:∀{n:Nat},QC cs off esz n=true->∀i,i<n->Z8K cs off esz i=true
 | 0,_,i,hi=>by omega
 | n+1,h,i,hi=>by
  simp only [QC,J2] at h
  by_cases hin:i=n
  ·subst hin;exact h.1
  ·exact YG h.2 i (by omega)
theorem Xh {off i:Nat} (h:Z8K cs off esz i=true) (hc:Zm E cs vs):
  Zm E (XD cs off esz i) ((vs.drop (off+i*esz)).take esz)/\((vs.drop (off+i*esz)).take esz).length=esz:=by
 unfold Z8K at h
 unfold XD
 cases hd:Ym (off+i*esz) cs with
 | none=>rw [hd] at h;cases h
 | some r=>
  rw [hd] at h
  simp only at h⊢
  cases ht:takeC esz r with
  | none=>rw [ht] at h;cases h
  | some c=>
   have h1:=ZN _ _ _ _ hd hc
   have h2:=Vh _ _ _ _ ht h1.1
   simp_all
def Yk (n:Nat) (f:Nat->List AV):Nat->List AV:=match n with|0=>f|n+1=>fun i=>f (n+1+i)
theorem Wy (n:Nat) (f:Nat->List AV) (i:Nat):Yk n f i=f (n+i):=by cases n<;>simp [Yk]
def Z8L (h:Z6) (esz:Nat) (x:AV) (K:Nat->(Nat->List AV)->Prop):Prop:=
 match x with
 | .nilslice=>K 0 fun _=>[]
 | .eslice=>K 0 fun _=>[]
 | .fslice=>K 0 fun _=>[]
 | .vrows esz' _ f len=>match Nat.beq esz' esz with
  | true=>K len f
  | false=>False
 | .nslice p esz' len _=>match Nat.beq esz' esz,h.get p.blk,p.inn with
  | true,some (.rows sz n f),0=>match Nat.beq sz esz&&Nat.beq p.off 0&&(Nat.beq p.sz esz||Nat.beq p.row 0) with
   | true=>Z4 (p.row+len<=n) (K len (Yk p.row f))
   | false=>False
  | true,some (.flat cs),0=>match p.row,QC cs p.off esz len with
   | 0,true=>K len (XD cs p.off esz)
   | _,_=>False
  | _,_,_=>False
 | _=>False
def Z57 (E:Env) (w:World) (esz:Nat) (r:Value) (n:Nat) (f:Nat->List AV):Prop:=
 ∃a c,∃g:Nat->List Value,r=.slice a n c/\(∀i,i<n->Zm E (f i) (g i))/\(∀i,i<n->(g i).length=esz)/\∀i j v,i<n->(g i)[j]? =some v->∃ad,a=some ad/\w.cell? (ad.add (i*esz+j))=some v
theorem Zbf {h:Z6} {x:AV} {K:Nat->(Nat->List AV)->Prop} (hl:Z8L h esz x K):
  ∃n f,K n f/\∀(E:Env) (w:World) (r:Value),Emb E h w->Zc E x r->Z57 E w esz r n f:=by
 unfold Z8L at hl
 have hnil:∀(E:Env) (w:World) (a:Option Addr) (f:Nat->List AV),Z57 E w esz (.slice a 0 0) 0 f:=fun E w a f=>⟨a,0,fun _=>[],rfl,fun i hi=>by omega,fun i hi=>by omega,fun i j v hi=>by omega⟩
 split at hl
 ·exact ⟨0,_,hl,fun E w r he hx=>by cases hx;simp_all⟩
 ·exact ⟨0,_,hl,fun E w r he hx=>by cases hx;simp_all⟩
 ·exact ⟨0,_,hl,fun E w r he hx=>by cases hx with|fslice a cap=>exact ⟨some a,cap,fun _=>[],rfl,fun i hi=>by omega,fun i hi=>by omega,fun i j v hi=>by omega⟩⟩
 ·rename_i esz' n f len
  split at hl
  ·rename_i hb
   have hes:esz'=esz:=J0 hb
   subst hes
   refine ⟨len,f,hl,fun E w r he hx=> ?_⟩
   cases hx with
   | vrowsNil _ _ _ _ h1 h2=>simp_all
   | vrows _ _ _ _ a cap g h1 h2 hc hlg hi=>
    exact ⟨some a,cap,g,rfl,fun i hi'=>(hc i (by omega)).mono E.views_le,fun i hi'=>hlg i (by omega),fun i j v hi' hv=>⟨a,rfl,he.imm _ _ (hi i j v (by omega) hv)⟩⟩
  simp_all
 ·rename_i p esz' len lo
  split at hl
  ·rename_i sz n f hb hg hinn
   have hes:esz'=esz:=J0 hb
   subst hes
   split at hl
   ·rename_i hbb
    simp only [J2] at hbb
    have hsz:sz=esz':=J0 hbb.1.1
    have htot:p.tot=p.row*esz':=by
     grind [J0,ZI.tot]
    subst hsz
    obtain ⟨hle,hk⟩:=Zd hl
    refine ⟨len,_,hk,fun E w r he hx=> ?_⟩
    cases hx with
    | nslice0 _ _ _ _ a h1 h2=>simp_all
    | nslice _ _ _ _ b N cap hb' h1 h2 h3=>
     have hown:=he.own _ _ hg
     cases hown with
     | rows0 _ _ _ h0 hn=>rw [hn] at hb';cases hb'
     | rows _ _ _ b' cells elem fr g hbb' hw hf hc hlg hv=>
      rw [hbb'] at hb'
      cases hb'
      refine ⟨_,cap,fun i=>g (p.row+i),rfl,fun i hi'=> ?_,fun i hi'=>hlg _ (by omega),fun i j v hi' hgv=>⟨_,rfl, ?_⟩⟩
      ·rw [Wy];grind
      ·rw [YU,cell_of_heap hw,htot]
       grind
   simp_all
  ·rename_i cs hb hg hinn
   have hes:esz'=esz:=J0 hb
   subst hes
   split at hl
   ·rename_i hrow hok
    refine ⟨len,_,hl,fun E w r he hx=> ?_⟩
    cases hx with
    | nslice0 _ _ _ _ a h1 h2=>simp_all
    | nslice _ _ _ _ b N cap hb' h1 h2 h3=>
     have hown:=he.own _ _ hg
     cases hown with
     | flat0 _ h0 hn=>rw [hn] at hb';cases hb'
     | flat _ b' cells elem fr vs hbb hw hf hc hv=>
      rw [hbb] at hb'
      cases hb'
      refine ⟨_,cap,fun i=>(vs.drop (p.off+i*esz')).take esz',rfl,fun i hi'=>(Xh (YG hok i hi') hc).1,fun i hi'=>(Xh (YG hok i hi') hc).2,fun i j v hi' hgv=>⟨_,rfl, ?_⟩⟩
      rw [YU,cell_of_heap hw]
      apply hv
      have hj:j<esz':=by
       grind
      rw [Kj,if_pos hj,JF] at hgv
      rw [<-hgv]
      congr 1
      simp [ZI.tot,hrow];omega
   simp_all
  simp_all
 simp_all
theorem Z7k {h:Z6} {w:World} (e:Emb E h w) (x:Nat) (B B':Blk) (b N:Nat) (hx:h.get x=some B) (hb:E.blk x=some (b,N))
  (hB:ZV (E.ext h.next b N) w h.next B'):Evo E h w (E.ext h.next b N) ((h.del x).add B') w:=by
 have hfr:E.blk h.next=none:=e.fresh _ (J1 _)
 have hle:E.le (E.ext h.next b N):=Env.ext_le hfr
 have hget:∀y C,((h.del x).add B').get y=some C->(y=h.next/\C=B')\/(y≠h.next/\y≠x/\h.get y=some C):=fun y C hy=>by
  by_cases hn:h.next=y
  ·have:((h.del x).add B').get h.next=some B':=Z6.get_add_same (h.del x) B'
   simp_all
  ·have:((h.del x).add B').get y=(h.del x).get y:=Z6.get_add_other (h.del x) y B' hn
   grind [Z6.get_del_same,Z6.get_del_other]
 refine ⟨hle,⟨?_, ?_, ?_, ?_,e.imm, ?_⟩,J1 _,rfl,rfl,⟨rfl,J1 _⟩,fun _ _ _=>rfl, ?_,fun _ _ h=>h⟩
 ·intro y hy
  have hy':h.next+1<=y:=hy
  rw [Env.ext_other _ _ _ (by omega)]
  exact e.fresh y (by omega)
 ·intro y C hy
  show y<h.next+1
  rcases hget y C hy with ⟨rfl,_⟩|⟨_,_,h'⟩
  ·omega
  ·have:=e.lt y C h';omega
 ·intro y C hy
  rcases hget y C hy with ⟨rfl,rfl⟩|⟨hne,_,h'⟩
  ·exact hB
  ·exact (e.own y C h').mono hle (fun hn=>by rw [Env.ext_other _ _ _ hne];exact hn)
 ·intro y z C1 C2 b' M M' hy hz hby hbz
  rcases hget y C1 hy with ⟨rfl,_⟩|⟨hny,hnx,hy'⟩<;>rcases hget z C2 hz with ⟨rfl,_⟩|⟨hnz,hnx',hz'⟩
  ·rfl
  ·rw [Env.ext_same] at hby;cases hby
   rw [Env.ext_other _ _ _ hnz] at hbz
   exact absurd (e.disj z x C2 B b M' N hz' hx hbz hb) hnx'
  ·rw [Env.ext_same] at hbz;cases hbz
   rw [Env.ext_other _ _ _ hny] at hby
   exact absurd (e.disj y x C1 B b M N hy' hx hby hb) hnx
  ·rw [Env.ext_other _ _ _ hny] at hby;rw [Env.ext_other _ _ _ hnz] at hbz
   exact e.disj y z C1 C2 b' M M' hy' hz' hby hbz
 ·intro ad c y C M hi hy hby
  rcases hget y C hy with ⟨rfl,_⟩|⟨hne,_,hy'⟩
  ·rw [Env.ext_same] at hby
   have:b=ad.block:=by simp_all
   exact e.sep ad c x B N hi hx (by rw [hb,this])
  ·rw [Env.ext_other _ _ _ hne] at hby
   exact e.sep ad c y C M hi hy' hby
 ·rintro b' ⟨y,C,M,hy,hby⟩
  rcases hget y C hy with ⟨rfl,_⟩|⟨hne,_,hy'⟩
  ·rw [Env.ext_same] at hby;cases hby
   exact .inl ⟨x,B,N,hx,hb⟩
  ·rw [Env.ext_other _ _ _ hne] at hby
   exact .inl ⟨y,C,M,hy',hby⟩
structure Z7l (P:Program) (e:TypeId) (i:TypeInfo) (w:World) (base:Option Addr) (sLen sCap m:Nat) (olds news:List Value) (run:Result Value):Prop where
 nought:sLen+m<=sCap->news=[]->run=.ok (.slice base (sLen+m) sCap) w
 fits:sLen+m<=sCap->∀b,base=some ⟨b,0,none⟩->(∀j,j<news.length->(w.cell? ⟨b,sLen*i.size+j,none⟩).isSome=true)->(∀j,j<news.length->w.frozen? ⟨b,sLen*i.size+j,none⟩=false)->
  run=.ok (.slice base (sLen+m) sCap) (w.setCells b (sLen*i.size) news)
 grow:sCap<sLen+m->∃cap:Nat,∃cells:Array Value,sLen+m<=cap/\cells.size=cap*i.size/\(∀(j:Nat) v,(olds++news)[j]? =some v->cells[j]? =some v)/\
  run=.ok (.slice (some ⟨w.heap.size,0,none⟩) (sLen+m) cap) { w with drawn:=w.drawn+1,heap:=w.heap.push (.cells cells e (0,0))}
theorem Yq {P:Program} {w:World} {m:Nat} (h:Reads w esz r m vs) (hw:w'.heap=w.heap):(Builtin.firstCells esz m r).run P w'=.ok vs.toArray w':=by
 obtain ⟨a,c,rfl,hl,hc⟩:=h
 cases a with
 | none=>
  have:vs=[]:=by
   cases vs with
   | nil=>rfl
   | cons v r=>obtain ⟨ad,h1,_⟩:=hc 0 v rfl;cases h1
  subst this
  rw [run_firstCells_none]
 | some ad=>
  grind [run_firstCells_some,World.cell?]
theorem Z09 {P:Program} {t e:TypeId} {i:TypeInfo} (ht:P.underlying t=some (.slice e)) (hi:P.info? e=some i) (hz:i.zero=some z) (hzs:z.cells.size=i.size)
  {w:World} {base:Option Addr} {m:Nat} (ho:Reads w i.size (.slice base sLen sCap) sLen olds) (hn:Reads w i.size rx m news) (h1:∀u∈news,u.oneCell'=true)
  (h63:sLen+m<=maxLen) (hbytes:(sLen+m)*i.bytes<=140737488355328):
  Z7l P e i w base sLen sCap m olds news ((Builtin.append_ #[t,t] ty #[.slice base sLen sCap,rx]).run P w):=by
 have hsmall:sLen+m<=9223372036854775807:=by simp only [maxLen] at h63;omega
 obtain ⟨a,c,rfl,hl,hc⟩:=hn
 have hn:Reads w i.size (.slice a m c) m news:=⟨a,c,rfl,hl,hc⟩
 have hf:=Yq (P:=P) hn (w':=w) rfl
 refine ⟨fun hroom hne=> ?_,fun hroom b hb hcl hfr=> ?_,fun hg=> ?_⟩
 ·subst hne
  cases base with
  | none=>simp [Builtin.append_,run_underlying ht,sizeOf,typeInfo,hi,Builtin.lenOf,hroom,hf]
  | some ad=>simp [Builtin.append_,run_underlying ht,sizeOf,typeInfo,hi,Builtin.lenOf,hroom,hf,storeCells]
 ·subst hb
  have hst:=run_storeCells_cells (P:=P) b (sLen*i.size) news 0 w (by omega) (by omega) h1
  simp only [Ki] at hst
  have hadd:(⟨b,0,none⟩:Addr).add (sLen*i.size)=⟨b,sLen*i.size,none⟩:=by rw [YU];simp
  simp [Builtin.append_,run_underlying ht,sizeOf,typeInfo,hi,Builtin.lenOf,hroom,hf,hadd,hst]
 ·have hnle:¬(sLen+m<=sCap):=by omega
  have h63':¬(9223372036854775807<((sLen:Int)+(m:Int))):=by omega
  have h48':¬(281474976710656<Builtin.nextslicecap (sLen+m) sCap*i.bytes):=by
   have:=growslice_fits (bytes:=i.bytes) hg hbytes
   omega
  have hf':=Yq (P:=P) hn (w':=w.drew) rfl
  have hfo:=Yq (P:=P) ho (w':=w.drew) rfl
  obtain ⟨_,_,_,hlo,_⟩:=ho
  refine ⟨grownCap w (sLen+m) sCap e,olds.toArray++news.toArray++Builtin.zeroCells z.cells (grownCap w (sLen+m) sCap e-(sLen+m)),grownCap_ge w _ _ _, ?_,fun j v hj=> ?_, ?_⟩
  ·have:=grownCap_ge w (sLen+m) sCap e
   simp only [Array.size_append,List.size_toArray,size_zeroCells,hzs,hlo,hl,<-Nat.add_mul]
   simp_all
  ·grind
  ·simp [Builtin.append_,run_underlying ht,sizeOf,typeInfo,zeroValue,hi,hz,Builtin.lenOf,hnle,h63',h48',Question.forced,hf',hfo,newRow,grownCap]
   show World.alloc _ _=World.alloc w.drew _
   grind
inductive Onto (E:Env) (h:Z6) (w:World) (esz:Nat) (base:Option Addr) (sLen sCap:Nat) (olds:List Value) (h':Z6):Prop
 | nought (h1:sLen=0) (h2:sCap=0) (h3:olds=[]) (h4:h'=h\/∃x,h'=h.del x):Onto E h w esz base sLen sCap olds h'
 |own (x b N:Nat) (B:Blk) (cells:Array Value) (elem:TypeId) (fr:Nat×Nat) (hx:h.get x=some B) (hb:E.blk x=some (b,N)) (hw:w.heap[b]? =some (.cells cells elem fr)) (hN:cells.size=N) (hf:free cells fr)
   (hbase:base=some ⟨b,0,none⟩) (hc:sLen<=sCap) (hN2:sCap*esz<=N) (hlo:olds.length=sLen*esz) (ho:∀(j:Nat) v,olds[j]? =some v->cells[j]? =some v) (h4:h'=h.del x):Onto E h w esz base sLen sCap olds h'
theorem Onto.reads {h:Z6} {w:World} {base:Option Addr} (o:Onto E h w esz base sLen sCap olds h'):Reads w esz (.slice base sLen sCap) sLen olds:=by
 cases o with
 | nought h1 h2 h3 h4=>subst h1;subst h2;subst h3;exact ⟨base,0,rfl,by simp,fun j v hj=>by simp at hj⟩
 |own x b N B cells elem fr hx hb hw hN hf hbase hc hN2 hlo ho h4=>
  subst hbase
  refine ⟨_,_,rfl,hlo,fun j v hj=>⟨_,rfl, ?_⟩⟩
  rw [YU,cell_of_heap hw,Jq]
  simp_all
theorem Onto.next {h:Z6} {w:World} {base:Option Addr} (o:Onto E h w esz base sLen sCap olds h'):h'.next=h.next:=by
 cases o with
 | nought h1 h2 h3 h4=>rcases h4 with rfl|⟨x,rfl⟩<;>rfl
 | own x b N B cells elem fr hx hb hw hN hf hbase hc hN2 hlo ho h4=>subst h4;rfl
theorem Uh {P:Program} {e:TypeId} {i:TypeInfo} {h:Z6} {w:World} (he:Emb E h w) {base:Option Addr} {m:Nat} {run:Result Value}
  (ar:Z7l P e i w base sLen sCap m olds news run) (on:Onto E h w i.size base sLen sCap olds h') (hm:news.length=m*i.size) {B':Blk}
  (hB0:sLen+m=0->∀E' w',E.le E'->E'.blk h.next=none->ZV E' w' h.next B')
  (hB:∀E' w' b cells elem fr,E.le E'->E'.blk h.next=some (b,cells.size)->w'.heap[b]? =some (.cells cells elem fr)->free cells fr->(∀(j:Nat) v,(olds++news)[j]? =some v->cells[j]? =some v)->ZV E' w' h.next B'):
  ∃r w' E',run=.ok r w'/\Evo E h w E' (h'.add B') w'/\Zc E' (.nslice ⟨h.next,0,0,0,0⟩ i.size (sLen+m) (sLen+m)) r:=by
 have hless:Evo E h w E h' w:=by
  cases on with
  | nought h1 h2 h3 h4=>
   rcases h4 with rfl|⟨x,rfl⟩
   ·exact .refl he
   ·exact Z21 he x
  | own x b N B cells elem fr hx hb hw hN hf hbase hc hN2 hlo ho h4=>subst h4;exact Z21 he x
 have hnx:=on.next
 by_cases hroom:sLen+m<=sCap
 ·cases on with
  | nought h1 h2 h3 h4=>
   subst h1;subst h2;subst h3
   have hm0:m=0:=by omega
   subst hm0
   have hn0:news=[]:=Jm (by omega)
   subst hn0
   refine ⟨_,w,E,ar.nought hroom rfl,hless.trans ?_,.nslice0 _ _ _ _ _ rfl rfl⟩
   have e1:=hless.emb
   have hfr:E.blk h.next=none:=he.fresh _ (J1 _)
   have hget:∀y C,(h'.add B').get y=some C->(y=h.next/\C=B')\/(y≠h.next/\h'.get y=some C):=fun y C hy=>by
    grind [Z6.get_add_same,Z6.get_add_other]
   refine ⟨.refl E,⟨fun x hx=>e1.fresh x (by have:h'.next+1<=x:=hx;omega),fun y C hy=> ?_,fun y C hy=> ?_,fun y z C D b' M M' hy hz hby hbz=> ?_,e1.imm,fun ad c y C M hi hy hby=> ?_⟩,J1 _,rfl,rfl,⟨rfl,J1 _⟩,fun _ _ _=>rfl, ?_,fun _ _ h=>h⟩
   ·show y<h'.next+1
    rcases hget y C hy with ⟨rfl,_⟩|⟨_,h2⟩
    ·omega
    ·have:=e1.lt y C h2;omega
   ·rcases hget y C hy with ⟨rfl,rfl⟩|⟨_,h2⟩
    ·exact hB0 rfl E w (.refl E) hfr
    ·exact e1.own y C h2
   ·rcases hget y C hy with ⟨rfl,_⟩|⟨_,h2⟩
    ·rw [hfr] at hby;cases hby
    ·rcases hget z D hz with ⟨rfl,_⟩|⟨_,h3⟩
     ·rw [hfr] at hbz;cases hbz
     ·exact e1.disj y z C D b' M M' h2 h3 hby hbz
   ·rcases hget y C hy with ⟨rfl,_⟩|⟨_,h2⟩
    ·rw [hfr] at hby;cases hby
    ·exact e1.sep ad c y C M hi h2 hby
   ·rintro b' ⟨y,C,M,hy,hby⟩
    rcases hget y C hy with ⟨rfl,_⟩|⟨_,h2⟩
    ·rw [hfr] at hby;cases hby
    ·exact .inl ⟨y,C,M,h2,hby⟩
  |own x b N B cells elem fr hx hb hw hN hf hbase hc hN2 hlo ho h4=>
   subst hbase;subst h4
   have hfit:sLen*i.size+news.length<=cells.size:=by
    rw [hm,<-Nat.add_mul,hN]
    exact Ka (JN _ hroom) hN2
   have hrun:=ar.fits hroom b rfl (fun j hj=>by rw [cell_of_heap hw];simp;omega) (fun j hj=>by
    have:=hf (sLen*i.size+j) (by omega)
    simp [World.frozen?,hw];omega)
   obtain ⟨a1,a2,a3,a4,a5,a6⟩:=Yx news (sLen*i.size) w b cells elem fr hw
   have hwsz:=Y1 news (sLen*i.size) cells
   have hcont:∀(j:Nat) v,(olds++news)[j]? =some v->(YF cells (sLen*i.size) news)[j]? =some v:=fun j v hj=>by
    rcases Jo j olds.length with hlt|hge
    ·rw [Jb hlt] at hj
     rw [Yw _ _ _ _ (by omega)]
     simp_all
    ·rw [Js hge] at hj
     have hjl:j-olds.length<news.length:=by
      grind
     have:=YX news (sLen*i.size) cells (j-olds.length) hfit hjl
     rw [show sLen*i.size+(j-olds.length)=j from by omega] at this
     rw [this];exact hj
   have hfree:free (YF cells (sLen*i.size) news) fr:=fun o ho'=>hf o (by rw [hwsz] at ho';exact ho')
   -- the write, under the old name, known as nothing; then the new name
   have hev1:Evo E h w E (h.set x (.flat [])) (w.setCells b (sLen*i.size) news):=
    Yg he x B (.flat []) b N hx hb a2 a3 a4 a5 a6 (.flat [] b _ elem fr [] (by rw [hb,hwsz,hN]) a1 hfree .nil (fun j c hj=>by simp at hj))
   have hle:E.le (E.ext h.next b N):=Env.ext_le (he.fresh _ (J1 _))
   have hev2:=Z7k hev1.emb x (.flat []) B' b N (Z6.get_set_same _ _ _) hb (hB _ _ b _ elem fr hle (by rw [hwsz,hN];exact Env.ext_same ..) a1 hfree hcont)
   refine ⟨_,_,E.ext h.next b N,hrun, ?_, ?_⟩
   ·-- the same names
    have hsame:∀y,(((h.set x (.flat [])).del x).add B').get y=((h.del x).add B').get y:=fun y=>by
     by_cases hn:h.next=y
     ·subst hn
      exact (Z6.get_add_same ((h.set x (.flat [])).del x) B').trans (Z6.get_add_same (h.del x) B').symm
     ·refine (Z6.get_add_other ((h.set x (.flat [])).del x) y B' hn).trans (Eq.trans ?_ (Z6.get_add_other (h.del x) y B' hn).symm)
      grind [Z6.get_del_same,Z6.get_del_other,Z6.get_set_other]
    exact (hev1.trans hev2).trans (Z2q hev2.emb rfl fun y C hy=>by rw [hsame];exact hy)
   ·exact .nslice ⟨h.next,0,0,0,0⟩ i.size (sLen+m) (sLen+m) b N sCap (Env.ext_same ..) hroom hroom (by simp [ZI.tot];exact hN2)
 ·obtain ⟨cap,cells,c1,c2,c3,c4⟩:=ar.grow (by omega)
  have hdr:Evo E h' w E h' { w with drawn:=w.drawn+1}:=Z01 hless.emb rfl rfl rfl ⟨rfl,Nat.le_succ _⟩
  have e2:=hdr.emb
  have hal:=XC e2 (.cells cells e (0,0)) cells.size B' (by
   rw [hnx]
   exact hB _ _ w.heap.size cells e (0,0) (Env.ext_le (he.fresh _ (J1 _))) (Env.ext_same ..) (by simp) (WC _) c3)
  refine ⟨_,_,_,c4,(hless.trans hdr).trans hal, ?_⟩
  rw [hnx]
  exact .nslice ⟨h.next,0,0,0,0⟩ i.size (sLen+m) (sLen+m) w.heap.size cells.size cap (Env.ext_same ..) c1 c1 (by simp [ZI.tot,c2])
theorem Vb (k:IntKind) (xs:LI):intCells k xs.length xs=xs.map (Value.int k):=by
 apply Kp
 grind [Zj,X6]
theorem U4 (k:IntKind) (xs ys:LI):intCells k xs.length xs++intCells k ys.length ys=intCells k (xs++ys).length (xs++ys):=by
 rw [Vb,Vb,Vb,JS]
theorem VR (k:IntKind) (n:Nat) (xs:LI):∀u∈intCells k n xs,u.oneCell'=true:=by
 intro u hu
 simp [intCells] at hu
 obtain ⟨i,_,rfl⟩:=hu
 rfl
def Ui (g:Nat->List Value):Nat->List Value
 | 0=>[]
 | n+1=>Ui g n++g n
theorem Yr {g:Nat->List Value} {esz:Nat}:∀{n:Nat},(∀i,i<n->(g i).length=esz)->(Ui g n).length=n*esz
 | 0,_=>by simp [Ui]
 | n+1,h=>by
  simp only [Ui,J3,Yr (n:=n) (fun i hi=>h i (by omega)),h n (by omega)]
  rw [K7];omega
theorem UV {g:Nat->List Value} {esz:Nat}:∀{n:Nat},(∀i,i<n->(g i).length=esz)->∀i j,i<n->j<esz->(Ui g n)[i*esz+j]? =(g i)[j]?
 | 0,_,i,_,hi,_=>by omega
 | n+1,h,i,j,hi,hj=>by
  have hl:=Yr (g:=g) (n:=n) (fun i hi=>h i (by omega))
  simp only [Ui]
  by_cases hin:i=n
  ·simp_all
  ·have hlt:i*esz+j<n*esz:=by
    have:(i+1)*esz<=n*esz:=JN _ (by omega)
    rw [K7] at this;omega
   rw [Jb (by rw [hl];exact hlt)]
   exact UV (n:=n) (fun i hi=>h i (by omega)) i j (by omega) hj
theorem WR {g:Nat->List Value} {n:Nat} (h:∀i,i<n->(g i).length=esz) {t:Nat} {v:Value} (ht:(Ui g n)[t]? =some v):∃i j,i<n/\j<esz/\t=i*esz+j/\(g i)[j]? =some v:=by
 have hl:=Yr h
 have hlt:t<n*esz:=by
  grind
 have hpos:0<esz:=by
  grind
 have h1:t/esz<n:=(Nat.div_lt_iff_lt_mul hpos).2 hlt
 have h2:t%esz<esz:=Nat.mod_lt _ hpos
 grind [Nat.mul_comm,Nat.div_add_mod,UV]
theorem Z57.reads {w:World} {n:Nat} {f:Nat->List AV} (h:Z57 E w esz r n f):
  ∃g:Nat->List Value,(∀i,i<n->Zm E (f i) (g i))/\(∀i,i<n->(g i).length=esz)/\Reads w esz r n (Ui g n)/\∀u∈Ui g n,u.oneCell'=true:=by
 obtain ⟨a,c,g,rfl,h1,h2,h3⟩:=h
 refine ⟨g,h1,h2,⟨a,c,rfl,Yr h2,fun t v ht=> ?_⟩,fun u hu=> ?_⟩
 ·obtain ⟨i,j,hi,hj,rfl,hg⟩:=WR h2 ht
  grind
 ·obtain ⟨t,ht⟩:=JX.1 hu
  obtain ⟨i,j,hi,hj,rfl,hg⟩:=WR h2 ht
  exact (h1 i hi).all_one u (K2 hg)
def X8 (n:Nat) (f g:Nat->List AV) (i:Nat):List AV:=match Nat.blt i n with|true=>f i|false=>g (i-n)
def Ze1 (h:Z6) (k:IntKind) (s:AV) (K:LI->Z6->Prop):Prop:=
 match s with
 | .nilslice=>K [] h
 | .eslice=>K [] h
 | .nslice ⟨x,0,_,0,0⟩ esz len _=>match Nat.beq esz 1,h.get x with
  | true,some (.ints k' xs)=>Z4 (k'=k/\xs.length=len) (K xs (h.del x))
  | _,_=>False
 | _=>False
def Ze2 (h:Z6) (esz:Nat) (s:AV) (K:Nat->(Nat->List AV)->Z6->Prop):Prop:=
 match s with
 | .nilslice=>K 0 (fun _=>[]) h
 | .eslice=>K 0 (fun _=>[]) h
 | .nslice ⟨x,0,_,0,0⟩ esz' len _=>match Nat.beq esz' esz,h.get x with
  | true,some (.rows sz n f)=>match Nat.beq sz esz with
   | true=>Z4 (n=len) (K n f (h.del x))
   | false=>False
  | true,some (.flat cs)=>match QC cs 0 esz len with
   | true=>K len (XD cs 0 esz) (h.del x)
   | false=>False
  | _,_=>False
 | _=>False
theorem Z8M {h:Z6} {k:IntKind} {s:AV} {K:LI->Z6->Prop} (hl:Ze1 h k s K):
  ∃xs h',K xs h'/\∀(E:Env) (w:World) (r:Value),Emb E h w->Zc E s r->∃base cap,r=.slice base xs.length cap/\Onto E h w 1 base xs.length cap (intCells k xs.length xs) h':=by
 unfold Ze1 at hl
 split at hl
 ·exact ⟨[],h,hl,fun E w r he hx=>by cases hx;exact ⟨none,0,rfl,.nought rfl rfl rfl (.inl rfl)⟩⟩
 ·exact ⟨[],h,hl,fun E w r he hx=>by cases hx;exact ⟨_,0,rfl,.nought rfl rfl rfl (.inl rfl)⟩⟩
 ·rename_i x sz esz len lo
  split at hl
  ·rename_i k' xs hb hg
   have hes:esz=1:=J0 hb
   subst hes
   obtain ⟨⟨rfl,hlen⟩,hk⟩:=Zd hl
   refine ⟨xs,_,hk,fun E w r he hx=> ?_⟩
   cases hx with
   | nslice0 _ _ _ _ a h1 h2=>
    have:xs=[]:=Jm (by omega)
    subst this
    exact ⟨a,0,rfl,.nought rfl rfl rfl (.inr ⟨x,rfl⟩)⟩
   | nslice _ _ _ _ b N cap hb' h1 h2 h3=>
    have hown:=he.own _ _ hg
    cases hown with
    | ints0 _ _ h0 hn=>simp_all
    | ints _ _ b' cells elem fr hbb hw hf hv=>
     rw [hbb] at hb'
     cases hb'
     have ht:ZI.tot ⟨x,0,sz,0,0⟩=0:=by simp [ZI.tot]
     rw [ht] at h3⊢
     subst hlen
     refine ⟨_,cap,rfl,.own x b cells.size (.ints k' xs) cells elem fr hg hbb hw rfl hf rfl h1 (by omega) (by rw [Z9,JT]) (fun j v hj=> ?_) rfl⟩
     grind [Zj,X6]
  simp_all
 simp_all
theorem Ze3 {h:Z6} {s:AV} {K:Nat->(Nat->List AV)->Z6->Prop} (hl:Ze2 h esz s K):
  ∃n f h',K n f h'/\∀(E:Env) (w:World) (r:Value),Emb E h w->Zc E s r->∃base cap,∃g:Nat->List Value,r=.slice base n cap/\(∀i,i<n->Zm E (f i) (g i))/\(∀i,i<n->(g i).length=esz)/\Onto E h w esz base n cap (Ui g n) h':=by
 unfold Ze2 at hl
 have hz:∀(E:Env) (w:World) (a:Option Addr) (f:Nat->List AV) (h':Z6),(h'=h\/∃x,h'=h.del x)->∃base cap,∃g:Nat->List Value,Value.slice a 0 0=.slice base 0 cap/\(∀i,i<0->Zm E (f i) (g i))/\(∀i,i<0->(g i).length=esz)/\Onto E h w esz base 0 cap (Ui g 0) h':=fun E w a f h' hh=>
  ⟨a,0,fun _=>[],rfl,fun i hi=>by omega,fun i hi=>by omega,.nought rfl rfl rfl hh⟩
 split at hl
 ·exact ⟨0,_,h,hl,fun E w r he hx=>by cases hx;exact hz E w none _ h (.inl rfl)⟩
 ·exact ⟨0,_,h,hl,fun E w r he hx=>by cases hx;exact hz E w _ _ h (.inl rfl)⟩
 ·rename_i x sz esz' len lo
  have ht:ZI.tot ⟨x,0,sz,0,0⟩=0:=by simp [ZI.tot]
  split at hl
  ·rename_i sz' n f hb hg
   have hes:esz'=esz:=J0 hb
   subst hes
   split at hl
   ·rename_i hb2
    have hs2:sz'=esz':=J0 hb2
    subst hs2
    obtain ⟨rfl,hk⟩:=Zd hl
    refine ⟨n,f,_,hk,fun E w r he hx=> ?_⟩
    cases hx with
    | nslice0 _ _ _ _ a h1 h2=>subst h1;exact hz E w a f _ (.inr ⟨x,rfl⟩)
    | nslice _ _ _ _ b N cap hb' h1 h2 h3=>
     have hown:=he.own _ _ hg
     cases hown with
     | rows0 _ _ _ h0 hn=>rw [hn] at hb';cases hb'
     | rows _ _ _ b' cells elem fr g hbb hw hf hc hlg hv=>
      rw [hbb] at hb'
      cases hb'
      rw [ht] at h3⊢
      refine ⟨_,cap,g,rfl,hc,hlg,.own x b cells.size _ cells elem fr hg hbb hw rfl hf rfl h1 (by omega) (Yr hlg) (fun t v hj=> ?_) rfl⟩
      obtain ⟨i,j,hi,hj',rfl,hgv⟩:=WR hlg hj
      grind
   ·exact hl.elim
  ·rename_i cs hb hg
   have hes:esz'=esz:=J0 hb
   subst hes
   split at hl
   ·rename_i hok
    refine ⟨len,_,_,hl,fun E w r he hx=> ?_⟩
    cases hx with
    | nslice0 _ _ _ _ a h1 h2=>subst h1;exact hz E w a _ _ (.inr ⟨x,rfl⟩)
    | nslice _ _ _ _ b N cap hb' h1 h2 h3=>
     have hown:=he.own _ _ hg
     cases hown with
     | flat0 _ h0 hn=>simp_all
     | flat _ b' cells elem fr vs hbb hw hf hc hv=>
      rw [hbb] at hb'
      cases hb'
      rw [ht] at h3⊢
      have hlg:∀i,i<len->((vs.drop (0+i*esz')).take esz').length=esz':=fun i hi=>(Xh (YG hok i hi) hc).2
      refine ⟨_,cap,fun i=>(vs.drop (0+i*esz')).take esz',rfl,fun i hi=>(Xh (YG hok i hi) hc).1,hlg,.own x b cells.size _ cells elem fr hg hbb hw rfl hf rfl h1 (by omega) (Yr hlg) (fun t v hj=> ?_) rfl⟩
      obtain ⟨i,j,hi,hj',rfl,hgv⟩:=WR hlg hj
      grind
   simp_all
  simp_all
 simp_all
theorem Zc.resz {x len lo:Nat} (h:Zc E (.nslice ⟨x,0,0,0,0⟩ esz len lo) r) (s:Nat):Zc E (.nslice ⟨x,0,s,0,0⟩ esz len lo) r:=by
 cases h with
 | nslice0 p esz len lo a h1 h2=>exact .nslice0 _ _ _ _ a h1 h2
 | nslice p esz len lo b N cap hb h1 h2 h3=>
  have e:(⟨x,0,0,0,0⟩:ZI).tot=(⟨x,0,s,0,0⟩:ZI).tot:=by simp [ZI.tot]
  rw [e] at h3⊢
  exact .nslice ⟨x,0,s,0,0⟩ _ _ _ b N cap hb h1 h2 h3
def Z58 (P:Program) (h:Z6) (t:TypeId) (s x:AV) (K:AV->Z6->Prop):Prop:=
 match P.underlying t with
 | some (.slice e)=>match P.info? e with
  | some i=>match i.zero with
   | some z=>match Nat.beq z.cells.size i.size&&Nat.blt 0 i.bytes with
    | true=>match P.underlying e,Nat.beq i.size 1 with
     | some (.int k),true=>Qm h k x fun ys=>Ze1 h k s fun xs h'=>Z4 ((xs++ys).length*i.bytes<=140737488355328) (K (.nslice ⟨h.next,0,0,0,0⟩ 1 (xs++ys).length (xs++ys).length) (h'.add (.ints k (xs++ys))))
     | some (.int _),false=>False
     | _,_=>Z8L h i.size x fun m g=>Ze2 h i.size s fun n f h'=>Z4 ((n+m)*i.bytes<=140737488355328) (K (.nslice ⟨h.next,0,i.size,0,0⟩ i.size (n+m) (n+m)) (h'.add (.rows i.size (n+m) (X8 n f g))))
    | false=>False
   | none=>False
  | none=>False
 | _=>False
theorem Z7m {P:Program} {h:Z6} {t:TypeId} {s x:AV} {K:AV->Z6->Prop} (hl:Z58 P h t s x K):
  ∃v h',K v h'/\∀(E:Env) (w:World) (rs rx:Value),Emb E h w->Zc E s rs->Zc E x rx->∃r w' E',(Builtin.append_ #[t,t] ty #[rs,rx]).run P w=.ok r w'/\Evo E h w E' h' w'/\Zc E' v r:=by
 unfold Z58 at hl
 split at hl
 ·rename_i e ht
  split at hl
  ·rename_i i hi
   split at hl
   ·rename_i z hz
    split at hl
    ·rename_i hb
     rw [J2] at hb
     have hzs:z.cells.size=i.size:=J0 hb.1
     have hby:0<i.bytes:=Je hb.2
     have hmax:∀n,n*i.bytes<=140737488355328->n<=maxLen:=fun n hn=>by
      have:=Ka (Nat.le_mul_of_pos_right n hby) hn
      simp only [maxLen];omega
     have hrows:(Z8L h i.size x fun m g=>Ze2 h i.size s fun n f h'=>Z4 ((n+m)*i.bytes<=140737488355328) (K (.nslice ⟨h.next,0,i.size,0,0⟩ i.size (n+m) (n+m)) (h'.add (.rows i.size (n+m) (X8 n f g)))))->
       ∃v h',K v h'/\∀(E:Env) (w:World) (rs rx:Value),Emb E h w->Zc E s rs->Zc E x rx->∃r w' E',(Builtin.append_ #[t,t] ty #[rs,rx]).run P w=.ok r w'/\Evo E h w E' h' w'/\Zc E' v r:=fun hl=>by
      obtain ⟨m,g,hl,hx⟩:=Zbf hl
      obtain ⟨n,f,h',hl,hs⟩:=Ze3 hl
      obtain ⟨hfit,hk⟩:=Zd hl
      refine ⟨_,_,hk,fun E w rs rx he hvs hvx=> ?_⟩
      obtain ⟨base,cap,gs,rfl,s1,s2,s3⟩:=hs E w rs he hvs
      obtain ⟨gx,x1,x2,x3,x4⟩:=(hx E w rx he hvx).reads
      have ar:=Z09 (ty:=ty) ht hi hz hzs (w:=w) s3.reads x3 x4 (hmax _ hfit) hfit
      have hlo:=Yr s2
      obtain ⟨r,w',E',a1,a2,a3⟩:=Uh he ar s3 (Yr x2) (B':=.rows i.size (n+m) (X8 n f g)) (fun h0 E' w' hle hn=>.rows0 _ _ _ h0 hn) (fun E' w' b cells elem fr hle hbk hw hf hc=>by
       refine .rows _ _ _ b cells elem fr (fun q=>if q<n then gs q else gx (q-n)) hbk hw hf (fun q hq=> ?_) (fun q hq=> ?_) (fun q j v hq hv=> ?_)
       ·by_cases hqn:q<n
        ·have:X8 n f g q=f q:=by grind [X8,Nat.blt,JY]
         rw [this,if_pos hqn];exact (s1 q hqn).mono hle
        ·have hbf:Nat.blt q n=false:=by
          cases hbq:Nat.blt q n with
          | false=>rfl
          | true=>exact absurd (Je hbq) hqn
         have:X8 n f g q=g (q-n):=by simp [X8,hbf]
         rw [this,if_neg hqn];exact (x1 (q-n) (by omega)).mono hle
       ·grind
       ·apply hc
        have hj:j<i.size:=by
         grind
        by_cases hqn:q<n
        ·rw [if_pos hqn] at hv
         have hlt:q*i.size+j<n*i.size:=by
          have:(q+1)*i.size<=n*i.size:=JN _ (by omega)
          rw [K7] at this;omega
         rw [Jb (by rw [hlo];exact hlt),UV s2 q j hqn hj]
         exact hv
        ·rw [if_neg hqn] at hv
         have e1:q*i.size+j=n*i.size+((q-n)*i.size+j):=by
          rw [Nat.sub_mul]
          have:n*i.size<=q*i.size:=JN _ (by omega)
          omega
         rw [Js (by omega),hlo,e1,Nat.add_sub_cancel_left,UV x2 (q-n) j (by omega) hj]
         exact hv)
      exact ⟨r,w',E',a1,a2,a3.resz _⟩
     split at hl
     ·rename_i k hue hsz1
      have hs1:i.size=1:=J0 hsz1
      obtain ⟨ys,hl,hx⟩:=XX hl
      obtain ⟨xs,h',hl,hs⟩:=Z8M hl
      obtain ⟨hfit,hk⟩:=Zd hl
      refine ⟨_,_,hk,fun E w rs rx he hvs hvx=> ?_⟩
      obtain ⟨base,cap,rfl,hon⟩:=hs E w rs he hvs
      have hrx:=hx E w rx he hvx
      rw [J3] at hfit
      rw [<-hs1] at hon hrx
      have ar:=Z09 (ty:=ty) ht hi hz hzs (w:=w) hon.reads hrx (VR _ _ _) (hmax _ hfit) hfit
      obtain ⟨r,w',E',a1,a2,a3⟩:=Uh he ar hon (by rw [Z9,hs1,JT]) (B':=.ints k (xs++ys)) (fun h0 E' w' hle hn=>.ints0 _ _ (Jm (by rw [J3];exact h0)) hn) (fun E' w' b cells elem fr hle hbk hw hf hc=>by
       refine .ints _ _ b cells elem fr hbk hw hf (fun j hj=>hc j _ ?_)
       rw [U4]
       exact Zj hj)
      grind
     all_goals simp_all
    simp_all
   simp_all
  simp_all
 simp_all
theorem Z59 {P:Program} {t e:TypeId} {ki ki' k:IntKind} {i:TypeInfo} (ht:P.underlying t=some (.slice e)) (hti:P.underlying ti=some (.int ki)) (hi:P.info? e=some i) (hz:i.zero=some (.int k 0)) (hs1:i.size=1)
  {w:World} {base:Option Addr} {n:Int} (ho:Reads w i.size (.slice base sLen sCap) sLen olds) (h0:0<=n)
  (h63:sLen+n.toNat<=maxLen) (hbytes:(sLen+n.toNat)*i.bytes<=140737488355328):
  Z7l P e i w base sLen sCap n.toNat olds (intCells k n.toNat (List.replicate n.toNat 0)) ((Builtin.append_ #[t,ti] ty #[.slice base sLen sCap,.int ki' n]).run P w):=by
 have hsmall:sLen+n.toNat<=9223372036854775807:=by simp only [maxLen] at h63;omega
 obtain ⟨m,rfl⟩:∃m:Nat,n=(m:Int):=⟨n.toNat,by omega⟩
 simp only [JR] at*
 have hw:i64.wrap (m:Int)=m:=by rw [IntKind.wrap_i64];omega
 have hneg:¬((m:Int)<0):=by omega
 have hb2:¬(281474976710656<(m:Int)*(i.bytes:Int)):=by
  have h1:m*i.bytes<=(sLen+m)*i.bytes:=JN _ (by omega)
  have h2:m*i.bytes<=140737488355328:=Ka h1 hbytes
  omega
 have hzc:Builtin.zeroCells (Value.int k 0).cells m=(intCells k m (List.replicate m 0)).toArray:=by
  apply Array.ext'
  simp_all [Builtin.zeroCells,intCells,Value.cells,Nat.mod_one]
 have hw0:i64.wrap 0=0:=by decide
 have hz0:intCells k 0 (List.replicate 0 0)=[]:=rfl
 refine ⟨fun hroom hne=> ?_,fun hroom b hb hcl hfr=> ?_,fun hg=> ?_⟩
 ·have hm0:m=0:=by
   have:=congrArg List.length hne
   simpa [intCells] using this
  subst hm0
  simp only [Ki] at hroom
  cases base with
  | none=>simp [Builtin.append_,run_underlying ht,run_underlying hti,sizeOf,typeInfo,hi,asInt,asIntOf,hw0,hroom]
  | some ad=>simp [Builtin.append_,run_underlying ht,run_underlying hti,sizeOf,typeInfo,hi,asInt,asIntOf,hw0,hroom,storeCells]
 ·subst hb
  have hst:=run_storeCells_cells (P:=P) b (sLen*i.size) (intCells k m (List.replicate m 0)) 0 w (by omega) (by omega) (VR _ _ _)
  simp only [Ki,hs1,JT] at hst
  have hadd:(⟨b,0,none⟩:Addr).add sLen=⟨b,sLen,none⟩:=by rw [YU];simp
  by_cases hm:m=0
  ·subst hm
   simp only [Ki] at hroom
   rw [hz0] at hst⊢
   simp [Builtin.append_,run_underlying ht,run_underlying hti,sizeOf,typeInfo,hi,asInt,asIntOf,hw0,hs1,hroom,hadd,hst]
  ·simp [Builtin.append_,run_underlying ht,run_underlying hti,sizeOf,typeInfo,hi,asInt,asIntOf,hw,hneg,hb2,hs1,hroom,hm,zeroValue,hz,hzc,hadd,hst]
 ·have hnle:¬(sLen+m<=sCap):=by omega
  have h63':¬(9223372036854775807<((sLen:Int)+(m:Int))):=by omega
  have h48':¬(281474976710656<Builtin.nextslicecap (sLen+m) sCap*i.bytes):=by
   have:=growslice_fits (bytes:=i.bytes) hg hbytes
   omega
  have hfo:=Yq (P:=P) ho (w':=w.drew) rfl
  obtain ⟨_,_,_,hlo,_⟩:=ho
  refine ⟨grownCap w (sLen+m) sCap e,olds.toArray++(intCells k m (List.replicate m 0)).toArray++Builtin.zeroCells (Value.int k 0).cells (grownCap w (sLen+m) sCap e-(sLen+m)),grownCap_ge w _ _ _, ?_,fun j v hj=> ?_, ?_⟩
  ·have:=grownCap_ge w (sLen+m) sCap e
   simp_all [size_zeroCells,Z9,Value.cells]
  ·rw [<-Array.getElem?_toList]
   grind
  ·rw [hs1] at hfo
   by_cases hm:m=0
   ·subst hm
    simp only [Ki] at*
    have h63'':¬(9223372036854775807<(sLen:Int)):=by omega
    simp [Builtin.append_,run_underlying ht,run_underlying hti,sizeOf,typeInfo,zeroValue,hi,hz,asInt,asIntOf,hw0,hs1,hnle,h63'',h48',Question.forced,hfo,newRow,grownCap]
    show World.alloc _ _=World.alloc w.drew _
    simp_all
   ·simp [Builtin.append_,run_underlying ht,run_underlying hti,sizeOf,typeInfo,zeroValue,hi,hz,asInt,asIntOf,hw,hneg,hb2,hs1,hm,hzc,hnle,h63',h48',Question.forced,hfo,newRow,grownCap]
    show World.alloc _ _=World.alloc w.drew _
    grind
def Z5a (P:Program) (h:Z6) (t ti:TypeId) (s x:AV) (K:AV->Z6->Prop):Prop:=
 match P.underlying t,P.underlying ti,x with
 | some (.slice e),some (.int _),.int _ n=>match P.info? e with
  | some i=>match i.zero,Nat.beq i.size 1&&Nat.blt 0 i.bytes with
   | some (.int k z),true=>Ze1 h k s fun xs h'=>Z4 (z=0/\0<=n/\(xs.length+n.toNat)*i.bytes<=140737488355328)
     (K (.nslice ⟨h.next,0,0,0,0⟩ 1 (xs++List.replicate n.toNat 0).length (xs++List.replicate n.toNat 0).length) (h'.add (.ints k (xs++List.replicate n.toNat 0))))
   | _,_=>False
  | none=>False
 | _,_,_=>False
theorem Z7n {P:Program} {h:Z6} {t:TypeId} {s x:AV} {K:AV->Z6->Prop} (hl:Z5a P h t ti s x K):
  ∃v h',K v h'/\∀(E:Env) (w:World) (rs rx:Value),Emb E h w->Zc E s rs->Zc E x rx->∃r w' E',(Builtin.append_ #[t,ti] ty #[rs,rx]).run P w=.ok r w'/\Evo E h w E' h' w'/\Zc E' v r:=by
 unfold Z5a at hl
 split at hl
 ·rename_i e ki ki' n ht hti
  split at hl
  ·rename_i i hi
   split at hl
   ·rename_i k z hz hb
    rw [J2] at hb
    have hs1:i.size=1:=J0 hb.1
    have hby:0<i.bytes:=Je hb.2
    obtain ⟨xs,h',hl,hs⟩:=Z8M hl
    obtain ⟨⟨rfl,h0,hfit⟩,hk⟩:=Zd hl
    refine ⟨_,_,hk,fun E w rs rx he hvs hvx=> ?_⟩
    cases hvx
    obtain ⟨base,cap,rfl,hon⟩:=hs E w rs he hvs
    rw [<-hs1] at hon
    have hmax:xs.length+n.toNat<=maxLen:=by
     have:=Ka (Nat.le_mul_of_pos_right (xs.length+n.toNat) hby) hfit
     simp only [maxLen];omega
    have ar:=Z59 (ty:=ty) (ki':=ki') ht hti hi hz hs1 (w:=w) hon.reads h0 hmax hfit
    have hrl:(List.replicate n.toNat (0:Int)).length=n.toNat:=List.length_replicate ..
    obtain ⟨r,w',E',a1,a2,a3⟩:=Uh he ar hon (by rw [Z9,hs1,JT]) (B':=.ints k (xs++List.replicate n.toNat 0)) (fun h0 E' w' hle hn=>.ints0 _ _ (Jm (by rw [J3,hrl];exact h0)) hn) (fun E' w' b cells elem fr hle hbk hw hf hc=>by
     refine .ints _ _ b cells elem fr hbk hw hf (fun j hj=>hc j _ ?_)
     have:=U4 k xs (List.replicate n.toNat 0)
     rw [hrl] at this
     rw [this]
     exact Zj hj)
    grind
   simp_all
  simp_all
 simp_all
theorem Z2H {h:Z6} {w:World} (e:Emb E h w) (x:Nat) (B B':Blk) (hx:h.get x=some B) (hB:ZV E w x B'):Evo E h w E (h.set x B') w:=by
 have hget:∀y C,(h.set x B').get y=some C->(y=x/\C=B')\/(y≠x/\h.get y=some C):=fun y C hy=>by
  grind [Z6.get_set_same,Z6.get_set_other]
 have hget':∀y C,(h.set x B').get y=some C->∃C',h.get y=some C':=fun y C hy=>by
  grind
 refine ⟨.refl E,⟨e.fresh, ?_, ?_, ?_,e.imm, ?_⟩,J1 _,rfl,rfl,⟨rfl,J1 _⟩,fun _ _ _=>rfl, ?_,fun _ _ h=>h⟩
 ·intro y C hy
  obtain ⟨C',h'⟩:=hget' y C hy
  exact e.lt y C' h'
 ·intro y C hy
  rcases hget y C hy with ⟨rfl,rfl⟩|⟨hne,h'⟩
  ·exact hB
  ·exact e.own y C h'
 ·intro y z C D b' M M' hy hz hby hbz
  obtain ⟨C',hy'⟩:=hget' y C hy
  obtain ⟨D',hz'⟩:=hget' z D hz
  exact e.disj y z C' D' b' M M' hy' hz' hby hbz
 ·intro a c y C M hi hy hb'
  obtain ⟨C',hy'⟩:=hget' y C hy
  exact e.sep a c y C' M hi hy' hb'
 ·rintro i ⟨y,C,M,hy,hb'⟩
  obtain ⟨C',hy'⟩:=hget' y C hy
  exact .inl ⟨y,C',M,hy',hb'⟩
def spl (xs:LI) (o:Nat) (ys:LI):LI:=xs.take o++ys++xs.drop (o+ys.length)
theorem Z2I {o:Nat} (h:o+ys.length<=xs.length):(spl xs o ys).length=xs.length:=by
 grind [spl]
theorem Zbg {o:Nat} (h:o+ys.length<=xs.length) (hj:j<ys.length):(spl xs o ys).getD (o+j) 0=ys.getD j 0:=by
 have h1:(xs.take o).length=o:=by rw [Jc];omega
 simp_all [spl,Js,Jb]
theorem Z8N {o:Nat} (h:o+ys.length<=xs.length) (hj:j<o\/o+ys.length<=j):(spl xs o ys).getD j 0=xs.getD j 0:=by
 have h1:(xs.take o).length=o:=by rw [Jc];omega
 simp only [spl,J5]
 rcases hj with hj|hj
 ·rw [Jl,Jb (by omega),Kj,if_pos hj]
 ·rw [Js (by simp_all),JF]
  simp_all
def YP (k:IntKind) (n:Nat) (xs:LI):Nat->List AV->Option (List AV)
 | 0,.arr k' m _::r=>match Nat.beq m n&&decide (k'=k) with|true=>some (.arr k n xs::r)|false=>none
 | 0,_=>none
 | _+1,[]=>none
 | o+1,.arr k' m ys::r=>match Nat.ble m (o+1) with
  | true=>match YP k n xs (o+1-m) r with|some r'=>some (.arr k' m ys::r')|none=>none
  | false=>none
 | o+1,v::r=>match YP k n xs o r with|some r'=>some (v::r')|none=>none
termination_by structural _ cs=>cs
theorem QD {E:Env} {k:IntKind} {n:Nat} {xs:LI}:∀(cs:List AV) (o:Nat) (cs':List AV) (vs:List Value),YP k n xs o cs=some cs'->Zm E cs vs->
  ∃vs',Zm E cs' vs'/\vs'.length=vs.length/\(∀j,j<n->vs'[o+j]? =some (.int k (xs.getD j 0)))/\∀j,(j<o\/o+n<=j)->vs'[j]? =vs[j]?
 | [],0,cs',vs,h,_=>by simp [YP] at h
 | [],o+1,cs',vs,h,_=>by simp [YP] at h
 | v::r,0,cs',vs,h,hc=>by
  cases v with
  | arr k' m ys=>
   simp only [YP] at h
   split at h
   ·rename_i hb
    rw [J2] at hb
    have hm:m=n:=J0 hb.1
    have hk:k'=k:=of_decide_eq_true hb.2
    subst hm;subst hk
    cases h
    obtain ⟨ws,rfl,hw⟩:=hc.cons_arr
    refine ⟨intCells k' m xs++ws,.arr _ _ _ _ _ hw,by simp [Z9],fun j hj=> ?_,fun j hj=> ?_⟩
    ·rw [Jq,Jb (by rw [Z9];exact hj)]
     exact Zj hj
    simp_all [Js,Z9]
   ·cases h
  | _=>simp [YP] at h
 | v::r,o+1,cs',vs,h,hc=>by
  have hone:(∀k m xs,v≠.arr k m xs)->(match YP k n xs o r with|some r'=>some (v::r')|none=>none)=some cs'->
    ∃vs',Zm E cs' vs'/\vs'.length=vs.length/\(∀j,j<n->vs'[o+1+j]? =some (.int k (xs.getD j 0)))/\∀j,(j<o+1\/o+1+n<=j)->vs'[j]? =vs[j]?:=fun hv h=>by
   obtain ⟨c,ws,rfl,h0,h1,hr,hw⟩:=hc.cons_cell hv
   split at h
   ·rename_i r' hr'
    cases h
    obtain ⟨us,u1,u2,u3,u4⟩:=QD r o r' ws hr' hw
    refine ⟨c::us,.one _ _ _ _ h0 h1 hr u1,by simp [u2],fun j hj=> ?_,fun j hj=> ?_⟩
    ·rw [show o+1+j=(o+j)+1 from by omega,List.getElem?_cons_succ];exact u3 j hj
    ·cases j with
     | zero=>rfl
     | succ j=>exact u4 j (by omega)
   ·cases h
  cases v with
  | arr k' m ys=>
   simp only [YP] at h
   split at h
   ·rename_i hb
    have hmo:=V9 hb
    split at h
    ·rename_i r' hr'
     cases h
     obtain ⟨ws,rfl,hw⟩:=hc.cons_arr
     obtain ⟨us,u1,u2,u3,u4⟩:=QD r (o+1-m) r' ws hr' hw
     refine ⟨intCells k' m ys++us,.arr _ _ _ _ _ u1,by simp [u2],fun j hj=> ?_,fun j hj=> ?_⟩
     ·rw [Js (by rw [Z9];omega),Z9,show o+1+j-m=o+1-m+j from by omega]
      exact u3 j hj
     ·rcases Jo j m with hjm|hjm
      ·rw [Jb (by rw [Z9];exact hjm),Jb (by rw [Z9];exact hjm)]
      ·rw [Js (by rw [Z9];exact hjm),Js (by rw [Z9];exact hjm),Z9]
       exact u4 _ (by omega)
    ·cases h
   ·cases h
  | _=>exact hone (fun _ _ _ e=>by cases e) (by simpa only [YP] using h)
theorem QE {k:IntKind} {n:Nat} {xs:LI}:∀(cs:List AV) (o:Nat) (cs':List AV),YP k n xs o cs=some cs'->csz cs'=csz cs
 | [],0,cs',h=>by simp [YP] at h
 | [],o+1,cs',h=>by simp [YP] at h
 | v::r,0,cs',h=>by
  cases v with
  | arr k' m ys=>
   simp only [YP] at h
   split at h
   ·rename_i hb
    rw [J2] at hb
    have hm:m=n:=J0 hb.1
    subst hm
    cases h
    rfl
   ·cases h
  | _=>simp [YP] at h
 | v::r,o+1,cs',h=>by
  cases v with
  | arr k' m ys=>
   simp only [YP] at h
   split at h
   ·split at h
    ·rename_i r' hr'
     cases h
     simp only [csz,QE r _ r' hr']
    ·cases h
   ·cases h
  | _=>
   simp only [YP] at h
   split at h
   ·rename_i r' hr'
    cases h
    simp only [csz,QE r _ r' hr']
   ·cases h
def Zbh (P:Program) (h:Z6) (t:TypeId) (d s:AV) (K:AV->Z6->Prop):Prop:=
 match P.underlying t with
 | some (.slice e)=>match P.underlying e,ZS P e with
  | some (.int k),some 1=>match d with
   | .eslice=>Qm h k s fun _=>K (.int .i64 0) h
   | .nilslice=>Qm h k s fun _=>K (.int .i64 0) h
   | .nslice p esz len _=>match Nat.beq esz 1,h.get p.blk with
    | true,some (.ints k' xs)=>Qm h k s fun ys=>Z4 (k'=k/\p.tot+len<=xs.length) (K (.int .i64 (ys.take len).length) (h.set p.blk (.ints k (spl xs p.tot (ys.take len)))))
    | true,some (.flat cs)=>match p.row,Ym p.off cs with
     | 0,some (.arr k' n xs::_)=>Qm h k s fun ys=>Z4 (k'=k/\xs.length=n/\p.inn+len<=n) (match YP k n (spl xs p.inn (ys.take len)) p.off cs with
      | some cs'=>K (.int .i64 (ys.take len).length) (h.set p.blk (.flat cs'))
      | none=>False)
     | _,_=>False
    | _,_=>False
   | _=>False
  | _,_=>False
 | _=>False
theorem Z2J {P:Program} {t e:TypeId} (ht:P.underlying t=some (.slice e)) (hs:ZS P e=some 1) {k:IntKind} {w:World} {base:Option Addr} {dLen dCap:Nat}
  (hr:Reads w 1 rx ys.length (intCells k ys.length ys)):
  (Builtin.copy_ #[t,t2] ty #[.slice base dLen dCap,rx]).run P w=
   (match base with
    | some a=>((storeCells a (intCells k (ys.take dLen).length (ys.take dLen))).run P w).andThen fun _ w'=>.ok (.int .i64 (ys.take dLen).length) w'
    | none=>.ok (.int .i64 (ys.take dLen).length) w):=by
 have hsz:(sizeOf e).run P w=.ok 1 w:=run_sizeOf hs w
 obtain ⟨a,c,rfl,hl,hc⟩:=hr
 have hn:Nat.min ys.length dLen=(ys.take dLen).length:=by rw [Jc,Nat.min_comm]
 have hf:(Builtin.firstCells 1 (ys.take dLen).length (.slice a ys.length c)).run P w=.ok (intCells k (ys.take dLen).length (ys.take dLen)).toArray w:=by
  cases a with
  | none=>
   have:ys=[]:=by
    cases ys with
    | nil=>rfl
    | cons y r=>obtain ⟨ad,h1,_⟩:=hc 0 _ (Zj (by simp));cases h1
   simp_all [run_firstCells_none]
  | some ad=>
   refine run_firstCells_some (P:=P) w 1 _ ad ys.length c _ (by rw [Z9,JT]) fun j v hj=> ?_
   rcases Jo j (ys.take dLen).length with h1|h1
   ·rw [Zj h1] at hj
    have hjl:j<ys.length:=by rw [Jc] at h1;omega
    obtain ⟨ad',h2,h3⟩:=hc j _ (Zj hjl)
    simp_all
   ·rw [X6 h1] at hj;cases hj
 simp only [Builtin.copy_,List.getElem?_toArray,List.getElem?_cons_zero,List.getElem?_cons_succ,J6,run_underlying ht,J4,Builtin.lenOf,Jf,hsz,hn,hf]
 cases base with
 | none=>simp [goInt]
 | some ad=>simp [goInt]
theorem Z2K {P:Program} {a:Addr} {w:World}:(storeCells a []).run P w=.ok () w:=rfl
theorem Zbi {P:Program} {h:Z6} {t:TypeId} {d s:AV} {K:AV->Z6->Prop} (hl:Zbh P h t d s K):
  ∃v h',K v h'/\∀(E:Env) (w:World) (rd rs:Value),Emb E h w->Zc E d rd->Zc E s rs->∃r w' E',(Builtin.copy_ #[t,t2] ty #[rd,rs]).run P w=.ok r w'/\Evo E h w E' h' w'/\Zc E' v r:=by
 unfold Zbh at hl
 split at hl
 ·rename_i e ht
  split at hl
  ·rename_i k hue hts
   have hnone:∀(E:Env) (w:World) (a:Option Addr) (ys:LI) (rs:Value),Emb E h w->Reads w 1 rs ys.length (intCells k ys.length ys)->
     ∃r w' E',(Builtin.copy_ #[t,t2] ty #[.slice a 0 0,rs]).run P w=.ok r w'/\Evo E h w E' h w'/\Zc E' (.int .i64 0) r:=fun E w a ys rs he hr=>by
    refine ⟨.int .i64 0,w,E, ?_,.refl he,.int _ _⟩
    rw [Z2J ht hts hr]
    cases a with
    | none=>simp
    | some ad=>
     simp_all [intCells,Z2K]
   split at hl
   ·obtain ⟨ys,hk,hy⟩:=XX hl
    refine ⟨_,_,hk,fun E w rd rs he hd hs=> ?_⟩
    cases hd
    exact hnone E w _ ys rs he (hy E w rs he hs)
   ·obtain ⟨ys,hk,hy⟩:=XX hl
    refine ⟨_,_,hk,fun E w rd rs he hd hs=> ?_⟩
    cases hd
    exact hnone E w none ys rs he (hy E w rs he hs)
   ·rename_i p esz len lo
    -- the write itself
    have hwrite:∀(w:World) (b:Nat) (cells:Array Value) (elem:TypeId) (fr:Nat×Nat) (ys:LI),w.heap[b]? =some (.cells cells elem fr)->free cells fr->p.tot+ys.length<=cells.size->
      (storeCells ⟨b,p.tot,none⟩ (intCells k ys.length ys)).run P w=.ok () (w.setCells b p.tot (intCells k ys.length ys)):=fun w b cells elem fr ys hw hf hle=>by
     have hst:=run_storeCells_cells (P:=P) b p.tot (intCells k ys.length ys) 0 w (fun j hj=>by
       rw [Z9] at hj
       rw [cell_of_heap hw];simp;omega) (fun j hj=>by
       rw [Z9] at hj
       have:=hf (p.tot+0+j) (by omega)
       simp [World.frozen?,hw];omega) (VR _ _ _)
     omega
    split at hl
    ·rename_i k' xs hb hg
     have hes:esz=1:=J0 hb
     subst hes
     obtain ⟨ys,hl,hy⟩:=XX hl
     obtain ⟨⟨rfl,hle⟩,hk⟩:=Zd hl
     refine ⟨_,_,hk,fun E w rd rs he hd hs=> ?_⟩
     have hr:=hy E w rs he hs
     have hylen:(ys.take len).length<=len:=by rw [Jc];omega
     cases hd with
     | nslice0 _ _ _ _ a h1 h2=>
      subst h1
      obtain ⟨r,w',E',q1,q2,q3⟩:=hnone E w a ys rs he hr
      have hsame:spl xs p.tot (ys.take 0)=xs:=by simp [spl]
      have:Evo E' h w' E' (h.set p.blk (.ints k' (spl xs p.tot (ys.take 0)))) w':=by
       rw [hsame];exact Z2H q2.emb p.blk _ _ hg (q2.emb.own _ _ hg)
      exact ⟨r,w',E',q1,q2.trans this,by simp_all⟩
     | nslice _ _ _ _ b N cap hb' h1 h2 h3=>
      have hown:=he.own _ _ hg
      cases hown with
      | ints0 _ _ h0 hn=>rw [hn] at hb';cases hb'
      | ints _ _ b' cells elem fr hbb hw hf hv=>
       rw [hbb] at hb'
       cases hb'
       have hsz:p.tot+(ys.take len).length<=cells.size:=by omega
       have hsz2:p.tot+(ys.take len).length<=xs.length:=by omega
       obtain ⟨a1,a2,a3,a4,a5,a6⟩:=Yx (intCells k' (ys.take len).length (ys.take len)) p.tot w b cells elem fr hw
       have hwsz:=Y1 (intCells k' (ys.take len).length (ys.take len)) p.tot cells
       refine ⟨.int .i64 (ys.take len).length,w.setCells b p.tot (intCells k' (ys.take len).length (ys.take len)),E,by rw [Z2J ht hts hr];grind [J4], ?_,.int _ _⟩
       refine Yg he p.blk _ _ b cells.size hg hbb a2 a3 a4 a5 a6 (.ints _ _ b _ elem fr (by rw [hwsz];exact hbb) a1 (fun o ho=>hf o (by rw [hwsz] at ho;exact ho)) fun j hj=> ?_)
       rw [Z2I hsz2] at hj
       by_cases hin:p.tot<=j/\j<p.tot+(ys.take len).length
       ·have h5:=YX (intCells k' (ys.take len).length (ys.take len)) p.tot cells (j-p.tot) (by rw [Z9];exact hsz) (by rw [Z9];omega)
        rw [show p.tot+(j-p.tot)=j from by omega,Zj (by omega)] at h5
        have h6:=Zbg hsz2 (j:=j-p.tot) (by omega)
        rw [show p.tot+(j-p.tot)=j from by omega] at h6
        rw [h5,h6]
       grind [Yw,Z9,Z8N]
    ·rename_i cs hb hg
     have hes:esz=1:=J0 hb
     subst hes
     split at hl
     ·rename_i k' n xs rest hrow hdc
      obtain ⟨ys,hl,hy⟩:=XX hl
      obtain ⟨⟨rfl,hxn,hle⟩,hl⟩:=Zd hl
      split at hl
      ·rename_i cs' hput
       refine ⟨_,_,hl,fun E w rd rs he hd hs=> ?_⟩
       have hr:=hy E w rs he hs
       have hylen:(ys.take len).length<=len:=by rw [Jc];omega
       have hsz2:p.inn+(ys.take len).length<=xs.length:=by omega
       have htot:p.tot=p.off+p.inn:=by simp [ZI.tot,hrow]
       have hown:=he.own _ _ hg
       -- the cells told anew, where nothing is written
       have hrel:∀(E:Env) (vs:List Value),Zm E cs vs->∃vs',Zm E cs' vs'/\vs'.length=vs.length/\(∀j,j<n->vs'[p.off+j]? =some (.int k' ((spl xs p.inn (ys.take len)).getD j 0)))/\(∀j,(j<p.off\/p.off+n<=j)->vs'[j]? =vs[j]?)/\(∀j,j<n->vs[p.off+j]? =some (.int k' (xs.getD j 0))):=fun E vs hc=>by
        obtain ⟨vs',v1,v2,v3,v4⟩:=QD cs p.off cs' vs hput hc
        refine ⟨vs',v1,v2,v3,v4,fun j hj=> ?_⟩
        have hdr:=ZN _ _ _ _ hdc hc
        obtain ⟨ws,hws,_⟩:=hdr.1.cons_arr
        rw [<-List.getElem?_drop,hws,Jb (by rw [Z9];exact hj)]
        exact Zj hj
       cases hd with
       | nslice0 _ _ _ _ a h1 h2=>
        subst h1
        obtain ⟨r,w',E',q1,q2,q3⟩:=hnone E w a ys rs he hr
        have hsame:spl xs p.inn (ys.take 0)=xs:=by simp [spl]
        have:Evo E' h w' E' (h.set p.blk (.flat cs')) w':=by
         have hown':=q2.emb.own _ _ hg
         refine Z2H q2.emb p.blk _ _ hg ?_
         cases hown' with
         | flat0 _ h0 hn=>exact .flat0 _ (by rw [QE _ _ _ hput];exact h0) hn
         | flat _ b' cells elem fr vs hbb hw hf hc hv=>
          obtain ⟨vs',v1,v2,v3,v4,v5⟩:=hrel E' vs hc
          rw [hsame] at v3
          refine .flat _ b' cells elem fr vs' hbb hw hf v1 fun j c hj=>hv j c ?_
          by_cases hch:p.off<=j/\j<p.off+n
          ·have h7:=v3 (j-p.off) (by omega)
           have h8:=v5 (j-p.off) (by omega)
           rw [show p.off+(j-p.off)=j from by omega] at h7 h8
           rw [h8,<-h7,hj]
          grind
        exact ⟨r,w',E',q1,q2.trans this,by simp_all⟩
       | nslice _ _ _ _ b N cap hb' h1 h2 h3=>
        cases hown with
        | flat0 _ h0 hn=>rw [hn] at hb';cases hb'
        | flat _ b' cells elem fr vs hbb hw hf hc hv=>
         rw [hbb] at hb'
         cases hb'
         obtain ⟨vs',v1,v2,v3,v4,v5⟩:=hrel E vs hc
         have hvl:∀j,j<vs.length->j<cells.size:=fun j hj=>by
          have:=hv j vs[j] (J8 hj)
          grind
         have hnle:p.off+n<=vs.length:=by
          rcases JD n with h0|h0
          ·have:=(ZN _ _ _ _ hdc hc).2;omega
          ·have:=v5 (n-1) (by omega)
           rcases Jo (p.off+(n-1)) vs.length with h|h
           ·omega
           ·rw [Jv h] at this;cases this
         have hsz:p.tot+(ys.take len).length<=cells.size:=by
          rcases JD (p.tot+(ys.take len).length) with h0|h0
          ·omega
          ·have:=hvl (p.tot+(ys.take len).length-1) (by omega);omega
         obtain ⟨a1,a2,a3,a4,a5,a6⟩:=Yx (intCells k' (ys.take len).length (ys.take len)) p.tot w b cells elem fr hw
         have hwsz:=Y1 (intCells k' (ys.take len).length (ys.take len)) p.tot cells
         refine ⟨.int .i64 (ys.take len).length,w.setCells b p.tot (intCells k' (ys.take len).length (ys.take len)),E,by rw [Z2J ht hts hr];simp only [hwrite w b cells elem fr (ys.take len) hw hf hsz,J4], ?_,.int _ _⟩
         refine Yg he p.blk _ _ b cells.size hg hbb a2 a3 a4 a5 a6 (.flat _ b _ elem fr vs' (by rw [hwsz];exact hbb) a1 (fun o ho=>hf o (by rw [hwsz] at ho;exact ho)) v1 fun j c hj=> ?_)
         by_cases hin:p.tot<=j/\j<p.tot+(ys.take len).length
         ·have h5:=YX (intCells k' (ys.take len).length (ys.take len)) p.tot cells (j-p.tot) (by rw [Z9];exact hsz) (by rw [Z9];omega)
          rw [show p.tot+(j-p.tot)=j from by omega,Zj (by omega)] at h5
          have h6:=Zbg hsz2 (j:=j-p.tot) (by omega)
          have h7:=v3 (j-p.off) (by omega)
          rw [show p.off+(j-p.off)=j from by omega,hj,show j-p.off=p.inn+(j-p.tot) from by omega,h6] at h7
          rw [h5,h7]
         ·rw [Yw _ _ _ _ (by rw [Z9];omega)]
          apply hv
          by_cases hch:p.off<=j/\j<p.off+n
          ·have h7:=v3 (j-p.off) (by omega)
           have h8:=v5 (j-p.off) (by omega)
           rw [Z8N hsz2 (by omega)] at h7
           rw [show p.off+(j-p.off)=j from by omega] at h7 h8
           rw [h8,<-h7,hj]
          ·rw [<-v4 j (by omega)];exact hj
      ·exact hl.elim
     ·exact hl.elim
    ·exact hl.elim
   ·exact hl.elim
  ·exact hl.elim
 ·exact hl.elim
def Z1O (k:IntKind) (x y:Int):Int:=k.wrap (BitVec.ofInt k.bits x&&&BitVec.ofInt k.bits y).toNat
def bOr (k:IntKind) (x y:Int):Int:=k.wrap (BitVec.ofInt k.bits x|||BitVec.ofInt k.bits y).toNat
def Yz (k:IntKind) (x y:Int):Int:=k.wrap (BitVec.ofInt k.bits x^^^BitVec.ofInt k.bits y).toNat
def Ze4 (k:IntKind) (x y:Int):Int:=k.wrap (BitVec.ofInt k.bits x&&& ~~~(BitVec.ofInt k.bits y)).toNat
def Zx (k:IntKind) (x y:Int):Int:=k.wrap (x*2^(min y.toNat k.bits))
def Zo (k:IntKind) (x y:Int):Int:=x.fdiv (2^(min y.toNat k.bits))
def ZgB (op:BinOp) (k k':IntKind) (a b:Int) (K:AV->Prop):Prop:=
 match op with
 | .shl=>Z4 (0<=b) (K (.int k (Zx k a b)))
 | .shr=>Z4 (0<=b) (K (.int k (Zo k a b)))
 | op=>match decide (k=k') with
  | false=>False
  | true=>match op with
   | .add=>K (.int k (k.wrap (a+b)))
   | .sub=>K (.int k (k.wrap (a-b)))
   | .mul=>K (.int k (k.wrap (a*b)))
   | .quo=>Z4 (b≠0) (K (.int k (k.wrap (a.tdiv b))))
   | .rem=>Z4 (b≠0) (K (.int k (a.tmod b)))
   | .and=>K (.int k (Z1O k a b))
   | .or=>K (.int k (bOr k a b))
   | .xor=>K (.int k (Yz k a b))
   | .andNot=>K (.int k (Ze4 k a b))
   | .eql=>K (.bool (a==b))
   | .neq=>K (.bool (a !=b))
   | .lss=>K (.bool (decide (a<b)))
   | .leq=>K (.bool (decide (a<=b)))
   | .gtr=>K (.bool (decide (a>b)))
   | .geq=>K (.bool (decide (a>=b)))
   | .shl=>False
   | .shr=>False
theorem Ze5 {k k':IntKind} {a b:Int} (h:ZgB op k k' a b K) (P:Program) (T:TypeId):
  ∃v,K v/\∀(E:Env) (w:World),∃r,(binOp op T (.int k a) (.int k' b)).run P w=.ok r w/\Zc E v r:=by
 unfold ZgB at h
 split at h
 ·obtain ⟨h0,hK⟩:=Zd h
  refine ⟨_,hK,fun E w=>⟨_, ?_,.int _ _⟩⟩
  have hn:¬(b<0):=by omega
  simp [binOp,Op.shift,Zx,hn]
 ·obtain ⟨h0,hK⟩:=Zd h
  refine ⟨_,hK,fun E w=>⟨_, ?_,.int _ _⟩⟩
  have hn:¬(b<0):=by omega
  simp [binOp,Op.shift,Zo,hn]
 ·split at h
  ·simp_all
  ·rename_i hd
   rw [decide_eq_true_eq] at hd
   subst hd
   cases op<;>simp only at h
   case add=>exact ⟨_,h,fun E w=>⟨_,by simp [binOp,Op.intArith],.int _ _⟩⟩
   case sub=>exact ⟨_,h,fun E w=>⟨_,by simp [binOp,Op.intArith],.int _ _⟩⟩
   case mul=>exact ⟨_,h,fun E w=>⟨_,by simp [binOp,Op.intArith],.int _ _⟩⟩
   case quo=>obtain ⟨h0,hK⟩:=Zd h;exact ⟨_,hK,fun E w=>⟨_,by simp [binOp,Op.intDiv,h0],.int _ _⟩⟩
   case rem=>obtain ⟨h0,hK⟩:=Zd h;exact ⟨_,hK,fun E w=>⟨_,by simp [binOp,Op.intDiv,h0],.int _ _⟩⟩
   case and=>exact ⟨_,h,fun E w=>⟨_,by simp only [binOp,ne_eq,eq_false];rfl,.int _ _⟩⟩
   case or=>exact ⟨_,h,fun E w=>⟨_,by simp only [binOp,ne_eq,eq_false];rfl,.int _ _⟩⟩
   case xor=>exact ⟨_,h,fun E w=>⟨_,by simp only [binOp,ne_eq,eq_false];rfl,.int _ _⟩⟩
   case andNot=>exact ⟨_,h,fun E w=>⟨_,by simp only [binOp,ne_eq,eq_false];rfl,.int _ _⟩⟩
   case eql=>exact ⟨_,h,fun E w=>⟨_,by simp [binOp,Op.intCmp],.bool _⟩⟩
   case neq=>exact ⟨_,h,fun E w=>⟨_,by simp [binOp,Op.intCmp],.bool _⟩⟩
   case lss=>exact ⟨_,h,fun E w=>⟨_,by simp [binOp,Op.intCmp],.bool _⟩⟩
   case leq=>exact ⟨_,h,fun E w=>⟨_,by simp [binOp,Op.intCmp],.bool _⟩⟩
   case gtr=>exact ⟨_,h,fun E w=>⟨_,by simp [binOp,Op.intCmp],.bool _⟩⟩
   case geq=>exact ⟨_,h,fun E w=>⟨_,by simp [binOp,Op.intCmp],.bool _⟩⟩
def isNil:AV->Option Bool
 | .ptr none=>some true
 | .ptr (some _)=>some false
 | .pview _ _=>some false
 | .nilslice=>some true
 | .fslice=>some false
 | .vrows _ (_+1) _ _=>some false
 | .vints _ (_::_) _=>some false
 | .map none=>some true
 | .map (some _)=>some false
 | .nilFunc=>some true
 | .func _ _ _=>some false
 | .yield _=>some false
 | .nilIface=>some true
 | .iface _ _=>some false
 | _=>none
def Z5b:AV->Nat
 | .ptr _|.pview _ _=>1
 | .nilslice|.fslice|.vrows _ _ _ _|.vints _ _ _=>2
 | .map _=>3
 | .nilFunc|.func _ _ _|.yield _=>4
 | .nilIface|.iface _ _=>5
 | _=>0
def Ys:TypeDesc->Nat
 | .pointer _=>1
 | .slice _=>2
 | .map _ _=>3
 | .func _ _ _=>4
 | .interface _=>5
 | _=>0
def Z2L (P:Program) (T:TypeId) (x y:AV):Option Bool:=
 match P.underlying T with
 | some d=>match isNil x,isNil y with
  | some a,some b=>match a||b,Nat.beq (Ys d) (Z5b x)&&Nat.beq (Ys d) (Z5b y)&& !(Nat.beq (Ys d) 0) with
   | true,true=>some (a&&b)
   | _,_=>none
  | _,_=>none
 | none=>none
def YH:Value->Option Bool
 | .pointer p=>some p.isNone
 | .slice a _ _=>some a.isNone
 | .map m=>some m.isNone
 | .nilFunc=>some true
 | .func _ _ _=>some false
 | .nilIface=>some true
 | .iface _ _=>some false
 | _=>none
def ZW:Value->Nat
 | .pointer _=>1
 | .slice _ _ _=>2
 | .map _=>3
 | .nilFunc|.func _ _ _=>4
 | .nilIface|.iface _ _=>5
 | _=>0
theorem Z7o {x:AV} {a:Bool} (h:isNil x=some a) (hr:Zc E x r):YH r=some a/\ZW r=Z5b x:=by
 cases hr with
 | vints k xs len a' cap h1 h2 hi=>
  cases xs with
  | nil=>simp [isNil] at h
  | cons y ys=>simp [isNil] at h;subst h;exact ⟨rfl,rfl⟩
 | vintsNil k xs len h1 h2=>subst h1;simp [isNil] at h
 | vrows esz n f len a' cap g h1 h2 hc hl hi=>
  cases n with
  | zero=>simp [isNil] at h
  | succ n=>simp [isNil] at h;subst h;exact ⟨rfl,rfl⟩
 | vrowsNil esz n f len h1 h2=>subst h1;simp [isNil] at h
 | _=>first
  | (simp [isNil] at h;done)
  | (simp [isNil] at h;subst h;exact ⟨rfl,rfl⟩)
theorem Z5c {P:Program} {T:TypeId} {d:TypeDesc} (hu:P.underlying T=some d) {x y:Value} {a b:Bool} (hx:YH x=some a) (hy:YH y=some b) (hab:(a||b)=true) (kx:Ys d=ZW x) (ky:Ys d=ZW y) (n:Nat) (w:World):
  (Op.equalIn (n+1) T x y).run P w=.ok (a&&b) w:=by
 simp only [Op.equalIn,J6,Zb hu,J4]
 cases x with
 | pointer p=>cases y with
  | pointer q=>cases d<;>simp [Ys,ZW] at kx<;>cases p<;>cases q<;>simp [YH] at hx hy<;>subst hx<;>subst hy<;>simp at hab⊢
  | _=>simp [ZW] at kx ky;omega
 | slice p l c=>cases y with
  | slice q l' c'=>cases d<;>simp [Ys,ZW] at kx<;>cases p<;>cases q<;>simp [YH] at hx hy<;>subst hx<;>subst hy<;>simp at hab⊢
  | _=>simp [ZW] at kx ky;omega
 | map p=>cases y with
  | map q=>cases d<;>simp [Ys,ZW] at kx<;>cases p<;>cases q<;>simp [YH] at hx hy<;>subst hx<;>subst hy<;>simp at hab⊢
  | _=>simp [ZW] at kx ky;omega
 | nilFunc=>cases y with
  | nilFunc=>cases d<;>simp [Ys,ZW] at kx<;>simp [YH] at hx hy<;>subst hx<;>subst hy<;>simp
  | func f fs cs=>cases d<;>simp [Ys,ZW] at kx<;>simp [YH] at hx hy<;>subst hx<;>subst hy<;>simp
  | _=>simp [ZW] at kx ky;omega
 | func f fs cs=>cases y with
  | nilFunc=>cases d<;>simp [Ys,ZW] at kx<;>simp [YH] at hx hy<;>subst hx<;>subst hy<;>simp
  | func f' fs' cs'=>simp_all [YH]
  | _=>simp [ZW] at kx ky;omega
 | nilIface=>cases y with
  | nilIface=>cases d<;>simp [Ys,ZW] at kx<;>simp [YH] at hx hy<;>subst hx<;>subst hy<;>simp
  | iface t v=>cases d<;>simp [Ys,ZW] at kx<;>simp [YH] at hx hy<;>subst hx<;>subst hy<;>simp
  | _=>simp [ZW] at kx ky;omega
 | iface t v=>cases y with
  | nilIface=>cases d<;>simp [Ys,ZW] at kx<;>simp [YH] at hx hy<;>subst hx<;>subst hy<;>simp
  | iface t' v'=>simp_all [YH]
  | _=>simp [ZW] at kx ky;omega
 | _=>simp [YH] at hx
theorem Z1P {P:Program} {T:TypeId} {x y:AV} {b:Bool} (h:Z2L P T x y=some b) {w:World} (hx:Zc E x rx) (hy:Zc E y ry) (n:Nat):
  (Op.equalIn (n+1) T rx ry).run P w=.ok b w:=by
 unfold Z2L at h
 split at h
 ·split at h
  ·split at h
   ·grind [Z7o,Z5c,J0]
   ·cases h
  ·cases h
 ·cases h
theorem Z3Q {P:Program} {T:TypeId} {x y:AV} {b:Bool} (h:Z2L P T x y=some b) {w:World} (hx:Zc E x rx) (hy:Zc E y ry):
  (Op.equal T rx ry).run P w=.ok b w:=Z1P h hx hy 9999
def Zbj (P:Program) (neg:Bool) (T:TypeId) (x y:AV) (K:AV->Prop):Prop:=
 match x,y with
 | .bool a,.bool b=>match P.underlying T with
  | some .bool=>K (.bool (match neg with|true=> !(a==b)|false=>a==b))
  | _=>False
 | x,y=>match Z2L P T x y with
  | some b=>K (.bool (match neg with|true=> !b|false=>b))
  | none=>False
def ZhR (P:Program) (op:BinOp) (T:TypeId) (x y:AV) (K:AV->Prop):Prop:=
 match x,y with
 | .int k a,.int k' b=>ZgB op k k' a b K
 | .str a,.str b=>match op with
  | .eql=>K (.bool (a.toList==b.toList))
  | .neq=>K (.bool (!(a.toList==b.toList)))
  | _=>False
 | x,y=>match op with
  | .eql=>Zbj P false T x y K
  | .neq=>Zbj P true T x y K
  | _=>False
theorem Zc.notInt {v:AV} (h:Zc E v r) (hv:(∀k n,v≠.int k n)/\∀y,v≠.stamp y) (ht:v≠.top):∀k n,r≠.int k n:=by
 cases h
 all_goals simp_all
theorem Zc.notStr {v:AV} (h:Zc E v r) (hv:∀s,v≠.str s) (ht:v≠.top):∀s,r≠.string s:=by
 cases h
 all_goals simp_all
def Z2M:Operand->Bool
 | .const _=>true
 | _=>false
def Zbk (ox oy:Operand) (x y:AV):Bool:=
 match x,y with
 | .nilIface,.nilIface=>Z2M ox||Z2M oy
 | _,_=>true
def Z7p (P:Program) (op:BinOp) (T:TypeId) (ox oy:Operand) (x y:AV) (K:AV->Prop):Prop:=
 match Zbk ox oy x y with
 | true=>ZhR P op T x y K
 | false=>False
theorem Z68 {P:Program} {T:TypeId} {x y:AV} {b:Bool} (h:Z2L P T x y=some b):((∀k n,x≠.int k n)/\∀y,x≠.stamp y)/\(∀s,x≠.str s)/\x≠.top/\(∀cs,x≠.agg cs):=by
 grind [Z2L,isNil]
theorem Qn {P:Program} {T:TypeId} {b:Bool} {w:World} (neg:Bool) (hi:∀k n,rx≠.int k n) (hs:∀s,rx≠.string s) (hf:∀k n,rx≠.float k n) (hc:∀k m n,rx≠.complex k m n)
  (h:(Op.equal T rx ry).run P w=.ok b w):(binOp (match neg with|true=>.neq|false=>.eql) T rx ry).run P w=.ok (.bool (match neg with|true=> !b|false=>b)) w:=by
 cases neg<;>(unfold binOp;cases rx<;>simp_all)
theorem YV {P:Program} {T:TypeId} {w:World} (h1:rx=.nilIface->ry=.nilIface->(Z2M ox||Z2M oy)=true) (h2:∀a,rx≠.agg a):
  (eqGuard op T ox oy rx ry).run P w=.ok () w:=by
 unfold eqGuard
 cases rx with
 | agg a=>simp_all
 | nilIface=>
  cases ry with
  | nilIface=>
   have h:=h1 rfl rfl
   cases ox<;>cases oy<;>cases op<;>simp [Z2M] at h⊢
  | _=>cases op<;>simp
 | _=>cases op<;>simp
theorem Zc.forms {v:AV} (h:Zc E v r) (ht:v≠.top):(∀k n,r≠.float k n)/\(∀k m n,r≠.complex k m n)/\(r=.nilIface->v=.nilIface)/\((∃a,r=.agg a)->∃cs,v=.agg cs):=by
 cases h<;>simp at ht⊢
theorem Za0 {P:Program} {T:TypeId} {x y:AV} (h:Z7p P op T ox oy x y K):
  ∃v,K v/\∀(E:Env) (w:World) (rx ry:Value),Zc E x rx->Zc E y ry->∃r,(do eqGuard op T ox oy rx ry;binOp op T rx ry).run P w=.ok r w/\Zc E v r:=by
 unfold Z7p at h
 split at h
 ·rename_i hg
  unfold ZhR at h
  split at h
  ·rename_i k a k' b
   obtain ⟨v,hK,hv⟩:=Ze5 h P T
   refine ⟨v,hK,fun E w rx ry hx hy=> ?_⟩
   cases hx;cases hy
   simp_all [YV]
  ·rename_i a b
   split at h
   ·refine ⟨_,h,fun E w rx ry hx hy=> ?_⟩
    cases hx;cases hy
    refine ⟨_, ?_,.bool _⟩
    rw [J6,YV (by simp) (by simp)]
    simp [binOp,Op.stringOp]
   ·refine ⟨_,h,fun E w rx ry hx hy=> ?_⟩
    cases hx;cases hy
    refine ⟨_, ?_,.bool _⟩
    rw [J6,YV (by simp) (by simp)]
    simp [binOp,Op.stringOp]
   simp_all
  ·rename_i hn1 hn2
   have key:∀neg:Bool,Zbj P neg T x y K->∃v,K v/\∀(E:Env) (w:World) (rx ry:Value),Zc E x rx->Zc E y ry->
     ∃r,(do eqGuard (match neg with|true=>.neq|false=>.eql) T ox oy rx ry;binOp (match neg with|true=>.neq|false=>.eql) T rx ry).run P w=.ok r w/\Zc E v r:=by
    intro neg h
    by_cases hbb:∃a b,x=.bool a/\y=.bool b
    ·obtain ⟨a,b,rfl,rfl⟩:=hbb
     simp only [Zbj] at h
     split at h
     ·rename_i hu
      refine ⟨_,h,fun E w rx ry hx hy=> ?_⟩
      cases hx;cases hy
      refine ⟨_, ?_,.bool _⟩
      rw [J6,YV (by simp) (by simp)]
      have he:(Op.equal T (.bool a) (.bool b)).run P w=.ok (a==b) w:=by
       have:∀n,(Op.equalIn (n+1) T (.bool a) (.bool b)).run P w=.ok (a==b) w:=fun n=>by simp [Op.equalIn,Zb hu]
       exact this 9999
      simp_all [Qn]
     simp_all
    ·unfold Zbj at h
     split at h
     ·simp_all
     split at h
     ·rename_i b hb
      obtain ⟨f1,f2,f3,f4⟩:=Z68 hb
      refine ⟨_,h,fun E w rx ry hx hy=> ?_⟩
      refine ⟨_, ?_,.bool _⟩
      obtain ⟨q1,q2,q3,q4⟩:=hx.forms f3
      rw [J6,YV (fun e1 e2=> ?_) (fun a e=> ?_)]
      ·exact Qn neg (hx.notInt f1 f3) (hx.notStr f2 f3) q1 q2 (Z3Q hb hx hy)
      ·have:=q3 e1
       subst this
       subst e2
       cases hy with
       | top v=>simp [Z2L,isNil] at hb;split at hb<;>simp at hb
       | nilIface=>simpa [Zbk] using hg
      simp_all
     simp_all
   split at h
   all_goals simp_all
 simp_all
def Z7q:Value->AV
 | .bool b=>.bool b
 | .int k n=>.int k n
 | .string s=>.str s
 | .pointer none=>.ptr none
 | .slice none 0 0=>.nilslice
 | .map none=>.map none
 | .nilFunc=>.nilFunc
 | .nilIface=>.nilIface
 | _=>.top
def aev (t:ZM):Operand->AV
 | .tmp x=>match ZD t x with|some v=>v|none=>.top
 | .const v=>Z7q v
 | .global _=>.top
 | .func f=>.func (.func f) [] []
theorem Z7r (E:Env) (v:Value):Zc E (Z7q v) v:=by
 unfold Z7q
 split<;>first|exact .bool _|exact .int _ _|exact .str _|exact .nilptr|exact .nilslice|exact .nilmap|exact .nilFunc|exact .nilIface|exact .top _
theorem Zk {n:Nat} {t:ZM} {a:Act} (h:V8 E n t a.tmps) (o:Operand):Zc E (aev t o) (a.eval o):=by
 cases o with
 | tmp x=>
  simp only [aev]
  cases hg:ZD t x with
  | some v=>exact h.get x v hg
  | none=>exact .top _
 | const v=>exact Z7r E v
 | global g=>exact .top _
 | func f=>exact .func (.func f) [] [] [] [] .nil .nil
theorem Z2N {n:Nat} {t:ZM} {a:Act} (h:V8 E n t a.tmps) (o:Option Operand):Z2y E (o.map (aev t)) (o.map a.eval):=by
 cases o with
 | none=>exact .none
 | some x=>exact .some _ _ (Zk h x)
def Z5d (t:ZM):List Operand->List AV
 | []=>[]
 | x::r=>aev t x::Z5d t r
theorem Vj {E:Env} {n:Nat} {t:ZM} {a:Act} (h:V8 E n t a.tmps):∀l:List Operand,Zt E (Z5d t l) (l.map a.eval)
 | []=>.nil
 | x::r=>.cons _ _ _ _ (Zk h x) (Vj h r)
def Zbl (t:ZM):List (Nat×Operand)->List (Nat×AV)
 | []=>[]
 | (i,x)::r=>(i,aev t x)::Zbl t r
theorem Uj {E:Env} {n:Nat} {t:ZM} {a:Act} (h:V8 E n t a.tmps):∀l:List (Nat×Operand),Z56 E (Zbl t l) (l.map fun x=>(x.1,a.eval x.2))
 | []=>.nil
 | (_,x)::r=>.cons _ _ _ _ _ (Zk h x) (Uj h r)
def unA (op:UnOp) (x:AV) (K:AV->Prop):Prop:=
 match op,x with
 | .not,.bool b=>K (.bool (!b))
 | .neg,.int k n=>K (.int k (k.wrap (0-n)))
 | .xor,.int k n=>K (.int k (Yz k (if k.signed then -1 else k.max) n))
 | _,_=>False
theorem ZgC {op:UnOp} {x:AV} (h:unA op x K) (P:Program):
  ∃v,K v/\∀(E:Env) (w:World) (r:Value),Zc E x r->∃r',(Op.unary op r).run P w=.ok r' w/\Zc E v r':=by
 unfold unA at h
 split at h
 ·exact ⟨_,h,fun E w r hx=>by cases hx;exact ⟨_,by simp [Op.unary],.bool _⟩⟩
 ·exact ⟨_,h,fun E w r hx=>by cases hx;exact ⟨_,by grind [Op.unary,Op.intArith,Jf],.int _ _⟩⟩
 ·exact ⟨_,h,fun E w r hx=>by cases hx;exact ⟨_,by rfl,.int _ _⟩⟩
 simp_all
def Zbm (P:Program) (s d:TypeId) (x:AV) (K:AV->Prop):Prop:=
 match P.underlying s,P.underlying d with
 | some (.int _),some (.int k)=>match x with
  | .int _ n=>K (.int k (k.wrap n))
  | _=>False
 | some .string,some .string=>match x with
  | .str b=>K (.str b)
  | _=>False
 | _,_=>False
theorem Zbn {P:Program} {s d:TypeId} {x:AV} (h:Zbm P s d x K):
  ∃v,K v/\∀(E:Env) (w:World) (r:Value),Zc E x r->∃r',(convert s d r).run P w=.ok r' w/\Zc E v r':=by
 unfold Zbm at h
 split at h
 ·split at h
  ·exact ⟨_,h,fun E w r hx=>by cases hx;exact ⟨_,by simp_all [convert,Zb,Conv.intToInt],.int _ _⟩⟩
  simp_all
 ·split at h
  ·exact ⟨_,h,fun E w r hx=>by cases hx;exact ⟨_,by simp_all [convert,Zb],.str _⟩⟩
  simp_all
 simp_all
def Za1:List AV->Nat->Option AV
 | [],_=>none
 | v::_,0=>some v
 | _::r,n+1=>Za1 r n
theorem Z69 {E:Env}:∀{vs:List AV} {rs:List Value} (i:Nat) (v:AV),Zt E vs rs->Za1 vs i=some v->∃r,rs[i]? =some r/\Zc E v r
 | [],_,_,_,_,h=>by simp [Za1] at h
 | _::_,_,0,v,.cons _ c _ _ hv _,h=>by simp_all [Za1]
 | _::_,_,i+1,v,.cons _ _ _ _ _ t,h=>by
  obtain ⟨r,h1,h2⟩:=Z69 i v t (by simpa [Za1] using h)
  exact ⟨r,by simpa using h1,h2⟩
def Z2O (x:AV) (i:Nat) (K:AV->Prop):Prop:=
 match x with
 | .tuple vs=>match Za1 vs i with
  | some v=>K v
  | none=>False
 | _=>False
theorem Z6a {x:AV} {i:Nat} (h:Z2O x i K) (P:Program):
  ∃v,K v/\∀(E:Env) (w:World) (r:Value),Zc E x r->∃r',(Instr.extract r i).run P w=.ok r' w/\Zc E v r':=by
 unfold Z2O at h
 split at h
 ·split at h
  ·rename_i v hv
   refine ⟨v,h,fun E w r hx=> ?_⟩
   cases hx with
   | tuple vs rs hl=>
    obtain ⟨r',h1,h2⟩:=Z69 i v hl hv
    simp_all [Instr.extract]
  simp_all
 simp_all
def Z0a (P:Program) (t:TypeId) (cs:List AV) (off:Nat) (K:AV->Prop):Prop:=
 match Ym off cs with
 | some rest=>match Uf P t,ZS P t with
  | some true,some s=>match takeC s rest with
   | some front=>K (.agg front)
   | none=>False
  | some false,_=>match rest with
   | []=>False
   | .arr _ _ _::_=>False
   | v::_=>K v
  | _,_=>False
 | none=>False
theorem WD {P:Program} {t:TypeId} {off:Nat} (h:Z0a P t cs off K):
  ∃v,K v/\∀(E:Env) (w:World) (vs:List Value),Zm E cs vs->∃r,(part t vs.toArray off).run P w=.ok r w/\Zc E v r:=by
 unfold Z0a at h
 split at h
 ·rename_i rest hd
  split at h
  ·rename_i s hag hs
   split at h
   ·rename_i front hf
    refine ⟨_,h,fun E w vs hc=> ?_⟩
    obtain ⟨h1,h2⟩:=ZN cs off rest vs hd hc
    obtain ⟨h3,h4⟩:=Vh rest s front _ hf h1
    refine ⟨.agg ((vs.drop off).take s).toArray, ?_,.agg _ _ h3⟩
    simp only [part,J6,Vi hag,J4,if_true,run_sizeOf hs]
    simp_all
   simp_all
  ·rename_i hag
   cases rest with
   | nil=>simp_all
   | cons v r=>
    by_cases hv:∃k m xs,v=.arr k m xs
    ·grind
    ·have hv':∀k m xs,v≠.arr k m xs:=fun k m xs e=>hv ⟨k,m,xs,e⟩
     have hK:K v:=by cases v<;>first|simp_all
     refine ⟨v,hK,fun E w vs hc=> ?_⟩
     obtain ⟨h1,h2⟩:=ZN cs off _ vs hd hc
     obtain ⟨c,ws,hw,_,_,hr,_⟩:=h1.cons_cell hv'
     refine ⟨c, ?_,hr⟩
     have:vs[off]? =some c:=by
      have:=congrArg (fun l=>l[0]?) hw
      grind
     simp [part,Vi hag,this]
  simp_all
 simp_all
def Z7s (P:Program) (S:TypeId) (x:AV) (f:Nat) (K:AV->Prop):Prop:=
 match P.underlying S with
 | some (.struct fields)=>match fields[f]? with
  | some fd=>match x with
   | .agg cs=>Z0a P fd.type cs fd.offset K
   | _=>False
  | none=>False
 | _=>False
theorem Za2 {P:Program} {S:TypeId} {x:AV} {f:Nat} (h:Z7s P S x f K):
  ∃v,K v/\∀(E:Env) (w:World) (r:Value),Zc E x r->∃r',(Instr.field S r f).run P w=.ok r' w/\Zc E v r':=by
 unfold Z7s at h
 split at h
 ·split at h
  ·split at h
   ·obtain ⟨v,hK,hv⟩:=WD h
    refine ⟨v,hK,fun E w r hx=> ?_⟩
    cases hx with
    | agg cs vs hc=>
     simp_all [Instr.field,Zb,asAgg]
   simp_all
  simp_all
 simp_all
def Z8O:List UInt8->Nat->Nat
 | [],_=>0
 | a::_,0=>a.toNat
 | _::r,n+1=>Z8O r n
theorem Z6b:∀(l:List UInt8) (i:Nat) (h:i<l.length),Z8O l i=l[i].toNat
 | _::_,0,_=>rfl
 | _::r,n+1,h=>by simpa [Z8O] using Z6b r n (by simpa using h)
def Z7t (P:Program) (T:TypeId) (x i:AV) (K:AV->Prop):Prop:=
 match P.underlying T,x,i with
 | some (.array n e),.agg [.arr k m xs],.int _ i=>match YY P e,ZS P e,Nat.beq m n with
  | true,some 1,true=>Z4 (0<=i/\i<n) (K (.int k (xs.getD i.toNat 0)))
  | _,_,_=>False
 | some (.array n e),.agg cs,.int _ i=>match ZS P e with
  | some s=>Z4 (0<=i/\i<n) (Z0a P e cs (i.toNat*s) K)
  | none=>False
 | some .string,.str s,.int _ i=>Z4 (0<=i/\i<s.size) (K (.int .u8 (Z8O s.data.toList i.toNat)))
 | _,_,_=>False
theorem Za3 {P:Program} {T:TypeId} {x i:AV} (h:Z7t P T x i K):
  ∃v,K v/\∀(E:Env) (w:World) (r ri:Value),Zc E x r->Zc E i ri->∃r',(Instr.index T r ri).run P w=.ok r' w/\Zc E v r':=by
 unfold Z7t at h
 split at h
 ·rename_i n e k m xs ki i hu
  split at h
  ·rename_i he hs hb
   obtain ⟨⟨h0,h1⟩,hK⟩:=Zd h
   refine ⟨_,hK,fun E w r ri hx hi=> ?_⟩
   cases hi
   cases hx with
   | agg cs vs hc=>
    obtain ⟨ws,rfl,hn⟩:=hc.cons_arr
    cases hn
    refine ⟨_, ?_,.int _ _⟩
    have hag:Uf P e=some false:=by
     grind [YY,Uf]
    simp only [Instr.index,asIntOf,J6,Jf,J4,Zb hu,h0,h1,and_self,if_true,run_sizeOf hs,part,Vi hag,if_false]
    simp_all [Zj]
  simp_all
 ·split at h
  ·obtain ⟨⟨h0,h1⟩,h⟩:=Zd h
   obtain ⟨v,hK,hv⟩:=WD h
   refine ⟨v,hK,fun E w r ri hx hi=> ?_⟩
   cases hi
   cases hx with
   | agg cs vs hc=>
    simp_all [Instr.index,asIntOf,Zb,run_sizeOf]
  simp_all
 ·rename_i s k i hu
  obtain ⟨⟨h0,h1⟩,hK⟩:=Zd h
  refine ⟨_,hK,fun E w r ri hx hi=> ?_⟩
  cases hi
  cases hx
  refine ⟨_, ?_,.int _ _⟩
  have h2:i.toNat<s.size:=by omega
  simp [Instr.index,asIntOf,J6,J4,Zb hu,h0,h1,h2]
  rw [Z6b _ _ (by simpa using h2)]
  rfl
 simp_all
def Wn (P:Program) (t:TypeId):Option AV:=
 match Z07 P t with
 | some cs=>match P.info? t with
  | some i=>match i.zero with
   | some (.agg _)=>some (.agg cs)
   | some _=>match cs with
    | [.arr _ _ _]=>none
    | [v]=>some v
    | _=>none
   | none=>none
  | none=>none
 | none=>none
theorem Xe {P:Program} {t:TypeId} {v:AV} (h:Wn P t=some v):∃z,(∀w,(zeroValue t).run P w=.ok z w)/\∀E,Zc E v z:=by
 unfold Wn at h
 split at h
 ·rename_i cs hz
  obtain ⟨z,hz1,hz2⟩:=WB hz
  split at h
  ·rename_i i hi
   have hzz:∀z',i.zero=some z'->z=z':=fun z' hz'=>by
    simp_all [zeroValue,typeInfo]
   split at h
   ·rename_i a ha
    injection h with h
    subst h
    have:=hzz _ ha
    subst this
    refine ⟨_,hz1,fun E=> ?_⟩
    have:=Zc.agg cs _ (hz2 E)
    simpa [Value.cells] using this
   ·rename_i z' hna hz'
    have:=hzz _ hz'
    subst this
    split at h
    ·cases h
    ·rename_i v' hv'
     refine ⟨_,hz1,fun E=> ?_⟩
     obtain ⟨c,ws,hw,_,_,hr,_⟩:=(hz2 E).cons_cell (fun k m xs e=>hv' k m xs e)
     have:z.cells= #[z]:=by
      cases z<;>first|rfl|simp_all
     simp_all
    ·cases h
   ·cases h
  ·cases h
 ·cases h
def Uk (P:Program) (x:AV) (asserted:TypeId) (ok:Bool) (K:AV->Prop):Prop:=
 match P.underlying asserted with
 | some (.interface _)=>False
 | none=>False
 | some _=>match x with
  | .iface t v=>match Nat.beq t asserted with
   | true=>match ok with
    | true=>K (.tuple [v,.bool true])
    | false=>K v
   | false=>match ok,Wn P asserted with
    | true,some z=>K (.tuple [z,.bool false])
    | _,_=>False
  | .nilIface=>match ok,Wn P asserted with
   | true,some z=>K (.tuple [z,.bool false])
   | _,_=>False
  | _=>False
theorem Z2P {P:Program} {x:AV} {xt asserted:TypeId} {ok:Bool} (h:Uk P x asserted ok K):
  ∃v,K v/\∀(E:Env) (w:World) (r:Value),Zc E x r->∃r',(Instr.typeAssert r xt asserted ok).run P w=.ok r' w/\Zc E v r':=by
 unfold Uk at h
 split at h
 ·simp_all
 ·simp_all
 ·rename_i d hni hu
  have hd:∀ms,d≠.interface ms:=fun ms e=>hni ms (by rw [e])
  split at h
  ·rename_i t v
   split at h
   ·rename_i hb
    have ht:t=asserted:=J0 hb
    subst ht
    split at h
    ·refine ⟨_,h,fun E w r hx=> ?_⟩
     cases hx with
     | iface t v x hv=>
      refine ⟨.tuple #[x,.bool true], ?_, ?_⟩
      ·simp only [Instr.typeAssert,J6,Zb hu,J4]
       cases d<;>first|exact absurd rfl (hd _)|simp
      ·have:=Zc.tuple [v,.bool true] [x,.bool true] (.cons _ _ _ _ hv (.cons _ _ _ _ (.bool true) .nil)) (E:=E)
       omega
    ·refine ⟨_,h,fun E w r hx=> ?_⟩
     cases hx with
     | iface t v x hv=>
      refine ⟨x, ?_,hv⟩
      simp only [Instr.typeAssert,J6,Zb hu,J4]
      cases d<;>first|simp
   ·rename_i hb
    have ht:t≠asserted:=fun e=>by rw [e,Jj] at hb;cases hb
    split at h
    ·rename_i z hz
     obtain ⟨zr,hz1,hz2⟩:=Xe hz
     refine ⟨_,h,fun E w r hx=> ?_⟩
     cases hx with
     | iface t v x hv=>
      refine ⟨.tuple #[zr,.bool false], ?_, ?_⟩
      ·simp only [Instr.typeAssert,J6,Zb hu,J4]
       cases d<;>first|simp [ht,hz1]
      ·have:=Zc.tuple [z,.bool false] [zr,.bool false] (.cons _ _ _ _ (hz2 E) (.cons _ _ _ _ (.bool false) .nil)) (E:=E)
       omega
    simp_all
  ·split at h
   ·rename_i z hz
    obtain ⟨zr,hz1,hz2⟩:=Xe hz
    refine ⟨_,h,fun E w r hx=> ?_⟩
    cases hx
    refine ⟨.tuple #[zr,.bool false], ?_, ?_⟩
    ·simp only [Instr.typeAssert,J6,Zb hu]
     cases d<;>first|simp [hz1]
    ·have:=Zc.tuple [z,.bool false] [zr,.bool false] (.cons _ _ _ _ (hz2 E) (.cons _ _ _ _ (.bool false) .nil)) (E:=E)
     omega
   simp_all
  simp_all
def Z43 (x:AV) (K:AV->Prop):Prop:=
 match x with
 | .ptr (some p)=>K (.ptr (some p))
 | .pview cs inn=>K (.pview cs inn)
 | .func (.func f) a b=>K (.func (.func f) a b)
 | .yield y=>K (.yield y)
 | _=>False
def Z6c (P:Program) (T:TypeId) (x:AV) (K:AV->Prop):Prop:=
 match P.underlying T with
 | some (.interface _)=>False
 | none=>False
 | some _=>K (.iface T x)
def Z44 (k:IntKind) (n:Int) (some_:AV->Prop) (none_:Prop):List (AV×AV)->Prop
 | []=>none_
 | (.int k' c,v)::r=>Z4 (k=k') (Z8 (decide (n=c)) (some_ v) (Z44 k n some_ none_ r))
 | _::_=>False
def Ul (P:Program) (T:TypeId):Option TypeId:=
 match P.underlying T with
 | some (.map kt et)=>match P.underlying kt with
  | some (.int _)=>some et
  | _=>none
 | _=>none
theorem Z0S {P:Program} {T et:TypeId} (h:Ul P T=some et):∃kt k,P.underlying T=some (.map kt et)/\P.underlying kt=some (.int k):=by
 grind [Ul]
theorem Zc.int_inv {k:IntKind} {c:Int} (h:Zc E (.int k c) r):r=.int k c:=by cases h;rfl
theorem Z2Q {k:IntKind} {n:Int} {S:AV->Prop} {N:Prop}:∀(es:List (AV×AV)),Z44 k n S N es->
  (∃v,S v/\∀(E:Env) (ents:List MapEntry) (i:Nat),Zt E (es.map (·.1)) (ents.map (·.key))->Zt E (es.map (·.2)) (ents.map (·.val))->∃j r,Zc E v r/\Instr.findNow (.int kk) (.int k n) ents i=some (some (j,r)))\/
  (N/\∀(E:Env) (ents:List MapEntry) (i:Nat),Zt E (es.map (·.1)) (ents.map (·.key))->Zt E (es.map (·.2)) (ents.map (·.val))->Instr.findNow (.int kk) (.int k n) ents i=some none):=by
 intro es
 induction es with
 | nil=>
  intro hh
  refine .inr ⟨hh,fun E ents i hk _=> ?_⟩
  cases ents with
  | nil=>rfl
  | cons e r=>cases hk
 | cons p r ih=>
  obtain ⟨kv,v⟩:=p
  intro hh
  cases kv with
  | int k' c=>
   simp only [Z44] at hh
   obtain ⟨rfl,hh⟩:=Zd hh
   by_cases hnc:n=c
   ·subst hnc
    simp only [true] at hh
    refine .inl ⟨v,hh,fun E ents i hk hv=> ?_⟩
    cases ents with
    | nil=>cases hk
    | cons e es''=>
     cases hk with
     | cons _ _ _ _ hk1 hk2=>
      cases hv with
      | cons _ _ _ _ hv1 hv2=>
       have hke:e.key=.int k n:=hk1.int_inv
       simp_all [Instr.findNow,Instr.sameNow]
   ·simp only [hnc,decide_false] at hh
    rcases ih hh with ⟨v',h1,h2⟩|⟨h1,h2⟩
    ·refine .inl ⟨v',h1,fun E ents i hk hv=> ?_⟩
     cases ents with
     | nil=>cases hk
     | cons e es''=>
      cases hk with
      | cons _ _ _ _ hk1 hk2=>
       cases hv with
       | cons _ _ _ _ hv1 hv2=>
        have hke:e.key=.int k c:=hk1.int_inv
        obtain ⟨j,r',h3,h4⟩:=h2 E es'' (i+1) hk2 hv2
        grind [Instr.findNow,Instr.sameNow]
    ·refine .inr ⟨h1,fun E ents i hk hv=> ?_⟩
     cases ents with
     | nil=>cases hk
     | cons e es''=>
      cases hk with
      | cons _ _ _ _ hk1 hk2=>
       cases hv with
       | cons _ _ _ _ hv1 hv2=>
        have hke:e.key=.int k c:=hk1.int_inv
        grind [Instr.findNow,Instr.sameNow]
  | _=>exact hh.elim
theorem ZE {P:Program} {w:World} {r:Nat} (hb:w.heap[r]? =some (.map es clock)):(getObj r).run P w=.ok (.map es clock) w:=by
 simp [getObj,Sem.run,hb]
theorem Y6 {P:Program} {kt:TypeId} {k:IntKind} (hk:P.underlying kt=some (.int k)) (empty:Bool) (n:Nat) (v:Value) (w:World):(Instr.checkKey empty (n+1) kt v).run P w=.ok () w:=by
 simp [Instr.checkKey,run_underlying hk]
def okV (ok:Bool) (v:AV) (b:Bool):AV:=match ok with|true=>.tuple [v,.bool b]|false=>v
theorem XY {k kk:IntKind} {n:Int}:∀(ents:List MapEntry) (i:Nat),(∀e∈ents,∃c,e.key=.int k c)->
  (∃j e,e∈ents/\e.key=.int k n/\Instr.findNow (.int kk) (.int k n) ents i=some (some (j,e.val)))\/((∀e∈ents,e.key≠.int k n)/\Instr.findNow (.int kk) (.int k n) ents i=some none)
 | [],i,_=>.inr ⟨by simp,rfl⟩
 | e::r,i,h=>by
  obtain ⟨c,hc⟩:=h e (by simp)
  by_cases hn:n=c
  ·subst hn
   exact .inl ⟨i,e,by simp,hc,by simp [Instr.findNow,hc,Instr.sameNow]⟩
  ·have hb:(n==c)=false:=by simpa using hn
   have hs:Instr.findNow (.int kk) (.int k n) (e::r) i=Instr.findNow (.int kk) (.int k n) r (i+1):=by simp [Instr.findNow,hc,Instr.sameNow,hb]
   rw [hs]
   rcases XY r (i+1) (fun q hq=>h q (by simp [hq])) with ⟨j,q,h1,h2,h3⟩|⟨h1,h2⟩
   ·exact .inl ⟨j,q,by simp [h1],h2,h3⟩
   ·refine .inr ⟨fun q hq=> ?_,h2⟩
    rcases J7.1 hq with rfl|hq
    ·rw [hc]
     intro he
     injection he with _ he
     exact hn he.symm
    ·exact h1 q hq
theorem Z0b {k k2:IntKind} {n:Int} (hp:ents'.Perm ents) (hn:(ents'.map (·.key)).Nodup) (hi:∀e∈ents',∃c,e.key=.int k2 c) {o:Option Value}
  (h:∃q,Instr.findNow (.int kk) (.int k n) ents' 0=some q/\q.map (·.2)=o):∃q,Instr.findNow (.int kk) (.int k n) ents 0=some q/\q.map (·.2)=o:=by
 obtain ⟨q,h1,h2⟩:=h
 by_cases hkk:k=k2
 ·subst hkk
  have hi2:∀e∈ents,∃c,e.key=.int k c:=fun e he=>hi e (hp.mem_iff.2 he)
  rcases XY (kk:=kk) (n:=n) ents' 0 hi with ⟨j,e,g1,g2,g3⟩|⟨g1,g3⟩
  ·rcases XY (kk:=kk) (n:=n) ents 0 hi2 with ⟨j',e',f1,f2,f3⟩|⟨f1,f3⟩
   ·refine ⟨_,f3, ?_⟩
    rw [h1] at g3
    injection g3 with g3
    rw [<-h2,g3]
    have:e'=e:=by
     have he':=hp.mem_iff.2 f1
     have:=List.pairwise_map.1 hn
     by_cases hee:e'=e
     ·exact hee
     ·obtain ⟨i1,l1,rfl⟩:=Ju he'
      obtain ⟨i2,l2,rfl⟩:=Ju g1
      have hpw:=Jk.1 this
      grind
    rw [this];rfl
   grind
  grind [XY]
 ·cases ents' with
  | nil=>simp_all
  | cons e r=>
   obtain ⟨c,hc⟩:=hi e (by simp)
   simp_all [Instr.findNow,Instr.sameNow]
def Z5e (P:Program) (h:Z6) (T:TypeId) (m key:AV) (ok:Bool) (K:AV->Prop):Prop:=
 match Ul P T with
 | some et=>match Wn P et with
  | some z=>match m,key with
   | .map none,.int _ _=>K (okV ok z false)
   | .map (some x),.int k n=>match h.get x with
    | some (.map es)=>Z44 k n (fun v=>K (okV ok v true)) (K (okV ok z false)) es
    | some (.pmap es)=>Z44 k n (fun v=>K (okV ok v true)) (K (okV ok z false)) es
    | _=>False
   | _,_=>False
  | none=>False
 | none=>False
theorem XT {ok b:Bool} {v:AV} (h:Zc E v r):Zc E (okV ok v b) (if ok then .tuple #[r,.bool b] else r):=by
 cases ok with
 | true=>
  have:=Zc.tuple [v,.bool b] [r,.bool b] (.cons _ _ _ _ h (.cons _ _ _ _ (.bool b) .nil)) (E:=E)
  simpa [okV] using this
 | false=>simpa [okV] using h
theorem Z7u {P:Program} {h:Z6} {T:TypeId} {m key:AV} {ok:Bool} (hl:Z5e P h T m key ok K):
  ∃v,K v/\∀(E:Env) (w:World) (rm rk:Value),Emb E h w->Zc E m rm->Zc E key rk->∃r,(Instr.lookup T rm rk ok).run P w=.ok r w/\Zc E v r:=by
 unfold Z5e at hl
 split at hl
 ·rename_i et het
  obtain ⟨kt,kk,hT,hkt⟩:=Z0S het
  split at hl
  ·rename_i z hz
   obtain ⟨zr,hz1,hz2⟩:=Xe hz
   split at hl
   ·rename_i k n
    refine ⟨_,hl,fun E w rm rk he hm hk=> ?_⟩
    cases hm
    simp_all [XT,Instr.lookup,run_underlying,Y6,Instr.findKey,Instr.findNow]
   ·split at hl
    ·rename_i es hg
     rcases Z2Q (kk:=kk) es hl with ⟨v,h1,h2⟩|⟨h1,h2⟩
     ·refine ⟨_,h1,fun E w rm rk he hm hk=> ?_⟩
      cases hm with
      | map _ b N hb=>
       cases hk
       have hown:=he.own _ _ hg
       cases hown with
       | map _ b' ents clock hbb hw hkk hvv hbn=>
        rw [hbb] at hb
        cases hb
        obtain ⟨j,r,h3,h4⟩:=h2 E ents 0 hkk hvv
        refine ⟨_, ?_,XT h3⟩
        simp only [Instr.lookup,J6,run_underlying hT,J4,Jf,ZE hw,Y6 hkt _ 9999,Instr.findKey,run_underlying hkt,h4]
     ·refine ⟨_,h1,fun E w rm rk he hm hk=> ?_⟩
      cases hm with
      | map _ b N hb=>
       cases hk
       have hown:=he.own _ _ hg
       cases hown with
       | map _ b' ents clock hbb hw hkk hvv hbn=>
        rw [hbb] at hb
        cases hb
        refine ⟨_, ?_,XT (hz2 E)⟩
        simp only [Instr.lookup,J6,run_underlying hT,J4,Jf,ZE hw,Y6 hkt _ 9999,Instr.findKey,run_underlying hkt,h2 E ents 0 hkk hvv,hz1]
    ·rename_i es hg
     rcases Z2Q (kk:=kk) es hl with ⟨v,h1,h2⟩|⟨h1,h2⟩
     ·refine ⟨_,h1,fun E w rm rk he hm hk=> ?_⟩
      cases hm with
      | map _ b N hb=>
       cases hk
       have hown:=he.own _ _ hg
       cases hown with
       | pmap _ b' k2 ents ents' clock hbb hw hp hn hi hkk hvv=>
        rw [hbb] at hb
        cases hb
        obtain ⟨j,r,h3,h4⟩:=h2 E ents' 0 hkk hvv
        obtain ⟨q,h5,h6⟩:=Z0b hp hn hi ⟨_,h4,rfl⟩
        cases q with
        | none=>cases h6
        | some jr=>
         cases h6
         refine ⟨_, ?_,XT h3⟩
         simp only [Instr.lookup,J6,run_underlying hT,J4,Jf,ZE hw,Y6 hkt _ 9999,Instr.findKey,run_underlying hkt,h5]
     ·refine ⟨_,h1,fun E w rm rk he hm hk=> ?_⟩
      cases hm with
      | map _ b N hb=>
       cases hk
       have hown:=he.own _ _ hg
       cases hown with
       | pmap _ b' k2 ents ents' clock hbb hw hp hn hi hkk hvv=>
        rw [hbb] at hb
        cases hb
        obtain ⟨q,h5,h6⟩:=Z0b hp hn hi ⟨_,h2 E ents' 0 hkk hvv,rfl⟩
        cases q with
        | some jr=>cases h6
        | none=>
         refine ⟨_, ?_,XT (hz2 E)⟩
         simp only [Instr.lookup,J6,run_underlying hT,J4,Jf,ZE hw,Y6 hkt _ 9999,Instr.findKey,run_underlying hkt,h5,hz1]
    simp_all
   simp_all
  simp_all
 simp_all
theorem Y7 {P:Program} {w:World} {r:Nat} (o:Obj) (hb:w.heap[r]? =some (.map es clock)):(setObj r o).run P w=.ok () { w with heap:=w.heap.setIfInBounds r o}:=by
 simp [setObj,Sem.run,hb]
def Z5f (P:Program) (h:Z6) (T:TypeId) (m key v:AV) (K:Z6->Prop):Prop:=
 match Ul P T,m,key with
 | some _,.map (some x),.int k n=>match h.get x with
  | some (.map es)=>Z44 k n (fun _=>False) (K (h.set x (.map (es++[(.int k n,v)])))) es
  | _=>False
 | _,_,_=>False
theorem Zt.snoc {vs:List AV} {rs:List Value} {v:AV} (h:Zt E vs rs) (hv:Zc E v r):Zt E (vs++[v]) (rs++[r]):=by
 induction vs generalizing rs with
 | nil=>cases h;exact .cons _ _ _ _ hv .nil
 | cons u us ih=>cases h with|cons _ c _ cs h1 h2=>exact .cons _ _ _ _ h1 (ih h2)
theorem Z7v {P:Program} {h:Z6} {T:TypeId} {m key v:AV} {K:Z6->Prop} (hl:Z5f P h T m key v K):
  ∃h',K h'/\∀(E:Env) (w:World) (rm rk rv:Value),Emb E h w->Zc E m rm->Zc E key rk->Zc E v rv->∃w',(Instr.mapUpdate T rm rk rv).run P w=.ok () w'/\Evo E h w E h' w':=by
 unfold Z5f at hl
 split at hl
 ·rename_i et x k n het
  obtain ⟨kt,kk,hT,hkt⟩:=Z0S het
  split at hl
  ·rename_i es hg
   rcases Z2Q (kk:=kk) es hl with ⟨_,h1,_⟩|⟨h1,h2⟩
   ·simp_all
   ·refine ⟨_,h1,fun E w rm rk rv he hm hk hv=> ?_⟩
    cases hm with
    | map _ b N hb=>
     cases hk
     have hown:=he.own _ _ hg
     cases hown with
     | map _ b' ents clock hbb hw hkk hvv hbn=>
      rw [hbb] at hb
      cases hb
      have hlt:b<w.heap.size:=by
       grind
      refine ⟨{ w with heap:=w.heap.setIfInBounds b (.map (ents.toArray.push ⟨.int k n,rv,clock⟩) (clock+1))}, ?_, ?_⟩
      ·simp only [Instr.mapUpdate,J6,run_underlying hT,J4,ZE hw,Y6 hkt _ 9999,Instr.findKey,run_underlying hkt,h2 E ents 0 hkk hvv,Jf,Y7 _ hw]
      ·refine Yg he x _ _ b 0 hg hbb (fun i hi=> ?_) (by simp) rfl rfl ⟨rfl,J1 _⟩ ?_
       ·rw [Jd,if_neg (fun e=>hi e.symm)]
       ·refine .map _ b (ents++[⟨.int k n,rv,clock⟩]) (clock+1) hbb ?_ ?_ ?_ (hbn.push _ _)
        ·simp_all
        ·simp only [JS,K3]
         exact hkk.snoc (.int _ _)
        ·simp only [JS,K3]
         exact hvv.snoc hv
  simp_all
 simp_all
theorem Z7w {P:Program} {T:TypeId} {h:Z6} {w:World} (he:Emb E h w):
  ∃r w' E',(Instr.makeMap T none).run P w=.ok r w'/\Evo E h w E' (h.add (.map [])) w'/\Zc E' (.map (some h.next)) r:=by
 refine ⟨.map (some w.heap.size),{ w with heap:=w.heap.push (.map #[] 0)},E.ext h.next w.heap.size 0,by simp [Instr.makeMap],XC he (.map #[] 0) 0 (.map []) (.map [] w.heap.size [] 0 (Env.ext_same ..) (by simp) .nil .nil (.nil _)),.map _ _ 0 (Env.ext_same ..)⟩
def Z5g (P:Program) (T:TypeId) (x:AV) (K:AV->Prop):Prop:=
 match P.underlying T with
 | some (.array n _)=>match Nat.blt 0 n,x with
  | true,.nslice p _ len _=>Z4 (n<=len) (K (.ptr (some p)))
  | true,.vints k xs len=>Z4 (n<=len) (K (.pview [.arr k n (xs.take n)] 0))
  | _,_=>False
 | _=>False
theorem Z7x {P:Program} {T:TypeId} {x:AV} (hl:Z5g P T x K):
  ∃v,K v/\∀(E:Env) (w:World) (rx:Value),Zc E x rx->∃r,(Instr.arrayAt T rx).run P w=.ok r w/\Zc E v r:=by
 unfold Z5g at hl
 split at hl
 ·rename_i n e hT
  split at hl
  ·rename_i p esz len lo hn
   have hn0:0<n:=Je hn
   obtain ⟨hle,hk⟩:=Zd hl
   refine ⟨_,hk,fun E w rx hx=> ?_⟩
   cases hx with
   | nslice0 _ _ _ _ a h1 h2=>omega
   | nslice _ _ _ _ b N cap hb h1 h2 h3=>
    refine ⟨.pointer (some ⟨b,p.tot,none⟩), ?_,.ptr p b N hb⟩
    simp only [Instr.arrayAt,J6,run_underlying hT,J4]
    rw [if_neg (by omega)]
    rfl
  ·rename_i k xs len hn
   have hn0:0<n:=Je hn
   obtain ⟨hle,hk⟩:=Zd hl
   refine ⟨_,hk,fun E w rx hx=> ?_⟩
   cases hx with
   | vintsNil _ _ _ h1 h2=>omega
   | vints _ _ _ a cap h1 h2 hi=>
    refine ⟨.pointer (some a), ?_, ?_⟩
    ·simp only [Instr.arrayAt,J6,run_underlying hT,J4]
     rw [if_neg (by omega)]
     rfl
    ·have:=Zc.pview [.arr k n (xs.take n)] 0 a (intCells k n (xs.take n)++[]) (.arr k n (xs.take n) [] [] .nil) (fun j c hj=>by
      grind [Zj,X6]) (E:=E)
     simpa [YM] using this
  simp_all
 simp_all
end Go.Tk
end
