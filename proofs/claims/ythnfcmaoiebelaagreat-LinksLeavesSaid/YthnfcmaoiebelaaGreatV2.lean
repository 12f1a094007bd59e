/- V: part 2 of an engine (a symbolic evaluator, proved against the model) and of the walk by it. -/
import Derived.Test.YthnfcmaoiebelaaGreatV1
import Derived.ChangeKeysEq
import Derived.Laws.StructEq
import Derived.DeepKeys3
import Derived.Maps.RangeRun
import Derived.Laws.BytesString
import Derived.Laws.IdiomStrings
import Derived.Laws.Externs
import Derived.Lib.Bytealg
import Derived.LoopNIn
import Derived.OrdersIn
set_option linter.unusedVariables false
set_option linter.unusedSimpArgs false
set_option maxRecDepth 100000
set_option maxHeartbeats 0
section
namespace Go.Tk
open IntKind (i64 u8 u32 u64 wrap)
variable {K:Z7->Prop} {kt:TypeId} {kd:TypeDesc} {re rk:Value} {ents:List MapEntry} {E:Env} {kf vf:Nat->AV}
def Zc2 (P:Program) (ev:TypeId->AV->AV->(Bool->Prop)->Prop) (cs cs':List AV):List Field->(Bool->Prop)->Prop
 | [],K=>K true
 | f::fs,K=>match decide (f.name= "_") with
  | true=>False
  | false=>Qw P f.type cs f.offset fun a=>Qw P f.type cs' f.offset fun b=>ev f.type a b fun r=>match fs with
   | []=>K r
   | _::_=>Zc2 P ev cs cs' fs fun r'=>K (r&&r')
def ZdZ (P:Program) (ev:TypeId->AV->AV->(Bool->Prop)->Prop) (e:TypeId) (sz:Nat) (cs cs':List AV):List Nat->(Bool->Prop)->Prop
 | [],K=>K true
 | i::is,K=>Qw P e cs (i*sz) fun a=>Qw P e cs' (i*sz) fun b=>ev e a b fun r=>match is with
  | []=>K r
  | _::_=>ZdZ P ev e sz cs cs' is fun r'=>K (r&&r')
def Z4m (P:Program):Nat->TypeId->AV->AV->(Bool->Prop)->Prop
 | 0,_,_,_,_=>False
 | d+1,T,x,y,K=>match P.underlying T with
  | some (.int _)=>match x,y with
   | .int k a,.int k' b=>match decide (k=k') with|true=>K (a==b)|false=>False
   | _,_=>False
  | some .bool=>match x,y with
   | .bool a,.bool b=>K (a==b)
   | _,_=>False
  | some .string=>match x,y with
   | .str a,.str b=>K (a.toList==b.toList)
   | _,_=>False
  | some (.struct fs)=>match x,y with
   | .agg cs,.agg cs'=>match P.stoodInHeld T with
    | false=>Zc2 P (Z4m P d) cs cs' fs.toList K
    | true=>False
   | _,_=>False
  | some (.array n e)=>match x,y with
   | .agg [.arr k m xs],.agg [.arr k' m' ys]=>match P.underlying e,ZV P e,decide (k=k')&&Nat.beq m n&&Nat.beq m' n with
    | some (.int _),some 1,true=>Z5 (xs.length=n/\ys.length=n) (K (xs==ys))
    | _,_,_=>False
   | .agg cs,.agg cs'=>match ZV P e with
    | some sz=>ZdZ P (Z4m P d) e sz cs cs' (List.range n) K
    | none=>False
   | _,_=>False
  | _=>False
theorem UN:∀(xs ys:LI),xs.length=ys.length->((List.range xs.length).all fun i=>xs.getD i 0==ys.getD i 0)=(xs==ys)
 | [],[],_=>rfl
 | x::xs,y::ys,h=>by
  have ih:=UN xs ys (by simp_all)
  rw [Jy,List.range_succ_eq_map,List.all_cons,List.all_map]
  grind
 | [],_::_,h=>by simp at h
 | _::_,[],h=>by simp at h
theorem V5 {P:Program} {w:World} {e:TypeId} {k0 k:IntKind} {n:Nat} {xs ys:LI} (he:P.underlying e=some (.int k0)) (D:Nat):∀(is:List Nat),(∀i∈is,i<n)->
  (Op.eqItems (D+1) e 1 (intCells k n xs).toArray (intCells k n ys).toArray is).run P w=.ok (is.all fun i=>xs.getD i 0==ys.getD i 0) w
 | [],_=>by simp [Op.eqItems]
 | i::is,h=>by
  have hi:i<n:=h i (by simp)
  have px:∀zs:LI,(part e (intCells k n zs).toArray (i*1)).run P w=.ok (.int k (zs.getD i 0)) w:=fun zs=>by
   simp [part,isAgg,run_underlying he,Zk hi]
  simp only [Op.eqItems,J4,px,J3,run_equalIn_int w D e k k0 _ _ he]
  cases hb:(xs.getD i 0==ys.getD i 0)
  all_goals simp_all [V5]
theorem Z7H {P:Program} {ev:TypeId->AV->AV->(Bool->Prop)->Prop} {D:Nat}
  (hev:∀T x y K,ev T x y K->∃b,K b/\∀(E:Env) (w:World) (rx ry:Value),Zb E x rx->Zb E y ry->(Op.equalIn D T rx ry).run P w=.ok b w) {cs cs':List AV}:
  ∀(fs:List Field) (K:Bool->Prop),Zc2 P ev cs cs' fs K->∃b,K b/\∀(E:Env) (w:World) (vs vs':List Value),Zo E cs vs->Zo E cs' vs'->(Op.eqFields D vs.toArray vs'.toArray fs).run P w=.ok b w
 | [],K,h=>⟨true,h,fun E w vs vs' _ _=>by simp [Op.eqFields]⟩
 | f::fs,K,h=>by
  unfold Zc2 at h
  split at h
  ·simp_all
  ·rename_i hn
   have hn:f.name≠ "_" :=of_decide_eq_false hn
   obtain ⟨a,h,ha⟩:=Wt h
   obtain ⟨b,h,hb⟩:=Wt h
   obtain ⟨r,h,hr⟩:=hev _ _ _ _ h
   cases fs with
   | nil=>
    refine ⟨r,h,fun E w vs vs' hc hc'=> ?_⟩
    obtain ⟨ra,a1,a2⟩:=ha E w vs hc
    obtain ⟨rb,b1,b2⟩:=hb E w vs' hc'
    simp only [Op.eqFields,hn,ne_eq,not_false_eq_true,if_true,J4,a1,b1,J3,hr E w ra rb a2 b2]
    cases r<;>simp
   | cons g gs=>
    obtain ⟨r',h,hr'⟩:=Z7H hev (g::gs) _ h
    refine ⟨r&&r',h,fun E w vs vs' hc hc'=> ?_⟩
    obtain ⟨ra,a1,a2⟩:=ha E w vs hc
    obtain ⟨rb,b1,b2⟩:=hb E w vs' hc'
    rw [Op.eqFields]
    simp only [hn,ne_eq,not_false_eq_true,if_true,J4,a1,b1,J3,hr E w ra rb a2 b2]
    cases r
    ·simp
    grind
theorem Z7I {P:Program} {ev:TypeId->AV->AV->(Bool->Prop)->Prop} {D:Nat}
  (hev:∀T x y K,ev T x y K->∃b,K b/\∀(E:Env) (w:World) (rx ry:Value),Zb E x rx->Zb E y ry->(Op.equalIn D T rx ry).run P w=.ok b w) {e:TypeId} {sz:Nat} {cs cs':List AV}:
  ∀(is:List Nat) (K:Bool->Prop),ZdZ P ev e sz cs cs' is K->∃b,K b/\∀(E:Env) (w:World) (vs vs':List Value),Zo E cs vs->Zo E cs' vs'->(Op.eqItems D e sz vs.toArray vs'.toArray is).run P w=.ok b w
 | [],K,h=>⟨true,h,fun E w vs vs' _ _=>by simp [Op.eqItems]⟩
 | i::is,K,h=>by
  obtain ⟨a,h,ha⟩:=Wt h
  obtain ⟨b,h,hb⟩:=Wt h
  obtain ⟨r,h,hr⟩:=hev _ _ _ _ h
  cases is with
  | nil=>
   refine ⟨r,h,fun E w vs vs' hc hc'=> ?_⟩
   obtain ⟨ra,a1,a2⟩:=ha E w vs hc
   obtain ⟨rb,b1,b2⟩:=hb E w vs' hc'
   simp only [Op.eqItems,J4,a1,b1,J3,hr E w ra rb a2 b2]
   cases r<;>simp
  | cons g gs=>
   obtain ⟨r',h,hr'⟩:=Z7I hev (g::gs) _ h
   refine ⟨r&&r',h,fun E w vs vs' hc hc'=> ?_⟩
   obtain ⟨ra,a1,a2⟩:=ha E w vs hc
   obtain ⟨rb,b1,b2⟩:=hb E w vs' hc'
   rw [Op.eqItems]
   simp only [J4,a1,b1,J3,hr E w ra rb a2 b2]
   cases r
   ·simp
   grind
theorem Um {P:Program}:∀(d:Nat) (N:Nat) (T:TypeId) (x y:AV) (K:Bool->Prop),Z4m P d T x y K->∃b,K b/\∀(E:Env) (w:World) (rx ry:Value),Zb E x rx->Zb E y ry->(Op.equalIn (d+1+N) T rx ry).run P w=.ok b w
 | 0,N,T,x,y,K,h=>h.elim
 | d+1,N,T,x,y,K,h=>by
  have e0:d+1+1+N=(d+1+N)+1:=by omega
  unfold Z4m at h
  rw [e0]
  split at h
  ·rename_i k0 hu
   split at h
   ·split at h
    ·rename_i hk
     have hk:=of_decide_eq_true hk
     subst hk
     exact ⟨_,h,fun E w rx ry hx hy=>by cases hx;cases hy;exact run_equalIn_int w _ T _ k0 _ _ hu⟩
    simp_all
   simp_all
  ·rename_i hu
   split at h
   ·exact ⟨_,h,fun E w rx ry hx hy=>by cases hx;cases hy;exact run_equalIn_bool w _ T _ _ hu⟩
   simp_all
  ·rename_i hu
   split at h
   ·exact ⟨_,h,fun E w rx ry hx hy=>by cases hx;cases hy;exact run_equalIn_string w _ T _ _ hu⟩
   simp_all
  ·rename_i fs hu
   split at h
   ·split at h
    ·rename_i hst
     obtain ⟨b,hK,hb⟩:=Z7H (D:=d+1+N) (fun T' x' y' K' h'=>Um d N T' x' y' K' h') _ _ h
     refine ⟨b,hK,fun E w rx ry hx hy=> ?_⟩
     have hfo:P.fieldsOf T=fs:=by simp [Program.fieldsOf,hu]
     cases hx with
     | agg cs vs hc=>cases hy with
      | agg cs' vs' hc'=>
       rw [run_equalIn_struct w _ T _ _ (by rw [hfo];exact hu) hst,hfo]
       grind
    simp_all
   simp_all
  ·rename_i n e hu
   split at h
   ·rename_i k m xs k' m' ys
    split at h
    ·rename_i k0 he hs hb
     simp only [J1] at hb
     obtain ⟨⟨q1,q2⟩,q3⟩:=hb
     have q1:=of_decide_eq_true q1
     have q2:=J0 q2
     have q3:=J0 q3
     subst q1 q2 q3
     obtain ⟨⟨hx,hy⟩,hK⟩:=Zf h
     refine ⟨_,hK,fun E w rx ry hxr hyr=> ?_⟩
     cases hxr with
     | agg cs vs hc=>cases hyr with
      | agg cs' vs' hc'=>
       obtain ⟨ws,rfl,hw⟩:=Zo.cons_arr hc
       cases hw
       obtain ⟨ws',rfl,hw'⟩:=Zo.cons_arr hc'
       cases hw'
       unfold ZV at hs
       cases hi:P.info? e with
       | none=>rw [hi] at hs;cases hs
       | some i=>
        have hs1:i.size=1:=by simp_all
        have hcells:P.cellsOf e=1:=by simp [Program.cellsOf,hi,hs1]
        rw [run_equalIn_array w _ _ _ hu hi,hcells]
        simp only [Jx]
        rw [show d+1+N=(d+N)+1 by omega]
        rw [V5 he _ _ (fun j hj=>JW.1 hj)]
        rw [<-UN xs ys (by omega),hx]
    simp_all
   ·split at h
    ·rename_i sz hs
     obtain ⟨b,hK,hb⟩:=Z7I (D:=d+1+N) (fun T' x' y' K' h'=>Um d N T' x' y' K' h') _ _ h
     refine ⟨b,hK,fun E w rx ry hx hy=> ?_⟩
     cases hx with
     | agg cs vs hc=>cases hy with
      | agg cs' vs' hc'=>
       unfold ZV at hs
       cases hi:P.info? e with
       | none=>rw [hi] at hs;cases hs
       | some i=>
        have hs1:i.size=sz:=by simp_all
        have hcells:P.cellsOf e=sz:=by simp [Program.cellsOf,hi,hs1]
        rw [run_equalIn_array w _ _ _ hu hi,hcells]
        grind
    simp_all
   simp_all
  simp_all
def Z6z (P:Program) (op:BinOp) (T:TypeId) (x y:AV) (K:AV->Prop):Prop:=
 match P.eqGuardType P.depth T with
 | true=>False
 | false=>match op with
  | .eql=>Z4m P 20 T x y fun b=>K (.bool b)
  | .neq=>Z4m P 20 T x y fun b=>K (.bool (!b))
  | _=>False
theorem Z8L {P:Program} {op:BinOp} {T:TypeId} {ox oy:Operand} {cs cs':List AV} {K:AV->Prop} (h:Z6z P op T (.agg cs) (.agg cs') K):
  ∃v,K v/\∀(E:Env) (w:World) (rx ry:Value),Zb E (.agg cs) rx->Zb E (.agg cs') ry->∃r,(do eqGuard op T ox oy rx ry;binOp op T rx ry).run P w=.ok r w/\Zb E v r:=by
 unfold Z6z at h
 split at h
 ·simp_all
 ·rename_i hg
  split at h
  ·obtain ⟨b,hK,hb⟩:=Um 20 9979 _ _ _ _ h
   refine ⟨_,hK,fun E w rx ry hx hy=>⟨.bool b, ?_,.bool b⟩⟩
   have h1:=hb E w rx ry hx hy
   cases hx with
   | agg cs vs hc=>cases hy with
    | agg cs' vs' hc'=>
     rw [J4,run_eqGuard_agg w _ T ox oy _ _ hg,J3,run_eql_struct w,h1]
     rfl
  ·obtain ⟨b,hK,hb⟩:=Um 20 9979 _ _ _ _ h
   refine ⟨_,hK,fun E w rx ry hx hy=>⟨.bool (!b), ?_,.bool _⟩⟩
   have h1:=hb E w rx ry hx hy
   cases hx with
   | agg cs vs hc=>cases hy with
    | agg cs' vs' hc'=>
     rw [J4,run_eqGuard_agg w _ T ox oy _ _ hg,J3,run_neq_struct w,h1]
     rfl
  simp_all
def Zc3 (P:Program) (ev:TypeId->AV->Prop->Prop) (cs:List AV):List Field->Prop->Prop
 | [],K=>K
 | f::fs,K=>match decide (f.name= "_") with
  | true=>False
  | false=>Qw P f.type cs f.offset fun a=>ev f.type a (Zc3 P ev cs fs K)
def ckK (P:Program):Nat->TypeId->AV->Prop->Prop
 | 0,_,_,_=>False
 | d+1,T,x,K=>match P.underlying T with
  | some (.int _)=>K
  | some .bool=>K
  | some (.struct fs)=>match x with
   | .agg cs=>Zc3 P (ckK P d) cs fs.toList K
   | _=>False
  | some (.array n e)=>match x with
   | .agg [.arr _ m _]=>match P.underlying e,ZV P e,Nat.beq m n with
    | some (.int _),some 1,true=>K
    | _,_,_=>False
   | _=>False
  | _=>False
theorem Z3j {P:Program} {ev:TypeId->AV->Prop->Prop} {D:Nat} {cs:List AV}
  (hev:∀T x K,ev T x K->K/\∀(E:Env) (w:World) (rx:Value) (em:Bool),Zb E x rx->(Instr.checkKey em D T rx).run P w=.ok () w):
  ∀(fs:List Field) (K:Prop),Zc3 P ev cs fs K->K/\∀f∈fs,f.name≠ "_" /\∀(E:Env) (w:World) (vs:List Value),Zo E cs vs->∃r,(part f.type vs.toArray f.offset).run P w=.ok r w/\∀em,(Instr.checkKey em D f.type r).run P w=.ok () w
 | [],K,h=>⟨h,fun f hf=>by simp at hf⟩
 | f::fs,K,h=>by
  unfold Zc3 at h
  split at h
  ·simp_all
  ·rename_i hn
   have hn:f.name≠ "_" :=of_decide_eq_false hn
   obtain ⟨a,h,ha⟩:=Wt h
   obtain ⟨h,hc⟩:=hev _ _ _ h
   obtain ⟨hK,hr⟩:=Z3j hev fs K h
   refine ⟨hK,fun g hg=> ?_⟩
   rcases J6.1 hg with rfl|hg
   ·refine ⟨hn,fun E w vs hcr=> ?_⟩
    obtain ⟨r,h1,h2⟩:=ha E w vs hcr
    grind
   ·exact hr g hg
theorem WV {P:Program}:∀(d N:Nat) (T:TypeId) (x:AV) (K:Prop),ckK P d T x K->K/\∀(E:Env) (w:World) (rx:Value) (em:Bool),Zb E x rx->(Instr.checkKey em (d+1+N) T rx).run P w=.ok () w
 | 0,N,T,x,K,h=>h.elim
 | d+1,N,T,x,K,h=>by
  unfold ckK at h
  rw [show d+1+1+N=(d+1+N)+1 by omega]
  split at h
  ·simp_all [Instr.checkKey,run_underlying]
  ·simp_all [Instr.checkKey,run_underlying]
  ·rename_i fs hu
   split at h
   ·rename_i cs
    obtain ⟨hK,each⟩:=Z3j (D:=d+1+N) (fun T' x' K' h'=>WV d N T' x' K' h') _ _ h
    refine ⟨hK,fun E w rx em hx=> ?_⟩
    cases hx with
    | agg _ vs hc=>
     rw [Instr.checkKey]
     simp only [J4,run_underlying hu,J3]
     rw [<-Array.forIn_toList]
     have each:=fun f hf=>(each f hf).imp id fun h=>h E w vs hc
     generalize fs.toList=L at each
     clear h
     induction L with
     | nil=>simp
     | cons f L ih=>
      obtain ⟨hn,r,p1,p2⟩:=each f (by simp)
      simp only [List.forIn_cons,J4,hn,ne_eq,not_false_eq_true,if_true,J3,p1,p2]
      simp_all
   simp_all
  ·rename_i n e hu
   split at h
   ·rename_i k m xs
    split at h
    ·rename_i k0 he hs hb
     have hb:=J0 hb
     subst hb
     refine ⟨h,fun E w rx em hx=> ?_⟩
     cases hx with
     | agg _ vs hc=>
      obtain ⟨ws,rfl,hw⟩:=Zo.cons_arr hc
      cases hw
      rw [Instr.checkKey]
      simp only [J4,run_underlying hu,J3]
      simp only [Std.Legacy.Range.forIn_eq_forIn_range',Std.Legacy.Range.size,Nat.add_one_sub_one,Nat.div_one]
      have each:∀j∈List.range' 0 m,j<m:=fun j hj=>by simp_all
      generalize List.range' 0 m=is at each
      induction is with
      | nil=>simp
      | cons j is ih=>
       have hj:=each j (by simp)
       have px:(part e (intCells k m xs++[]).toArray (j*1)).run P w=.ok (.int k (xs.getD j 0)) w:=by
        simp [part,isAgg,run_underlying he,Zk hj]
       have p2:(Instr.checkKey em (d+1+N) e (.int k (xs.getD j 0))).run P w=.ok () w:=by
        rw [show d+1+N=(d+N)+1 by omega]
        simp [Instr.checkKey,run_underlying he]
       simp_all [run_sizeOf]
    simp_all
   simp_all
  simp_all
def Z3k (P:Program) (kt:TypeId) (key:AV) (some_:Nat->AV->Prop) (none_:Prop):Nat->List (AV×AV)->Prop
 | _,[]=>none_
 | j,(kv,v)::r=>Z4m P 20 kt key kv fun b=>Z8 b (some_ j v) (Z3k P kt key some_ none_ (j+1) r)
def Qy (P:Program) (kt:TypeId):Bool:=match P.underlying kt with
 | some (.struct _)=>true
 | some (.array _ _)=>true
 | some .bool=>true
 | _=>false
theorem Z4n {P:Program} (hk:Qy P kt=true) (hu:P.underlying kt=some kd) {key kv:AV} {K:Bool->Prop} (h:Z4m P 20 kt key kv K) {b:Bool} {E:Env} (hb:∀w,(Op.equalIn 10000 kt rk re).run P w=.ok b w) (w0:World):Instr.sameNow kd rk re=none\/Instr.sameNow kd rk re=some b:=by
 unfold Qy at hk
 rw [hu] at hk
 cases kd<;>simp at hk
 ·have:=hb w0
  cases rk<;>cases re<;>simp [Instr.sameNow]
  rw [show (10000:Nat)=9999+1 from rfl,run_equalIn_bool w0 _ kt _ _ hu] at this
  simp_all
 all_goals simp_all [Instr.sameNow]
theorem Qz {P:Program} (hk:Qy P kt=true) (hu:P.underlying kt=some kd) {key:AV} {S:Nat->AV->Prop} {N:Prop}:∀(es:List (AV×AV)) (j0:Nat),Z3k P kt key S N j0 es->
  (∃j v,S (j0+j) v/\j<es.length/\∀(E:Env) (w:World) (ents:List MapEntry) (i:Nat) (rk:Value),Zb E key rk->Zr E (es.map (·.1)) (ents.map (·.key))->Zr E (es.map (·.2)) (ents.map (·.val))->
   ∃r,Zb E v r/\(Instr.findAsking kt rk ents i).run P w=.ok (some (i+j,r)) w/\(Instr.findNow kd rk ents i=none\/Instr.findNow kd rk ents i=some (some (i+j,r))))\/
  (N/\∀(E:Env) (w:World) (ents:List MapEntry) (i:Nat) (rk:Value),Zb E key rk->Zr E (es.map (·.1)) (ents.map (·.key))->Zr E (es.map (·.2)) (ents.map (·.val))->
   (Instr.findAsking kt rk ents i).run P w=.ok none w/\(Instr.findNow kd rk ents i=none\/Instr.findNow kd rk ents i=some none)):=by
 intro es
 induction es with
 | nil=>
  intro j0 h
  refine .inr ⟨h,fun E w ents i rk _ hkk _=> ?_⟩
  cases ents with
  | nil=>exact ⟨by simp [Instr.findAsking],.inr rfl⟩
  | cons e r=>cases hkk
 | cons p r ih=>
  obtain ⟨kv,v⟩:=p
  intro j0 h
  have h0:=h
  obtain ⟨b,hb,heq⟩:=Um 20 9979 _ _ _ _ h
  have step:∀(E:Env) (w:World) (e:MapEntry) (rk:Value),Zb E key rk->Zb E kv e.key->(Op.equal kt rk e.key).run P w=.ok b w/\(Instr.sameNow kd rk e.key=none\/Instr.sameNow kd rk e.key=some b):=by
   intro E w e rk h1 h2
   have h3:∀w,(Op.equalIn 10000 kt rk e.key).run P w=.ok b w:=fun w=>heq E w rk e.key h1 h2
   exact ⟨h3 w,Z4n hk hu h0 (E:=E) h3 w⟩
  cases b with
  | true=>
   refine .inl ⟨0,v,hb,by simp,fun E w ents i rk h1 hkk hvv=> ?_⟩
   cases ents with
   | nil=>cases hkk
   | cons e es''=>
    cases hkk with
    | cons _ _ _ _ hk1 hk2=>cases hvv with
     | cons _ _ _ _ hv1 hv2=>
      obtain ⟨s1,s2⟩:=step E w e rk h1 hk1
      refine ⟨e.val,hv1,by simp [Instr.findAsking,s1], ?_⟩
      grind [Instr.findNow]
  | false=>
   rcases ih (j0+1) hb with ⟨j,v',hS,hj,hr⟩|⟨hN,hr⟩
   ·refine .inl ⟨j+1,v',by rw [show j0+(j+1)=j0+1+j by omega];exact hS,by simp_all,fun E w ents i rk h1 hkk hvv=> ?_⟩
    cases ents with
    | nil=>cases hkk
    | cons e es''=>
     cases hkk with
     | cons _ _ _ _ hk1 hk2=>cases hvv with
      | cons _ _ _ _ hv1 hv2=>
       obtain ⟨s1,s2⟩:=step E w e rk h1 hk1
       obtain ⟨x,x1,x2,x3⟩:=hr E w es'' (i+1) rk h1 hk2 hv2
       rw [show i+1+j=i+(j+1) by omega] at x2 x3
       refine ⟨x,x1,by simp [Instr.findAsking,s1,x2], ?_⟩
       grind [Instr.findNow]
   ·refine .inr ⟨hN,fun E w ents i rk h1 hkk hvv=> ?_⟩
    cases ents with
    | nil=>cases hkk
    | cons e es''=>
     cases hkk with
     | cons _ _ _ _ hk1 hk2=>cases hvv with
      | cons _ _ _ _ hv1 hv2=>
       obtain ⟨s1,s2⟩:=step E w e rk h1 hk1
       obtain ⟨x2,x3⟩:=hr E w es'' (i+1) rk h1 hk2 hv2
       refine ⟨by simp [Instr.findAsking,s1,x2], ?_⟩
       grind [Instr.findNow]
theorem Y1 {P:Program} (hu:P.underlying kt=some kd) {w:World} {R:Option (Nat×Value)} (h1:(Instr.findAsking kt rk ents 0).run P w=.ok R w) (h2:Instr.findNow kd rk ents 0=none\/Instr.findNow kd rk ents 0=some R):(Instr.findKey kt rk ents).run P w=.ok R w:=by
 simp only [Instr.findKey,J4,run_underlying hu]
 rcases h2 with h2|h2
 all_goals simp_all
def Z4o (P:Program) (h:Z7) (T:TypeId) (m key:AV) (ok:Bool) (K:AV->Prop):Prop:=
 match P.underlying T with
 | some (.map kt et)=>match Qy P kt,Wf P et with
  | true,some z=>match m with
   | .map none=>ckK P 20 kt key (K (okV ok z false))
   | .map (some x)=>match h.get x with
    | some (.map es)=>ckK P 20 kt key (Z3k P kt key (fun _ v=>K (okV ok v true)) (K (okV ok z false)) 0 es)
    | _=>False
   | _=>False
  | _,_=>False
 | _=>False
theorem WF {P:Program} (h:Qy P kt=true):∃kd,P.underlying kt=some kd:=by
 unfold Qy at h
 grind
theorem Z6A {P:Program} {h:Z7} {T:TypeId} {m key:AV} {ok:Bool} {K:AV->Prop} (hl:Z4o P h T m key ok K):
  ∃v,K v/\∀(E:Env) (w:World) (rm rk:Value),Emb E h w->Zb E m rm->Zb E key rk->∃r,(Instr.lookup T rm rk ok).run P w=.ok r w/\Zb E v r:=by
 unfold Z4o at hl
 split at hl
 ·rename_i kt et hT
  split at hl
  ·rename_i z hkd hz
   obtain ⟨zr,hz1,hz2⟩:=X4 hz
   obtain ⟨kd,hu⟩:=WF hkd
   split at hl
   ·obtain ⟨hK,hc⟩:=WV 20 9979 _ _ _ hl
    refine ⟨_,hK,fun E w rm rk he hm hk=> ?_⟩
    cases hm
    refine ⟨_, ?_,XL (hz2 E)⟩
    have hc:=hc E w rk true hk
    have hf:(Instr.findKey kt rk []).run P w=.ok none w:=Y1 hu (by simp [Instr.findAsking]) (.inr rfl)
    simp_all [Instr.lookup,run_underlying]
   ·split at hl
    ·rename_i es hg
     obtain ⟨hl,hc⟩:=WV 20 9979 _ _ _ hl
     rcases Qz hkd hu es 0 hl with ⟨j,v,h1,_,h2⟩|⟨h1,h2⟩
     ·refine ⟨_,h1,fun E w rm rk he hm hk=> ?_⟩
      cases hm with
      | map _ b N hb=>
       have hown:=he.own _ _ hg
       cases hown with
       | map _ b' ents clock hbb hw hkk hvv hbn=>
        rw [hbb] at hb
        cases hb
        obtain ⟨r,h3,h4,h5⟩:=h2 E w ents 0 rk hk hkk hvv
        refine ⟨_, ?_,XL h3⟩
        have hf:=Y1 hu h4 h5
        simp only [Instr.lookup,J4,run_underlying hT,J3,Jd,ZE hw,hc E w rk _ hk,hf]
     ·refine ⟨_,h1,fun E w rm rk he hm hk=> ?_⟩
      cases hm with
      | map _ b N hb=>
       have hown:=he.own _ _ hg
       cases hown with
       | map _ b' ents clock hbb hw hkk hvv hbn=>
        rw [hbb] at hb
        cases hb
        obtain ⟨h4,h5⟩:=h2 E w ents 0 rk hk hkk hvv
        refine ⟨_, ?_,XL (hz2 E)⟩
        have hf:=Y1 hu h4 h5
        simp only [Instr.lookup,J4,run_underlying hT,J3,Jd,ZE hw,hc E w rk _ hk,hf,hz1]
    simp_all
   simp_all
  simp_all
 simp_all
def Z1f (P:Program) (h:Z7) (T:TypeId) (m key:AV) (ok:Bool) (K:AV->Prop):Prop:=match VO P T with
 | some _=>Z4j P h T m key ok K
 | none=>Z4o P h T m key ok K
theorem Z6B {P:Program} {h:Z7} {T:TypeId} {m key:AV} {ok:Bool} {K:AV->Prop} (hl:Z1f P h T m key ok K):
  ∃v,K v/\∀(E:Env) (w:World) (rm rk:Value),Emb E h w->Zb E m rm->Zb E key rk->∃r,(Instr.lookup T rm rk ok).run P w=.ok r w/\Zb E v r:=by
 grind [Z1f,Z6v,Z6A]
def Z4p (P:Program) (h:Z7) (T:TypeId) (m key v:AV) (K:Z7->Prop):Prop:=
 match P.underlying T,m with
 | some (.map kt _),.map (some x)=>match Qy P kt,h.get x with
  | true,some (.map es)=>ckK P 20 kt key (Z3k P kt key (fun _ _=>False) (K (h.set x (.map (es++[(key,v)])))) 0 es)
  | _,_=>False
 | _,_=>False
theorem Z6C {P:Program} {h:Z7} {T:TypeId} {m key v:AV} (hl:Z4p P h T m key v K):
  ∃h',K h'/\∀(E:Env) (w:World) (rm rk rv:Value),Emb E h w->Zb E m rm->Zb E key rk->Zb E v rv->∃w',(Instr.mapUpdate T rm rk rv).run P w=.ok () w'/\Evo E h w E h' w':=by
 unfold Z4p at hl
 split at hl
 ·rename_i kt et x hT
  split at hl
  ·rename_i es hkd hg
   obtain ⟨kd,hu⟩:=WF hkd
   obtain ⟨hl,hc⟩:=WV 20 9979 _ _ _ hl
   rcases Qz hkd hu es 0 hl with ⟨j,_,h1,_⟩|⟨h1,h2⟩
   ·simp_all
   ·refine ⟨_,h1,fun E w rm rk rv he hm hk hv=> ?_⟩
    cases hm with
    | map _ b N hb=>
     have hown:=he.own _ _ hg
     cases hown with
     | map _ b' ents clock hbb hw hkk hvv hbn=>
      rw [hbb] at hb
      cases hb
      have hlt:b<w.heap.size:=by
       grind
      obtain ⟨h4,h5⟩:=h2 E w ents 0 rk hk hkk hvv
      have hf:=Y1 hu h4 h5
      refine ⟨{ w with heap:=w.heap.setIfInBounds b (.map (ents.toArray.push ⟨rk,rv,clock⟩) (clock+1))}, ?_, ?_⟩
      ·simp only [Instr.mapUpdate,J4,run_underlying hT,J3,ZE hw,hc E w rk _ hk,hf,Y8 _ hw]
      ·refine Yb he x _ _ b 0 hg hbb (fun i hi=> ?_) (by simp) rfl rfl ⟨rfl,J2 _⟩ ?_
       ·rw [Jb,if_neg (fun e=>hi e.symm)]
       ·refine .map _ b (ents++[⟨rk,rv,clock⟩]) (clock+1) hbb ?_ ?_ ?_ (hbn.push _ _)
        ·simp_all
        ·simp only [JD,JU]
         exact hkk.snoc hk
        ·simp only [JD,JU]
         exact hvv.snoc hv
  simp_all
 simp_all
theorem XQ {α β:Type} (f:α->β):∀(l:List α) (j:Nat),(l.eraseIdx j).map f=(l.map f).eraseIdx j
 | [],_=>rfl
 | _::_,0=>rfl
 | a::l,j+1=>by simp [XQ f l j]
theorem Zr.eraseAt {vs:List AV} {rs:List Value} (h:Zr E vs rs) (j:Nat):Zr E (vs.eraseIdx j) (rs.eraseIdx j):=by
 induction j generalizing vs rs with
 | zero=>cases h with
  | nil=>exact .nil
  | cons _ _ _ _ h1 h2=>exact h2
 | succ j ih=>cases h with
  | nil=>exact .nil
  | cons _ _ _ _ h1 h2=>exact .cons _ _ _ _ h1 (ih h2)
def Z1g (P:Program) (h:Z7) (T:TypeId) (m key:AV) (K:Z7->Prop):Prop:=
 match P.underlying T,m with
 | some (.map kt _),.map (some x)=>match Qy P kt,h.get x with
  | true,some (.map es)=>ckK P 20 kt key (Z3k P kt key (fun j _=>K (h.set x (.map (es.eraseIdx j)))) (K (h.set x (.map es))) 0 es)
  | _,_=>False
 | _,_=>False
theorem Z1Y {P:Program} {h:Z7} {T:TypeId} {m key:AV} (hl:Z1g P h T m key K):
  ∃h',K h'/\∀(E:Env) (w:World) (rm rk:Value) (tys:Array TypeId) (ty:TypeId),tys[0]? =some T->Emb E h w->Zb E m rm->Zb E key rk->∃w',(Builtin.delete_ tys ty #[rm,rk]).run P w=.ok (.tuple #[]) w'/\Evo E h w E h' w':=by
 unfold Z1g at hl
 split at hl
 ·rename_i kt et x hT
  split at hl
  ·rename_i es hkd hg
   obtain ⟨kd,hu⟩:=WF hkd
   obtain ⟨hl,hc⟩:=WV 20 9979 _ _ _ hl
   have main:∀(es':List (AV×AV)) (K':Prop),K'->(∀(E:Env) (w:World) (ents:List MapEntry) (rk:Value),Zb E key rk->Zr E (es.map (·.1)) (ents.map (·.key))->Zr E (es.map (·.2)) (ents.map (·.val))->
     ∃R:Option (Nat×Value),(Instr.findKey kt rk ents).run P w=.ok R w/\∃ents':List MapEntry,(match R with|some (i,_)=>ents.toArray.eraseIdxIfInBounds i|none=>ents.toArray)=ents'.toArray/\Zr E (es'.map (·.1)) (ents'.map (·.key))/\Zr E (es'.map (·.2)) (ents'.map (·.val))/\∀c,Yv ents c->Yv ents' c)->
     ∀(E:Env) (w:World) (rm rk:Value) (tys:Array TypeId) (ty:TypeId),tys[0]? =some T->Emb E h w->Zb E (.map (some x)) rm->Zb E key rk->∃w',(Builtin.delete_ tys ty #[rm,rk]).run P w=.ok (.tuple #[]) w'/\Evo E h w E (h.set x (.map es')) w':=by
    intro es' K' _ hf E w rm rk tys ty htys he hm hk
    cases hm with
    | map _ b N hb=>
     have hown:=he.own _ _ hg
     cases hown with
     | map _ b' ents clock hbb hw hkk hvv hbn=>
      rw [hbb] at hb
      cases hb
      obtain ⟨R,h1,ents',h2,h3,h4,h5'⟩:=hf E w ents rk hk hkk hvv
      refine ⟨{ w with heap:=w.heap.setIfInBounds b (.map ents'.toArray clock)}, ?_, ?_⟩
      ·have e1:(#[Value.map (some b),rk]:Array Value)[0]? =some (.map (some b)):=rfl
       have e2:(#[Value.map (some b),rk]:Array Value)[1]? =some rk:=rfl
       unfold Builtin.delete_
       rw [htys,e1,e2]
       simp only [J4,run_underlying hT,J3,ZE hw,hc E w rk _ hk,h1]
       cases R with
       | none=>simp only [J4,Y8 _ hw,J3,Jd];rw [<-h2]
       | some r=>obtain ⟨i,v⟩:=r;simp only [J4,Y8 _ hw,J3,Jd];rw [<-h2]
      ·refine Yb he x _ _ b 0 hg hbb (fun i hi=> ?_) (by simp) rfl rfl ⟨rfl,J2 _⟩ ?_
       ·rw [Jb,if_neg (fun e=>hi e.symm)]
       ·have hlt:b<w.heap.size:=by grind
        refine .map _ b ents' clock hbb ?_ h3 h4 (h5' _ hbn)
        simp_all
   rcases Qz hkd hu es 0 hl with ⟨j,v,h1,hj,h2⟩|⟨h1,h2⟩
   ·rw [Jm] at h1
    refine ⟨_,h1,main _ _ h1 fun E w ents rk hk hkk hvv=> ?_⟩
    obtain ⟨r,_,h4,h5⟩:=h2 E w ents 0 rk hk hkk hvv
    refine ⟨_,Y1 hu h4 h5,ents.eraseIdx j, ?_, ?_, ?_,fun _ h=>h.erase j⟩
    ·show ents.toArray.eraseIdxIfInBounds (0+j)=_
     rw [Jm]
     unfold Array.eraseIdxIfInBounds
     split
     ·simp
     ·rw [JL (by simp at*;omega)]
    ·rw [XQ,XQ];exact hkk.eraseAt j
    ·rw [XQ,XQ];exact hvv.eraseAt j
   ·refine ⟨_,h1,main _ _ h1 fun E w ents rk hk hkk hvv=> ?_⟩
    obtain ⟨h4,h5⟩:=h2 E w ents 0 rk hk hkk hvv
    exact ⟨_,Y1 hu h4 h5,ents,rfl,hkk,hvv,fun _ h=>h⟩
  simp_all
 simp_all
def Z1h (P:Program) (h:Z7) (T:TypeId) (m key v:AV) (K:Z7->Prop):Prop:=match VO P T with
 | some _=>Z4k P h T m key v K
 | none=>Z4p P h T m key v K
theorem Z6D {P:Program} {h:Z7} {T:TypeId} {m key v:AV} (hl:Z1h P h T m key v K):
  ∃h',K h'/\∀(E:Env) (w:World) (rm rk rv:Value),Emb E h w->Zb E m rm->Zb E key rk->Zb E v rv->∃w',(Instr.mapUpdate T rm rk rv).run P w=.ok () w'/\Evo E h w E h' w':=by
 grind [Z1h,Z6w,Z6C]
def Z04:AV->AV->Bool
 | .int k a,v=>match v with|.int k' b=>decide (k=k')&&(a==b)|_=>false
 | .bool a,v=>match v with|.bool b=>a==b|_=>false
 | .arr k n xs,v=>match v with|.arr k' n' ys=>decide (k=k')&&Nat.beq n n'&&(xs==ys)|_=>false
 | _,_=>false
def Un:List AV->List AV->Bool
 | [],l=>match l with|[]=>true|_=>false
 | a::r,l=>match l with
  | b::s=>(match r,s with|[],[]=>Z04 a b|r,s=>Z04 a b&&Un r s)
  | []=>false
def Zx:AV->AV->Bool
 | .agg cs,v=>match v with|.agg ds=>Un cs ds|_=>false
 | .arr _ _ _,_=>false
 | a,v=>Z04 a v
theorem Z05 {a b:AV} (h:Z04 a b=true):a=b/\((∃k n,a=.int k n)\/(∃x,a=.bool x)\/∃k n xs,a=.arr k n xs):=by
 unfold Z04 at h
 split at h
 ·grind
 ·grind
 ·split at h
  all_goals simp_all
 ·cases h
def Z7J (a:AV):Prop:=(∃k n,a=.int k n)\/(∃x,a=.bool x)\/∃k n xs,a=.arr k n xs
theorem Z1Z:∀{l m:List AV},Un l m=true->l=m/\∀a∈l,Z7J a
 | [],m,h=>by
  grind [Un]
 | a::r,m,h=>by
  unfold Un at h
  split at h
  ·split at h
   ·grind [Z05,Z7J]
   ·rw [J1] at h
    obtain ⟨rfl,h1⟩:=Z05 h.1
    obtain ⟨rfl,h2⟩:=Z1Z h.2
    refine ⟨rfl,fun x hx=> ?_⟩
    rcases J6.1 hx with rfl|hx
    ·exact h1
    simp_all
  ·cases h
theorem Vq (n:Nat) (k:IntKind) (a:Int):Instr.sameBits (n+1) (.int k a) (.int k a)=true:=by simp [Instr.sameBits]
theorem UO (n:Nat) (a:Bool):Instr.sameBits (n+1) (.bool a) (.bool a)=true:=by simp [Instr.sameBits]
theorem Uo {E:Env}:∀{l:List AV} {r s:List Value},(∀a∈l,Z7J a)->Zo E l r->Zo E l s->r=s/\∀v∈r,∀n,Instr.sameBits (n+1) v v=true
 | [],r,s,_,h1,h2=>by cases h1;cases h2;simp_all
 | a::l,r,s,hs,h1,h2=>by
  have ha:=hs a (Jq ..)
  have hl:∀x∈l,Z7J x:=fun x hx=>hs x (Jf _ hx)
  rcases ha with ⟨k,n,rfl⟩|⟨x,rfl⟩|⟨k,n,xs,rfl⟩
  ·cases h1 with
   | one v c vs cs h0 h1 hv t=>cases hv;cases h2 with
    | one v c vs cs h0 h1 hv t'=>cases hv;obtain ⟨e,h3⟩:=Uo hl t t';exact ⟨by rw [e],fun v hv n=>by
      rcases J6.1 hv with rfl|hv
      ·exact Vq _ _ _
      ·exact h3 v hv n⟩
  ·cases h1 with
   | one v c vs cs h0 h1 hv t=>cases hv;cases h2 with
    | one v c vs cs h0 h1 hv t'=>cases hv;obtain ⟨e,h3⟩:=Uo hl t t';exact ⟨by rw [e],fun v hv n=>by
      rcases J6.1 hv with rfl|hv
      ·exact UO _ _
      ·exact h3 v hv n⟩
  ·obtain ⟨ws,rfl,t⟩:=Zo.cons_arr h1
   obtain ⟨ws',rfl,t'⟩:=Zo.cons_arr h2
   obtain ⟨e,h3⟩:=Uo hl t t'
   refine ⟨by rw [e],fun v hv m=> ?_⟩
   rcases List.mem_append.1 hv with hv|hv
   ·obtain ⟨i,_,rfl⟩:=K4.1 hv
    exact Vq _ _ _
   ·exact h3 v hv m
theorem Z6E {a b:AV} (h:Zx a b=true) {r s:Value} (hr:Zb E a r) (hs:Zb E b s):a=b/\r=s/\∀n,Instr.sameBits (n+2) r s=true:=by
 unfold Zx at h
 split at h
 ·split at h
  ·obtain ⟨rfl,h1⟩:=Z1Z h
   cases hr with
   | agg _ vs hc=>cases hs with
    | agg _ ws hc'=>
     obtain ⟨rfl,h2⟩:=Uo h1 hc hc'
     refine ⟨rfl,rfl,fun n=> ?_⟩
     simp only [Instr.sameBits,BEq.rfl,Bool.true_and,List.all_eq_true]
     intro p hp
     obtain ⟨i,hi⟩:=JN.1 hp
     grind
  ·cases h
 ·cases h
 ·obtain ⟨rfl,h3⟩:=Z05 h
  rcases h3 with ⟨k,n,rfl⟩|⟨x,rfl⟩|⟨k,n,xs,rfl⟩
  ·cases hr;cases hs;simp_all [Vq]
  ·cases hr;cases hs;simp_all [UO]
  simp_all
@[irreducible] def Z7K (P:Program) (kt:TypeId) (a b:AV):Prop:=Z4m P 20 kt a b fun r=>r=Zx a b
inductive Y5 (P:Program) (kt:TypeId) (key:AV) (n:Nat) (kf:Nat->AV):Prop
 | mk (h:∀i,i<n->Z7K P kt key (kf i)):Y5 P kt key n kf
def Zm (p:Nat->Bool) (n:Nat):Nat:=match (List.range n).find? p with|some i=>i|none=>n
theorem VP {p:Nat->Bool} {n i:Nat} (hi:i<n) (hp:p i=true) (hb:∀j,j<i->p j=false):Zm p n=i:=by
 unfold Zm
 have:(List.range n).find? p=some i:=by
  simp_all
 rw [this]
theorem Z0z {p:Nat->Bool} {n:Nat} (hb:∀j,j<n->p j=false):Zm p n=n:=by
 unfold Zm
 have:(List.range n).find? p=none:=by
  simp_all
 rw [this]
theorem Yz (p:Nat->Bool) (n:Nat):(Zm p n=n/\∀j,j<n->p j=false)\/(Zm p n<n/\p (Zm p n)=true/\∀j,j<Zm p n->p j=false):=by
 cases h:(List.range n).find? p with
 | none=>
  grind [Zm]
 | some i=>
  grind [Zm,List.find?_range_eq_some]
theorem Z5e {P:Program} (hu:P.underlying kt=some kd) {b:Bool} {w:World} (h:(Op.equalIn 10000 kt rk re).run P w=.ok b w):Instr.sameNow kd rk re=none\/Instr.sameNow kd rk re=some b:=by
 cases hs:Instr.sameNow kd rk re with
 | none=>simp_all
 | some c=>
  refine .inr ?_
  unfold Instr.sameNow at hs
  split at hs
  ·simp_all [run_equalIn_int]
  ·cases hs
   rw [Op.equalIn] at h
   simp only [J4,run_underlying hu,J3,Jd,Result.ok.injEq,and_true] at h
   rw [h]
  all_goals simp_all [run_equalIn_bool]
theorem Z3l {P:Program} {kt:TypeId} {kd:TypeDesc} (hu:P.underlying kt=some kd) {rk:Value} {w:World}:∀(ents:List MapEntry) (p:Nat->Bool) (i0:Nat),
  (∀(i:Nat) (e:MapEntry),ents[i]? =some e->(Op.equalIn 10000 kt rk e.key).run P w=.ok (p i) w)->
  (∃(j:Nat) (e:MapEntry),ents[j]? =some e/\p j=true/\(∀i,i<j->p i=false)/\(Instr.findAsking kt rk ents i0).run P w=.ok (some (i0+j,e.val)) w/\(Instr.findNow kd rk ents i0=none\/Instr.findNow kd rk ents i0=some (some (i0+j,e.val))))\/
  ((∀i,i<ents.length->p i=false)/\(Instr.findAsking kt rk ents i0).run P w=.ok none w/\(Instr.findNow kd rk ents i0=none\/Instr.findNow kd rk ents i0=some none))
 | [],p,i0,_=>.inr ⟨by simp,by simp [Instr.findAsking],.inr rfl⟩
 | e::r,p,i0,h=>by
  have h0:=h 0 e rfl
  have s1:(Op.equal kt rk e.key).run P w=.ok (p 0) w:=h0
  have s2:=Z5e hu h0
  cases hp:p 0 with
  | true=>
   rw [hp] at s1 s2
   refine .inl ⟨0,e,rfl,hp,by omega,by simp [Instr.findAsking,s1], ?_⟩
   grind [Instr.findNow]
  | false=>
   rw [hp] at s1 s2
   rcases Z3l hu r (fun i=>p (i+1)) (i0+1) (fun i e' he=>h (i+1) e' (by simp_all)) with ⟨j,e',h1,h2,h3,h4,h5⟩|⟨h1,h2,h3⟩
   ·refine .inl ⟨j+1,e',by simp_all,h2,fun i hi=> ?_, ?_, ?_⟩
    ·cases i with
     | zero=>exact hp
     | succ i=>simp_all
    ·rw [show i0+(j+1)=i0+1+j by omega]
     simp [Instr.findAsking,s1,h4]
    grind [Instr.findNow]
   ·refine .inr ⟨fun i hi=> ?_,by simp [Instr.findAsking,s1,h2], ?_⟩
    all_goals grind [Instr.findNow]
theorem Xz {P:Program} (hu:P.underlying kt=some kd) {key:AV} {n:Nat} (ha:Y5 P kt key n kf) {w:World} (hl:ents.length=n)
  (hk:∀(i:Nat) (e:MapEntry),ents[i]? =some e->Zb E (kf i) e.key) (hv:∀(i:Nat) (e:MapEntry),ents[i]? =some e->Zb E (vf i) e.val) (hr:Zb E key rk):
  (∃(e:MapEntry),Zm (fun i=>Zx key (kf i)) n<n/\ents[Zm (fun i=>Zx key (kf i)) n]? =some e/\Zx key (kf (Zm (fun i=>Zx key (kf i)) n))=true/\Zb E (vf (Zm (fun i=>Zx key (kf i)) n)) e.val/\(Instr.findKey kt rk ents).run P w=.ok (some (Zm (fun i=>Zx key (kf i)) n,e.val)) w)\/
  (Zm (fun i=>Zx key (kf i)) n=n/\(Instr.findKey kt rk ents).run P w=.ok none w):=by
 obtain ⟨ha⟩:=ha
 have each:∀(i:Nat) (e:MapEntry),ents[i]? =some e->(Op.equalIn 10000 kt rk e.key).run P w=.ok (Zx key (kf i)) w:=fun i e he=>by
  have hi:=(J9.1 he).1
  have hk0:=ha i (by omega)
  unfold Z7K at hk0
  obtain ⟨b,rfl,h2⟩:=Um 20 9979 _ _ _ _ hk0
  grind
 rcases Z3l hu ents (fun i=>Zx key (kf i)) 0 each with ⟨j,e,h1,h2,h3,h4,h5⟩|⟨h1,h2,h3⟩
 ·have hj:=(J9.1 h1).1
  have e1:Zm (fun i=>Zx key (kf i)) n=j:=VP (by omega) h2 h3
  simp_all [Y1]
 simp_all [Z0z,Y1]
def Z4q (P:Program) (T:TypeId) (n:Nat) (kf vf:Nat->AV) (key:AV) (ok:Bool) (K:AV->Prop):Prop:=
 match P.underlying T with
 | some (.map kt et)=>match P.underlying kt,Wf P et with
  | some _,some z=>ckK P 20 kt key (Y5 P kt key n kf/\Z8 (Nat.blt (Zm (fun i=>Zx key (kf i)) n) n) (K (okV ok (vf (Zm (fun i=>Zx key (kf i)) n)) true)) (K (okV ok z false)))
  | _,_=>False
 | _=>False
def W2 (f:Nat->AV) (j:Nat) (v:AV) (i:Nat):AV:=match Nat.beq i j with|true=>v|false=>f i
theorem Z9T {J:Nat} {e e':MapEntry} (h:ents[J]? =some e) (hb:e'.born=e.born):(ents.set J e').map (·.born)=ents.map (·.born):=by
 obtain ⟨hj,rfl⟩:=J9.1 h
 rw [List.map_set,hb]
 apply List.ext_getElem (by simp)
 intro i h1 h2
 rw [List.getElem_set]
 split<;>simp_all
def Z4r (P:Program) (h:Z7) (T:TypeId) (x n:Nat) (kf vf:Nat->AV) (key v:AV) (K:Z7->Prop):Prop:=
 match P.underlying T with
 | some (.map kt _)=>match P.underlying kt with
  | some _=>ckK P 20 kt key (Y5 P kt key n kf/\Z8 (Nat.blt (Zm (fun i=>Zx key (kf i)) n) n) (K (h.set x (.fmap n kf (W2 vf (Zm (fun i=>Zx key (kf i)) n) v)))) (K (h.set x (.fmap (n+1) (W2 kf n key) (W2 vf n v)))))
  | none=>False
 | _=>False
theorem Z6F {P:Program} {h:Z7} {T:TypeId} {x n:Nat} {key:AV} {ok:Bool} {K:AV->Prop} (hg:h.get x=some (.fmap n kf vf)) (hl:Z4q P T n kf vf key ok K):
  ∃v,K v/\∀(E:Env) (w:World) (rm rk:Value),Emb E h w->Zb E (.map (some x)) rm->Zb E key rk->∃r,(Instr.lookup T rm rk ok).run P w=.ok r w/\Zb E v r:=by
 unfold Z4q at hl
 split at hl
 ·rename_i kt et hT
  split at hl
  ·rename_i kd z hu hz
   obtain ⟨zr,hz1,hz2⟩:=X4 hz
   obtain ⟨⟨ha,hl⟩,hc⟩:=WV 20 9979 _ _ _ hl
   cases hb:Nat.blt (Zm (fun i=>Zx key (kf i)) n) n with
   | true=>
    have hlt:Zm (fun i=>Zx key (kf i)) n<n:=Jc hb
    rw [hb] at hl
    refine ⟨_,hl,fun E w rm rk he hm hk=> ?_⟩
    cases hm with
    | map _ b N hb=>
     have hown:=he.own _ _ hg
     cases hown with
     | fmap _ _ _ b' ents clock hbb hw hll hkk hvv hbn=>
      rw [hbb] at hb
      cases hb
      rcases Xz (w:=w) hu ha hll hkk hvv hk with ⟨e,_,_,_,h3,h4⟩|⟨h3,_⟩
      ·refine ⟨_, ?_,XL h3⟩
       simp only [Instr.lookup,J4,run_underlying hT,J3,Jd,ZE hw,hc E w rk _ hk,h4]
      ·omega
   | false=>
    rw [hb] at hl
    refine ⟨_,hl,fun E w rm rk he hm hk=> ?_⟩
    cases hm with
    | map _ b N hb2=>
     have hown:=he.own _ _ hg
     cases hown with
     | fmap _ _ _ b' ents clock hbb hw hll hkk hvv hbn=>
      rw [hbb] at hb2
      cases hb2
      rcases Xz (w:=w) hu ha hll hkk hvv hk with ⟨e,h3,_⟩|⟨h3,h4⟩
      ·have h5:Nat.blt (Zm (fun i=>Zx key (kf i)) n) n=true:=JO h3
       rw [h5] at hb;cases hb
      ·refine ⟨_, ?_,XL (hz2 E)⟩
       simp only [Instr.lookup,J4,run_underlying hT,J3,Jd,ZE hw,hc E w rk _ hk,h4,hz1]
  simp_all
 simp_all
theorem Z4s {P:Program} {w:World} {a b:Value} (h:Instr.sameBits 10000 a b=true):(Instr.keyThatStays a b).run P w=.ok b w:=by
 simp [Instr.keyThatStays,h]
theorem Z6G {P:Program} {h:Z7} {T:TypeId} {x n:Nat} {key v:AV} (hg:h.get x=some (.fmap n kf vf)) (hl:Z4r P h T x n kf vf key v K):
  ∃h',K h'/\∀(E:Env) (w:World) (rm rk rv:Value),Emb E h w->Zb E (.map (some x)) rm->Zb E key rk->Zb E v rv->∃w',(Instr.mapUpdate T rm rk rv).run P w=.ok () w'/\Evo E h w E h' w':=by
 unfold Z4r at hl
 split at hl
 ·rename_i kt et hT
  split at hl
  ·rename_i kd hu
   obtain ⟨⟨ha,hl⟩,hc⟩:=WV 20 9979 _ _ _ hl
   cases hb:Nat.blt (Zm (fun i=>Zx key (kf i)) n) n with
   | true=>
    have hlt:Zm (fun i=>Zx key (kf i)) n<n:=Jc hb
    rw [hb] at hl
    refine ⟨_,hl,fun E w rm rk rv he hm hk hv=> ?_⟩
    cases hm with
    | map _ b N hb=>
     have hown:=he.own _ _ hg
     cases hown with
     | fmap _ _ _ b' ents clock hbb hw hll hkk hvv hbn=>
      rw [hbb] at hb
      cases hb
      rcases Xz (w:=w) hu ha hll hkk hvv hk with ⟨e,_,h2,h3,_,h4⟩|⟨h3,_⟩
      ·generalize hJ:Zm (fun i=>Zx key (kf i)) n=J at*
       obtain ⟨_,h5,h6⟩:=Z6E h3 hk (hkk J e h2)
       have hs:(Instr.keyThatStays e.key rk).run P w=.ok rk w:=Z4s (by rw [<-h5];rw [<-h5] at h6;simp_all)
       have hbl:b<w.heap.size:=by
        grind
       refine ⟨{ w with heap:=w.heap.setIfInBounds b (.map (ents.set J (⟨rk,rv,e.born⟩:MapEntry)).toArray clock)}, ?_, ?_⟩
       ·have hm:ents.toArray.modify J (fun e=>{ e with key:=rk,val:=rv})=(ents.set J (⟨rk,rv,e.born⟩:MapEntry)).toArray:=by
         grind
        simp only [Instr.mapUpdate,J4,run_underlying hT,J3,ZE hw,hc E w rk _ hk,h4,List.getElem?_toArray,h2,Option.map_some,Option.getD_some,hs,hm,Y8 _ hw]
       ·refine Yb he x _ (.fmap n kf (W2 vf J v)) b 0 hg hbb (fun i hi=>by grind) (by simp) rfl rfl ⟨rfl,J2 _⟩ ?_
        ·refine .fmap _ _ _ b (ents.set J ⟨rk,rv,e.born⟩) clock hbb (by simp_all) (by simp [hll]) (fun i e' he'=> ?_) (fun i e' he'=> ?_) (hbn.of_born (Z9T h2 rfl))
         ·rw [Kf] at he'
          grind
         ·rw [Kf] at he'
          unfold W2
          split at he'
          ·grind [Jg]
          simp_all [Zs,Ne.symm]
      ·omega
   | false=>
    rw [hb] at hl
    refine ⟨_,hl,fun E w rm rk rv he hm hk hv=> ?_⟩
    cases hm with
    | map _ b N hb2=>
     have hown:=he.own _ _ hg
     cases hown with
     | fmap _ _ _ b' ents clock hbb hw hll hkk hvv hbn=>
      rw [hbb] at hb2
      cases hb2
      rcases Xz (w:=w) hu ha hll hkk hvv hk with ⟨e,h3,_⟩|⟨h3,h4⟩
      ·have h5:Nat.blt (Zm (fun i=>Zx key (kf i)) n) n=true:=JO h3
       rw [h5] at hb;cases hb
      ·have hbl:b<w.heap.size:=by
        grind
       refine ⟨{ w with heap:=w.heap.setIfInBounds b (.map (ents.toArray.push ⟨rk,rv,clock⟩) (clock+1))}, ?_, ?_⟩
       ·simp only [Instr.mapUpdate,J4,run_underlying hT,J3,ZE hw,hc E w rk _ hk,h4,Y8 _ hw]
       ·refine Yb he x _ (.fmap (n+1) (W2 kf n key) (W2 vf n v)) b 0 hg hbb (fun i hi=>by grind) (by simp) rfl rfl ⟨rfl,J2 _⟩ ?_
        ·refine .fmap _ _ _ b (ents++[⟨rk,rv,clock⟩]) (clock+1) hbb (by simp_all) (by simp [hll]) (fun i e' he'=> ?_) (fun i e' he'=> ?_) (hbn.push _ _)
         all_goals
          unfold W2
          rw [List.getElem?_append] at he'
          split at he'
          ·grind [Zs]
          ·have h7:=(J9.1 he').1
           simp at h7
           have h8:i=n:=by omega
           grind [Jg]
  simp_all
 simp_all
def Z4t (P:Program) (h:Z7) (T:TypeId) (m key:AV) (ok:Bool) (K:AV->Prop):Prop:=match m with
 | .map (some x)=>match h.get x with
  | some (.fmap n kf vf)=>Z4q P T n kf vf key ok K
  | _=>Z1f P h T m key ok K
 | _=>Z1f P h T m key ok K
theorem Z6H {P:Program} {h:Z7} {T:TypeId} {m key:AV} {ok:Bool} {K:AV->Prop} (hl:Z4t P h T m key ok K):
  ∃v,K v/\∀(E:Env) (w:World) (rm rk:Value),Emb E h w->Zb E m rm->Zb E key rk->∃r,(Instr.lookup T rm rk ok).run P w=.ok r w/\Zb E v r:=by
 unfold Z4t at hl
 grind [Z6F,Z6B]
def Z1i (P:Program) (h:Z7) (T:TypeId) (m key v:AV) (K:Z7->Prop):Prop:=match m with
 | .map (some x)=>match h.get x with
  | some (.fmap n kf vf)=>Z4r P h T x n kf vf key v K
  | _=>Z1h P h T m key v K
 | _=>Z1h P h T m key v K
theorem Z20 {P:Program} {h:Z7} {T:TypeId} {m key v:AV} (hl:Z1i P h T m key v K):
  ∃h',K h'/\∀(E:Env) (w:World) (rm rk rv:Value),Emb E h w->Zb E m rm->Zb E key rk->Zb E v rv->∃w',(Instr.mapUpdate T rm rk rv).run P w=.ok () w'/\Evo E h w E h' w':=by
 unfold Z1i at hl
 grind [Z6G,Z6D]
theorem Z06 {h:Z7} {w:World} (e:Emb E h w) (c M:Nat):Evo E h w (E.ext h.next c M) ⟨h.next+1,h.bs⟩ w:=by
 have hfr:E.blk h.next=none:=e.fresh _ (J2 _)
 have hle:E.le (E.ext h.next c M):=Env.ext_le hfr
 have hne:∀x B,h.get x=some B->x≠h.next:=fun x B hx=>by have:=e.lt x B hx;omega
 refine ⟨hle,⟨?_, ?_, ?_, ?_, ?_, ?_⟩,J2 _,rfl,rfl,⟨rfl,J2 _⟩,fun _ _ _=>rfl, ?_,fun _ _ h=>h⟩
 ·intro x hx
  have hx':h.next+1<=x:=hx
  rw [Env.ext_other _ _ _ (by omega)]
  exact e.fresh x (by omega)
 ·intro x B hx
  have:=e.lt x B hx
  show x<h.next+1
  omega
 ·intro x B hx
  exact (e.own x B hx).mono hle fun hn=>by rw [Env.ext_other _ _ _ (hne x B hx)];exact hn
 ·intro x y B B' b N N' hx hy hbx hby
  rw [Env.ext_other _ _ _ (hne x B hx)] at hbx
  rw [Env.ext_other _ _ _ (hne y B' hy)] at hby
  exact e.disj x y B B' b N N' hx hy hbx hby
 ·exact e.imm
 ·intro a v x B N hi hx hb
  rw [Env.ext_other _ _ _ (hne x B hx)] at hb
  exact e.sep a v x B N hi hx hb
 ·rintro b ⟨x,B,N,hx,hb⟩
  rw [Env.ext_other _ _ _ (hne x B hx)] at hb
  exact .inl ⟨x,B,N,hx,hb⟩
def Z4u (P:Program) (h:Z7) (T:TypeId) (m key:AV) (K:AV->Z7->Prop):Prop:=
 match P.underlying T,m with
 | some (.map kt et),.map (some x)=>match Qy P kt,Wf P et,h.get x with
  | true,some z,some (.map es)=>ckK P 20 kt key (Z3k P kt key (fun _ _=>False) (K (.tuple [z,.stamp h.next]) (Z7.set ⟨h.next+1,h.bs⟩ x (.smap (es++[(key,z)]) es.length h.next))) 0 es)
  | _,_,_=>False
 | _,_=>False
theorem Z3m {P:Program} {h:Z7} {T:TypeId} {m key:AV} {K:AV->Z7->Prop} (hl:Z4u P h T m key K):
  ∃v h',K v h'/\∀(E:Env) (w:World) (rm rk:Value),Emb E h w->Zb E m rm->Zb E key rk->∃r w' E',(Instr.mapEntry T rm rk).run P w=.ok r w'/\Evo E h w E' h' w'/\Zb E' v r:=by
 unfold Z4u at hl
 split at hl
 ·rename_i kt et x hT
  split at hl
  ·rename_i z es hkd hz hg
   obtain ⟨zr,hz1,hz2⟩:=X4 hz
   obtain ⟨kd,hu⟩:=WF hkd
   obtain ⟨hl,hc⟩:=WV 20 9979 _ _ _ hl
   rcases Qz hkd hu es 0 hl with ⟨j,_,h1,_⟩|⟨h1,h2⟩
   ·simp_all
   ·refine ⟨_,_,h1,fun E w rm rk he hm hk=> ?_⟩
    cases hm with
    | map _ b N hb=>
     have hown:=he.own _ _ hg
     cases hown with
     | map _ b' ents clock hbb hw hkk hvv hbn=>
      rw [hbb] at hb
      cases hb
      have hlt:b<w.heap.size:=by grind
      obtain ⟨h4,h5⟩:=h2 E w ents 0 rk hk hkk hvv
      have hf:=Y1 hu h4 h5
      have hev:=Z06 he clock 0
      have hle:=hev.le
      have hlen:es.length=ents.length:=by
       have:=hkk.length
       simpa using this.symm
      have hx:x≠h.next:=fun e=>by have:=he.lt x _ hg;omega
      have hbb':(E.ext h.next clock 0).blk x=some (b,0):=by rw [Env.ext_other _ _ _ hx];exact hbb
      refine ⟨.tuple #[zr,goInt clock],{ w with heap:=w.heap.setIfInBounds b (.map (ents.toArray.push ⟨rk,zr,clock⟩) (clock+1))},E.ext h.next clock 0, ?_,hev.trans ?_, ?_⟩
      ·simp only [Instr.mapEntry,J4,run_underlying hT,J3,ZE hw,hc E w rk _ hk,hf,hz1,Y8 _ hw,Jd]
      ·refine Yb hev.emb x (.map es) _ b 0 hg hbb' (fun i hi=> ?_) (by simp) rfl rfl ⟨rfl,J2 _⟩ ?_
       ·rw [Jb,if_neg (fun e=>hi e.symm)]
       ·refine .smap _ es.length h.next b (ents++[⟨rk,zr,clock⟩]) (clock+1) clock ⟨rk,zr,clock⟩ hbb' ?_ ?_ ?_ (hbn.push _ _) (Env.ext_same ..) (by rw [hlen];simp) rfl
        ·simp_all
        ·simp only [JD,JU]
         exact (hkk.mono hle).snoc (hk.mono hle)
        ·simp only [JD,JU]
         exact (hvv.mono hle).snoc (hz2 _)
      ·exact .tuple [z,.stamp h.next] [zr,.int .i64 clock] (.cons _ _ _ _ (hz2 _) (.cons _ _ _ _ (.stamp _ clock (Env.ext_same ..)) .nil))
  simp_all
 simp_all
def Z21:List (AV×AV)->Nat->AV->List (AV×AV)
 | [],_,_=>[]
 | (k,_)::r,0,v=>(k,v)::r
 | p::r,i+1,v=>p::Z21 r i v
theorem Z0A:∀(es:List (AV×AV)) (i:Nat) (v:AV),(Z21 es i v).map (·.1)=es.map (·.1)
 | [],_,_=>rfl
 | (_,_)::_,0,_=>rfl
 | p::r,i+1,v=>by simp [Z21,Z0A r i v]
theorem Z0B {E:Env} {v:AV} {rv:Value} (hv:Zb E v rv):∀(es:List (AV×AV)) (i:Nat) (ents:List MapEntry),Zr E (es.map (·.2)) (ents.map (·.val))->Zr E ((Z21 es i v).map (·.2)) ((ents.modify i fun e=>{ e with val:=rv}).map (·.val))
 | [],i,ents,h=>by
  cases ents with
  | nil=>cases i<;>exact .nil
  | cons _ _=>cases h
 | (k,u)::r,0,ents,h=>by
  cases ents with
  | nil=>cases h
  | cons e q=>cases h with
   | cons _ _ _ _ h1 h2=>exact .cons _ _ _ _ hv h2
 | p::r,i+1,ents,h=>by
  cases ents with
  | nil=>cases h
  | cons e q=>cases h with
   | cons _ _ _ _ h1 h2=>exact .cons _ _ _ _ h1 (Z0B hv r i q h2)
theorem modify_keys {rv:Value}:∀(ents:List MapEntry) (i:Nat),(ents.modify i fun e=>{ e with val:=rv}).map (·.key)=ents.map (·.key)
 | [],i=>by cases i<;>rfl
 | _::_,0=>rfl
 | e::q,i+1=>by
  have:=modify_keys (rv:=rv) q i
  simpa using this
theorem Z0C {rv:Value}:∀(ents:List MapEntry) (i:Nat),(ents.modify i fun e=>{ e with val:=rv}).map (·.born)=ents.map (·.born)
 | [],i=>by cases i<;>rfl
 | _::_,0=>rfl
 | e::q,i+1=>by
  have:=Z0C (rv:=rv) q i
  simpa using this
theorem find_born:∀(ents:List MapEntry) (i:Nat) (e:MapEntry),(ents.map (·.born)).Nodup->ents[i]? =some e->ents.findIdx? (fun q=>(q.born:Int)==(e.born:Int))=some i
 | [],i,e,_,h=>by simp at h
 | q::r,0,e,hn,h=>by
  simp at h
  subst h
  simp [List.findIdx?_cons]
 | q::r,i+1,e,hn,h=>by
  have hr:r[i]? =some e:=by simpa using h
  rw [JU,List.nodup_cons] at hn
  have hne:q.born≠e.born:=fun hq=>hn.1 (hq▸K4.2 ⟨e,JR hr,rfl⟩)
  have hb:((q.born:Int)==(e.born:Int))=false:=by
   rw [beq_eq_false_iff_ne]
   omega
  rw [List.findIdx?_cons,hb,find_born r i e hn.2 hr]
  rfl
def Z6I (h:Z7) (m s v:AV) (K:Z7->Prop):Prop:=
 match m,s with
 | .map (some x),.stamp y=>match h.get x with
  | some (.smap es i y')=>match Nat.beq y y' with
   | true=>K (h.set x (.map (Z21 es i v)))
   | false=>False
  | _=>False
 | _,_=>False
theorem Z8M {P:Program} {h:Z7} {m s v:AV} (hl:Z6I h m s v K):
  ∃h',K h'/\∀(E:Env) (w:World) (T:TypeId) (rm rs rv:Value),Emb E h w->Zb E m rm->Zb E s rs->Zb E v rv->∃w',(Instr.entryStore T rm rs rv).run P w=.ok () w'/\Evo E h w E h' w':=by
 unfold Z6I at hl
 split at hl
 ·rename_i x y
  split at hl
  ·rename_i es i y' hg
   split at hl
   ·rename_i hy
    have hy:=J0 hy
    subst hy
    refine ⟨_,hl,fun E w T rm rs rv he hm hs hv=> ?_⟩
    cases hm with
    | map _ b N hb=>cases hs with
     | stamp _ c hc=>
      have hown:=he.own _ _ hg
      cases hown with
      |smap _ _ _ b' ents clock s e hbb hw hkk hvv hbn hss hi hye=>
       rw [hbb] at hb
       cases hb
       rw [hss] at hc
       cases hc
       subst hye
       have hf:=find_born ents i e hbn.nd hi
       have hlt:b<w.heap.size:=by grind
       refine ⟨{ w with heap:=w.heap.setIfInBounds b (.map (ents.modify i fun e=>{ e with val:=rv}).toArray clock)}, ?_, ?_⟩
       ·simp only [Instr.entryStore,J4,ZE hw,J3,asInt,asIntOf,Jd,List.findIdx?_toArray,hf,Y8 _ hw,List.modify_toArray]
       ·refine Yb he x _ _ b 0 hg hbb (fun j hj=> ?_) (by simp) rfl rfl ⟨rfl,J2 _⟩ ?_
        ·rw [Jb,if_neg (fun e=>hj e.symm)]
        ·refine .map _ b _ clock hbb (by simp [hlt]) ?_ (Z0B hv es i ents hvv) (hbn.of_born (Z0C _ _))
         rw [Z0A,modify_keys]
         exact hkk
   simp_all
  simp_all
 simp_all
end Go.Tk
end
section
namespace Go.Tk
open IntKind (i64 u8 u32 u64 wrap)
variable {E:Env} {B:Blk} {K:AV->Z7->Prop} {ents:List MapEntry} {rx:Value} {j:Nat} {kf vf:Nat->AV}
open Go.ChangeMaps (setBlock)
theorem QA {E:Env}:∀{vs:List AV} {rs:List Value} {i:Nat} {v:AV} {r:Value},Zr E vs rs->vs[i]? =some v->rs[i]? =some r->Zb E v r
 | _,_,0,v,r,.cons _ _ _ _ h _,h1,h2=>by
  simp_all
 | _,_,i+1,v,r,.cons _ _ _ _ _ t,h1,h2=>QA t (by simpa using h1) (by simp_all)
 | _,_,_,v,r,.nil,h1,_=>by simp at h1
theorem QB {h:Z7} {w:World} (e:Emb E h w) {x:Nat} {B':Blk} {b N:Nat} (hx:h.get x=some B) (hb:E.blk x=some (b,N)) (hB:ZZ E w x B'):Evo E h w E (h.set x B') w:=
 Yb e x B B' b N hx hb (fun _ _=>rfl) rfl rfl rfl ⟨rfl,J2 _⟩ hB
def QC (h:Z7) (m:AV) (K:Z7->Prop):Prop:=match m with
 | .map (some x)=>match h.get x with
  | some (.froz B _)=>K (h.set x B)
  | _=>K h
 | _=>K h
theorem Wu {h:Z7} {m:AV} {K:Z7->Prop} (hl:QC h m K):∃h',K h'/\∀(E:Env) (w:World),Emb E h w->Evo E h w E h' w:=by
 unfold QC at hl
 split at hl
 ·split at hl
  ·rename_i x B y hg
   refine ⟨_,hl,fun E w he=> ?_⟩
   have hown:=he.own _ _ hg
   cases hown with
   | froz B y b ents clock hB hb hw hbn hy=>exact QB he hg hb hB
  ·exact ⟨_,hl,fun E w he=>.refl he⟩
 ·exact ⟨_,hl,fun E w he=>.refl he⟩
def Z9U (h:Z7) (x:Nat) (B:Blk) (K:AV->Z7->Prop):Prop:=
 K (.ptr (some ⟨h.next+1,0,0,0,0⟩)) ((Z7.set ⟨h.next+1,h.bs⟩ x (.froz B h.next)).add (.git x h.next []))
def Z6J (P:Program) (h:Z7) (T:TypeId) (m:AV) (K:AV->Z7->Prop):Prop:=
 match P.underlying T,m with
 | some (.map _ _),.map (some x)=>QC h m fun h=>match h.get x with
  | some (.map es)=>Z9U h x (.map es) K
  | some (.fmap n kf vf)=>Z9U h x (.fmap n kf vf) K
  | _=>False
 | _,_=>False
theorem Z3n {P:Program} {h:Z7} {T:TypeId} {x:Nat} {w:World} {b:Nat} {clock:Nat} {kt et:TypeId} (hT:P.underlying T=some (.map kt et)) (he:Emb E h w) (hg:h.get x=some B) (hbb:E.blk x=some (b,0)) (hw:w.heap[b]? =some (.map ents.toArray clock)) (hbn:Yv ents clock):
  ∃r w' E',(Instr.range T (.map (some b))).run P w=.ok r w'/\Evo E h w E' ((Z7.set ⟨h.next+1,h.bs⟩ x (.froz B h.next)).add (.git x h.next [])) w'/\Zb E' (.ptr (some ⟨h.next+1,0,0,0,0⟩)) r:=by
 have hx:x≠h.next:=fun e=>by have:=he.lt x _ hg;omega
 have hx1:x≠h.next+1:=fun e=>by have:=he.lt x _ hg;omega
 have hev:=Z06 he clock (Z1v (ents.map (·.born)))
 have hb1:(E.ext h.next clock (Z1v (ents.map (·.born)))).blk x=some (b,0):=by rw [Env.ext_other _ _ _ hx];exact hbb
 have h2:=QB (h:=⟨h.next+1,h.bs⟩) hev.emb hg hb1 (.froz B h.next b ents clock (hev.emb.own x B hg) hb1 hw hbn (Env.ext_same ..))
 have h3:=Xy h2.emb (.mapIter (some b) clock #[] clock) 0 (.git x h.next []) (by
  refine .git x h.next [] w.heap.size b clock (ents.map (·.born)) #[] (Env.ext_same ..) ?_ ?_ rfl (by simp) (by simp)
  ·rw [Env.ext_other _ _ _ (show x≠(Z7.set ⟨h.next+1,h.bs⟩ x _).next from hx1)];exact hb1
  ·rw [Env.ext_other _ _ _ (show h.next≠(Z7.set ⟨h.next+1,h.bs⟩ x _).next from (by show h.next≠h.next+1;omega))];exact Env.ext_same ..)
 refine ⟨.pointer (some ⟨w.heap.size,0,none⟩),_,_, ?_,(hev.trans h2).trans h3,.ptr _ w.heap.size 0 (Env.ext_same ..)⟩
 simp only [Instr.range,J4,run_underlying hT,J3,ZE hw]
 simp [newObj,Sem.run,Result.andThen]
theorem Z8N {P:Program} {h:Z7} {T:TypeId} {m:AV} (hl:Z6J P h T m K):
  ∃v h',K v h'/\∀(E:Env) (w:World) (rm:Value),Emb E h w->Zb E m rm->∃r w' E',(Instr.range T rm).run P w=.ok r w'/\Evo E h w E' h' w'/\Zb E' v r:=by
 unfold Z6J at hl
 split at hl
 ·rename_i kt et x hT
  obtain ⟨h1,hl,h2⟩:=Wu hl
  split at hl
  ·rename_i es hg
   refine ⟨_,_,hl,fun E w rm he hm=> ?_⟩
   have hev:=h2 E w he
   cases hm with
   | map _ b N hb=>
    have hown:=hev.emb.own _ _ hg
    cases hown with
    | map _ b' ents clock hbb hw hkk hvv hbn=>
     rw [hbb] at hb
     cases hb
     obtain ⟨r,w',E',q1,q2,q3⟩:=Z3n hT hev.emb hg hbb hw hbn
     exact ⟨r,w',E',q1,hev.trans q2,q3⟩
  ·rename_i n kf vf hg
   refine ⟨_,_,hl,fun E w rm he hm=> ?_⟩
   have hev:=h2 E w he
   cases hm with
   | map _ b N hb=>
    have hown:=hev.emb.own _ _ hg
    cases hown with
    | fmap _ _ _ b' ents clock hbb hw hll hkk hvv hbn=>
     rw [hbb] at hb
     cases hb
     obtain ⟨r,w',E',q1,q2,q3⟩:=Z3n hT hev.emb hg hbb hw hbn
     exact ⟨r,w',E',q1,hev.trans q2,q3⟩
  ·exact hl.elim
 ·exact hl.elim
def QD:List (AV×AV)->Nat->List Nat->Bool
 | [],_,_=>false
 | _::r,i,js=>match memN' i js with
  | true=>QD r (i+1) js
  | false=>true
where memN' (i:Nat):List Nat->Bool
 | []=>false
 | j::r=>match Nat.beq i j with|true=>true|false=>memN' i r
def Z22:List (AV×AV)->Nat->List Nat->(Nat->AV->AV->Prop)->Prop->Prop
 | [],_,_,_,D=>D
 | (k,v)::r,i,js,F,D=>match QD.memN' i js with
  | true=>Z22 r (i+1) js F D
  | false=>match QD r (i+1) js with
   | true=>F i k v/\Z22 r (i+1) js F True
   | false=>F i k v
def Z9V (h:Z7) (x:AV) (K:AV->Z7->Prop):Prop:=
 match x with
 | .ptr (some ⟨b,0,0,0,0⟩)=>match h.get b with
  | some (.git m y js)=>match h.get m with
   | some (.froz (.map es) y')=>match Nat.beq y y' with
    | true=>Z22 es 0 js (fun j k v=>K (.tuple [.bool true,k,v]) (h.set b (.git m y (j::js)))) (K (.tuple [.bool false]) (h.set m (.map es)))
    | false=>False
   | some (.froz (.fmap n kf vf) y')=>match Nat.beq y y' with
    | true=>(∀j,j<n->j∉js->K (.tuple [.bool true,kf j,vf j]) (h.set b (.git m y (j::js))))/\((∀j,j<n->j∈js)->K (.tuple [.bool false]) (h.set m (.fmap n kf vf)))
    | false=>False
   | _=>False
  | _=>False
 | _=>False
theorem Up (i:Nat):∀l:List Nat,QD.memN' i l=true↔i∈l
 | []=>by simp [QD.memN']
 | j::r=>by
  unfold QD.memN'
  split
  ·rename_i h;simp [J0 h]
  ·rename_i h
   have hne:i≠j:=fun e=>by subst e;rw [Jg] at h;cases h
   simp [Up i r,hne]
theorem Z0D {js:List Nat}:∀{es:List (AV×AV)} {i:Nat},QD es i js=false->∀j,i<=j->j<i+es.length->j∈js
 | [],i,_,j,h1,h2=>by simp at h2;omega
 | e::r,i,h,j,h1,h2=>by
  unfold QD at h
  split at h
  ·rename_i hm
   rcases Nat.eq_or_lt_of_le h1 with rfl|h3
   ·exact (Up _ _).1 hm
   ·exact Z0D h j h3 (by simp at h2;omega)
  ·cases h
theorem Q3 {js:List Nat} {F:Nat->AV->AV->Prop} {D:Prop}:∀{es:List (AV×AV)} {i:Nat},Z22 es i js F D->∀j k v,es[j]? =some (k,v)->i+j∉js->F (i+j) k v
 | [],i,_,j,k,v,h1,_=>by simp at h1
 | (k0,v0)::r,i,h,j,k,v,h1,h2=>by
  unfold Z22 at h
  cases j with
  | zero=>
   simp only [List.getElem?_cons_zero,Kg,Prod.mk.injEq] at h1
   obtain ⟨rfl,rfl⟩:=h1
   split at h
   ·rename_i hm
    exact absurd ((Up _ _).1 hm) h2
   ·split at h
    ·exact h.1
    ·exact h
  | succ j=>
   have h1':r[j]? =some (k,v):=by simpa using h1
   have e:i+(j+1)=i+1+j:=by omega
   rw [e] at h2⊢
   split at h
   ·exact Q3 h j k v h1' h2
   ·split at h
    ·exact Q3 h.2 j k v h1' h2
    ·rename_i hf
     have hj:j<r.length:=(J9.1 h1').1
     exact absurd (Z0D hf (i+1+j) (by omega) (by omega)) h2
theorem Z23 {js:List Nat} {F:Nat->AV->AV->Prop} {D:Prop}:∀{es:List (AV×AV)} {i:Nat},Z22 es i js F D->(∀j,i<=j->j<i+es.length->j∈js)->D
 | [],i,h,_=>h
 | (k,v)::r,i,h,ha=>by
  unfold Z22 at h
  have h0:QD.memN' i js=true:=(Up _ _).2 (ha i (J2 _) (by simp))
  rw [h0] at h
  exact Z23 h fun j h1 h2=>ha j (by omega) (by simp;omega)
theorem Z24 {P:Program} {h:Z7} {w:World} {b m y:Nat} {js:List Nat} (he:Emb E h w) (hb:h.get b=some (.git m y js)) (hm:h.get m=some (.froz B y)) (hx:Zb E (.ptr (some ⟨b,0,0,0,0⟩)) rx) (ty:TypeId):
  ∃(q:Nat) (ents:List MapEntry) (clock:Nat),E.blk m=some (q,0)/\w.heap[q]? =some (.map ents.toArray clock)/\ZZ E w m B/\
   (((∀j,j<ents.length->j∈js)/\(Instr.next rx false ty).run P w=.ok (.tuple #[.bool false]) w)\/
   ∃(j:Nat) (e:MapEntry) (w':World),ents[j]? =some e/\j∉js/\(Instr.next rx false ty).run P w=.ok (.tuple #[.bool true,e.key,e.val]) w'/\Evo E h w E (h.set b (.git m y (j::js))) w'):=by
 have o1:=he.own _ _ hb
 have o2:=he.own _ _ hm
 cases o1 with
 | git _ _ _ b0 mb clock bs seen h1 h2 h3 h4 hj h5=>
  cases o2 with
  | froz _ _ mb' ents clock' hB g1 g2 g3 g4=>
   rw [h2] at g1
   cases g1
   rw [h3] at g4
   injection g4 with g4
   injection g4 with e1 e2
   subst e1
   have e2:=Z1w e2
   subst e2
   refine ⟨mb,ents,clock,h2,g2,hB, ?_⟩
   cases hx with
   | ptr _ q N hq=>
    have hq':E.blk b=some (q,N):=hq
    rw [h1] at hq'
    cases hq'
    have hmem:∀(j:Nat) (e:MapEntry),ents[j]? =some e->(e.born∈seen.toList↔j∈js):=fun j e hje=>by
     obtain ⟨hjl,hje'⟩:=J9.1 hje
     rw [h4]
     simp only [List.mem_reverse,K4]
     constructor
     ·rintro ⟨i,hi,hib⟩
      have hil:=hj i hi
      simp only [List.length_map] at hil
      have:(ents.map (·.born)).getD i 0=(ents.map (·.born))[i]'(by simpa using hil):=by simp [hil]
      rw [this] at hib
      have hb':(ents.map (·.born))[j]'(by simpa using hjl)=e.born:=by simp [hje']
      have:=(List.getElem_inj (h₀:=by simpa using hil) (h₁:=by simpa using hjl) g3.nd).1 (hib.trans hb'.symm)
      rwa [<-this]
     ·intro hi
      exact ⟨j,hi,by simp [hjl,hje']⟩
    rcases run_next_at (P:=P) w ty b0 mb clock clock seen ents.toArray clock h5 g2 (fun x hx=>g3.lt x (by simpa using hx)) (J2 _) with ⟨r1,r2⟩|⟨e,r1,w1,r2,r3⟩
    ·refine .inl ⟨fun j hjl=> ?_,r2⟩
     have he0:leftOf ents.toArray seen= #[]:=Array.eq_empty_of_size_eq_zero r1
     unfold leftOf at he0
     rw [Array.filter_eq_empty_iff] at he0
     have:=he0 ents[j] (by simp)
     refine (hmem j ents[j] (by simp)).1 ?_
     simpa using this
    ·obtain ⟨hin,hns⟩:e∈ents/\e.born∉seen.toList:=by
      unfold leftOf at r1
      simpa using r1
     obtain ⟨j,hj'⟩:=List.getElem?_of_mem hin
     have hjs:j∉js:=fun hh=>hns ((hmem j e hj').2 hh)
     refine .inr ⟨j,e,_,hj',hjs,r3, ?_⟩
     have hjl:=(J9.1 hj').1
     have hd:Evo E h w E h w1:=by
      rcases r2 with rfl|rfl
      ·exact .refl he
      ·exact Qm he rfl rfl rfl ⟨rfl,Nat.le_succ _⟩
     have hw1:w1.heap=w.heap:=by rcases r2 with rfl|rfl<;>rfl
     refine hd.trans (Yb hd.emb b _ (.git m y (j::js)) b0 0 hb h1 (fun i hi=> ?_) (by simp [setBlock]) rfl rfl ⟨rfl,J2 _⟩ ?_)
     ·simp only [setBlock]
      rw [Jb,if_neg (fun e=>hi e.symm)]
     ·have hlt:b0<w1.heap.size:=by rw [hw1];grind
      refine .git m y _ b0 mb clock _ (seen.push e.born) h1 h2 h3 ?_ ?_ ?_
      ·have hx:=(J9.1 hj').2
       simp [h4,hjl,hx]
      ·intro i hi
       rcases J6.1 hi with rfl|hi
       ·simpa using hjl
       ·exact hj i hi
      ·simp [setBlock,hlt]
theorem Z9W {P:Program} {h:Z7} {x:AV} (hl:Z9V h x K) {w:World} (ty:TypeId) (he:Emb E h w) (hx:Zb E x rx):
  ∃v h' r w',K v h'/\(Instr.next rx false ty).run P w=.ok r w'/\Evo E h w E h' w'/\Zb E v r:=by
 unfold Z9V at hl
 split at hl
 ·rename_i b
  split at hl
  ·rename_i m y js hb
   split at hl
   ·rename_i es y' hm
    split at hl
    ·rename_i hy
     have hy:=J0 hy
     subst hy
     obtain ⟨q,ents,clock,g1,g2,g3,g4⟩:=Z24 (P:=P) he hb hm hx ty
     cases g3 with
     | map _ b' ents' clock' hbb hw hkk hvv hbn=>
      rw [hbb] at g1
      cases g1
      rw [hw] at g2
      simp only [Kg,Obj.map.injEq] at g2
      obtain ⟨g2,rfl⟩:=g2
      have g2:ents'=ents:=by simpa using g2
      subst g2
      have hlen:=hkk.length
      simp only [List.length_map] at hlen
      rcases g4 with ⟨a1,a2⟩|⟨j,e,w',a1,a2,a3,a4⟩
      ·refine ⟨_,_,_,w,Z23 hl fun j _ hj=>a1 j (by omega),a2, ?_,.tuple [.bool false] [.bool false] (.cons _ _ _ _ (.bool _) .nil)⟩
       exact QB he hm hbb (.map es _ ents' _ hbb hw hkk hvv hbn)
      ·have hjl:=(J9.1 a1).1
       obtain ⟨k,v,hkv⟩:∃k v,es[j]? =some (k,v):=⟨_,_,J8 (by omega)⟩
       have hF:=Q3 hl j k v hkv (by rw [Jm];exact a2)
       rw [Jm] at hF
       refine ⟨_,_,_,w',hF,a3,a4,.tuple [.bool true,k,v] [.bool true,e.key,e.val] (.cons _ _ _ _ (.bool _) (.cons _ _ _ _ ?_ (.cons _ _ _ _ ?_ .nil)))⟩
       ·exact QA (i:=j) hkk (by simp [hkv]) (by simp [a1])
       ·exact QA (i:=j) hvv (by simp [hkv]) (by simp [a1])
    ·exact hl.elim
   ·rename_i n kf vf y' hm
    split at hl
    ·rename_i hy
     have hy:=J0 hy
     subst hy
     obtain ⟨q,ents,clock,g1,g2,g3,g4⟩:=Z24 (P:=P) he hb hm hx ty
     cases g3 with
     | fmap _ _ _ b' ents' clock' hbb hw hll hkk hvv hbn=>
      rw [hbb] at g1
      cases g1
      rw [hw] at g2
      simp only [Kg,Obj.map.injEq] at g2
      obtain ⟨g2,rfl⟩:=g2
      have g2:ents'=ents:=by simpa using g2
      subst g2
      rcases g4 with ⟨a1,a2⟩|⟨j,e,w',a1,a2,a3,a4⟩
      ·refine ⟨_,_,_,w,hl.2 fun j hj=>a1 j (by omega),a2, ?_,.tuple [.bool false] [.bool false] (.cons _ _ _ _ (.bool _) .nil)⟩
       exact QB he hm hbb (.fmap _ _ _ _ ents' _ hbb hw hll hkk hvv hbn)
      ·have hjl:=(J9.1 a1).1
       refine ⟨_,_,_,w',hl.1 j (by omega) a2,a3,a4,.tuple [.bool true,kf j,vf j] [.bool true,e.key,e.val] (.cons _ _ _ _ (.bool _) (.cons _ _ _ _ (hkk j e a1) (.cons _ _ _ _ (hvv j e a1) .nil)))⟩
    ·exact hl.elim
   ·exact hl.elim
  ·exact hl.elim
 ·exact hl.elim
def Zc4:List (AV×AV)->Nat->Option (AV×AV)
 | [],_=>none
 | p::_,0=>some p
 | _::r,n+1=>Zc4 r n
theorem Z7L:∀(es:List (AV×AV)) (j:Nat),Zc4 es j=es[j]?
 | [],_=>rfl
 | _::_,0=>rfl
 | _::r,n+1=>by simp [Zc4,Z7L r n]
def Z9X (h:Z7) (x:AV) (K:AV->Prop):Prop:=
 match x with
 | .ptr (some ⟨b,0,0,0,0⟩)=>match h.get b with
  | some (.git m y (j::_))=>match h.get m with
   | some (.froz (.map es) y')=>match Nat.beq y y' with
    | true=>(match Zc4 es j with
     | some (k,v)=>K (.tuple [k,v])
     | none=>False)
    | false=>False
   | some (.froz (.fmap _ kf vf) y')=>match Nat.beq y y' with
    | true=>K (.tuple [kf j,vf j])
    | false=>False
   | _=>False
  | _=>False
 | _=>False
theorem Z25 {P:Program} {h:Z7} {w:World} {b m y:Nat} {js:List Nat} (he:Emb E h w) (hb:h.get b=some (.git m y (j::js))) (hm:h.get m=some (.froz B y)) (hx:Zb E (.ptr (some ⟨b,0,0,0,0⟩)) rx):
  ∃(q:Nat) (ents:List MapEntry) (clock:Nat) (e:MapEntry),E.blk m=some (q,0)/\w.heap[q]? =some (.map ents.toArray clock)/\ZZ E w m B/\ents[j]? =some e/\(Instr.entry rx).run P w=.ok (.tuple #[e.key,e.val]) w:=by
 have o1:=he.own _ _ hb
 have o2:=he.own _ _ hm
 cases o1 with
 | git _ _ _ b0 mb clock bs seen h1 h2 h3 h4 hj h5=>
  cases o2 with
  | froz _ _ mb' ents clock' hB g1 g2 g3 g4=>
   rw [h2] at g1
   cases g1
   rw [h3] at g4
   injection g4 with g4
   injection g4 with e1 e2
   subst e1
   have e2:=Z1w e2
   subst e2
   have hjl:j<ents.length:=by simpa using hj j (Jq ..)
   refine ⟨mb,ents,clock,ents[j],h2,g2,hB,by simp, ?_⟩
   cases hx with
   | ptr _ q N hq=>
    have hq':E.blk b=some (q,N):=hq
    rw [h1] at hq'
    cases hq'
    have hseen:seen=((js.map fun j=>(ents.map (·.born)).getD j 0).reverse.toArray).push ents[j].born:=by
     have:seen.toList=_:=h4
     apply Array.toList_inj.1
     rw [this]
     simp [hjl]
    rw [hseen] at h5
    exact run_entry_at w b0 mb clock _ ents.toArray clock ents[j] h5 g2 (by simp) (by simpa using g3.nd)
theorem Z9Y {P:Program} {h:Z7} {x:AV} {K:AV->Prop} (hl:Z9X h x K):
  ∃v,K v/\∀(E:Env) (w:World) (rx:Value),Emb E h w->Zb E x rx->∃r,(Instr.entry rx).run P w=.ok r w/\Zb E v r:=by
 unfold Z9X at hl
 split at hl
 ·rename_i b
  split at hl
  ·rename_i m y j js hb
   split at hl
   ·rename_i es y' hm
    split at hl
    ·rename_i hy
     have hy:=J0 hy
     subst hy
     split at hl
     ·rename_i k v hkv
      rw [Z7L] at hkv
      refine ⟨_,hl,fun E w rx he hx=> ?_⟩
      obtain ⟨q,ents,clock,e,g1,g2,g3,g4,g5⟩:=Z25 (P:=P) he hb hm hx
      cases g3 with
      | map _ b' ents' clock' hbb hw hkk hvv hbn=>
       rw [hbb] at g1
       cases g1
       rw [hw] at g2
       simp only [Kg,Obj.map.injEq] at g2
       obtain ⟨g2,rfl⟩:=g2
       have g2:ents'=ents:=by simpa using g2
       subst g2
       refine ⟨_,g5,.tuple [k,v] [e.key,e.val] (.cons _ _ _ _ ?_ (.cons _ _ _ _ ?_ .nil))⟩
       ·exact QA (i:=j) hkk (by simp [hkv]) (by simp [g4])
       ·exact QA (i:=j) hvv (by simp [hkv]) (by simp [g4])
     ·exact hl.elim
    ·exact hl.elim
   ·rename_i n kf vf y' hm
    split at hl
    ·rename_i hy
     have hy:=J0 hy
     subst hy
     refine ⟨_,hl,fun E w rx he hx=> ?_⟩
     obtain ⟨q,ents,clock,e,g1,g2,g3,g4,g5⟩:=Z25 (P:=P) he hb hm hx
     cases g3 with
     | fmap _ _ _ b' ents' clock' hbb hw hll hkk hvv hbn=>
      rw [hbb] at g1
      cases g1
      rw [hw] at g2
      simp only [Kg,Obj.map.injEq] at g2
      obtain ⟨g2,rfl⟩:=g2
      have g2:ents'=ents:=by simpa using g2
      subst g2
      exact ⟨_,g5,.tuple [kf j,vf j] [e.key,e.val] (.cons _ _ _ _ (hkk j e g4) (.cons _ _ _ _ (hvv j e g4) .nil))⟩
    ·exact hl.elim
   ·exact hl.elim
  ·exact hl.elim
 ·exact hl.elim
def X8 (f:Nat->AV) (j i:Nat):AV:=match Nat.blt i j with|true=>f i|false=>f (i+1)
theorem Z5f {f:Nat->AV} {R:AV->Value->Prop} {g:MapEntry->Value} (hj:j<ents.length) (h:∀(i:Nat) (e:MapEntry),ents[i]? =some e->R (f i) (g e)) (i:Nat) (e:MapEntry) (he:(ents.eraseIdx j)[i]? =some e):R (X8 f j i) (g e):=by
 unfold X8
 rw [List.getElem?_eraseIdx] at he
 split at he
 ·rename_i hlt
  rw [JO (show i+1<=j from hlt)|>(fun (q:Nat.blt i j=true)=>q)]
  exact h i e he
 ·rename_i hlt
  have:Nat.blt i j=false:=by
   cases q:Nat.blt i j with
   | false=>rfl
   | true=>exact absurd (Jc q) hlt
  rw [this]
  exact h (i+1) e he
def Z4v (P:Program) (h:Z7) (T:TypeId) (x n:Nat) (kf vf:Nat->AV) (key:AV) (K:Z7->Prop):Prop:=
 match P.underlying T with
 | some (.map kt _)=>match P.underlying kt with
  | some _=>ckK P 20 kt key (Y5 P kt key n kf/\Z8 (Nat.blt (Zm (fun i=>Zx key (kf i)) n) n) (K (h.set x (.fmap (n-1) (X8 kf (Zm (fun i=>Zx key (kf i)) n)) (X8 vf (Zm (fun i=>Zx key (kf i)) n))))) (K h))
  | none=>False
 | _=>False
theorem Z6K {P:Program} {h:Z7} {T:TypeId} {x n:Nat} {key:AV} {K:Z7->Prop} (hg:h.get x=some (.fmap n kf vf)) (hl:Z4v P h T x n kf vf key K):
  ∃h',K h'/\∀(E:Env) (w:World) (rm rk:Value) (tys:Array TypeId) (ty:TypeId),tys[0]? =some T->Emb E h w->Zb E (.map (some x)) rm->Zb E key rk->∃w',(Builtin.delete_ tys ty #[rm,rk]).run P w=.ok (.tuple #[]) w'/\Evo E h w E h' w':=by
 unfold Z4v at hl
 split at hl
 ·rename_i kt et hT
  split at hl
  ·rename_i kd hu
   obtain ⟨⟨ha,hl⟩,hc⟩:=WV 20 9979 _ _ _ hl
   cases hb:Nat.blt (Zm (fun i=>Zx key (kf i)) n) n with
   | true=>
    have hlt:Zm (fun i=>Zx key (kf i)) n<n:=Jc hb
    rw [hb] at hl
    refine ⟨_,hl,fun E w rm rk tys ty htys he hm hk=> ?_⟩
    cases hm with
    | map _ b N hb=>
     have hown:=he.own _ _ hg
     cases hown with
     | fmap _ _ _ b' ents clock hbb hw hll hkk hvv hbn=>
      rw [hbb] at hb
      cases hb
      rcases Xz (w:=w) hu ha hll hkk hvv hk with ⟨e,_,h2,h3,_,h4⟩|⟨h3,_⟩
      ·generalize hJ:Zm (fun i=>Zx key (kf i)) n=J at*
       have hbl:b<w.heap.size:=by grind
       refine ⟨{ w with heap:=w.heap.setIfInBounds b (.map (ents.eraseIdx J).toArray clock)}, ?_, ?_⟩
       ·have e1:(#[Value.map (some b),rk]:Array Value)[0]? =some (.map (some b)):=rfl
        have e2:(#[Value.map (some b),rk]:Array Value)[1]? =some rk:=rfl
        have hm:ents.toArray.eraseIdxIfInBounds J=(ents.eraseIdx J).toArray:=by
         unfold Array.eraseIdxIfInBounds
         rw [dif_pos (by simp;omega)]
         simp
        unfold Builtin.delete_
        rw [htys,e1,e2]
        simp only [J4,run_underlying hT,J3,ZE hw,hc E w rk _ hk,h4,Y8 _ hw,Jd,hm]
       ·refine Yb he x _ (.fmap (n-1) (X8 kf J) (X8 vf J)) b 0 hg hbb (fun i hi=>by grind) (by simp) rfl rfl ⟨rfl,J2 _⟩ ?_
        exact .fmap _ _ _ b (ents.eraseIdx J) clock hbb (by simp_all) (by rw [K2 (by omega)];omega) (Z5f (R:=Zb E) (by omega) hkk) (Z5f (R:=Zb E) (by omega) hvv) (hbn.erase J)
      ·omega
   | false=>
    rw [hb] at hl
    refine ⟨_,hl,fun E w rm rk tys ty htys he hm hk=> ?_⟩
    cases hm with
    | map _ b N hb2=>
     have hown:=he.own _ _ hg
     cases hown with
     | fmap _ _ _ b' ents clock hbb hw hll hkk hvv hbn=>
      rw [hbb] at hb2
      cases hb2
      rcases Xz (w:=w) hu ha hll hkk hvv hk with ⟨e,h3,_⟩|⟨h3,h4⟩
      ·have h5:Nat.blt (Zm (fun i=>Zx key (kf i)) n) n=true:=JO h3
       rw [h5] at hb;cases hb
      ·have hbl:b<w.heap.size:=by grind
       have hown:=he.own _ _ hg
       refine ⟨{ w with heap:=w.heap.setIfInBounds b (.map ents.toArray clock)}, ?_, ?_⟩
       ·have e1:(#[Value.map (some b),rk]:Array Value)[0]? =some (.map (some b)):=rfl
        have e2:(#[Value.map (some b),rk]:Array Value)[1]? =some rk:=rfl
        unfold Builtin.delete_
        rw [htys,e1,e2]
        simp only [J4,run_underlying hT,J3,ZE hw,hc E w rk _ hk,h4,Y8 _ hw,Jd]
       ·have hs:({ w with heap:=w.heap.setIfInBounds b (.map ents.toArray clock)}:World)=w:=by
         have:w.heap.setIfInBounds b (.map ents.toArray clock)=w.heap:=by
          apply Array.ext_getElem?
          intro i
          rw [Jb]
          split
          ·rename_i hi;subst hi;rw [hw]
          ·rfl
         rw [this]
        rw [hs]
        exact .refl he
  ·exact hl.elim
 ·exact hl.elim
def Z4w (P:Program) (h:Z7) (T:TypeId) (m key:AV) (K:Z7->Prop):Prop:=match m with
 | .map (some x)=>match h.get x with
  | some (.fmap n kf vf)=>Z4v P h T x n kf vf key K
  | _=>Z1g P h T m key K
 | _=>Z1g P h T m key K
theorem Z6L {P:Program} {h:Z7} {T:TypeId} {m key:AV} {K:Z7->Prop} (hl:Z4w P h T m key K):
  ∃h',K h'/\∀(E:Env) (w:World) (rm rk:Value) (tys:Array TypeId) (ty:TypeId),tys[0]? =some T->Emb E h w->Zb E m rm->Zb E key rk->∃w',(Builtin.delete_ tys ty #[rm,rk]).run P w=.ok (.tuple #[]) w'/\Evo E h w E h' w':=by
 unfold Z4w at hl
 split at hl
 ·split at hl
  ·rename_i hg
   exact Z6K hg hl
  ·exact Z1Y hl
 ·exact Z1Y hl
def Z6M (P:Program) (h:Z7) (T:TypeId) (x n:Nat) (kf vf:Nat->AV) (key:AV) (K:AV->Z7->Prop):Prop:=
 match P.underlying T with
 | some (.map kt et)=>match P.underlying kt,Wf P et with
  | some _,some z=>ckK P 20 kt key (Y5 P kt key n kf/\Z5 (Zm (fun i=>Zx key (kf i)) n=n) (K (.tuple [z,.stamp h.next]) (Z7.set ⟨h.next+1,h.bs⟩ x (.sfmap n kf vf key h.next))))
  | _,_=>False
 | _=>False
theorem Z8O {P:Program} {h:Z7} {T:TypeId} {x n:Nat} {key:AV} (hg:h.get x=some (.fmap n kf vf)) (hl:Z6M P h T x n kf vf key K):
  ∃v h',K v h'/\∀(E:Env) (w:World) (rm rk:Value),Emb E h w->Zb E (.map (some x)) rm->Zb E key rk->∃r w' E',(Instr.mapEntry T rm rk).run P w=.ok r w'/\Evo E h w E' h' w'/\Zb E' v r:=by
 unfold Z6M at hl
 split at hl
 ·rename_i kt et hT
  split at hl
  ·rename_i kd z hu hz
   obtain ⟨zr,hz1,hz2⟩:=X4 hz
   obtain ⟨⟨ha,hl⟩,hc⟩:=WV 20 9979 _ _ _ hl
   obtain ⟨hn,hl⟩:=Zf hl
   refine ⟨_,_,hl,fun E w rm rk he hm hk=> ?_⟩
   cases hm with
   | map _ b N hb=>
    have hown:=he.own _ _ hg
    cases hown with
    | fmap _ _ _ b' ents clock hbb hw hll hkk hvv hbn=>
     rw [hbb] at hb
     cases hb
     have hlt:b<w.heap.size:=by grind
     rcases Xz (w:=w) hu ha hll hkk hvv hk with ⟨e,h3,_⟩|⟨_,h4⟩
     ·omega
     ·have hev:=Z06 he clock 0
      have hle:=hev.le
      have hx:x≠h.next:=fun e=>by have:=he.lt x _ hg;omega
      have hbb':(E.ext h.next clock 0).blk x=some (b,0):=by rw [Env.ext_other _ _ _ hx];exact hbb
      refine ⟨.tuple #[zr,goInt clock],{ w with heap:=w.heap.setIfInBounds b (.map (ents.toArray.push ⟨rk,zr,clock⟩) (clock+1))},E.ext h.next clock 0, ?_,hev.trans ?_, ?_⟩
      ·simp only [Instr.mapEntry,J4,run_underlying hT,J3,ZE hw,hc E w rk _ hk,h4,hz1,Y8 _ hw,Jd]
      ·refine Yb hev.emb x (.fmap n kf vf) _ b 0 hg hbb' (fun i hi=> ?_) (by simp) rfl rfl ⟨rfl,J2 _⟩ ?_
       ·rw [Jb,if_neg (fun e=>hi e.symm)]
       ·exact .sfmap n kf vf key h.next b ents (clock+1) ⟨rk,zr,clock⟩ hbb' (by simp_all) hll (fun i e he=>(hkk i e he).mono hle) (fun i e he=>(hvv i e he).mono hle) (hbn.push _ _) (Env.ext_same ..) (hk.mono hle)
      ·exact .tuple [z,.stamp h.next] [zr,.int .i64 clock] (.cons _ _ _ _ (hz2 _) (.cons _ _ _ _ (.stamp _ clock (Env.ext_same ..)) .nil))
  ·exact hl.elim
 ·exact hl.elim
def Z6N (P:Program) (h:Z7) (T:TypeId) (m key:AV) (K:AV->Z7->Prop):Prop:=match m with
 | .map (some x)=>match h.get x with
  | some (.fmap n kf vf)=>Z6M P h T x n kf vf key K
  | _=>Z4u P h T m key K
 | _=>Z4u P h T m key K
theorem Z8P {P:Program} {h:Z7} {T:TypeId} {m key:AV} (hl:Z6N P h T m key K):
  ∃v h',K v h'/\∀(E:Env) (w:World) (rm rk:Value),Emb E h w->Zb E m rm->Zb E key rk->∃r w' E',(Instr.mapEntry T rm rk).run P w=.ok r w'/\Evo E h w E' h' w'/\Zb E' v r:=by
 unfold Z6N at hl
 split at hl
 ·split at hl
  ·rename_i hg
   exact Z8O hg hl
  ·exact Z3m hl
 ·exact Z3m hl
theorem Z0E {α:Type} (a:α) (f:α->α):∀l:List α,(l++[a]).modify l.length f=l++[f a]
 | []=>rfl
 | b::l=>by
  have:=Z0E a f l
  simp [List.modify_succ_cons,this]
def Z6O (h:Z7) (m s v:AV) (K:Z7->Prop):Prop:=
 match m,s with
 | .map (some x),.stamp y=>match h.get x with
  | some (.sfmap n kf vf key y')=>match Nat.beq y y' with
   | true=>K (h.set x (.fmap (n+1) (W2 kf n key) (W2 vf n v)))
   | false=>False
  | _=>Z6I h m s v K
 | _,_=>False
theorem Z8Q {P:Program} {h:Z7} {m s v:AV} {K:Z7->Prop} (hl:Z6O h m s v K):
  ∃h',K h'/\∀(E:Env) (w:World) (T:TypeId) (rm rs rv:Value),Emb E h w->Zb E m rm->Zb E s rs->Zb E v rv->∃w',(Instr.entryStore T rm rs rv).run P w=.ok () w'/\Evo E h w E h' w':=by
 unfold Z6O at hl
 split at hl
 ·rename_i x y
  split at hl
  ·rename_i n kf vf key y' hg
   split at hl
   ·rename_i hy
    have hy:=J0 hy
    subst hy
    refine ⟨_,hl,fun E w T rm rs rv he hm hs hv=> ?_⟩
    cases hm with
    | map _ b N hb=>cases hs with
     | stamp _ c hc=>
      have hown:=he.own _ _ hg
      cases hown with
      |sfmap _ _ _ _ _ b' ents clock e hbb hw hll hkk hvv hbn hss hke=>
       rw [hbb] at hb
       cases hb
       rw [hss] at hc
       cases hc
       have hi:(ents++[e])[ents.length]? =some e:=by simp
       have hf:=find_born (ents++[e]) ents.length e hbn.nd hi
       have hlt:b<w.heap.size:=by grind
       have hmd:(ents++[e]).modify ents.length (fun e=>{ e with val:=rv})=ents++[{ e with val:=rv}]:=by
        exact Z0E _ _ ents
       refine ⟨{ w with heap:=w.heap.setIfInBounds b (.map ((ents++[e]).modify ents.length fun e=>{ e with val:=rv}).toArray clock)}, ?_, ?_⟩
       ·simp only [Instr.entryStore,J4,ZE hw,J3,asInt,asIntOf,Jd,List.findIdx?_toArray,hf,Y8 _ hw,List.modify_toArray]
       ·refine Yb he x _ _ b 0 hg hbb (fun j hj=> ?_) (by simp) rfl rfl ⟨rfl,J2 _⟩ ?_
        ·rw [Jb,if_neg (fun e=>hj e.symm)]
        ·refine .fmap _ _ _ b (ents++[{ e with val:=rv}]) clock hbb (by rw [hmd];simp [hlt]) (by simp [hll]) (fun i e' he'=> ?_) (fun i e' he'=> ?_) (hbn.of_born (by simp))
         all_goals
          unfold W2
          rw [List.getElem?_append] at he'
          split at he'
          ·grind [Zs]
          ·have h7:=(J9.1 he').1
           simp at h7
           have h8:i=n:=by omega
           grind [Jg]
   ·exact hl.elim
  ·exact Z8M hl
 ·exact hl.elim
end Go.Tk
end
section
namespace Go.Tk
open IntKind (i64 u8 u32 u64 wrap)
variable {r:Value} {ys:LI} {K:AV->Prop} {args:List AV} {E E0:Env} {ro:Option Nat} {w0:World}
def UF (n:Int):UInt8:=UInt8.ofNat n.toNat
def strOf (xs:LI):ByteArray:=⟨(xs.map UF).toArray⟩
def Uq (s:ByteArray):LI:=s.data.toList.map fun b=>(b.toNat:Int)
theorem Z26:∀(xs:LI) (r:ByteArray),xs.foldl (fun r n=>r.push (UInt8.ofNat n.toNat)) r=⟨r.data++(xs.map UF).toArray⟩
 | [],r=>by simp
 | x::xs,r=>by
  rw [List.foldl_cons,Z26 xs]
  simp [UF]
theorem Z27 {w:World} {m:Nat} {k:IntKind} (h:Reads w 1 r m (intCells k ys.length ys)):∃a c,r=.slice a m c/\m=ys.length/\((a=none/\ys=[])\/∃ad,a=some ad/\∀j,j<ys.length->w.cell? (ad.add j)=some (.int k (ys.getD j 0))):=by
 obtain ⟨a,c,rfl,hl,hc⟩:=h
 rw [Z9,JJ] at hl
 refine ⟨a,c,rfl,hl.symm, ?_⟩
 cases a with
 | none=>
  left
  refine ⟨rfl, ?_⟩
  cases ys with
  | nil=>rfl
  | cons y ys=>obtain ⟨ad,h1,_⟩:=hc 0 _ (Zk (by simp));cases h1
 | some ad=>
  simp_all [Zk]
def Zc5 (P:Program) (h:Z7) (s d:TypeId) (x:AV) (K:AV->Prop):Prop:=
 match P.underlying s,P.underlying d with
 | some (.slice e),some .string=>match P.underlying e with
  | some (.int .u8)=>UL h .u8 x fun ys=>K (.str (strOf ys))
  | _=>False
 | _,_=>Z9R P s d x K
theorem ZeW {k:IntKind} (ys:LI):∀j v,(ys.map (Value.int k))[j]? =some v->j<ys.length/\v=.int k (ys.getD j 0):=fun j v hj=>by
 grind
theorem Z7M {P:Program} {h:Z7} {s d:TypeId} {x:AV} (hl:Zc5 P h s d x K):
  ∃v,K v/\∀(E:Env) (w:World) (r:Value),Emb E h w->Zb E x r->∃r',(convert s d r).run P w=.ok r' w/\Zb E v r':=by
 unfold Zc5 at hl
 split at hl
 ·rename_i e hs hd
  split at hl
  ·rename_i he
   obtain ⟨ys,hK,hr⟩:=XO hl
   refine ⟨_,hK,fun E w r hem hx=>⟨_, ?_,.str _⟩⟩
   obtain ⟨a,c,rfl,hm,hc⟩:=Z27 (hr E w r hem hx)
   rw [run_convert_bytes_string w s d e a _ c hs he hd]
   rcases hc with ⟨rfl,rfl⟩|⟨ad,rfl,hc⟩
   ·rfl
   ·rw [run_bytesToString w ad _ c ys]
    ·rw [Z26];simp [strOf,ByteArray.empty,ByteArray.emptyWithCapacity];rfl
    ·have:=run_loadCells_list (P:=P) w ad (ys.map (Value.int .u8)) (fun j v hj=>by
      grind)
     simp_all
  simp_all
 ·obtain ⟨v,hK,hv⟩:=Z9S hl
  exact ⟨v,hK,fun E w r _ hx=>hv E w r hx⟩
def cmpI (xs ys:LI):Int:=Lib.compareBytes (xs.map UF) (ys.map UF)
theorem run_loadBytes {P:Program} {w:World}:∀(ys:LI) (ad:Addr) (acc:ByteArray),(∀j,j<ys.length->w.cell? (ad.add j)=some (.int .u8 (ys.getD j 0)))->
  (Extern.Bytes.loadBytes ad ys.length acc).run P w=.ok ⟨acc.data++(ys.map UF).toArray⟩ w
 | [],ad,acc,_=>by simp [Extern.Bytes.loadBytes]
 | y::ys,ad,acc,h=>by
  have h0:=h 0 (by simp)
  have e0:ad.add 0=ad:=by simp [Addr.add]
  rw [e0] at h0
  have hload:(load ad).run P w=.ok (.int .u8 y) w:=by
   simp [h0]
  simp only [Jy,Extern.Bytes.loadBytes,J4,hload,J3]
  have hadd:∀j,(ad.add 1).add j=ad.add (j+1):=fun j=>by
   grind [Addr.add]
  rw [run_loadBytes ys (ad.add 1) _ (fun j hj=>by simp_all)]
  simp [UF]
theorem Z0F {P:Program} {w:World} {m:Nat} (h:Reads w 1 r m (intCells .u8 ys.length ys)):(Extern.Bytes.bytesOf r).run P w=.ok (strOf ys) w:=by
 obtain ⟨a,c,rfl,hm,hc⟩:=Z27 h
 rcases hc with ⟨rfl,rfl⟩|⟨ad,rfl,hc⟩
 ·rfl
 ·simp only [Extern.Bytes.bytesOf,hm]
  rw [run_loadBytes ys ad _ hc]
  simp [strOf,ByteArray.empty,ByteArray.emptyWithCapacity];rfl
def Ze0 (h:Z7) (args:List AV) (K:AV->Prop):Prop:=
 match args with
 | [a,b]=>UL h .u8 a fun xs=>UL h .u8 b fun ys=>K (.int .i64 (cmpI xs ys))
 | _=>False
theorem Zc6 {P:Program} {h:Z7} (hl:Ze0 h args K):∃v,K v/\∀(E:Env) (w:World) (rs:List Value),Emb E h w->Zr E args rs->∃r,(Extern.BytealgCompare.compare rs.toArray).run P w=.ok r w/\Zb E v r:=by
 unfold Ze0 at hl
 split at hl
 ·obtain ⟨xs,hl,h1⟩:=XO hl
  obtain ⟨ys,hl,h2⟩:=XO hl
  refine ⟨_,hl,fun E w rs he hr=> ?_⟩
  cases hr with
  | cons v c vs cs ha hb=>cases hb with
   | cons v2 c2 vs2 cs2 ha2 hb2=>cases hb2 with
    | nil=>
     refine ⟨_, ?_,.int _ _⟩
     change Sem.run P (do pure (goInt (Extern.BytealgCompare.cmp (<-Extern.Bytes.bytesOf c) (<-Extern.Bytes.bytesOf c2)))) w=_
     simp only [J4,Z0F (h1 E w c he ha),Z0F (h2 E w c2 he ha2),J3]
     rw [Lib.cmp_eq]
     rfl
 simp_all
def Zc7 (lt:Bool) (args:List AV) (K:AV->Prop):Prop:=
 match args with
 | [.int k a,.int k' b]=>match decide (k=k') with
  | true=>match lt with
   | true=>K (.int k (if b<a then b else a))
   | false=>K (.int k (if b>a then b else a))
  | false=>False
 | _=>False
def Z6P (P:Program) (h:Z7) (s d:TypeId) (x:AV) (K:AV->Z7->Prop) (L:Prop):Prop:=
 match P.underlying s,P.underlying d,x with
 | some .string,some (.slice e),.str b=>match P.underlying e with
  | some (.int .u8)=>K (.nslice ⟨h.next,0,0,0,0⟩ 1 (Uq b).length (Uq b).length) (h.add (.ints .u8 (Uq b)))
  | _=>False
 | _,_,_=>L
theorem Z8R {P:Program} {h:Z7} {s d:TypeId} {x:AV} {K:AV->Z7->Prop} {L:Prop} (hl:Z6P P h s d x K L):
  L\/∃v h',K v h'/\∀(E:Env) (w:World) (r:Value),Emb E h w->Zb E x r->∃r' w' E',(convert s d r).run P w=.ok r' w'/\Evo E h w E' h' w'/\Zb E' v r':=by
 unfold Z6P at hl
 split at hl
 ·rename_i e b hs hd
  split at hl
  ·rename_i he
   right
   refine ⟨_,_,hl,fun E w r hem hx=> ?_⟩
   cases hx
   have hrun:=run_bytes_of_string (P:=P) w s d e b hs hd he
   have hlen:(Uq b).length=b.size:=by unfold Uq;rw [List.length_map];rfl
   generalize hcap:grownCap w b.size 0 e=cap at hrun
   have hcap':b.size<=cap:=by rw [<-hcap];exact grownCap_ge _ _ _ _
   generalize hrow:bytesRow b cap=row at hrun
   have hsz:row.size=cap:=by
    rw [<-hrow]
    unfold bytesRow
    simp_all
   have hev1:Evo E h w E h w.drew:=Qm hem rfl rfl rfl ⟨rfl,Nat.le_succ _⟩
   refine ⟨_,_,E.ext h.next w.heap.size cap,hrun,hev1.trans (Xy (w:=w.drew) hev1.emb _ cap _ ?_), ?_⟩
   ·refine .ints _ _ w.heap.size row e (row.size,row.size+1) (by rw [hsz];exact Env.ext_same _ _ _ _) (by show (w.heap.push _)[w.heap.size]? =_;simp) (fun o ho=>by omega) (fun j hj=> ?_)
    grind [bytesRow,Uq]
   ·rw [hlen]
    exact .nslice _ _ _ _ w.heap.size cap cap (Env.ext_same _ _ _ _) hcap' hcap' (by simp [ZQ.tot])
  simp_all
 simp_all
def Z6Q (P:Program) (op:BinOp) (T:TypeId) (ox oy:Operand) (x y:AV) (K:AV->Prop):Prop:=
 match x,y with
 | .agg cs,.agg cs'=>Z6z P op T (.agg cs) (.agg cs') K
 | x,y=>Z6q P op T ox oy x y K
theorem Z8S {P:Program} {op:BinOp} {T:TypeId} {ox oy:Operand} {x y:AV} (h:Z6Q P op T ox oy x y K):
  ∃v,K v/\∀(E:Env) (w:World) (rx ry:Value),Zb E x rx->Zb E y ry->∃r,(do eqGuard op T ox oy rx ry;binOp op T rx ry).run P w=.ok r w/\Zb E v r:=by
 unfold Z6Q at h
 split at h
 ·exact Z8L h
 ·exact Z8H h
def opQ (P:Program) (o:Op) (t:ZN) (h:Z7) (K:AV->Prop):Prop:=
 match o with
 | .move x=>K (aev t x)
 | .assign x=>K (aev t x)
 | .pick c a b=>match aev t c with
  | .bool e=>Z8 e (K (aev t a)) (K (aev t b))
  | _=>False
 | .build T ps=>Z6k P T (Z9Q t ps.toList) K
 | .load T a=>Z7B P h T (aev t a) K
 | .nilCheck x=>Z3h (aev t x) K
 | .binOp op T x y _=>Z6Q P op T x y (aev t x) (aev t y) K
 | .unOp op _ x=>unA op (aev t x) K
 | .convert s d x=>Zc5 P h s d (aev t x) K
 | .makeInterface T x=>Z5d P T (aev t x) K
 | .makeFunc (.func f) first cap=>K (.func (.func f) (Z4i t first.toList) (Z4i t cap.toList))
 | .slice T x lo hi mx=>Z6h P h T (aev t x) (lo.map (aev t)) (hi.map (aev t)) (mx.map (aev t)) K
 | .fieldAddr S x f=>Z6f P S (aev t x) f K
 | .field S x f=>Z6t P S (aev t x) f K
 | .indexAddr T x i=>Z6g P h T (aev t x) (aev t i) K
 | .index T x i=>Z6u P T (aev t x) (aev t i) K
 | .extract x i=>Z1V (aev t x) i K
 | .typeAssert x _ asserted ok=>VN P (aev t x) asserted ok K
 | .call ⟨.builtin .len,args,tys⟩=>match args.toList,tys.toList with
  | [x],[T]=>QC h (aev t x) fun h=>ZdW P h T (aev t x) K
  | _,_=>False
 | .call ⟨.builtin .min,args,_⟩=>Zc7 true (Z4i t args.toList) K
 | .call ⟨.builtin .max,args,_⟩=>Zc7 false (Z4i t args.toList) K
 | .lookup T m k ok=>QC h (aev t m) fun h=>Z4t P h T (aev t m) (aev t k) ok K
 | .sliceToArrayPointer T x=>Z4l P T (aev t x) K
 | .entry x=>Z9X h (aev t x) K
 | _=>False
def worldless:Op->Bool
 | .move _|.assign _|.pick .. |.build .. |.nilCheck _|.binOp .. |.unOp .. |.makeInterface .. |.makeFunc .. |.fieldAddr .. |.indexAddr .. |.field .. |.index .. |.extract .. |.typeAssert .. |.sliceToArrayPointer .. =>true
 | _=>false
def opA (P:Program) (o:Op) (t:ZN) (h:Z7) (K:AV->Z7->Prop):Prop:=
 match o with
 | .alloc e=>Z1H P h e K
 | .box _ x=>ZdV h (aev t x) K
 | .buildSlice T len ps=>XN P h T len (Z9Q t ps.toList) K
 | .makeMap _ none=>K (.map (some h.next)) (h.add (.map []))
 | .call ⟨.builtin .append,args,tys⟩=>match args.toList,tys.toList with
  | [s,x],[T,T']=>match Nat.beq T T' with
   | true=>Z4d P h T (aev t s) (aev t x) K
   | false=>Z4f P h T T' (aev t s) (aev t x) K
  | _,_=>False
 | .call ⟨.builtin .copy,args,tys⟩=>match args.toList,tys.toList with
  | [d,s],[T,_]=>Z9M P h T (aev t d) (aev t s) K
  | _,_=>False
 | .call ⟨.builtin .delete,args,tys⟩=>match args.toList,tys.toList with
  | [m,k],T::_=>QC h (aev t m) fun h=>Z4w P h T (aev t m) (aev t k) (K (.tuple []))
  | _,_=>False
 | .mapEntry T m k=>QC h (aev t m) fun h=>Z6N P h T (aev t m) (aev t k) K
 | .range T x=>Z6J P h T (aev t x) K
 | .convert s d x=>Z6P P h s d (aev t x) K (Zc5 P h s d (aev t x) fun v=>K v h)
 | o=>opQ P o t h fun v=>K v h
def ZeX (lt:Bool) (k:IntKind) (a b:Int):AV:=match lt with|true=>.int k (if b<a then b else a)|false=>.int k (if b>a then b else a)
theorem Z5g {lt:Bool} (h:Zc7 lt args K):∃k a b,args=[.int k a,.int k b]/\K (ZeX lt k a b):=by
 unfold Zc7 at h
 split at h
 ·split at h
  ·rename_i hk
   have hk:=of_decide_eq_true hk
   subst hk
   cases lt with
   | true=>exact ⟨_,_,_,rfl,h⟩
   | false=>exact ⟨_,_,_,rfl,h⟩
  simp_all
 simp_all
theorem Z7N {k:IntKind} {a b:Int} {rs:List Value} (h:Zr E [.int k a,.int k b] rs):rs=[.int k a,.int k b]:=by
 cases h with
 | cons v c vs cs h1 h2=>cases h2 with
  | cons v c vs cs h3 h4=>cases h1;cases h3;cases h4;rfl
theorem Z6R {P:Program} {o:Oper} {t:ZN} {h:Z7} (hl:opQ P o.op t h K):
  ∃v,K v/\∀(E:Env) (w:World) (n:Nat) (a:Act),(worldless o.op=false->Emb E h w)->WR E n t a.tmps->∃r,(execOp a.eval o).run P w=.ok (.value r) w/\Zb E v r:=by
 unfold opQ at hl
 split at hl
 ·rename_i x ho
  exact ⟨_,hl,fun E w n a he ht=>⟨_,by simp [execOp,ho],Zl ht x⟩⟩
 ·rename_i x ho
  exact ⟨_,hl,fun E w n a he ht=>⟨_,by simp [execOp,ho],Zl ht x⟩⟩
 ·rename_i c x y ho
  split at hl
  ·rename_i e hc
   cases e with
   | true=>
    refine ⟨_,hl,fun E w n a he ht=>⟨a.eval x, ?_,Zl ht x⟩⟩
    have h1:=Zl ht c
    rw [hc] at h1
    cases hcv:a.eval c<;>rw [hcv] at h1<;>cases h1
    simp [execOp,ho,hcv,asBool]
   | false=>
    refine ⟨_,hl,fun E w n a he ht=>⟨a.eval y, ?_,Zl ht y⟩⟩
    have h1:=Zl ht c
    rw [hc] at h1
    cases hcv:a.eval c<;>rw [hcv] at h1<;>cases h1
    simp [execOp,ho,hcv,asBool]
  simp_all
 ·rename_i T ps ho
  obtain ⟨v,hK,hv⟩:=Z8G hl
  refine ⟨v,hK,fun E w n a he ht=> ?_⟩
  obtain ⟨r,h1,h2⟩:=hv E w _ (VM ht ps.toList)
  refine ⟨r, ?_,h2⟩
  have e:(ps.map fun (x:Nat×Operand)=>(x.1,a.eval x.2))=(ps.toList.map fun (x:Nat×Operand)=>(x.1,a.eval x.2)).toArray:=by grind
  simp_all [execOp]
 ·rename_i T x ho
  obtain ⟨v,hK,hv⟩:=Z51 hl
  refine ⟨v,hK,fun E w n a he ht=> ?_⟩
  obtain ⟨ad,r,e1,h1,h2⟩:=hv E w _ (he (by rw [ho];rfl)) (Zl ht x)
  simp_all [execOp,Instr.loadAt,Instr.sureAddr]
 ·rename_i x ho
  unfold Z3h at hl
  split at hl
  ·rename_i p hx
   refine ⟨_,hl,fun E w n a he ht=> ?_⟩
   have h1:=Zl ht x
   rw [hx] at h1
   refine ⟨a.eval x, ?_,h1⟩
   cases hcv:a.eval x<;>rw [hcv] at h1<;>cases h1
   simp [execOp,ho,hcv]
  ·rename_i cs inn hx
   refine ⟨_,hl,fun E w n a he ht=> ?_⟩
   have h1:=Zl ht x
   rw [hx] at h1
   refine ⟨a.eval x, ?_,h1⟩
   cases hcv:a.eval x<;>rw [hcv] at h1<;>cases h1
   simp [execOp,ho,hcv]
  ·rename_i f b c hx
   refine ⟨_,hl,fun E w n a he ht=> ?_⟩
   have h1:=Zl ht x
   rw [hx] at h1
   refine ⟨a.eval x, ?_,h1⟩
   cases hcv:a.eval x<;>rw [hcv] at h1<;>cases h1
   simp [execOp,ho,hcv]
  ·rename_i y hx
   refine ⟨_,hl,fun E w n a he ht=> ?_⟩
   have h1:=Zl ht x
   rw [hx] at h1
   refine ⟨a.eval x, ?_,h1⟩
   cases hcv:a.eval x<;>rw [hcv] at h1<;>cases h1
   simp [execOp,ho,hcv]
  simp_all
 ·rename_i op T x y yt ho
  obtain ⟨v,hK,hv⟩:=Z8S hl
  refine ⟨v,hK,fun E w n a he ht=> ?_⟩
  obtain ⟨r,h1,h2⟩:=hv E w _ _ (Zl ht x) (Zl ht y)
  exact ⟨r,by simp only [execOp,ho];rw [J4,h1];rfl,h2⟩
 ·rename_i op T x ho
  obtain ⟨v,hK,hv⟩:=ZdY hl P
  refine ⟨v,hK,fun E w n a he ht=> ?_⟩
  obtain ⟨r,h1,h2⟩:=hv E w _ (Zl ht x)
  exact ⟨r,by simp [execOp,ho,h1],h2⟩
 ·rename_i s d x ho
  obtain ⟨v,hK,hv⟩:=Z7M hl
  refine ⟨v,hK,fun E w n a he ht=> ?_⟩
  obtain ⟨r,h1,h2⟩:=hv E w _ (he (by rw [ho];rfl)) (Zl ht x)
  exact ⟨r,by simp [execOp,ho,h1],h2⟩
 ·rename_i T x ho
  unfold Z5d at hl
  split at hl
  ·simp_all
  ·simp_all
  ·rename_i d hni hu
   refine ⟨_,hl,fun E w n a he ht=>⟨.iface T (a.eval x), ?_,.iface _ _ _ (Zl ht x)⟩⟩
   simp only [execOp,ho,Instr.makeInterface,J4,Za hu,J3]
   cases d<;>first|exact absurd hu (hni _)|simp
 ·rename_i f first cap ho
  refine ⟨_,hl,fun E w n a he ht=>⟨.func (.func f) (first.map a.eval) (cap.map a.eval),by simp [execOp,ho,Instr.makeFunc], ?_⟩⟩
  rw [show first.map a.eval=(first.toList.map a.eval).toArray from by grind,show cap.map a.eval=(cap.toList.map a.eval).toArray from by grind]
  grind [Zb.func,V4]
 ·rename_i T x lo hi mx ho
  obtain ⟨v,hK,hv⟩:=Z8E hl
  refine ⟨v,hK,fun E w n a he ht=> ?_⟩
  obtain ⟨r,h1,h2⟩:=hv E w _ _ _ _ (he (by rw [ho];rfl)) (Zl ht x) (Z1U ht lo) (Z1U ht hi) (Z1U ht mx)
  exact ⟨r,by simp [execOp,ho,h1],h2⟩
 ·rename_i S x f ho
  obtain ⟨v,hK,hv⟩:=Z8B hl
  refine ⟨v,hK,fun E w n a he ht=> ?_⟩
  obtain ⟨r,h1,h2⟩:=hv E w _ (Zl ht x)
  exact ⟨r,by simp [execOp,ho,h1],h2⟩
 ·rename_i S x f ho
  obtain ⟨v,hK,hv⟩:=Z8J hl
  refine ⟨v,hK,fun E w n a he ht=> ?_⟩
  obtain ⟨r,h1,h2⟩:=hv E w _ (Zl ht x)
  exact ⟨r,by simp [execOp,ho,h1],h2⟩
 ·rename_i T x i ho
  obtain ⟨v,hK,hv⟩:=Z8C hl
  refine ⟨v,hK,fun E w n a he ht=> ?_⟩
  obtain ⟨r,h1,h2⟩:=hv E w _ _ (Zl ht x) (Zl ht i)
  exact ⟨r,by simp [execOp,ho,h1],h2⟩
 ·rename_i T x i ho
  obtain ⟨v,hK,hv⟩:=Z8K hl
  refine ⟨v,hK,fun E w n a he ht=> ?_⟩
  obtain ⟨r,h1,h2⟩:=hv E w _ _ (Zl ht x) (Zl ht i)
  exact ⟨r,by simp [execOp,ho,h1],h2⟩
 ·rename_i x i ho
  obtain ⟨v,hK,hv⟩:=Z5b hl P
  refine ⟨v,hK,fun E w n a he ht=> ?_⟩
  obtain ⟨r,h1,h2⟩:=hv E w _ (Zl ht x)
  exact ⟨r,by simp [execOp,ho,h1],h2⟩
 ·rename_i x xt asserted ok ho
  obtain ⟨v,hK,hv⟩:=Z1W (xt:=xt) hl
  refine ⟨v,hK,fun E w n a he ht=> ?_⟩
  obtain ⟨r,h1,h2⟩:=hv E w _ (Zl ht x)
  exact ⟨r,by simp [execOp,ho,h1],h2⟩
 ·rename_i args tys ho
  split at hl
  ·rename_i x T hx hT
   obtain ⟨hh,hl,hth⟩:=Wu hl
   obtain ⟨v,hK,hv⟩:=ZbW (ty:=o.type) hl
   refine ⟨v,hK,fun E w n a he ht=> ?_⟩
   obtain ⟨r,h1,h2⟩:=hv E w _ (hth E w (he (by rw [ho];rfl))).emb (Zl ht x)
   refine ⟨r, ?_,h2⟩
   have e1:args= #[x]:=by rw [<-Array.toArray_toList (xs:=args),hx]
   have e2:tys= #[T]:=by rw [<-Array.toArray_toList (xs:=tys),hT]
   simp_all [execOp,resolve,invoke,builtin]
  simp_all
 ·rename_i args tys ho
  obtain ⟨k,x,y,hargs,hK⟩:=Z5g hl
  refine ⟨_,hK,fun E w n a he ht=> ?_⟩
  have hr:=V4 ht args.toList
  rw [hargs] at hr
  have hmap:=Z7N hr
  refine ⟨_, ?_,by unfold ZeX;exact .int _ _⟩
  have e1:args.map a.eval= #[.int k x,.int k y]:=by grind
  simp_all [execOp,resolve,invoke,builtin,Builtin.min_,Builtin.min2]
 ·rename_i args tys ho
  obtain ⟨k,x,y,hargs,hK⟩:=Z5g hl
  refine ⟨_,hK,fun E w n a he ht=> ?_⟩
  have hr:=V4 ht args.toList
  rw [hargs] at hr
  have hmap:=Z7N hr
  refine ⟨_, ?_,by exact .int _ _⟩
  simp_all [execOp,resolve,invoke,builtin,Builtin.max_,Builtin.max2]
 ·rename_i T m k ok ho
  obtain ⟨hh,hl,hth⟩:=Wu hl
  obtain ⟨v,hK,hv⟩:=Z6H hl
  refine ⟨v,hK,fun E w n a he ht=> ?_⟩
  obtain ⟨r,h1,h2⟩:=hv E w _ _ (hth E w (he (by rw [ho];rfl))).emb (Zl ht m) (Zl ht k)
  exact ⟨r,by simp [execOp,ho,h1],h2⟩
 ·rename_i T x ho
  obtain ⟨v,hK,hv⟩:=Z6y hl
  refine ⟨v,hK,fun E w n a he ht=> ?_⟩
  obtain ⟨r,h1,h2⟩:=hv E w _ (Zl ht x)
  exact ⟨r,by simp [execOp,ho,h1],h2⟩
 ·rename_i x ho
  obtain ⟨v,hK,hv⟩:=Z9Y (P:=P) hl
  refine ⟨v,hK,fun E w n a he ht=> ?_⟩
  obtain ⟨r,h1,h2⟩:=hv E w _ (he (by rw [ho];rfl)) (Zl ht x)
  exact ⟨r,by simp [execOp,ho,h1],h2⟩
 simp_all
theorem Z9Z {P:Program} {o:Oper} {t:ZN} {h:Z7} {K:AV->Z7->Prop} (hl:opA P o.op t h K):
  ∃v h',K v h'/\∀(E:Env) (w:World) (n:Nat) (a:Act),Emb E h w->WR E n t a.tmps->
   ∃r w' E',(execOp a.eval o).run P w=.ok (.value r) w'/\Evo E h w E' h' w'/\Zb E' v r:=by
 unfold opA at hl
 split at hl
 ·rename_i e ho
  obtain ⟨v,h',hK,hv⟩:=Z8F hl
  refine ⟨v,h',hK,fun E w n a he ht=> ?_⟩
  obtain ⟨r,w',E',h1,h2,h3⟩:=hv E w (.tuple #[]) he
  exact ⟨r,w',E',by simp [execOp,ho,h1],h2,h3⟩
 ·rename_i e x ho
  obtain ⟨v,h',hK,hv⟩:=ZbV hl P e
  refine ⟨v,h',hK,fun E w n a he ht=> ?_⟩
  obtain ⟨r,w',E',h1,h2,h3⟩:=hv E w _ he (Zl ht x)
  exact ⟨r,w',E',by simp [execOp,ho,h1],h2,h3⟩
 ·rename_i T len ps ho
  obtain ⟨v,h',hK,hv⟩:=Z1N hl
  refine ⟨v,h',hK,fun E w n a he ht=> ?_⟩
  obtain ⟨r,w',E',h1,h2,h3⟩:=hv E w _ he (VM ht ps.toList)
  refine ⟨r,w',E', ?_,h2,h3⟩
  have e:(ps.map fun (x:Nat×Operand)=>(x.1,a.eval x.2))=(ps.toList.map fun (x:Nat×Operand)=>(x.1,a.eval x.2)).toArray:=by grind
  simp_all [execOp]
 ·rename_i T ho
  refine ⟨_,_,hl,fun E w n a he ht=> ?_⟩
  obtain ⟨r,w',E',h1,h2,h3⟩:=Z6x (P:=P) (T:=T) he
  exact ⟨r,w',E',by simp [execOp,ho,h1],h2,h3⟩
 ·rename_i args tys ho
  split at hl
  ·rename_i s x T T' hx hT
   have e1:args= #[s,x]:=by rw [<-Array.toArray_toList (xs:=args),hx]
   have e2:tys= #[T,T']:=by rw [<-Array.toArray_toList (xs:=tys),hT]
   split at hl
   ·rename_i hb
    have hTT:T=T':=J0 hb
    subst hTT
    obtain ⟨v,h',hK,hv⟩:=Z6n (ty:=o.type) hl
    refine ⟨v,h',hK,fun E w n a he ht=> ?_⟩
    obtain ⟨r,w',E',h1,h2,h3⟩:=hv E w _ _ he (Zl ht s) (Zl ht x)
    exact ⟨r,w',E',by simp_all [execOp,resolve,invoke,builtin],h2,h3⟩
   ·obtain ⟨v,h',hK,hv⟩:=Z6o (ty:=o.type) hl
    refine ⟨v,h',hK,fun E w n a he ht=> ?_⟩
    obtain ⟨r,w',E',h1,h2,h3⟩:=hv E w _ _ he (Zl ht s) (Zl ht x)
    exact ⟨r,w',E',by simp_all [execOp,resolve,invoke,builtin],h2,h3⟩
  simp_all
 ·rename_i args tys ho
  split at hl
  ·rename_i d s T T' hx hT
   have e1:args= #[d,s]:=by rw [<-Array.toArray_toList (xs:=args),hx]
   have e2:tys= #[T,T']:=by rw [<-Array.toArray_toList (xs:=tys),hT]
   obtain ⟨v,h',hK,hv⟩:=Z9N (t2:=T') (ty:=o.type) hl
   refine ⟨v,h',hK,fun E w n a he ht=> ?_⟩
   obtain ⟨r,w',E',h1,h2,h3⟩:=hv E w _ _ he (Zl ht d) (Zl ht s)
   exact ⟨r,w',E',by simp_all [execOp,resolve,invoke,builtin],h2,h3⟩
  simp_all
 ·rename_i args tys ho
  split at hl
  ·rename_i m k T r hx hT
   have e1:args= #[m,k]:=by rw [<-Array.toArray_toList (xs:=args),hx]
   obtain ⟨hh,hl,hth⟩:=Wu hl
   obtain ⟨h',hK,hv⟩:=Z6L hl
   refine ⟨_,h',hK,fun E w n a he ht=> ?_⟩
   have e2:tys[0]? =some T:=by rw [<-Array.getElem?_toList,hT];rfl
   have hev:=hth E w he
   obtain ⟨w',h1,h2⟩:=hv E w _ _ tys o.type e2 hev.emb (Zl ht m) (Zl ht k)
   exact ⟨.tuple #[],w',E,by simp_all [execOp,resolve,invoke,builtin],hev.trans h2,.tuple [] [] .nil⟩
  simp_all
 ·rename_i T m k ho
  obtain ⟨hh,hl,hth⟩:=Wu hl
  obtain ⟨v,h',hK,hv⟩:=Z8P hl
  refine ⟨v,h',hK,fun E w n a he ht=> ?_⟩
  have hev:=hth E w he
  obtain ⟨r,w',E',h1,h2,h3⟩:=hv E w _ _ hev.emb (Zl ht m) (Zl ht k)
  exact ⟨r,w',E',by simp [execOp,ho,h1],hev.trans h2,h3⟩
 ·rename_i T x ho
  obtain ⟨v,h',hK,hv⟩:=Z8N hl
  refine ⟨v,h',hK,fun E w n a he ht=> ?_⟩
  obtain ⟨r,w',E',h1,h2,h3⟩:=hv E w _ he (Zl ht x)
  exact ⟨r,w',E',by simp [execOp,ho,h1],h2,h3⟩
 ·rename_i s d x ho
  rcases Z8R hl with hl|⟨v,h',hK,hv⟩
  ·obtain ⟨v,hK,hv⟩:=Z7M hl
   refine ⟨v,h,hK,fun E w n a he ht=> ?_⟩
   obtain ⟨r,h1,h2⟩:=hv E w _ he (Zl ht x)
   exact ⟨r,w,E,by simp [execOp,ho,h1],.refl he,h2⟩
  ·refine ⟨v,h',hK,fun E w n a he ht=> ?_⟩
   obtain ⟨r,w',E',h1,h2,h3⟩:=hv E w _ he (Zl ht x)
   exact ⟨r,w',E',by simp [execOp,ho,h1],h2,h3⟩
 ·obtain ⟨v,hK,hv⟩:=Z6R hl
  refine ⟨v,h,hK,fun E w n a he ht=> ?_⟩
  obtain ⟨r,q1,q2⟩:=hv E w n a (fun _=>he) ht
  exact ⟨r,w,E,q1,.refl he,q2⟩
inductive VQ where
 | call (f:FuncId) (args:List AV)
 | mark (x:Nat)
structure St where
 n:Nat
 t:ZN
 h:Z7
 d:List VQ
inductive Ex where
 | normal
 | exit (id:Nat)
 | goto (l:Nat)
 | ret
 | panic (v:AV)
inductive Out where
 | ret (v:AV)
 | panic (v:AV)
abbrev KO:=Out->Z7->Prop
abbrev KE:=Ex->St->Prop
abbrev YJ:=List AV->Z7->(AV->Prop)->Prop
structure Ctx where
 pure:FuncId->Option YJ
 call:FuncId->List AV->Z7->KO->Prop
 round:Nat->List AV->Z7->KO->Prop
 fn:FuncId
 inR:Option Nat
variable {cx:Ctx}
inductive Vr (E:Env):List VQ->List Deferred->Prop
 | nil:Vr E [] []
 |call (f:FuncId) (args:List AV) (fn:Fn) (cap rs:Array Value) (ds:List VQ) (rd:List Deferred) (hf:fn=.func f) (hl:Zr E args (rs.toList++cap.toList)) (t:Vr E ds rd):
   Vr E (.call f args::ds) (⟨.fn fn cap,rs⟩::rd)
 | mark (x b N:Nat) (ds:List VQ) (rd:List Deferred) (h:E.blk x=some (b,N)) (t:Vr E ds rd):Vr E (.mark x::ds) (⟨.collected b, #[]⟩::rd)
theorem Vr.mono {E E':Env} (le:E.le E'):∀{ds:List VQ} {rd:List Deferred},Vr E ds rd->Vr E' ds rd
 | _,_,.nil=>.nil
 | _,_,.call f args fn cap rs ds rd hf hl t=>.call f args fn cap rs ds rd hf (hl.mono le) (Vr.mono le t)
 | _,_,.mark x b N ds rd h t=>.mark x b N ds rd (le.blk _ _ h) (Vr.mono le t)
structure WW (E:Env) (s:St) (a:Act) (w:World):Prop where
 emb:Emb E s.h w
 tmps:WR E s.n s.t a.tmps
 defs:Vr E s.d a.defers
inductive Z28 (E:Env):Ex->Exit->Prop
 | normal:Z28 E .normal .normal
 | exit (id:Nat):Z28 E (.exit id) (.exit id)
 | goto (l:Nat):Z28 E (.goto l) (.goto l)
 | ret:Z28 E .ret .ret
 | panic (v:AV) (r:Value) (h:Zb E v r):Z28 E (.panic v) (.panic [{ v:=r,recovered:=false}])
inductive Q4 (E:Env):Out->Ending->Prop
 | ret (v:AV) (r:Value) (h:Zb E v r):Q4 E (.ret v) (.returned r)
 | panic (v:AV) (r:Value) (h:Zb E v r):Q4 E (.panic v) (.panicked [{ v:=r,recovered:=false}])
def Zi (P:Program) (f:FuncId) (args:List AV) (h:Z7) (K:KO):Prop:=
 ∀(E:Env) (w:World) (rs:List Value),Emb E h w->Zr E args rs->
  Calls P f rs.toArray w fun e w'=>∃E' o h',K o h'/\Evo E h w E' h' w'/\Q4 E' o e
def Za0 (P:Program) (x:Nat) (args:List AV) (h:Z7) (K:KO):Prop:=
 ∀(E:Env) (w:World) (rs:List Value) (b N:Nat),Emb E h w->Zr E args rs->E.blk x=some (b,N)->
  ∃f tmps assign body,(Instr.yield b rs.toArray).run P w=.ok (.round b f tmps assign body) w/\
   RoundIn Fence.wide 0 P b f tmps assign body w fun e w'=>∃E' o h',K o h'/\Evo E h w E' h' w'/\Q4 E' o e
structure Ctx.Ok (P:Program) (cx:Ctx):Prop where
 pure:∀f S args h K,cx.pure f=some S->S args h K->Zi P f args h fun o h'=>∃v,o=.ret v/\h'=h/\K v
 call:∀f args h K,cx.call f args h K->Zi P f args h K
 round:∀x args h K,cx.round x args h K->Za0 P x args h K
def VE (s:St) (dst:Option Tmp) (v:AV) (K:St->Prop):Prop:=
 match dst with
 | none=>K s
 | some d=>match Nat.blt d s.n with
  | true=>K { s with t:=VH s.t d v}
  | false=>False
theorem Ur {s:St} {dst:Option Tmp} {v:AV} {K:St->Prop} (h:VE s dst v K):
  ∃s',K s'/\s'.h=s.h/\s'.n=s.n/\∀(E:Env) (a:Act) (w:World) (r:Value),WW E s a w->Zb E v r->WW E s' (a.put dst r) w:=by
 unfold VE at h
 split at h
 ·exact ⟨s,h,rfl,rfl,fun E a w r hs hv=>hs⟩
 ·rename_i d
  split at h
  ·rename_i hb
   have hd:d<s.n:=Jc hb
   refine ⟨_,h,rfl,rfl,fun E a w r hs hv=>⟨hs.emb,⟨?_,fun x u hx=> ?_⟩,hs.defs⟩⟩
   ·simp [Act.put,hs.tmps.size]
   ·simp only [Act.put]
    by_cases hxd:d=x
    ·subst hxd
     rw [YT] at hx
     have:d<a.tmps.size:=by rw [hs.tmps.size];exact hd
     simp_all
    ·rw [YL _ _ _ _ hxd] at hx
     have:=hs.tmps.get x u hx
     simp_all
  simp_all
theorem Za1 {fn:Func} (h:fn.name= "internal/bytealg.Compare"):Extern.find fn=some Extern.BytealgCompare.compare:=by
 have h1:Extern.allGenericRows.lookup "internal/bytealg.Compare" =none:=by kernel_rfl
 have h2:Extern.allTypedRows.lookup "internal/bytealg.Compare" =none:=by kernel_rfl
 have h3:Extern.allRows.lookup "internal/bytealg.Compare" =some Extern.BytealgCompare.compare:=by kernel_rfl
 simp [Extern.find,h,h1,h2,h3]
theorem Z4x {fn:Func} (h:fn.name= "internal/bytealg.Compare") (ho:fn.origin= ""):Extern.findNext fn=none:=by
 have h1:Extern.allNextRows.lookup "internal/bytealg.Compare" =none:=by kernel_rfl
 have h2:Extern.allNextRows.lookup "" =none:=by kernel_rfl
 simp [Extern.findNext,h,ho,h1,h2]
def Za2 (cx:Ctx) (P:Program) (f:AV) (args:List AV) (h:Z7) (K:KO):Prop:=
 match f with
 | .func (.func g) first cap=>match P.funcs[g]? with
  | some fn=>match fn.body.isSome&& !(fn.name== "runtime.NumGoroutine") with
   | true=>cx.call g (first++args++cap) h K
   | false=>match fn.body.isNone&&fn.name== "internal/bytealg.Compare" &&fn.origin== "" with
    | true=>Ze0 h (first++args++cap) fun v=>K (.ret v) h
    | false=>False
  | none=>False
 | .yield x=>cx.round x args h K
 | _=>False
def Z29 (cx:Ctx) (P:Program) (o:Op) (t:ZN) (h:Z7) (d:List VQ) (K:AV->Z7->List VQ->Prop) (X:AV->Z7->Prop):Prop:=
 match o with
 | .store T x v=>Z6e P h T (aev t x) (aev t v) fun h'=>K (.tuple []) h' d
 | .insert T m k v=>QC h (aev t m) fun h=>Z1i P h T (aev t m) (aev t k) (aev t v) fun h'=>K (.tuple []) h' d
 | .mapUpdate T m k v=>QC h (aev t m) fun h=>Z1i P h T (aev t m) (aev t k) (aev t v) fun h'=>K (.tuple []) h' d
 | .entryStore _ m s v=>Z6O h (aev t m) (aev t s) (aev t v) fun h'=>K (.tuple []) h' d
 | .next x false=>Z9V h (aev t x) fun v h'=>K v h' d
 | .call ⟨.value f,args,_⟩=>Za2 cx P (aev t f) (Z4i t args.toList) h fun o h'=>match o with
  | .ret v=>K v h' d
  | .panic v=>X v h'
 | .panic x=>match aev t x with
  | .iface T v=>X (.iface T v) h
  | _=>False
 | .defer ⟨.value f,args,_⟩=>match aev t f,cx.inR with
  | .func (.func g) first cap,none=>match P.funcs[g]? with
   | some fn=>match fn.body.isSome&& !(fn.name== "runtime.NumGoroutine") with
    | true=>K (.tuple []) h (.call g (first++Z4i t args.toList++cap)::d)
    | false=>False
   | none=>False
  | _,_=>False
 | o=>opA P o t h fun v h'=>K v h' d
def Z6S (cx:Ctx) (P:Program) (o:Op) (t:ZN):Option (YJ×List AV):=
 match o with
 | .call ⟨.value f,args,_⟩=>match aev t f with
  | .func (.func g) first cap=>match cx.pure g with
   | some S=>match P.funcs[g]? with
    | some fn=>match fn.body.isSome&& !(fn.name== "runtime.NumGoroutine") with
     | true=>some (S,first++Z4i t args.toList++cap)
     | false=>none
    | none=>none
   | none=>none
  | _=>none
 | _=>none
def Z6T (P:Program) (ri:Option Nat):Ctx:=⟨fun _=>none,fun f args h K=>Zi P f args h K,fun _ _ _ _=>False,0,ri⟩
theorem Z8T (P:Program) (ri:Option Nat):(Z6T P ri).Ok P:=⟨fun _ _ _ _ _ h=>by simp [Z6T] at h,fun _ _ _ _ h=>h,fun _ _ _ _ h=>h.elim⟩
theorem Z5h {P:Program} (hcx:cx.Ok P) {o:Op} {t:ZN} {h:Z7} {d:List VQ} {S:YJ} {N:AV->Prop} (ri:Option Nat) (hp:Z6S cx P o t=some (S,args)) (hs:S args h N):
  Z29 (Z6T P ri) P o t h d (fun v h' d'=>N v/\h'=h/\d'=d) (fun _ _=>False):=by
 unfold Z6S at hp
 split at hp
 ·split at hp
  ·rename_i g first cap hf
   split at hp
   ·rename_i S' hS
    split at hp
    ·rename_i fn hfn
     split at hp
     ·rename_i hb
      cases hp
      have hc:=hcx.pure g _ _ _ _ hS hs
      simp only [Z29,Za2,hf,hfn,hb]
      intro E w rs he hl
      refine (hc E w rs he hl).mono ?_
      grind
     ·cases hp
    ·cases hp
   ·cases hp
  ·cases hp
 ·cases hp
def Zdm (cx:Ctx) (P:Program) (o:Op) (s:St) (K:AV->St->Prop) (X:KE):Prop:=
 match s with
 | ⟨n,t,h,d⟩=>Z29 cx P o t h d (fun v h' d'=>K v ⟨n,t,h',d'⟩) fun v h'=>X (.panic v) ⟨n,t,h',d⟩
def Fr (ro:Option Nat):Fence:={ Fence.wide with round:=ro}
theorem Z2a {n:Nat} {P:Program} {f:FuncId} {args:Array Value} {w:World} {R:Ending->World->Prop} (h:Calls P f args w R):CallsIn (Fr ro) n P f args w R:=(callsIn_wide (n:=n)).2 h
theorem Zr.append {E:Env}:∀{vs us:List AV} {rs ts:List Value},Zr E vs rs->Zr E us ts->Zr E (vs++us) (rs++ts)
 | _,_,_,_,.nil,h=>h
 | _,_,_,_,.cons v c vs cs h t,k=>.cons v c _ _ h (Zr.append t k)
theorem Vs {P:Program} {g:FuncId} {fn:Func} (hf:P.funcs[g]? =some fn) (hb:(fn.body.isSome&& !(fn.name== "runtime.NumGoroutine"))=true) (args:Array Value) (w:World):
  (callFunc g args).run P w=.ok (.enter g args) w:=by
 have h1:(fn.name== "runtime.NumGoroutine")=false:=by simp_all
 have h2:fn.body.isNone=false:=by cases hq:fn.body<;>simp_all
 simp only [callFunc,J4,run_program,J3,hf]
 rw [if_neg (by rw [h1];simp),if_neg (by rw [h2];simp)]
 rfl
theorem ZI {ρ:Operand->Value} {o:Oper} (h:∀c,o.op≠.defer c):o.semAt ro ρ=execOp ρ o:=Oper.semAt_eq ro ρ o h
theorem Z2b {P:Program} (hcx:cx.Ok P) {o:Oper} {t:ZN} {h:Z7} {d:List VQ} {K:AV->Z7->List VQ->Prop} {X:AV->Z7->Prop} (hl:Z29 cx P o.op t h d K X)
 {h0:Z7} {w:World} {a:Act} {m:Nat} (he:Emb E h w) (ht:WR E m t a.tmps) (hd:Vr E d a.defers) (hev:Evo E0 h0 w0 E h w) (hro:cx.inR=none->ro=none) {n:Nat}
  {next:Act->World->Prop} {Q:Exit->Act->World->Prop}
  (hK:∀v h' d' E' ds r w',K v h' d'->Evo E h w E' h' w'->Evo E0 h0 w0 E' h' w'->Vr E' d' ds->Zb E' v r->next (({ a with defers:=ds}:Act).put o.dst r) w')
  (hX:∀v h' E' r w',X v h'->Evo E h w E' h' w'->Evo E0 h0 w0 E' h' w'->Zb E' v r->Q (.panic [{ v:=r,recovered:=false}]) a w'):
  o.wpIn (Fr ro) n P a w next Q:=by
 refine ⟨fun _ _=>trivial, ?_⟩
 unfold Z29 at hl
 split at hl
 ·-- a store
  rename_i T x v ho
  rw [show (Fr ro).round=ro from rfl,ZI (fun c e=>by rw [ho] at e;cases e)]
  obtain ⟨h',hk,hr⟩:=Z8A hl
  obtain ⟨w',h1,h2⟩:=hr E w _ _ he (Zl ht x) (Zl ht v)
  have:(execOp a.eval o).run P w=.ok .skip w':=by simp [execOp,ho,h1]
  rw [this]
  exact hK _ _ _ E a.defers undef w' hk h2 (hev.trans h2) hd (.tuple [] [] .nil)
 ·-- an entry
  rename_i T m k v ho
  rw [show (Fr ro).round=ro from rfl,ZI (fun c e=>by rw [ho] at e;cases e)]
  obtain ⟨hh,hl,hth⟩:=Wu hl
  have hev2:=hth E w he
  obtain ⟨h',hk,hr⟩:=Z20 hl
  obtain ⟨w',h1,h2⟩:=hr E w _ _ _ hev2.emb (Zl ht m) (Zl ht k) (Zl ht v)
  have:(execOp a.eval o).run P w=.ok .skip w':=by simp [execOp,ho,h1]
  rw [this]
  exact hK _ _ _ E a.defers undef w' hk (hev2.trans h2) (hev.trans (hev2.trans h2)) hd (.tuple [] [] .nil)
 ·-- an entry
  rename_i T m k v ho
  rw [show (Fr ro).round=ro from rfl,ZI (fun c e=>by rw [ho] at e;cases e)]
  obtain ⟨hh,hl,hth⟩:=Wu hl
  have hev2:=hth E w he
  obtain ⟨h',hk,hr⟩:=Z20 hl
  obtain ⟨w',h1,h2⟩:=hr E w _ _ _ hev2.emb (Zl ht m) (Zl ht k) (Zl ht v)
  have:(execOp a.eval o).run P w=.ok .skip w':=by simp [execOp,ho,h1]
  rw [this]
  exact hK _ _ _ E a.defers undef w' hk (hev2.trans h2) (hev.trans (hev2.trans h2)) hd (.tuple [] [] .nil)
 ·-- an entry's value
  rename_i T m k v ho
  rw [show (Fr ro).round=ro from rfl,ZI (fun c e=>by rw [ho] at e;cases e)]
  obtain ⟨h',hk,hr⟩:=Z8Q (P:=P) hl
  obtain ⟨w',h1,h2⟩:=hr E w T _ _ _ he (Zl ht m) (Zl ht k) (Zl ht v)
  have:(execOp a.eval o).run P w=.ok .skip w':=by simp [execOp,ho,h1]
  rw [this]
  exact hK _ _ _ E a.defers undef w' hk h2 (hev.trans h2) hd (.tuple [] [] .nil)
 ·-- a step of a range over a map
  rename_i x ho
  rw [show (Fr ro).round=ro from rfl,ZI (fun c e=>by rw [ho] at e;cases e)]
  obtain ⟨v,h',r,w',hk,h1,h2,h3⟩:=Z9W (P:=P) hl o.type he (Zl ht x)
  have:(execOp a.eval o).run P w=.ok (.value r) w':=by simp [execOp,ho,h1]
  rw [this]
  exact hK v _ _ E a.defers r w' hk h2 (hev.trans h2) hd h3
 ·-- a call
  rename_i f args tys ho
  rw [show (Fr ro).round=ro from rfl,ZI (fun c e=>by rw [ho] at e;cases e)]
  have hf:=Zl ht f
  have ha:=V4 ht args.toList
  unfold Za2 at hl
  split at hl
  ·rename_i g first cap hfv
   rw [hfv] at hf
   split at hl
   ·rename_i fn hfn
    split at hl
    ·rename_i hb
     cases hfe:a.eval f<;>rw [hfe] at hf<;>cases hf
     rename_i fs cs hfs hcs
     have hrun:(execOp a.eval o).run P w=.ok (.enter g (fs.toArray++(args.toList.map a.eval).toArray++cs.toArray)) w:=by
      simp only [execOp,ho,resolve,J4,hfe,Deferred.ofValue,Jd,J3,invoke]
      rw [Vs hfn hb]
      simp_all
     rw [hrun]
     refine ⟨fun h=>(by cases h), ?_⟩
     have hcall:=hcx.call _ _ _ _ hl E w (fs++args.toList.map a.eval++cs) he ((hfs.append ha).append hcs)
     have e1:(fs++args.toList.map a.eval++cs).toArray=fs.toArray++(args.toList.map a.eval).toArray++cs.toArray:=by simp
     rw [e1] at hcall
     refine Z2a (hcall.mono ?_)
     rintro e w' ⟨E',out,h',hk,hv,ho'⟩
     cases ho' with
     | ret v r hvr=>exact hK v _ _ E' a.defers r w' hk hv (hev.trans hv) (hd.mono hv.le) hvr
     | panic v r hvr=>exact hX _ _ E' r w' hk hv (hev.trans hv) hvr
    ·split at hl
     ·rename_i hb
      simp only [J1,beq_iff_eq] at hb
      obtain ⟨⟨hb1,hb2⟩,hb3⟩:=hb
      cases hfe:a.eval f<;>rw [hfe] at hf<;>cases hf
      rename_i fs cs hfs hcs
      obtain ⟨v,hK',hv⟩:=Zc6 (P:=P) hl
      obtain ⟨r,h1,h2⟩:=hv E w (fs++args.toList.map a.eval++cs) he ((hfs.append ha).append hcs)
      have e1:(fs++args.toList.map a.eval++cs).toArray=fs.toArray++(args.toList.map a.eval).toArray++cs.toArray:=by simp
      have hrun:(execOp a.eval o).run P w=.ok (.value r) w:=by
       simp only [execOp,ho,resolve,J4,hfe,Deferred.ofValue,Jd,J3,invoke]
       have e2:fs.toArray++args.map a.eval++cs.toArray=(fs++args.toList.map a.eval++cs).toArray:=by simp_all
       rw [e2,run_callFunc_extern hfn (by rw [hb2];rfl) hb1 (Z4x hb2 hb3) (Za1 hb2),h1]
       rfl
      rw [hrun]
      exact hK v _ _ E a.defers r w hK' (.refl he) hev hd h2
     simp_all
   simp_all
  ·rename_i x hfv
   rw [hfv] at hf
   cases hfe:a.eval f<;>rw [hfe] at hf<;>cases hf
   rename_i b N hbx
   obtain ⟨g,tmps,assign,body,hy,hR⟩:=hcx.round _ _ _ _ hl E w (args.toList.map a.eval) b N he ha hbx
   have hrun:(execOp a.eval o).run P w=.ok (.round b g tmps assign body) w:=by
    simp only [execOp,ho,resolve,J4,hfe,Deferred.ofValue,Jd,J3,invoke]
    rw [show #[]++args.map a.eval=(args.toList.map a.eval).toArray from by grind]
    exact hy
   rw [hrun]
   refine ⟨fun h=>(by cases h), ?_⟩
   refine RoundIn.mono (F:=Fence.wide) (n:=n-1) ⟨hR.1,fun c cs hroom=>hR.2 c cs (room_wide _)⟩ ?_
   rintro e w' ⟨E',out,h',hk,hv,ho'⟩
   cases ho' with
   | ret v r hvr=>exact hK v _ _ E' a.defers r w' hk hv (hev.trans hv) (hd.mono hv.le) hvr
   | panic v r hvr=>exact hX _ _ E' r w' hk hv (hev.trans hv) hvr
  simp_all
 ·-- a panic
  rename_i x ho
  rw [show (Fr ro).round=ro from rfl,ZI (fun c e=>by rw [ho] at e;cases e)]
  split at hl
  ·rename_i T v hx
   have h1:=Zl ht x
   rw [hx] at h1
   cases hxe:a.eval x<;>rw [hxe] at h1<;>cases h1
   rename_i r hr
   have hrun:(execOp a.eval o).run P w=.halt (.panic (.iface T r)) w:=by simp [execOp,ho,Instr.panic,hxe]
   rw [hrun]
   exact hX _ _ E _ w hl (.refl he) hev (.iface _ _ _ hr)
  simp_all
 ·-- a deferred call
  rename_i f args tys ho
  split at hl
  ·rename_i g first cap hfv hin
   split at hl
   ·split at hl
    ·have hr0:=hro hin
     subst hr0
     have hf:=Zl ht f
     have ha:=V4 ht args.toList
     rw [hfv] at hf
     cases hfe:a.eval f<;>rw [hfe] at hf<;>cases hf
     rename_i fs cs hfs hcs
     rw [show (Fr none).round=none from rfl,Oper.semAt_none]
     have hrun:(execOp a.eval o).run P w=.ok (.defer ⟨.fn (.func g) cs.toArray,fs.toArray++args.map a.eval⟩) w:=by
      simp_all [execOp,resolve,Deferred.ofValue]
     rw [hrun]
     refine hK _ _ _ E (_::a.defers) undef w hl (.refl he) hev (.call g _ _ _ _ _ _ rfl ?_ hd) (.tuple [] [] .nil)
     have:(fs.toArray++args.map a.eval).toList++cs.toArray.toList=fs++args.toList.map a.eval++cs:=by simp
     rw [this]
     exact (hfs.append ha).append hcs
    simp_all
   simp_all
  simp_all
 ·have hnd:∀c,o.op≠.defer c:=by
   grind [opA,opQ]
  rw [ZI hnd]
  obtain ⟨v,h',hk,hr⟩:=Z9Z hl
  obtain ⟨r,w',E',q1,q2,q3⟩:=hr E w m a he ht
  rw [q1]
  exact hK v _ _ E' a.defers r w' hk q2 (hev.trans q2) (hd.mono q2.le) q3
theorem Za3 {P:Program} (hcx:cx.Ok P) {o:Oper} {s:St} {K:AV->St->Prop} {X:KE} (hl:Zdm cx P o.op s K X)
 {h0:Z7} {w:World} {a:Act} (hs:WW E s a w) (hev:Evo E0 h0 w0 E s.h w) (hro:cx.inR=none->ro=none) {n:Nat}
  {next:Act->World->Prop} {Q:Exit->Act->World->Prop}
  (hK:∀v s' E' a' r w',K v s'->s'.n=s.n->WW E' s' a' w'->Evo E0 h0 w0 E' s'.h w'->Zb E' v r->next (a'.put o.dst r) w')
  (hX:∀x s' E' e a' w',X x s'->WW E' s' a' w'->Evo E0 h0 w0 E' s'.h w'->Z28 E' x e->Q e a' w'):
  o.wpIn (Fr ro) n P a w next Q:=by
 obtain ⟨m,t,h,d⟩:=s
 have hl':Z29 cx P o.op t h d (fun v h' d'=>K v ⟨m,t,h',d'⟩) fun v h'=>X (.panic v) ⟨m,t,h',d⟩:=hl
 refine Z2b hcx hl' hs.emb hs.tmps hs.defs hev hro ?_ ?_
 ·intro v h' d' E' ds r w' hk hv hv0 hds hvr
  exact hK v ⟨m,t,h',d'⟩ E' { a with defers:=ds} r w' hk rfl ⟨hv.emb,hs.tmps.mono hv.le,hds⟩ hv0 hvr
 ·intro v h' E' r w' hx hv hv0 hvr
  exact hX _ _ E' _ a w' hx ⟨hv.emb,hs.tmps.mono hv.le,hs.defs.mono hv.le⟩ hv0 (.panic v r hvr)
end Go.Tk
end
section
namespace Go.Tk
open IntKind (i64 u8 u32 u64 wrap)
def Z0G (all:List Oper) (j:Nat):Option Tmp:=match all[j]? with|some o=>o.dst|none=>none
def Q5 (all:List Oper) (g:Option (Nat×Bool)) (s:St) (run skip:St->Prop):Prop:=
 match g with
 | none=>run s
 | some (j,want)=>match Z0G all j with
  | none=>False
  | some d=>match ZC s.t d with
   | some (.bool b)=>Z8 b
     (match want with|true=>run { s with t:=VH s.t d (.bool true)}|false=>skip { s with t:=VH s.t d (.bool true)})
     (match want with|true=>skip { s with t:=VH s.t d (.bool false)}|false=>run { s with t:=VH s.t d (.bool false)})
   | some (.tuple [])=>skip s
   | _=>False
def Z7O (cx:Ctx) (P:Program) (all:List Oper):List Oper->St->KE->Prop
 | [],s,X=>X .normal s
 | o::r,s,X=>Q5 all o.guard s
   (fun s'=>Zdm cx P o.op s' (fun v s2=>VE s2 o.dst v fun s3=>Z7O cx P all r s3 X) X)
   (fun s'=>VE s' o.dst (.tuple []) fun s3=>Z7O cx P all r s3 X)
theorem Z8U {all:List Oper} {o:Oper} {s:St} {run skip:St->Prop} (h:Q5 all o.guard s run skip) {E:Env} {a:Act} {w:World} (hs:WW E s a w):
  ∃s',s'.h=s.h/\s'.n=s.n/\WW E s' a w/\((Region.wanted o (yielded all.toArray a.tmps)=true/\run s')\/(Region.wanted o (yielded all.toArray a.tmps)=false/\skip s')):=by
 unfold Q5 at h
 split at h
 ·grind [Region.wanted]
 ·rename_i j want hg
  split at h
  ·simp_all
  ·rename_i d hd
   have hdst:(all.toArray[j]?).bind (·.dst)=some d:=by
    unfold Z0G at hd
    grind
   split at h
   ·rename_i b hb
    have hv:=hs.tmps.get d _ hb
    have hreal:a.tmps[d]? =some (.bool b):=by
     rw [Jp] at hv
     cases hq:a.tmps[d]? with
     | none=>rw [hq] at hv;cases hv
     | some r=>rw [hq] at hv;cases hv;rfl
    have hy:yielded all.toArray a.tmps j=some b:=by
     simp_all [yielded]
    have hset:∀c,b=c->WW E { s with t:=VH s.t d (.bool c)} a w:=fun c hc=>by
     refine ⟨hs.emb,⟨hs.tmps.size,fun x v hx=> ?_⟩,hs.defs⟩
     by_cases hxd:d=x
     ·simp_all [YT]
     ·rw [YL _ _ _ _ hxd] at hx
      exact hs.tmps.get x v hx
    cases b with
    | true=>
     refine ⟨{ s with t:=VH s.t d (.bool true)},rfl,rfl,hset true rfl, ?_⟩
     cases want with
     | true=>exact .inl ⟨by simp [Region.wanted,hg,hy],h⟩
     | false=>exact .inr ⟨by simp [Region.wanted,hg,hy],h⟩
    | false=>
     refine ⟨{ s with t:=VH s.t d (.bool false)},rfl,rfl,hset false rfl, ?_⟩
     cases want with
     | true=>exact .inr ⟨by simp [Region.wanted,hg,hy],h⟩
     | false=>exact .inl ⟨by simp [Region.wanted,hg,hy],h⟩
   ·rename_i hb
    have hv:=hs.tmps.get d _ hb
    have hy:yielded all.toArray a.tmps j=none:=by
     unfold yielded
     rw [hdst]
     rw [Jp] at hv
     cases hq:a.tmps[d]? with
     | none=>simp [hq]
     | some r=>
      rw [hq] at hv
      cases hv with
      | tuple vs rs hl=>simp [hq]
    grind [Region.wanted]
   simp_all
def Vt (E0:Env) (h0:Z7) (w0:World) (X:KE):Exit->Act->World->Prop:=fun e a w=>∃E' x s',X x s'/\Evo E0 h0 w0 E' s'.h w/\WW E' s' a w/\Z28 E' x e
theorem Za4 {cx:Ctx} {P:Program} (hcx:cx.Ok P) {all:List Oper} {X:KE} {E0:Env} {h0:Z7} {w0:World} {ro:Option Nat} (hro:cx.inR=none->ro=none) {n:Nat}:
  ∀(r:List Oper) (k:Nat),all.drop k=r->∀(s:St) (E:Env) (a:Act) (w:World),Z7O cx P all r s X->WW E s a w->Evo E0 h0 w0 E s.h w->
   wpOpsIn (Fr ro) n P all.toArray (Vt E0 h0 w0 X) (List.range' k r.length) a w:=by
 intro r
 induction r with
 | nil=>
  intro k _ s E a w h hs hev
  exact ⟨E,.normal,s,h,hev,hs,.normal⟩
 | cons o r ih=>
  intro k hk s E a w h hs hev
  have hko:all[k]? =some o:=by
   have:=congrArg (fun l=>l[0]?) hk
   grind
  have hkr:all.drop (k+1)=r:=by
   have:=congrArg (List.drop 1) hk
   grind [List.drop_drop]
  simp only [Jy,List.range'_succ,wpOpsIn,List.getElem?_toArray,hko]
  obtain ⟨s',e1,e2,hs',hw⟩:=Z8U h hs
  rcases hw with ⟨hw,hrun⟩|⟨hw,hskip⟩
  ·rw [if_pos hw]
   refine Za3 hcx hrun hs' (e1▸hev) hro ?_ ?_
   ·grind [Ur]
   ·intro x s2 E' e a' w' hX hs2 hev2 hx
    exact ⟨E',x,s2,hX,hev2,hs2,hx⟩
  ·rw [if_neg (by rw [hw];simp)]
   refine ⟨fun _ _=>trivial, ?_⟩
   obtain ⟨s3,hK3,f1,f2,f3⟩:=Ur hskip
   exact ih (k+1) hkr s3 E _ w hK3 (f3 E a w undef hs' (.tuple [] [] .nil)) (by rw [f1,e1];exact hev)
def Z5i (id:Nat):Ex->Ex
 | .exit i=>match Nat.beq i id with|true=>.normal|false=>.exit i
 | e=>e
def Z7P (f:St->Prop) (X:KE):KE:=fun e s=>match e with|.normal=>f s|.exit i=>X (.exit i) s|.goto l=>X (.goto l) s|.ret=>X .ret s|.panic v=>X (.panic v) s
def Za5 (body:St->KE->Prop):Nat->St->KE->Prop
 | 0,_,_=>False
 | m+1,s,X=>body s (Z7P (fun s'=>Za5 body m s' X) X)
abbrev Za6:=Nat->Option (St->KE->Prop)
def Z4y:Operand->Nat
 | .tmp n=>100000+n
 | _=>99999
def Za7 (summ:Za6) (c:Operand):Option (St->KE->Prop):=summ (Z4y c)
mutual
def Xu (cx:Ctx) (P:Program) (summ:Za6) (fuel:Nat) (evalD:List Oper->St->KE->Prop) (evalF:Operand->Array Tmp->Code->Code->St->KE->Prop):Code->St->KE->Prop
 | .skip,s,X=>X .normal s
 | .region _ ops draw,s,X=>match draw with
  | false=>Z7O cx P ops.toList ops.toList s X
  | true=>evalD ops.toList s X
 | .seq a b,s,X=>Xu cx P summ fuel evalD evalF a s (Z7P (fun s'=>Xu cx P summ fuel evalD evalF b s' X) X)
 | .cond c x y,s,X=>match Za7 summ c with
  | some S=>S s X
  | none=>match aev s.t c with
   | .bool b=>Z8 b (Xu cx P summ fuel evalD evalF x s X) (Xu cx P summ fuel evalD evalF y s X)
   | _=>False
 | .block id c,s,X=>match summ id with
  | some S=>S s fun e s'=>X (Z5i id e) s'
  | none=>Xu cx P summ fuel evalD evalF c s fun e s'=>X (Z5i id e) s'
 | .loop c,s,X=>Za5 (fun s' X'=>Xu cx P summ fuel evalD evalF c s' X') fuel s X
 | .rangeFunc g ps assign body,s,X=>evalF g ps assign body s X
 | .exit id,s,X=>X (.exit id) s
 | .scope c,s,X=>Xu cx P summ fuel evalD evalF c s fun e s'=>match e with
  | .goto l=>XR cx P summ fuel evalD evalF l c s' fun e2 s2=>match e2 with
   | .goto _=>False
   | .normal=>X .normal s2
   | .exit i=>X (.exit i) s2
   | .ret=>X .ret s2
   | .panic v=>X (.panic v) s2
  | .normal=>X .normal s'
  | .exit i=>X (.exit i) s'
  | .ret=>X .ret s'
  | .panic v=>X (.panic v) s'
 | .label _,s,X=>X .normal s
 | .goto l,s,X=>X (.goto l) s
 | .ret,s,X=>X .ret s
 | .refuse _,_,_=>False
def XR (cx:Ctx) (P:Program) (summ:Za6) (fuel:Nat) (evalD:List Oper->St->KE->Prop) (evalF:Operand->Array Tmp->Code->Code->St->KE->Prop) (l:Nat):Code->St->KE->Prop
 | .seq a b,s,X=>match findLabel a l with
  | some _=>XR cx P summ fuel evalD evalF l a s (Z7P (fun s'=>Xu cx P summ fuel evalD evalF b s' X) X)
  | none=>XR cx P summ fuel evalD evalF l b s X
 | .label l',s,X=>match l'==l with
  | true=>X .normal s
  | false=>False
 | _,_,_=>False
end
def Yq (P:Program) (k:Nat) (ro:Option Nat) (c:Code) (s:St) (X:KE):Prop:=
 ∀(E0:Env) (h0:Z7) (w0:World) (E:Env) (a:Act) (w:World) (n:Nat),(∀x,k<=x->E0.blk x=none)->WW E s a w->Evo E0 h0 w0 E s.h w->c.wpIn (Fr ro) n P (Vt E0 h0 w0 X) a w
def Zt:Code->List (Nat×Code)
 | .seq a b=>Zt a++Zt b
 | .cond o x y=>(Z4y o,.cond o x y)::(Zt x++Zt y)
 | .block id c=>(id,c)::Zt c
 | .loop c=>Zt c
 | .scope c=>Zt c
 | _=>[]
theorem Vt.mono {E0:Env} {h0:Z7} {w0:World} {X Y:KE} {e:Exit} {a:Act} {w:World} (h:Vt E0 h0 w0 X e a w) (hxy:∀x s,X x s->Y x s):Vt E0 h0 w0 Y e a w:=
 let ⟨E',x,s',h1,h2⟩:=h;⟨E',x,s',hxy _ _ h1,h2⟩
theorem Z07 {E0:Env} {h0:Z7} {w0:World} {f:St->Prop} {X:KE} {e:Exit} {a:Act} {w:World} (h:Vt E0 h0 w0 (Z7P f X) e a w):
  (e=.normal/\∃E' s',f s'/\Evo E0 h0 w0 E' s'.h w/\WW E' s' a w)\/(e≠.normal/\Vt E0 h0 w0 X e a w):=by
 obtain ⟨E',x,s',hx,hev,hs,he⟩:=h
 cases he with
 | normal=>exact .inl ⟨rfl,E',s',hx,hev,hs⟩
 | exit id=>exact .inr ⟨by simp,E',_,s',hx,hev,hs,.exit id⟩
 | goto l=>exact .inr ⟨by simp,E',_,s',hx,hev,hs,.goto l⟩
 | ret=>exact .inr ⟨by simp,E',_,s',hx,hev,hs,.ret⟩
 | panic v r h=>exact .inr ⟨by simp,E',_,s',hx,hev,hs,.panic v r h⟩
theorem Z5j {P:Program} {k:Nat} {ro:Option Nat} {c:Code} {body:St->KE->Prop} (hb:∀s X,body s X->Yq P k ro c s X) {X:KE} {E0:Env} {h0:Z7} {w0:World} {n:Nat} (hk:∀x,k<=x->E0.blk x=none):
  ∀(m:Nat) (s:St) (E:Env) (a:Act) (w:World),Za5 body m s X->WW E s a w->Evo E0 h0 w0 E s.h w->Code.roundsIn (Fr ro) n P c (Vt E0 h0 w0 X) m a w
 | 0,_,_,_,_,h,_,_=>h.elim
 | m+1,s,E,a,w,h,hs,hev=>by
  refine wpIn_mono (hb s _ h E0 h0 w0 E a w n hk hs hev) ?_
  intro e a' w' hp
  rcases Z07 hp with ⟨rfl,E',s',hf,hev',hs'⟩|⟨hne,hp⟩
  ·exact Z5j hb hk m s' E' a' w' hf hs' hev'
  ·cases e<;>first|exact absurd rfl hne|exact hp
section
variable {P:Program} {b:Frame} {a:Act} {k:List Item} {cs:List Frame} {w:World}
theorem Z0H {c:Code}:step P (lone (b.atR a (.code (.scope c)::k)) cs w)=.next (lone (b.atR a (.code c::.inScope c::k)) cs w):=
 step_lone_go (by simp [stepG,stepG.exec,Frame.atR])
theorem Z35 {c:Code}:step P (lone (b.atR a (.inScope c::k)) cs w)=.next (lone (b.atR a k) cs w):=
 step_lone_go (by simp [stepG,stepG.exec,Frame.atR])
end
theorem UP {F:Fence} {n:Nat} {P:Program} {c:Code} {b:Frame} {k:List Item} {cs:List Frame} {m:Machine} {e:Exit} {a:Act} {w:World} (hb:F.fn b.fn) (hr:F.room (cs.length+1+n)) (he:∀l,e≠.goto l)
  (h:ArrivesIn (Machine.fenced P F) P m b (.inScope c::k) cs e a w):ArrivesIn (Machine.fenced P F) P m b k cs e a w:=by
 cases e with
 | normal=>exact StepsIn.trans h (.one (fenced_calm hb hr rfl) Z35)
 | exit id=>exact ⟨fun k' hk=>h.1 k' (by simpa [exitTo] using hk),fun hr hk=>h.2 hr (by simpa [exitTo] using hk)⟩
 | goto l=>simp_all
 | ret=>exact h
 | panic ch=>exact h
 | outgrown=>exact h
theorem Z0W {F:Fence} {n:Nat} {P:Program} {Q:Exit->Act->World->Prop} {a:Act} {w:World} {c:Code}
  (first:c.wpIn F n P (fun e a' w'=>(∃l rest,e=.goto l/\findLabel c l=some rest/\rest.wpIn F n P (fun e2 a2 w2=>(∀l2,e2≠.goto l2)/\Q e2 a2 w2) a' w')\/((∀l2,e≠.goto l2)/\Q e a' w')) a w):(Code.scope c).wpIn F n P Q a w:=by
 intro b k cs hro hb hr
 have h0:(lone (b.atR a (.code (.scope c)::k)) cs w).fenced P F:=fenced_calm hb hr rfl
 obtain ⟨e,a₁,w₁,hq,harr⟩:=first b (.inScope c::k) cs hro hb hr
 rcases hq with ⟨l,rest,rfl,hf,hrest⟩|⟨hne,hq⟩
 ·have hg:gotoIn l (.inScope c::k)=some (.code rest::.inScope c::k):=by simp [gotoIn,hf]
  obtain ⟨e2,a2,w2,⟨hne2,hq2⟩,harr2⟩:=hrest b (.inScope c::k) cs hro hb hr
  exact ⟨e2,a2,w2,hq2,.of_steps (.head h0 Z0H (harr.1 _ hg)) (UP hb hr hne2 harr2)⟩
 ·exact ⟨e,a₁,w₁,hq,.of_steps (.one h0 Z0H) (UP hb hr hne harr)⟩
theorem Z5k {cx:Ctx} {P:Program} {k:Nat} (hcx:cx.Ok P) {summ:Za6} {fuel:Nat} {evalD:List Oper->St->KE->Prop} {evalF:Operand->Array Tmp->Code->Code->St->KE->Prop} {ro:Option Nat} (hro:cx.inR=none->ro=none)
  (hD:∀id ops s X,evalD ops.toList s X->Yq P k ro (.region id ops true) s X) (hFn:∀g ps assign body s X,evalF g ps assign body s X->Yq P k ro (.rangeFunc g ps assign body) s X)
  (blocks:List (Nat×Code)) (hS:∀id S c,summ id=some S->(id,c)∈blocks->∀s X,S s X->Yq P k ro c s X):
  ∀(c:Code),(∀b,b∈Zt c->b∈blocks)->(∀(s:St) (X:KE),Xu cx P summ fuel evalD evalF c s X->Yq P k ro c s X)/\
   ∀l (s:St) (X:KE),XR cx P summ fuel evalD evalF l c s X->∃rest,findLabel c l=some rest/\Yq P k ro rest s X:=by
 intro c
 induction c with
 | skip=>
  refine fun hb0=>⟨?_,fun l s X h=>absurd h (by simp [XR])⟩
  revert hb0
  intro _ s X h E0 h0 w0 E a w n hk hs hev;exact wpIn_skip ⟨E,.normal,s,h,hev,hs,.normal⟩
 | region id ops draw=>
  refine fun hb0=>⟨?_,fun l s X h=>absurd h (by simp [XR])⟩
  revert hb0
  intro _ s X h
  cases draw with
  | false=>
   intro E0 h0 w0 E a w n hk hs hev
   have:=Za4 (n:=n) hcx hro ops.toList 0 rfl s E a w (by simpa [Xu] using h) hs hev
   simp_all [wpIn_region,List.range_eq_range']
  | true=>grind [Xu]
 | seq x y ihx ihy=>
  refine fun hb0=>⟨?_,fun l s X h=> ?_⟩
  rotate_left
  ·simp only [XR] at h
   split at h
   ·rename_i r0 hr0
    obtain ⟨rest,hf,hc⟩:=(ihx (fun b hm=>hb0 b (by simp [Zt,hm]))).2 l s _ h
    refine ⟨.seq rest y,by simp [findLabel,hf],fun E0 h0 w0 E a w n hk hs hev=>wpIn_seq (wpIn_mono (hc E0 h0 w0 E a w n hk hs hev) ?_)⟩
    intro e a' w' hp
    rcases Z07 hp with ⟨rfl,E',s',hf,hev',hs'⟩|⟨hne,hp⟩
    ·exact (ihy (fun b hm=>hb0 b (by simp [Zt,hm]))).1 s' X hf E0 h0 w0 E' a' w' n hk hs' hev'
    ·cases e<;>first|exact absurd rfl hne|exact hp
   simp_all [Zt,findLabel]
  revert hb0
  intro hb s X h E0 h0 w0 E a w n hk hs hev
  refine wpIn_seq (wpIn_mono ((ihx (fun b hm=>hb b (by simp [Zt,hm]))).1 s _ (by simpa [Xu] using h) E0 h0 w0 E a w n hk hs hev) ?_)
  intro e a' w' hp
  rcases Z07 hp with ⟨rfl,E',s',hf,hev',hs'⟩|⟨hne,hp⟩
  ·exact (ihy (fun b hm=>hb b (by simp [Zt,hm]))).1 s' X hf E0 h0 w0 E' a' w' n hk hs' hev'
  ·cases e<;>first|exact absurd rfl hne|exact hp
 | cond c x y ihx ihy=>
  refine fun hb0=>⟨?_,fun l s X h=>absurd h (by simp [XR])⟩
  revert hb0
  intro hb s X h
  simp only [Xu] at h
  split at h
  ·rename_i S hS'
   exact hS (Z4y c) S _ hS' (hb _ (by simp [Zt])) s _ h
  intro E0 h0 w0 E a w n hk hs hev
  split at h
  ·rename_i b hc
   have hv:=Zl hs.tmps c
   rw [hc] at hv
   cases hcv:a.eval c<;>rw [hcv] at hv<;>cases hv
   refine wpIn_cond hcv ?_
   cases b with
   | true=>exact (ihx (fun b hm=>hb b (by simp [Zt,hm]))).1 s X h E0 h0 w0 E a w n hk hs hev
   | false=>exact (ihy (fun b hm=>hb b (by simp [Zt,hm]))).1 s X h E0 h0 w0 E a w n hk hs hev
  simp_all
 | block id c ih=>
  refine fun hb0=>⟨?_,fun l s X h=>absurd h (by simp [XR])⟩
  revert hb0
  intro hb s X h E0 h0 w0 E a w n hk hs hev
  have key:Yq P k ro c s (fun e s'=>X (Z5i id e) s'):=by
   grind [Xu,Zt]
  refine wpIn_block (wpIn_mono (key E0 h0 w0 E a w n hk hs hev) ?_)
  rintro e a' w' ⟨E',x,s',hx,hev',hs',he⟩
  cases he with
  | normal=>exact ⟨E',_,s',hx,hev',hs',.normal⟩
  | exit i=>
   simp only [Exit.inBlock]
   by_cases hi:i=id
   ·subst hi
    rw [if_pos rfl]
    simp only [Z5i,Jg] at hx
    exact ⟨E',_,s',hx,hev',hs',.normal⟩
   ·rw [if_neg hi]
    simp only [Z5i,Zs hi] at hx
    exact ⟨E',_,s',hx,hev',hs',.exit i⟩
  | goto l=>exact ⟨E',_,s',hx,hev',hs',.goto l⟩
  | ret=>exact ⟨E',_,s',hx,hev',hs',.ret⟩
  | panic v r h=>exact ⟨E',_,s',hx,hev',hs',.panic v r h⟩
 | loop c ih=>
  refine fun hb0=>⟨?_,fun l s X h=>absurd h (by simp [XR])⟩
  revert hb0
  intro hb s X h E0 h0 w0 E a w n hk hs hev
  exact wpIn_loop_rounds fuel (Z5j (k:=k) (fun s' X' hq=>(ih (fun b hm=>hb b (by simpa [Zt] using hm))).1 s' X' hq) hk fuel s E a w (by simpa [Xu] using h) hs hev)
 | rangeFunc g ps assign body _ _=>
  simp_all [XR,Xu]
 | exit id=>
  refine fun hb0=>⟨?_,fun l s X h=>absurd h (by simp [XR])⟩
  revert hb0
  intro _ s X h E0 h0 w0 E a w n hk hs hev;exact wpIn_exit ⟨E,.exit id,s,h,hev,hs,.exit id⟩
 | scope c ih=>
  refine fun hb0=>⟨?_,fun l s X h=>absurd h (by simp [XR])⟩
  revert hb0
  intro hb s X h E0 h0 w0 E a w n hk hs hev
  have ihc:=ih (fun b hm=>hb b (by simpa [Zt] using hm))
  refine Z0W (wpIn_mono (ihc.1 s _ h E0 h0 w0 E a w n hk hs hev) ?_)
  rintro e a' w' ⟨E',x,s',hx,hev',hs',he⟩
  cases he with
  | goto l=>
   obtain ⟨rest,hf,hc⟩:=ihc.2 l s' _ hx
   refine .inl ⟨l,rest,rfl,hf,wpIn_mono (hc E0 h0 w0 E' a' w' n hk hs' hev') ?_⟩
   rintro e2 a2 w2 ⟨E2,x2,s2,hx2,hev2,hs2,he2⟩
   cases he2 with
   | goto l2=>simp_all
   | normal=>exact ⟨by simp,E2,_,s2,hx2,hev2,hs2,.normal⟩
   | exit id=>exact ⟨by simp,E2,_,s2,hx2,hev2,hs2,.exit id⟩
   | ret=>exact ⟨by simp,E2,_,s2,hx2,hev2,hs2,.ret⟩
   | panic v r h=>exact ⟨by simp,E2,_,s2,hx2,hev2,hs2,.panic v r h⟩
  | normal=>exact .inr ⟨by simp,E',_,s',hx,hev',hs',.normal⟩
  | exit id=>exact .inr ⟨by simp,E',_,s',hx,hev',hs',.exit id⟩
  | ret=>exact .inr ⟨by simp,E',_,s',hx,hev',hs',.ret⟩
  | panic v r h=>exact .inr ⟨by simp,E',_,s',hx,hev',hs',.panic v r h⟩
 | label l0=>
  refine fun hb0=>⟨?_,fun l s X h=> ?_⟩
  rotate_left
  ·simp only [XR] at h
   split at h
   ·rename_i hl
    exact ⟨.skip,by simp [findLabel,hl],fun E0 h0 w0 E a w n hk hs hev=>wpIn_skip ⟨E,.normal,s,h,hev,hs,.normal⟩⟩
   simp_all
  revert hb0
  intro _ s X h E0 h0 w0 E a w n hk hs hev;exact wpIn_label ⟨E,.normal,s,h,hev,hs,.normal⟩
 | goto l=>
  refine fun hb0=>⟨?_,fun l s X h=>absurd h (by simp [XR])⟩
  revert hb0
  intro _ s X h E0 h0 w0 E a w n hk hs hev;exact wpIn_goto ⟨E,.goto l,s,h,hev,hs,.goto l⟩
 | ret=>
  refine fun hb0=>⟨?_,fun l s X h=>absurd h (by simp [XR])⟩
  revert hb0
  intro _ s X h E0 h0 w0 E a w n hk hs hev;exact wpIn_ret ⟨E,.ret,s,h,hev,hs,.ret⟩
 | refuse why=>
  simp_all [XR,Xu]
end Go.Tk
end
section
namespace Go.Tk
open IntKind (i64 u8 u32 u64 wrap)
variable {E E0:Env} {args:List AV} {rs:List Value} {K:AV->Prop} {u:FrameMode} {w0:World} {f:FuncId} {r:Value} {cx:Ctx} {ro:Option Nat} {X:KE} {g:Option (Nat×Bool)} {t':ZN}
def Z0I:Nat->List AV->ZN
 | _,[]=>[]
 | k,v::r=>(k,v)::Z0I (k+1) r
theorem Z3o {E:Env}:∀(args:List AV) (rs:List Value) (k:Nat) (pre post:List Value),Zr E args rs->pre.length=k->∀x v,ZC (Z0I k args) x=some v->Zb E v ((pre++rs++post).toArray.getD x undef)
 | [],_,_,_,_,_,_,x,v,h=>by simp [Z0I,ZC] at h
 |u::r,_,k,pre,post,.cons _ c _ cs hv ht,hk,x,v,h=>by
  simp only [Z0I,ZC] at h
  split at h
  ·simp_all
  ·have:=Z3o r cs (k+1) (pre++[c]) post ht (by simp [hk]) x v h
   simp_all
theorem Z3p {N:Nat} (h:Zr E args rs) (hn:args.length<=N):WR E N (Z0I 0 args) (rs.toArray++Array.replicate (N-rs.toArray.size) undef):=by
 have hl:=h.length
 refine ⟨by simp;omega,fun x v hx=> ?_⟩
 have:=Z3o args rs 0 [] (List.replicate (N-rs.length) undef) h rfl x v hx
 grind [Array.replicate]
def Z8V (P:Program) (s:St):List ResultVar->(List AV->Prop)->Prop
 | [],K=>K []
 | .tmp t::r,K=>match ZC s.t t with
  | some v=>Z8V P s r fun vs=>K (v::vs)
  | none=>False
 | .cell a T::r,K=>match ZC s.t a with
  | some p=>Z7B P s.h T p fun v=>Z8V P s r fun vs=>K (v::vs)
  | none=>False
def Za8:List AV->AV
 | [v]=>v
 | vs=>.tuple vs
def ZeY (P:Program) (fn:Func) (s:St) (K:AV->Prop):Prop:=Z8V P s fn.results.toList fun vs=>K (Za8 vs)
def Za9 (tm:Array Value):ResultVar->Sem Value
 | .tmp t=>pure (tm.getD t undef)
 | .cell a t=>do loadVar t (<-asAddr (tm.getD a undef))
theorem Z4z {P:Program} {s:St}:∀(l:List ResultVar) (K:List AV->Prop),Z8V P s l K->∃vs,K vs/\∀(E:Env) (w:World) (tm:Array Value),Emb E s.h w->WR E s.n s.t tm->
  ∃rs,Zr E vs rs/\(l.mapM (Za9 tm)).run P w=.ok rs w
 | [],K,h=>⟨[],h,fun E w tm he ht=>⟨[],.nil,by simp⟩⟩
 | .tmp t::r,K,h=>by
  simp only [Z8V] at h
  split at h
  ·rename_i v hv
   obtain ⟨vs,hK,hr⟩:=Z4z r _ h
   refine ⟨v::vs,hK,fun E w tm he ht=> ?_⟩
   obtain ⟨rs,h1,h2⟩:=hr E w tm he ht
   exact ⟨_::rs,.cons _ _ _ _ (ht.get t v hv) h1,by simp only [List.mapM_cons,J4,Za9,Jd,J3,h2]⟩
  ·exact h.elim
 | .cell a T::r,K,h=>by
  simp only [Z8V] at h
  split at h
  ·rename_i p hp
   obtain ⟨v,h,hv⟩:=Z51 h
   obtain ⟨vs,hK,hr⟩:=Z4z r _ h
   refine ⟨v::vs,hK,fun E w tm he ht=> ?_⟩
   obtain ⟨ad,rv,e1,e2,e3⟩:=hv E w _ he (ht.get a p hp)
   obtain ⟨rs,h1,h2⟩:=hr E w tm he ht
   refine ⟨rv::rs,.cons _ _ _ _ e3 h1, ?_⟩
   have e4:(Za9 tm (.cell a T)).run P w=.ok rv w:=by simp only [Za9,J4,e1,asAddr,Jd,J3,e2]
   simp only [List.mapM_cons,J4,e4,Jd,J3,h2]
  ·exact h.elim
theorem Zc8 {P:Program} {fn:Func} {s:St} (h:ZeY P fn s K):∃v,K v/\∀(E:Env) (w:World) (tm:Array Value),Emb E s.h w->WR E s.n s.t tm->
  ∃r,(results fn tm).run P w=.ok r w/\Zb E v r:=by
 obtain ⟨vs,hK,hr⟩:=Z4z _ _ h
 refine ⟨_,hK,fun E w tm he ht=> ?_⟩
 obtain ⟨rs,h1,h2⟩:=hr E w tm he ht
 refine ⟨if h:rs.toArray.size=1 then rs.toArray[0] else .tuple rs.toArray, ?_, ?_⟩
 ·have e:results fn tm=(do let vs<-fn.results.mapM (Za9 tm);pure (if h:vs.size=1 then vs[0] else .tuple vs)):=by
   congr 1
  simp_all [Array.mapM_eq_mapM_toList]
 ·cases h1 with
  | nil=>exact .tuple [] [] .nil
  | cons v c vs cs hv ht=>
   cases ht with
   | nil=>simpa [Za8] using hv
   | cons v2 c2 vs2 cs2 hv2 ht2=>
    have:=Zb.tuple _ _ (.cons _ _ _ _ hv (.cons _ _ _ _ hv2 ht2))
    simpa [Za8] using this
inductive PM where
 | none
 | pan (v:AV)
 | rcv
inductive WG (E:Env):PM->FrameMode->Prop
 | none:WG E .none .returning
 | pan (v:AV) (r:Value) (h:Zb E v r):WG E (.pan v) (.panicking [{ v:=r,recovered:=false}])
 | rcv (r:Value):WG E .rcv (.panicking [{ v:=r,recovered:=true}])
theorem WG.mono {E':Env} (le:E.le E') {m:PM} (h:WG E m u):WG E' m u:=by
 cases h with
 | none=>exact .none
 | pan v r h=>exact .pan v r (h.mono le)
 | rcv r=>exact .rcv r
def Z08 (P:Program):List Oper->PM->St->(PM->St->Prop)->Prop
 | [],m,s,X=>X m s
 | o::r,m,s,X=>match o.guard with
  | some _=>False
  | none=>match o.op with
   | .call ⟨.builtin .recover,_,_⟩=>match m with
    | .pan v=>VE s o.dst v fun s'=>Z08 P r .rcv s' X
    | m=>VE s o.dst .nilIface fun s'=>Z08 P r m s' X
   | op=>opA P op s.t s.h fun v h'=>VE { s with h:=h'} o.dst v fun s'=>Z08 P r m s' X
theorem Z8W {P:Program} {X:PM->St->Prop} {h0:Z7} {all:List Oper} {c₀:Frame} {cs:List Frame} {n:Nat}:
  ∀(r:List Oper) (k:Nat),all.drop k=r->∀(m:PM) (u:FrameMode) (s:St) (E:Env) (a:Act) (w:World),Z08 P r m s X->WW E s a w->Evo E0 h0 w0 E s.h w->WG E m u->
   wpOpsSIn (Fr none) n P all.toArray (fun e a' cs' w'=>e=.normal/\∃E' m' u' s',X m' s'/\Evo E0 h0 w0 E' s'.h w'/\WW E' s' a' w'/\WG E' m' u'/\cs'={ c₀ with mode:=u'}::cs)
    (List.range' k r.length) a ({ c₀ with mode:=u}::cs) w:=by
 intro r
 induction r with
 | nil=>intro k _ m u s E a w h hs hev hm;exact ⟨rfl,E,m,u,s,h,hev,hs,hm,rfl⟩
 | cons o r ih=>
  intro k hk m u s E a w h hs hev hm
  have hko:all[k]? =some o:=by
   have:=congrArg (fun l=>l[0]?) hk
   grind
  have hkr:all.drop (k+1)=r:=by
   have:=congrArg (List.drop 1) hk
   grind [List.drop_drop]
  simp only [Jy,List.range'_succ,wpOpsSIn,List.getElem?_toArray,hko]
  refine ⟨fun _ _=>trivial, ?_⟩
  simp only [Z08] at h
  split at h
  ·simp_all
  ·rename_i hg
   rw [if_pos (by simp [Region.wanted,hg])]
   split at h
   ·rename_i args tys ho
    have hrun:(execOp a.eval o).run P w=.ok .recover w:=by simp [execOp,ho,resolve,invoke,builtin]
    rw [hrun]
    cases hm with
    | pan v rv hv=>
     obtain ⟨s3,hK3,f1,f2,f3⟩:=Ur h
     exact ih (k+1) hkr .rcv _ s3 E _ w hK3 (f3 E a w rv hs hv) (f1▸hev) (.rcv rv)
    | none=>
     obtain ⟨s3,hK3,f1,f2,f3⟩:=Ur h
     exact ih (k+1) hkr .none _ s3 E _ w hK3 (f3 E a w .nilIface hs .nilIface) (f1▸hev) .none
    | rcv rv=>
     obtain ⟨s3,hK3,f1,f2,f3⟩:=Ur h
     exact ih (k+1) hkr .rcv _ s3 E _ w hK3 (f3 E a w .nilIface hs .nilIface) (f1▸hev) (.rcv rv)
   ·obtain ⟨v,h',hk',hr'⟩:=Z9Z h
    obtain ⟨rv,w',E',q1,q2,q3⟩:=hr' E w s.n a hs.emb hs.tmps
    rw [q1]
    obtain ⟨s3,hK3,f1,f2,f3⟩:=Ur hk'
    exact ih (k+1) hkr m u s3 E' _ w' hK3 (f3 E' a w' rv ⟨q2.emb,hs.tmps.mono q2.le,hs.defs.mono q2.le⟩ q3) (by rw [f1];exact hev.trans q2) (hm.mono q2.le)
def Ze1 (P:Program) (ev:FuncId->Code->St->KE->Prop) (g:FuncId) (args:List AV) (m:PM) (h:Z7) (K:PM->Z7->Prop):Prop:=
 match P.funcs[g]? with
 | some fn=>match fn.body,fn.results.toList,Nat.ble args.length fn.ntmps with
  | some (.seq (.region _ ops false) rest),[],true=>Z08 P ops.toList m ⟨fn.ntmps,Z0I 0 args,h,[]⟩ fun m' s'=>ev g rest s' fun e s2=>match e,s2.d with
   | .normal,[]=>K m' s2.h
   | .ret,[]=>K m' s2.h
   | _,_=>False
  | _,_,_=>False
 | none=>False
theorem Zc9 {P:Program} {ev:FuncId->Code->St->KE->Prop} (hev:∀g fn id ops rest,P.funcs[g]? =some fn->fn.body=some (.seq (.region id ops false) rest)->∀s X,ev g rest s X->Yq P s.h.next none rest s X) {g:FuncId} {m:PM} {h:Z7} {K:PM->Z7->Prop} (hl:Ze1 P ev g args m h K)
 {h0:Z7} {w:World} {n:Nat} (he:Emb E h w) (hv:Evo E0 h0 w0 E h w) (ha:Zr E args rs) (hm:WG E m u):
  CallsDIn (Fr none) n P g rs.toArray u w fun e u' w'=>(∃v,e=.returned v)/\∃E' m' h',K m' h'/\Evo E0 h0 w0 E' h' w'/\WG E' m' u'/\E.le E':=by
 unfold Ze1 at hl
 split at hl
 ·rename_i fn hf
  split at hl
  ·rename_i id ops rest hb hr hn
   refine callsDIn_of_wpSIn hf hb trivial ?_
   intro c₀ cs hu
   refine wpSIn_seq ?_
   refine wpSIn_region ?_
   have hent:=Z3p (N:=fn.ntmps) ha (WS hn)
   have h1:=Z8W (E0:=E) (h0:=h) (w0:=w) (all:=ops.toList) (c₀:=c₀) (cs:=cs) (n:=n) ops.toList 0 rfl m u ⟨fn.ntmps,Z0I 0 args,h,[]⟩ E { tmps:=rs.toArray++Array.replicate (fn.ntmps-rs.toArray.size) undef,defers:=[]} w hl ⟨he,hent,.nil⟩ (.refl he) hm
   rw [List.range_eq_range']
   have hcs:c₀::cs={ c₀ with mode:=u}::cs:=by rw [<-hu]
   rw [hcs]
   have mono:∀(l:List Nat) (a:Act) (cs:List Frame) (w:World) (Q Q':Exit->Act->List Frame->World->Prop),(∀e a cs w,Q e a cs w->Q' e a cs w)->wpOpsSIn (Fr none) n P ops.toList.toArray Q l a cs w->wpOpsSIn (Fr none) n P ops.toList.toArray Q' l a cs w:=by
    intro l
    induction l with
    | nil=>intro a cs w Q Q' hq hh;exact hq _ _ _ _ hh
    | cons i l ih=>
     intro a cs w Q Q' hq hh
     simp only [wpOpsSIn] at hh⊢
     split at hh
     ·exact ih a cs w Q Q' hq hh
     ·obtain ⟨q1,q2⟩:=hh
      refine ⟨q1, ?_⟩
      split at q2
      ·rename_i hw
       rw [if_pos hw]
       split at q2
       ·split at q2<;>exact ih _ _ _ Q Q' hq q2
       ·exact ih _ _ _ Q Q' hq q2
       ·exact ih _ _ _ Q Q' hq q2
       ·exact hq _ _ _ _ q2
       ·exact q2.elim
      ·rename_i hw
       rw [if_neg hw]
       exact ih _ _ _ Q Q' hq q2
   have h2:=mono _ _ _ _ _ (Exit.thenS (Code.wpSIn (Fr none) n P rest (bodyPostS P fn c₀ cs fun e u' w'=>(∃v,e=.returned v)/\∃E' m' h',K m' h'/\Evo E0 h0 w0 E' h' w'/\WG E' m' u'/\E.le E')) (bodyPostS P fn c₀ cs fun e u' w'=>(∃v,e=.returned v)/\∃E' m' h',K m' h'/\Evo E0 h0 w0 E' h' w'/\WG E' m' u'/\E.le E')) ?_ h1
   ·omega
   ·rintro e a' cs' w' ⟨rfl,E',m',u',s',hX,hv',hs',hm',rfl⟩
    refine wpSIn_of_wpIn rfl ?_
    refine wpIn_mono (hev g fn id ops rest hf hb s' _ hX E' s'.h w' E' a' w' n hs'.emb.fresh hs' (.refl hs'.emb)) ?_
    rintro e a2 w2 ⟨E2,x,s2,hx,hv2,hs2,hxe⟩
    have hres:∀(tm:Array Value),(results fn tm).run P w2=.ok (.tuple #[]) w2:=by
     simp_all [results]
    have fin:s2.d=[]->K m' s2.h->a2.defers=[]/\∃u'',({ c₀ with mode:=u'}:Frame)::cs={ c₀ with mode:=u''}::cs/\∃v,(results fn a2.tmps).run P w2=.ok v w2/\((∃v',Ending.returned v=.returned v')/\∃E' m' h',K m' h'/\Evo E0 h0 w0 E' h' w2/\WG E' m' u''/\E.le E'):=by
     intro hd hK
     have hdd:=hs2.defs
     rw [hd] at hdd
     have hde:a2.defers=[]:=by
      generalize a2.defers=ad at hdd
      cases hdd
      rfl
     exact ⟨hde,u',rfl,_,hres _,⟨_,rfl⟩,E2,m',s2.h,hK,(hv.trans (hv'.trans hv2)),hm'.mono hv2.le,hv'.le.trans hv2.le⟩
    cases hxe with
    | normal=>
     cases hd:s2.d with
     | nil=>simp only [hd] at hx;exact fin hd hx
     | cons d ds=>grind
    | ret=>
     cases hd:s2.d with
     | nil=>simp only [hd] at hx;exact fin hd hx
     | cons d ds=>grind
    | exit i=>simp at hx
    | goto l=>simp at hx
    | panic v r h=>simp at hx
  simp_all
 simp_all
def Z4A:PM->PM
 | .rcv=>.none
 | m=>m
def VR (P:Program) (ev:FuncId->Code->St->KE->Prop) (fn:Func) (s:St):List VQ->PM->Z7->KO->Prop
 | [],.none,h,K=>ZeY P fn { s with h:=h} fun v=>K (.ret v) h
 | [],.pan v,h,K=>K (.panic v) h
 | [],.rcv,_,_=>False
 | .mark x::ds,m,h,K=>match h.get x with
  | some .defd=>VR P ev fn s ds m (h.del x) K
  | _=>False
 | .call g args::ds,m,h,K=>match P.funcs[g]? with
  | some gf=>match gf.body.isSome&& !(gf.name== "runtime.NumGoroutine") with
   | true=>Ze1 P ev g args m h fun m' h'=>VR P ev fn s ds (Z4A m') h' K
   | false=>False
  | none=>False
theorem CallsDIn.mono' {F:Fence} {n:Nat} {P:Program} {args:Array Value} {w:World} {R R':Ending->FrameMode->World->Prop} (h:CallsDIn F n P f args u w R) (hr:∀e u w,R e u w->R' e u w):CallsDIn F n P f args u w R':=
 ⟨h.1,fun c cs hu hroom=>let ⟨e,u',w',fr,q,rest⟩:=h.2 c cs hu hroom;⟨e,u',w',fr,hr _ _ _ q,rest⟩⟩
theorem Z09 {P:Program} {ev:FuncId->Code->St->KE->Prop} (hev:∀g fn id ops rest,P.funcs[g]? =some fn->fn.body=some (.seq (.region id ops false) rest)->∀s X,ev g rest s X->Yq P s.h.next none rest s X) {fn:Func} {s:St} {K:KO} {h0:Z7} {tm:Array Value} {n:Nat}:
  ∀(ds:List VQ) (rd:List Deferred) (m:PM) (u:FrameMode) (h:Z7) (E:Env) (w:World),VR P ev fn s ds m h K->Emb E h w->WR E s.n s.t tm->Evo E0 h0 w0 E h w->Vr E ds rd->WG E m u->m≠.rcv->
   LeavesInM (Fr none) n P fn tm (fun e w'=>∃E' o h',K o h'/\Evo E0 h0 w0 E' h' w'/\Q4 E' o e) rd u w:=by
 intro ds
 induction ds with
 | nil=>
  intro rd m u h E w hl he ht hv hd hm _
  cases hd
  cases hm with
  | none=>
   obtain ⟨v,hK,hr⟩:=Zc8 hl
   obtain ⟨r,h1,h2⟩:=hr E w tm he ht
   exact ⟨r,h1,E,_,h,hK,hv,.ret v r h2⟩
  | pan v r hvr=>exact ⟨E,_,h,hl,hv,.panic v r hvr⟩
  | rcv r=>simp_all
 | cons d ds ih=>
  intro rd m u h E w hl he ht hv hd hm hnr
  have hu:u≠.run:=by cases hm<;>simp
  cases hd with
  | call g args fnv cap rs ds rd hf hla t=>
   subst hf
   simp only [VR] at hl
   split at hl
   ·rename_i gf hgf
    split at hl
    ·rename_i hb
     refine ⟨hu,.inr ⟨fun h=>(by cases h),.func g,cap,g,rs++cap,rfl, ?_,fun _ _=>trivial, ?_⟩⟩
     ·simp_all [invoke,Vs]
     ·have h1:=Zc9 (n:=n-1) hev hl he hv hla hm
      have e1:(rs.toList++cap.toList).toArray=rs++cap:=by simp_all
      rw [e1] at h1
      refine CallsDIn.mono' h1 ?_
      rintro e u' w' ⟨⟨v,rfl⟩,E',m',h',hK,hv',hm',hle⟩
      refine ih rd (Z4A m') (settle u') h' E' w' hK hv'.emb (ht.mono hle) hv' (t.mono hle) ?_ ?_
      ·cases hm' with
       | none=>exact .none
       | pan v r h=>exact .pan v r h
       | rcv r=>exact .none
      ·cases m'<;>simp [Z4A]
    simp_all
   simp_all
  | mark x b N ds rd hb t=>
   simp only [VR] at hl
   split at hl
   ·rename_i hg
    have hB:=he.own _ _ hg
    cases hB with
    | defd b' hb' hw=>
     rw [hb'] at hb
     injection hb with hb
     injection hb with q1 q2
     subst q1
     refine ⟨hu,.inl ⟨b',{ w with heap:=w.heap.setIfInBounds b' (.deferred none)},rfl, ?_, ?_⟩⟩
     ·simp [Instr.takeDeferred,getObj,setObj,Sem.run,hw]
     ·have hev1:Evo E h w E (h.del x) { w with heap:=w.heap.setIfInBounds b' (.deferred none)}:=by
       have hd:=Z1e he x
       have hget:∀y C,(h.del x).get y=some C->y≠x/\h.get y=some C:=fun y C hy=>by
        grind [Z7.get_del_same,Z7.get_del_other]
       have hne:∀(i:Nat),i≠b'->(w.heap.setIfInBounds b' (.deferred none))[i]? =w.heap[i]?:=fun i hi=>by
        rw [Jb,if_neg (fun q=>hi q.symm)]
       refine ⟨.refl E,⟨hd.emb.fresh,hd.emb.lt,fun y C hy=> ?_,hd.emb.disj,fun a c hi=> ?_,hd.emb.sep⟩,by simp,rfl,rfl,⟨rfl,J2 _⟩, ?_, ?_,fun _ _ h=>h⟩
       ·obtain ⟨hyx,hy'⟩:=hget y C hy
        refine (he.own y C hy').congr fun b2 N2 hb2=>hne b2 ?_
        rintro rfl
        exact hyx (he.disj y x C _ b2 N2 _ hy' hg hb2 hb')
       ·have h1:=he.imm a c hi
        grind [World.cell?]
       ·intro i _ hno
        refine hne i ?_
        rintro rfl
        exact hno ⟨x,_,_,hg,hb'⟩
       ·rintro i ⟨y,C,M,hy,hby⟩
        exact .inl ⟨y,C,M,(hget y C hy).2,hby⟩
      exact ih rd m u (h.del x) E _ hl hev1.emb ht (hv.trans hev1) t hm hnr
   simp_all
def Z7Q (n:Nat):List Nat->List AV->ZN->(ZN->Prop)->Prop
 | [],[],t,K=>K t
 | p::ps,v::vs,t,K=>match Nat.blt p n with
  | true=>Z7Q n ps vs (VH t p v) K
  | false=>False
 | _,_,_,_=>False
theorem Z5l {n:Nat}:∀(ps:List Nat) (vs:List AV) (t:ZN) (K:ZN->Prop),Z7Q n ps vs t K->∃t',K t'/\ps.length=vs.length/\∀(E:Env) (tm:Array Value) (rs:List Value),WR E n t tm->Zr E vs rs->
  WR E n t' ((ps.zip rs).foldl (fun tmps (x:Nat×Value)=>tmps.setIfInBounds x.1 x.2) tm)
 | [],[],t,K,h=>⟨t,h,rfl,fun E tm rs ht hl=>by simp_all⟩
 | [],_::_,_,_,h=>h.elim
 | _::_,[],_,_,h=>h.elim
 | p::ps,v::vs,t,K,h=>by
  simp only [Z7Q] at h
  split at h
  ·rename_i hb
   have hp:p<n:=Jc hb
   obtain ⟨t',hK,hl,hr⟩:=Z5l ps vs (VH t p v) K h
   refine ⟨t',hK,by simp [hl],fun E tm rs ht hl=> ?_⟩
   cases hl with
   | cons v c vs cs hv hvs=>
    refine hr E _ cs ⟨by simp [ht.size],fun x u hx=> ?_⟩ hvs
    by_cases hxp:p=x
    ·subst hxp
     rw [YT] at hx
     have:p<tm.size:=by rw [ht.size];exact hp
     simp_all
    ·rw [YL _ _ _ _ hxp] at hx
     have:=ht.get x u hx
     simp_all
  simp_all
def Z6U:Option Code->LoopState
 | none=>.ready
 | some _=>.done
def endRound (x:Nat) (pending:Option Code) (h:Z7) (K:Z7->Prop):Prop:=
 match h.get x with
 | some (.loop l)=>K (h.set x (.loop { l with state:=Z6U pending,pending:=pending}))
 | _=>False
def Z6V (ev:FuncId->Nat->Code->St->KE->Prop) (x:Nat) (args:List AV) (h:Z7) (K:KO):Prop:=
 match h.get x with
 | some (.loop l)=>match l.state with
  | .ready=>Z7Q l.n l.params args l.tmps fun t1=>ev l.fn x l.assign ⟨l.n,t1,h,[]⟩ fun e s=>match e with
   | .normal=>match s.h.get x with
    | some (.loop l1)=>match l1.state with
     | .ready=>ev l.fn x l.body { s with h:=s.h.set x (.loop { l1 with state:=.busy})} fun e2 s2=>match e2 with
      | .normal=>endRound x none s2.h fun h'=>K (.ret (.bool true)) h'
      | .ret=>endRound x (some .ret) s2.h fun h'=>K (.ret (.bool false)) h'
      | .exit id=>endRound x (some (.exit id)) s2.h fun h'=>K (.ret (.bool false)) h'
      | .goto t=>endRound x (some (.goto t)) s2.h fun h'=>K (.ret (.bool false)) h'
      | .panic _=>False
     | _=>False
    | _=>False
   | _=>False
  | _=>False
 | _=>False
theorem run_getLoop {P:Program} {w:World} {b:Nat} {r:Loop} (h:w.heap[b]? =some (.loop r)):(Instr.getLoop b).run P w=.ok r w:=by
 simp [Instr.getLoop,getObj,Sem.run,h]
theorem run_setObj_loop {P:Program} {w:World} {b:Nat} {r r':Loop} (h:w.heap[b]? =some (.loop r)):(setObj b (.loop r')).run P w=.ok () { w with heap:=w.heap.setIfInBounds b (.loop r')}:=by
 simp [setObj,Sem.run,h]
theorem VS {h:Z7} {w:World} (he:Emb E h w) (x b d N:Nat) (l l':Z7A) (fnr:FuncId) (tm:Array Value) (hg:h.get x=some (.loop l)) (hb:E.blk x=some (b,0)) (hd:E.blk l.defers=some (d,N))
  (ht:WR E l.n l.tmps tm)
  (e1:l'.n=l.n) (e2:l'.tmps=l.tmps) (e3:l'.params=l.params) (e4:l'.assign=l.assign) (e5:l'.body=l.body) (e6:l'.defers=l.defers):
  Evo E h w E (h.set x (.loop l')) { w with heap:=w.heap.setIfInBounds b (.loop ⟨l'.state,l'.pending,fnr,tm,l.params.toArray,l.assign,l.body,d⟩)}:=by
 have hlt:b<w.heap.size:=(he.own _ _ hg).lt hb
 refine Yb he x _ _ b 0 hg hb (fun i hi=> ?_) (by simp) rfl rfl ⟨rfl,J2 _⟩ ?_
 ·rw [Jb,if_neg (fun q=>hi q.symm)]
 ·refine .loop l' b d N fnr tm hb (by rw [e6];exact hd) ?_ (by rw [e1,e2];exact ht)
  rw [e3,e4,e5]
  simp [hlt]
theorem Z5m {x:Nat} {pending:Option Code} {h:Z7} {K:Z7->Prop} (hl:endRound x pending h K):
  ∃h',K h'/\∀(P:Program) (E:Env) (w:World) (b N:Nat),Emb E h w->E.blk x=some (b,N)->∃w',(Instr.endRound b pending).run P w=.ok (.bool pending.isNone) w'/\Evo E h w E h' w':=by
 unfold endRound at hl
 split at hl
 ·rename_i l hg
  refine ⟨_,hl,fun P E w b N he hb=> ?_⟩
  have hB:=he.own _ _ hg
  cases hB with
  | loop l b' d N' fnr tm hb' hd hw ht=>
   rw [hb'] at hb
   injection hb with hb
   injection hb with q1 q2
   subst q1
   have hev:=VS he x b' d N' l { l with state:=Z6U pending,pending:=pending} fnr tm hg hb' hd ht rfl rfl rfl rfl rfl rfl
   refine ⟨_, ?_,hev⟩
   simp only [Instr.endRound,J4,run_getLoop hw,J3]
   rw [run_setObj_loop hw]
   cases pending<;>simp [Z6U]
 simp_all
theorem Z8X {P:Program} {ev:FuncId->Nat->Code->St->KE->Prop} (hev:∀f x c s X,ev f x c s X->∀(E0:Env) (h0:Z7) (w0:World) (E:Env) (a:Act) (w:World) (n b N:Nat),WW E s a w->Evo E0 h0 w0 E s.h w->E.blk x=some (b,N)->
   c.wpIn (Fr (some b)) n P (Vt E0 h0 w0 X) a w) {x:Nat} {h:Z7} {K:KO} (hl:Z6V ev x args h K):Za0 P x args h K:=by
 intro E w rs b N he ha hb
 unfold Z6V at hl
 split at hl
 ·rename_i l hg
  split at hl
  ·obtain ⟨t1,hl,hlen,hset⟩:=Z5l _ _ _ _ hl
   have hB:=he.own _ _ hg
   cases hB with
   | loop l b' d N' fnr tm hb' hd hw ht=>
    rw [hb'] at hb
    injection hb with hb
    injection hb with q1 q2
    subst q1
    have hrl:=ha.length
    refine ⟨fnr,(l.params.zip rs).foldl (fun tmps (x:Nat×Value)=>tmps.setIfInBounds x.1 x.2) tm,l.assign,l.body, ?_, ?_⟩
    ·simp only [Instr.yield,J4,run_getLoop hw,J3]
     rw [if_neg (by simp;omega)]
     simp
    ·refine roundIn_of_wpIn trivial ?_
     refine wpIn_mono (hev _ _ _ _ _ hl E h w E { tmps:=_,defers:=[]} w 0 b' 0 ⟨he,hset E tm rs ht ha,.nil⟩ (.refl he) hb') ?_
     rintro e a1 w1 ⟨E1,x1,s1,hx,hv1,hs1,hxe⟩
     cases hxe with
     | normal=>
      simp only at hx
      split at hx
      ·rename_i l1 hg1
       split at hx
       ·have hB1:=hs1.emb.own _ _ hg1
        cases hB1 with
        | loop l1 b1 d1 N1 fnr1 tm1 hb1 hd1 hw1 ht1=>
         have hbe:=hv1.le.blk _ _ hb'
         rw [hb1] at hbe
         injection hbe with hbe
         injection hbe with q3 q4
         subst q3
         have hev1:=VS hs1.emb x b1 d1 N1 l1 { l1 with state:=.busy} fnr1 tm1 hg1 hb1 hd1 ht1 rfl rfl rfl rfl rfl rfl
         refine ⟨{ w1 with heap:=w1.heap.setIfInBounds b1 (.loop ⟨.busy,l1.pending,fnr1,tm1,l1.params.toArray,l1.assign,l1.body,d1⟩)}, ?_, ?_⟩
         ·simp_all [Instr.beginRound,run_getLoop,run_setObj_loop]
         ·refine wpIn_mono (hev _ _ _ _ _ hx E h w E1 a1 _ 0 b1 0 ⟨hev1.emb,hs1.tmps,hs1.defs⟩ (hv1.trans hev1) hb1) ?_
          rintro e2 a2 w2 ⟨E2,x2,s2,hx2,hv2,hs2,hxe2⟩
          have hb2:E2.blk x=some (b1,0):=hv2.le.blk _ _ (by rw [hb'])
          have fin:∀(pending:Option Code) (o:Bool),o=pending.isNone->endRound x pending s2.h (fun h'=>K (.ret (.bool o)) h')->∃v w',(Instr.endRound b1 pending).run P w2=.ok v w'/\(∃E' o h',K o h'/\Evo E h w E' h' w'/\Q4 E' o (.returned v)):=by
           intro pending o ho hh
           obtain ⟨h',hK,hr⟩:=Z5m hh
           obtain ⟨w',h1,h2⟩:=hr P E2 w2 b1 0 hs2.emb hb2
           exact ⟨_,w',h1,E2,_,h',hK,hv2.trans h2,by rw [ho];exact .ret _ _ (.bool _)⟩
          cases hxe2 with
          | normal=>exact fin none true rfl hx2
          | ret=>exact fin (some .ret) false rfl hx2
          | exit id=>exact fin (some (.exit id)) false rfl hx2
          | goto t=>exact fin (some (.goto t)) false rfl hx2
          | panic v r h=>simp_all
       simp_all
      simp_all
     | exit id=>simp_all
     | goto t=>simp_all
     | ret=>simp_all
     | panic v r h=>simp_all
  simp_all
 simp_all
def Z6W (cx:Ctx) (P:Program) (g:Operand) (ps:Array Tmp) (assign body:Code) (s:St) (X:KE):Prop:=
 match cx.inR with
 | some _=>False
 | none=>match aev s.t g with
  | .func (.func gg) first cap=>match P.funcs[gg]? with
   | some fn=>match fn.body.isSome&& !(fn.name== "runtime.NumGoroutine") with
    | true=>cx.call gg (first++[.yield (s.h.next+1)]++cap) ((s.h.add .defd).add (.loop ⟨.ready,none,cx.fn,s.n,s.t,ps.toList,assign,body,s.h.next⟩)) fun o h3=>match o with
     | .ret _=>match h3.get (s.h.next+1) with
      | some (.loop l)=>match l.state with
       | .busy=>False
       | _=>match l.pending with
        | none=>X .normal { s with h:=h3.del (s.h.next+1),d:=.mark s.h.next::s.d}
        | some .ret=>X .ret { s with h:=h3.del (s.h.next+1),d:=.mark s.h.next::s.d}
        | some (.exit id)=>X (.exit id) { s with h:=h3.del (s.h.next+1),d:=.mark s.h.next::s.d}
        | some (.goto t)=>X (.goto t) { s with h:=h3.del (s.h.next+1),d:=.mark s.h.next::s.d}
        | _=>False
      | _=>False
     | .panic v=>X (.panic v) { s with h:=h3,d:=.mark s.h.next::s.d}
    | false=>False
   | none=>False
  | _=>False
theorem Z3q {P:Program} {k:Nat} (hcx:cx.Ok P) (hro:cx.inR=none->ro=none) {g:Operand} {ps:Array Tmp} {assign body:Code} {s:St} (hl:Z6W cx P g ps assign body s X):
  Yq P k ro (.rangeFunc g ps assign body) s X:=by
 unfold Z6W at hl
 split at hl
 ·simp_all
 ·rename_i hin
  have hr0:=hro hin
  subst hr0
  split at hl
  ·rename_i gg first cap hgv
   split at hl
   ·rename_i fn hfn
    split at hl
    ·rename_i hbody
     intro E0 h0 w0 E a w n _ hs hev
     refine wpIn_rangeFunc ?_
     intro fnr _
     have hgr:=Zl hs.tmps g
     rw [hgv] at hgr
     cases hge:a.eval g<;>rw [hge] at hgr<;>cases hgr
     rename_i fs cs hfs hcs
     -- the block of deferred calls
     have hev1:=Xy hs.emb (.deferred (some [])) 0 .defd (.defd w.heap.size (Env.ext_same _ _ _ _) (by simp))
     have hs1:({ w with heap:=w.heap.push (.deferred (some []))}:World).heap.size=w.heap.size+1:=by simp
     have hbd:(E.ext s.h.next w.heap.size 0).blk s.h.next=some (w.heap.size,0):=Env.ext_same _ _ _ _
     have hfr1:(E.ext s.h.next w.heap.size 0).blk (s.h.next+1)=none:=hev1.emb.fresh _ (J2 _)
     have hle2:(E.ext s.h.next w.heap.size 0).le ((E.ext s.h.next w.heap.size 0).ext (s.h.next+1) (w.heap.size+1) 0):=Env.ext_le hfr1
     have hev2:=Xy hev1.emb (.loop ⟨.ready,none,fnr,a.tmps,ps,assign,body,w.heap.size⟩) 0 (.loop ⟨.ready,none,cx.fn,s.n,s.t,ps.toList,assign,body,s.h.next⟩)
      (.loop _ (w.heap.size+1) w.heap.size 0 fnr a.tmps (by rw [hs1];exact Env.ext_same _ _ _ _) (by rw [hs1];exact hle2.blk _ _ hbd) (by rw [Array.getElem?_push,if_pos (by simp)]) (by rw [hs1];exact hs.tmps.mono (hev1.le.trans hle2)))
     rw [hs1] at hev2
     have hbl:((E.ext s.h.next w.heap.size 0).ext (s.h.next+1) (w.heap.size+1) 0).blk (s.h.next+1)=some (w.heap.size+1,0):=Env.ext_same _ _ _ _
     refine ⟨w.heap.size+1,[⟨.collected w.heap.size, #[]⟩],{ w with heap:=(w.heap.push (.deferred (some []))).push (.loop ⟨.ready,none,fnr,a.tmps,ps,assign,body,w.heap.size⟩)},⟨.fn (.func gg) cs.toArray,fs.toArray++ #[.func (.yield (w.heap.size+1)) #[] #[]]⟩,{ w with heap:=(w.heap.push (.deferred (some []))).push (.loop ⟨.ready,none,fnr,a.tmps,ps,assign,body,w.heap.size⟩)},gg,fs.toArray++ #[.func (.yield (w.heap.size+1)) #[] #[]]++cs.toArray,{ w with heap:=(w.heap.push (.deferred (some []))).push (.loop ⟨.ready,none,fnr,a.tmps,ps,assign,body,w.heap.size⟩)}, ?_, ?_,fun _ _=>trivial, ?_,fun h=>(by cases h), ?_⟩
     ·show (Instr.enterLoop fnr a.tmps ps assign body none).run P w=_
      have e0:({ w with heap:=w.heap.push (.deferred (some []))}:World).heap.size=w.heap.size+1:=by simp
      simp only [Instr.enterLoop,J4,run_newObj,J3,Jd,e0]
     ·simp only [resolve,hge,Deferred.ofValue,Jd]
      have e2:(#[Operand.const (Value.func (Fn.yield (w.heap.size+1)) #[] #[])]:Array Operand).map a.eval= #[Value.func (Fn.yield (w.heap.size+1)) #[] #[]]:=by simp [Act.eval]
      rw [e2]
     ·simp_all [invoke,Vs]
     ·have hev12:=hev1.trans hev2
      have hyl:Zr ((E.ext s.h.next w.heap.size 0).ext (s.h.next+1) (w.heap.size+1) 0) (first++[.yield (s.h.next+1)]++cap) (fs++[.func (.yield (w.heap.size+1)) #[] #[]]++cs):=
       ((hfs.mono hev12.le).append (.cons _ _ _ _ (.yield _ _ _ hbl) .nil)).append (hcs.mono hev12.le)
      have hcall:=hcx.call _ _ _ _ hl _ _ _ hev2.emb hyl
      have e1:(fs++[Value.func (.yield (w.heap.size+1)) #[] #[]]++cs).toArray=fs.toArray++ #[Value.func (.yield (w.heap.size+1)) #[] #[]]++cs.toArray:=by simp
      rw [e1] at hcall
      refine Z2a (hcall.mono ?_)
      rintro e w3 ⟨E3,o,h3,hk,hv3,ho⟩
      have hv03:=hev.trans (hev12.trans hv3)
      have hdr:Vr E3 (.mark s.h.next::s.d) ([⟨.collected w.heap.size, #[]⟩]++a.defers):=.mark _ _ 0 _ _ (hv3.le.blk _ _ (hle2.blk _ _ hbd)) (hs.defs.mono (hev12.le.trans hv3.le))
      cases ho with
      | ret v r hvr=>
       simp only at hk
       split at hk
       ·rename_i l hgl
        have hB:=hv3.emb.own _ _ hgl
        cases hB with
        | loop l b3 d3 N3 fnr3 tm3 hb3 hd3 hw3 ht3=>
         have hbe:=hv3.le.blk _ _ hbl
         rw [hb3] at hbe
         injection hbe with hbe
         injection hbe with q1 q2
         subst q1
         have hnb:l.state≠.busy:=by grind
         have hk':(match l.pending with
           | none=>X .normal { s with h:=h3.del (s.h.next+1),d:=.mark s.h.next::s.d}
           | some .ret=>X .ret { s with h:=h3.del (s.h.next+1),d:=.mark s.h.next::s.d}
           | some (.exit id)=>X (.exit id) { s with h:=h3.del (s.h.next+1),d:=.mark s.h.next::s.d}
           | some (.goto t)=>X (.goto t) { s with h:=h3.del (s.h.next+1),d:=.mark s.h.next::s.d}
           | _=>False):=by
          cases hq:l.state<;>rw [hq] at hk<;>first|simp_all
         have hev3:=VS hv3.emb (s.h.next+1) (w.heap.size+1) d3 N3 l { l with state:=.exhausted} fnr3 tm3 hgl hb3 hd3 ht3 rfl rfl rfl rfl rfl rfl
         have hev4:=Z1e hev3.emb (s.h.next+1)
         have hev5:Evo E3 h3 w3 E3 (h3.del (s.h.next+1)) { w3 with heap:=w3.heap.setIfInBounds (w.heap.size+1) (.loop ⟨.exhausted,l.pending,fnr3,tm3,l.params.toArray,l.assign,l.body,d3⟩)}:=by
          refine (hev3.trans hev4).trans (Z1x hev4.emb rfl ?_)
          grind [Z7.get_del_same,Z7.get_del_other,Z7.get_set_other]
         refine ⟨l.pending,{ w3 with heap:=w3.heap.setIfInBounds (w.heap.size+1) (.loop ⟨.exhausted,l.pending,fnr3,tm3,l.params.toArray,l.assign,l.body,d3⟩)}, ?_, ?_⟩
         ·simp_all [Instr.endLoop,run_getLoop,run_setObj_loop]
         ·have hsr:WW E3 { s with h:=h3.del (s.h.next+1),d:=.mark s.h.next::s.d} { a with defers:=[⟨.collected w.heap.size, #[]⟩]++a.defers} { w3 with heap:=w3.heap.setIfInBounds (w.heap.size+1) (.loop ⟨.exhausted,l.pending,fnr3,tm3,l.params.toArray,l.assign,l.body,d3⟩)}:=
           ⟨hev5.emb,hs.tmps.mono (hev12.le.trans hv3.le),hdr⟩
          have hvv:=hv03.trans hev5
          cases hp:l.pending with
          | none=>rw [hp] at hk' hsr hvv;exact ⟨E3,.normal,_,hk',hvv,hsr,.normal⟩
          | some c=>
           rw [hp] at hk' hsr hvv
           cases c with
           | ret=>exact wpIn_ret ⟨E3,.ret,_,hk',hvv,hsr,.ret⟩
           | exit id=>exact wpIn_exit ⟨E3,.exit id,_,hk',hvv,hsr,.exit id⟩
           | goto t=>exact wpIn_goto ⟨E3,.goto t,_,hk',hvv,hsr,.goto t⟩
           | _=>exact hk'.elim
       simp_all
      | panic v r hvr=>
       exact ⟨E3,.panic v,_,hk,hv03,⟨hv3.emb,hs.tmps.mono (hev12.le.trans hv3.le),hdr⟩,.panic v r hvr⟩
    simp_all
   simp_all
  simp_all
abbrev Y2:=List AV->Z7->KO->Prop
abbrev ZeZ:=Ctx->List Oper->St->KE->Prop
structure Zh where
 P:Program
 draw:ZeZ
 psumm:FuncId->Option YJ
 fsumm:FuncId->Option Y2
 lsumm:FuncId->Nat->Option (Nat->St->KE->Prop)
 fuel:Nat
variable {G:Zh}
def Zaa (G:Zh) (f:FuncId) (k:Nat):Za6:=fun id=>match G.lsumm f id with|some S=>some (S k)|none=>none
def evC (G:Zh) (cx:Ctx) (k:Nat):Code->St->KE->Prop:=
 Xu cx G.P (match cx.inR with|none=>Zaa G cx.fn k|some _=>fun _=>none) G.fuel (G.draw cx) (Z6W cx G.P)
def Z7R (G:Zh) (mk:FuncId->Option Nat->Ctx) (f:FuncId) (args:List AV) (h:Z7) (K:KO):Prop:=
 match G.psumm f with
 | some S=>S args h fun v=>K (.ret v) h
 | none=>match G.fsumm f with
 | some S=>S args h K
 | none=>match G.P.funcs[f]? with
  | some fn=>match fn.body,Nat.ble args.length fn.ntmps with
   | some c,true=>evC G (mk f none) h.next c ⟨fn.ntmps,Z0I 0 args,h,[]⟩ fun e s=>match e with
    | .normal=>VR G.P (fun g c s X=>evC G (mk g none) s.h.next c s X) fn s s.d .none s.h K
    | .ret=>VR G.P (fun g c s X=>evC G (mk g none) s.h.next c s X) fn s s.d .none s.h K
    | .panic v=>VR G.P (fun g c s X=>evC G (mk g none) s.h.next c s X) fn s s.d (.pan v) s.h K
    | _=>False
   | _,_=>False
  | none=>False
def Z4B (G:Zh):Nat->FuncId->Option Nat->Ctx
 | 0,f,ro=>⟨fun _=>none,fun _ _ _ _=>False,fun _ _ _ _=>False,f,ro⟩
 | n+1,f,ro=>⟨G.psumm,fun g args h K=>Z7R G (Z4B G n) g args h K,fun x args h K=>Z6V (fun f' x' c s X=>evC G (Z4B G n f' (some x')) 0 c s X) x args h K,f,ro⟩
@[irreducible] def evF (G:Zh) (n:Nat) (f:FuncId) (args:List AV) (h:Z7) (K:KO):Prop:=Z7R G (Z4B G n) f args h K
structure Zh.Ok (G:Zh):Prop where
 draw:∀(cx:Ctx) (ro:Option Nat) (id:Nat) (ops:Array Oper) (s:St) (X:KE),cx.Ok G.P->(cx.inR=none->ro=none)->G.draw cx ops.toList s X->∀k,Yq G.P k ro (.region id ops true) s X
 psumm:∀f S args h K,G.psumm f=some S->S args h K->Zi G.P f args h fun o h'=>∃v,o=.ret v/\h'=h/\K v
 fsumm:∀f S args h K,G.fsumm f=some S->S args h K->Zi G.P f args h K
 lsumm:∀f id S fn c body,G.lsumm f id=some S->G.P.funcs[f]? =some fn->fn.body=some body->(id,c)∈Zt body->∀k s X,S k s X->Yq G.P k none c s X
theorem Z4C (hG:G.Ok) {k k':Nat} (hcx:cx.Ok G.P) (hro:cx.inR=none->ro=none) {c:Code}
  (hkk:cx.inR=none->k'=k) (hsub:cx.inR=none->∃fn body,G.P.funcs[cx.fn]? =some fn/\fn.body=some body/\∀b,b∈Zt c->b∈Zt body) {s:St} (h:evC G cx k c s X):Yq G.P k' ro c s X:=by
 unfold evC at h
 cases hin:cx.inR with
 | some x=>
  simp only [hin] at h
  exact (Z5k hcx hro (fun id ops s X hd=>hG.draw cx ro id ops s X hcx hro hd k') (fun g ps assign body s X hr=>Z3q hcx hro hr) (Zt c) (fun id S c' hS=>by simp at hS) c (fun _ hb=>hb)).1 s X h
 | none=>
  simp only [hin] at h
  obtain ⟨fn,body,hf,hb,hbl⟩:=hsub hin
  exact (Z5k hcx hro (fun id ops s X hd=>hG.draw cx ro id ops s X hcx hro hd k') (fun g ps assign body s X hr=>Z3q hcx hro hr) (Zt body)
   (fun id S c' hS hm s' X' hs'=>by
    unfold Zaa at hS
    split at hS
    ·rename_i S0 hS0
     cases hS
     have hk0:=hkk hin
     subst hk0
     have hr0:=hro hin
     subst hr0
     exact hG.lsumm cx.fn id S0 fn c' body hS0 hf hb hm _ s' X' hs'
    ·cases hS) c hbl).1 s X h
theorem Z5n (hG:G.Ok) {mk:FuncId->Option Nat->Ctx} (hmk:∀f ro,(mk f ro).Ok G.P/\(mk f ro).fn=f/\(mk f ro).inR=ro) {h:Z7} {K:KO} (hl:Z7R G mk f args h K):Zi G.P f args h K:=by
 unfold Z7R at hl
 split at hl
 ·rename_i S hS
  intro E w rs he ha
  refine (hG.psumm f S args h _ hS hl E w rs he ha).mono ?_
  grind
 split at hl
 ·rename_i S hS
  exact hG.fsumm f S args h K hS hl
 ·split at hl
  ·rename_i fn hf
   split at hl
   ·rename_i c hb hn
    intro E w rs he ha
    refine (callsIn_wide (n:=0)).1 ?_
    refine callsIn_of_wp_marks hf hb trivial ?_ rfl
    have hent:=Z3p (N:=fn.ntmps) ha (WS hn)
    have hcode:Yq G.P h.next none c _ _:=Z4C hG (hmk f none).1 (ro:=none) (fun _=>rfl) (fun _=>rfl) (fun _=>⟨fn,c,by rw [(hmk f none).2.1];exact hf,hb,fun _ hb=>hb⟩) hl
    have hdef:∀g gfn id ops rest,G.P.funcs[g]? =some gfn->gfn.body=some (.seq (.region id ops false) rest)->∀s X,evC G (mk g none) s.h.next rest s X->Yq G.P s.h.next none rest s X:=
     fun g gfn id ops rest hgf hgb s X hr=>Z4C hG (hmk g none).1 (fun _=>rfl) (fun _=>rfl) (fun _=>⟨gfn,_,by rw [(hmk g none).2.1];exact hgf,hgb,fun b hb=>by simp [Zt,hb]⟩) hr
    refine wpIn_mono (hcode E h w E { tmps:=rs.toArray++Array.replicate (fn.ntmps-rs.toArray.size) undef,defers:=[]} w 0 he.fresh ⟨he,hent,.nil⟩ (.refl he)) ?_
    rintro e a' w' ⟨E',x,s',hx,hev,hs',hxe⟩
    cases hxe with
    | normal=>exact Z09 (ev:=fun g c s X=>evC G (mk g none) s.h.next c s X) hdef s'.d a'.defers .none .returning s'.h E' w' hx hs'.emb hs'.tmps hev hs'.defs .none (by simp)
    | ret=>exact Z09 (ev:=fun g c s X=>evC G (mk g none) s.h.next c s X) hdef s'.d a'.defers .none .returning s'.h E' w' hx hs'.emb hs'.tmps hev hs'.defs .none (by simp)
    | panic v r hv=>exact Z09 (ev:=fun g c s X=>evC G (mk g none) s.h.next c s X) hdef s'.d a'.defers (.pan v) _ s'.h E' w' hx hs'.emb hs'.tmps hev hs'.defs (.pan v r hv) (by simp)
    | exit id=>simp_all
    | goto l=>simp_all
   simp_all
  simp_all
theorem Z1j {G:Zh} (hG:G.Ok):∀(n:Nat) (f:FuncId) (ro:Option Nat),(Z4B G n f ro).Ok G.P/\(Z4B G n f ro).fn=f/\(Z4B G n f ro).inR=ro
 | 0,f,ro=>⟨⟨fun _ _ _ _ _ h=>by simp [Z4B] at h,fun _ _ _ _ h=>h.elim,fun _ _ _ _ h=>h.elim⟩,rfl,rfl⟩
 | n+1,f,ro=>by
  refine ⟨⟨fun f' S args h K hS hs=>hG.psumm f' S args h K hS hs,fun g args h K hl=>Z5n hG (Z1j hG n) hl,fun x args h K hl=> ?_⟩,rfl,rfl⟩
  refine Z8X (ev:=fun f' x' c s X=>evC G (Z4B G n f' (some x')) 0 c s X) ?_ hl
  intro f' x' c s X hc E0 h0 w0 E a w m b N hs hev hb
  have hk:=Z1j hG n f' (some x')
  exact Z4C (k':=s.h.next) hG hk.1 (ro:=some b) (fun hq=>by rw [hk.2.2] at hq;cases hq) (fun hq=>by rw [hk.2.2] at hq;cases hq) (fun hq=>by rw [hk.2.2] at hq;cases hq) hc E0 h0 w0 E a w m (fun x hx=>by
   cases hq:E0.blk x with
   | none=>rfl
   | some r=>have:=hev.le.blk x r hq;rw [hs.emb.fresh x hx] at this;cases this) hs hev
theorem Z0a (hG:G.Ok) {n:Nat} {h:Z7} {K:KO} (hl:evF G n f args h K):Zi G.P f args h K:=by
 grind [evF,Z5n,Z1j]
def Zab:Op->Bool
 | .move _|.assign _|.pick .. |.build .. |.load .. |.nilCheck _|.binOp .. |.unOp .. |.convert .. |.makeInterface .. |.makeFunc .. |.slice .. |.fieldAddr .. |.field .. |.indexAddr .. |.index .. |.extract .. |.typeAssert ..
 | .lookup .. |.sliceToArrayPointer .. =>true
 | .call ⟨.builtin .len,_,_⟩=>true
 | _=>false
def Zdn (q:Nat):Op->Bool
 | .alloc _=>true
 | .buildSlice _ len _=>Nat.beq q 2&& !Nat.beq len 0
 | _=>false
def tmpsOf:List Operand->List Nat
 | []=>[]
 | .tmp x::r=>x::tmpsOf r
 | _::r=>tmpsOf r
def opT (o:Op):List Nat:=tmpsOf o.operands.toList
def WH (t:ZN):List Nat->ZN
 | []=>[]
 | x::r=>match ZC t x with|some v=>(x,v)::WH t r|none=>WH t r
theorem XA {t:ZN}:∀{xs:List Nat} {x:Nat} {v:AV},ZC (WH t xs) x=some v->ZC t x=some v/\x∈xs
 | [],_,_,h=>by simp [WH,ZC] at h
 | y::r,x,v,h=>by
  unfold WH at h
  split at h
  ·rename_i u hu
   simp only [ZC] at h
   split at h
   ·rename_i hb
    have:=J0 hb
    subst this
    cases h
    exact ⟨hu,Jq ..⟩
   ·have:=XA h
    exact ⟨this.1,Jf _ this.2⟩
  ·have:=XA h
   exact ⟨this.1,Jf _ this.2⟩
structure It where
 i:Nat
 o:Oper
 m:Nat
 q:Nat
def Zac (q:Nat):Op->Bool
 | .assign _=> !Nat.beq q 0
 | o=>Zab o
def Yp (it:It):Bool:=Zac it.q it.o.op
def ZM (it:It):Bool:=Zdn it.q it.o.op
def bsI (it:It):Bool:=match it.o.op with|.buildSlice .. =>ZM it|_=>false
def Xh (it:It):Bool:= !Yp it&& !ZM it
def UG:List Nat->Nat->Nat
 | [],_=>0
 | a::_,0=>a
 | _::r,n+1=>UG r n
def UQ (acc:List Nat):List Edge->Nat->Nat
 | [],s=>s
 | e::r,s=>match Region.binds .any e with
  | true=>UQ acc r (Nat.lor (Nat.lor s (2^e.on)) (UG acc e.on))
  | false=>UQ acc r s
def ZG (q:Nat):Nat->List Nat->List Oper->List It
 | _,_,[]=>[]
 | k,acc,o::r=>⟨k,o,UQ acc o.after.toList 0,q⟩::ZG q (k+1) (acc++[UQ acc o.after.toList 0]) r
def Z3r (all:List Oper) (g:Option (Nat×Bool)):List Nat:=
 match g with
 | none=>[]
 | some (j,_)=>match Z0G all j with|some d=>[d]|none=>[]
def W3 (all:List Oper) (o:Oper):List Nat:=Z3r all o.guard++opT o.op
def Z8Y (x:Nat):List Nat->Bool
 | []=>false
 | y::r=>match Nat.beq x y with|true=>true|false=>Z8Y x r
theorem VT (x:Nat):∀l:List Nat,Z8Y x l=true↔x∈l
 | []=>by simp [Z8Y]
 | y::r=>by
  unfold Z8Y
  split
  ·rename_i h;simp [J0 h]
  ·rename_i h
   have hne:x≠y:=fun e=>by subst e;rw [Jg] at h;cases h
   simp [VT x r,hne]
def Z0J (all:List Oper) (a b:It):Bool:=match a.o.dst with|some x=>Z8Y x (W3 all b.o)|none=>false
def Z4D (a b:It):Bool:=match a.o.dst,b.o.dst with|some x,some y=>Nat.beq x y|_,_=>false
def Z6X (f:It->Bool):List It->Bool
 | []=>false
 | a::r=>match f a with|true=>true|false=>Z6X f r
def Q6 (f:It->Bool):List It->Bool
 | []=>true
 | a::r=>match f a with|true=>Q6 f r|false=>false
theorem QE (f:It->Bool):∀l,Z6X f l=true↔∃a∈l,f a=true
 | []=>by simp [Z6X]
 | a::r=>by
  unfold Z6X
  split
  ·rename_i h;simp [h]
  ·rename_i h;simp [h,QE f r]
theorem YB (f:It->Bool):∀l,Q6 f l=true↔∀a∈l,f a=true
 | []=>by simp [Q6]
 | a::r=>by
  unfold Q6
  split
  ·rename_i h;simp [h,YB f r]
  ·rename_i h;simp [h]
def Zdo (all:List Oper) (its:List It) (a b:It):Bool:=
 Nat.beq a.i b.i||(!Z4D a b&&(!Z0J all a b||b.m.testBit a.i||(a.m.testBit b.i&&(Xh a||(Yp a&&Z6X (fun e=>Xh e&&e.m.testBit b.i&&a.m.testBit e.i) its)))))
def Z2c (it:It):Bool:=it.o.after.toList.all fun e=> !Region.binds .any e||Nat.blt e.on it.i
def Z6Y (P:Program) (all:List Oper) (its:List It) (a:It):Bool:=
 Z2c a&&(Xh a|| !Z0J all a a)&&
 (match a.o.guard with|none=>true|some (j,_)=>a.m.testBit j&&(Z0G all j).isSome)&&
 (match ZM a with
  | true=>a.o.guard.isNone&&a.o.dst.isSome&&(match a.o.op with|.alloc T=>(Qt P T).isSome|_=>true)&&Q6 (fun p=> !Z0J all p a||a.m.testBit p.i) its
  | false=>true)&&
 (!(Yp a||bsI a)||Q6 (fun p=> !ZM p|| !a.m.testBit p.i||Z6X (fun e=>Xh e&&e.m.testBit p.i&&a.m.testBit e.i) its) its)
def Zf0 (P:Program) (all:List Oper) (its:List It):Bool:=Q6 (fun a=>Z6Y P all its a&&Q6 (Zdo all its a) its) its
def Us (P:Program) (all:List Oper):List It->List It->Nat->List (It×AV)->St->(List It->Nat->List (It×AV)->St->Prop)->Prop
 | [],kept,D,pend,s,K=>K kept D pend s
 | it::r,kept,D,pend,s,K=>
  match Yp it&&Nat.beq (Nat.land it.m D) it.m with
  | true=>Q5 all it.o.guard s
    (fun s'=>opQ P it.o.op (WH s'.t (opT it.o.op)) s'.h fun v=>VE s' it.o.dst v fun s2=>Us P all r kept (Nat.lor D (2^it.i)) ((it,v)::pend) s2 K)
    (fun s'=>VE s' it.o.dst (.tuple []) fun s2=>Us P all r kept (Nat.lor D (2^it.i)) pend s2 K)
  | false=>Us P all r (kept++[it]) D pend s K
mutual
/-- One value is the other. -/
def Yr:AV->AV->Prop->Prop
 | .top,v,Z=>match v with|.top=>Z|_=>False
 | .bool b,v,Z=>match v with|.bool a=>Z5 (a=b) Z|_=>False
 | .int k b,v,Z=>match v with
  | .int k' a=>match decide (k'=k) with|true=>Z5 (a=b) Z|false=>False
  | _=>False
 | .str b,v,Z=>match v with|.str a=>a=b/\Z|_=>False
 | .ptr none,v,Z=>match v with|.ptr none=>Z|_=>False
 | .ptr (some q),v,Z=>match v with
  | .ptr (some p)=>Z5 (p.blk=q.blk) (Z5 (p.row=q.row) (Z5 (p.sz=q.sz) (Z5 (p.off=q.off) (Z5 (p.inn=q.inn) Z))))
  | _=>False
 | .nslice q esz len lo,v,Z=>match v with
  | .nslice p esz' len' lo'=>Z5 (p.blk=q.blk) (Z5 (p.row=q.row) (Z5 (p.sz=q.sz) (Z5 (p.off=q.off) (Z5 (p.inn=q.inn) (Z5 (esz'=esz) (Z5 (len'=len) (Z5 (lo'=lo) Z)))))))
  | _=>False
 | .vints k xs len,v,Z=>match v with
  | .vints k' xs' len'=>match decide (k'=k) with|true=>xs'=xs/\Z5 (len'=len) Z|false=>False
  | _=>False
 | .vrows esz n f len,v,Z=>match v with
  | .vrows esz' n' f' len'=>Z5 (esz'=esz) (Z5 (n'=n) (f'=f/\Z5 (len'=len) Z))
  | _=>False
 | .eslice,v,Z=>match v with|.eslice=>Z|_=>False
 | .fslice,v,Z=>match v with|.fslice=>Z|_=>False
 | .nilslice,v,Z=>match v with|.nilslice=>Z|_=>False
 | .map none,v,Z=>match v with|.map none=>Z|_=>False
 | .map (some y),v,Z=>match v with|.map (some x)=>Z5 (x=y) Z|_=>False
 | .yield y,v,Z=>match v with|.yield x=>Z5 (x=y) Z|_=>False
 | .nilFunc,v,Z=>match v with|.nilFunc=>Z|_=>False
 | .nilIface,v,Z=>match v with|.nilIface=>Z|_=>False
 | .arr k n xs,v,Z=>match v with
  | .arr k' n' xs'=>match decide (k'=k)&&Nat.beq n' n with|true=>xs'=xs/\Z|false=>False
  | _=>False
 | .pview cs inn,v,Z=>match v with|.pview cs' inn'=>QF cs cs' (Z5 (inn'=inn) Z)|_=>False
 | .func (.func g) fs cs,v,Z=>match v with
  | .func (.func g') fs' cs'=>match Nat.beq g' g with|true=>QF fs fs' (QF cs cs' Z)|false=>False
  | _=>False
 | .func a b c,v,Z=>v=.func a b c/\Z
 | .iface t u,v,Z=>match v with
  | .iface t' u'=>match Nat.beq t' t with|true=>Yr u u' Z|false=>False
  | _=>False
 | .agg cs,v,Z=>match v with|.agg cs'=>QF cs cs' Z|_=>False
 | .tuple cs,v,Z=>match v with|.tuple cs'=>QF cs cs' Z|_=>False
 | .stamp y,v,Z=>match v with|.stamp x=>Z5 (x=y) Z|_=>False
def QF:List AV->List AV->Prop->Prop
 | [],l,Z=>match l with|[]=>Z|_::_=>False
 | v::r,l,Z=>match l with|v'::r'=>Yr v v' (QF r r' Z)|[]=>False
end
set_option maxHeartbeats 1000000 in
mutual
theorem Z2d:∀(v₂ v:AV) (Z:Prop),Yr v₂ v Z->v=v₂/\Z
 | .top,v,Z,h=>by unfold Yr at h;split at h<;>first|exact ⟨rfl,h⟩|simp_all
 | .bool b,v,Z,h=>by
  unfold Yr at h
  grind [Zf]
 | .int k b,v,Z,h=>by
  unfold Yr at h
  split at h
  ·split at h
   ·rename_i hk
    have hk:=of_decide_eq_true hk
    grind [Zf]
   simp_all
  simp_all
 | .str b,v,Z,h=>by
  unfold Yr at h
  grind
 | .ptr none,v,Z,h=>by unfold Yr at h;split at h<;>first|exact ⟨rfl,h⟩|simp_all
 | .ptr (some q),v,Z,h=>by
  unfold Yr at h
  split at h
  ·rename_i p
   obtain ⟨p1,p2,p3,p4,p5⟩:=p
   obtain ⟨q1,q2,q3,q4,q5⟩:=q
   replace h:=Zf h;grind [Zf]
  simp_all
 | .nslice q esz len lo,v,Z,h=>by
  unfold Yr at h
  split at h
  ·rename_i p _ _ _
   obtain ⟨p1,p2,p3,p4,p5⟩:=p
   obtain ⟨q1,q2,q3,q4,q5⟩:=q
   grind [Zf]
  simp_all
 | .vints k xs len,v,Z,h=>by
  unfold Yr at h
  split at h
  ·split at h
   ·grind [Zf]
   simp_all
  simp_all
 | .vrows esz n f len,v,Z,h=>by
  unfold Yr at h
  grind [Zf]
 | .eslice,v,Z,h=>by unfold Yr at h;split at h<;>first|simp_all
 | .fslice,v,Z,h=>by unfold Yr at h;split at h<;>first|simp_all
 | .nilslice,v,Z,h=>by unfold Yr at h;split at h<;>first|simp_all
 | .map none,v,Z,h=>by unfold Yr at h;split at h<;>first|simp_all
 | .map (some y),v,Z,h=>by
  unfold Yr at h
  grind [Zf]
 | .yield y,v,Z,h=>by
  unfold Yr at h
  grind [Zf]
 | .stamp y,v,Z,h=>by
  unfold Yr at h
  grind [Zf]
 | .nilFunc,v,Z,h=>by unfold Yr at h;split at h<;>first|simp_all
 | .nilIface,v,Z,h=>by unfold Yr at h;split at h<;>first|simp_all
 | .arr k n xs,v,Z,h=>by
  unfold Yr at h
  split at h
  ·split at h
   all_goals simp_all
  simp_all
 | .pview cs inn,v,Z,h=>by
  unfold Yr at h
  split at h
  ·replace h:=V6 cs _ _ h;obtain ⟨e,h⟩:=h
   subst e
   replace h:=Zf h;obtain ⟨rfl,h⟩:=h;exact ⟨rfl,h⟩
  ·exact h.elim
 | .func (.func g) fs cs,v,Z,h=>by
  unfold Yr at h
  split at h
  ·split at h
   ·rename_i hb
    have:=J0 hb
    subst this
    replace h:=V6 fs _ _ h;obtain ⟨e,h⟩:=h
    subst e
    replace h:=V6 cs _ _ h;obtain ⟨e,h⟩:=h
    subst e
    exact ⟨rfl,h⟩
   ·exact h.elim
  ·exact h.elim
 | .func (.method _) _ _,v,Z,h=>by exact h
 | .func (.methodOf _ _) _ _,v,Z,h=>by exact h
 | .func (.via _ _ _ _) _ _,v,Z,h=>by exact h
 | .func (.yield _) _ _,v,Z,h=>by exact h
 | .iface t u,v,Z,h=>by
  unfold Yr at h
  split at h
  ·split at h
   ·rename_i hb
    have:=J0 hb
    subst this
    replace h:=Z2d u _ _ h;obtain ⟨e,h⟩:=h
    subst e
    exact ⟨rfl,h⟩
   ·exact h.elim
  ·exact h.elim
 | .agg cs,v,Z,h=>by
  unfold Yr at h
  split at h
  ·replace h:=V6 cs _ _ h;obtain ⟨e,h⟩:=h
   subst e
   exact ⟨rfl,h⟩
  ·exact h.elim
 | .tuple cs,v,Z,h=>by
  unfold Yr at h
  split at h
  ·replace h:=V6 cs _ _ h;obtain ⟨e,h⟩:=h
   subst e
   exact ⟨rfl,h⟩
  ·exact h.elim
theorem V6:∀(l₂ l:List AV) (Z:Prop),QF l₂ l Z->l=l₂/\Z
 | [],l,Z,h=>by unfold QF at h;split at h<;>first|simp_all
 | v::r,l,Z,h=>by
  unfold QF at h
  split at h
  ·replace h:=Z2d v _ _ h;obtain ⟨e,h⟩:=h
   subst e
   replace h:=V6 r _ _ h;obtain ⟨e,h⟩:=h
   subst e
   exact ⟨rfl,h⟩
  ·exact h.elim
end
def V7 (P:Program) (t:ZN) (h:Z7) (K:Prop):List (It×AV)->Prop
 | []=>K
 | (it,v)::r=>match worldless it.o.op with
  | true=>V7 P t h K r
  | false=>opQ P it.o.op (WH t (opT it.o.op)) h fun v'=>Yr v v' (V7 P t h K r)
def Z3s (P:Program) (h:Z7) (o:Op) (t:ZN) (K:AV->Z7->Prop):Prop:=
 match o with
 | .alloc T=>Z1H P h T K
 | .buildSlice T len ps=>XN P h T len (Z9Q t ps.toList) K
 | _=>False
def Z2e (P:Program) (D:Nat) (s:St) (K:Prop):List It->Prop
 | []=>K
 | it::r=>match bsI it&&Nat.beq (Nat.land it.m D) it.m with
  | true=>Z3s P s.h it.o.op (WH s.t (opT it.o.op)) fun _ _=>Z2e P D s K r
  | false=>Z2e P D s K r
def Z0b (P:Program) (m:Nat) (pd:List (It×AV)):List It->List It->Nat->St->(List It->Nat->St->Prop)->Prop
 | [],kept,D,s,K=>K kept D s
 | it::r,kept,D,s,K=>
  match ZM it&&m.testBit it.i with
  | true=>Z3s P s.h it.o.op (WH s.t (opT it.o.op)) fun v h'=>VE { s with h:=h'} it.o.dst v fun s2=>V7 P s2.t s2.h (Z0b P m pd r kept (Nat.lor D (2^it.i)) s2 K) pd
  | false=>Z0b P m pd r (kept++[it]) D s K
def Wv:List It->Option It
 | []=>none
 | it::r=>match Xh it with|true=>some it|false=>Wv r
def V8 (i:Nat):List It->List It
 | []=>[]
 | it::r=>match Nat.beq it.i i with|true=>V8 i r|false=>it::V8 i r
def V9 (m:Nat):List (It×AV)->List (It×AV)
 | []=>[]
 | (it,v)::r=>match m.testBit it.i with|true=>V9 m r|false=>(it,v)::V9 m r
def Z2f (t:ZN):List It->ZN
 | []=>t
 | it::r=>match it.o.dst with|some x=>Z31 (Z2f t r) x|none=>Z2f t r
def Zdp:List It->Nat
 | []=>0
 | it::r=>Nat.lor (2^it.i) (Zdp r)
def QG (m:Nat):List It->Bool
 | []=>false
 | it::r=>(Xh it&&m.testBit it.i)||QG m r
def Z3t (rem:List It) (it:It):Bool:=Xh it&& !QG it.m rem
def Z1k (rem:List It):List It->Bool
 | []=>false
 | it::r=>Z3t rem it||Z1k rem r
def Z2g (f:It->Prop) (rem:List It):List It->Prop
 | []=>True
 | it::r=>match Z3t rem it with
  | true=>(match Z1k rem r with|true=>f it/\Z2g f rem r|false=>f it)
  | false=>Z2g f rem r
theorem Z0K {rem:List It} {it:It}:∀{l:List It},it∈l->Z3t rem it=true->Z1k rem l=true
 | x::r,hm,hc=>by
  unfold Z1k
  cases hm with
  | head=>rw [hc];rfl
  | tail _ h=>rw [Z0K h hc];simp
theorem Q7 {f:It->Prop} {rem:List It} {it:It}:∀{l:List It},Z2g f rem l->it∈l->Z3t rem it=true->f it
 | x::r,h,hm,hc=>by
  unfold Z2g at h
  split at h
  ·split at h
   ·cases hm with
    | head=>exact h.1
    | tail _ hm=>exact Q7 h.2 hm hc
   ·rename_i ha
    cases hm with
    | head=>exact h
    | tail _ hm=>rw [Z0K hm hc] at ha;cases ha
  ·rename_i hx
   cases hm with
   | head=>rw [hc] at hx;cases hx
   | tail _ hm=>exact Q7 h hm hc
theorem VU {m:Nat}:∀{l:List It},(∀q∈l,Xh q=true->m.testBit q.i=false)->QG m l=false
 | [],_=>rfl
 | x::r,h=>by
  unfold QG
  rw [VU fun q hq=>h q (Jf _ hq),Bool.or_false]
  simp_all
def Vu (cx:Ctx) (P:Program) (all:List Oper) (its:List It) (next:List It->Nat->List (It×AV)->St->KE->Prop) (rem:List It) (D:Nat) (pend:List (It×AV)) (s:St) (X:KE):Prop:=
 match Q6 (fun it=> !Yp it|| !Nat.beq (Nat.land it.m D) it.m) rem with
 | false=>False
 | true=>Z2e P D s (match Wv rem with
  | none=>Z0b P (Zdp its) [] rem [] D s fun _ _ s=>X .normal s
  | some _=>Z2g (fun e=>Z0b P e.m (V9 e.m pend) rem [] D s fun rem D s=>match Nat.beq (Nat.land e.m D) e.m with
    | false=>False
    | true=>Q5 all e.o.guard s
     (fun s2=>match Z6S cx P e.o.op (WH s2.t (opT e.o.op)) with
      | some (S,args)=>S args s2.h fun v=>VE s2 e.o.dst v fun s3=>next (V8 e.i rem) (Nat.lor D (2^e.i)) (V9 e.m pend) s3 X
      | none=>Z29 cx P e.o.op (WH s2.t (opT e.o.op)) s2.h s2.d
       (fun v h' d'=>VE ⟨s2.n,s2.t,h',d'⟩ e.o.dst v fun s3=>V7 P s3.t s3.h (next (V8 e.i rem) (Nat.lor D (2^e.i)) (V9 e.m pend) s3 X) (V9 e.m pend))
       (fun v h'=>X (.panic v) ⟨s2.n,Z2f s2.t its,h',s2.d⟩))
     (fun s2=>VE s2 e.o.dst (.tuple []) fun s3=>next (V8 e.i rem) (Nat.lor D (2^e.i)) (V9 e.m pend) s3 X)) rem rem) rem
def Z0c (cx:Ctx) (P:Program) (all:List Oper) (its:List It):Nat->List It->Nat->List (It×AV)->St->KE->Prop
 | 0,_,_,_,_,_=>False
 | n+1,rem,D,pend,s,X=>Us P all rem [] D pend s fun rem D pend s=>Vu cx P all its (Z0c cx P all its n) rem D pend s X
def Ww (t:ZN):List It->ZN
 | []=>t
 | it::r=>match ZM it,it.o.dst with|true,some x=>Z31 (Ww t r) x|_,_=>Ww t r
structure Wx where
 i:Nat
 c:Int
 y:Nat
structure SpD where
 i:Nat
 x:Nat
 T:TypeId
 k:IntKind
 js:List Wx
def isSp:Op->Bool
 | .makeMap _ none=>true
 | .insert .. =>true
 | _=>false
def WI:List It->List It
 | []=>[]
 | it::r=>match isSp it.o.op with|true=>WI r|false=>it::WI r
def spK:List It->Option (TypeId×IntKind)
 | []=>none
 | it::r=>match it.o.op with
  | .insert T _ (.const (.int k _)) _=>some (T,k)
  | _=>spK r
def Ze2:List It->List Wx
 | []=>[]
 | it::r=>match it.o.op with
  | .insert _ _ (.const (.int _ c)) (.tmp y)=>⟨it.i,c,y⟩::Ze2 r
  | _=>Ze2 r
def spM:List It->Option (Nat×Nat)
 | []=>none
 | it::r=>match it.o.op,it.o.dst with
  | .makeMap _ none,some x=>some (it.i,x)
  | _,_=>spM r
def Zg1 (its:List It):Option SpD:=
 match spM its,spK its with
 | some (i,x),some (T,k)=>some ⟨i,x,T,k,Ze2 its⟩
 | _,_=>none
def Zad (f:Wx->Bool):List Wx->Bool
 | []=>false
 | a::r=>match f a with|true=>true|false=>Zad f r
def Z5o (f:Wx->Bool):List Wx->Bool
 | []=>true
 | a::r=>match f a with|true=>Z5o f r|false=>false
theorem Z5p (f:Wx->Bool):∀l,Zad f l=true↔∃a∈l,f a=true
 | []=>by simp [Zad]
 | a::r=>by
  unfold Zad
  split
  ·rename_i h;simp [h]
  ·rename_i h;simp [h,Z5p f r]
theorem VV (f:Wx->Bool):∀l,Z5o f l=true↔∀a∈l,f a=true
 | []=>by simp [Z5o]
 | a::r=>by
  unfold Z5o
  split
  ·rename_i h;simp [h,VV f r]
  ·rename_i h;simp [h]
def Q8:List Wx->Bool
 | []=>true
 | a::r=>Z5o (fun b=> !Nat.beq a.i b.i&& !decide (a.c=b.c)) r&&Q8 r
def Z3u (it:It) (x:Nat):Bool:=match it.o.dst with|some y=>Nat.beq y x|none=>false
def Z5q (d:SpD) (it:It):Bool:=
 Z2c it&&it.o.guard.isNone&&match it.o.op with
 | .makeMap _ none=>Nat.beq it.i d.i&&Z3u it d.x
 | .insert T (.tmp m) (.const (.int k c)) (.tmp y)=>it.o.dst.isNone&&Nat.beq T d.T&&Nat.beq m d.x&&decide (k=d.k)&&Zad (fun j=>Nat.beq j.i it.i&&decide (j.c=c)&&Nat.beq j.y y) d.js
 | _=>false
def Zae (all:List Oper) (d:SpD) (it:It):Bool:=
 !Nat.beq it.i d.i&& !it.m.testBit d.i&& !Z3u it d.x&& !Z8Y d.x (W3 all it.o)&&Z5o (fun j=> !Nat.beq it.i j.i&& !it.m.testBit j.i) d.js
def jOk (d:SpD) (its0 its:List It) (j:Wx):Bool:=
 !Nat.beq j.i d.i&& !Nat.beq j.y d.x&&Z6X (fun it=>Nat.beq it.i j.i&&it.m.testBit d.i&&Q6 (fun p=> !Z3u p j.y||it.m.testBit p.i) its) its0
def Z0X (it:It):Bool:=
 Z2c it&&it.o.guard.isNone&&Nat.beq (it.m+1) (2^it.i)&&match it.o.op with|.move _=>true|.assign _=>true|_=>false
def spB (P:Program) (all:List Oper) (its0 its:List It) (d:SpD):Bool:=
 (VO P d.T).isSome&&Q8 d.js&&Z5o (jOk d its0 its) d.js&&Q6 (fun it=>match isSp it.o.op with|true=>Z5q d it|false=>Zae all d it||Z0X it) its0&&Q6 (Zae all d) its
def Zf1 (P:Program) (all:List Oper) (its0 its:List It):Option SpD->Bool
 | none=>true
 | some d=>spB P all its0 its d
def Z7S (t:ZN) (k:IntKind) (js:List Wx) (K:List (AV×AV)->Prop):Prop:=
 match js with
 | []=>K []
 | j::r=>match ZC t j.y with
  | some v=>Z7S t k r fun es=>K ((.int k j.c,v)::es)
  | none=>False
def Zaf (sp:Option SpD) (s:St) (K:St->Prop):Prop:=
 match sp with
 | none=>K s
 | some d=>Z7S s.t d.k d.js fun es=>VE { s with h:=s.h.add (.pmap es)} (some d.x) (.map (some s.h.next)) K
def spX (sp:Option SpD) (X:KE):KE:=fun e s=>match e with
 | .normal=>Zaf sp s fun s=>X .normal s
 | e=>X e s
def Z5r (sp:Option SpD) (t:ZN):ZN:=match sp with|none=>t|some d=>Z31 t d.x
def Ze3 (sp:Option SpD) (n m:Nat):Bool:=match sp with|none=>true|some d=>Nat.blt d.x n&&Nat.blt d.i m&&Z5o (fun j=>Nat.blt j.i m) d.js
def W4:List It->List It
 | []=>[]
 | it::r=>match W4 r with
  | []=>(match Z0X it with|true=>[]|false=>[it])
  | a::m=>it::a::m
def VW:List It->List It
 | []=>[]
 | it::r=>match W4 r with
  | []=>(match Z0X it with|true=>it::VW r|false=>VW r)
  | _::_=>VW r
def tailA (P:Program):List It->St->(St->Prop)->Prop
 | [],s,K=>K s
 | it::r,s,K=>opQ P it.o.op s.t s.h fun v=>VE s it.o.dst v fun s2=>tailA P r s2 K
def tlX (P:Program) (T:List It) (X:KE):KE:=fun e s=>match e with
 | .normal=>tailA P T s fun s=>X .normal s
 | e=>X e s
def Z7T (cx:Ctx) (P:Program) (all:List Oper) (its0 its:List It) (sp:Option SpD) (T:List It) (n0:Nat) (s:St) (X:KE) (Z:Prop):Prop:=
 match P.follows .mixedOrders&&Zf0 P all its&&Zf1 P all its0 its sp&&Ze3 sp s.n n0&&Q6 (fun a=>Nat.blt a.i n0) its&&Q6 Z0X T&&Q6 (fun it=> !ZM it||(match it.o.dst with|some x=>Nat.blt x s.n|none=>true)) its with
 | true=>Z0c cx P all its (all.length+1) its 0 [] { s with t:=Z5r sp (Ww s.t its)} (spX sp (tlX P T X))
 | false=>Z
def Zdq:List Oper->Bool
 | []=>false
 | o::r=>match o.op with|.insert .. =>true|_=>Zdq r
def Zag (P:Program) (cx:Ctx) (all:List Oper) (its:List It) (s:St) (X:KE) (Z:Prop):Prop:=Z7T cx P all its its none [] all.length s X Z
def Zdr (P:Program) (cx:Ctx) (all:List Oper) (its:List It) (s:St) (X:KE):Prop:=
 match Zg1 its with
 | some d=>Z7T cx P all its (WI (W4 its)) (some d) (VW its) (W4 its).length s X False
 | none=>False
def Zah (P:Program) (cx:Ctx) (all:List Oper) (s:St) (X:KE):Prop:=
 match Zdq all with
 | true=>Zdr P cx all (ZG 2 0 [] all) s X
 | false=>Zag P cx all (ZG 1 0 [] all) s X (Zag P cx all (ZG 0 0 [] all) s X False)
theorem Ut {acc:List Nat}:∀{es:List Edge} {s p:Nat},(UQ acc es s).testBit p=true->s.testBit p=true\/∃e∈es,Region.binds .any e=true/\(p=e.on\/(UG acc e.on).testBit p=true)
 | [],s,p,h=>.inl h
 | e::r,s,p,h=>by
  unfold UQ at h
  split at h
  ·rcases Ut h with h1|⟨e',he,h2⟩
   ·have h1':(s|||2^e.on|||UG acc e.on).testBit p=true:=h1
    grind
   grind
  simp_all [Ut]
theorem X9 {qm:Nat}:∀{r:List Oper} {k:Nat} {acc:List Nat} {j:Nat} {it:It},(ZG qm k acc r)[j]? =some it->it.i=k+j/\r[j]? =some it.o
 | [],_,_,j,it,h=>by simp [ZG] at h
 | o::r,k,acc,0,it,h=>by simp [ZG] at h;grind
 | o::r,k,acc,j+1,it,h=>by
  simp only [ZG] at h
  have:=X9 h
  exact ⟨by omega,by simpa using this.2⟩
theorem XB {qm:Nat}:∀{r:List Oper} {k:Nat} {acc:List Nat},(ZG qm k acc r).length=r.length
 | [],_,_=>rfl
 | o::r,k,acc=>by simp [ZG,XB]
theorem Z3v {acc:List Nat} {m j:Nat}:UG (acc++[m]) j=if j=acc.length then m else UG acc j:=by
 induction acc generalizing j with
 | nil=>cases j<;>simp [UG]
 | cons a r ih=>
  cases j with
  | zero=>simp [UG]
  | succ j=>simp [UG,ih]
theorem Vv {qm:Nat} {L:Nat->Prop} {all:List Oper} (hdown:∀i o e,all[i]? =some o->L i->e∈o.after.toList->Region.binds .any e=true->L e.on):
  ∀{r:List Oper} {k:Nat} {acc:List Nat},acc.length=k->(∀j,r[j]? =all[k+j]?)->(∀j p,j<k->L j->(UG acc j).testBit p=true->L p)->
   (∀j,k<=j->UG acc j=0)->∀it∈ZG qm k acc r,L it.i->∀p,it.m.testBit p=true->L p
 | [],_,_,_,_,_,_,it,h,_,_,_=>by simp [ZG] at h
 | o::r,k,acc,hk,hr,hacc,hz,it,h,hL,p,hp=>by
  have h0:all[k]? =some o:=by have:=hr 0;simp_all
  have hself:L k->∀p,(UQ acc o.after.toList 0).testBit p=true->L p:=fun hk' p hp=>by
   rcases Ut hp with h1|⟨e,he,hb,h2⟩
   all_goals grind
  simp only [ZG,J6] at h
  rcases h with rfl|h
  ·simp_all
  ·refine Vv hdown (k:=k+1) (acc:=acc++[UQ acc o.after.toList 0]) (by simp [hk]) (fun j=> ?_) ?_ ?_ it h hL p hp
   ·have:=hr (j+1)
    rw [show k+1+j=k+(j+1) from by omega,<-this]
    simp
   all_goals grind [Z3v]
def Wb (all:List Oper) (t:ZN) (g:Option (Nat×Bool)):Option Bool:=
 match g with
 | none=>some true
 | some (j,want)=>match Z0G all j with
  | none=>none
  | some d=>match ZC t d with
   | some (.bool b)=>some (b==want)
   | some (.tuple [])=>some false
   | _=>none
theorem Z0L {all:List Oper} {s:St} {run skip:St->Prop} (h:Q5 all g s run skip):
  ∃s',(∀x,ZC s'.t x=ZC s.t x)/\s'.h=s.h/\s'.n=s.n/\s'.d=s.d/\((Wb all s.t g=some true/\run s')\/(Wb all s.t g=some false/\skip s')):=by
 unfold Q5 at h
 split at h
 ·exact ⟨s,fun _=>rfl,rfl,rfl,rfl,.inl ⟨rfl,h⟩⟩
 ·rename_i j want
  split at h
  ·simp_all
  ·rename_i d hd
   split at h
   ·rename_i b hb
    have key:∀c,b=c->∀x,ZC (VH s.t d (.bool c)) x=ZC s.t x:=fun c hc x=>by
     grind [YT,YL]
    cases b with
    | true=>
     refine ⟨{ s with t:=VH s.t d (.bool true)},key true rfl,rfl,rfl,rfl, ?_⟩
     cases want with
     | true=>exact .inl ⟨by simp [Wb,hd,hb],h⟩
     | false=>exact .inr ⟨by simp [Wb,hd,hb],h⟩
    | false=>
     refine ⟨{ s with t:=VH s.t d (.bool false)},key false rfl,rfl,rfl,rfl, ?_⟩
     cases want with
     | true=>exact .inr ⟨by simp [Wb,hd,hb],h⟩
     | false=>exact .inl ⟨by simp [Wb,hd,hb],h⟩
   all_goals grind [Wb]
theorem Uu {all:List Oper} {o:Oper} {t:ZN} {c:Bool} (h:Wb all t o.guard=some c) {a:Act}
  (hrel:∀x∈Z3r all o.guard,∀v,ZC t x=some v->Zb E v (a.tmps.getD x undef)):Region.wanted o (yielded all.toArray a.tmps)=c:=by
 unfold Wb at h
 split at h
 ·simp_all [Region.wanted]
 ·rename_i j want hg
  split at h
  ·cases h
  ·rename_i d hd
   have hdst:(all.toArray[j]?).bind (·.dst)=some d:=by
    unfold Z0G at hd
    grind
   have hmem:d∈Z3r all o.guard:=by simp [Z3r,hg,hd]
   split at h
   ·rename_i b hb
    have hv:=hrel d hmem _ hb
    have hreal:a.tmps[d]? =some (.bool b):=by
     rw [Jp] at hv
     cases hq:a.tmps[d]? with
     | none=>rw [hq] at hv;cases hv
     | some r=>rw [hq] at hv;cases hv;rfl
    simp_all [yielded,Region.wanted]
   ·rename_i hb
    cases h
    have hv:=hrel d hmem _ hb
    have hy:yielded all.toArray a.tmps j=none:=by
     unfold yielded
     rw [hdst]
     rw [Jp] at hv
     cases hq:a.tmps[d]? with
     | none=>simp [hq]
     | some r=>
      rw [hq] at hv
      cases hv with
      | tuple vs rs hl=>simp [hq]
    simp [Region.wanted,hg,hy]
   ·cases h
def Z0d (P:Program) (it:It) (t:ZN) (h:Z7) (v:AV):Prop:=
 ∀(E:Env) (w:World) (a:Act),(worldless it.o.op=false->Emb E h w)->(∀x∈opT it.o.op,∀u,ZC t x=some u->Zb E u (a.tmps.getD x undef))->∃r,(execOp a.eval it.o).run P w=.ok (.value r) w/\Zb E v r
theorem Z7U {P:Program} {it:It} {t:ZN} {h:Z7} (hl:opQ P it.o.op (WH t (opT it.o.op)) h K):∃v,K v/\Z0d P it t h v:=by
 obtain ⟨v,hK,hv⟩:=Z6R hl
 refine ⟨v,hK,fun E w a he hx=>hv E w a.tmps.size a he ⟨rfl,fun x u hu=> ?_⟩⟩
 have:=XA hu
 simp_all
theorem Z0d.congr {P:Program} {it:It} {t:ZN} {h:Z7} {v:AV} (hs:Z0d P it t h v) (ht:∀x∈opT it.o.op,ZC t' x=ZC t x):Z0d P it t' h v:=
 fun E w a he hx=>hs E w a he fun x hm u hu=>hx x hm u (by rw [ht x hm];exact hu)
theorem Z0d.worldless {P:Program} {it:It} {t:ZN} {h h':Z7} {v:AV} (hs:Z0d P it t h v) (hw:worldless it.o.op=true):Z0d P it t h' v:=
 fun E w a _ hx=>hs E w a (fun hq=>by rw [hw] at hq;cases hq) hx
theorem WJ {all:List Oper} {t:ZN} (ht:∀x∈Z3r all g,ZC t' x=ZC t x):Wb all t' g=Wb all t g:=by
 unfold Wb
 cases g with
 | none=>rfl
 | some p=>
  obtain ⟨j,want⟩:=p
  simp only
  cases hd:Z0G all j with
  | none=>rfl
  | some d=>
   simp only
   rw [ht d (by simp [Z3r,hd])]
theorem YO {s:St} {dst:Option Tmp} {v:AV} {K:St->Prop} (h:VE s dst v K):
  ∃s',K s'/\s'.h=s.h/\s'.n=s.n/\s'.d=s.d/\(∀x,dst=some x->ZC s'.t x=some v/\x<s.n)/\(∀x,dst≠some x->ZC s'.t x=ZC s.t x):=by
 unfold VE at h
 split at h
 ·exact ⟨s,h,rfl,rfl,rfl,fun x hx=>by simp at hx,fun x _=>rfl⟩
 ·split at h
  ·refine ⟨_,h,rfl,rfl,rfl,fun x hx=> ?_,fun x hx=> ?_⟩
   all_goals simp_all [YT,YL]
  simp_all
theorem VX {a:Act} {x:Nat} (h:x<a.tmps.size):(a.put (some x) r).tmps.getD x undef=r:=by
 simp [Act.put,h]
theorem Yh {a:Act} {dst:Option Tmp} {x:Nat} (h:dst≠some x):(a.put dst r).tmps.getD x undef=a.tmps.getD x undef:=by
 cases dst with
 | none=>rfl
 | some d=>
  have:d≠x:=fun e=>h (by rw [e])
  simp [Act.put,this]
theorem Xi {a:Act} {dst:Option Tmp}:(a.put dst r).tmps.size=a.tmps.size:=by cases dst<;>simp [Act.put]
theorem put_defers {a:Act} {dst:Option Tmp}:(a.put dst r).defers=a.defers:=by cases dst<;>rfl
structure Stat (P:Program) (all:List Oper) (its0 its:List It) (sp:Option SpD) (n0:Nat):Prop where
 sub:∀it∈its,it∈its0
 mem0:∀it∈its0,all[it.i]? =some it.o
 mem:∀it∈its,all[it.i]? =some it.o
 ex:∀i,i<all.length->∃it∈its0,it.i=i
 uniq0:∀a∈its0,∀b∈its0,a.i=b.i->a=b
 uniq:∀a∈its,∀b∈its,a.i=b.i->a=b
 dst:∀a∈its,∀b∈its,a≠b->∀x,a.o.dst=some x->b.o.dst≠some x
 rd:∀a∈its,∀b∈its,a≠b->∀x,a.o.dst=some x->x∈W3 all b.o->b.m.testBit a.i=true\/(a.m.testBit b.i=true/\(Xh a=true\/(Yp a=true/\∃e∈its,Xh e=true/\e.m.testBit b.i=true/\a.m.testBit e.i=true)))
 self:∀a∈its,Xh a=false->∀x,a.o.dst=some x->x∉W3 all a.o
 guard:∀a∈its,∀j w,a.o.guard=some (j,w)->a.m.testBit j=true/\∃d,Z0G all j=some d
 late:∀a∈its,ZM a=true->a.o.guard=none/\∃x,a.o.dst=some x
 lz:∀a∈its,∀T,a.o.op=.alloc T->∃cs,Qt P T=some cs
 lrd:∀a∈its,ZM a=true->∀p∈its,∀x,p.o.dst=some x->x∈opT a.o.op->a.m.testBit p.i=true
 qlate:∀a∈its,(Yp a||bsI a)=true->∀p∈its,ZM p=true->a.m.testBit p.i=true->∃e∈its,Xh e=true/\e.m.testBit p.i=true/\a.m.testBit e.i=true
 edges:∀a∈its0,∀e∈a.o.after.toList,Region.binds .any e=true->e.on<a.i
 spc:∀a∈its0,a∈its\/(∃d,sp=some d/\Z5q d a=true)\/(Z0X a=true/\n0<=a.i)
 un:∀d,sp=some d->∀a∈its,Zae all d a=true
 jok:∀d,sp=some d->∀j∈d.js,jOk d its0 its j=true
 key:∀d,sp=some d->∃T,VO P d.T=some T
 alone:∀d,sp=some d->Q8 d.js=true
theorem Zca {qm:Nat} {P:Program} {all:List Oper} {its:List It} {sp:Option SpD} {n0:Nat} (hsub:∀it∈its,it∈ZG qm 0 [] all) (hcov:∀it∈ZG qm 0 [] all,it∈its\/(isSp it.o.op=true/\sp≠none)\/(Z0X it=true/\n0<=it.i)) (h:Zf0 P all its=true) (hs:Zf1 P all (ZG qm 0 [] all) its sp=true):Stat P all (ZG qm 0 [] all) its sp n0:=by
 have hall:=(YB _ _).1 h
 have hget:∀it∈ZG qm 0 [] all,(ZG qm 0 [] all)[it.i]? =some it/\all[it.i]? =some it.o:=fun it hm=>by
  obtain ⟨j,hj⟩:=JN.1 hm
  have:=X9 hj
  have e:it.i=j:=by omega
  rw [e]
  exact ⟨hj,this.2⟩
 have huniq:∀a∈ZG qm 0 [] all,∀b∈ZG qm 0 [] all,a.i=b.i->a=b:=fun a ha b hb e=>by
  have h1:=(hget a ha).1
  have h2:=(hget b hb).1
  rw [e,h2] at h1
  simp_all
 have hpair:∀a∈its,∀b∈its,a≠b->Z4D a b=false/\(Z0J all a b=true->b.m.testBit a.i=true\/(a.m.testBit b.i=true/\(Xh a=true\/(Yp a=true/\∃e∈its,Xh e=true/\e.m.testBit b.i=true/\a.m.testBit e.i=true)))):=fun a ha b hb hne=>by
  have h1:=hall a ha
  simp only [J1] at h1
  have h2:=(YB _ _).1 h1.2 b hb
  unfold Zdo at h2
  have hi:Nat.beq a.i b.i=false:=Zs fun e=>hne (huniq a (hsub a ha) b (hsub b hb) e)
  rw [hi] at h2
  simp only [Bool.false_or,J1,Jl,JE] at h2
  refine ⟨h2.1,fun hd=> ?_⟩
  rcases h2.2 with (h3|h3)|h3
  ·rw [hd] at h3;cases h3
  ·exact .inl h3
  ·refine .inr ⟨h3.1, ?_⟩
   rcases h3.2 with h4|h4
   ·exact .inl h4
   ·refine .inr ⟨h4.1, ?_⟩
    obtain ⟨e,he,h5⟩:=(QE _ _).1 h4.2
    grind
 have hone:∀a∈its,Z6Y P all its a=true:=fun a ha=>by
  have h1:=hall a ha
  simp only [J1] at h1
  exact h1.1
 have hlate:∀a∈its,ZM a=true->a.o.guard.isNone=true/\a.o.dst.isSome=true/\(match a.o.op with|.alloc T=>(Qt P T).isSome|_=>true)=true/\∀p∈its,(!Z0J all p a||a.m.testBit p.i)=true:=fun a ha hl=>by
  have h1:=hone a ha
  unfold Z6Y at h1
  simp only [J1] at h1
  have h2:=h1.1.2
  rw [hl] at h2
  simp only [J1] at h2
  exact ⟨h2.1.1.1,h2.1.1.2,h2.1.2,(YB _ _).1 h2.2⟩
 have hedge:∀a,Z2c a=true->∀e∈a.o.after.toList,Region.binds .any e=true->e.on<a.i:=fun a h2 e he hb=>by
  unfold Z2c at h2
  have h3:=List.all_eq_true.1 h2 e he
  simp only [JE,Jl] at h3
  rcases h3 with h3|h3
  ·rw [hb] at h3;cases h3
  ·exact Jc h3
 have hsp:∀d,sp=some d->spB P all (ZG qm 0 [] all) its d=true:=fun d hd=>by
  subst hd;exact hs
 have hspc:∀d,sp=some d->(∀it∈ZG qm 0 [] all,isSp it.o.op=true->Z5q d it=true)/\∀it∈its,Zae all d it=true:=fun d hd=>by
  have h1:=hsp d hd
  unfold spB at h1
  simp only [J1] at h1
  refine ⟨fun it hit h3=> ?_,(YB _ _).1 h1.2⟩
  have h2:=(YB _ _).1 h1.1.2 it hit
  rw [h3] at h2
  exact h2
 have hspo:∀a∈ZG qm 0 [] all,a∈its\/(∃d,sp=some d/\Z5q d a=true)\/(Z0X a=true/\n0<=a.i):=fun a ha=>by
  rcases hcov a ha with h1|⟨h1,h2⟩|h1
  ·exact .inl h1
  ·cases sp with
   | none=>exact absurd rfl h2
   | some d=>exact .inr (.inl ⟨d,rfl,(hspc d rfl).1 a ha h1⟩)
  ·exact .inr (.inr h1)
 refine ⟨hsub,fun it hm=>(hget it hm).2,fun it hm=>(hget it (hsub it hm)).2,fun i hi=> ?_,huniq,fun a ha b hb=>huniq a (hsub a ha) b (hsub b hb),fun a ha b hb hne x hx hy=> ?_,fun a ha b hb hne x hx hr=> ?_,fun a ha he x hx hr=> ?_,fun a ha j w hg=> ?_,fun a ha hl=> ?_,fun a ha T hT=> ?_,fun a ha hl p hp x hx hr=> ?_,fun a ha hq p hp hl hbit=> ?_,fun a ha=> ?_,
  hspo,fun d hd=>(hspc d hd).2,fun d hd j hj=> ?_,fun d hd=> ?_,fun d hd=> ?_⟩
 ·have hl:i<(ZG qm 0 [] all).length:=by rw [XB];exact hi
  refine ⟨(ZG qm 0 [] all)[i],K6 _, ?_⟩
  have:=X9 (j:=i) (J8 hl)
  omega
 ·have:=(hpair a ha b hb hne).1
  simp [Z4D,hx,hy,Jg] at this
 ·simp_all [Z0J,VT]
 ·have h1:=hone a ha
  unfold Z6Y at h1
  simp only [J1,JE,Jl] at h1
  grind [Z0J,VT]
 ·have h1:=hone a ha
  unfold Z6Y at h1
  simp only [J1] at h1
  have h2:=h1.1.1.2
  rw [hg] at h2
  simp only [J1] at h2
  exact ⟨h2.1,JQ.1 h2.2⟩
 ·have h1:=hlate a ha hl
  exact ⟨by simpa using h1.1,JQ.1 h1.2.1⟩
 ·have h1:=hlate a ha (by unfold ZM;rw [hT];rfl)
  have h2:=h1.2.2.1
  rw [hT] at h2
  exact JQ.1 h2
 ·have h1:=(hlate a ha hl).2.2.2 p hp
  simp only [Z0J,hx,(VT x _).2 (show x∈W3 all a.o from Js _ hr),Bool.not_true,Bool.false_or] at h1
  exact h1
 ·have h1:=hone a ha
  unfold Z6Y at h1
  simp only [J1] at h1
  have h2:=h1.2
  rw [hq] at h2
  simp only [Bool.not_true,Bool.false_or] at h2
  have h3:=(YB _ _).1 h2 p hp
  simp only [JE,Jl] at h3
  rcases h3 with (h3|h3)|h3
  ·rw [h3] at hl;cases hl
  ·rw [hbit] at h3;cases h3
  ·obtain ⟨e,he,h5⟩:=(QE _ _).1 h3
   simp only [J1] at h5
   exact ⟨e,he,h5.1.1,h5.1.2,h5.2⟩
 ·rcases hspo a ha with h1|⟨d,_,h1⟩|⟨h1,_⟩
  ·have h2:=hone a h1
   unfold Z6Y at h2
   simp only [J1] at h2
   exact hedge a h2.1.1.1.1
  ·unfold Z5q at h1
   simp only [J1] at h1
   exact hedge a h1.1.1
  ·unfold Z0X at h1
   simp only [J1] at h1
   exact hedge a h1.1.1.1
 ·have h1:=hsp d hd
  unfold spB at h1
  simp only [J1] at h1
  exact (VV _ _).1 h1.1.1.2 j hj
 ·have h1:=hsp d hd
  unfold spB at h1
  simp only [J1] at h1
  exact JQ.1 h1.1.1.1.1
 ·have h1:=hsp d hd
  unfold spB at h1
  simp only [J1] at h1
  exact h1.1.1.1.2
end Go.Tk
end
section
namespace Go.Tk
open IntKind (i64 u8 u32 u64 wrap)
def WK (P:Program) (it:It) (a:Act) (mkv:Nat->Value) (obj:Obj):Prop:=
 ∀w:World,(execOp a.eval it.o).run P w=.ok (.value (mkv w.heap.size)) { w with heap:=w.heap.push obj}
theorem Z8Z {a a':Act} {o:Operand} (h:∀x,o=.tmp x->a'.tmps.getD x undef=a.tmps.getD x undef):a'.eval o=a.eval o:=by
 cases o with
 | tmp x=>exact h x rfl
 | _=>rfl
theorem Wy {x:Nat}:∀{l:List Operand},.tmp x∈l->x∈tmpsOf l
 | [],h=>by simp at h
 | .tmp y::r,h=>by
  rcases J6.1 h with h|h
  ·cases h;exact Jq ..
  ·exact Jf _ (Wy h)
 | .const _::r,h=>by
  rcases J6.1 h with h|h
  ·cases h
  ·exact Wy (l:=r) h
 | .global _::r,h=>by
  rcases J6.1 h with h|h
  ·cases h
  ·exact Wy (l:=r) h
 | .func _::r,h=>by
  rcases J6.1 h with h|h
  ·cases h
  ·exact Wy (l:=r) h
theorem VY {it:It} (h:ZM it=true):(∃T,it.o.op=.alloc T)\/∃T len ps,it.o.op=.buildSlice T len ps/\bsI it=true/\len≠0:=by
 have h1:=h
 unfold ZM at h1
 cases ho:it.o.op<;>rw [ho] at h1<;>first|skip
 all_goals grind [bsI,Zdn,Jg]
theorem WK.congr {P:Program} {it:It} {a a':Act} {mkv:Nat->Value} {obj:Obj} (hl:ZM it=true) (h:WK P it a mkv obj) (ha:∀x∈opT it.o.op,a'.tmps.getD x undef=a.tmps.getD x undef):WK P it a' mkv obj:=by
 intro w
 rw [execOp_congr (ρ:=a'.eval) (ρ':=a.eval) it.o (fun cs b e=>by rcases VY hl with ⟨T,h⟩|⟨T,l,ps,h,_⟩<;>rw [h] at e<;>cases e) (fun x hx=>Z8Z fun y hy=>ha y (by exact Wy (by simp_all)))]
 exact h w
def Zf2 (P:Program) (w0:World) (E:Env) (h:Z7) (w:World) (a:Act) (it:It) (b:Nat):Prop:=
 ∃mkv obj,WK P it a mkv obj/\(∀x,it.o.dst=some x->a.tmps.getD x undef=mkv b)/\w.heap[b]? =some obj/\
  ¬YI E h b/\(∀ad c,E.imm ad c->ad.block≠b)/\w0.heap.size<=b/\b<w.heap.size
def Z2h (k:IntKind) (a:Act) (j:Wx):Value×Value:=(.int k j.c,a.tmps.getD j.y undef)
def MpI (sp:Option SpD) (w0:World) (L:Nat->Prop) (bl:Nat->Nat) (rem:List It) (t:ZN) (E:Env) (h:Z7) (a:Act) (w:World):Prop:=
 ∀d,sp=some d->d.x<a.tmps.size/\ZC t d.x=none/\(L d.i->∃b ents clock,a.tmps.getD d.x undef=.map (some b)/\w.heap[b]? =some (.map ents clock)/\
  ¬YI E h b/\(∀ad c,E.imm ad c->ad.block≠b)/\w0.heap.size<=b/\b<w.heap.size/\(∀q∈rem,L q.i->ZM q=true->bl q.i≠b)/\
  ∃done:List Wx,(done.map (·.i)).Nodup/\(∀j,j∈done↔j∈d.js/\L j.i)/\ents.toList.map (fun e=>(e.key,e.val))=done.map (Z2h d.k a))
theorem MpI.step {sp:Option SpD} {w0:World} {L L':Nat->Prop} {bl bl':Nat->Nat} {rem rem':List It} {t t':ZN} {E E':Env} {h h':Z7} {a a':Act} {w w':World} (M:MpI sp w0 L bl rem t E h a w)
  (hL:∀d,sp=some d->(L' d.i->L d.i)/\∀j∈d.js,(L' j.i↔L j.i))
  (ht:∀d,sp=some d->ZC t d.x=none->ZC t' d.x=none)
  (hz:a'.tmps.size=a.tmps.size)
  (hx:∀d,sp=some d->a'.tmps.getD d.x undef=a.tmps.getD d.x undef)
  (hy:∀d,sp=some d->∀j∈d.js,L j.i->a'.tmps.getD j.y undef=a.tmps.getD j.y undef)
  (hw:∀b,b<w.heap.size->¬YI E h b->w'.heap[b]? =w.heap[b]?)
  (ho:∀b,b<w.heap.size->¬YI E h b->(∀q∈rem,L q.i->ZM q=true->bl q.i≠b)->¬YI E' h' b)
  (hi:∀ad c,E'.imm ad c->E.imm ad c)
  (hs:w.heap.size<=w'.heap.size)
  (hb:∀q∈rem',L' q.i->ZM q=true->∀b,b<w.heap.size->(∀q∈rem,L q.i->ZM q=true->bl q.i≠b)->bl' q.i≠b):
  MpI sp w0 L' bl' rem' t' E' h' a' w':=by
 intro d hd
 obtain ⟨m1,m2,m3⟩:=M d hd
 grind [List.map_congr_left,Z2h]
structure Inv (P:Program) (all:List Oper) (its:List It) (sp:Option SpD) (E0:Env) (h0:Z7) (w0:World) (L:Nat->Prop) (bl:Nat->Nat) (rem:List It) (D:Nat) (pend:List (It×AV)) (s:St) (E:Env) (a:Act) (w:World):Prop where
 sub:∀it∈rem,it∈its
 nodup:rem.Pairwise fun a b=>a.i≠b.i
 dbit:∀it∈its,D.testBit it.i=true->it∉rem
 born:∀it∈its,ZM it=false->it∉rem->∀q∈its,it.m.testBit q.i=true->q∉rem
 eff:∀it∈its,Xh it=true->(L it.i↔it∉rem)
 late:∀it∈its,ZM it=true->it∉rem->L it.i
 quiet:∀it∈its,Yp it=true->L it.i->it∉rem
 fact:∀it∈its,Yp it=true->it∉rem->¬L it.i->∃v,(∀x,it.o.dst=some x->ZC s.t x=some v)/\
  ((Wb all s.t it.o.guard=some true/\(it,v)∈pend/\Z0d P it s.t s.h v)\/(Wb all s.t it.o.guard=some false/\v=.tuple []))
 size:a.tmps.size=s.n
 tmps:∀x v,ZC s.t x=some v->(∀it∈its,it.o.dst=some x->Yp it=true->it∉rem->L it.i)->Zb E v (a.tmps.getD x undef)
 defs:Vr E s.d a.defers
 evo:Evo E0 h0 w0 E s.h w
 lt:∀it∈rem,ZM it=true->∀x,it.o.dst=some x->ZC s.t x=none
 adopt:∀it∈rem,L it.i->ZM it=true->Zf2 P w0 E s.h w a it (bl it.i)
 inj:∀it∈rem,∀it'∈rem,L it.i->L it'.i->ZM it=true->ZM it'=true->bl it.i=bl it'.i->it=it'
 dst:∀it∈its,∀x,it.o.dst=some x->it∉rem->x<s.n
 dset:∀it∈its,it∉rem->D.testBit it.i=true
 ln:∀it∈its,ZM it=true->∀x,it.o.dst=some x->x<s.n
 mp:MpI sp w0 L bl rem s.t E s.h a w
theorem Z0Y {o:It} (h:ZM o=true):Yp o=false:=by
 unfold Yp
 rcases VY h with ⟨T,h⟩|⟨T,l,ps,h,_⟩<;>rw [h]<;>rfl
theorem Yd {o:It} (h:Xh o=true):Yp o=false:=by
 unfold Xh at h;cases hq:Yp o<;>simp_all
theorem YE {o:It} (h:Xh o=true):ZM o=false:=by
 unfold Xh at h;cases hq:ZM o<;>simp_all
theorem Y3 {o:It} (h:Yp o=true):ZM o=false:=by
 grind [Z0Y]
theorem kinds (o:It):Yp o=true\/Xh o=true\/ZM o=true:=by
 grind [Xh]
theorem XC {P:Program} {all:List Oper} {its0 its:List It} {sp:Option SpD} {n0:Nat} (hst:Stat P all its0 its sp n0) {d:SpD} (hd:sp=some d) {it:It} (hit:it∈its):
  it.i≠d.i/\it.m.testBit d.i=false/\it.o.dst≠some d.x/\d.x∉W3 all it.o/\∀j∈d.js,it.i≠j.i/\it.m.testBit j.i=false:=by
 have h:=hst.un d hd it hit
 unfold Zae at h
 simp only [J1,Jl] at h
 obtain ⟨⟨⟨⟨h1,h2⟩,h3⟩,h4⟩,h5⟩:=h
 refine ⟨fun e=>(by rw [e,Jg] at h1;cases h1),h2,fun e=> ?_,fun e=> ?_,fun j hj=> ?_⟩
 ·simp_all [Z3u]
 ·rw [(VT _ _).2 e] at h4;cases h4
 ·have h6:=(VV _ _).1 h5 j hj
  grind [Jg]
theorem Z2i {P:Program} {all:List Oper} {its0 its:List It} {sp:Option SpD} {n0:Nat} (hst:Stat P all its0 its sp n0) {d:SpD} (hd:sp=some d) {j:Wx} (hj:j∈d.js) {L:Nat->Prop}
  (hm:∀it∈its0,L it.i->∀p,it.m.testBit p=true->L p) (hL:L j.i):L d.i/\j.y≠d.x/\∀p∈its,p.o.dst=some j.y->L p.i:=by
 have h:=hst.jok d hd j hj
 unfold jOk at h
 simp only [J1] at h
 obtain ⟨⟨_,h1⟩,h2⟩:=h
 obtain ⟨it,hit,h3⟩:=(QE _ _).1 h2
 simp only [J1] at h3
 have hi:it.i=j.i:=J0 h3.1.1
 have hL':L it.i:=by rw [hi];exact hL
 refine ⟨hm it hit hL' _ h3.1.2,fun e=>(by rw [e,Jg] at h1;cases h1),fun p hp hdp=> ?_⟩
 have h4:=(YB _ _).1 h3.2 p hp
 unfold Z3u at h4
 rw [hdp] at h4
 simp only [Jg,Bool.not_true] at h4
 grind
section
variable {P:Program} {all:List Oper} {its0 its:List It} {sp:Option SpD} {n0:Nat} {E0:Env} {h0:Z7} {w0:World} {L:Nat->Prop} {bl:Nat->Nat} {rem rem':List It} {D:Nat} {pend pend':List (It×AV)} {s s2:St} {E:Env} {a:Act} {w:World}
theorem Z4E {D i j:Nat} (h:(Nat.lor D (2^i)).testBit j=true):D.testBit j=true\/j=i:=by
 have h':(D|||2^i).testBit j=true:=h
 grind
theorem Z2j {D i j:Nat} (h:D.testBit j=true):(Nat.lor D (2^i)).testBit j=true:=by
 simp_all
theorem Z0e {m D:Nat} (h:Nat.beq (Nat.land m D) m=true) {p:Nat} (hp:m.testBit p=true):D.testBit p=true:=by
 have e:m&&&D=m:=J0 h
 rw [<-e,Nat.testBit_and,J1] at hp
 exact hp.2
theorem Inv.birth (hst:Stat P all its0 its sp n0) (hm:∀it∈its,L it.i->∀p,it.m.testBit p=true->L p) (I:Inv P all its sp E0 h0 w0 L bl rem D pend s E a w) {it:It} (hit:it∈rem) (hq:Yp it=true)
  (hD:∀p,it.m.testBit p=true->D.testBit p=true) (hr:∀x,x∈rem'↔x∈rem/\x≠it) (hnd:rem'.Pairwise fun a b=>a.i≠b.i) {v:AV} (hp:∀x,x∈pend->x∈pend')
  (hv:(Wb all s.t it.o.guard=some true/\(it,v)∈pend'/\Z0d P it s.t s.h v)\/(Wb all s.t it.o.guard=some false/\v=.tuple []))
  (e1:s2.h=s.h) (e2:s2.n=s.n) (e3:s2.d=s.d) (e4:∀x,it.o.dst=some x->ZC s2.t x=some v/\x<s.n) (e5:∀x,it.o.dst≠some x->ZC s2.t x=ZC s.t x):
  Inv P all its sp E0 h0 w0 L bl rem' (Nat.lor D (2^it.i)) pend' s2 E a w:=by
 have hits:=I.sub it hit
 have hne:∀q∈its,q≠it->q.i≠it.i:=fun q hq' hn e=>hn (hst.uniq q hq' it hits e)
 have hnL:¬L it.i:=fun hL=>I.quiet it hits hq hL hit
 have hback:∀q∈its,q∉rem'->q=it\/q∉rem:=fun q _ hn=>by
  by_cases h:q=it
  ·exact .inl h
  ·exact .inr fun hr'=>hn ((hr q).2 ⟨hr',h⟩)
 have hfwd:∀q,q∉rem->q∉rem':=fun q hn h=>hn ((hr q).1 h).1
 have hqe:Xh it=false:=by
  cases he:Xh it with
  | false=>rfl
  | true=>rw [Yd he] at hq;cases hq
 refine ⟨fun q hq'=>I.sub q ((hr q).1 hq').1,hnd,fun q hq' hb=> ?_,fun q hq' hnl hn p hp' hb=> ?_,fun q hq' he=> ?_,fun q hq' hl hn=> ?_,fun q hq' hqq hL=>hfwd q (I.quiet q hq' hqq hL),fun q hq' hqq hn hL=> ?_,by rw [e2];exact I.size,fun x u hx hc=> ?_,by rw [e3];exact I.defs,
  by rw [e1];exact I.evo,fun q hq' hl x hx=> ?_,fun q hq' hL hT=> ?_,fun q hq' q' hq''=>I.inj q ((hr q).1 hq').1 q' ((hr q').1 hq'').1,fun q hq' x hx hn=> ?_,fun q hq' hn=> ?_,by rw [e2];exact I.ln, ?_⟩
 ·rcases Z4E hb with h|h
  ·exact hfwd q (I.dbit q hq' h)
  grind
 ·rcases hback q hq' hn with rfl|hn'
  ·exact hfwd p (I.dbit p hp' (hD _ hb))
  ·exact hfwd p (I.born q hq' hnl hn' p hp' hb)
 ·rw [I.eff q hq' he]
  have:q≠it:=fun h=>by simp_all
  simp_all
 ·have:q≠it:=fun h=>by simp_all [Y3]
  rcases hback q hq' hn with h|h
  ·simp_all
  ·exact I.late q hq' hl h
 ·by_cases hqi:q=it
  ·subst hqi
   have hself:∀x∈W3 all q.o,ZC s2.t x=ZC s.t x:=fun x hx=>e5 x fun hd=>hst.self q hits hqe x hd hx
   refine ⟨v,fun x hx=>(e4 x hx).1, ?_⟩
   rw [WJ fun x hx=>hself x (JB _ hx),e1]
   rcases hv with ⟨h1,h2,h3⟩|h
   ·exact .inl ⟨h1,h2,h3.congr fun x hx=>hself x (Js _ hx)⟩
   simp_all
  ·have hn':q∉rem:=(hback q hq' hn).resolve_left hqi
   obtain ⟨u,h1,h2⟩:=I.fact q hq' hqq hn' hL
   have hsame:∀x∈W3 all q.o,ZC s2.t x=ZC s.t x:=fun x hx=>e5 x fun hd=>by
    rcases hst.rd it hits q hq' (fun e=>hqi e.symm) x hd hx with h|⟨h3,h4⟩
    ·exact I.born q hq' (Y3 hqq) hn' it hits h hit
    ·rcases h4 with h4|⟨_,e,he,h5,h6,h7⟩
     ·rw [hqe] at h4;cases h4
     ·have:L e.i:=(I.eff e he h5).2 (I.dbit e he (hD _ h7))
      grind
   refine ⟨u,fun x hx=> ?_, ?_⟩
   ·rw [e5 x fun hd=>hst.dst it hits q hq' (fun e=>hqi e.symm) x hd hx]
    simp_all
   ·rw [WJ fun x hx=>hsame x (JB _ hx),e1]
    rcases h2 with ⟨h2,h3,h4⟩|h
    ·exact .inl ⟨h2,hp _ h3,h4.congr fun x hx=>hsame x (Js _ hx)⟩
    simp_all
 ·by_cases hd:it.o.dst=some x
  ·simp_all
  ·rw [e5 x hd] at hx
   exact I.tmps x u hx fun q hq' hdq hqq hn=>hc q hq' hdq hqq (hfwd q hn)
 ·have hq1:=(hr q).1 hq'
  rw [e5 x fun hd=>hst.dst it hits q (I.sub q hq1.1) (fun e=>hq1.2 e.symm) x hd hx]
  exact I.lt q hq1.1 hl x hx
 ·rw [e1]
  exact I.adopt q ((hr q).1 hq').1 hL hT
 ·rw [e2]
  rcases hback q hq' hn with rfl|hn'
  ·simp_all
  ·exact I.dst q hq' x hx hn'
 ·rcases hback q hq' hn with rfl|hn'
  ·simp_all
  ·exact Z2j (I.dset q hq' hn')
 ·rw [e1]
  refine I.mp.step (fun d hd=>⟨id,fun j _=>.rfl⟩) (fun d hd h=>by rw [e5 _ (XC hst hd hits).2.2.1];exact h) rfl (fun _ _=>rfl) (fun _ _ _ _ _=>rfl) (fun _ _ _=>rfl) (fun _ _ h _=>h) (fun _ _ h=>h) (J2 _) (fun q hq' hL hl b _ hb=>hb q ((hr q).1 hq').1 hL hl)
theorem Z3w (hst:Stat P all its0 its sp n0) (hm:∀it∈its,L it.i->∀p,it.m.testBit p=true->L p) {K:List It->Nat->List (It×AV)->St->Prop}:
  ∀(todo kept:List It) (D:Nat) (pend:List (It×AV)) (s:St),Us P all todo kept D pend s K->Inv P all its sp E0 h0 w0 L bl (kept++todo) D pend s E a w->
   ∃rem D' pend' s',K rem D' pend' s'/\Inv P all its sp E0 h0 w0 L bl rem D' pend' s' E a w:=by
 intro todo
 induction todo with
 | nil=>intro kept D pend s h I;exact ⟨kept,D,pend,s,h,by simp_all⟩
 | cons it r ih=>
  intro kept D pend s h I
  unfold Us at h
  split at h
  ·rename_i hb
   rw [J1] at hb
   have hmem:it∈kept++it::r:=by simp
   have hnd:=I.nodup
   have hnd':(kept++r).Pairwise fun a b=>a.i≠b.i:=hnd.sublist (List.Sublist.append (List.Sublist.refl _) (List.sublist_cons_self _ _))
   have hr:∀x,x∈kept++r↔x∈kept++it::r/\x≠it:=fun x=>by
    grind
   obtain ⟨s',g1,g2,g3,g4,g5⟩:=Z0L h
   rcases g5 with ⟨gw,gr⟩|⟨gw,gs⟩
   ·obtain ⟨v,hv,hsem⟩:=Z7U gr
    obtain ⟨s2,k0,k1,k2,k3,k4,k5⟩:=YO hv
    refine ih kept _ _ s2 k0 (I.birth hst hm hmem hb.1 (fun p hp=>Z0e hb.2 hp) hr hnd' (v:=v) (fun x hx=>Jf _ hx) (.inl ⟨gw,Jq .., ?_⟩) (k1.trans g2) (k2.trans g3) (k3.trans g4)
     (fun x hx=>⟨(k4 x hx).1,g3▸(k4 x hx).2⟩) (fun x hx=>(k5 x hx).trans (g1 x)))
    rw [g2] at hsem
    exact hsem.congr fun x _=>(g1 x).symm
   ·obtain ⟨s2,k0,k1,k2,k3,k4,k5⟩:=YO gs
    exact ih kept _ _ s2 k0 (I.birth hst hm hmem hb.1 (fun p hp=>Z0e hb.2 hp) hr hnd' (v:=.tuple []) (fun x hx=>hx) (.inr ⟨gw,rfl⟩) (k1.trans g2) (k2.trans g3) (k3.trans g4)
     (fun x hx=>⟨(k4 x hx).1,g3▸(k4 x hx).2⟩) (fun x hx=>(k5 x hx).trans (g1 x)))
  grind
end
end Go.Tk
end
