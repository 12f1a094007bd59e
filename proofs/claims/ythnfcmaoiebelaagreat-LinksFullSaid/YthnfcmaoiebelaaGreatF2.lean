/- F: part 2 of an engine (a symbolic evaluator, proved against the model) and of the walk by it. -/
import Derived.Test.YthnfcmaoiebelaaGreatF1
import Derived.ChangeKeysEq
import Derived.Laws.StructEq
import Derived.DeepKeys3
import Derived.Maps.RangeRun
import Derived.Laws.BytesString
import Derived.Laws.IdiomStrings
import Derived.Laws.Externs
import Derived.Lib.Bytealg
import Derived.LoopNIn
import Derived.OrdersIn
set_option linter.unusedVariables false
set_option linter.unusedSimpArgs false
set_option maxRecDepth 100000
set_option maxHeartbeats 0
section
namespace Go.Tk
open IntKind (i64 u8 u32 u64 wrap)
variable {K:Z6->Prop} {kt:TypeId} {kd:TypeDesc} {re rk:Value} {ents:List MapEntry} {E:Env} {kf vf:Nat->AV}
def Ze6 (P:Program) (ev:TypeId->AV->AV->(Bool->Prop)->Prop) (cs cs':List AV):List Field->(Bool->Prop)->Prop
 | [],K=>K true
 | f::fs,K=>match decide (f.name= "_") with
  | true=>False
  | false=>Z0a P f.type cs f.offset fun a=>Z0a P f.type cs' f.offset fun b=>ev f.type a b fun r=>match fs with
   | []=>K r
   | _::_=>Ze6 P ev cs cs' fs fun r'=>K (r&&r')
def ZgD (P:Program) (ev:TypeId->AV->AV->(Bool->Prop)->Prop) (e:TypeId) (sz:Nat) (cs cs':List AV):List Nat->(Bool->Prop)->Prop
 | [],K=>K true
 | i::is,K=>Z0a P e cs (i*sz) fun a=>Z0a P e cs' (i*sz) fun b=>ev e a b fun r=>match is with
  | []=>K r
  | _::_=>ZgD P ev e sz cs cs' is fun r'=>K (r&&r')
def Z5h (P:Program):Nat->TypeId->AV->AV->(Bool->Prop)->Prop
 | 0,_,_,_,_=>False
 | d+1,T,x,y,K=>match P.underlying T with
  | some (.int _)=>match x,y with
   | .int k a,.int k' b=>match decide (k=k') with|true=>K (a==b)|false=>False
   | _,_=>False
  | some .bool=>match x,y with
   | .bool a,.bool b=>K (a==b)
   | _,_=>False
  | some .string=>match x,y with
   | .str a,.str b=>K (a.toList==b.toList)
   | _,_=>False
  | some (.struct fs)=>match x,y with
   | .agg cs,.agg cs'=>match P.stoodInHeld T with
    | false=>Ze6 P (Z5h P d) cs cs' fs.toList K
    | true=>False
   | _,_=>False
  | some (.array n e)=>match x,y with
   | .agg [.arr k m xs],.agg [.arr k' m' ys]=>match P.underlying e,ZS P e,decide (k=k')&&Nat.beq m n&&Nat.beq m' n with
    | some (.int _),some 1,true=>Z4 (xs.length=n/\ys.length=n) (K (xs==ys))
    | _,_,_=>False
   | .agg cs,.agg cs'=>match ZS P e with
    | some sz=>ZgD P (Z5h P d) e sz cs cs' (List.range n) K
    | none=>False
   | _,_=>False
  | _=>False
theorem Qo:∀(xs ys:LI),xs.length=ys.length->((List.range xs.length).all fun i=>xs.getD i 0==ys.getD i 0)=(xs==ys)
 | [],[],_=>rfl
 | x::xs,y::ys,h=>by
  have ih:=Qo xs ys (by simp_all)
  rw [Jt,List.range_succ_eq_map,List.all_cons,List.all_map]
  grind
 | [],_::_,h=>by simp at h
 | _::_,[],h=>by simp at h
theorem Vk {P:Program} {w:World} {e:TypeId} {k0 k:IntKind} {n:Nat} {xs ys:LI} (he:P.underlying e=some (.int k0)) (D:Nat):∀(is:List Nat),(∀i∈is,i<n)->
  (Op.eqItems (D+1) e 1 (intCells k n xs).toArray (intCells k n ys).toArray is).run P w=.ok (is.all fun i=>xs.getD i 0==ys.getD i 0) w
 | [],_=>by simp [Op.eqItems]
 | i::is,h=>by
  have hi:i<n:=h i (by simp)
  have px:∀zs:LI,(part e (intCells k n zs).toArray (i*1)).run P w=.ok (.int k (zs.getD i 0)) w:=fun zs=>by
   simp [part,isAgg,run_underlying he,Zj hi]
  simp only [Op.eqItems,J6,px,J4,run_equalIn_int w D e k k0 _ _ he]
  cases hb:(xs.getD i 0==ys.getD i 0)
  all_goals simp_all [Vk]
theorem Z8P {P:Program} {ev:TypeId->AV->AV->(Bool->Prop)->Prop} {D:Nat}
  (hev:∀T x y K,ev T x y K->∃b,K b/\∀(E:Env) (w:World) (rx ry:Value),Zc E x rx->Zc E y ry->(Op.equalIn D T rx ry).run P w=.ok b w) {cs cs':List AV}:
  ∀(fs:List Field) (K:Bool->Prop),Ze6 P ev cs cs' fs K->∃b,K b/\∀(E:Env) (w:World) (vs vs':List Value),Zm E cs vs->Zm E cs' vs'->(Op.eqFields D vs.toArray vs'.toArray fs).run P w=.ok b w
 | [],K,h=>⟨true,h,fun E w vs vs' _ _=>by simp [Op.eqFields]⟩
 | f::fs,K,h=>by
  unfold Ze6 at h
  split at h
  ·simp_all
  ·rename_i hn
   have hn:f.name≠ "_" :=of_decide_eq_false hn
   obtain ⟨a,h,ha⟩:=WD h
   obtain ⟨b,h,hb⟩:=WD h
   obtain ⟨r,h,hr⟩:=hev _ _ _ _ h
   cases fs with
   | nil=>
    refine ⟨r,h,fun E w vs vs' hc hc'=> ?_⟩
    obtain ⟨ra,a1,a2⟩:=ha E w vs hc
    obtain ⟨rb,b1,b2⟩:=hb E w vs' hc'
    simp only [Op.eqFields,hn,ne_eq,not_false_eq_true,if_true,J6,a1,b1,J4,hr E w ra rb a2 b2]
    cases r<;>simp
   | cons g gs=>
    obtain ⟨r',h,hr'⟩:=Z8P hev (g::gs) _ h
    refine ⟨r&&r',h,fun E w vs vs' hc hc'=> ?_⟩
    obtain ⟨ra,a1,a2⟩:=ha E w vs hc
    obtain ⟨rb,b1,b2⟩:=hb E w vs' hc'
    rw [Op.eqFields]
    simp only [hn,ne_eq,not_false_eq_true,if_true,J6,a1,b1,J4,hr E w ra rb a2 b2]
    cases r
    ·simp
    grind
theorem Z8Q {P:Program} {ev:TypeId->AV->AV->(Bool->Prop)->Prop} {D:Nat}
  (hev:∀T x y K,ev T x y K->∃b,K b/\∀(E:Env) (w:World) (rx ry:Value),Zc E x rx->Zc E y ry->(Op.equalIn D T rx ry).run P w=.ok b w) {e:TypeId} {sz:Nat} {cs cs':List AV}:
  ∀(is:List Nat) (K:Bool->Prop),ZgD P ev e sz cs cs' is K->∃b,K b/\∀(E:Env) (w:World) (vs vs':List Value),Zm E cs vs->Zm E cs' vs'->(Op.eqItems D e sz vs.toArray vs'.toArray is).run P w=.ok b w
 | [],K,h=>⟨true,h,fun E w vs vs' _ _=>by simp [Op.eqItems]⟩
 | i::is,K,h=>by
  obtain ⟨a,h,ha⟩:=WD h
  obtain ⟨b,h,hb⟩:=WD h
  obtain ⟨r,h,hr⟩:=hev _ _ _ _ h
  cases is with
  | nil=>
   refine ⟨r,h,fun E w vs vs' hc hc'=> ?_⟩
   obtain ⟨ra,a1,a2⟩:=ha E w vs hc
   obtain ⟨rb,b1,b2⟩:=hb E w vs' hc'
   simp only [Op.eqItems,J6,a1,b1,J4,hr E w ra rb a2 b2]
   cases r<;>simp
  | cons g gs=>
   obtain ⟨r',h,hr'⟩:=Z8Q hev (g::gs) _ h
   refine ⟨r&&r',h,fun E w vs vs' hc hc'=> ?_⟩
   obtain ⟨ra,a1,a2⟩:=ha E w vs hc
   obtain ⟨rb,b1,b2⟩:=hb E w vs' hc'
   rw [Op.eqItems]
   simp only [J6,a1,b1,J4,hr E w ra rb a2 b2]
   cases r
   ·simp
   grind
theorem UW {P:Program}:∀(d:Nat) (N:Nat) (T:TypeId) (x y:AV) (K:Bool->Prop),Z5h P d T x y K->∃b,K b/\∀(E:Env) (w:World) (rx ry:Value),Zc E x rx->Zc E y ry->(Op.equalIn (d+1+N) T rx ry).run P w=.ok b w
 | 0,N,T,x,y,K,h=>h.elim
 | d+1,N,T,x,y,K,h=>by
  have e0:d+1+1+N=(d+1+N)+1:=by omega
  unfold Z5h at h
  rw [e0]
  split at h
  ·rename_i k0 hu
   split at h
   ·split at h
    ·rename_i hk
     have hk:=of_decide_eq_true hk
     subst hk
     exact ⟨_,h,fun E w rx ry hx hy=>by cases hx;cases hy;exact run_equalIn_int w _ T _ k0 _ _ hu⟩
    simp_all
   simp_all
  ·rename_i hu
   split at h
   ·exact ⟨_,h,fun E w rx ry hx hy=>by cases hx;cases hy;exact run_equalIn_bool w _ T _ _ hu⟩
   simp_all
  ·rename_i hu
   split at h
   ·exact ⟨_,h,fun E w rx ry hx hy=>by cases hx;cases hy;exact run_equalIn_string w _ T _ _ hu⟩
   simp_all
  ·rename_i fs hu
   split at h
   ·split at h
    ·rename_i hst
     obtain ⟨b,hK,hb⟩:=Z8P (D:=d+1+N) (fun T' x' y' K' h'=>UW d N T' x' y' K' h') _ _ h
     refine ⟨b,hK,fun E w rx ry hx hy=> ?_⟩
     have hfo:P.fieldsOf T=fs:=by simp [Program.fieldsOf,hu]
     cases hx with
     | agg cs vs hc=>cases hy with
      | agg cs' vs' hc'=>
       rw [run_equalIn_struct w _ T _ _ (by rw [hfo];exact hu) hst,hfo]
       grind
    simp_all
   simp_all
  ·rename_i n e hu
   split at h
   ·rename_i k m xs k' m' ys
    split at h
    ·rename_i k0 he hs hb
     simp only [J2] at hb
     obtain ⟨⟨q1,q2⟩,q3⟩:=hb
     have q1:=of_decide_eq_true q1
     have q2:=J0 q2
     have q3:=J0 q3
     subst q1 q2 q3
     obtain ⟨⟨hx,hy⟩,hK⟩:=Zd h
     refine ⟨_,hK,fun E w rx ry hxr hyr=> ?_⟩
     cases hxr with
     | agg cs vs hc=>cases hyr with
      | agg cs' vs' hc'=>
       obtain ⟨ws,rfl,hw⟩:=Zm.cons_arr hc
       cases hw
       obtain ⟨ws',rfl,hw'⟩:=Zm.cons_arr hc'
       cases hw'
       unfold ZS at hs
       cases hi:P.info? e with
       | none=>rw [hi] at hs;cases hs
       | some i=>
        have hs1:i.size=1:=by simp_all
        have hcells:P.cellsOf e=1:=by simp [Program.cellsOf,hi,hs1]
        rw [run_equalIn_array w _ _ _ hu hi,hcells]
        simp only [JE]
        rw [show d+1+N=(d+N)+1 by omega]
        rw [Vk he _ _ (fun j hj=>JU.1 hj)]
        rw [<-Qo xs ys (by omega),hx]
    simp_all
   ·split at h
    ·rename_i sz hs
     obtain ⟨b,hK,hb⟩:=Z8Q (D:=d+1+N) (fun T' x' y' K' h'=>UW d N T' x' y' K' h') _ _ h
     refine ⟨b,hK,fun E w rx ry hx hy=> ?_⟩
     cases hx with
     | agg cs vs hc=>cases hy with
      | agg cs' vs' hc'=>
       unfold ZS at hs
       cases hi:P.info? e with
       | none=>rw [hi] at hs;cases hs
       | some i=>
        have hs1:i.size=sz:=by simp_all
        have hcells:P.cellsOf e=sz:=by simp [Program.cellsOf,hi,hs1]
        rw [run_equalIn_array w _ _ _ hu hi,hcells]
        grind
    simp_all
   simp_all
  simp_all
def Z7y (P:Program) (op:BinOp) (T:TypeId) (x y:AV) (K:AV->Prop):Prop:=
 match P.eqGuardType P.depth T with
 | true=>False
 | false=>match op with
  | .eql=>Z5h P 20 T x y fun b=>K (.bool b)
  | .neq=>Z5h P 20 T x y fun b=>K (.bool (!b))
  | _=>False
theorem Za4 {P:Program} {op:BinOp} {T:TypeId} {ox oy:Operand} {cs cs':List AV} {K:AV->Prop} (h:Z7y P op T (.agg cs) (.agg cs') K):
  ∃v,K v/\∀(E:Env) (w:World) (rx ry:Value),Zc E (.agg cs) rx->Zc E (.agg cs') ry->∃r,(do eqGuard op T ox oy rx ry;binOp op T rx ry).run P w=.ok r w/\Zc E v r:=by
 unfold Z7y at h
 split at h
 ·simp_all
 ·rename_i hg
  split at h
  ·obtain ⟨b,hK,hb⟩:=UW 20 9979 _ _ _ _ h
   refine ⟨_,hK,fun E w rx ry hx hy=>⟨.bool b, ?_,.bool b⟩⟩
   have h1:=hb E w rx ry hx hy
   cases hx with
   | agg cs vs hc=>cases hy with
    | agg cs' vs' hc'=>
     rw [J6,run_eqGuard_agg w _ T ox oy _ _ hg,J4,run_eql_struct w,h1]
     rfl
  ·obtain ⟨b,hK,hb⟩:=UW 20 9979 _ _ _ _ h
   refine ⟨_,hK,fun E w rx ry hx hy=>⟨.bool (!b), ?_,.bool _⟩⟩
   have h1:=hb E w rx ry hx hy
   cases hx with
   | agg cs vs hc=>cases hy with
    | agg cs' vs' hc'=>
     rw [J6,run_eqGuard_agg w _ T ox oy _ _ hg,J4,run_neq_struct w,h1]
     rfl
  simp_all
def Ze7 (P:Program) (ev:TypeId->AV->Prop->Prop) (cs:List AV):List Field->Prop->Prop
 | [],K=>K
 | f::fs,K=>match decide (f.name= "_") with
  | true=>False
  | false=>Z0a P f.type cs f.offset fun a=>ev f.type a (Ze7 P ev cs fs K)
def ckK (P:Program):Nat->TypeId->AV->Prop->Prop
 | 0,_,_,_=>False
 | d+1,T,x,K=>match P.underlying T with
  | some (.int _)=>K
  | some .bool=>K
  | some (.struct fs)=>match x with
   | .agg cs=>Ze7 P (ckK P d) cs fs.toList K
   | _=>False
  | some (.array n e)=>match x with
   | .agg [.arr _ m _]=>match P.underlying e,ZS P e,Nat.beq m n with
    | some (.int _),some 1,true=>K
    | _,_,_=>False
   | _=>False
  | _=>False
theorem Z45 {P:Program} {ev:TypeId->AV->Prop->Prop} {D:Nat} {cs:List AV}
  (hev:∀T x K,ev T x K->K/\∀(E:Env) (w:World) (rx:Value) (em:Bool),Zc E x rx->(Instr.checkKey em D T rx).run P w=.ok () w):
  ∀(fs:List Field) (K:Prop),Ze7 P ev cs fs K->K/\∀f∈fs,f.name≠ "_" /\∀(E:Env) (w:World) (vs:List Value),Zm E cs vs->∃r,(part f.type vs.toArray f.offset).run P w=.ok r w/\∀em,(Instr.checkKey em D f.type r).run P w=.ok () w
 | [],K,h=>⟨h,fun f hf=>by simp at hf⟩
 | f::fs,K,h=>by
  unfold Ze7 at h
  split at h
  ·simp_all
  ·rename_i hn
   have hn:f.name≠ "_" :=of_decide_eq_false hn
   obtain ⟨a,h,ha⟩:=WD h
   obtain ⟨h,hc⟩:=hev _ _ _ h
   obtain ⟨hK,hr⟩:=Z45 hev fs K h
   refine ⟨hK,fun g hg=> ?_⟩
   rcases J7.1 hg with rfl|hg
   ·refine ⟨hn,fun E w vs hcr=> ?_⟩
    obtain ⟨r,h1,h2⟩:=ha E w vs hcr
    grind
   ·exact hr g hg
theorem Vc {P:Program}:∀(d N:Nat) (T:TypeId) (x:AV) (K:Prop),ckK P d T x K->K/\∀(E:Env) (w:World) (rx:Value) (em:Bool),Zc E x rx->(Instr.checkKey em (d+1+N) T rx).run P w=.ok () w
 | 0,N,T,x,K,h=>h.elim
 | d+1,N,T,x,K,h=>by
  unfold ckK at h
  rw [show d+1+1+N=(d+1+N)+1 by omega]
  split at h
  ·simp_all [Instr.checkKey,run_underlying]
  ·simp_all [Instr.checkKey,run_underlying]
  ·rename_i fs hu
   split at h
   ·rename_i cs
    obtain ⟨hK,each⟩:=Z45 (D:=d+1+N) (fun T' x' K' h'=>Vc d N T' x' K' h') _ _ h
    refine ⟨hK,fun E w rx em hx=> ?_⟩
    cases hx with
    | agg _ vs hc=>
     rw [Instr.checkKey]
     simp only [J6,run_underlying hu,J4]
     rw [<-Array.forIn_toList]
     have each:=fun f hf=>(each f hf).imp id fun h=>h E w vs hc
     generalize fs.toList=L at each
     clear h
     induction L with
     | nil=>simp
     | cons f L ih=>
      obtain ⟨hn,r,p1,p2⟩:=each f (by simp)
      simp only [List.forIn_cons,J6,hn,ne_eq,not_false_eq_true,if_true,J4,p1,p2]
      simp_all
   simp_all
  ·rename_i n e hu
   split at h
   ·rename_i k m xs
    split at h
    ·rename_i k0 he hs hb
     have hb:=J0 hb
     subst hb
     refine ⟨h,fun E w rx em hx=> ?_⟩
     cases hx with
     | agg _ vs hc=>
      obtain ⟨ws,rfl,hw⟩:=Zm.cons_arr hc
      cases hw
      rw [Instr.checkKey]
      simp only [J6,run_underlying hu,J4]
      simp only [Std.Legacy.Range.forIn_eq_forIn_range',Std.Legacy.Range.size,Nat.add_one_sub_one,Nat.div_one]
      have each:∀j∈List.range' 0 m,j<m:=fun j hj=>by simp_all
      generalize List.range' 0 m=is at each
      induction is with
      | nil=>simp
      | cons j is ih=>
       have hj:=each j (by simp)
       have px:(part e (intCells k m xs++[]).toArray (j*1)).run P w=.ok (.int k (xs.getD j 0)) w:=by
        simp [part,isAgg,run_underlying he,Zj hj]
       have p2:(Instr.checkKey em (d+1+N) e (.int k (xs.getD j 0))).run P w=.ok () w:=by
        rw [show d+1+N=(d+N)+1 by omega]
        simp [Instr.checkKey,run_underlying he]
       simp_all [run_sizeOf]
    simp_all
   simp_all
  simp_all
def Z46 (P:Program) (kt:TypeId) (key:AV) (some_:Nat->AV->Prop) (none_:Prop):Nat->List (AV×AV)->Prop
 | _,[]=>none_
 | j,(kv,v)::r=>Z5h P 20 kt key kv fun b=>Z8 b (some_ j v) (Z46 P kt key some_ none_ (j+1) r)
def Z0c (P:Program) (kt:TypeId):Bool:=match P.underlying kt with
 | some (.struct _)=>true
 | some (.array _ _)=>true
 | some .bool=>true
 | _=>false
theorem Z5i {P:Program} (hk:Z0c P kt=true) (hu:P.underlying kt=some kd) {key kv:AV} {K:Bool->Prop} (h:Z5h P 20 kt key kv K) {b:Bool} {E:Env} (hb:∀w,(Op.equalIn 10000 kt rk re).run P w=.ok b w) (w0:World):Instr.sameNow kd rk re=none\/Instr.sameNow kd rk re=some b:=by
 unfold Z0c at hk
 rw [hu] at hk
 cases kd<;>simp at hk
 ·have:=hb w0
  cases rk<;>cases re<;>simp [Instr.sameNow]
  rw [show (10000:Nat)=9999+1 from rfl,run_equalIn_bool w0 _ kt _ _ hu] at this
  simp_all
 all_goals simp_all [Instr.sameNow]
theorem Z0d {P:Program} (hk:Z0c P kt=true) (hu:P.underlying kt=some kd) {key:AV} {S:Nat->AV->Prop} {N:Prop}:∀(es:List (AV×AV)) (j0:Nat),Z46 P kt key S N j0 es->
  (∃j v,S (j0+j) v/\j<es.length/\∀(E:Env) (w:World) (ents:List MapEntry) (i:Nat) (rk:Value),Zc E key rk->Zt E (es.map (·.1)) (ents.map (·.key))->Zt E (es.map (·.2)) (ents.map (·.val))->
   ∃r,Zc E v r/\(Instr.findAsking kt rk ents i).run P w=.ok (some (i+j,r)) w/\(Instr.findNow kd rk ents i=none\/Instr.findNow kd rk ents i=some (some (i+j,r))))\/
  (N/\∀(E:Env) (w:World) (ents:List MapEntry) (i:Nat) (rk:Value),Zc E key rk->Zt E (es.map (·.1)) (ents.map (·.key))->Zt E (es.map (·.2)) (ents.map (·.val))->
   (Instr.findAsking kt rk ents i).run P w=.ok none w/\(Instr.findNow kd rk ents i=none\/Instr.findNow kd rk ents i=some none)):=by
 intro es
 induction es with
 | nil=>
  intro j0 h
  refine .inr ⟨h,fun E w ents i rk _ hkk _=> ?_⟩
  cases ents with
  | nil=>exact ⟨by simp [Instr.findAsking],.inr rfl⟩
  | cons e r=>cases hkk
 | cons p r ih=>
  obtain ⟨kv,v⟩:=p
  intro j0 h
  have h0:=h
  obtain ⟨b,hb,heq⟩:=UW 20 9979 _ _ _ _ h
  have step:∀(E:Env) (w:World) (e:MapEntry) (rk:Value),Zc E key rk->Zc E kv e.key->(Op.equal kt rk e.key).run P w=.ok b w/\(Instr.sameNow kd rk e.key=none\/Instr.sameNow kd rk e.key=some b):=by
   intro E w e rk h1 h2
   have h3:∀w,(Op.equalIn 10000 kt rk e.key).run P w=.ok b w:=fun w=>heq E w rk e.key h1 h2
   exact ⟨h3 w,Z5i hk hu h0 (E:=E) h3 w⟩
  cases b with
  | true=>
   refine .inl ⟨0,v,hb,by simp,fun E w ents i rk h1 hkk hvv=> ?_⟩
   cases ents with
   | nil=>cases hkk
   | cons e es''=>
    cases hkk with
    | cons _ _ _ _ hk1 hk2=>cases hvv with
     | cons _ _ _ _ hv1 hv2=>
      obtain ⟨s1,s2⟩:=step E w e rk h1 hk1
      refine ⟨e.val,hv1,by simp [Instr.findAsking,s1], ?_⟩
      grind [Instr.findNow]
  | false=>
   rcases ih (j0+1) hb with ⟨j,v',hS,hj,hr⟩|⟨hN,hr⟩
   ·refine .inl ⟨j+1,v',by rw [show j0+(j+1)=j0+1+j by omega];exact hS,by simp_all,fun E w ents i rk h1 hkk hvv=> ?_⟩
    cases ents with
    | nil=>cases hkk
    | cons e es''=>
     cases hkk with
     | cons _ _ _ _ hk1 hk2=>cases hvv with
      | cons _ _ _ _ hv1 hv2=>
       obtain ⟨s1,s2⟩:=step E w e rk h1 hk1
       obtain ⟨x,x1,x2,x3⟩:=hr E w es'' (i+1) rk h1 hk2 hv2
       rw [show i+1+j=i+(j+1) by omega] at x2 x3
       refine ⟨x,x1,by simp [Instr.findAsking,s1,x2], ?_⟩
       grind [Instr.findNow]
   ·refine .inr ⟨hN,fun E w ents i rk h1 hkk hvv=> ?_⟩
    cases ents with
    | nil=>cases hkk
    | cons e es''=>
     cases hkk with
     | cons _ _ _ _ hk1 hk2=>cases hvv with
      | cons _ _ _ _ hv1 hv2=>
       obtain ⟨s1,s2⟩:=step E w e rk h1 hk1
       obtain ⟨x2,x3⟩:=hr E w es'' (i+1) rk h1 hk2 hv2
       refine ⟨by simp [Instr.findAsking,s1,x2], ?_⟩
       grind [Instr.findNow]
theorem ZX {P:Program} (hu:P.underlying kt=some kd) {w:World} {R:Option (Nat×Value)} (h1:(Instr.findAsking kt rk ents 0).run P w=.ok R w) (h2:Instr.findNow kd rk ents 0=none\/Instr.findNow kd rk ents 0=some R):(Instr.findKey kt rk ents).run P w=.ok R w:=by
 simp only [Instr.findKey,J6,run_underlying hu]
 rcases h2 with h2|h2
 all_goals simp_all
def Z5j (P:Program) (h:Z6) (T:TypeId) (m key:AV) (ok:Bool) (K:AV->Prop):Prop:=
 match P.underlying T with
 | some (.map kt et)=>match Z0c P kt,Wn P et with
  | true,some z=>match m with
   | .map none=>ckK P 20 kt key (K (okV ok z false))
   | .map (some x)=>match h.get x with
    | some (.map es)=>ckK P 20 kt key (Z46 P kt key (fun _ v=>K (okV ok v true)) (K (okV ok z false)) 0 es)
    | _=>False
   | _=>False
  | _,_=>False
 | _=>False
theorem WS {P:Program} (h:Z0c P kt=true):∃kd,P.underlying kt=some kd:=by
 unfold Z0c at h
 grind
theorem Z7z {P:Program} {h:Z6} {T:TypeId} {m key:AV} {ok:Bool} {K:AV->Prop} (hl:Z5j P h T m key ok K):
  ∃v,K v/\∀(E:Env) (w:World) (rm rk:Value),Emb E h w->Zc E m rm->Zc E key rk->∃r,(Instr.lookup T rm rk ok).run P w=.ok r w/\Zc E v r:=by
 unfold Z5j at hl
 split at hl
 ·rename_i kt et hT
  split at hl
  ·rename_i z hkd hz
   obtain ⟨zr,hz1,hz2⟩:=Xe hz
   obtain ⟨kd,hu⟩:=WS hkd
   split at hl
   ·obtain ⟨hK,hc⟩:=Vc 20 9979 _ _ _ hl
    refine ⟨_,hK,fun E w rm rk he hm hk=> ?_⟩
    cases hm
    refine ⟨_, ?_,XT (hz2 E)⟩
    have hc:=hc E w rk true hk
    have hf:(Instr.findKey kt rk []).run P w=.ok none w:=ZX hu (by simp [Instr.findAsking]) (.inr rfl)
    simp_all [Instr.lookup,run_underlying]
   ·split at hl
    ·rename_i es hg
     obtain ⟨hl,hc⟩:=Vc 20 9979 _ _ _ hl
     rcases Z0d hkd hu es 0 hl with ⟨j,v,h1,_,h2⟩|⟨h1,h2⟩
     ·refine ⟨_,h1,fun E w rm rk he hm hk=> ?_⟩
      cases hm with
      | map _ b N hb=>
       have hown:=he.own _ _ hg
       cases hown with
       | map _ b' ents clock hbb hw hkk hvv hbn=>
        rw [hbb] at hb
        cases hb
        obtain ⟨r,h3,h4,h5⟩:=h2 E w ents 0 rk hk hkk hvv
        refine ⟨_, ?_,XT h3⟩
        have hf:=ZX hu h4 h5
        simp only [Instr.lookup,J6,run_underlying hT,J4,Jf,ZE hw,hc E w rk _ hk,hf]
     ·refine ⟨_,h1,fun E w rm rk he hm hk=> ?_⟩
      cases hm with
      | map _ b N hb=>
       have hown:=he.own _ _ hg
       cases hown with
       | map _ b' ents clock hbb hw hkk hvv hbn=>
        rw [hbb] at hb
        cases hb
        obtain ⟨h4,h5⟩:=h2 E w ents 0 rk hk hkk hvv
        refine ⟨_, ?_,XT (hz2 E)⟩
        have hf:=ZX hu h4 h5
        simp only [Instr.lookup,J6,run_underlying hT,J4,Jf,ZE hw,hc E w rk _ hk,hf,hz1]
    simp_all
   simp_all
  simp_all
 simp_all
def Z22 (P:Program) (h:Z6) (T:TypeId) (m key:AV) (ok:Bool) (K:AV->Prop):Prop:=match Ul P T with
 | some _=>Z5e P h T m key ok K
 | none=>Z5j P h T m key ok K
theorem Z7A {P:Program} {h:Z6} {T:TypeId} {m key:AV} {ok:Bool} {K:AV->Prop} (hl:Z22 P h T m key ok K):
  ∃v,K v/\∀(E:Env) (w:World) (rm rk:Value),Emb E h w->Zc E m rm->Zc E key rk->∃r,(Instr.lookup T rm rk ok).run P w=.ok r w/\Zc E v r:=by
 grind [Z22,Z7u,Z7z]
def Z5k (P:Program) (h:Z6) (T:TypeId) (m key v:AV) (K:Z6->Prop):Prop:=
 match P.underlying T,m with
 | some (.map kt _),.map (some x)=>match Z0c P kt,h.get x with
  | true,some (.map es)=>ckK P 20 kt key (Z46 P kt key (fun _ _=>False) (K (h.set x (.map (es++[(key,v)])))) 0 es)
  | _,_=>False
 | _,_=>False
theorem Z7B {P:Program} {h:Z6} {T:TypeId} {m key v:AV} (hl:Z5k P h T m key v K):
  ∃h',K h'/\∀(E:Env) (w:World) (rm rk rv:Value),Emb E h w->Zc E m rm->Zc E key rk->Zc E v rv->∃w',(Instr.mapUpdate T rm rk rv).run P w=.ok () w'/\Evo E h w E h' w':=by
 unfold Z5k at hl
 split at hl
 ·rename_i kt et x hT
  split at hl
  ·rename_i es hkd hg
   obtain ⟨kd,hu⟩:=WS hkd
   obtain ⟨hl,hc⟩:=Vc 20 9979 _ _ _ hl
   rcases Z0d hkd hu es 0 hl with ⟨j,_,h1,_⟩|⟨h1,h2⟩
   ·simp_all
   ·refine ⟨_,h1,fun E w rm rk rv he hm hk hv=> ?_⟩
    cases hm with
    | map _ b N hb=>
     have hown:=he.own _ _ hg
     cases hown with
     | map _ b' ents clock hbb hw hkk hvv hbn=>
      rw [hbb] at hb
      cases hb
      have hlt:b<w.heap.size:=by
       grind
      obtain ⟨h4,h5⟩:=h2 E w ents 0 rk hk hkk hvv
      have hf:=ZX hu h4 h5
      refine ⟨{ w with heap:=w.heap.setIfInBounds b (.map (ents.toArray.push ⟨rk,rv,clock⟩) (clock+1))}, ?_, ?_⟩
      ·simp only [Instr.mapUpdate,J6,run_underlying hT,J4,ZE hw,hc E w rk _ hk,hf,Y7 _ hw]
      ·refine Yg he x _ _ b 0 hg hbb (fun i hi=> ?_) (by simp) rfl rfl ⟨rfl,J1 _⟩ ?_
       ·rw [Jd,if_neg (fun e=>hi e.symm)]
       ·refine .map _ b (ents++[⟨rk,rv,clock⟩]) (clock+1) hbb ?_ ?_ ?_ (hbn.push _ _)
        ·simp_all
        ·simp only [JS,K3]
         exact hkk.snoc hk
        ·simp only [JS,K3]
         exact hvv.snoc hv
  simp_all
 simp_all
theorem XZ {α β:Type} (f:α->β):∀(l:List α) (j:Nat),(l.eraseIdx j).map f=(l.map f).eraseIdx j
 | [],_=>rfl
 | _::_,0=>rfl
 | a::l,j+1=>by simp [XZ f l j]
theorem Zt.eraseAt {vs:List AV} {rs:List Value} (h:Zt E vs rs) (j:Nat):Zt E (vs.eraseIdx j) (rs.eraseIdx j):=by
 induction j generalizing vs rs with
 | zero=>cases h with
  | nil=>exact .nil
  | cons _ _ _ _ h1 h2=>exact h2
 | succ j ih=>cases h with
  | nil=>exact .nil
  | cons _ _ _ _ h1 h2=>exact .cons _ _ _ _ h1 (ih h2)
def Z23 (P:Program) (h:Z6) (T:TypeId) (m key:AV) (K:Z6->Prop):Prop:=
 match P.underlying T,m with
 | some (.map kt _),.map (some x)=>match Z0c P kt,h.get x with
  | true,some (.map es)=>ckK P 20 kt key (Z46 P kt key (fun j _=>K (h.set x (.map (es.eraseIdx j)))) (K (h.set x (.map es))) 0 es)
  | _,_=>False
 | _,_=>False
theorem Z2R {P:Program} {h:Z6} {T:TypeId} {m key:AV} (hl:Z23 P h T m key K):
  ∃h',K h'/\∀(E:Env) (w:World) (rm rk:Value) (tys:Array TypeId) (ty:TypeId),tys[0]? =some T->Emb E h w->Zc E m rm->Zc E key rk->∃w',(Builtin.delete_ tys ty #[rm,rk]).run P w=.ok (.tuple #[]) w'/\Evo E h w E h' w':=by
 unfold Z23 at hl
 split at hl
 ·rename_i kt et x hT
  split at hl
  ·rename_i es hkd hg
   obtain ⟨kd,hu⟩:=WS hkd
   obtain ⟨hl,hc⟩:=Vc 20 9979 _ _ _ hl
   have main:∀(es':List (AV×AV)) (K':Prop),K'->(∀(E:Env) (w:World) (ents:List MapEntry) (rk:Value),Zc E key rk->Zt E (es.map (·.1)) (ents.map (·.key))->Zt E (es.map (·.2)) (ents.map (·.val))->
     ∃R:Option (Nat×Value),(Instr.findKey kt rk ents).run P w=.ok R w/\∃ents':List MapEntry,(match R with|some (i,_)=>ents.toArray.eraseIdxIfInBounds i|none=>ents.toArray)=ents'.toArray/\Zt E (es'.map (·.1)) (ents'.map (·.key))/\Zt E (es'.map (·.2)) (ents'.map (·.val))/\∀c,YE ents c->YE ents' c)->
     ∀(E:Env) (w:World) (rm rk:Value) (tys:Array TypeId) (ty:TypeId),tys[0]? =some T->Emb E h w->Zc E (.map (some x)) rm->Zc E key rk->∃w',(Builtin.delete_ tys ty #[rm,rk]).run P w=.ok (.tuple #[]) w'/\Evo E h w E (h.set x (.map es')) w':=by
    intro es' K' _ hf E w rm rk tys ty htys he hm hk
    cases hm with
    | map _ b N hb=>
     have hown:=he.own _ _ hg
     cases hown with
     | map _ b' ents clock hbb hw hkk hvv hbn=>
      rw [hbb] at hb
      cases hb
      obtain ⟨R,h1,ents',h2,h3,h4,h5'⟩:=hf E w ents rk hk hkk hvv
      refine ⟨{ w with heap:=w.heap.setIfInBounds b (.map ents'.toArray clock)}, ?_, ?_⟩
      ·have e1:(#[Value.map (some b),rk]:Array Value)[0]? =some (.map (some b)):=rfl
       have e2:(#[Value.map (some b),rk]:Array Value)[1]? =some rk:=rfl
       unfold Builtin.delete_
       rw [htys,e1,e2]
       simp only [J6,run_underlying hT,J4,ZE hw,hc E w rk _ hk,h1]
       cases R with
       | none=>simp only [J6,Y7 _ hw,J4,Jf];rw [<-h2]
       | some r=>obtain ⟨i,v⟩:=r;simp only [J6,Y7 _ hw,J4,Jf];rw [<-h2]
      ·refine Yg he x _ _ b 0 hg hbb (fun i hi=> ?_) (by simp) rfl rfl ⟨rfl,J1 _⟩ ?_
       ·rw [Jd,if_neg (fun e=>hi e.symm)]
       ·have hlt:b<w.heap.size:=by grind
        refine .map _ b ents' clock hbb ?_ h3 h4 (h5' _ hbn)
        simp_all
   rcases Z0d hkd hu es 0 hl with ⟨j,v,h1,hj,h2⟩|⟨h1,h2⟩
   ·rw [Jq] at h1
    refine ⟨_,h1,main _ _ h1 fun E w ents rk hk hkk hvv=> ?_⟩
    obtain ⟨r,_,h4,h5⟩:=h2 E w ents 0 rk hk hkk hvv
    refine ⟨_,ZX hu h4 h5,ents.eraseIdx j, ?_, ?_, ?_,fun _ h=>h.erase j⟩
    ·show ents.toArray.eraseIdxIfInBounds (0+j)=_
     rw [Jq]
     unfold Array.eraseIdxIfInBounds
     split
     ·simp
     ·rw [Kc (by simp at*;omega)]
    ·rw [XZ,XZ];exact hkk.eraseAt j
    ·rw [XZ,XZ];exact hvv.eraseAt j
   ·refine ⟨_,h1,main _ _ h1 fun E w ents rk hk hkk hvv=> ?_⟩
    obtain ⟨h4,h5⟩:=h2 E w ents 0 rk hk hkk hvv
    exact ⟨_,ZX hu h4 h5,ents,rfl,hkk,hvv,fun _ h=>h⟩
  simp_all
 simp_all
def Z24 (P:Program) (h:Z6) (T:TypeId) (m key v:AV) (K:Z6->Prop):Prop:=match Ul P T with
 | some _=>Z5f P h T m key v K
 | none=>Z5k P h T m key v K
theorem Z7C {P:Program} {h:Z6} {T:TypeId} {m key v:AV} (hl:Z24 P h T m key v K):
  ∃h',K h'/\∀(E:Env) (w:World) (rm rk rv:Value),Emb E h w->Zc E m rm->Zc E key rk->Zc E v rv->∃w',(Instr.mapUpdate T rm rk rv).run P w=.ok () w'/\Evo E h w E h' w':=by
 grind [Z24,Z7v,Z7B]
def Z0T:AV->AV->Bool
 | .int k a,v=>match v with|.int k' b=>decide (k=k')&&(a==b)|_=>false
 | .bool a,v=>match v with|.bool b=>a==b|_=>false
 | .arr k n xs,v=>match v with|.arr k' n' ys=>decide (k=k')&&Nat.beq n n'&&(xs==ys)|_=>false
 | _,_=>false
def UX:List AV->List AV->Bool
 | [],l=>match l with|[]=>true|_=>false
 | a::r,l=>match l with
  | b::s=>(match r,s with|[],[]=>Z0T a b|r,s=>Z0T a b&&UX r s)
  | []=>false
def Zz:AV->AV->Bool
 | .agg cs,v=>match v with|.agg ds=>UX cs ds|_=>false
 | .arr _ _ _,_=>false
 | a,v=>Z0T a v
theorem Z0U {a b:AV} (h:Z0T a b=true):a=b/\((∃k n,a=.int k n)\/(∃x,a=.bool x)\/∃k n xs,a=.arr k n xs):=by
 unfold Z0T at h
 split at h
 ·grind
 ·grind
 ·split at h
  all_goals simp_all
 ·cases h
def Z8R (a:AV):Prop:=(∃k n,a=.int k n)\/(∃x,a=.bool x)\/∃k n xs,a=.arr k n xs
theorem Z2S:∀{l m:List AV},UX l m=true->l=m/\∀a∈l,Z8R a
 | [],m,h=>by
  grind [UX]
 | a::r,m,h=>by
  unfold UX at h
  split at h
  ·split at h
   ·grind [Z0U,Z8R]
   ·rw [J2] at h
    obtain ⟨rfl,h1⟩:=Z0U h.1
    obtain ⟨rfl,h2⟩:=Z2S h.2
    refine ⟨rfl,fun x hx=> ?_⟩
    rcases J7.1 hx with rfl|hx
    ·exact h1
    simp_all
  ·cases h
theorem VS (n:Nat) (k:IntKind) (a:Int):Instr.sameBits (n+1) (.int k a) (.int k a)=true:=by simp [Instr.sameBits]
theorem Qp (n:Nat) (a:Bool):Instr.sameBits (n+1) (.bool a) (.bool a)=true:=by simp [Instr.sameBits]
theorem UY {E:Env}:∀{l:List AV} {r s:List Value},(∀a∈l,Z8R a)->Zm E l r->Zm E l s->r=s/\∀v∈r,∀n,Instr.sameBits (n+1) v v=true
 | [],r,s,_,h1,h2=>by cases h1;cases h2;simp_all
 | a::l,r,s,hs,h1,h2=>by
  have ha:=hs a (Jz ..)
  have hl:∀x∈l,Z8R x:=fun x hx=>hs x (Jh _ hx)
  rcases ha with ⟨k,n,rfl⟩|⟨x,rfl⟩|⟨k,n,xs,rfl⟩
  ·cases h1 with
   | one v c vs cs h0 h1 hv t=>cases hv;cases h2 with
    | one v c vs cs h0 h1 hv t'=>cases hv;obtain ⟨e,h3⟩:=UY hl t t';exact ⟨by rw [e],fun v hv n=>by
      rcases J7.1 hv with rfl|hv
      ·exact VS _ _ _
      ·exact h3 v hv n⟩
  ·cases h1 with
   | one v c vs cs h0 h1 hv t=>cases hv;cases h2 with
    | one v c vs cs h0 h1 hv t'=>cases hv;obtain ⟨e,h3⟩:=UY hl t t';exact ⟨by rw [e],fun v hv n=>by
      rcases J7.1 hv with rfl|hv
      ·exact Qp _ _
      ·exact h3 v hv n⟩
  ·obtain ⟨ws,rfl,t⟩:=Zm.cons_arr h1
   obtain ⟨ws',rfl,t'⟩:=Zm.cons_arr h2
   obtain ⟨e,h3⟩:=UY hl t t'
   refine ⟨by rw [e],fun v hv m=> ?_⟩
   rcases JV.1 hv with hv|hv
   ·obtain ⟨i,_,rfl⟩:=Kh.1 hv
    exact VS _ _ _
   ·exact h3 v hv m
theorem Z7D {a b:AV} (h:Zz a b=true) {r s:Value} (hr:Zc E a r) (hs:Zc E b s):a=b/\r=s/\∀n,Instr.sameBits (n+2) r s=true:=by
 unfold Zz at h
 split at h
 ·split at h
  ·obtain ⟨rfl,h1⟩:=Z2S h
   cases hr with
   | agg _ vs hc=>cases hs with
    | agg _ ws hc'=>
     obtain ⟨rfl,h2⟩:=UY h1 hc hc'
     refine ⟨rfl,rfl,fun n=> ?_⟩
     simp only [Instr.sameBits,BEq.rfl,Bool.true_and,List.all_eq_true]
     intro p hp
     obtain ⟨i,hi⟩:=JX.1 hp
     grind
  ·cases h
 ·cases h
 ·obtain ⟨rfl,h3⟩:=Z0U h
  rcases h3 with ⟨k,n,rfl⟩|⟨x,rfl⟩|⟨k,n,xs,rfl⟩
  ·cases hr;cases hs;simp_all [VS]
  ·cases hr;cases hs;simp_all [Qp]
  simp_all
@[irreducible] def Z8S (P:Program) (kt:TypeId) (a b:AV):Prop:=Z5h P 20 kt a b fun r=>r=Zz a b
inductive Y3 (P:Program) (kt:TypeId) (key:AV) (n:Nat) (kf:Nat->AV):Prop
 | mk (h:∀i,i<n->Z8S P kt key (kf i)):Y3 P kt key n kf
def Zn (p:Nat->Bool) (n:Nat):Nat:=match (List.range n).find? p with|some i=>i|none=>n
theorem Um {p:Nat->Bool} {n i:Nat} (hi:i<n) (hp:p i=true) (hb:∀j,j<i->p j=false):Zn p n=i:=by
 unfold Zn
 have:(List.range n).find? p=some i:=by
  simp_all
 rw [this]
theorem W0 {p:Nat->Bool} {n:Nat} (hb:∀j,j<n->p j=false):Zn p n=n:=by
 unfold Zn
 have:(List.range n).find? p=none:=by
  simp_all
 rw [this]
theorem Yt (p:Nat->Bool) (n:Nat):(Zn p n=n/\∀j,j<n->p j=false)\/(Zn p n<n/\p (Zn p n)=true/\∀j,j<Zn p n->p j=false):=by
 cases h:(List.range n).find? p with
 | none=>
  grind [Zn]
 | some i=>
  grind [Zn,List.find?_range_eq_some]
theorem Z6d {P:Program} (hu:P.underlying kt=some kd) {b:Bool} {w:World} (h:(Op.equalIn 10000 kt rk re).run P w=.ok b w):Instr.sameNow kd rk re=none\/Instr.sameNow kd rk re=some b:=by
 cases hs:Instr.sameNow kd rk re with
 | none=>simp_all
 | some c=>
  refine .inr ?_
  unfold Instr.sameNow at hs
  split at hs
  ·simp_all [run_equalIn_int]
  ·cases hs
   rw [Op.equalIn] at h
   simp only [J6,run_underlying hu,J4,Jf,Result.ok.injEq,and_true] at h
   rw [h]
  all_goals simp_all [run_equalIn_bool]
theorem Z47 {P:Program} {kt:TypeId} {kd:TypeDesc} (hu:P.underlying kt=some kd) {rk:Value} {w:World}:∀(ents:List MapEntry) (p:Nat->Bool) (i0:Nat),
  (∀(i:Nat) (e:MapEntry),ents[i]? =some e->(Op.equalIn 10000 kt rk e.key).run P w=.ok (p i) w)->
  (∃(j:Nat) (e:MapEntry),ents[j]? =some e/\p j=true/\(∀i,i<j->p i=false)/\(Instr.findAsking kt rk ents i0).run P w=.ok (some (i0+j,e.val)) w/\(Instr.findNow kd rk ents i0=none\/Instr.findNow kd rk ents i0=some (some (i0+j,e.val))))\/
  ((∀i,i<ents.length->p i=false)/\(Instr.findAsking kt rk ents i0).run P w=.ok none w/\(Instr.findNow kd rk ents i0=none\/Instr.findNow kd rk ents i0=some none))
 | [],p,i0,_=>.inr ⟨by simp,by simp [Instr.findAsking],.inr rfl⟩
 | e::r,p,i0,h=>by
  have h0:=h 0 e rfl
  have s1:(Op.equal kt rk e.key).run P w=.ok (p 0) w:=h0
  have s2:=Z6d hu h0
  cases hp:p 0 with
  | true=>
   rw [hp] at s1 s2
   refine .inl ⟨0,e,rfl,hp,by omega,by simp [Instr.findAsking,s1], ?_⟩
   grind [Instr.findNow]
  | false=>
   rw [hp] at s1 s2
   rcases Z47 hu r (fun i=>p (i+1)) (i0+1) (fun i e' he=>h (i+1) e' (by simp_all)) with ⟨j,e',h1,h2,h3,h4,h5⟩|⟨h1,h2,h3⟩
   ·refine .inl ⟨j+1,e',by simp_all,h2,fun i hi=> ?_, ?_, ?_⟩
    ·cases i with
     | zero=>exact hp
     | succ i=>simp_all
    ·rw [show i0+(j+1)=i0+1+j by omega]
     simp [Instr.findAsking,s1,h4]
    grind [Instr.findNow]
   ·refine .inr ⟨fun i hi=> ?_,by simp [Instr.findAsking,s1,h2], ?_⟩
    all_goals grind [Instr.findNow]
theorem XF {P:Program} (hu:P.underlying kt=some kd) {key:AV} {n:Nat} (ha:Y3 P kt key n kf) {w:World} (hl:ents.length=n)
  (hk:∀(i:Nat) (e:MapEntry),ents[i]? =some e->Zc E (kf i) e.key) (hv:∀(i:Nat) (e:MapEntry),ents[i]? =some e->Zc E (vf i) e.val) (hr:Zc E key rk):
  (∃(e:MapEntry),Zn (fun i=>Zz key (kf i)) n<n/\ents[Zn (fun i=>Zz key (kf i)) n]? =some e/\Zz key (kf (Zn (fun i=>Zz key (kf i)) n))=true/\Zc E (vf (Zn (fun i=>Zz key (kf i)) n)) e.val/\(Instr.findKey kt rk ents).run P w=.ok (some (Zn (fun i=>Zz key (kf i)) n,e.val)) w)\/
  (Zn (fun i=>Zz key (kf i)) n=n/\(Instr.findKey kt rk ents).run P w=.ok none w):=by
 obtain ⟨ha⟩:=ha
 have each:∀(i:Nat) (e:MapEntry),ents[i]? =some e->(Op.equalIn 10000 kt rk e.key).run P w=.ok (Zz key (kf i)) w:=fun i e he=>by
  have hi:=(Ja.1 he).1
  have hk0:=ha i (by omega)
  unfold Z8S at hk0
  obtain ⟨b,rfl,h2⟩:=UW 20 9979 _ _ _ _ hk0
  grind
 rcases Z47 hu ents (fun i=>Zz key (kf i)) 0 each with ⟨j,e,h1,h2,h3,h4,h5⟩|⟨h1,h2,h3⟩
 ·have hj:=(Ja.1 h1).1
  have e1:Zn (fun i=>Zz key (kf i)) n=j:=Um (by omega) h2 h3
  simp_all [ZX]
 simp_all [W0,ZX]
def Z5l (P:Program) (T:TypeId) (n:Nat) (kf vf:Nat->AV) (key:AV) (ok:Bool) (K:AV->Prop):Prop:=
 match P.underlying T with
 | some (.map kt et)=>match P.underlying kt,Wn P et with
  | some _,some z=>ckK P 20 kt key (Y3 P kt key n kf/\Z8 (Nat.blt (Zn (fun i=>Zz key (kf i)) n) n) (K (okV ok (vf (Zn (fun i=>Zz key (kf i)) n)) true)) (K (okV ok z false)))
  | _,_=>False
 | _=>False
def Wa (f:Nat->AV) (j:Nat) (v:AV) (i:Nat):AV:=match Nat.beq i j with|true=>v|false=>f i
theorem Zbo {J:Nat} {e e':MapEntry} (h:ents[J]? =some e) (hb:e'.born=e.born):(ents.set J e').map (·.born)=ents.map (·.born):=by
 obtain ⟨hj,rfl⟩:=Ja.1 h
 rw [List.map_set,hb]
 apply List.ext_getElem (by simp)
 intro i h1 h2
 rw [List.getElem_set]
 split<;>simp_all
def Z5m (P:Program) (h:Z6) (T:TypeId) (x n:Nat) (kf vf:Nat->AV) (key v:AV) (K:Z6->Prop):Prop:=
 match P.underlying T with
 | some (.map kt _)=>match P.underlying kt with
  | some _=>ckK P 20 kt key (Y3 P kt key n kf/\Z8 (Nat.blt (Zn (fun i=>Zz key (kf i)) n) n) (K (h.set x (.fmap n kf (Wa vf (Zn (fun i=>Zz key (kf i)) n) v)))) (K (h.set x (.fmap (n+1) (Wa kf n key) (Wa vf n v)))))
  | none=>False
 | _=>False
theorem Z7E {P:Program} {h:Z6} {T:TypeId} {x n:Nat} {key:AV} {ok:Bool} {K:AV->Prop} (hg:h.get x=some (.fmap n kf vf)) (hl:Z5l P T n kf vf key ok K):
  ∃v,K v/\∀(E:Env) (w:World) (rm rk:Value),Emb E h w->Zc E (.map (some x)) rm->Zc E key rk->∃r,(Instr.lookup T rm rk ok).run P w=.ok r w/\Zc E v r:=by
 unfold Z5l at hl
 split at hl
 ·rename_i kt et hT
  split at hl
  ·rename_i kd z hu hz
   obtain ⟨zr,hz1,hz2⟩:=Xe hz
   obtain ⟨⟨ha,hl⟩,hc⟩:=Vc 20 9979 _ _ _ hl
   cases hb:Nat.blt (Zn (fun i=>Zz key (kf i)) n) n with
   | true=>
    have hlt:Zn (fun i=>Zz key (kf i)) n<n:=Je hb
    rw [hb] at hl
    refine ⟨_,hl,fun E w rm rk he hm hk=> ?_⟩
    cases hm with
    | map _ b N hb=>
     have hown:=he.own _ _ hg
     cases hown with
     | fmap _ _ _ b' ents clock hbb hw hll hkk hvv hbn=>
      rw [hbb] at hb
      cases hb
      rcases XF (w:=w) hu ha hll hkk hvv hk with ⟨e,_,_,_,h3,h4⟩|⟨h3,_⟩
      ·refine ⟨_, ?_,XT h3⟩
       simp only [Instr.lookup,J6,run_underlying hT,J4,Jf,ZE hw,hc E w rk _ hk,h4]
      ·omega
   | false=>
    rw [hb] at hl
    refine ⟨_,hl,fun E w rm rk he hm hk=> ?_⟩
    cases hm with
    | map _ b N hb2=>
     have hown:=he.own _ _ hg
     cases hown with
     | fmap _ _ _ b' ents clock hbb hw hll hkk hvv hbn=>
      rw [hbb] at hb2
      cases hb2
      rcases XF (w:=w) hu ha hll hkk hvv hk with ⟨e,h3,_⟩|⟨h3,h4⟩
      ·have h5:Nat.blt (Zn (fun i=>Zz key (kf i)) n) n=true:=JY h3
       rw [h5] at hb;cases hb
      ·refine ⟨_, ?_,XT (hz2 E)⟩
       simp only [Instr.lookup,J6,run_underlying hT,J4,Jf,ZE hw,hc E w rk _ hk,h4,hz1]
  simp_all
 simp_all
theorem Z5n {P:Program} {w:World} {a b:Value} (h:Instr.sameBits 10000 a b=true):(Instr.keyThatStays a b).run P w=.ok b w:=by
 simp [Instr.keyThatStays,h]
theorem Z7F {P:Program} {h:Z6} {T:TypeId} {x n:Nat} {key v:AV} (hg:h.get x=some (.fmap n kf vf)) (hl:Z5m P h T x n kf vf key v K):
  ∃h',K h'/\∀(E:Env) (w:World) (rm rk rv:Value),Emb E h w->Zc E (.map (some x)) rm->Zc E key rk->Zc E v rv->∃w',(Instr.mapUpdate T rm rk rv).run P w=.ok () w'/\Evo E h w E h' w':=by
 unfold Z5m at hl
 split at hl
 ·rename_i kt et hT
  split at hl
  ·rename_i kd hu
   obtain ⟨⟨ha,hl⟩,hc⟩:=Vc 20 9979 _ _ _ hl
   cases hb:Nat.blt (Zn (fun i=>Zz key (kf i)) n) n with
   | true=>
    have hlt:Zn (fun i=>Zz key (kf i)) n<n:=Je hb
    rw [hb] at hl
    refine ⟨_,hl,fun E w rm rk rv he hm hk hv=> ?_⟩
    cases hm with
    | map _ b N hb=>
     have hown:=he.own _ _ hg
     cases hown with
     | fmap _ _ _ b' ents clock hbb hw hll hkk hvv hbn=>
      rw [hbb] at hb
      cases hb
      rcases XF (w:=w) hu ha hll hkk hvv hk with ⟨e,_,h2,h3,_,h4⟩|⟨h3,_⟩
      ·generalize hJ:Zn (fun i=>Zz key (kf i)) n=J at*
       obtain ⟨_,h5,h6⟩:=Z7D h3 hk (hkk J e h2)
       have hs:(Instr.keyThatStays e.key rk).run P w=.ok rk w:=Z5n (by rw [<-h5];rw [<-h5] at h6;simp_all)
       have hbl:b<w.heap.size:=by
        grind
       refine ⟨{ w with heap:=w.heap.setIfInBounds b (.map (ents.set J (⟨rk,rv,e.born⟩:MapEntry)).toArray clock)}, ?_, ?_⟩
       ·have hm:ents.toArray.modify J (fun e=>{ e with key:=rk,val:=rv})=(ents.set J (⟨rk,rv,e.born⟩:MapEntry)).toArray:=by
         grind
        simp only [Instr.mapUpdate,J6,run_underlying hT,J4,ZE hw,hc E w rk _ hk,h4,List.getElem?_toArray,h2,Option.map_some,Option.getD_some,hs,hm,Y7 _ hw]
       ·refine Yg he x _ (.fmap n kf (Wa vf J v)) b 0 hg hbb (fun i hi=>by grind) (by simp) rfl rfl ⟨rfl,J1 _⟩ ?_
        ·refine .fmap _ _ _ b (ents.set J ⟨rk,rv,e.born⟩) clock hbb (by simp_all) (by simp [hll]) (fun i e' he'=> ?_) (fun i e' he'=> ?_) (hbn.of_born (Zbo h2 rfl))
         ·rw [Kq] at he'
          grind
         ·rw [Kq] at he'
          unfold Wa
          split at he'
          ·grind [Jj]
          simp_all [Zu,Ne.symm]
      ·omega
   | false=>
    rw [hb] at hl
    refine ⟨_,hl,fun E w rm rk rv he hm hk hv=> ?_⟩
    cases hm with
    | map _ b N hb2=>
     have hown:=he.own _ _ hg
     cases hown with
     | fmap _ _ _ b' ents clock hbb hw hll hkk hvv hbn=>
      rw [hbb] at hb2
      cases hb2
      rcases XF (w:=w) hu ha hll hkk hvv hk with ⟨e,h3,_⟩|⟨h3,h4⟩
      ·have h5:Nat.blt (Zn (fun i=>Zz key (kf i)) n) n=true:=JY h3
       rw [h5] at hb;cases hb
      ·have hbl:b<w.heap.size:=by
        grind
       refine ⟨{ w with heap:=w.heap.setIfInBounds b (.map (ents.toArray.push ⟨rk,rv,clock⟩) (clock+1))}, ?_, ?_⟩
       ·simp only [Instr.mapUpdate,J6,run_underlying hT,J4,ZE hw,hc E w rk _ hk,h4,Y7 _ hw]
       ·refine Yg he x _ (.fmap (n+1) (Wa kf n key) (Wa vf n v)) b 0 hg hbb (fun i hi=>by grind) (by simp) rfl rfl ⟨rfl,J1 _⟩ ?_
        ·refine .fmap _ _ _ b (ents++[⟨rk,rv,clock⟩]) (clock+1) hbb (by simp_all) (by simp [hll]) (fun i e' he'=> ?_) (fun i e' he'=> ?_) (hbn.push _ _)
         all_goals
          unfold Wa
          rw [List.getElem?_append] at he'
          split at he'
          ·grind [Zu]
          ·have h7:=(Ja.1 he').1
           simp at h7
           have h8:i=n:=by omega
           grind [Jj]
  simp_all
 simp_all
def Z5o (P:Program) (h:Z6) (T:TypeId) (m key:AV) (ok:Bool) (K:AV->Prop):Prop:=match m with
 | .map (some x)=>match h.get x with
  | some (.fmap n kf vf)=>Z5l P T n kf vf key ok K
  | _=>Z22 P h T m key ok K
 | _=>Z22 P h T m key ok K
theorem Z7G {P:Program} {h:Z6} {T:TypeId} {m key:AV} {ok:Bool} {K:AV->Prop} (hl:Z5o P h T m key ok K):
  ∃v,K v/\∀(E:Env) (w:World) (rm rk:Value),Emb E h w->Zc E m rm->Zc E key rk->∃r,(Instr.lookup T rm rk ok).run P w=.ok r w/\Zc E v r:=by
 unfold Z5o at hl
 grind [Z7E,Z7A]
def Z25 (P:Program) (h:Z6) (T:TypeId) (m key v:AV) (K:Z6->Prop):Prop:=match m with
 | .map (some x)=>match h.get x with
  | some (.fmap n kf vf)=>Z5m P h T x n kf vf key v K
  | _=>Z24 P h T m key v K
 | _=>Z24 P h T m key v K
theorem Z2T {P:Program} {h:Z6} {T:TypeId} {m key v:AV} (hl:Z25 P h T m key v K):
  ∃h',K h'/\∀(E:Env) (w:World) (rm rk rv:Value),Emb E h w->Zc E m rm->Zc E key rk->Zc E v rv->∃w',(Instr.mapUpdate T rm rk rv).run P w=.ok () w'/\Evo E h w E h' w':=by
 unfold Z25 at hl
 grind [Z7F,Z7C]
theorem Z0V {h:Z6} {w:World} (e:Emb E h w) (c M:Nat):Evo E h w (E.ext h.next c M) ⟨h.next+1,h.bs⟩ w:=by
 have hfr:E.blk h.next=none:=e.fresh _ (J1 _)
 have hle:E.le (E.ext h.next c M):=Env.ext_le hfr
 have hne:∀x B,h.get x=some B->x≠h.next:=fun x B hx=>by have:=e.lt x B hx;omega
 refine ⟨hle,⟨?_, ?_, ?_, ?_, ?_, ?_⟩,J1 _,rfl,rfl,⟨rfl,J1 _⟩,fun _ _ _=>rfl, ?_,fun _ _ h=>h⟩
 ·intro x hx
  have hx':h.next+1<=x:=hx
  rw [Env.ext_other _ _ _ (by omega)]
  exact e.fresh x (by omega)
 ·intro x B hx
  have:=e.lt x B hx
  show x<h.next+1
  omega
 ·intro x B hx
  exact (e.own x B hx).mono hle fun hn=>by rw [Env.ext_other _ _ _ (hne x B hx)];exact hn
 ·intro x y B B' b N N' hx hy hbx hby
  rw [Env.ext_other _ _ _ (hne x B hx)] at hbx
  rw [Env.ext_other _ _ _ (hne y B' hy)] at hby
  exact e.disj x y B B' b N N' hx hy hbx hby
 ·exact e.imm
 ·intro a v x B N hi hx hb
  rw [Env.ext_other _ _ _ (hne x B hx)] at hb
  exact e.sep a v x B N hi hx hb
 ·rintro b ⟨x,B,N,hx,hb⟩
  rw [Env.ext_other _ _ _ (hne x B hx)] at hb
  exact .inl ⟨x,B,N,hx,hb⟩
def Z5p (P:Program) (h:Z6) (T:TypeId) (m key:AV) (K:AV->Z6->Prop):Prop:=
 match P.underlying T,m with
 | some (.map kt et),.map (some x)=>match Z0c P kt,Wn P et,h.get x with
  | true,some z,some (.map es)=>ckK P 20 kt key (Z46 P kt key (fun _ _=>False) (K (.tuple [z,.stamp h.next]) (Z6.set ⟨h.next+1,h.bs⟩ x (.smap (es++[(key,z)]) es.length h.next))) 0 es)
  | _,_,_=>False
 | _,_=>False
theorem Z48 {P:Program} {h:Z6} {T:TypeId} {m key:AV} {K:AV->Z6->Prop} (hl:Z5p P h T m key K):
  ∃v h',K v h'/\∀(E:Env) (w:World) (rm rk:Value),Emb E h w->Zc E m rm->Zc E key rk->∃r w' E',(Instr.mapEntry T rm rk).run P w=.ok r w'/\Evo E h w E' h' w'/\Zc E' v r:=by
 unfold Z5p at hl
 split at hl
 ·rename_i kt et x hT
  split at hl
  ·rename_i z es hkd hz hg
   obtain ⟨zr,hz1,hz2⟩:=Xe hz
   obtain ⟨kd,hu⟩:=WS hkd
   obtain ⟨hl,hc⟩:=Vc 20 9979 _ _ _ hl
   rcases Z0d hkd hu es 0 hl with ⟨j,_,h1,_⟩|⟨h1,h2⟩
   ·simp_all
   ·refine ⟨_,_,h1,fun E w rm rk he hm hk=> ?_⟩
    cases hm with
    | map _ b N hb=>
     have hown:=he.own _ _ hg
     cases hown with
     | map _ b' ents clock hbb hw hkk hvv hbn=>
      rw [hbb] at hb
      cases hb
      have hlt:b<w.heap.size:=by grind
      obtain ⟨h4,h5⟩:=h2 E w ents 0 rk hk hkk hvv
      have hf:=ZX hu h4 h5
      have hev:=Z0V he clock 0
      have hle:=hev.le
      have hlen:es.length=ents.length:=by
       have:=hkk.length
       simpa using this.symm
      have hx:x≠h.next:=fun e=>by have:=he.lt x _ hg;omega
      have hbb':(E.ext h.next clock 0).blk x=some (b,0):=by rw [Env.ext_other _ _ _ hx];exact hbb
      refine ⟨.tuple #[zr,goInt clock],{ w with heap:=w.heap.setIfInBounds b (.map (ents.toArray.push ⟨rk,zr,clock⟩) (clock+1))},E.ext h.next clock 0, ?_,hev.trans ?_, ?_⟩
      ·simp only [Instr.mapEntry,J6,run_underlying hT,J4,ZE hw,hc E w rk _ hk,hf,hz1,Y7 _ hw,Jf]
      ·refine Yg hev.emb x (.map es) _ b 0 hg hbb' (fun i hi=> ?_) (by simp) rfl rfl ⟨rfl,J1 _⟩ ?_
       ·rw [Jd,if_neg (fun e=>hi e.symm)]
       ·refine .smap _ es.length h.next b (ents++[⟨rk,zr,clock⟩]) (clock+1) clock ⟨rk,zr,clock⟩ hbb' ?_ ?_ ?_ (hbn.push _ _) (Env.ext_same ..) (by rw [hlen];simp) rfl
        ·simp_all
        ·simp only [JS,K3]
         exact (hkk.mono hle).snoc (hk.mono hle)
        ·simp only [JS,K3]
         exact (hvv.mono hle).snoc (hz2 _)
      ·exact .tuple [z,.stamp h.next] [zr,.int .i64 clock] (.cons _ _ _ _ (hz2 _) (.cons _ _ _ _ (.stamp _ clock (Env.ext_same ..)) .nil))
  simp_all
 simp_all
def Z2U:List (AV×AV)->Nat->AV->List (AV×AV)
 | [],_,_=>[]
 | (k,_)::r,0,v=>(k,v)::r
 | p::r,i+1,v=>p::Z2U r i v
theorem Z1r:∀(es:List (AV×AV)) (i:Nat) (v:AV),(Z2U es i v).map (·.1)=es.map (·.1)
 | [],_,_=>rfl
 | (_,_)::_,0,_=>rfl
 | p::r,i+1,v=>by simp [Z2U,Z1r r i v]
theorem Z1s {E:Env} {v:AV} {rv:Value} (hv:Zc E v rv):∀(es:List (AV×AV)) (i:Nat) (ents:List MapEntry),Zt E (es.map (·.2)) (ents.map (·.val))->Zt E ((Z2U es i v).map (·.2)) ((ents.modify i fun e=>{ e with val:=rv}).map (·.val))
 | [],i,ents,h=>by
  cases ents with
  | nil=>cases i<;>exact .nil
  | cons _ _=>cases h
 | (k,u)::r,0,ents,h=>by
  cases ents with
  | nil=>cases h
  | cons e q=>cases h with
   | cons _ _ _ _ h1 h2=>exact .cons _ _ _ _ hv h2
 | p::r,i+1,ents,h=>by
  cases ents with
  | nil=>cases h
  | cons e q=>cases h with
   | cons _ _ _ _ h1 h2=>exact .cons _ _ _ _ h1 (Z1s hv r i q h2)
theorem modify_keys {rv:Value}:∀(ents:List MapEntry) (i:Nat),(ents.modify i fun e=>{ e with val:=rv}).map (·.key)=ents.map (·.key)
 | [],i=>by cases i<;>rfl
 | _::_,0=>rfl
 | e::q,i+1=>by
  have:=modify_keys (rv:=rv) q i
  simpa using this
theorem Z1t {rv:Value}:∀(ents:List MapEntry) (i:Nat),(ents.modify i fun e=>{ e with val:=rv}).map (·.born)=ents.map (·.born)
 | [],i=>by cases i<;>rfl
 | _::_,0=>rfl
 | e::q,i+1=>by
  have:=Z1t (rv:=rv) q i
  simpa using this
theorem find_born:∀(ents:List MapEntry) (i:Nat) (e:MapEntry),(ents.map (·.born)).Nodup->ents[i]? =some e->ents.findIdx? (fun q=>(q.born:Int)==(e.born:Int))=some i
 | [],i,e,_,h=>by simp at h
 | q::r,0,e,hn,h=>by
  simp at h
  subst h
  simp [List.findIdx?_cons]
 | q::r,i+1,e,hn,h=>by
  have hr:r[i]? =some e:=by simpa using h
  rw [K3,List.nodup_cons] at hn
  have hne:q.born≠e.born:=fun hq=>hn.1 (hq▸Kh.2 ⟨e,K2 hr,rfl⟩)
  have hb:((q.born:Int)==(e.born:Int))=false:=by
   rw [beq_eq_false_iff_ne]
   omega
  rw [List.findIdx?_cons,hb,find_born r i e hn.2 hr]
  rfl
def Z7H (h:Z6) (m s v:AV) (K:Z6->Prop):Prop:=
 match m,s with
 | .map (some x),.stamp y=>match h.get x with
  | some (.smap es i y')=>match Nat.beq y y' with
   | true=>K (h.set x (.map (Z2U es i v)))
   | false=>False
  | _=>False
 | _,_=>False
theorem Za5 {P:Program} {h:Z6} {m s v:AV} (hl:Z7H h m s v K):
  ∃h',K h'/\∀(E:Env) (w:World) (T:TypeId) (rm rs rv:Value),Emb E h w->Zc E m rm->Zc E s rs->Zc E v rv->∃w',(Instr.entryStore T rm rs rv).run P w=.ok () w'/\Evo E h w E h' w':=by
 unfold Z7H at hl
 split at hl
 ·rename_i x y
  split at hl
  ·rename_i es i y' hg
   split at hl
   ·rename_i hy
    have hy:=J0 hy
    subst hy
    refine ⟨_,hl,fun E w T rm rs rv he hm hs hv=> ?_⟩
    cases hm with
    | map _ b N hb=>cases hs with
     | stamp _ c hc=>
      have hown:=he.own _ _ hg
      cases hown with
      |smap _ _ _ b' ents clock s e hbb hw hkk hvv hbn hss hi hye=>
       rw [hbb] at hb
       cases hb
       rw [hss] at hc
       cases hc
       subst hye
       have hf:=find_born ents i e hbn.nd hi
       have hlt:b<w.heap.size:=by grind
       refine ⟨{ w with heap:=w.heap.setIfInBounds b (.map (ents.modify i fun e=>{ e with val:=rv}).toArray clock)}, ?_, ?_⟩
       ·simp only [Instr.entryStore,J6,ZE hw,J4,asInt,asIntOf,Jf,List.findIdx?_toArray,hf,Y7 _ hw,List.modify_toArray]
       ·refine Yg he x _ _ b 0 hg hbb (fun j hj=> ?_) (by simp) rfl rfl ⟨rfl,J1 _⟩ ?_
        ·rw [Jd,if_neg (fun e=>hj e.symm)]
        ·refine .map _ b _ clock hbb (by simp [hlt]) ?_ (Z1s hv es i ents hvv) (hbn.of_born (Z1t _ _))
         rw [Z1r,modify_keys]
         exact hkk
   simp_all
  simp_all
 simp_all
end Go.Tk
end
section
namespace Go.Tk
open IntKind (i64 u8 u32 u64 wrap)
variable {E:Env} {B:Blk} {K:AV->Z6->Prop} {ents:List MapEntry} {rx:Value} {j:Nat} {kf vf:Nat->AV}
open Go.ChangeMaps (setBlock)
theorem Z0e {E:Env}:∀{vs:List AV} {rs:List Value} {i:Nat} {v:AV} {r:Value},Zt E vs rs->vs[i]? =some v->rs[i]? =some r->Zc E v r
 | _,_,0,v,r,.cons _ _ _ _ h _,h1,h2=>by
  simp_all
 | _,_,i+1,v,r,.cons _ _ _ _ _ t,h1,h2=>Z0e t (by simpa using h1) (by simp_all)
 | _,_,_,v,r,.nil,h1,_=>by simp at h1
theorem Z0f {h:Z6} {w:World} (e:Emb E h w) {x:Nat} {B':Blk} {b N:Nat} (hx:h.get x=some B) (hb:E.blk x=some (b,N)) (hB:ZV E w x B'):Evo E h w E (h.set x B') w:=
 Yg e x B B' b N hx hb (fun _ _=>rfl) rfl rfl rfl ⟨rfl,J1 _⟩ hB
def Z0g (h:Z6) (m:AV) (K:Z6->Prop):Prop:=match m with
 | .map (some x)=>match h.get x with
  | some (.froz B _)=>K (h.set x B)
  | _=>K h
 | _=>K h
theorem WE {h:Z6} {m:AV} {K:Z6->Prop} (hl:Z0g h m K):∃h',K h'/\∀(E:Env) (w:World),Emb E h w->Evo E h w E h' w:=by
 unfold Z0g at hl
 split at hl
 ·split at hl
  ·rename_i x B y hg
   refine ⟨_,hl,fun E w he=> ?_⟩
   have hown:=he.own _ _ hg
   cases hown with
   | froz B y b ents clock hB hb hw hbn hy=>exact Z0f he hg hb hB
  ·exact ⟨_,hl,fun E w he=>.refl he⟩
 ·exact ⟨_,hl,fun E w he=>.refl he⟩
def Zbp (h:Z6) (x:Nat) (B:Blk) (K:AV->Z6->Prop):Prop:=
 K (.ptr (some ⟨h.next+1,0,0,0,0⟩)) ((Z6.set ⟨h.next+1,h.bs⟩ x (.froz B h.next)).add (.git x h.next []))
def Z7I (P:Program) (h:Z6) (T:TypeId) (m:AV) (K:AV->Z6->Prop):Prop:=
 match P.underlying T,m with
 | some (.map _ _),.map (some x)=>Z0g h m fun h=>match h.get x with
  | some (.map es)=>Zbp h x (.map es) K
  | some (.fmap n kf vf)=>Zbp h x (.fmap n kf vf) K
  | _=>False
 | _,_=>False
theorem Z49 {P:Program} {h:Z6} {T:TypeId} {x:Nat} {w:World} {b:Nat} {clock:Nat} {kt et:TypeId} (hT:P.underlying T=some (.map kt et)) (he:Emb E h w) (hg:h.get x=some B) (hbb:E.blk x=some (b,0)) (hw:w.heap[b]? =some (.map ents.toArray clock)) (hbn:YE ents clock):
  ∃r w' E',(Instr.range T (.map (some b))).run P w=.ok r w'/\Evo E h w E' ((Z6.set ⟨h.next+1,h.bs⟩ x (.froz B h.next)).add (.git x h.next [])) w'/\Zc E' (.ptr (some ⟨h.next+1,0,0,0,0⟩)) r:=by
 have hx:x≠h.next:=fun e=>by have:=he.lt x _ hg;omega
 have hx1:x≠h.next+1:=fun e=>by have:=he.lt x _ hg;omega
 have hev:=Z0V he clock (Z2o (ents.map (·.born)))
 have hb1:(E.ext h.next clock (Z2o (ents.map (·.born)))).blk x=some (b,0):=by rw [Env.ext_other _ _ _ hx];exact hbb
 have h2:=Z0f (h:=⟨h.next+1,h.bs⟩) hev.emb hg hb1 (.froz B h.next b ents clock (hev.emb.own x B hg) hb1 hw hbn (Env.ext_same ..))
 have h3:=XC h2.emb (.mapIter (some b) clock #[] clock) 0 (.git x h.next []) (by
  refine .git x h.next [] w.heap.size b clock (ents.map (·.born)) #[] (Env.ext_same ..) ?_ ?_ rfl (by simp) (by simp)
  ·rw [Env.ext_other _ _ _ (show x≠(Z6.set ⟨h.next+1,h.bs⟩ x _).next from hx1)];exact hb1
  ·rw [Env.ext_other _ _ _ (show h.next≠(Z6.set ⟨h.next+1,h.bs⟩ x _).next from (by show h.next≠h.next+1;omega))];exact Env.ext_same ..)
 refine ⟨.pointer (some ⟨w.heap.size,0,none⟩),_,_, ?_,(hev.trans h2).trans h3,.ptr _ w.heap.size 0 (Env.ext_same ..)⟩
 simp only [Instr.range,J6,run_underlying hT,J4,ZE hw]
 simp [newObj,Sem.run,Result.andThen]
theorem Za6 {P:Program} {h:Z6} {T:TypeId} {m:AV} (hl:Z7I P h T m K):
  ∃v h',K v h'/\∀(E:Env) (w:World) (rm:Value),Emb E h w->Zc E m rm->∃r w' E',(Instr.range T rm).run P w=.ok r w'/\Evo E h w E' h' w'/\Zc E' v r:=by
 unfold Z7I at hl
 split at hl
 ·rename_i kt et x hT
  obtain ⟨h1,hl,h2⟩:=WE hl
  split at hl
  ·rename_i es hg
   refine ⟨_,_,hl,fun E w rm he hm=> ?_⟩
   have hev:=h2 E w he
   cases hm with
   | map _ b N hb=>
    have hown:=hev.emb.own _ _ hg
    cases hown with
    | map _ b' ents clock hbb hw hkk hvv hbn=>
     rw [hbb] at hb
     cases hb
     obtain ⟨r,w',E',q1,q2,q3⟩:=Z49 hT hev.emb hg hbb hw hbn
     exact ⟨r,w',E',q1,hev.trans q2,q3⟩
  ·rename_i n kf vf hg
   refine ⟨_,_,hl,fun E w rm he hm=> ?_⟩
   have hev:=h2 E w he
   cases hm with
   | map _ b N hb=>
    have hown:=hev.emb.own _ _ hg
    cases hown with
    | fmap _ _ _ b' ents clock hbb hw hll hkk hvv hbn=>
     rw [hbb] at hb
     cases hb
     obtain ⟨r,w',E',q1,q2,q3⟩:=Z49 hT hev.emb hg hbb hw hbn
     exact ⟨r,w',E',q1,hev.trans q2,q3⟩
  ·exact hl.elim
 ·exact hl.elim
def Z0h:List (AV×AV)->Nat->List Nat->Bool
 | [],_,_=>false
 | _::r,i,js=>match memN' i js with
  | true=>Z0h r (i+1) js
  | false=>true
where memN' (i:Nat):List Nat->Bool
 | []=>false
 | j::r=>match Nat.beq i j with|true=>true|false=>memN' i r
def Z2V:List (AV×AV)->Nat->List Nat->(Nat->AV->AV->Prop)->Prop->Prop
 | [],_,_,_,D=>D
 | (k,v)::r,i,js,F,D=>match Z0h.memN' i js with
  | true=>Z2V r (i+1) js F D
  | false=>match Z0h r (i+1) js with
   | true=>F i k v/\Z2V r (i+1) js F True
   | false=>F i k v
def Zbq (h:Z6) (x:AV) (K:AV->Z6->Prop):Prop:=
 match x with
 | .ptr (some ⟨b,0,0,0,0⟩)=>match h.get b with
  | some (.git m y js)=>match h.get m with
   | some (.froz (.map es) y')=>match Nat.beq y y' with
    | true=>Z2V es 0 js (fun j k v=>K (.tuple [.bool true,k,v]) (h.set b (.git m y (j::js)))) (K (.tuple [.bool false]) (h.set m (.map es)))
    | false=>False
   | some (.froz (.fmap n kf vf) y')=>match Nat.beq y y' with
    | true=>(∀j,j<n->j∉js->K (.tuple [.bool true,kf j,vf j]) (h.set b (.git m y (j::js))))/\((∀j,j<n->j∈js)->K (.tuple [.bool false]) (h.set m (.fmap n kf vf)))
    | false=>False
   | _=>False
  | _=>False
 | _=>False
theorem UZ (i:Nat):∀l:List Nat,Z0h.memN' i l=true↔i∈l
 | []=>by simp [Z0h.memN']
 | j::r=>by
  unfold Z0h.memN'
  split
  ·rename_i h;simp [J0 h]
  ·rename_i h
   have hne:i≠j:=fun e=>by subst e;rw [Jj] at h;cases h
   simp [UZ i r,hne]
theorem Z1u {js:List Nat}:∀{es:List (AV×AV)} {i:Nat},Z0h es i js=false->∀j,i<=j->j<i+es.length->j∈js
 | [],i,_,j,h1,h2=>by simp at h2;omega
 | e::r,i,h,j,h1,h2=>by
  unfold Z0h at h
  split at h
  ·rename_i hm
   rcases Nat.eq_or_lt_of_le h1 with rfl|h3
   ·exact (UZ _ _).1 hm
   ·exact Z1u h j h3 (by simp at h2;omega)
  ·cases h
theorem QF {js:List Nat} {F:Nat->AV->AV->Prop} {D:Prop}:∀{es:List (AV×AV)} {i:Nat},Z2V es i js F D->∀j k v,es[j]? =some (k,v)->i+j∉js->F (i+j) k v
 | [],i,_,j,k,v,h1,_=>by simp at h1
 | (k0,v0)::r,i,h,j,k,v,h1,h2=>by
  unfold Z2V at h
  cases j with
  | zero=>
   simp only [List.getElem?_cons_zero,JA,Prod.mk.injEq] at h1
   obtain ⟨rfl,rfl⟩:=h1
   split at h
   ·rename_i hm
    exact absurd ((UZ _ _).1 hm) h2
   ·split at h
    ·exact h.1
    ·exact h
  | succ j=>
   have h1':r[j]? =some (k,v):=by simpa using h1
   have e:i+(j+1)=i+1+j:=by omega
   rw [e] at h2⊢
   split at h
   ·exact QF h j k v h1' h2
   ·split at h
    ·exact QF h.2 j k v h1' h2
    ·rename_i hf
     have hj:j<r.length:=(Ja.1 h1').1
     exact absurd (Z1u hf (i+1+j) (by omega) (by omega)) h2
theorem Z2W {js:List Nat} {F:Nat->AV->AV->Prop} {D:Prop}:∀{es:List (AV×AV)} {i:Nat},Z2V es i js F D->(∀j,i<=j->j<i+es.length->j∈js)->D
 | [],i,h,_=>h
 | (k,v)::r,i,h,ha=>by
  unfold Z2V at h
  have h0:Z0h.memN' i js=true:=(UZ _ _).2 (ha i (J1 _) (by simp))
  rw [h0] at h
  exact Z2W h fun j h1 h2=>ha j (by omega) (by simp;omega)
theorem Z2X {P:Program} {h:Z6} {w:World} {b m y:Nat} {js:List Nat} (he:Emb E h w) (hb:h.get b=some (.git m y js)) (hm:h.get m=some (.froz B y)) (hx:Zc E (.ptr (some ⟨b,0,0,0,0⟩)) rx) (ty:TypeId):
  ∃(q:Nat) (ents:List MapEntry) (clock:Nat),E.blk m=some (q,0)/\w.heap[q]? =some (.map ents.toArray clock)/\ZV E w m B/\
   (((∀j,j<ents.length->j∈js)/\(Instr.next rx false ty).run P w=.ok (.tuple #[.bool false]) w)\/
   ∃(j:Nat) (e:MapEntry) (w':World),ents[j]? =some e/\j∉js/\(Instr.next rx false ty).run P w=.ok (.tuple #[.bool true,e.key,e.val]) w'/\Evo E h w E (h.set b (.git m y (j::js))) w'):=by
 have o1:=he.own _ _ hb
 have o2:=he.own _ _ hm
 cases o1 with
 | git _ _ _ b0 mb clock bs seen h1 h2 h3 h4 hj h5=>
  cases o2 with
  | froz _ _ mb' ents clock' hB g1 g2 g3 g4=>
   rw [h2] at g1
   cases g1
   rw [h3] at g4
   injection g4 with g4
   injection g4 with e1 e2
   subst e1
   have e2:=Z2p e2
   subst e2
   refine ⟨mb,ents,clock,h2,g2,hB, ?_⟩
   cases hx with
   | ptr _ q N hq=>
    have hq':E.blk b=some (q,N):=hq
    rw [h1] at hq'
    cases hq'
    have hmem:∀(j:Nat) (e:MapEntry),ents[j]? =some e->(e.born∈seen.toList↔j∈js):=fun j e hje=>by
     obtain ⟨hjl,hje'⟩:=Ja.1 hje
     rw [h4]
     simp only [List.mem_reverse,Kh]
     constructor
     ·rintro ⟨i,hi,hib⟩
      have hil:=hj i hi
      simp only [List.length_map] at hil
      have:(ents.map (·.born)).getD i 0=(ents.map (·.born))[i]'(by simpa using hil):=by simp [hil]
      rw [this] at hib
      have hb':(ents.map (·.born))[j]'(by simpa using hjl)=e.born:=by simp [hje']
      have:=(List.getElem_inj (h₀:=by simpa using hil) (h₁:=by simpa using hjl) g3.nd).1 (hib.trans hb'.symm)
      rwa [<-this]
     ·intro hi
      exact ⟨j,hi,by simp [hjl,hje']⟩
    rcases run_next_at (P:=P) w ty b0 mb clock clock seen ents.toArray clock h5 g2 (fun x hx=>g3.lt x (by simpa using hx)) (J1 _) with ⟨r1,r2⟩|⟨e,r1,w1,r2,r3⟩
    ·refine .inl ⟨fun j hjl=> ?_,r2⟩
     have he0:leftOf ents.toArray seen= #[]:=Array.eq_empty_of_size_eq_zero r1
     unfold leftOf at he0
     rw [Array.filter_eq_empty_iff] at he0
     have:=he0 ents[j] (by simp)
     refine (hmem j ents[j] (by simp)).1 ?_
     simpa using this
    ·obtain ⟨hin,hns⟩:e∈ents/\e.born∉seen.toList:=by
      unfold leftOf at r1
      simpa using r1
     obtain ⟨j,hj'⟩:=List.getElem?_of_mem hin
     have hjs:j∉js:=fun hh=>hns ((hmem j e hj').2 hh)
     refine .inr ⟨j,e,_,hj',hjs,r3, ?_⟩
     have hjl:=(Ja.1 hj').1
     have hd:Evo E h w E h w1:=by
      rcases r2 with rfl|rfl
      ·exact .refl he
      ·exact Z01 he rfl rfl rfl ⟨rfl,Nat.le_succ _⟩
     have hw1:w1.heap=w.heap:=by rcases r2 with rfl|rfl<;>rfl
     refine hd.trans (Yg hd.emb b _ (.git m y (j::js)) b0 0 hb h1 (fun i hi=> ?_) (by simp [setBlock]) rfl rfl ⟨rfl,J1 _⟩ ?_)
     ·simp only [setBlock]
      rw [Jd,if_neg (fun e=>hi e.symm)]
     ·have hlt:b0<w1.heap.size:=by rw [hw1];grind
      refine .git m y _ b0 mb clock _ (seen.push e.born) h1 h2 h3 ?_ ?_ ?_
      ·have hx:=(Ja.1 hj').2
       simp [h4,hjl,hx]
      ·intro i hi
       rcases J7.1 hi with rfl|hi
       ·simpa using hjl
       ·exact hj i hi
      ·simp [setBlock,hlt]
theorem Zbr {P:Program} {h:Z6} {x:AV} (hl:Zbq h x K) {w:World} (ty:TypeId) (he:Emb E h w) (hx:Zc E x rx):
  ∃v h' r w',K v h'/\(Instr.next rx false ty).run P w=.ok r w'/\Evo E h w E h' w'/\Zc E v r:=by
 unfold Zbq at hl
 split at hl
 ·rename_i b
  split at hl
  ·rename_i m y js hb
   split at hl
   ·rename_i es y' hm
    split at hl
    ·rename_i hy
     have hy:=J0 hy
     subst hy
     obtain ⟨q,ents,clock,g1,g2,g3,g4⟩:=Z2X (P:=P) he hb hm hx ty
     cases g3 with
     | map _ b' ents' clock' hbb hw hkk hvv hbn=>
      rw [hbb] at g1
      cases g1
      rw [hw] at g2
      simp only [JA,Obj.map.injEq] at g2
      obtain ⟨g2,rfl⟩:=g2
      have g2:ents'=ents:=by simpa using g2
      subst g2
      have hlen:=hkk.length
      simp only [List.length_map] at hlen
      rcases g4 with ⟨a1,a2⟩|⟨j,e,w',a1,a2,a3,a4⟩
      ·refine ⟨_,_,_,w,Z2W hl fun j _ hj=>a1 j (by omega),a2, ?_,.tuple [.bool false] [.bool false] (.cons _ _ _ _ (.bool _) .nil)⟩
       exact Z0f he hm hbb (.map es _ ents' _ hbb hw hkk hvv hbn)
      ·have hjl:=(Ja.1 a1).1
       obtain ⟨k,v,hkv⟩:∃k v,es[j]? =some (k,v):=⟨_,_,J8 (by omega)⟩
       have hF:=QF hl j k v hkv (by rw [Jq];exact a2)
       rw [Jq] at hF
       refine ⟨_,_,_,w',hF,a3,a4,.tuple [.bool true,k,v] [.bool true,e.key,e.val] (.cons _ _ _ _ (.bool _) (.cons _ _ _ _ ?_ (.cons _ _ _ _ ?_ .nil)))⟩
       ·exact Z0e (i:=j) hkk (by simp [hkv]) (by simp [a1])
       ·exact Z0e (i:=j) hvv (by simp [hkv]) (by simp [a1])
    ·exact hl.elim
   ·rename_i n kf vf y' hm
    split at hl
    ·rename_i hy
     have hy:=J0 hy
     subst hy
     obtain ⟨q,ents,clock,g1,g2,g3,g4⟩:=Z2X (P:=P) he hb hm hx ty
     cases g3 with
     | fmap _ _ _ b' ents' clock' hbb hw hll hkk hvv hbn=>
      rw [hbb] at g1
      cases g1
      rw [hw] at g2
      simp only [JA,Obj.map.injEq] at g2
      obtain ⟨g2,rfl⟩:=g2
      have g2:ents'=ents:=by simpa using g2
      subst g2
      rcases g4 with ⟨a1,a2⟩|⟨j,e,w',a1,a2,a3,a4⟩
      ·refine ⟨_,_,_,w,hl.2 fun j hj=>a1 j (by omega),a2, ?_,.tuple [.bool false] [.bool false] (.cons _ _ _ _ (.bool _) .nil)⟩
       exact Z0f he hm hbb (.fmap _ _ _ _ ents' _ hbb hw hll hkk hvv hbn)
      ·have hjl:=(Ja.1 a1).1
       refine ⟨_,_,_,w',hl.1 j (by omega) a2,a3,a4,.tuple [.bool true,kf j,vf j] [.bool true,e.key,e.val] (.cons _ _ _ _ (.bool _) (.cons _ _ _ _ (hkk j e a1) (.cons _ _ _ _ (hvv j e a1) .nil)))⟩
    ·exact hl.elim
   ·exact hl.elim
  ·exact hl.elim
 ·exact hl.elim
def Ze8:List (AV×AV)->Nat->Option (AV×AV)
 | [],_=>none
 | p::_,0=>some p
 | _::r,n+1=>Ze8 r n
theorem Z8T:∀(es:List (AV×AV)) (j:Nat),Ze8 es j=es[j]?
 | [],_=>rfl
 | _::_,0=>rfl
 | _::r,n+1=>by simp [Ze8,Z8T r n]
def Zbs (h:Z6) (x:AV) (K:AV->Prop):Prop:=
 match x with
 | .ptr (some ⟨b,0,0,0,0⟩)=>match h.get b with
  | some (.git m y (j::_))=>match h.get m with
   | some (.froz (.map es) y')=>match Nat.beq y y' with
    | true=>(match Ze8 es j with
     | some (k,v)=>K (.tuple [k,v])
     | none=>False)
    | false=>False
   | some (.froz (.fmap _ kf vf) y')=>match Nat.beq y y' with
    | true=>K (.tuple [kf j,vf j])
    | false=>False
   | _=>False
  | _=>False
 | _=>False
theorem Z2Y {P:Program} {h:Z6} {w:World} {b m y:Nat} {js:List Nat} (he:Emb E h w) (hb:h.get b=some (.git m y (j::js))) (hm:h.get m=some (.froz B y)) (hx:Zc E (.ptr (some ⟨b,0,0,0,0⟩)) rx):
  ∃(q:Nat) (ents:List MapEntry) (clock:Nat) (e:MapEntry),E.blk m=some (q,0)/\w.heap[q]? =some (.map ents.toArray clock)/\ZV E w m B/\ents[j]? =some e/\(Instr.entry rx).run P w=.ok (.tuple #[e.key,e.val]) w:=by
 have o1:=he.own _ _ hb
 have o2:=he.own _ _ hm
 cases o1 with
 | git _ _ _ b0 mb clock bs seen h1 h2 h3 h4 hj h5=>
  cases o2 with
  | froz _ _ mb' ents clock' hB g1 g2 g3 g4=>
   rw [h2] at g1
   cases g1
   rw [h3] at g4
   injection g4 with g4
   injection g4 with e1 e2
   subst e1
   have e2:=Z2p e2
   subst e2
   have hjl:j<ents.length:=by simpa using hj j (Jz ..)
   refine ⟨mb,ents,clock,ents[j],h2,g2,hB,by simp, ?_⟩
   cases hx with
   | ptr _ q N hq=>
    have hq':E.blk b=some (q,N):=hq
    rw [h1] at hq'
    cases hq'
    have hseen:seen=((js.map fun j=>(ents.map (·.born)).getD j 0).reverse.toArray).push ents[j].born:=by
     have:seen.toList=_:=h4
     apply Array.toList_inj.1
     rw [this]
     simp [hjl]
    rw [hseen] at h5
    exact run_entry_at w b0 mb clock _ ents.toArray clock ents[j] h5 g2 (by simp) (by simpa using g3.nd)
theorem Zbt {P:Program} {h:Z6} {x:AV} {K:AV->Prop} (hl:Zbs h x K):
  ∃v,K v/\∀(E:Env) (w:World) (rx:Value),Emb E h w->Zc E x rx->∃r,(Instr.entry rx).run P w=.ok r w/\Zc E v r:=by
 unfold Zbs at hl
 split at hl
 ·rename_i b
  split at hl
  ·rename_i m y j js hb
   split at hl
   ·rename_i es y' hm
    split at hl
    ·rename_i hy
     have hy:=J0 hy
     subst hy
     split at hl
     ·rename_i k v hkv
      rw [Z8T] at hkv
      refine ⟨_,hl,fun E w rx he hx=> ?_⟩
      obtain ⟨q,ents,clock,e,g1,g2,g3,g4,g5⟩:=Z2Y (P:=P) he hb hm hx
      cases g3 with
      | map _ b' ents' clock' hbb hw hkk hvv hbn=>
       rw [hbb] at g1
       cases g1
       rw [hw] at g2
       simp only [JA,Obj.map.injEq] at g2
       obtain ⟨g2,rfl⟩:=g2
       have g2:ents'=ents:=by simpa using g2
       subst g2
       refine ⟨_,g5,.tuple [k,v] [e.key,e.val] (.cons _ _ _ _ ?_ (.cons _ _ _ _ ?_ .nil))⟩
       ·exact Z0e (i:=j) hkk (by simp [hkv]) (by simp [g4])
       ·exact Z0e (i:=j) hvv (by simp [hkv]) (by simp [g4])
     ·exact hl.elim
    ·exact hl.elim
   ·rename_i n kf vf y' hm
    split at hl
    ·rename_i hy
     have hy:=J0 hy
     subst hy
     refine ⟨_,hl,fun E w rx he hx=> ?_⟩
     obtain ⟨q,ents,clock,e,g1,g2,g3,g4,g5⟩:=Z2Y (P:=P) he hb hm hx
     cases g3 with
     | fmap _ _ _ b' ents' clock' hbb hw hll hkk hvv hbn=>
      rw [hbb] at g1
      cases g1
      rw [hw] at g2
      simp only [JA,Obj.map.injEq] at g2
      obtain ⟨g2,rfl⟩:=g2
      have g2:ents'=ents:=by simpa using g2
      subst g2
      exact ⟨_,g5,.tuple [kf j,vf j] [e.key,e.val] (.cons _ _ _ _ (hkk j e g4) (.cons _ _ _ _ (hvv j e g4) .nil))⟩
    ·exact hl.elim
   ·exact hl.elim
  ·exact hl.elim
 ·exact hl.elim
def Xi (f:Nat->AV) (j i:Nat):AV:=match Nat.blt i j with|true=>f i|false=>f (i+1)
theorem Z6e {f:Nat->AV} {R:AV->Value->Prop} {g:MapEntry->Value} (hj:j<ents.length) (h:∀(i:Nat) (e:MapEntry),ents[i]? =some e->R (f i) (g e)) (i:Nat) (e:MapEntry) (he:(ents.eraseIdx j)[i]? =some e):R (Xi f j i) (g e):=by
 unfold Xi
 rw [List.getElem?_eraseIdx] at he
 split at he
 ·rename_i hlt
  rw [JY (show i+1<=j from hlt)|>(fun (q:Nat.blt i j=true)=>q)]
  exact h i e he
 ·rename_i hlt
  have:Nat.blt i j=false:=by
   cases q:Nat.blt i j with
   | false=>rfl
   | true=>exact absurd (Je q) hlt
  rw [this]
  exact h (i+1) e he
def Z5q (P:Program) (h:Z6) (T:TypeId) (x n:Nat) (kf vf:Nat->AV) (key:AV) (K:Z6->Prop):Prop:=
 match P.underlying T with
 | some (.map kt _)=>match P.underlying kt with
  | some _=>ckK P 20 kt key (Y3 P kt key n kf/\Z8 (Nat.blt (Zn (fun i=>Zz key (kf i)) n) n) (K (h.set x (.fmap (n-1) (Xi kf (Zn (fun i=>Zz key (kf i)) n)) (Xi vf (Zn (fun i=>Zz key (kf i)) n))))) (K h))
  | none=>False
 | _=>False
theorem Z7J {P:Program} {h:Z6} {T:TypeId} {x n:Nat} {key:AV} {K:Z6->Prop} (hg:h.get x=some (.fmap n kf vf)) (hl:Z5q P h T x n kf vf key K):
  ∃h',K h'/\∀(E:Env) (w:World) (rm rk:Value) (tys:Array TypeId) (ty:TypeId),tys[0]? =some T->Emb E h w->Zc E (.map (some x)) rm->Zc E key rk->∃w',(Builtin.delete_ tys ty #[rm,rk]).run P w=.ok (.tuple #[]) w'/\Evo E h w E h' w':=by
 unfold Z5q at hl
 split at hl
 ·rename_i kt et hT
  split at hl
  ·rename_i kd hu
   obtain ⟨⟨ha,hl⟩,hc⟩:=Vc 20 9979 _ _ _ hl
   cases hb:Nat.blt (Zn (fun i=>Zz key (kf i)) n) n with
   | true=>
    have hlt:Zn (fun i=>Zz key (kf i)) n<n:=Je hb
    rw [hb] at hl
    refine ⟨_,hl,fun E w rm rk tys ty htys he hm hk=> ?_⟩
    cases hm with
    | map _ b N hb=>
     have hown:=he.own _ _ hg
     cases hown with
     | fmap _ _ _ b' ents clock hbb hw hll hkk hvv hbn=>
      rw [hbb] at hb
      cases hb
      rcases XF (w:=w) hu ha hll hkk hvv hk with ⟨e,_,h2,h3,_,h4⟩|⟨h3,_⟩
      ·generalize hJ:Zn (fun i=>Zz key (kf i)) n=J at*
       have hbl:b<w.heap.size:=by grind
       refine ⟨{ w with heap:=w.heap.setIfInBounds b (.map (ents.eraseIdx J).toArray clock)}, ?_, ?_⟩
       ·have e1:(#[Value.map (some b),rk]:Array Value)[0]? =some (.map (some b)):=rfl
        have e2:(#[Value.map (some b),rk]:Array Value)[1]? =some rk:=rfl
        have hm:ents.toArray.eraseIdxIfInBounds J=(ents.eraseIdx J).toArray:=by
         unfold Array.eraseIdxIfInBounds
         rw [dif_pos (by simp;omega)]
         simp
        unfold Builtin.delete_
        rw [htys,e1,e2]
        simp only [J6,run_underlying hT,J4,ZE hw,hc E w rk _ hk,h4,Y7 _ hw,Jf,hm]
       ·refine Yg he x _ (.fmap (n-1) (Xi kf J) (Xi vf J)) b 0 hg hbb (fun i hi=>by grind) (by simp) rfl rfl ⟨rfl,J1 _⟩ ?_
        exact .fmap _ _ _ b (ents.eraseIdx J) clock hbb (by simp_all) (by rw [Kd (by omega)];omega) (Z6e (R:=Zc E) (by omega) hkk) (Z6e (R:=Zc E) (by omega) hvv) (hbn.erase J)
      ·omega
   | false=>
    rw [hb] at hl
    refine ⟨_,hl,fun E w rm rk tys ty htys he hm hk=> ?_⟩
    cases hm with
    | map _ b N hb2=>
     have hown:=he.own _ _ hg
     cases hown with
     | fmap _ _ _ b' ents clock hbb hw hll hkk hvv hbn=>
      rw [hbb] at hb2
      cases hb2
      rcases XF (w:=w) hu ha hll hkk hvv hk with ⟨e,h3,_⟩|⟨h3,h4⟩
      ·have h5:Nat.blt (Zn (fun i=>Zz key (kf i)) n) n=true:=JY h3
       rw [h5] at hb;cases hb
      ·have hbl:b<w.heap.size:=by grind
       have hown:=he.own _ _ hg
       refine ⟨{ w with heap:=w.heap.setIfInBounds b (.map ents.toArray clock)}, ?_, ?_⟩
       ·have e1:(#[Value.map (some b),rk]:Array Value)[0]? =some (.map (some b)):=rfl
        have e2:(#[Value.map (some b),rk]:Array Value)[1]? =some rk:=rfl
        unfold Builtin.delete_
        rw [htys,e1,e2]
        simp only [J6,run_underlying hT,J4,ZE hw,hc E w rk _ hk,h4,Y7 _ hw,Jf]
       ·have hs:({ w with heap:=w.heap.setIfInBounds b (.map ents.toArray clock)}:World)=w:=by
         have:w.heap.setIfInBounds b (.map ents.toArray clock)=w.heap:=by
          apply Array.ext_getElem?
          intro i
          rw [Jd]
          split
          ·rename_i hi;subst hi;rw [hw]
          ·rfl
         rw [this]
        rw [hs]
        exact .refl he
  ·exact hl.elim
 ·exact hl.elim
def Z5r (P:Program) (h:Z6) (T:TypeId) (m key:AV) (K:Z6->Prop):Prop:=match m with
 | .map (some x)=>match h.get x with
  | some (.fmap n kf vf)=>Z5q P h T x n kf vf key K
  | _=>Z23 P h T m key K
 | _=>Z23 P h T m key K
theorem Z7K {P:Program} {h:Z6} {T:TypeId} {m key:AV} {K:Z6->Prop} (hl:Z5r P h T m key K):
  ∃h',K h'/\∀(E:Env) (w:World) (rm rk:Value) (tys:Array TypeId) (ty:TypeId),tys[0]? =some T->Emb E h w->Zc E m rm->Zc E key rk->∃w',(Builtin.delete_ tys ty #[rm,rk]).run P w=.ok (.tuple #[]) w'/\Evo E h w E h' w':=by
 unfold Z5r at hl
 split at hl
 ·split at hl
  ·rename_i hg
   exact Z7J hg hl
  ·exact Z2R hl
 ·exact Z2R hl
def Z7L (P:Program) (h:Z6) (T:TypeId) (x n:Nat) (kf vf:Nat->AV) (key:AV) (K:AV->Z6->Prop):Prop:=
 match P.underlying T with
 | some (.map kt et)=>match P.underlying kt,Wn P et with
  | some _,some z=>ckK P 20 kt key (Y3 P kt key n kf/\Z4 (Zn (fun i=>Zz key (kf i)) n=n) (K (.tuple [z,.stamp h.next]) (Z6.set ⟨h.next+1,h.bs⟩ x (.sfmap n kf vf key h.next))))
  | _,_=>False
 | _=>False
theorem Za7 {P:Program} {h:Z6} {T:TypeId} {x n:Nat} {key:AV} (hg:h.get x=some (.fmap n kf vf)) (hl:Z7L P h T x n kf vf key K):
  ∃v h',K v h'/\∀(E:Env) (w:World) (rm rk:Value),Emb E h w->Zc E (.map (some x)) rm->Zc E key rk->∃r w' E',(Instr.mapEntry T rm rk).run P w=.ok r w'/\Evo E h w E' h' w'/\Zc E' v r:=by
 unfold Z7L at hl
 split at hl
 ·rename_i kt et hT
  split at hl
  ·rename_i kd z hu hz
   obtain ⟨zr,hz1,hz2⟩:=Xe hz
   obtain ⟨⟨ha,hl⟩,hc⟩:=Vc 20 9979 _ _ _ hl
   obtain ⟨hn,hl⟩:=Zd hl
   refine ⟨_,_,hl,fun E w rm rk he hm hk=> ?_⟩
   cases hm with
   | map _ b N hb=>
    have hown:=he.own _ _ hg
    cases hown with
    | fmap _ _ _ b' ents clock hbb hw hll hkk hvv hbn=>
     rw [hbb] at hb
     cases hb
     have hlt:b<w.heap.size:=by grind
     rcases XF (w:=w) hu ha hll hkk hvv hk with ⟨e,h3,_⟩|⟨_,h4⟩
     ·omega
     ·have hev:=Z0V he clock 0
      have hle:=hev.le
      have hx:x≠h.next:=fun e=>by have:=he.lt x _ hg;omega
      have hbb':(E.ext h.next clock 0).blk x=some (b,0):=by rw [Env.ext_other _ _ _ hx];exact hbb
      refine ⟨.tuple #[zr,goInt clock],{ w with heap:=w.heap.setIfInBounds b (.map (ents.toArray.push ⟨rk,zr,clock⟩) (clock+1))},E.ext h.next clock 0, ?_,hev.trans ?_, ?_⟩
      ·simp only [Instr.mapEntry,J6,run_underlying hT,J4,ZE hw,hc E w rk _ hk,h4,hz1,Y7 _ hw,Jf]
      ·refine Yg hev.emb x (.fmap n kf vf) _ b 0 hg hbb' (fun i hi=> ?_) (by simp) rfl rfl ⟨rfl,J1 _⟩ ?_
       ·rw [Jd,if_neg (fun e=>hi e.symm)]
       ·exact .sfmap n kf vf key h.next b ents (clock+1) ⟨rk,zr,clock⟩ hbb' (by simp_all) hll (fun i e he=>(hkk i e he).mono hle) (fun i e he=>(hvv i e he).mono hle) (hbn.push _ _) (Env.ext_same ..) (hk.mono hle)
      ·exact .tuple [z,.stamp h.next] [zr,.int .i64 clock] (.cons _ _ _ _ (hz2 _) (.cons _ _ _ _ (.stamp _ clock (Env.ext_same ..)) .nil))
  ·exact hl.elim
 ·exact hl.elim
def Z7M (P:Program) (h:Z6) (T:TypeId) (m key:AV) (K:AV->Z6->Prop):Prop:=match m with
 | .map (some x)=>match h.get x with
  | some (.fmap n kf vf)=>Z7L P h T x n kf vf key K
  | _=>Z5p P h T m key K
 | _=>Z5p P h T m key K
theorem Za8 {P:Program} {h:Z6} {T:TypeId} {m key:AV} (hl:Z7M P h T m key K):
  ∃v h',K v h'/\∀(E:Env) (w:World) (rm rk:Value),Emb E h w->Zc E m rm->Zc E key rk->∃r w' E',(Instr.mapEntry T rm rk).run P w=.ok r w'/\Evo E h w E' h' w'/\Zc E' v r:=by
 unfold Z7M at hl
 split at hl
 ·split at hl
  ·rename_i hg
   exact Za7 hg hl
  ·exact Z48 hl
 ·exact Z48 hl
theorem Z1v {α:Type} (a:α) (f:α->α):∀l:List α,(l++[a]).modify l.length f=l++[f a]
 | []=>rfl
 | b::l=>by
  have:=Z1v a f l
  simp [List.modify_succ_cons,this]
def Z7N (h:Z6) (m s v:AV) (K:Z6->Prop):Prop:=
 match m,s with
 | .map (some x),.stamp y=>match h.get x with
  | some (.sfmap n kf vf key y')=>match Nat.beq y y' with
   | true=>K (h.set x (.fmap (n+1) (Wa kf n key) (Wa vf n v)))
   | false=>False
  | _=>Z7H h m s v K
 | _,_=>False
theorem Za9 {P:Program} {h:Z6} {m s v:AV} {K:Z6->Prop} (hl:Z7N h m s v K):
  ∃h',K h'/\∀(E:Env) (w:World) (T:TypeId) (rm rs rv:Value),Emb E h w->Zc E m rm->Zc E s rs->Zc E v rv->∃w',(Instr.entryStore T rm rs rv).run P w=.ok () w'/\Evo E h w E h' w':=by
 unfold Z7N at hl
 split at hl
 ·rename_i x y
  split at hl
  ·rename_i n kf vf key y' hg
   split at hl
   ·rename_i hy
    have hy:=J0 hy
    subst hy
    refine ⟨_,hl,fun E w T rm rs rv he hm hs hv=> ?_⟩
    cases hm with
    | map _ b N hb=>cases hs with
     | stamp _ c hc=>
      have hown:=he.own _ _ hg
      cases hown with
      |sfmap _ _ _ _ _ b' ents clock e hbb hw hll hkk hvv hbn hss hke=>
       rw [hbb] at hb
       cases hb
       rw [hss] at hc
       cases hc
       have hi:(ents++[e])[ents.length]? =some e:=by simp
       have hf:=find_born (ents++[e]) ents.length e hbn.nd hi
       have hlt:b<w.heap.size:=by grind
       have hmd:(ents++[e]).modify ents.length (fun e=>{ e with val:=rv})=ents++[{ e with val:=rv}]:=by
        exact Z1v _ _ ents
       refine ⟨{ w with heap:=w.heap.setIfInBounds b (.map ((ents++[e]).modify ents.length fun e=>{ e with val:=rv}).toArray clock)}, ?_, ?_⟩
       ·simp only [Instr.entryStore,J6,ZE hw,J4,asInt,asIntOf,Jf,List.findIdx?_toArray,hf,Y7 _ hw,List.modify_toArray]
       ·refine Yg he x _ _ b 0 hg hbb (fun j hj=> ?_) (by simp) rfl rfl ⟨rfl,J1 _⟩ ?_
        ·rw [Jd,if_neg (fun e=>hj e.symm)]
        ·refine .fmap _ _ _ b (ents++[{ e with val:=rv}]) clock hbb (by rw [hmd];simp [hlt]) (by simp [hll]) (fun i e' he'=> ?_) (fun i e' he'=> ?_) (hbn.of_born (by simp))
         all_goals
          unfold Wa
          rw [List.getElem?_append] at he'
          split at he'
          ·grind [Zu]
          ·have h7:=(Ja.1 he').1
           simp at h7
           have h8:i=n:=by omega
           grind [Jj]
   ·exact hl.elim
  ·exact Za5 hl
 ·exact hl.elim
end Go.Tk
end
section
namespace Go.Tk
open IntKind (i64 u8 u32 u64 wrap)
variable {r:Value} {ys:LI} {K:AV->Prop} {args:List AV} {E E0:Env} {ro:Option Nat} {w0:World}
def Qd (n:Int):UInt8:=UInt8.ofNat n.toNat
def strOf (xs:LI):ByteArray:=⟨(xs.map Qd).toArray⟩
def Q0 (s:ByteArray):LI:=s.data.toList.map fun b=>(b.toNat:Int)
theorem Z2Z:∀(xs:LI) (r:ByteArray),xs.foldl (fun r n=>r.push (UInt8.ofNat n.toNat)) r=⟨r.data++(xs.map Qd).toArray⟩
 | [],r=>by simp
 | x::xs,r=>by
  rw [List.foldl_cons,Z2Z xs]
  simp [Qd]
theorem Z30 {w:World} {m:Nat} {k:IntKind} (h:Reads w 1 r m (intCells k ys.length ys)):∃a c,r=.slice a m c/\m=ys.length/\((a=none/\ys=[])\/∃ad,a=some ad/\∀j,j<ys.length->w.cell? (ad.add j)=some (.int k (ys.getD j 0))):=by
 obtain ⟨a,c,rfl,hl,hc⟩:=h
 rw [Z9,JT] at hl
 refine ⟨a,c,rfl,hl.symm, ?_⟩
 cases a with
 | none=>
  left
  refine ⟨rfl, ?_⟩
  cases ys with
  | nil=>rfl
  | cons y ys=>obtain ⟨ad,h1,_⟩:=hc 0 _ (Zj (by simp));cases h1
 | some ad=>
  simp_all [Zj]
def Ze9 (P:Program) (h:Z6) (s d:TypeId) (x:AV) (K:AV->Prop):Prop:=
 match P.underlying s,P.underlying d with
 | some (.slice e),some .string=>match P.underlying e with
  | some (.int .u8)=>Qm h .u8 x fun ys=>K (.str (strOf ys))
  | _=>False
 | _,_=>Zbm P s d x K
theorem ZhS {k:IntKind} (ys:LI):∀j v,(ys.map (Value.int k))[j]? =some v->j<ys.length/\v=.int k (ys.getD j 0):=fun j v hj=>by
 grind
theorem Z8U {P:Program} {h:Z6} {s d:TypeId} {x:AV} (hl:Ze9 P h s d x K):
  ∃v,K v/\∀(E:Env) (w:World) (r:Value),Emb E h w->Zc E x r->∃r',(convert s d r).run P w=.ok r' w/\Zc E v r':=by
 unfold Ze9 at hl
 split at hl
 ·rename_i e hs hd
  split at hl
  ·rename_i he
   obtain ⟨ys,hK,hr⟩:=XX hl
   refine ⟨_,hK,fun E w r hem hx=>⟨_, ?_,.str _⟩⟩
   obtain ⟨a,c,rfl,hm,hc⟩:=Z30 (hr E w r hem hx)
   rw [run_convert_bytes_string w s d e a _ c hs he hd]
   rcases hc with ⟨rfl,rfl⟩|⟨ad,rfl,hc⟩
   ·rfl
   ·rw [run_bytesToString w ad _ c ys]
    ·rw [Z2Z];simp [strOf,ByteArray.empty,ByteArray.emptyWithCapacity];rfl
    ·have:=run_loadCells_list (P:=P) w ad (ys.map (Value.int .u8)) (fun j v hj=>by
      grind)
     simp_all
  simp_all
 ·obtain ⟨v,hK,hv⟩:=Zbn hl
  exact ⟨v,hK,fun E w r _ hx=>hv E w r hx⟩
def cmpI (xs ys:LI):Int:=Lib.compareBytes (xs.map Qd) (ys.map Qd)
theorem run_loadBytes {P:Program} {w:World}:∀(ys:LI) (ad:Addr) (acc:ByteArray),(∀j,j<ys.length->w.cell? (ad.add j)=some (.int .u8 (ys.getD j 0)))->
  (Extern.Bytes.loadBytes ad ys.length acc).run P w=.ok ⟨acc.data++(ys.map Qd).toArray⟩ w
 | [],ad,acc,_=>by simp [Extern.Bytes.loadBytes]
 | y::ys,ad,acc,h=>by
  have h0:=h 0 (by simp)
  have e0:ad.add 0=ad:=by simp [Addr.add]
  rw [e0] at h0
  have hload:(load ad).run P w=.ok (.int .u8 y) w:=by
   simp [h0]
  simp only [Jt,Extern.Bytes.loadBytes,J6,hload,J4]
  have hadd:∀j,(ad.add 1).add j=ad.add (j+1):=fun j=>by
   grind [Addr.add]
  rw [run_loadBytes ys (ad.add 1) _ (fun j hj=>by simp_all)]
  simp [Qd]
theorem Z1w {P:Program} {w:World} {m:Nat} (h:Reads w 1 r m (intCells .u8 ys.length ys)):(Extern.Bytes.bytesOf r).run P w=.ok (strOf ys) w:=by
 obtain ⟨a,c,rfl,hm,hc⟩:=Z30 h
 rcases hc with ⟨rfl,rfl⟩|⟨ad,rfl,hc⟩
 ·rfl
 ·simp only [Extern.Bytes.bytesOf,hm]
  rw [run_loadBytes ys ad _ hc]
  simp [strOf,ByteArray.empty,ByteArray.emptyWithCapacity];rfl
def ZgE (h:Z6) (args:List AV) (K:AV->Prop):Prop:=
 match args with
 | [a,b]=>Qm h .u8 a fun xs=>Qm h .u8 b fun ys=>K (.int .i64 (cmpI xs ys))
 | _=>False
theorem Zea {P:Program} {h:Z6} (hl:ZgE h args K):∃v,K v/\∀(E:Env) (w:World) (rs:List Value),Emb E h w->Zt E args rs->∃r,(Extern.BytealgCompare.compare rs.toArray).run P w=.ok r w/\Zc E v r:=by
 unfold ZgE at hl
 split at hl
 ·obtain ⟨xs,hl,h1⟩:=XX hl
  obtain ⟨ys,hl,h2⟩:=XX hl
  refine ⟨_,hl,fun E w rs he hr=> ?_⟩
  cases hr with
  | cons v c vs cs ha hb=>cases hb with
   | cons v2 c2 vs2 cs2 ha2 hb2=>cases hb2 with
    | nil=>
     refine ⟨_, ?_,.int _ _⟩
     change Sem.run P (do pure (goInt (Extern.BytealgCompare.cmp (<-Extern.Bytes.bytesOf c) (<-Extern.Bytes.bytesOf c2)))) w=_
     simp only [J6,Z1w (h1 E w c he ha),Z1w (h2 E w c2 he ha2),J4]
     rw [Lib.cmp_eq]
     rfl
 simp_all
def Zeb (lt:Bool) (args:List AV) (K:AV->Prop):Prop:=
 match args with
 | [.int k a,.int k' b]=>match decide (k=k') with
  | true=>match lt with
   | true=>K (.int k (if b<a then b else a))
   | false=>K (.int k (if b>a then b else a))
  | false=>False
 | _=>False
def Z7O (P:Program) (h:Z6) (s d:TypeId) (x:AV) (K:AV->Z6->Prop) (L:Prop):Prop:=
 match P.underlying s,P.underlying d,x with
 | some .string,some (.slice e),.str b=>match P.underlying e with
  | some (.int .u8)=>K (.nslice ⟨h.next,0,0,0,0⟩ 1 (Q0 b).length (Q0 b).length) (h.add (.ints .u8 (Q0 b)))
  | _=>False
 | _,_,_=>L
theorem Zaa {P:Program} {h:Z6} {s d:TypeId} {x:AV} {K:AV->Z6->Prop} {L:Prop} (hl:Z7O P h s d x K L):
  L\/∃v h',K v h'/\∀(E:Env) (w:World) (r:Value),Emb E h w->Zc E x r->∃r' w' E',(convert s d r).run P w=.ok r' w'/\Evo E h w E' h' w'/\Zc E' v r':=by
 unfold Z7O at hl
 split at hl
 ·rename_i e b hs hd
  split at hl
  ·rename_i he
   right
   refine ⟨_,_,hl,fun E w r hem hx=> ?_⟩
   cases hx
   have hrun:=run_bytes_of_string (P:=P) w s d e b hs hd he
   have hlen:(Q0 b).length=b.size:=by unfold Q0;rw [List.length_map];rfl
   generalize hcap:grownCap w b.size 0 e=cap at hrun
   have hcap':b.size<=cap:=by rw [<-hcap];exact grownCap_ge _ _ _ _
   generalize hrow:bytesRow b cap=row at hrun
   have hsz:row.size=cap:=by
    rw [<-hrow]
    unfold bytesRow
    simp_all
   have hev1:Evo E h w E h w.drew:=Z01 hem rfl rfl rfl ⟨rfl,Nat.le_succ _⟩
   refine ⟨_,_,E.ext h.next w.heap.size cap,hrun,hev1.trans (XC (w:=w.drew) hev1.emb _ cap _ ?_), ?_⟩
   ·refine .ints _ _ w.heap.size row e (row.size,row.size+1) (by rw [hsz];exact Env.ext_same _ _ _ _) (by show (w.heap.push _)[w.heap.size]? =_;simp) (fun o ho=>by omega) (fun j hj=> ?_)
    grind [bytesRow,Q0]
   ·rw [hlen]
    exact .nslice _ _ _ _ w.heap.size cap cap (Env.ext_same _ _ _ _) hcap' hcap' (by simp [ZI.tot])
  simp_all
 simp_all
def Z7P (P:Program) (op:BinOp) (T:TypeId) (ox oy:Operand) (x y:AV) (K:AV->Prop):Prop:=
 match x,y with
 | .agg cs,.agg cs'=>Z7y P op T (.agg cs) (.agg cs') K
 | x,y=>Z7p P op T ox oy x y K
theorem Zab {P:Program} {op:BinOp} {T:TypeId} {ox oy:Operand} {x y:AV} (h:Z7P P op T ox oy x y K):
  ∃v,K v/\∀(E:Env) (w:World) (rx ry:Value),Zc E x rx->Zc E y ry->∃r,(do eqGuard op T ox oy rx ry;binOp op T rx ry).run P w=.ok r w/\Zc E v r:=by
 unfold Z7P at h
 split at h
 ·exact Za4 h
 ·exact Za0 h
def opQ (P:Program) (o:Op) (t:ZM) (h:Z6) (K:AV->Prop):Prop:=
 match o with
 | .move x=>K (aev t x)
 | .assign x=>K (aev t x)
 | .pick c a b=>match aev t c with
  | .bool e=>Z8 e (K (aev t a)) (K (aev t b))
  | _=>False
 | .build T ps=>Z7j P T (Zbl t ps.toList) K
 | .load T a=>Z8J P h T (aev t a) K
 | .nilCheck x=>Z43 (aev t x) K
 | .binOp op T x y _=>Z7P P op T x y (aev t x) (aev t y) K
 | .unOp op _ x=>unA op (aev t x) K
 | .convert s d x=>Ze9 P h s d (aev t x) K
 | .makeInterface T x=>Z6c P T (aev t x) K
 | .makeFunc (.func f) first cap=>K (.func (.func f) (Z5d t first.toList) (Z5d t cap.toList))
 | .slice T x lo hi mx=>Z7g P h T (aev t x) (lo.map (aev t)) (hi.map (aev t)) (mx.map (aev t)) K
 | .fieldAddr S x f=>Z7e P S (aev t x) f K
 | .field S x f=>Z7s P S (aev t x) f K
 | .indexAddr T x i=>Z7f P h T (aev t x) (aev t i) K
 | .index T x i=>Z7t P T (aev t x) (aev t i) K
 | .extract x i=>Z2O (aev t x) i K
 | .typeAssert x _ asserted ok=>Uk P (aev t x) asserted ok K
 | .call ⟨.builtin .len,args,tys⟩=>match args.toList,tys.toList with
  | [x],[T]=>Z0g h (aev t x) fun h=>ZgA P h T (aev t x) K
  | _,_=>False
 | .call ⟨.builtin .min,args,_⟩=>Zeb true (Z5d t args.toList) K
 | .call ⟨.builtin .max,args,_⟩=>Zeb false (Z5d t args.toList) K
 | .lookup T m k ok=>Z0g h (aev t m) fun h=>Z5o P h T (aev t m) (aev t k) ok K
 | .sliceToArrayPointer T x=>Z5g P T (aev t x) K
 | .entry x=>Zbs h (aev t x) K
 | _=>False
def worldless:Op->Bool
 | .move _|.assign _|.pick .. |.build .. |.nilCheck _|.binOp .. |.unOp .. |.makeInterface .. |.makeFunc .. |.fieldAddr .. |.indexAddr .. |.field .. |.index .. |.extract .. |.typeAssert .. |.sliceToArrayPointer .. =>true
 | _=>false
def opA (P:Program) (o:Op) (t:ZM) (h:Z6) (K:AV->Z6->Prop):Prop:=
 match o with
 | .alloc e=>Z2A P h e K
 | .box _ x=>Zgz h (aev t x) K
 | .buildSlice T len ps=>XW P h T len (Zbl t ps.toList) K
 | .makeMap _ none=>K (.map (some h.next)) (h.add (.map []))
 | .call ⟨.builtin .append,args,tys⟩=>match args.toList,tys.toList with
  | [s,x],[T,T']=>match Nat.beq T T' with
   | true=>Z58 P h T (aev t s) (aev t x) K
   | false=>Z5a P h T T' (aev t s) (aev t x) K
  | _,_=>False
 | .call ⟨.builtin .copy,args,tys⟩=>match args.toList,tys.toList with
  | [d,s],[T,_]=>Zbh P h T (aev t d) (aev t s) K
  | _,_=>False
 | .call ⟨.builtin .delete,args,tys⟩=>match args.toList,tys.toList with
  | [m,k],T::_=>Z0g h (aev t m) fun h=>Z5r P h T (aev t m) (aev t k) (K (.tuple []))
  | _,_=>False
 | .mapEntry T m k=>Z0g h (aev t m) fun h=>Z7M P h T (aev t m) (aev t k) K
 | .range T x=>Z7I P h T (aev t x) K
 | .convert s d x=>Z7O P h s d (aev t x) K (Ze9 P h s d (aev t x) fun v=>K v h)
 | o=>opQ P o t h fun v=>K v h
def ZhT (lt:Bool) (k:IntKind) (a b:Int):AV:=match lt with|true=>.int k (if b<a then b else a)|false=>.int k (if b>a then b else a)
theorem Z6f {lt:Bool} (h:Zeb lt args K):∃k a b,args=[.int k a,.int k b]/\K (ZhT lt k a b):=by
 unfold Zeb at h
 split at h
 ·split at h
  ·rename_i hk
   have hk:=of_decide_eq_true hk
   subst hk
   cases lt with
   | true=>exact ⟨_,_,_,rfl,h⟩
   | false=>exact ⟨_,_,_,rfl,h⟩
  simp_all
 simp_all
theorem Z8V {k:IntKind} {a b:Int} {rs:List Value} (h:Zt E [.int k a,.int k b] rs):rs=[.int k a,.int k b]:=by
 cases h with
 | cons v c vs cs h1 h2=>cases h2 with
  | cons v c vs cs h3 h4=>cases h1;cases h3;cases h4;rfl
theorem Z7Q {P:Program} {o:Oper} {t:ZM} {h:Z6} (hl:opQ P o.op t h K):
  ∃v,K v/\∀(E:Env) (w:World) (n:Nat) (a:Act),(worldless o.op=false->Emb E h w)->V8 E n t a.tmps->∃r,(execOp a.eval o).run P w=.ok (.value r) w/\Zc E v r:=by
 unfold opQ at hl
 split at hl
 ·rename_i x ho
  exact ⟨_,hl,fun E w n a he ht=>⟨_,by simp [execOp,ho],Zk ht x⟩⟩
 ·rename_i x ho
  exact ⟨_,hl,fun E w n a he ht=>⟨_,by simp [execOp,ho],Zk ht x⟩⟩
 ·rename_i c x y ho
  split at hl
  ·rename_i e hc
   cases e with
   | true=>
    refine ⟨_,hl,fun E w n a he ht=>⟨a.eval x, ?_,Zk ht x⟩⟩
    have h1:=Zk ht c
    rw [hc] at h1
    cases hcv:a.eval c<;>rw [hcv] at h1<;>cases h1
    simp [execOp,ho,hcv,asBool]
   | false=>
    refine ⟨_,hl,fun E w n a he ht=>⟨a.eval y, ?_,Zk ht y⟩⟩
    have h1:=Zk ht c
    rw [hc] at h1
    cases hcv:a.eval c<;>rw [hcv] at h1<;>cases h1
    simp [execOp,ho,hcv,asBool]
  simp_all
 ·rename_i T ps ho
  obtain ⟨v,hK,hv⟩:=Z9Z hl
  refine ⟨v,hK,fun E w n a he ht=> ?_⟩
  obtain ⟨r,h1,h2⟩:=hv E w _ (Uj ht ps.toList)
  refine ⟨r, ?_,h2⟩
  have e:(ps.map fun (x:Nat×Operand)=>(x.1,a.eval x.2))=(ps.toList.map fun (x:Nat×Operand)=>(x.1,a.eval x.2)).toArray:=by grind
  simp_all [execOp]
 ·rename_i T x ho
  obtain ⟨v,hK,hv⟩:=Z60 hl
  refine ⟨v,hK,fun E w n a he ht=> ?_⟩
  obtain ⟨ad,r,e1,h1,h2⟩:=hv E w _ (he (by rw [ho];rfl)) (Zk ht x)
  simp_all [execOp,Instr.loadAt,Instr.sureAddr]
 ·rename_i x ho
  unfold Z43 at hl
  split at hl
  ·rename_i p hx
   refine ⟨_,hl,fun E w n a he ht=> ?_⟩
   have h1:=Zk ht x
   rw [hx] at h1
   refine ⟨a.eval x, ?_,h1⟩
   cases hcv:a.eval x<;>rw [hcv] at h1<;>cases h1
   simp [execOp,ho,hcv]
  ·rename_i cs inn hx
   refine ⟨_,hl,fun E w n a he ht=> ?_⟩
   have h1:=Zk ht x
   rw [hx] at h1
   refine ⟨a.eval x, ?_,h1⟩
   cases hcv:a.eval x<;>rw [hcv] at h1<;>cases h1
   simp [execOp,ho,hcv]
  ·rename_i f b c hx
   refine ⟨_,hl,fun E w n a he ht=> ?_⟩
   have h1:=Zk ht x
   rw [hx] at h1
   refine ⟨a.eval x, ?_,h1⟩
   cases hcv:a.eval x<;>rw [hcv] at h1<;>cases h1
   simp [execOp,ho,hcv]
  ·rename_i y hx
   refine ⟨_,hl,fun E w n a he ht=> ?_⟩
   have h1:=Zk ht x
   rw [hx] at h1
   refine ⟨a.eval x, ?_,h1⟩
   cases hcv:a.eval x<;>rw [hcv] at h1<;>cases h1
   simp [execOp,ho,hcv]
  simp_all
 ·rename_i op T x y yt ho
  obtain ⟨v,hK,hv⟩:=Zab hl
  refine ⟨v,hK,fun E w n a he ht=> ?_⟩
  obtain ⟨r,h1,h2⟩:=hv E w _ _ (Zk ht x) (Zk ht y)
  exact ⟨r,by simp only [execOp,ho];rw [J6,h1];rfl,h2⟩
 ·rename_i op T x ho
  obtain ⟨v,hK,hv⟩:=ZgC hl P
  refine ⟨v,hK,fun E w n a he ht=> ?_⟩
  obtain ⟨r,h1,h2⟩:=hv E w _ (Zk ht x)
  exact ⟨r,by simp [execOp,ho,h1],h2⟩
 ·rename_i s d x ho
  obtain ⟨v,hK,hv⟩:=Z8U hl
  refine ⟨v,hK,fun E w n a he ht=> ?_⟩
  obtain ⟨r,h1,h2⟩:=hv E w _ (he (by rw [ho];rfl)) (Zk ht x)
  exact ⟨r,by simp [execOp,ho,h1],h2⟩
 ·rename_i T x ho
  unfold Z6c at hl
  split at hl
  ·simp_all
  ·simp_all
  ·rename_i d hni hu
   refine ⟨_,hl,fun E w n a he ht=>⟨.iface T (a.eval x), ?_,.iface _ _ _ (Zk ht x)⟩⟩
   simp only [execOp,ho,Instr.makeInterface,J6,Zb hu,J4]
   cases d<;>first|exact absurd hu (hni _)|simp
 ·rename_i f first cap ho
  refine ⟨_,hl,fun E w n a he ht=>⟨.func (.func f) (first.map a.eval) (cap.map a.eval),by simp [execOp,ho,Instr.makeFunc], ?_⟩⟩
  rw [show first.map a.eval=(first.toList.map a.eval).toArray from by grind,show cap.map a.eval=(cap.toList.map a.eval).toArray from by grind]
  grind [Zc.func,Vj]
 ·rename_i T x lo hi mx ho
  obtain ⟨v,hK,hv⟩:=Z9X hl
  refine ⟨v,hK,fun E w n a he ht=> ?_⟩
  obtain ⟨r,h1,h2⟩:=hv E w _ _ _ _ (he (by rw [ho];rfl)) (Zk ht x) (Z2N ht lo) (Z2N ht hi) (Z2N ht mx)
  exact ⟨r,by simp [execOp,ho,h1],h2⟩
 ·rename_i S x f ho
  obtain ⟨v,hK,hv⟩:=Z9U hl
  refine ⟨v,hK,fun E w n a he ht=> ?_⟩
  obtain ⟨r,h1,h2⟩:=hv E w _ (Zk ht x)
  exact ⟨r,by simp [execOp,ho,h1],h2⟩
 ·rename_i S x f ho
  obtain ⟨v,hK,hv⟩:=Za2 hl
  refine ⟨v,hK,fun E w n a he ht=> ?_⟩
  obtain ⟨r,h1,h2⟩:=hv E w _ (Zk ht x)
  exact ⟨r,by simp [execOp,ho,h1],h2⟩
 ·rename_i T x i ho
  obtain ⟨v,hK,hv⟩:=Z9V hl
  refine ⟨v,hK,fun E w n a he ht=> ?_⟩
  obtain ⟨r,h1,h2⟩:=hv E w _ _ (Zk ht x) (Zk ht i)
  exact ⟨r,by simp [execOp,ho,h1],h2⟩
 ·rename_i T x i ho
  obtain ⟨v,hK,hv⟩:=Za3 hl
  refine ⟨v,hK,fun E w n a he ht=> ?_⟩
  obtain ⟨r,h1,h2⟩:=hv E w _ _ (Zk ht x) (Zk ht i)
  exact ⟨r,by simp [execOp,ho,h1],h2⟩
 ·rename_i x i ho
  obtain ⟨v,hK,hv⟩:=Z6a hl P
  refine ⟨v,hK,fun E w n a he ht=> ?_⟩
  obtain ⟨r,h1,h2⟩:=hv E w _ (Zk ht x)
  exact ⟨r,by simp [execOp,ho,h1],h2⟩
 ·rename_i x xt asserted ok ho
  obtain ⟨v,hK,hv⟩:=Z2P (xt:=xt) hl
  refine ⟨v,hK,fun E w n a he ht=> ?_⟩
  obtain ⟨r,h1,h2⟩:=hv E w _ (Zk ht x)
  exact ⟨r,by simp [execOp,ho,h1],h2⟩
 ·rename_i args tys ho
  split at hl
  ·rename_i x T hx hT
   obtain ⟨hh,hl,hth⟩:=WE hl
   obtain ⟨v,hK,hv⟩:=Ze0 (ty:=o.type) hl
   refine ⟨v,hK,fun E w n a he ht=> ?_⟩
   obtain ⟨r,h1,h2⟩:=hv E w _ (hth E w (he (by rw [ho];rfl))).emb (Zk ht x)
   refine ⟨r, ?_,h2⟩
   have e1:args= #[x]:=by rw [<-Array.toArray_toList (xs:=args),hx]
   have e2:tys= #[T]:=by rw [<-Array.toArray_toList (xs:=tys),hT]
   simp_all [execOp,resolve,invoke,builtin]
  simp_all
 ·rename_i args tys ho
  obtain ⟨k,x,y,hargs,hK⟩:=Z6f hl
  refine ⟨_,hK,fun E w n a he ht=> ?_⟩
  have hr:=Vj ht args.toList
  rw [hargs] at hr
  have hmap:=Z8V hr
  refine ⟨_, ?_,by unfold ZhT;exact .int _ _⟩
  have e1:args.map a.eval= #[.int k x,.int k y]:=by grind
  simp_all [execOp,resolve,invoke,builtin,Builtin.min_,Builtin.min2]
 ·rename_i args tys ho
  obtain ⟨k,x,y,hargs,hK⟩:=Z6f hl
  refine ⟨_,hK,fun E w n a he ht=> ?_⟩
  have hr:=Vj ht args.toList
  rw [hargs] at hr
  have hmap:=Z8V hr
  refine ⟨_, ?_,by exact .int _ _⟩
  simp_all [execOp,resolve,invoke,builtin,Builtin.max_,Builtin.max2]
 ·rename_i T m k ok ho
  obtain ⟨hh,hl,hth⟩:=WE hl
  obtain ⟨v,hK,hv⟩:=Z7G hl
  refine ⟨v,hK,fun E w n a he ht=> ?_⟩
  obtain ⟨r,h1,h2⟩:=hv E w _ _ (hth E w (he (by rw [ho];rfl))).emb (Zk ht m) (Zk ht k)
  exact ⟨r,by simp [execOp,ho,h1],h2⟩
 ·rename_i T x ho
  obtain ⟨v,hK,hv⟩:=Z7x hl
  refine ⟨v,hK,fun E w n a he ht=> ?_⟩
  obtain ⟨r,h1,h2⟩:=hv E w _ (Zk ht x)
  exact ⟨r,by simp [execOp,ho,h1],h2⟩
 ·rename_i x ho
  obtain ⟨v,hK,hv⟩:=Zbt (P:=P) hl
  refine ⟨v,hK,fun E w n a he ht=> ?_⟩
  obtain ⟨r,h1,h2⟩:=hv E w _ (he (by rw [ho];rfl)) (Zk ht x)
  exact ⟨r,by simp [execOp,ho,h1],h2⟩
 simp_all
theorem Zbu {P:Program} {o:Oper} {t:ZM} {h:Z6} {K:AV->Z6->Prop} (hl:opA P o.op t h K):
  ∃v h',K v h'/\∀(E:Env) (w:World) (n:Nat) (a:Act),Emb E h w->V8 E n t a.tmps->
   ∃r w' E',(execOp a.eval o).run P w=.ok (.value r) w'/\Evo E h w E' h' w'/\Zc E' v r:=by
 unfold opA at hl
 split at hl
 ·rename_i e ho
  obtain ⟨v,h',hK,hv⟩:=Z9Y hl
  refine ⟨v,h',hK,fun E w n a he ht=> ?_⟩
  obtain ⟨r,w',E',h1,h2,h3⟩:=hv E w (.tuple #[]) he
  exact ⟨r,w',E',by simp [execOp,ho,h1],h2,h3⟩
 ·rename_i e x ho
  obtain ⟨v,h',hK,hv⟩:=ZdZ hl P e
  refine ⟨v,h',hK,fun E w n a he ht=> ?_⟩
  obtain ⟨r,w',E',h1,h2,h3⟩:=hv E w _ he (Zk ht x)
  exact ⟨r,w',E',by simp [execOp,ho,h1],h2,h3⟩
 ·rename_i T len ps ho
  obtain ⟨v,h',hK,hv⟩:=Z2G hl
  refine ⟨v,h',hK,fun E w n a he ht=> ?_⟩
  obtain ⟨r,w',E',h1,h2,h3⟩:=hv E w _ he (Uj ht ps.toList)
  refine ⟨r,w',E', ?_,h2,h3⟩
  have e:(ps.map fun (x:Nat×Operand)=>(x.1,a.eval x.2))=(ps.toList.map fun (x:Nat×Operand)=>(x.1,a.eval x.2)).toArray:=by grind
  simp_all [execOp]
 ·rename_i T ho
  refine ⟨_,_,hl,fun E w n a he ht=> ?_⟩
  obtain ⟨r,w',E',h1,h2,h3⟩:=Z7w (P:=P) (T:=T) he
  exact ⟨r,w',E',by simp [execOp,ho,h1],h2,h3⟩
 ·rename_i args tys ho
  split at hl
  ·rename_i s x T T' hx hT
   have e1:args= #[s,x]:=by rw [<-Array.toArray_toList (xs:=args),hx]
   have e2:tys= #[T,T']:=by rw [<-Array.toArray_toList (xs:=tys),hT]
   split at hl
   ·rename_i hb
    have hTT:T=T':=J0 hb
    subst hTT
    obtain ⟨v,h',hK,hv⟩:=Z7m (ty:=o.type) hl
    refine ⟨v,h',hK,fun E w n a he ht=> ?_⟩
    obtain ⟨r,w',E',h1,h2,h3⟩:=hv E w _ _ he (Zk ht s) (Zk ht x)
    exact ⟨r,w',E',by simp_all [execOp,resolve,invoke,builtin],h2,h3⟩
   ·obtain ⟨v,h',hK,hv⟩:=Z7n (ty:=o.type) hl
    refine ⟨v,h',hK,fun E w n a he ht=> ?_⟩
    obtain ⟨r,w',E',h1,h2,h3⟩:=hv E w _ _ he (Zk ht s) (Zk ht x)
    exact ⟨r,w',E',by simp_all [execOp,resolve,invoke,builtin],h2,h3⟩
  simp_all
 ·rename_i args tys ho
  split at hl
  ·rename_i d s T T' hx hT
   have e1:args= #[d,s]:=by rw [<-Array.toArray_toList (xs:=args),hx]
   have e2:tys= #[T,T']:=by rw [<-Array.toArray_toList (xs:=tys),hT]
   obtain ⟨v,h',hK,hv⟩:=Zbi (t2:=T') (ty:=o.type) hl
   refine ⟨v,h',hK,fun E w n a he ht=> ?_⟩
   obtain ⟨r,w',E',h1,h2,h3⟩:=hv E w _ _ he (Zk ht d) (Zk ht s)
   exact ⟨r,w',E',by simp_all [execOp,resolve,invoke,builtin],h2,h3⟩
  simp_all
 ·rename_i args tys ho
  split at hl
  ·rename_i m k T r hx hT
   have e1:args= #[m,k]:=by rw [<-Array.toArray_toList (xs:=args),hx]
   obtain ⟨hh,hl,hth⟩:=WE hl
   obtain ⟨h',hK,hv⟩:=Z7K hl
   refine ⟨_,h',hK,fun E w n a he ht=> ?_⟩
   have e2:tys[0]? =some T:=by rw [<-Array.getElem?_toList,hT];rfl
   have hev:=hth E w he
   obtain ⟨w',h1,h2⟩:=hv E w _ _ tys o.type e2 hev.emb (Zk ht m) (Zk ht k)
   exact ⟨.tuple #[],w',E,by simp_all [execOp,resolve,invoke,builtin],hev.trans h2,.tuple [] [] .nil⟩
  simp_all
 ·rename_i T m k ho
  obtain ⟨hh,hl,hth⟩:=WE hl
  obtain ⟨v,h',hK,hv⟩:=Za8 hl
  refine ⟨v,h',hK,fun E w n a he ht=> ?_⟩
  have hev:=hth E w he
  obtain ⟨r,w',E',h1,h2,h3⟩:=hv E w _ _ hev.emb (Zk ht m) (Zk ht k)
  exact ⟨r,w',E',by simp [execOp,ho,h1],hev.trans h2,h3⟩
 ·rename_i T x ho
  obtain ⟨v,h',hK,hv⟩:=Za6 hl
  refine ⟨v,h',hK,fun E w n a he ht=> ?_⟩
  obtain ⟨r,w',E',h1,h2,h3⟩:=hv E w _ he (Zk ht x)
  exact ⟨r,w',E',by simp [execOp,ho,h1],h2,h3⟩
 ·rename_i s d x ho
  rcases Zaa hl with hl|⟨v,h',hK,hv⟩
  ·obtain ⟨v,hK,hv⟩:=Z8U hl
   refine ⟨v,h,hK,fun E w n a he ht=> ?_⟩
   obtain ⟨r,h1,h2⟩:=hv E w _ he (Zk ht x)
   exact ⟨r,w,E,by simp [execOp,ho,h1],.refl he,h2⟩
  ·refine ⟨v,h',hK,fun E w n a he ht=> ?_⟩
   obtain ⟨r,w',E',h1,h2,h3⟩:=hv E w _ he (Zk ht x)
   exact ⟨r,w',E',by simp [execOp,ho,h1],h2,h3⟩
 ·obtain ⟨v,hK,hv⟩:=Z7Q hl
  refine ⟨v,h,hK,fun E w n a he ht=> ?_⟩
  obtain ⟨r,q1,q2⟩:=hv E w n a (fun _=>he) ht
  exact ⟨r,w,E,q1,.refl he,q2⟩
inductive Ua where
 | call (f:FuncId) (args:List AV)
 | mark (x:Nat)
structure St where
 n:Nat
 t:ZM
 h:Z6
 d:List Ua
inductive Ex where
 | normal
 | exit (id:Nat)
 | goto (l:Nat)
 | ret
 | panic (v:AV)
inductive Out where
 | ret (v:AV)
 | panic (v:AV)
abbrev KO:=Out->Z6->Prop
abbrev KE:=Ex->St->Prop
abbrev YK:=List AV->Z6->(AV->Prop)->Prop
structure Ctx where
 pure:FuncId->Option YK
 call:FuncId->List AV->Z6->KO->Prop
 round:Nat->List AV->Z6->KO->Prop
 fn:FuncId
 inR:Option Nat
variable {cx:Ctx}
inductive VT (E:Env):List Ua->List Deferred->Prop
 | nil:VT E [] []
 |call (f:FuncId) (args:List AV) (fn:Fn) (cap rs:Array Value) (ds:List Ua) (rd:List Deferred) (hf:fn=.func f) (hl:Zt E args (rs.toList++cap.toList)) (t:VT E ds rd):
   VT E (.call f args::ds) (⟨.fn fn cap,rs⟩::rd)
 | mark (x b N:Nat) (ds:List Ua) (rd:List Deferred) (h:E.blk x=some (b,N)) (t:VT E ds rd):VT E (.mark x::ds) (⟨.collected b, #[]⟩::rd)
theorem VT.mono {E E':Env} (le:E.le E'):∀{ds:List Ua} {rd:List Deferred},VT E ds rd->VT E' ds rd
 | _,_,.nil=>.nil
 | _,_,.call f args fn cap rs ds rd hf hl t=>.call f args fn cap rs ds rd hf (hl.mono le) (VT.mono le t)
 | _,_,.mark x b N ds rd h t=>.mark x b N ds rd (le.blk _ _ h) (VT.mono le t)
structure WN (E:Env) (s:St) (a:Act) (w:World):Prop where
 emb:Emb E s.h w
 tmps:V8 E s.n s.t a.tmps
 defs:VT E s.d a.defers
inductive Z31 (E:Env):Ex->Exit->Prop
 | normal:Z31 E .normal .normal
 | exit (id:Nat):Z31 E (.exit id) (.exit id)
 | goto (l:Nat):Z31 E (.goto l) (.goto l)
 | ret:Z31 E .ret .ret
 | panic (v:AV) (r:Value) (h:Zc E v r):Z31 E (.panic v) (.panic [{ v:=r,recovered:=false}])
inductive QG (E:Env):Out->Ending->Prop
 | ret (v:AV) (r:Value) (h:Zc E v r):QG E (.ret v) (.returned r)
 | panic (v:AV) (r:Value) (h:Zc E v r):QG E (.panic v) (.panicked [{ v:=r,recovered:=false}])
def Zh (P:Program) (f:FuncId) (args:List AV) (h:Z6) (K:KO):Prop:=
 ∀(E:Env) (w:World) (rs:List Value),Emb E h w->Zt E args rs->
  Calls P f rs.toArray w fun e w'=>∃E' o h',K o h'/\Evo E h w E' h' w'/\QG E' o e
def Zbv (P:Program) (x:Nat) (args:List AV) (h:Z6) (K:KO):Prop:=
 ∀(E:Env) (w:World) (rs:List Value) (b N:Nat),Emb E h w->Zt E args rs->E.blk x=some (b,N)->
  ∃f tmps assign body,(Instr.yield b rs.toArray).run P w=.ok (.round b f tmps assign body) w/\
   RoundIn Fence.wide 0 P b f tmps assign body w fun e w'=>∃E' o h',K o h'/\Evo E h w E' h' w'/\QG E' o e
structure Ctx.Ok (P:Program) (cx:Ctx):Prop where
 pure:∀f S args h K,cx.pure f=some S->S args h K->Zh P f args h fun o h'=>∃v,o=.ret v/\h'=h/\K v
 call:∀f args h K,cx.call f args h K->Zh P f args h K
 round:∀x args h K,cx.round x args h K->Zbv P x args h K
def Ub (s:St) (dst:Option Tmp) (v:AV) (K:St->Prop):Prop:=
 match dst with
 | none=>K s
 | some d=>match Nat.blt d s.n with
  | true=>K { s with t:=Ue s.t d v}
  | false=>False
theorem Q1 {s:St} {dst:Option Tmp} {v:AV} {K:St->Prop} (h:Ub s dst v K):
  ∃s',K s'/\s'.h=s.h/\s'.n=s.n/\∀(E:Env) (a:Act) (w:World) (r:Value),WN E s a w->Zc E v r->WN E s' (a.put dst r) w:=by
 unfold Ub at h
 split at h
 ·exact ⟨s,h,rfl,rfl,fun E a w r hs hv=>hs⟩
 ·rename_i d
  split at h
  ·rename_i hb
   have hd:d<s.n:=Je hb
   refine ⟨_,h,rfl,rfl,fun E a w r hs hv=>⟨hs.emb,⟨?_,fun x u hx=> ?_⟩,hs.defs⟩⟩
   ·simp [Act.put,hs.tmps.size]
   ·simp only [Act.put]
    by_cases hxd:d=x
    ·subst hxd
     rw [X4] at hx
     have:d<a.tmps.size:=by rw [hs.tmps.size];exact hd
     simp_all
    ·rw [YT _ _ _ _ hxd] at hx
     have:=hs.tmps.get x u hx
     simp_all
  simp_all
theorem Zbw {fn:Func} (h:fn.name= "internal/bytealg.Compare"):Extern.find fn=some Extern.BytealgCompare.compare:=by
 have h1:Extern.allGenericRows.lookup "internal/bytealg.Compare" =none:=by kernel_rfl
 have h2:Extern.allTypedRows.lookup "internal/bytealg.Compare" =none:=by kernel_rfl
 have h3:Extern.allRows.lookup "internal/bytealg.Compare" =some Extern.BytealgCompare.compare:=by kernel_rfl
 simp [Extern.find,h,h1,h2,h3]
theorem Z5s {fn:Func} (h:fn.name= "internal/bytealg.Compare") (ho:fn.origin= ""):Extern.findNext fn=none:=by
 have h1:Extern.allNextRows.lookup "internal/bytealg.Compare" =none:=by kernel_rfl
 have h2:Extern.allNextRows.lookup "" =none:=by kernel_rfl
 simp [Extern.findNext,h,ho,h1,h2]
def Zbx (cx:Ctx) (P:Program) (f:AV) (args:List AV) (h:Z6) (K:KO):Prop:=
 match f with
 | .func (.func g) first cap=>match P.funcs[g]? with
  | some fn=>match fn.body.isSome&& !(fn.name== "runtime.NumGoroutine") with
   | true=>cx.call g (first++args++cap) h K
   | false=>match fn.body.isNone&&fn.name== "internal/bytealg.Compare" &&fn.origin== "" with
    | true=>ZgE h (first++args++cap) fun v=>K (.ret v) h
    | false=>False
  | none=>False
 | .yield x=>cx.round x args h K
 | _=>False
def Z32 (cx:Ctx) (P:Program) (o:Op) (t:ZM) (h:Z6) (d:List Ua) (K:AV->Z6->List Ua->Prop) (X:AV->Z6->Prop):Prop:=
 match o with
 | .store T x v=>Z7d P h T (aev t x) (aev t v) fun h'=>K (.tuple []) h' d
 | .insert T m k v=>Z0g h (aev t m) fun h=>Z25 P h T (aev t m) (aev t k) (aev t v) fun h'=>K (.tuple []) h' d
 | .mapUpdate T m k v=>Z0g h (aev t m) fun h=>Z25 P h T (aev t m) (aev t k) (aev t v) fun h'=>K (.tuple []) h' d
 | .entryStore _ m s v=>Z7N h (aev t m) (aev t s) (aev t v) fun h'=>K (.tuple []) h' d
 | .next x false=>Zbq h (aev t x) fun v h'=>K v h' d
 | .call ⟨.value f,args,_⟩=>Zbx cx P (aev t f) (Z5d t args.toList) h fun o h'=>match o with
  | .ret v=>K v h' d
  | .panic v=>X v h'
 | .panic x=>match aev t x with
  | .iface T v=>X (.iface T v) h
  | _=>False
 | .defer ⟨.value f,args,_⟩=>match aev t f,cx.inR with
  | .func (.func g) first cap,none=>match P.funcs[g]? with
   | some fn=>match fn.body.isSome&& !(fn.name== "runtime.NumGoroutine") with
    | true=>K (.tuple []) h (.call g (first++Z5d t args.toList++cap)::d)
    | false=>False
   | none=>False
  | _,_=>False
 | o=>opA P o t h fun v h'=>K v h' d
def Z7R (cx:Ctx) (P:Program) (o:Op) (t:ZM):Option (YK×List AV):=
 match o with
 | .call ⟨.value f,args,_⟩=>match aev t f with
  | .func (.func g) first cap=>match cx.pure g with
   | some S=>match P.funcs[g]? with
    | some fn=>match fn.body.isSome&& !(fn.name== "runtime.NumGoroutine") with
     | true=>some (S,first++Z5d t args.toList++cap)
     | false=>none
    | none=>none
   | none=>none
  | _=>none
 | _=>none
def Z7S (P:Program) (ri:Option Nat):Ctx:=⟨fun _=>none,fun f args h K=>Zh P f args h K,fun _ _ _ _=>False,0,ri⟩
theorem Zac (P:Program) (ri:Option Nat):(Z7S P ri).Ok P:=⟨fun _ _ _ _ _ h=>by simp [Z7S] at h,fun _ _ _ _ h=>h,fun _ _ _ _ h=>h.elim⟩
theorem Z6g {P:Program} (hcx:cx.Ok P) {o:Op} {t:ZM} {h:Z6} {d:List Ua} {S:YK} {N:AV->Prop} (ri:Option Nat) (hp:Z7R cx P o t=some (S,args)) (hs:S args h N):
  Z32 (Z7S P ri) P o t h d (fun v h' d'=>N v/\h'=h/\d'=d) (fun _ _=>False):=by
 unfold Z7R at hp
 split at hp
 ·split at hp
  ·rename_i g first cap hf
   split at hp
   ·rename_i S' hS
    split at hp
    ·rename_i fn hfn
     split at hp
     ·rename_i hb
      cases hp
      have hc:=hcx.pure g _ _ _ _ hS hs
      simp only [Z32,Zbx,hf,hfn,hb]
      intro E w rs he hl
      refine (hc E w rs he hl).mono ?_
      grind
     ·cases hp
    ·cases hp
   ·cases hp
  ·cases hp
 ·cases hp
def ZfS (cx:Ctx) (P:Program) (o:Op) (s:St) (K:AV->St->Prop) (X:KE):Prop:=
 match s with
 | ⟨n,t,h,d⟩=>Z32 cx P o t h d (fun v h' d'=>K v ⟨n,t,h',d'⟩) fun v h'=>X (.panic v) ⟨n,t,h',d⟩
def Fr (ro:Option Nat):Fence:={ Fence.wide with round:=ro}
theorem Z33 {n:Nat} {P:Program} {f:FuncId} {args:Array Value} {w:World} {R:Ending->World->Prop} (h:Calls P f args w R):CallsIn (Fr ro) n P f args w R:=(callsIn_wide (n:=n)).2 h
theorem Zt.append {E:Env}:∀{vs us:List AV} {rs ts:List Value},Zt E vs rs->Zt E us ts->Zt E (vs++us) (rs++ts)
 | _,_,_,_,.nil,h=>h
 | _,_,_,_,.cons v c vs cs h t,k=>.cons v c _ _ h (Zt.append t k)
theorem VU {P:Program} {g:FuncId} {fn:Func} (hf:P.funcs[g]? =some fn) (hb:(fn.body.isSome&& !(fn.name== "runtime.NumGoroutine"))=true) (args:Array Value) (w:World):
  (callFunc g args).run P w=.ok (.enter g args) w:=by
 have h1:(fn.name== "runtime.NumGoroutine")=false:=by simp_all
 have h2:fn.body.isNone=false:=by cases hq:fn.body<;>simp_all
 simp only [callFunc,J6,run_program,J4,hf]
 rw [if_neg (by rw [h1];simp),if_neg (by rw [h2];simp)]
 rfl
theorem ZH {ρ:Operand->Value} {o:Oper} (h:∀c,o.op≠.defer c):o.semAt ro ρ=execOp ρ o:=Oper.semAt_eq ro ρ o h
theorem Z34 {P:Program} (hcx:cx.Ok P) {o:Oper} {t:ZM} {h:Z6} {d:List Ua} {K:AV->Z6->List Ua->Prop} {X:AV->Z6->Prop} (hl:Z32 cx P o.op t h d K X)
 {h0:Z6} {w:World} {a:Act} {m:Nat} (he:Emb E h w) (ht:V8 E m t a.tmps) (hd:VT E d a.defers) (hev:Evo E0 h0 w0 E h w) (hro:cx.inR=none->ro=none) {n:Nat}
  {next:Act->World->Prop} {Q:Exit->Act->World->Prop}
  (hK:∀v h' d' E' ds r w',K v h' d'->Evo E h w E' h' w'->Evo E0 h0 w0 E' h' w'->VT E' d' ds->Zc E' v r->next (({ a with defers:=ds}:Act).put o.dst r) w')
  (hX:∀v h' E' r w',X v h'->Evo E h w E' h' w'->Evo E0 h0 w0 E' h' w'->Zc E' v r->Q (.panic [{ v:=r,recovered:=false}]) a w'):
  o.wpIn (Fr ro) n P a w next Q:=by
 refine ⟨fun _ _=>trivial, ?_⟩
 unfold Z32 at hl
 split at hl
 ·-- a store
  rename_i T x v ho
  rw [show (Fr ro).round=ro from rfl,ZH (fun c e=>by rw [ho] at e;cases e)]
  obtain ⟨h',hk,hr⟩:=Z9T hl
  obtain ⟨w',h1,h2⟩:=hr E w _ _ he (Zk ht x) (Zk ht v)
  have:(execOp a.eval o).run P w=.ok .skip w':=by simp [execOp,ho,h1]
  rw [this]
  exact hK _ _ _ E a.defers undef w' hk h2 (hev.trans h2) hd (.tuple [] [] .nil)
 ·-- an entry
  rename_i T m k v ho
  rw [show (Fr ro).round=ro from rfl,ZH (fun c e=>by rw [ho] at e;cases e)]
  obtain ⟨hh,hl,hth⟩:=WE hl
  have hev2:=hth E w he
  obtain ⟨h',hk,hr⟩:=Z2T hl
  obtain ⟨w',h1,h2⟩:=hr E w _ _ _ hev2.emb (Zk ht m) (Zk ht k) (Zk ht v)
  have:(execOp a.eval o).run P w=.ok .skip w':=by simp [execOp,ho,h1]
  rw [this]
  exact hK _ _ _ E a.defers undef w' hk (hev2.trans h2) (hev.trans (hev2.trans h2)) hd (.tuple [] [] .nil)
 ·-- an entry
  rename_i T m k v ho
  rw [show (Fr ro).round=ro from rfl,ZH (fun c e=>by rw [ho] at e;cases e)]
  obtain ⟨hh,hl,hth⟩:=WE hl
  have hev2:=hth E w he
  obtain ⟨h',hk,hr⟩:=Z2T hl
  obtain ⟨w',h1,h2⟩:=hr E w _ _ _ hev2.emb (Zk ht m) (Zk ht k) (Zk ht v)
  have:(execOp a.eval o).run P w=.ok .skip w':=by simp [execOp,ho,h1]
  rw [this]
  exact hK _ _ _ E a.defers undef w' hk (hev2.trans h2) (hev.trans (hev2.trans h2)) hd (.tuple [] [] .nil)
 ·-- an entry's value
  rename_i T m k v ho
  rw [show (Fr ro).round=ro from rfl,ZH (fun c e=>by rw [ho] at e;cases e)]
  obtain ⟨h',hk,hr⟩:=Za9 (P:=P) hl
  obtain ⟨w',h1,h2⟩:=hr E w T _ _ _ he (Zk ht m) (Zk ht k) (Zk ht v)
  have:(execOp a.eval o).run P w=.ok .skip w':=by simp [execOp,ho,h1]
  rw [this]
  exact hK _ _ _ E a.defers undef w' hk h2 (hev.trans h2) hd (.tuple [] [] .nil)
 ·-- a step of a range over a map
  rename_i x ho
  rw [show (Fr ro).round=ro from rfl,ZH (fun c e=>by rw [ho] at e;cases e)]
  obtain ⟨v,h',r,w',hk,h1,h2,h3⟩:=Zbr (P:=P) hl o.type he (Zk ht x)
  have:(execOp a.eval o).run P w=.ok (.value r) w':=by simp [execOp,ho,h1]
  rw [this]
  exact hK v _ _ E a.defers r w' hk h2 (hev.trans h2) hd h3
 ·-- a call
  rename_i f args tys ho
  rw [show (Fr ro).round=ro from rfl,ZH (fun c e=>by rw [ho] at e;cases e)]
  have hf:=Zk ht f
  have ha:=Vj ht args.toList
  unfold Zbx at hl
  split at hl
  ·rename_i g first cap hfv
   rw [hfv] at hf
   split at hl
   ·rename_i fn hfn
    split at hl
    ·rename_i hb
     cases hfe:a.eval f<;>rw [hfe] at hf<;>cases hf
     rename_i fs cs hfs hcs
     have hrun:(execOp a.eval o).run P w=.ok (.enter g (fs.toArray++(args.toList.map a.eval).toArray++cs.toArray)) w:=by
      simp only [execOp,ho,resolve,J6,hfe,Deferred.ofValue,Jf,J4,invoke]
      rw [VU hfn hb]
      simp_all
     rw [hrun]
     refine ⟨fun h=>(by cases h), ?_⟩
     have hcall:=hcx.call _ _ _ _ hl E w (fs++args.toList.map a.eval++cs) he ((hfs.append ha).append hcs)
     have e1:(fs++args.toList.map a.eval++cs).toArray=fs.toArray++(args.toList.map a.eval).toArray++cs.toArray:=by simp
     rw [e1] at hcall
     refine Z33 (hcall.mono ?_)
     rintro e w' ⟨E',out,h',hk,hv,ho'⟩
     cases ho' with
     | ret v r hvr=>exact hK v _ _ E' a.defers r w' hk hv (hev.trans hv) (hd.mono hv.le) hvr
     | panic v r hvr=>exact hX _ _ E' r w' hk hv (hev.trans hv) hvr
    ·split at hl
     ·rename_i hb
      simp only [J2,beq_iff_eq] at hb
      obtain ⟨⟨hb1,hb2⟩,hb3⟩:=hb
      cases hfe:a.eval f<;>rw [hfe] at hf<;>cases hf
      rename_i fs cs hfs hcs
      obtain ⟨v,hK',hv⟩:=Zea (P:=P) hl
      obtain ⟨r,h1,h2⟩:=hv E w (fs++args.toList.map a.eval++cs) he ((hfs.append ha).append hcs)
      have e1:(fs++args.toList.map a.eval++cs).toArray=fs.toArray++(args.toList.map a.eval).toArray++cs.toArray:=by simp
      have hrun:(execOp a.eval o).run P w=.ok (.value r) w:=by
       simp only [execOp,ho,resolve,J6,hfe,Deferred.ofValue,Jf,J4,invoke]
       have e2:fs.toArray++args.map a.eval++cs.toArray=(fs++args.toList.map a.eval++cs).toArray:=by simp_all
       rw [e2,run_callFunc_extern hfn (by rw [hb2];rfl) hb1 (Z5s hb2 hb3) (Zbw hb2),h1]
       rfl
      rw [hrun]
      exact hK v _ _ E a.defers r w hK' (.refl he) hev hd h2
     simp_all
   simp_all
  ·rename_i x hfv
   rw [hfv] at hf
   cases hfe:a.eval f<;>rw [hfe] at hf<;>cases hf
   rename_i b N hbx
   obtain ⟨g,tmps,assign,body,hy,hR⟩:=hcx.round _ _ _ _ hl E w (args.toList.map a.eval) b N he ha hbx
   have hrun:(execOp a.eval o).run P w=.ok (.round b g tmps assign body) w:=by
    simp only [execOp,ho,resolve,J6,hfe,Deferred.ofValue,Jf,J4,invoke]
    rw [show #[]++args.map a.eval=(args.toList.map a.eval).toArray from by grind]
    exact hy
   rw [hrun]
   refine ⟨fun h=>(by cases h), ?_⟩
   refine RoundIn.mono (F:=Fence.wide) (n:=n-1) ⟨hR.1,fun c cs hroom=>hR.2 c cs (room_wide _)⟩ ?_
   rintro e w' ⟨E',out,h',hk,hv,ho'⟩
   cases ho' with
   | ret v r hvr=>exact hK v _ _ E' a.defers r w' hk hv (hev.trans hv) (hd.mono hv.le) hvr
   | panic v r hvr=>exact hX _ _ E' r w' hk hv (hev.trans hv) hvr
  simp_all
 ·-- a panic
  rename_i x ho
  rw [show (Fr ro).round=ro from rfl,ZH (fun c e=>by rw [ho] at e;cases e)]
  split at hl
  ·rename_i T v hx
   have h1:=Zk ht x
   rw [hx] at h1
   cases hxe:a.eval x<;>rw [hxe] at h1<;>cases h1
   rename_i r hr
   have hrun:(execOp a.eval o).run P w=.halt (.panic (.iface T r)) w:=by simp [execOp,ho,Instr.panic,hxe]
   rw [hrun]
   exact hX _ _ E _ w hl (.refl he) hev (.iface _ _ _ hr)
  simp_all
 ·-- a deferred call
  rename_i f args tys ho
  split at hl
  ·rename_i g first cap hfv hin
   split at hl
   ·split at hl
    ·have hr0:=hro hin
     subst hr0
     have hf:=Zk ht f
     have ha:=Vj ht args.toList
     rw [hfv] at hf
     cases hfe:a.eval f<;>rw [hfe] at hf<;>cases hf
     rename_i fs cs hfs hcs
     rw [show (Fr none).round=none from rfl,Oper.semAt_none]
     have hrun:(execOp a.eval o).run P w=.ok (.defer ⟨.fn (.func g) cs.toArray,fs.toArray++args.map a.eval⟩) w:=by
      simp_all [execOp,resolve,Deferred.ofValue]
     rw [hrun]
     refine hK _ _ _ E (_::a.defers) undef w hl (.refl he) hev (.call g _ _ _ _ _ _ rfl ?_ hd) (.tuple [] [] .nil)
     have:(fs.toArray++args.map a.eval).toList++cs.toArray.toList=fs++args.toList.map a.eval++cs:=by simp
     rw [this]
     exact (hfs.append ha).append hcs
    simp_all
   simp_all
  simp_all
 ·have hnd:∀c,o.op≠.defer c:=by
   grind [opA,opQ]
  rw [ZH hnd]
  obtain ⟨v,h',hk,hr⟩:=Zbu hl
  obtain ⟨r,w',E',q1,q2,q3⟩:=hr E w m a he ht
  rw [q1]
  exact hK v _ _ E' a.defers r w' hk q2 (hev.trans q2) (hd.mono q2.le) q3
theorem Zby {P:Program} (hcx:cx.Ok P) {o:Oper} {s:St} {K:AV->St->Prop} {X:KE} (hl:ZfS cx P o.op s K X)
 {h0:Z6} {w:World} {a:Act} (hs:WN E s a w) (hev:Evo E0 h0 w0 E s.h w) (hro:cx.inR=none->ro=none) {n:Nat}
  {next:Act->World->Prop} {Q:Exit->Act->World->Prop}
  (hK:∀v s' E' a' r w',K v s'->s'.n=s.n->WN E' s' a' w'->Evo E0 h0 w0 E' s'.h w'->Zc E' v r->next (a'.put o.dst r) w')
  (hX:∀x s' E' e a' w',X x s'->WN E' s' a' w'->Evo E0 h0 w0 E' s'.h w'->Z31 E' x e->Q e a' w'):
  o.wpIn (Fr ro) n P a w next Q:=by
 obtain ⟨m,t,h,d⟩:=s
 have hl':Z32 cx P o.op t h d (fun v h' d'=>K v ⟨m,t,h',d'⟩) fun v h'=>X (.panic v) ⟨m,t,h',d⟩:=hl
 refine Z34 hcx hl' hs.emb hs.tmps hs.defs hev hro ?_ ?_
 ·intro v h' d' E' ds r w' hk hv hv0 hds hvr
  exact hK v ⟨m,t,h',d'⟩ E' { a with defers:=ds} r w' hk rfl ⟨hv.emb,hs.tmps.mono hv.le,hds⟩ hv0 hvr
 ·intro v h' E' r w' hx hv hv0 hvr
  exact hX _ _ E' _ a w' hx ⟨hv.emb,hs.tmps.mono hv.le,hs.defs.mono hv.le⟩ hv0 (.panic v r hvr)
end Go.Tk
end
section
namespace Go.Tk
open IntKind (i64 u8 u32 u64 wrap)
def Z1x (all:List Oper) (j:Nat):Option Tmp:=match all[j]? with|some o=>o.dst|none=>none
def QH (all:List Oper) (g:Option (Nat×Bool)) (s:St) (run skip:St->Prop):Prop:=
 match g with
 | none=>run s
 | some (j,want)=>match Z1x all j with
  | none=>False
  | some d=>match ZD s.t d with
   | some (.bool b)=>Z8 b
     (match want with|true=>run { s with t:=Ue s.t d (.bool true)}|false=>skip { s with t:=Ue s.t d (.bool true)})
     (match want with|true=>skip { s with t:=Ue s.t d (.bool false)}|false=>run { s with t:=Ue s.t d (.bool false)})
   | some (.tuple [])=>skip s
   | _=>False
def Z8W (cx:Ctx) (P:Program) (all:List Oper):List Oper->St->KE->Prop
 | [],s,X=>X .normal s
 | o::r,s,X=>QH all o.guard s
   (fun s'=>ZfS cx P o.op s' (fun v s2=>Ub s2 o.dst v fun s3=>Z8W cx P all r s3 X) X)
   (fun s'=>Ub s' o.dst (.tuple []) fun s3=>Z8W cx P all r s3 X)
theorem Zad {all:List Oper} {o:Oper} {s:St} {run skip:St->Prop} (h:QH all o.guard s run skip) {E:Env} {a:Act} {w:World} (hs:WN E s a w):
  ∃s',s'.h=s.h/\s'.n=s.n/\WN E s' a w/\((Region.wanted o (yielded all.toArray a.tmps)=true/\run s')\/(Region.wanted o (yielded all.toArray a.tmps)=false/\skip s')):=by
 unfold QH at h
 split at h
 ·grind [Region.wanted]
 ·rename_i j want hg
  split at h
  ·simp_all
  ·rename_i d hd
   have hdst:(all.toArray[j]?).bind (·.dst)=some d:=by
    unfold Z1x at hd
    grind
   split at h
   ·rename_i b hb
    have hv:=hs.tmps.get d _ hb
    have hreal:a.tmps[d]? =some (.bool b):=by
     rw [Jw] at hv
     cases hq:a.tmps[d]? with
     | none=>rw [hq] at hv;cases hv
     | some r=>rw [hq] at hv;cases hv;rfl
    have hy:yielded all.toArray a.tmps j=some b:=by
     simp_all [yielded]
    have hset:∀c,b=c->WN E { s with t:=Ue s.t d (.bool c)} a w:=fun c hc=>by
     refine ⟨hs.emb,⟨hs.tmps.size,fun x v hx=> ?_⟩,hs.defs⟩
     by_cases hxd:d=x
     ·simp_all [X4]
     ·rw [YT _ _ _ _ hxd] at hx
      exact hs.tmps.get x v hx
    cases b with
    | true=>
     refine ⟨{ s with t:=Ue s.t d (.bool true)},rfl,rfl,hset true rfl, ?_⟩
     cases want with
     | true=>exact .inl ⟨by simp [Region.wanted,hg,hy],h⟩
     | false=>exact .inr ⟨by simp [Region.wanted,hg,hy],h⟩
    | false=>
     refine ⟨{ s with t:=Ue s.t d (.bool false)},rfl,rfl,hset false rfl, ?_⟩
     cases want with
     | true=>exact .inr ⟨by simp [Region.wanted,hg,hy],h⟩
     | false=>exact .inl ⟨by simp [Region.wanted,hg,hy],h⟩
   ·rename_i hb
    have hv:=hs.tmps.get d _ hb
    have hy:yielded all.toArray a.tmps j=none:=by
     unfold yielded
     rw [hdst]
     rw [Jw] at hv
     cases hq:a.tmps[d]? with
     | none=>simp [hq]
     | some r=>
      rw [hq] at hv
      cases hv with
      | tuple vs rs hl=>simp [hq]
    grind [Region.wanted]
   simp_all
def Vl (E0:Env) (h0:Z6) (w0:World) (X:KE):Exit->Act->World->Prop:=fun e a w=>∃E' x s',X x s'/\Evo E0 h0 w0 E' s'.h w/\WN E' s' a w/\Z31 E' x e
theorem Zbz {cx:Ctx} {P:Program} (hcx:cx.Ok P) {all:List Oper} {X:KE} {E0:Env} {h0:Z6} {w0:World} {ro:Option Nat} (hro:cx.inR=none->ro=none) {n:Nat}:
  ∀(r:List Oper) (k:Nat),all.drop k=r->∀(s:St) (E:Env) (a:Act) (w:World),Z8W cx P all r s X->WN E s a w->Evo E0 h0 w0 E s.h w->
   wpOpsIn (Fr ro) n P all.toArray (Vl E0 h0 w0 X) (List.range' k r.length) a w:=by
 intro r
 induction r with
 | nil=>
  intro k _ s E a w h hs hev
  exact ⟨E,.normal,s,h,hev,hs,.normal⟩
 | cons o r ih=>
  intro k hk s E a w h hs hev
  have hko:all[k]? =some o:=by
   have:=congrArg (fun l=>l[0]?) hk
   grind
  have hkr:all.drop (k+1)=r:=by
   have:=congrArg (List.drop 1) hk
   grind [List.drop_drop]
  simp only [Jt,List.range'_succ,wpOpsIn,List.getElem?_toArray,hko]
  obtain ⟨s',e1,e2,hs',hw⟩:=Zad h hs
  rcases hw with ⟨hw,hrun⟩|⟨hw,hskip⟩
  ·rw [if_pos hw]
   refine Zby hcx hrun hs' (e1▸hev) hro ?_ ?_
   ·grind [Q1]
   ·intro x s2 E' e a' w' hX hs2 hev2 hx
    exact ⟨E',x,s2,hX,hev2,hs2,hx⟩
  ·rw [if_neg (by rw [hw];simp)]
   refine ⟨fun _ _=>trivial, ?_⟩
   obtain ⟨s3,hK3,f1,f2,f3⟩:=Q1 hskip
   exact ih (k+1) hkr s3 E _ w hK3 (f3 E a w undef hs' (.tuple [] [] .nil)) (by rw [f1,e1];exact hev)
def Z6h (id:Nat):Ex->Ex
 | .exit i=>match Nat.beq i id with|true=>.normal|false=>.exit i
 | e=>e
def Z8X (f:St->Prop) (X:KE):KE:=fun e s=>match e with|.normal=>f s|.exit i=>X (.exit i) s|.goto l=>X (.goto l) s|.ret=>X .ret s|.panic v=>X (.panic v) s
def ZbA (body:St->KE->Prop):Nat->St->KE->Prop
 | 0,_,_=>False
 | m+1,s,X=>body s (Z8X (fun s'=>ZbA body m s' X) X)
abbrev ZbB:=Nat->Option (St->KE->Prop)
def Z5t:Operand->Nat
 | .tmp n=>100000+n
 | _=>99999
def ZbC (summ:ZbB) (c:Operand):Option (St->KE->Prop):=summ (Z5t c)
mutual
def XA (cx:Ctx) (P:Program) (summ:ZbB) (fuel:Nat) (evalD:List Oper->St->KE->Prop) (evalF:Operand->Array Tmp->Code->Code->St->KE->Prop):Code->St->KE->Prop
 | .skip,s,X=>X .normal s
 | .region _ ops draw,s,X=>match draw with
  | false=>Z8W cx P ops.toList ops.toList s X
  | true=>evalD ops.toList s X
 | .seq a b,s,X=>XA cx P summ fuel evalD evalF a s (Z8X (fun s'=>XA cx P summ fuel evalD evalF b s' X) X)
 | .cond c x y,s,X=>match ZbC summ c with
  | some S=>S s X
  | none=>match aev s.t c with
   | .bool b=>Z8 b (XA cx P summ fuel evalD evalF x s X) (XA cx P summ fuel evalD evalF y s X)
   | _=>False
 | .block id c,s,X=>match summ id with
  | some S=>S s fun e s'=>X (Z6h id e) s'
  | none=>XA cx P summ fuel evalD evalF c s fun e s'=>X (Z6h id e) s'
 | .loop c,s,X=>ZbA (fun s' X'=>XA cx P summ fuel evalD evalF c s' X') fuel s X
 | .rangeFunc g ps assign body,s,X=>evalF g ps assign body s X
 | .exit id,s,X=>X (.exit id) s
 | .scope c,s,X=>XA cx P summ fuel evalD evalF c s fun e s'=>match e with
  | .goto l=>W1 cx P summ fuel evalD evalF l c s' fun e2 s2=>match e2 with
   | .goto _=>False
   | .normal=>X .normal s2
   | .exit i=>X (.exit i) s2
   | .ret=>X .ret s2
   | .panic v=>X (.panic v) s2
  | .normal=>X .normal s'
  | .exit i=>X (.exit i) s'
  | .ret=>X .ret s'
  | .panic v=>X (.panic v) s'
 | .label _,s,X=>X .normal s
 | .goto l,s,X=>X (.goto l) s
 | .ret,s,X=>X .ret s
 | .refuse _,_,_=>False
def W1 (cx:Ctx) (P:Program) (summ:ZbB) (fuel:Nat) (evalD:List Oper->St->KE->Prop) (evalF:Operand->Array Tmp->Code->Code->St->KE->Prop) (l:Nat):Code->St->KE->Prop
 | .seq a b,s,X=>match findLabel a l with
  | some _=>W1 cx P summ fuel evalD evalF l a s (Z8X (fun s'=>XA cx P summ fuel evalD evalF b s' X) X)
  | none=>W1 cx P summ fuel evalD evalF l b s X
 | .label l',s,X=>match l'==l with
  | true=>X .normal s
  | false=>False
 | _,_,_=>False
end
def Yj (P:Program) (k:Nat) (ro:Option Nat) (c:Code) (s:St) (X:KE):Prop:=
 ∀(E0:Env) (h0:Z6) (w0:World) (E:Env) (a:Act) (w:World) (n:Nat),(∀x,k<=x->E0.blk x=none)->WN E s a w->Evo E0 h0 w0 E s.h w->c.wpIn (Fr ro) n P (Vl E0 h0 w0 X) a w
def Zs:Code->List (Nat×Code)
 | .seq a b=>Zs a++Zs b
 | .cond o x y=>(Z5t o,.cond o x y)::(Zs x++Zs y)
 | .block id c=>(id,c)::Zs c
 | .loop c=>Zs c
 | .scope c=>Zs c
 | _=>[]
theorem Vl.mono {E0:Env} {h0:Z6} {w0:World} {X Y:KE} {e:Exit} {a:Act} {w:World} (h:Vl E0 h0 w0 X e a w) (hxy:∀x s,X x s->Y x s):Vl E0 h0 w0 Y e a w:=
 let ⟨E',x,s',h1,h2⟩:=h;⟨E',x,s',hxy _ _ h1,h2⟩
theorem Z0W {E0:Env} {h0:Z6} {w0:World} {f:St->Prop} {X:KE} {e:Exit} {a:Act} {w:World} (h:Vl E0 h0 w0 (Z8X f X) e a w):
  (e=.normal/\∃E' s',f s'/\Evo E0 h0 w0 E' s'.h w/\WN E' s' a w)\/(e≠.normal/\Vl E0 h0 w0 X e a w):=by
 obtain ⟨E',x,s',hx,hev,hs,he⟩:=h
 cases he with
 | normal=>exact .inl ⟨rfl,E',s',hx,hev,hs⟩
 | exit id=>exact .inr ⟨by simp,E',_,s',hx,hev,hs,.exit id⟩
 | goto l=>exact .inr ⟨by simp,E',_,s',hx,hev,hs,.goto l⟩
 | ret=>exact .inr ⟨by simp,E',_,s',hx,hev,hs,.ret⟩
 | panic v r h=>exact .inr ⟨by simp,E',_,s',hx,hev,hs,.panic v r h⟩
theorem Z6i {P:Program} {k:Nat} {ro:Option Nat} {c:Code} {body:St->KE->Prop} (hb:∀s X,body s X->Yj P k ro c s X) {X:KE} {E0:Env} {h0:Z6} {w0:World} {n:Nat} (hk:∀x,k<=x->E0.blk x=none):
  ∀(m:Nat) (s:St) (E:Env) (a:Act) (w:World),ZbA body m s X->WN E s a w->Evo E0 h0 w0 E s.h w->Code.roundsIn (Fr ro) n P c (Vl E0 h0 w0 X) m a w
 | 0,_,_,_,_,h,_,_=>h.elim
 | m+1,s,E,a,w,h,hs,hev=>by
  refine wpIn_mono (hb s _ h E0 h0 w0 E a w n hk hs hev) ?_
  intro e a' w' hp
  rcases Z0W hp with ⟨rfl,E',s',hf,hev',hs'⟩|⟨hne,hp⟩
  ·exact Z6i hb hk m s' E' a' w' hf hs' hev'
  ·cases e<;>first|exact absurd rfl hne|exact hp
section
variable {P:Program} {b:Frame} {a:Act} {k:List Item} {cs:List Frame} {w:World}
theorem Z1y {c:Code}:step P (lone (b.atR a (.code (.scope c)::k)) cs w)=.next (lone (b.atR a (.code c::.inScope c::k)) cs w):=
 step_lone_go (by simp [stepG,stepG.exec,Frame.atR])
theorem Z3R {c:Code}:step P (lone (b.atR a (.inScope c::k)) cs w)=.next (lone (b.atR a k) cs w):=
 step_lone_go (by simp [stepG,stepG.exec,Frame.atR])
end
theorem Qq {F:Fence} {n:Nat} {P:Program} {c:Code} {b:Frame} {k:List Item} {cs:List Frame} {m:Machine} {e:Exit} {a:Act} {w:World} (hb:F.fn b.fn) (hr:F.room (cs.length+1+n)) (he:∀l,e≠.goto l)
  (h:ArrivesIn (Machine.fenced P F) P m b (.inScope c::k) cs e a w):ArrivesIn (Machine.fenced P F) P m b k cs e a w:=by
 cases e with
 | normal=>exact StepsIn.trans h (.one (fenced_calm hb hr rfl) Z3R)
 | exit id=>exact ⟨fun k' hk=>h.1 k' (by simpa [exitTo] using hk),fun hr hk=>h.2 hr (by simpa [exitTo] using hk)⟩
 | goto l=>simp_all
 | ret=>exact h
 | panic ch=>exact h
 | outgrown=>exact h
theorem Z1Q {F:Fence} {n:Nat} {P:Program} {Q:Exit->Act->World->Prop} {a:Act} {w:World} {c:Code}
  (first:c.wpIn F n P (fun e a' w'=>(∃l rest,e=.goto l/\findLabel c l=some rest/\rest.wpIn F n P (fun e2 a2 w2=>(∀l2,e2≠.goto l2)/\Q e2 a2 w2) a' w')\/((∀l2,e≠.goto l2)/\Q e a' w')) a w):(Code.scope c).wpIn F n P Q a w:=by
 intro b k cs hro hb hr
 have h0:(lone (b.atR a (.code (.scope c)::k)) cs w).fenced P F:=fenced_calm hb hr rfl
 obtain ⟨e,a₁,w₁,hq,harr⟩:=first b (.inScope c::k) cs hro hb hr
 rcases hq with ⟨l,rest,rfl,hf,hrest⟩|⟨hne,hq⟩
 ·have hg:gotoIn l (.inScope c::k)=some (.code rest::.inScope c::k):=by simp [gotoIn,hf]
  obtain ⟨e2,a2,w2,⟨hne2,hq2⟩,harr2⟩:=hrest b (.inScope c::k) cs hro hb hr
  exact ⟨e2,a2,w2,hq2,.of_steps (.head h0 Z1y (harr.1 _ hg)) (Qq hb hr hne2 harr2)⟩
 ·exact ⟨e,a₁,w₁,hq,.of_steps (.one h0 Z1y) (Qq hb hr hne harr)⟩
theorem Z6j {cx:Ctx} {P:Program} {k:Nat} (hcx:cx.Ok P) {summ:ZbB} {fuel:Nat} {evalD:List Oper->St->KE->Prop} {evalF:Operand->Array Tmp->Code->Code->St->KE->Prop} {ro:Option Nat} (hro:cx.inR=none->ro=none)
  (hD:∀id ops s X,evalD ops.toList s X->Yj P k ro (.region id ops true) s X) (hFn:∀g ps assign body s X,evalF g ps assign body s X->Yj P k ro (.rangeFunc g ps assign body) s X)
  (blocks:List (Nat×Code)) (hS:∀id S c,summ id=some S->(id,c)∈blocks->∀s X,S s X->Yj P k ro c s X):
  ∀(c:Code),(∀b,b∈Zs c->b∈blocks)->(∀(s:St) (X:KE),XA cx P summ fuel evalD evalF c s X->Yj P k ro c s X)/\
   ∀l (s:St) (X:KE),W1 cx P summ fuel evalD evalF l c s X->∃rest,findLabel c l=some rest/\Yj P k ro rest s X:=by
 intro c
 induction c with
 | skip=>
  refine fun hb0=>⟨?_,fun l s X h=>absurd h (by simp [W1])⟩
  revert hb0
  intro _ s X h E0 h0 w0 E a w n hk hs hev;exact wpIn_skip ⟨E,.normal,s,h,hev,hs,.normal⟩
 | region id ops draw=>
  refine fun hb0=>⟨?_,fun l s X h=>absurd h (by simp [W1])⟩
  revert hb0
  intro _ s X h
  cases draw with
  | false=>
   intro E0 h0 w0 E a w n hk hs hev
   have:=Zbz (n:=n) hcx hro ops.toList 0 rfl s E a w (by simpa [XA] using h) hs hev
   simp_all [wpIn_region,List.range_eq_range']
  | true=>grind [XA]
 | seq x y ihx ihy=>
  refine fun hb0=>⟨?_,fun l s X h=> ?_⟩
  rotate_left
  ·simp only [W1] at h
   split at h
   ·rename_i r0 hr0
    obtain ⟨rest,hf,hc⟩:=(ihx (fun b hm=>hb0 b (by simp [Zs,hm]))).2 l s _ h
    refine ⟨.seq rest y,by simp [findLabel,hf],fun E0 h0 w0 E a w n hk hs hev=>wpIn_seq (wpIn_mono (hc E0 h0 w0 E a w n hk hs hev) ?_)⟩
    intro e a' w' hp
    rcases Z0W hp with ⟨rfl,E',s',hf,hev',hs'⟩|⟨hne,hp⟩
    ·exact (ihy (fun b hm=>hb0 b (by simp [Zs,hm]))).1 s' X hf E0 h0 w0 E' a' w' n hk hs' hev'
    ·cases e<;>first|exact absurd rfl hne|exact hp
   simp_all [Zs,findLabel]
  revert hb0
  intro hb s X h E0 h0 w0 E a w n hk hs hev
  refine wpIn_seq (wpIn_mono ((ihx (fun b hm=>hb b (by simp [Zs,hm]))).1 s _ (by simpa [XA] using h) E0 h0 w0 E a w n hk hs hev) ?_)
  intro e a' w' hp
  rcases Z0W hp with ⟨rfl,E',s',hf,hev',hs'⟩|⟨hne,hp⟩
  ·exact (ihy (fun b hm=>hb b (by simp [Zs,hm]))).1 s' X hf E0 h0 w0 E' a' w' n hk hs' hev'
  ·cases e<;>first|exact absurd rfl hne|exact hp
 | cond c x y ihx ihy=>
  refine fun hb0=>⟨?_,fun l s X h=>absurd h (by simp [W1])⟩
  revert hb0
  intro hb s X h
  simp only [XA] at h
  split at h
  ·rename_i S hS'
   exact hS (Z5t c) S _ hS' (hb _ (by simp [Zs])) s _ h
  intro E0 h0 w0 E a w n hk hs hev
  split at h
  ·rename_i b hc
   have hv:=Zk hs.tmps c
   rw [hc] at hv
   cases hcv:a.eval c<;>rw [hcv] at hv<;>cases hv
   refine wpIn_cond hcv ?_
   cases b with
   | true=>exact (ihx (fun b hm=>hb b (by simp [Zs,hm]))).1 s X h E0 h0 w0 E a w n hk hs hev
   | false=>exact (ihy (fun b hm=>hb b (by simp [Zs,hm]))).1 s X h E0 h0 w0 E a w n hk hs hev
  simp_all
 | block id c ih=>
  refine fun hb0=>⟨?_,fun l s X h=>absurd h (by simp [W1])⟩
  revert hb0
  intro hb s X h E0 h0 w0 E a w n hk hs hev
  have key:Yj P k ro c s (fun e s'=>X (Z6h id e) s'):=by
   grind [XA,Zs]
  refine wpIn_block (wpIn_mono (key E0 h0 w0 E a w n hk hs hev) ?_)
  rintro e a' w' ⟨E',x,s',hx,hev',hs',he⟩
  cases he with
  | normal=>exact ⟨E',_,s',hx,hev',hs',.normal⟩
  | exit i=>
   simp only [Exit.inBlock]
   by_cases hi:i=id
   ·subst hi
    rw [if_pos rfl]
    simp only [Z6h,Jj] at hx
    exact ⟨E',_,s',hx,hev',hs',.normal⟩
   ·rw [if_neg hi]
    simp only [Z6h,Zu hi] at hx
    exact ⟨E',_,s',hx,hev',hs',.exit i⟩
  | goto l=>exact ⟨E',_,s',hx,hev',hs',.goto l⟩
  | ret=>exact ⟨E',_,s',hx,hev',hs',.ret⟩
  | panic v r h=>exact ⟨E',_,s',hx,hev',hs',.panic v r h⟩
 | loop c ih=>
  refine fun hb0=>⟨?_,fun l s X h=>absurd h (by simp [W1])⟩
  revert hb0
  intro hb s X h E0 h0 w0 E a w n hk hs hev
  exact wpIn_loop_rounds fuel (Z6i (k:=k) (fun s' X' hq=>(ih (fun b hm=>hb b (by simpa [Zs] using hm))).1 s' X' hq) hk fuel s E a w (by simpa [XA] using h) hs hev)
 | rangeFunc g ps assign body _ _=>
  simp_all [W1,XA]
 | exit id=>
  refine fun hb0=>⟨?_,fun l s X h=>absurd h (by simp [W1])⟩
  revert hb0
  intro _ s X h E0 h0 w0 E a w n hk hs hev;exact wpIn_exit ⟨E,.exit id,s,h,hev,hs,.exit id⟩
 | scope c ih=>
  refine fun hb0=>⟨?_,fun l s X h=>absurd h (by simp [W1])⟩
  revert hb0
  intro hb s X h E0 h0 w0 E a w n hk hs hev
  have ihc:=ih (fun b hm=>hb b (by simpa [Zs] using hm))
  refine Z1Q (wpIn_mono (ihc.1 s _ h E0 h0 w0 E a w n hk hs hev) ?_)
  rintro e a' w' ⟨E',x,s',hx,hev',hs',he⟩
  cases he with
  | goto l=>
   obtain ⟨rest,hf,hc⟩:=ihc.2 l s' _ hx
   refine .inl ⟨l,rest,rfl,hf,wpIn_mono (hc E0 h0 w0 E' a' w' n hk hs' hev') ?_⟩
   rintro e2 a2 w2 ⟨E2,x2,s2,hx2,hev2,hs2,he2⟩
   cases he2 with
   | goto l2=>simp_all
   | normal=>exact ⟨by simp,E2,_,s2,hx2,hev2,hs2,.normal⟩
   | exit id=>exact ⟨by simp,E2,_,s2,hx2,hev2,hs2,.exit id⟩
   | ret=>exact ⟨by simp,E2,_,s2,hx2,hev2,hs2,.ret⟩
   | panic v r h=>exact ⟨by simp,E2,_,s2,hx2,hev2,hs2,.panic v r h⟩
  | normal=>exact .inr ⟨by simp,E',_,s',hx,hev',hs',.normal⟩
  | exit id=>exact .inr ⟨by simp,E',_,s',hx,hev',hs',.exit id⟩
  | ret=>exact .inr ⟨by simp,E',_,s',hx,hev',hs',.ret⟩
  | panic v r h=>exact .inr ⟨by simp,E',_,s',hx,hev',hs',.panic v r h⟩
 | label l0=>
  refine fun hb0=>⟨?_,fun l s X h=> ?_⟩
  rotate_left
  ·simp only [W1] at h
   split at h
   ·rename_i hl
    exact ⟨.skip,by simp [findLabel,hl],fun E0 h0 w0 E a w n hk hs hev=>wpIn_skip ⟨E,.normal,s,h,hev,hs,.normal⟩⟩
   simp_all
  revert hb0
  intro _ s X h E0 h0 w0 E a w n hk hs hev;exact wpIn_label ⟨E,.normal,s,h,hev,hs,.normal⟩
 | goto l=>
  refine fun hb0=>⟨?_,fun l s X h=>absurd h (by simp [W1])⟩
  revert hb0
  intro _ s X h E0 h0 w0 E a w n hk hs hev;exact wpIn_goto ⟨E,.goto l,s,h,hev,hs,.goto l⟩
 | ret=>
  refine fun hb0=>⟨?_,fun l s X h=>absurd h (by simp [W1])⟩
  revert hb0
  intro _ s X h E0 h0 w0 E a w n hk hs hev;exact wpIn_ret ⟨E,.ret,s,h,hev,hs,.ret⟩
 | refuse why=>
  simp_all [W1,XA]
end Go.Tk
end
section
namespace Go.Tk
open IntKind (i64 u8 u32 u64 wrap)
variable {E E0:Env} {args:List AV} {rs:List Value} {K:AV->Prop} {u:FrameMode} {w0:World} {r:Value} {cx:Ctx} {ro:Option Nat} {X:KE} {g:Option (Nat×Bool)} {t':ZM}
def Z1z:Nat->List AV->ZM
 | _,[]=>[]
 | k,v::r=>(k,v)::Z1z (k+1) r
theorem Z4a {E:Env}:∀(args:List AV) (rs:List Value) (k:Nat) (pre post:List Value),Zt E args rs->pre.length=k->∀x v,ZD (Z1z k args) x=some v->Zc E v ((pre++rs++post).toArray.getD x undef)
 | [],_,_,_,_,_,_,x,v,h=>by simp [Z1z,ZD] at h
 |u::r,_,k,pre,post,.cons _ c _ cs hv ht,hk,x,v,h=>by
  simp only [Z1z,ZD] at h
  split at h
  ·simp_all
  ·have:=Z4a r cs (k+1) (pre++[c]) post ht (by simp [hk]) x v h
   simp_all
theorem Z4b {N:Nat} (h:Zt E args rs) (hn:args.length<=N):V8 E N (Z1z 0 args) (rs.toArray++Array.replicate (N-rs.toArray.size) undef):=by
 have hl:=h.length
 refine ⟨by simp;omega,fun x v hx=> ?_⟩
 have:=Z4a args rs 0 [] (List.replicate (N-rs.length) undef) h rfl x v hx
 grind [Array.replicate]
def Zae (P:Program) (s:St):List ResultVar->(List AV->Prop)->Prop
 | [],K=>K []
 | .tmp t::r,K=>match ZD s.t t with
  | some v=>Zae P s r fun vs=>K (v::vs)
  | none=>False
 | .cell a T::r,K=>match ZD s.t a with
  | some p=>Z8J P s.h T p fun v=>Zae P s r fun vs=>K (v::vs)
  | none=>False
def ZbD:List AV->AV
 | [v]=>v
 | vs=>.tuple vs
def ZhU (P:Program) (fn:Func) (s:St) (K:AV->Prop):Prop:=Zae P s fn.results.toList fun vs=>K (ZbD vs)
def ZbE (tm:Array Value):ResultVar->Sem Value
 | .tmp t=>pure (tm.getD t undef)
 | .cell a t=>do loadVar t (<-asAddr (tm.getD a undef))
theorem Z5u {P:Program} {s:St}:∀(l:List ResultVar) (K:List AV->Prop),Zae P s l K->∃vs,K vs/\∀(E:Env) (w:World) (tm:Array Value),Emb E s.h w->V8 E s.n s.t tm->
  ∃rs,Zt E vs rs/\(l.mapM (ZbE tm)).run P w=.ok rs w
 | [],K,h=>⟨[],h,fun E w tm he ht=>⟨[],.nil,by simp⟩⟩
 | .tmp t::r,K,h=>by
  simp only [Zae] at h
  split at h
  ·rename_i v hv
   obtain ⟨vs,hK,hr⟩:=Z5u r _ h
   refine ⟨v::vs,hK,fun E w tm he ht=> ?_⟩
   obtain ⟨rs,h1,h2⟩:=hr E w tm he ht
   exact ⟨_::rs,.cons _ _ _ _ (ht.get t v hv) h1,by simp only [List.mapM_cons,J6,ZbE,Jf,J4,h2]⟩
  ·exact h.elim
 | .cell a T::r,K,h=>by
  simp only [Zae] at h
  split at h
  ·rename_i p hp
   obtain ⟨v,h,hv⟩:=Z60 h
   obtain ⟨vs,hK,hr⟩:=Z5u r _ h
   refine ⟨v::vs,hK,fun E w tm he ht=> ?_⟩
   obtain ⟨ad,rv,e1,e2,e3⟩:=hv E w _ he (ht.get a p hp)
   obtain ⟨rs,h1,h2⟩:=hr E w tm he ht
   refine ⟨rv::rs,.cons _ _ _ _ e3 h1, ?_⟩
   have e4:(ZbE tm (.cell a T)).run P w=.ok rv w:=by simp only [ZbE,J6,e1,asAddr,Jf,J4,e2]
   simp only [List.mapM_cons,J6,e4,Jf,J4,h2]
  ·exact h.elim
theorem Zec {P:Program} {fn:Func} {s:St} (h:ZhU P fn s K):∃v,K v/\∀(E:Env) (w:World) (tm:Array Value),Emb E s.h w->V8 E s.n s.t tm->
  ∃r,(results fn tm).run P w=.ok r w/\Zc E v r:=by
 obtain ⟨vs,hK,hr⟩:=Z5u _ _ h
 refine ⟨_,hK,fun E w tm he ht=> ?_⟩
 obtain ⟨rs,h1,h2⟩:=hr E w tm he ht
 refine ⟨if h:rs.toArray.size=1 then rs.toArray[0] else .tuple rs.toArray, ?_, ?_⟩
 ·have e:results fn tm=(do let vs<-fn.results.mapM (ZbE tm);pure (if h:vs.size=1 then vs[0] else .tuple vs)):=by
   congr 1
  simp_all [Array.mapM_eq_mapM_toList]
 ·cases h1 with
  | nil=>exact .tuple [] [] .nil
  | cons v c vs cs hv ht=>
   cases ht with
   | nil=>simpa [ZbD] using hv
   | cons v2 c2 vs2 cs2 hv2 ht2=>
    have:=Zc.tuple _ _ (.cons _ _ _ _ hv (.cons _ _ _ _ hv2 ht2))
    simpa [ZbD] using this
inductive PM where
 | none
 | pan (v:AV)
 | rcv
inductive WT (E:Env):PM->FrameMode->Prop
 | none:WT E .none .returning
 | pan (v:AV) (r:Value) (h:Zc E v r):WT E (.pan v) (.panicking [{ v:=r,recovered:=false}])
 | rcv (r:Value):WT E .rcv (.panicking [{ v:=r,recovered:=true}])
theorem WT.mono {E':Env} (le:E.le E') {m:PM} (h:WT E m u):WT E' m u:=by
 cases h with
 | none=>exact .none
 | pan v r h=>exact .pan v r (h.mono le)
 | rcv r=>exact .rcv r
def Z0X (P:Program):List Oper->PM->St->(PM->St->Prop)->Prop
 | [],m,s,X=>X m s
 | o::r,m,s,X=>match o.guard with
  | some _=>False
  | none=>match o.op with
   | .call ⟨.builtin .recover,_,_⟩=>match m with
    | .pan v=>Ub s o.dst v fun s'=>Z0X P r .rcv s' X
    | m=>Ub s o.dst .nilIface fun s'=>Z0X P r m s' X
   | op=>opA P op s.t s.h fun v h'=>Ub { s with h:=h'} o.dst v fun s'=>Z0X P r m s' X
theorem Zaf {P:Program} {X:PM->St->Prop} {h0:Z6} {all:List Oper} {c₀:Frame} {cs:List Frame} {n:Nat}:
  ∀(r:List Oper) (k:Nat),all.drop k=r->∀(m:PM) (u:FrameMode) (s:St) (E:Env) (a:Act) (w:World),Z0X P r m s X->WN E s a w->Evo E0 h0 w0 E s.h w->WT E m u->
   wpOpsSIn (Fr none) n P all.toArray (fun e a' cs' w'=>e=.normal/\∃E' m' u' s',X m' s'/\Evo E0 h0 w0 E' s'.h w'/\WN E' s' a' w'/\WT E' m' u'/\cs'={ c₀ with mode:=u'}::cs)
    (List.range' k r.length) a ({ c₀ with mode:=u}::cs) w:=by
 intro r
 induction r with
 | nil=>intro k _ m u s E a w h hs hev hm;exact ⟨rfl,E,m,u,s,h,hev,hs,hm,rfl⟩
 | cons o r ih=>
  intro k hk m u s E a w h hs hev hm
  have hko:all[k]? =some o:=by
   have:=congrArg (fun l=>l[0]?) hk
   grind
  have hkr:all.drop (k+1)=r:=by
   have:=congrArg (List.drop 1) hk
   grind [List.drop_drop]
  simp only [Jt,List.range'_succ,wpOpsSIn,List.getElem?_toArray,hko]
  refine ⟨fun _ _=>trivial, ?_⟩
  simp only [Z0X] at h
  split at h
  ·simp_all
  ·rename_i hg
   rw [if_pos (by simp [Region.wanted,hg])]
   split at h
   ·rename_i args tys ho
    have hrun:(execOp a.eval o).run P w=.ok .recover w:=by simp [execOp,ho,resolve,invoke,builtin]
    rw [hrun]
    cases hm with
    | pan v rv hv=>
     obtain ⟨s3,hK3,f1,f2,f3⟩:=Q1 h
     exact ih (k+1) hkr .rcv _ s3 E _ w hK3 (f3 E a w rv hs hv) (f1▸hev) (.rcv rv)
    | none=>
     obtain ⟨s3,hK3,f1,f2,f3⟩:=Q1 h
     exact ih (k+1) hkr .none _ s3 E _ w hK3 (f3 E a w .nilIface hs .nilIface) (f1▸hev) .none
    | rcv rv=>
     obtain ⟨s3,hK3,f1,f2,f3⟩:=Q1 h
     exact ih (k+1) hkr .rcv _ s3 E _ w hK3 (f3 E a w .nilIface hs .nilIface) (f1▸hev) (.rcv rv)
   ·obtain ⟨v,h',hk',hr'⟩:=Zbu h
    obtain ⟨rv,w',E',q1,q2,q3⟩:=hr' E w s.n a hs.emb hs.tmps
    rw [q1]
    obtain ⟨s3,hK3,f1,f2,f3⟩:=Q1 hk'
    exact ih (k+1) hkr m u s3 E' _ w' hK3 (f3 E' a w' rv ⟨q2.emb,hs.tmps.mono q2.le,hs.defs.mono q2.le⟩ q3) (by rw [f1];exact hev.trans q2) (hm.mono q2.le)
def ZgF (P:Program) (ev:FuncId->Code->St->KE->Prop) (g:FuncId) (args:List AV) (m:PM) (h:Z6) (K:PM->Z6->Prop):Prop:=
 match P.funcs[g]? with
 | some fn=>match fn.body,fn.results.toList,Nat.ble args.length fn.ntmps with
  | some (.seq (.region _ ops false) rest),[],true=>Z0X P ops.toList m ⟨fn.ntmps,Z1z 0 args,h,[]⟩ fun m' s'=>ev g rest s' fun e s2=>match e,s2.d with
   | .normal,[]=>K m' s2.h
   | .ret,[]=>K m' s2.h
   | _,_=>False
  | _,_,_=>False
 | none=>False
theorem Zed {P:Program} {ev:FuncId->Code->St->KE->Prop} (hev:∀g fn id ops rest,P.funcs[g]? =some fn->fn.body=some (.seq (.region id ops false) rest)->∀s X,ev g rest s X->Yj P s.h.next none rest s X) {g:FuncId} {m:PM} {h:Z6} {K:PM->Z6->Prop} (hl:ZgF P ev g args m h K)
 {h0:Z6} {w:World} {n:Nat} (he:Emb E h w) (hv:Evo E0 h0 w0 E h w) (ha:Zt E args rs) (hm:WT E m u):
  CallsDIn (Fr none) n P g rs.toArray u w fun e u' w'=>(∃v,e=.returned v)/\∃E' m' h',K m' h'/\Evo E0 h0 w0 E' h' w'/\WT E' m' u'/\E.le E':=by
 unfold ZgF at hl
 split at hl
 ·rename_i fn hf
  split at hl
  ·rename_i id ops rest hb hr hn
   refine callsDIn_of_wpSIn hf hb trivial ?_
   intro c₀ cs hu
   refine wpSIn_seq ?_
   refine wpSIn_region ?_
   have hent:=Z4b (N:=fn.ntmps) ha (V9 hn)
   have h1:=Zaf (E0:=E) (h0:=h) (w0:=w) (all:=ops.toList) (c₀:=c₀) (cs:=cs) (n:=n) ops.toList 0 rfl m u ⟨fn.ntmps,Z1z 0 args,h,[]⟩ E { tmps:=rs.toArray++Array.replicate (fn.ntmps-rs.toArray.size) undef,defers:=[]} w hl ⟨he,hent,.nil⟩ (.refl he) hm
   rw [List.range_eq_range']
   have hcs:c₀::cs={ c₀ with mode:=u}::cs:=by rw [<-hu]
   rw [hcs]
   have mono:∀(l:List Nat) (a:Act) (cs:List Frame) (w:World) (Q Q':Exit->Act->List Frame->World->Prop),(∀e a cs w,Q e a cs w->Q' e a cs w)->wpOpsSIn (Fr none) n P ops.toList.toArray Q l a cs w->wpOpsSIn (Fr none) n P ops.toList.toArray Q' l a cs w:=by
    intro l
    induction l with
    | nil=>intro a cs w Q Q' hq hh;exact hq _ _ _ _ hh
    | cons i l ih=>
     intro a cs w Q Q' hq hh
     simp only [wpOpsSIn] at hh⊢
     split at hh
     ·exact ih a cs w Q Q' hq hh
     ·obtain ⟨q1,q2⟩:=hh
      refine ⟨q1, ?_⟩
      split at q2
      ·rename_i hw
       rw [if_pos hw]
       split at q2
       ·split at q2<;>exact ih _ _ _ Q Q' hq q2
       ·exact ih _ _ _ Q Q' hq q2
       ·exact ih _ _ _ Q Q' hq q2
       ·exact hq _ _ _ _ q2
       ·exact q2.elim
      ·rename_i hw
       rw [if_neg hw]
       exact ih _ _ _ Q Q' hq q2
   have h2:=mono _ _ _ _ _ (Exit.thenS (Code.wpSIn (Fr none) n P rest (bodyPostS P fn c₀ cs fun e u' w'=>(∃v,e=.returned v)/\∃E' m' h',K m' h'/\Evo E0 h0 w0 E' h' w'/\WT E' m' u'/\E.le E')) (bodyPostS P fn c₀ cs fun e u' w'=>(∃v,e=.returned v)/\∃E' m' h',K m' h'/\Evo E0 h0 w0 E' h' w'/\WT E' m' u'/\E.le E')) ?_ h1
   ·omega
   ·rintro e a' cs' w' ⟨rfl,E',m',u',s',hX,hv',hs',hm',rfl⟩
    refine wpSIn_of_wpIn rfl ?_
    refine wpIn_mono (hev g fn id ops rest hf hb s' _ hX E' s'.h w' E' a' w' n hs'.emb.fresh hs' (.refl hs'.emb)) ?_
    rintro e a2 w2 ⟨E2,x,s2,hx,hv2,hs2,hxe⟩
    have hres:∀(tm:Array Value),(results fn tm).run P w2=.ok (.tuple #[]) w2:=by
     simp_all [results]
    have fin:s2.d=[]->K m' s2.h->a2.defers=[]/\∃u'',({ c₀ with mode:=u'}:Frame)::cs={ c₀ with mode:=u''}::cs/\∃v,(results fn a2.tmps).run P w2=.ok v w2/\((∃v',Ending.returned v=.returned v')/\∃E' m' h',K m' h'/\Evo E0 h0 w0 E' h' w2/\WT E' m' u''/\E.le E'):=by
     intro hd hK
     have hdd:=hs2.defs
     rw [hd] at hdd
     have hde:a2.defers=[]:=by
      generalize a2.defers=ad at hdd
      cases hdd
      rfl
     exact ⟨hde,u',rfl,_,hres _,⟨_,rfl⟩,E2,m',s2.h,hK,(hv.trans (hv'.trans hv2)),hm'.mono hv2.le,hv'.le.trans hv2.le⟩
    cases hxe with
    | normal=>
     cases hd:s2.d with
     | nil=>simp only [hd] at hx;exact fin hd hx
     | cons d ds=>grind
    | ret=>
     cases hd:s2.d with
     | nil=>simp only [hd] at hx;exact fin hd hx
     | cons d ds=>grind
    | exit i=>simp at hx
    | goto l=>simp at hx
    | panic v r h=>simp at hx
  simp_all
 simp_all
def Z5v:PM->PM
 | .rcv=>.none
 | m=>m
def Un (P:Program) (ev:FuncId->Code->St->KE->Prop) (fn:Func) (s:St):List Ua->PM->Z6->KO->Prop
 | [],.none,h,K=>ZhU P fn { s with h:=h} fun v=>K (.ret v) h
 | [],.pan v,h,K=>K (.panic v) h
 | [],.rcv,_,_=>False
 | .mark x::ds,m,h,K=>match h.get x with
  | some .defd=>Un P ev fn s ds m (h.del x) K
  | _=>False
 | .call g args::ds,m,h,K=>match P.funcs[g]? with
  | some gf=>match gf.body.isSome&& !(gf.name== "runtime.NumGoroutine") with
   | true=>ZgF P ev g args m h fun m' h'=>Un P ev fn s ds (Z5v m') h' K
   | false=>False
  | none=>False
theorem CallsDIn.mono' {F:Fence} {n:Nat} {P:Program} {f:FuncId} {args:Array Value} {w:World} {R R':Ending->FrameMode->World->Prop} (h:CallsDIn F n P f args u w R) (hr:∀e u w,R e u w->R' e u w):CallsDIn F n P f args u w R':=
 ⟨h.1,fun c cs hu hroom=>let ⟨e,u',w',fr,q,rest⟩:=h.2 c cs hu hroom;⟨e,u',w',fr,hr _ _ _ q,rest⟩⟩
theorem Z0Y {P:Program} {ev:FuncId->Code->St->KE->Prop} (hev:∀g fn id ops rest,P.funcs[g]? =some fn->fn.body=some (.seq (.region id ops false) rest)->∀s X,ev g rest s X->Yj P s.h.next none rest s X) {fn:Func} {s:St} {K:KO} {h0:Z6} {tm:Array Value} {n:Nat}:
  ∀(ds:List Ua) (rd:List Deferred) (m:PM) (u:FrameMode) (h:Z6) (E:Env) (w:World),Un P ev fn s ds m h K->Emb E h w->V8 E s.n s.t tm->Evo E0 h0 w0 E h w->VT E ds rd->WT E m u->m≠.rcv->
   LeavesInM (Fr none) n P fn tm (fun e w'=>∃E' o h',K o h'/\Evo E0 h0 w0 E' h' w'/\QG E' o e) rd u w:=by
 intro ds
 induction ds with
 | nil=>
  intro rd m u h E w hl he ht hv hd hm _
  cases hd
  cases hm with
  | none=>
   obtain ⟨v,hK,hr⟩:=Zec hl
   obtain ⟨r,h1,h2⟩:=hr E w tm he ht
   exact ⟨r,h1,E,_,h,hK,hv,.ret v r h2⟩
  | pan v r hvr=>exact ⟨E,_,h,hl,hv,.panic v r hvr⟩
  | rcv r=>simp_all
 | cons d ds ih=>
  intro rd m u h E w hl he ht hv hd hm hnr
  have hu:u≠.run:=by cases hm<;>simp
  cases hd with
  | call g args fnv cap rs ds rd hf hla t=>
   subst hf
   simp only [Un] at hl
   split at hl
   ·rename_i gf hgf
    split at hl
    ·rename_i hb
     refine ⟨hu,.inr ⟨fun h=>(by cases h),.func g,cap,g,rs++cap,rfl, ?_,fun _ _=>trivial, ?_⟩⟩
     ·simp_all [invoke,VU]
     ·have h1:=Zed (n:=n-1) hev hl he hv hla hm
      have e1:(rs.toList++cap.toList).toArray=rs++cap:=by simp_all
      rw [e1] at h1
      refine CallsDIn.mono' h1 ?_
      rintro e u' w' ⟨⟨v,rfl⟩,E',m',h',hK,hv',hm',hle⟩
      refine ih rd (Z5v m') (settle u') h' E' w' hK hv'.emb (ht.mono hle) hv' (t.mono hle) ?_ ?_
      ·cases hm' with
       | none=>exact .none
       | pan v r h=>exact .pan v r h
       | rcv r=>exact .none
      ·cases m'<;>simp [Z5v]
    simp_all
   simp_all
  | mark x b N ds rd hb t=>
   simp only [Un] at hl
   split at hl
   ·rename_i hg
    have hB:=he.own _ _ hg
    cases hB with
    | defd b' hb' hw=>
     rw [hb'] at hb
     injection hb with hb
     injection hb with q1 q2
     subst q1
     refine ⟨hu,.inl ⟨b',{ w with heap:=w.heap.setIfInBounds b' (.deferred none)},rfl, ?_, ?_⟩⟩
     ·simp [Instr.takeDeferred,getObj,setObj,Sem.run,hw]
     ·have hev1:Evo E h w E (h.del x) { w with heap:=w.heap.setIfInBounds b' (.deferred none)}:=by
       have hd:=Z21 he x
       have hget:∀y C,(h.del x).get y=some C->y≠x/\h.get y=some C:=fun y C hy=>by
        grind [Z6.get_del_same,Z6.get_del_other]
       have hne:∀(i:Nat),i≠b'->(w.heap.setIfInBounds b' (.deferred none))[i]? =w.heap[i]?:=fun i hi=>by
        rw [Jd,if_neg (fun q=>hi q.symm)]
       refine ⟨.refl E,⟨hd.emb.fresh,hd.emb.lt,fun y C hy=> ?_,hd.emb.disj,fun a c hi=> ?_,hd.emb.sep⟩,by simp,rfl,rfl,⟨rfl,J1 _⟩, ?_, ?_,fun _ _ h=>h⟩
       ·obtain ⟨hyx,hy'⟩:=hget y C hy
        refine (he.own y C hy').congr fun b2 N2 hb2=>hne b2 ?_
        rintro rfl
        exact hyx (he.disj y x C _ b2 N2 _ hy' hg hb2 hb')
       ·have h1:=he.imm a c hi
        grind [World.cell?]
       ·intro i _ hno
        refine hne i ?_
        rintro rfl
        exact hno ⟨x,_,_,hg,hb'⟩
       ·rintro i ⟨y,C,M,hy,hby⟩
        exact .inl ⟨y,C,M,(hget y C hy).2,hby⟩
      exact ih rd m u (h.del x) E _ hl hev1.emb ht (hv.trans hev1) t hm hnr
   simp_all
def Z8Y (n:Nat):List Nat->List AV->ZM->(ZM->Prop)->Prop
 | [],[],t,K=>K t
 | p::ps,v::vs,t,K=>match Nat.blt p n with
  | true=>Z8Y n ps vs (Ue t p v) K
  | false=>False
 | _,_,_,_=>False
theorem Z6k {n:Nat}:∀(ps:List Nat) (vs:List AV) (t:ZM) (K:ZM->Prop),Z8Y n ps vs t K->∃t',K t'/\ps.length=vs.length/\∀(E:Env) (tm:Array Value) (rs:List Value),V8 E n t tm->Zt E vs rs->
  V8 E n t' ((ps.zip rs).foldl (fun tmps (x:Nat×Value)=>tmps.setIfInBounds x.1 x.2) tm)
 | [],[],t,K,h=>⟨t,h,rfl,fun E tm rs ht hl=>by simp_all⟩
 | [],_::_,_,_,h=>h.elim
 | _::_,[],_,_,h=>h.elim
 | p::ps,v::vs,t,K,h=>by
  simp only [Z8Y] at h
  split at h
  ·rename_i hb
   have hp:p<n:=Je hb
   obtain ⟨t',hK,hl,hr⟩:=Z6k ps vs (Ue t p v) K h
   refine ⟨t',hK,by simp [hl],fun E tm rs ht hl=> ?_⟩
   cases hl with
   | cons v c vs cs hv hvs=>
    refine hr E _ cs ⟨by simp [ht.size],fun x u hx=> ?_⟩ hvs
    by_cases hxp:p=x
    ·subst hxp
     rw [X4] at hx
     have:p<tm.size:=by rw [ht.size];exact hp
     simp_all
    ·rw [YT _ _ _ _ hxp] at hx
     have:=ht.get x u hx
     simp_all
  simp_all
def Z7T:Option Code->LoopState
 | none=>.ready
 | some _=>.done
def endRound (x:Nat) (pending:Option Code) (h:Z6) (K:Z6->Prop):Prop:=
 match h.get x with
 | some (.loop l)=>K (h.set x (.loop { l with state:=Z7T pending,pending:=pending}))
 | _=>False
def Z7U (ev:FuncId->Nat->Code->St->KE->Prop) (x:Nat) (args:List AV) (h:Z6) (K:KO):Prop:=
 match h.get x with
 | some (.loop l)=>match l.state with
  | .ready=>Z8Y l.n l.params args l.tmps fun t1=>ev l.fn x l.assign ⟨l.n,t1,h,[]⟩ fun e s=>match e with
   | .normal=>match s.h.get x with
    | some (.loop l1)=>match l1.state with
     | .ready=>ev l.fn x l.body { s with h:=s.h.set x (.loop { l1 with state:=.busy})} fun e2 s2=>match e2 with
      | .normal=>endRound x none s2.h fun h'=>K (.ret (.bool true)) h'
      | .ret=>endRound x (some .ret) s2.h fun h'=>K (.ret (.bool false)) h'
      | .exit id=>endRound x (some (.exit id)) s2.h fun h'=>K (.ret (.bool false)) h'
      | .goto t=>endRound x (some (.goto t)) s2.h fun h'=>K (.ret (.bool false)) h'
      | .panic _=>False
     | _=>False
    | _=>False
   | _=>False
  | _=>False
 | _=>False
theorem run_getLoop {P:Program} {w:World} {b:Nat} {r:Loop} (h:w.heap[b]? =some (.loop r)):(Instr.getLoop b).run P w=.ok r w:=by
 simp [Instr.getLoop,getObj,Sem.run,h]
theorem run_setObj_loop {P:Program} {w:World} {b:Nat} {r r':Loop} (h:w.heap[b]? =some (.loop r)):(setObj b (.loop r')).run P w=.ok () { w with heap:=w.heap.setIfInBounds b (.loop r')}:=by
 simp [setObj,Sem.run,h]
theorem Uo {h:Z6} {w:World} (he:Emb E h w) (x b d N:Nat) (l l':Z3Y) (fnr:FuncId) (tm:Array Value) (hg:h.get x=some (.loop l)) (hb:E.blk x=some (b,0)) (hd:E.blk l.defers=some (d,N))
  (ht:V8 E l.n l.tmps tm)
  (e1:l'.n=l.n) (e2:l'.tmps=l.tmps) (e3:l'.params=l.params) (e4:l'.assign=l.assign) (e5:l'.body=l.body) (e6:l'.defers=l.defers):
  Evo E h w E (h.set x (.loop l')) { w with heap:=w.heap.setIfInBounds b (.loop ⟨l'.state,l'.pending,fnr,tm,l.params.toArray,l.assign,l.body,d⟩)}:=by
 have hlt:b<w.heap.size:=(he.own _ _ hg).lt hb
 refine Yg he x _ _ b 0 hg hb (fun i hi=> ?_) (by simp) rfl rfl ⟨rfl,J1 _⟩ ?_
 ·rw [Jd,if_neg (fun q=>hi q.symm)]
 ·refine .loop l' b d N fnr tm hb (by rw [e6];exact hd) ?_ (by rw [e1,e2];exact ht)
  rw [e3,e4,e5]
  simp [hlt]
theorem Z6l {x:Nat} {pending:Option Code} {h:Z6} {K:Z6->Prop} (hl:endRound x pending h K):
  ∃h',K h'/\∀(P:Program) (E:Env) (w:World) (b N:Nat),Emb E h w->E.blk x=some (b,N)->∃w',(Instr.endRound b pending).run P w=.ok (.bool pending.isNone) w'/\Evo E h w E h' w':=by
 unfold endRound at hl
 split at hl
 ·rename_i l hg
  refine ⟨_,hl,fun P E w b N he hb=> ?_⟩
  have hB:=he.own _ _ hg
  cases hB with
  | loop l b' d N' fnr tm hb' hd hw ht=>
   rw [hb'] at hb
   injection hb with hb
   injection hb with q1 q2
   subst q1
   have hev:=Uo he x b' d N' l { l with state:=Z7T pending,pending:=pending} fnr tm hg hb' hd ht rfl rfl rfl rfl rfl rfl
   refine ⟨_, ?_,hev⟩
   simp only [Instr.endRound,J6,run_getLoop hw,J4]
   rw [run_setObj_loop hw]
   cases pending<;>simp [Z7T]
 simp_all
theorem Zag {P:Program} {ev:FuncId->Nat->Code->St->KE->Prop} (hev:∀f x c s X,ev f x c s X->∀(E0:Env) (h0:Z6) (w0:World) (E:Env) (a:Act) (w:World) (n b N:Nat),WN E s a w->Evo E0 h0 w0 E s.h w->E.blk x=some (b,N)->
   c.wpIn (Fr (some b)) n P (Vl E0 h0 w0 X) a w) {x:Nat} {h:Z6} {K:KO} (hl:Z7U ev x args h K):Zbv P x args h K:=by
 intro E w rs b N he ha hb
 unfold Z7U at hl
 split at hl
 ·rename_i l hg
  split at hl
  ·obtain ⟨t1,hl,hlen,hset⟩:=Z6k _ _ _ _ hl
   have hB:=he.own _ _ hg
   cases hB with
   | loop l b' d N' fnr tm hb' hd hw ht=>
    rw [hb'] at hb
    injection hb with hb
    injection hb with q1 q2
    subst q1
    have hrl:=ha.length
    refine ⟨fnr,(l.params.zip rs).foldl (fun tmps (x:Nat×Value)=>tmps.setIfInBounds x.1 x.2) tm,l.assign,l.body, ?_, ?_⟩
    ·simp only [Instr.yield,J6,run_getLoop hw,J4]
     rw [if_neg (by simp;omega)]
     simp
    ·refine roundIn_of_wpIn trivial ?_
     refine wpIn_mono (hev _ _ _ _ _ hl E h w E { tmps:=_,defers:=[]} w 0 b' 0 ⟨he,hset E tm rs ht ha,.nil⟩ (.refl he) hb') ?_
     rintro e a1 w1 ⟨E1,x1,s1,hx,hv1,hs1,hxe⟩
     cases hxe with
     | normal=>
      simp only at hx
      split at hx
      ·rename_i l1 hg1
       split at hx
       ·have hB1:=hs1.emb.own _ _ hg1
        cases hB1 with
        | loop l1 b1 d1 N1 fnr1 tm1 hb1 hd1 hw1 ht1=>
         have hbe:=hv1.le.blk _ _ hb'
         rw [hb1] at hbe
         injection hbe with hbe
         injection hbe with q3 q4
         subst q3
         have hev1:=Uo hs1.emb x b1 d1 N1 l1 { l1 with state:=.busy} fnr1 tm1 hg1 hb1 hd1 ht1 rfl rfl rfl rfl rfl rfl
         refine ⟨{ w1 with heap:=w1.heap.setIfInBounds b1 (.loop ⟨.busy,l1.pending,fnr1,tm1,l1.params.toArray,l1.assign,l1.body,d1⟩)}, ?_, ?_⟩
         ·simp_all [Instr.beginRound,run_getLoop,run_setObj_loop]
         ·refine wpIn_mono (hev _ _ _ _ _ hx E h w E1 a1 _ 0 b1 0 ⟨hev1.emb,hs1.tmps,hs1.defs⟩ (hv1.trans hev1) hb1) ?_
          rintro e2 a2 w2 ⟨E2,x2,s2,hx2,hv2,hs2,hxe2⟩
          have hb2:E2.blk x=some (b1,0):=hv2.le.blk _ _ (by rw [hb'])
          have fin:∀(pending:Option Code) (o:Bool),o=pending.isNone->endRound x pending s2.h (fun h'=>K (.ret (.bool o)) h')->∃v w',(Instr.endRound b1 pending).run P w2=.ok v w'/\(∃E' o h',K o h'/\Evo E h w E' h' w'/\QG E' o (.returned v)):=by
           intro pending o ho hh
           obtain ⟨h',hK,hr⟩:=Z6l hh
           obtain ⟨w',h1,h2⟩:=hr P E2 w2 b1 0 hs2.emb hb2
           exact ⟨_,w',h1,E2,_,h',hK,hv2.trans h2,by rw [ho];exact .ret _ _ (.bool _)⟩
          cases hxe2 with
          | normal=>exact fin none true rfl hx2
          | ret=>exact fin (some .ret) false rfl hx2
          | exit id=>exact fin (some (.exit id)) false rfl hx2
          | goto t=>exact fin (some (.goto t)) false rfl hx2
          | panic v r h=>simp_all
       simp_all
      simp_all
     | exit id=>simp_all
     | goto t=>simp_all
     | ret=>simp_all
     | panic v r h=>simp_all
  simp_all
 simp_all
def Z7V (cx:Ctx) (P:Program) (g:Operand) (ps:Array Tmp) (assign body:Code) (s:St) (X:KE):Prop:=
 match cx.inR with
 | some _=>False
 | none=>match aev s.t g with
  | .func (.func gg) first cap=>match P.funcs[gg]? with
   | some fn=>match fn.body.isSome&& !(fn.name== "runtime.NumGoroutine") with
    | true=>cx.call gg (first++[.yield (s.h.next+1)]++cap) ((s.h.add .defd).add (.loop ⟨.ready,none,cx.fn,s.n,s.t,ps.toList,assign,body,s.h.next⟩)) fun o h3=>match o with
     | .ret _=>match h3.get (s.h.next+1) with
      | some (.loop l)=>match l.state with
       | .busy=>False
       | _=>match l.pending with
        | none=>X .normal { s with h:=h3.del (s.h.next+1),d:=.mark s.h.next::s.d}
        | some .ret=>X .ret { s with h:=h3.del (s.h.next+1),d:=.mark s.h.next::s.d}
        | some (.exit id)=>X (.exit id) { s with h:=h3.del (s.h.next+1),d:=.mark s.h.next::s.d}
        | some (.goto t)=>X (.goto t) { s with h:=h3.del (s.h.next+1),d:=.mark s.h.next::s.d}
        | _=>False
      | _=>False
     | .panic v=>X (.panic v) { s with h:=h3,d:=.mark s.h.next::s.d}
    | false=>False
   | none=>False
  | _=>False
theorem Z4c {P:Program} {k:Nat} (hcx:cx.Ok P) (hro:cx.inR=none->ro=none) {g:Operand} {ps:Array Tmp} {assign body:Code} {s:St} (hl:Z7V cx P g ps assign body s X):
  Yj P k ro (.rangeFunc g ps assign body) s X:=by
 unfold Z7V at hl
 split at hl
 ·simp_all
 ·rename_i hin
  have hr0:=hro hin
  subst hr0
  split at hl
  ·rename_i gg first cap hgv
   split at hl
   ·rename_i fn hfn
    split at hl
    ·rename_i hbody
     intro E0 h0 w0 E a w n _ hs hev
     refine wpIn_rangeFunc ?_
     intro fnr _
     have hgr:=Zk hs.tmps g
     rw [hgv] at hgr
     cases hge:a.eval g<;>rw [hge] at hgr<;>cases hgr
     rename_i fs cs hfs hcs
     -- the block of deferred calls
     have hev1:=XC hs.emb (.deferred (some [])) 0 .defd (.defd w.heap.size (Env.ext_same _ _ _ _) (by simp))
     have hs1:({ w with heap:=w.heap.push (.deferred (some []))}:World).heap.size=w.heap.size+1:=by simp
     have hbd:(E.ext s.h.next w.heap.size 0).blk s.h.next=some (w.heap.size,0):=Env.ext_same _ _ _ _
     have hfr1:(E.ext s.h.next w.heap.size 0).blk (s.h.next+1)=none:=hev1.emb.fresh _ (J1 _)
     have hle2:(E.ext s.h.next w.heap.size 0).le ((E.ext s.h.next w.heap.size 0).ext (s.h.next+1) (w.heap.size+1) 0):=Env.ext_le hfr1
     have hev2:=XC hev1.emb (.loop ⟨.ready,none,fnr,a.tmps,ps,assign,body,w.heap.size⟩) 0 (.loop ⟨.ready,none,cx.fn,s.n,s.t,ps.toList,assign,body,s.h.next⟩)
      (.loop _ (w.heap.size+1) w.heap.size 0 fnr a.tmps (by rw [hs1];exact Env.ext_same _ _ _ _) (by rw [hs1];exact hle2.blk _ _ hbd) (by rw [Array.getElem?_push,if_pos (by simp)]) (by rw [hs1];exact hs.tmps.mono (hev1.le.trans hle2)))
     rw [hs1] at hev2
     have hbl:((E.ext s.h.next w.heap.size 0).ext (s.h.next+1) (w.heap.size+1) 0).blk (s.h.next+1)=some (w.heap.size+1,0):=Env.ext_same _ _ _ _
     refine ⟨w.heap.size+1,[⟨.collected w.heap.size, #[]⟩],{ w with heap:=(w.heap.push (.deferred (some []))).push (.loop ⟨.ready,none,fnr,a.tmps,ps,assign,body,w.heap.size⟩)},⟨.fn (.func gg) cs.toArray,fs.toArray++ #[.func (.yield (w.heap.size+1)) #[] #[]]⟩,{ w with heap:=(w.heap.push (.deferred (some []))).push (.loop ⟨.ready,none,fnr,a.tmps,ps,assign,body,w.heap.size⟩)},gg,fs.toArray++ #[.func (.yield (w.heap.size+1)) #[] #[]]++cs.toArray,{ w with heap:=(w.heap.push (.deferred (some []))).push (.loop ⟨.ready,none,fnr,a.tmps,ps,assign,body,w.heap.size⟩)}, ?_, ?_,fun _ _=>trivial, ?_,fun h=>(by cases h), ?_⟩
     ·show (Instr.enterLoop fnr a.tmps ps assign body none).run P w=_
      have e0:({ w with heap:=w.heap.push (.deferred (some []))}:World).heap.size=w.heap.size+1:=by simp
      simp only [Instr.enterLoop,J6,run_newObj,J4,Jf,e0]
     ·simp only [resolve,hge,Deferred.ofValue,Jf]
      have e2:(#[Operand.const (Value.func (Fn.yield (w.heap.size+1)) #[] #[])]:Array Operand).map a.eval= #[Value.func (Fn.yield (w.heap.size+1)) #[] #[]]:=by simp [Act.eval]
      rw [e2]
     ·simp_all [invoke,VU]
     ·have hev12:=hev1.trans hev2
      have hyl:Zt ((E.ext s.h.next w.heap.size 0).ext (s.h.next+1) (w.heap.size+1) 0) (first++[.yield (s.h.next+1)]++cap) (fs++[.func (.yield (w.heap.size+1)) #[] #[]]++cs):=
       ((hfs.mono hev12.le).append (.cons _ _ _ _ (.yield _ _ _ hbl) .nil)).append (hcs.mono hev12.le)
      have hcall:=hcx.call _ _ _ _ hl _ _ _ hev2.emb hyl
      have e1:(fs++[Value.func (.yield (w.heap.size+1)) #[] #[]]++cs).toArray=fs.toArray++ #[Value.func (.yield (w.heap.size+1)) #[] #[]]++cs.toArray:=by simp
      rw [e1] at hcall
      refine Z33 (hcall.mono ?_)
      rintro e w3 ⟨E3,o,h3,hk,hv3,ho⟩
      have hv03:=hev.trans (hev12.trans hv3)
      have hdr:VT E3 (.mark s.h.next::s.d) ([⟨.collected w.heap.size, #[]⟩]++a.defers):=.mark _ _ 0 _ _ (hv3.le.blk _ _ (hle2.blk _ _ hbd)) (hs.defs.mono (hev12.le.trans hv3.le))
      cases ho with
      | ret v r hvr=>
       simp only at hk
       split at hk
       ·rename_i l hgl
        have hB:=hv3.emb.own _ _ hgl
        cases hB with
        | loop l b3 d3 N3 fnr3 tm3 hb3 hd3 hw3 ht3=>
         have hbe:=hv3.le.blk _ _ hbl
         rw [hb3] at hbe
         injection hbe with hbe
         injection hbe with q1 q2
         subst q1
         have hnb:l.state≠.busy:=by grind
         have hk':(match l.pending with
           | none=>X .normal { s with h:=h3.del (s.h.next+1),d:=.mark s.h.next::s.d}
           | some .ret=>X .ret { s with h:=h3.del (s.h.next+1),d:=.mark s.h.next::s.d}
           | some (.exit id)=>X (.exit id) { s with h:=h3.del (s.h.next+1),d:=.mark s.h.next::s.d}
           | some (.goto t)=>X (.goto t) { s with h:=h3.del (s.h.next+1),d:=.mark s.h.next::s.d}
           | _=>False):=by
          cases hq:l.state<;>rw [hq] at hk<;>first|simp_all
         have hev3:=Uo hv3.emb (s.h.next+1) (w.heap.size+1) d3 N3 l { l with state:=.exhausted} fnr3 tm3 hgl hb3 hd3 ht3 rfl rfl rfl rfl rfl rfl
         have hev4:=Z21 hev3.emb (s.h.next+1)
         have hev5:Evo E3 h3 w3 E3 (h3.del (s.h.next+1)) { w3 with heap:=w3.heap.setIfInBounds (w.heap.size+1) (.loop ⟨.exhausted,l.pending,fnr3,tm3,l.params.toArray,l.assign,l.body,d3⟩)}:=by
          refine (hev3.trans hev4).trans (Z2q hev4.emb rfl ?_)
          grind [Z6.get_del_same,Z6.get_del_other,Z6.get_set_other]
         refine ⟨l.pending,{ w3 with heap:=w3.heap.setIfInBounds (w.heap.size+1) (.loop ⟨.exhausted,l.pending,fnr3,tm3,l.params.toArray,l.assign,l.body,d3⟩)}, ?_, ?_⟩
         ·simp_all [Instr.endLoop,run_getLoop,run_setObj_loop]
         ·have hsr:WN E3 { s with h:=h3.del (s.h.next+1),d:=.mark s.h.next::s.d} { a with defers:=[⟨.collected w.heap.size, #[]⟩]++a.defers} { w3 with heap:=w3.heap.setIfInBounds (w.heap.size+1) (.loop ⟨.exhausted,l.pending,fnr3,tm3,l.params.toArray,l.assign,l.body,d3⟩)}:=
           ⟨hev5.emb,hs.tmps.mono (hev12.le.trans hv3.le),hdr⟩
          have hvv:=hv03.trans hev5
          cases hp:l.pending with
          | none=>rw [hp] at hk' hsr hvv;exact ⟨E3,.normal,_,hk',hvv,hsr,.normal⟩
          | some c=>
           rw [hp] at hk' hsr hvv
           cases c with
           | ret=>exact wpIn_ret ⟨E3,.ret,_,hk',hvv,hsr,.ret⟩
           | exit id=>exact wpIn_exit ⟨E3,.exit id,_,hk',hvv,hsr,.exit id⟩
           | goto t=>exact wpIn_goto ⟨E3,.goto t,_,hk',hvv,hsr,.goto t⟩
           | _=>exact hk'.elim
       simp_all
      | panic v r hvr=>
       exact ⟨E3,.panic v,_,hk,hv03,⟨hv3.emb,hs.tmps.mono (hev12.le.trans hv3.le),hdr⟩,.panic v r hvr⟩
    simp_all
   simp_all
  simp_all
abbrev ZJ:=List AV->Z6->KO->Prop
abbrev ZhV:=Ctx->List Oper->St->KE->Prop
structure Zg where
 P:Program
 draw:ZhV
 psumm:FuncId->Option YK
 fsumm:FuncId->Option ZJ
 lsumm:FuncId->Nat->Option (Nat->St->KE->Prop)
 fuel:Nat
variable {G:Zg}
def ZbF (G:Zg) (f:FuncId) (k:Nat):ZbB:=fun id=>match G.lsumm f id with|some S=>some (S k)|none=>none
def evC (G:Zg) (cx:Ctx) (k:Nat):Code->St->KE->Prop:=
 XA cx G.P (match cx.inR with|none=>ZbF G cx.fn k|some _=>fun _=>none) G.fuel (G.draw cx) (Z7V cx G.P)
def Z8Z (G:Zg) (mk:FuncId->Option Nat->Ctx) (f:FuncId) (args:List AV) (h:Z6) (K:KO):Prop:=
 match G.psumm f with
 | some S=>S args h fun v=>K (.ret v) h
 | none=>match G.fsumm f with
 | some S=>S args h K
 | none=>match G.P.funcs[f]? with
  | some fn=>match fn.body,Nat.ble args.length fn.ntmps with
   | some c,true=>evC G (mk f none) h.next c ⟨fn.ntmps,Z1z 0 args,h,[]⟩ fun e s=>match e with
    | .normal=>Un G.P (fun g c s X=>evC G (mk g none) s.h.next c s X) fn s s.d .none s.h K
    | .ret=>Un G.P (fun g c s X=>evC G (mk g none) s.h.next c s X) fn s s.d .none s.h K
    | .panic v=>Un G.P (fun g c s X=>evC G (mk g none) s.h.next c s X) fn s s.d (.pan v) s.h K
    | _=>False
   | _,_=>False
  | none=>False
def Z5w (G:Zg):Nat->FuncId->Option Nat->Ctx
 | 0,f,ro=>⟨fun _=>none,fun _ _ _ _=>False,fun _ _ _ _=>False,f,ro⟩
 | n+1,f,ro=>⟨G.psumm,fun g args h K=>Z8Z G (Z5w G n) g args h K,fun x args h K=>Z7U (fun f' x' c s X=>evC G (Z5w G n f' (some x')) 0 c s X) x args h K,f,ro⟩
@[irreducible] def evF (G:Zg) (n:Nat) (f:FuncId) (args:List AV) (h:Z6) (K:KO):Prop:=Z8Z G (Z5w G n) f args h K
structure Zg.Ok (G:Zg):Prop where
 draw:∀(cx:Ctx) (ro:Option Nat) (id:Nat) (ops:Array Oper) (s:St) (X:KE),cx.Ok G.P->(cx.inR=none->ro=none)->G.draw cx ops.toList s X->∀k,Yj G.P k ro (.region id ops true) s X
 psumm:∀f S args h K,G.psumm f=some S->S args h K->Zh G.P f args h fun o h'=>∃v,o=.ret v/\h'=h/\K v
 fsumm:∀f S args h K,G.fsumm f=some S->S args h K->Zh G.P f args h K
 lsumm:∀f id S fn c body,G.lsumm f id=some S->G.P.funcs[f]? =some fn->fn.body=some body->(id,c)∈Zs body->∀k s X,S k s X->Yj G.P k none c s X
theorem Z35 (hG:G.Ok) {k k':Nat} (hcx:cx.Ok G.P) (hro:cx.inR=none->ro=none) {c:Code}
  (hkk:cx.inR=none->k'=k) (hsub:cx.inR=none->∃fn body,G.P.funcs[cx.fn]? =some fn/\fn.body=some body/\∀b,b∈Zs c->b∈Zs body) {s:St} (h:evC G cx k c s X):Yj G.P k' ro c s X:=by
 unfold evC at h
 cases hin:cx.inR with
 | some x=>
  simp only [hin] at h
  exact (Z6j hcx hro (fun id ops s X hd=>hG.draw cx ro id ops s X hcx hro hd k') (fun g ps assign body s X hr=>Z4c hcx hro hr) (Zs c) (fun id S c' hS=>by simp at hS) c (fun _ hb=>hb)).1 s X h
 | none=>
  simp only [hin] at h
  obtain ⟨fn,body,hf,hb,hbl⟩:=hsub hin
  exact (Z6j hcx hro (fun id ops s X hd=>hG.draw cx ro id ops s X hcx hro hd k') (fun g ps assign body s X hr=>Z4c hcx hro hr) (Zs body)
   (fun id S c' hS hm s' X' hs'=>by
    unfold ZbF at hS
    split at hS
    ·rename_i S0 hS0
     cases hS
     have hk0:=hkk hin
     subst hk0
     have hr0:=hro hin
     subst hr0
     exact hG.lsumm cx.fn id S0 fn c' body hS0 hf hb hm _ s' X' hs'
    ·cases hS) c hbl).1 s X h
theorem Z6m (hG:G.Ok) {mk:FuncId->Option Nat->Ctx} (hmk:∀f ro,(mk f ro).Ok G.P/\(mk f ro).fn=f/\(mk f ro).inR=ro) {f:FuncId} {h:Z6} {K:KO} (hl:Z8Z G mk f args h K):Zh G.P f args h K:=by
 unfold Z8Z at hl
 split at hl
 ·rename_i S hS
  intro E w rs he ha
  refine (hG.psumm f S args h _ hS hl E w rs he ha).mono ?_
  grind
 split at hl
 ·rename_i S hS
  exact hG.fsumm f S args h K hS hl
 ·split at hl
  ·rename_i fn hf
   split at hl
   ·rename_i c hb hn
    intro E w rs he ha
    refine (callsIn_wide (n:=0)).1 ?_
    refine callsIn_of_wp_marks hf hb trivial ?_ rfl
    have hent:=Z4b (N:=fn.ntmps) ha (V9 hn)
    have hcode:Yj G.P h.next none c _ _:=Z35 hG (hmk f none).1 (ro:=none) (fun _=>rfl) (fun _=>rfl) (fun _=>⟨fn,c,by rw [(hmk f none).2.1];exact hf,hb,fun _ hb=>hb⟩) hl
    have hdef:∀g gfn id ops rest,G.P.funcs[g]? =some gfn->gfn.body=some (.seq (.region id ops false) rest)->∀s X,evC G (mk g none) s.h.next rest s X->Yj G.P s.h.next none rest s X:=
     fun g gfn id ops rest hgf hgb s X hr=>Z35 hG (hmk g none).1 (fun _=>rfl) (fun _=>rfl) (fun _=>⟨gfn,_,by rw [(hmk g none).2.1];exact hgf,hgb,fun b hb=>by simp [Zs,hb]⟩) hr
    refine wpIn_mono (hcode E h w E { tmps:=rs.toArray++Array.replicate (fn.ntmps-rs.toArray.size) undef,defers:=[]} w 0 he.fresh ⟨he,hent,.nil⟩ (.refl he)) ?_
    rintro e a' w' ⟨E',x,s',hx,hev,hs',hxe⟩
    cases hxe with
    | normal=>exact Z0Y (ev:=fun g c s X=>evC G (mk g none) s.h.next c s X) hdef s'.d a'.defers .none .returning s'.h E' w' hx hs'.emb hs'.tmps hev hs'.defs .none (by simp)
    | ret=>exact Z0Y (ev:=fun g c s X=>evC G (mk g none) s.h.next c s X) hdef s'.d a'.defers .none .returning s'.h E' w' hx hs'.emb hs'.tmps hev hs'.defs .none (by simp)
    | panic v r hv=>exact Z0Y (ev:=fun g c s X=>evC G (mk g none) s.h.next c s X) hdef s'.d a'.defers (.pan v) _ s'.h E' w' hx hs'.emb hs'.tmps hev hs'.defs (.pan v r hv) (by simp)
    | exit id=>simp_all
    | goto l=>simp_all
   simp_all
  simp_all
theorem Z0i {G:Zg} (hG:G.Ok):∀(n:Nat) (f:FuncId) (ro:Option Nat),(Z5w G n f ro).Ok G.P/\(Z5w G n f ro).fn=f/\(Z5w G n f ro).inR=ro
 | 0,f,ro=>⟨⟨fun _ _ _ _ _ h=>by simp [Z5w] at h,fun _ _ _ _ h=>h.elim,fun _ _ _ _ h=>h.elim⟩,rfl,rfl⟩
 | n+1,f,ro=>by
  refine ⟨⟨fun f' S args h K hS hs=>hG.psumm f' S args h K hS hs,fun g args h K hl=>Z6m hG (Z0i hG n) hl,fun x args h K hl=> ?_⟩,rfl,rfl⟩
  refine Zag (ev:=fun f' x' c s X=>evC G (Z5w G n f' (some x')) 0 c s X) ?_ hl
  intro f' x' c s X hc E0 h0 w0 E a w m b N hs hev hb
  have hk:=Z0i hG n f' (some x')
  exact Z35 (k':=s.h.next) hG hk.1 (ro:=some b) (fun hq=>by rw [hk.2.2] at hq;cases hq) (fun hq=>by rw [hk.2.2] at hq;cases hq) (fun hq=>by rw [hk.2.2] at hq;cases hq) hc E0 h0 w0 E a w m (fun x hx=>by
   cases hq:E0.blk x with
   | none=>rfl
   | some r=>have:=hev.le.blk x r hq;rw [hs.emb.fresh x hx] at this;cases this) hs hev
theorem Z0Z (hG:G.Ok) {n:Nat} {f:FuncId} {h:Z6} {K:KO} (hl:evF G n f args h K):Zh G.P f args h K:=by
 grind [evF,Z6m,Z0i]
def ZbG:Op->Bool
 | .move _|.assign _|.pick .. |.build .. |.load .. |.nilCheck _|.binOp .. |.unOp .. |.convert .. |.makeInterface .. |.makeFunc .. |.slice .. |.fieldAddr .. |.field .. |.indexAddr .. |.index .. |.extract .. |.typeAssert ..
 | .lookup .. |.sliceToArrayPointer .. =>true
 | .call ⟨.builtin .len,_,_⟩=>true
 | _=>false
def ZfT (q:Nat):Op->Bool
 | .alloc _=>true
 | .buildSlice _ len _=>Nat.beq q 2&& !Nat.beq len 0
 | _=>false
def tmpsOf:List Operand->List Nat
 | []=>[]
 | .tmp x::r=>x::tmpsOf r
 | _::r=>tmpsOf r
def opT (o:Op):List Nat:=tmpsOf o.operands.toList
def WU (t:ZM):List Nat->ZM
 | []=>[]
 | x::r=>match ZD t x with|some v=>(x,v)::WU t r|none=>WU t r
theorem XG {t:ZM}:∀{xs:List Nat} {x:Nat} {v:AV},ZD (WU t xs) x=some v->ZD t x=some v/\x∈xs
 | [],_,_,h=>by simp [WU,ZD] at h
 | y::r,x,v,h=>by
  unfold WU at h
  split at h
  ·rename_i u hu
   simp only [ZD] at h
   split at h
   ·rename_i hb
    have:=J0 hb
    subst this
    cases h
    exact ⟨hu,Jz ..⟩
   ·have:=XG h
    exact ⟨this.1,Jh _ this.2⟩
  ·have:=XG h
   exact ⟨this.1,Jh _ this.2⟩
structure It where
 i:Nat
 o:Oper
 m:Nat
 q:Nat
def ZbH (q:Nat):Op->Bool
 | .assign _=> !Nat.beq q 0
 | o=>ZbG o
def Yy (it:It):Bool:=ZbH it.q it.o.op
def ZL (it:It):Bool:=ZfT it.q it.o.op
def bsI (it:It):Bool:=match it.o.op with|.buildSlice .. =>ZL it|_=>false
def Xo (it:It):Bool:= !Yy it&& !ZL it
def Qe:List Nat->Nat->Nat
 | [],_=>0
 | a::_,0=>a
 | _::r,n+1=>Qe r n
def Qr (acc:List Nat):List Edge->Nat->Nat
 | [],s=>s
 | e::r,s=>match Region.binds .any e with
  | true=>Qr acc r (Nat.lor (Nat.lor s (2^e.on)) (Qe acc e.on))
  | false=>Qr acc r s
def ZG (q:Nat):Nat->List Nat->List Oper->List It
 | _,_,[]=>[]
 | k,acc,o::r=>⟨k,o,Qr acc o.after.toList 0,q⟩::ZG q (k+1) (acc++[Qr acc o.after.toList 0]) r
def Z4d (all:List Oper) (g:Option (Nat×Bool)):List Nat:=
 match g with
 | none=>[]
 | some (j,_)=>match Z1x all j with|some d=>[d]|none=>[]
def Wb (all:List Oper) (o:Oper):List Nat:=Z4d all o.guard++opT o.op
def Zah (x:Nat):List Nat->Bool
 | []=>false
 | y::r=>match Nat.beq x y with|true=>true|false=>Zah x r
theorem Up (x:Nat):∀l:List Nat,Zah x l=true↔x∈l
 | []=>by simp [Zah]
 | y::r=>by
  unfold Zah
  split
  ·rename_i h;simp [J0 h]
  ·rename_i h
   have hne:x≠y:=fun e=>by subst e;rw [Jj] at h;cases h
   simp [Up x r,hne]
def Z1A (all:List Oper) (a b:It):Bool:=match a.o.dst with|some x=>Zah x (Wb all b.o)|none=>false
def Z5x (a b:It):Bool:=match a.o.dst,b.o.dst with|some x,some y=>Nat.beq x y|_,_=>false
def Z7W (f:It->Bool):List It->Bool
 | []=>false
 | a::r=>match f a with|true=>true|false=>Z7W f r
def QI (f:It->Bool):List It->Bool
 | []=>true
 | a::r=>match f a with|true=>QI f r|false=>false
theorem Z0j (f:It->Bool):∀l,Z7W f l=true↔∃a∈l,f a=true
 | []=>by simp [Z7W]
 | a::r=>by
  unfold Z7W
  split
  ·rename_i h;simp [h]
  ·rename_i h;simp [h,Z0j f r]
theorem YL (f:It->Bool):∀l,QI f l=true↔∀a∈l,f a=true
 | []=>by simp [QI]
 | a::r=>by
  unfold QI
  split
  ·rename_i h;simp [h,YL f r]
  ·rename_i h;simp [h]
def ZfU (all:List Oper) (its:List It) (a b:It):Bool:=
 Nat.beq a.i b.i||(!Z5x a b&&(!Z1A all a b||b.m.testBit a.i||(a.m.testBit b.i&&(Xo a||(Yy a&&Z7W (fun e=>Xo e&&e.m.testBit b.i&&a.m.testBit e.i) its)))))
def Z36 (it:It):Bool:=it.o.after.toList.all fun e=> !Region.binds .any e||Nat.blt e.on it.i
def Z7X (P:Program) (all:List Oper) (its:List It) (a:It):Bool:=
 Z36 a&&(Xo a|| !Z1A all a a)&&
 (match a.o.guard with|none=>true|some (j,_)=>a.m.testBit j&&(Z1x all j).isSome)&&
 (match ZL a with
  | true=>a.o.guard.isNone&&a.o.dst.isSome&&(match a.o.op with|.alloc T=>(Z07 P T).isSome|_=>true)&&QI (fun p=> !Z1A all p a||a.m.testBit p.i) its
  | false=>true)&&
 (!(Yy a||bsI a)||QI (fun p=> !ZL p|| !a.m.testBit p.i||Z7W (fun e=>Xo e&&e.m.testBit p.i&&a.m.testBit e.i) its) its)
def ZhW (P:Program) (all:List Oper) (its:List It):Bool:=QI (fun a=>Z7X P all its a&&QI (ZfU all its a) its) its
def Q2 (P:Program) (all:List Oper):List It->List It->Nat->List (It×AV)->St->(List It->Nat->List (It×AV)->St->Prop)->Prop
 | [],kept,D,pend,s,K=>K kept D pend s
 | it::r,kept,D,pend,s,K=>
  match Yy it&&Nat.beq (Nat.land it.m D) it.m with
  | true=>QH all it.o.guard s
    (fun s'=>opQ P it.o.op (WU s'.t (opT it.o.op)) s'.h fun v=>Ub s' it.o.dst v fun s2=>Q2 P all r kept (Nat.lor D (2^it.i)) ((it,v)::pend) s2 K)
    (fun s'=>Ub s' it.o.dst (.tuple []) fun s2=>Q2 P all r kept (Nat.lor D (2^it.i)) pend s2 K)
  | false=>Q2 P all r (kept++[it]) D pend s K
mutual
/-- One value is the other. -/
def Yu:AV->AV->Prop->Prop
 | .top,v,Z=>match v with|.top=>Z|_=>False
 | .bool b,v,Z=>match v with|.bool a=>Z4 (a=b) Z|_=>False
 | .int k b,v,Z=>match v with
  | .int k' a=>match decide (k'=k) with|true=>Z4 (a=b) Z|false=>False
  | _=>False
 | .str b,v,Z=>match v with|.str a=>a=b/\Z|_=>False
 | .ptr none,v,Z=>match v with|.ptr none=>Z|_=>False
 | .ptr (some q),v,Z=>match v with
  | .ptr (some p)=>Z4 (p.blk=q.blk) (Z4 (p.row=q.row) (Z4 (p.sz=q.sz) (Z4 (p.off=q.off) (Z4 (p.inn=q.inn) Z))))
  | _=>False
 | .nslice q esz len lo,v,Z=>match v with
  | .nslice p esz' len' lo'=>Z4 (p.blk=q.blk) (Z4 (p.row=q.row) (Z4 (p.sz=q.sz) (Z4 (p.off=q.off) (Z4 (p.inn=q.inn) (Z4 (esz'=esz) (Z4 (len'=len) (Z4 (lo'=lo) Z)))))))
  | _=>False
 | .vints k xs len,v,Z=>match v with
  | .vints k' xs' len'=>match decide (k'=k) with|true=>xs'=xs/\Z4 (len'=len) Z|false=>False
  | _=>False
 | .vrows esz n f len,v,Z=>match v with
  | .vrows esz' n' f' len'=>Z4 (esz'=esz) (Z4 (n'=n) (f'=f/\Z4 (len'=len) Z))
  | _=>False
 | .eslice,v,Z=>match v with|.eslice=>Z|_=>False
 | .fslice,v,Z=>match v with|.fslice=>Z|_=>False
 | .nilslice,v,Z=>match v with|.nilslice=>Z|_=>False
 | .map none,v,Z=>match v with|.map none=>Z|_=>False
 | .map (some y),v,Z=>match v with|.map (some x)=>Z4 (x=y) Z|_=>False
 | .yield y,v,Z=>match v with|.yield x=>Z4 (x=y) Z|_=>False
 | .nilFunc,v,Z=>match v with|.nilFunc=>Z|_=>False
 | .nilIface,v,Z=>match v with|.nilIface=>Z|_=>False
 | .arr k n xs,v,Z=>match v with
  | .arr k' n' xs'=>match decide (k'=k)&&Nat.beq n' n with|true=>xs'=xs/\Z|false=>False
  | _=>False
 | .pview cs inn,v,Z=>match v with|.pview cs' inn'=>Z0k cs cs' (Z4 (inn'=inn) Z)|_=>False
 | .func (.func g) fs cs,v,Z=>match v with
  | .func (.func g') fs' cs'=>match Nat.beq g' g with|true=>Z0k fs fs' (Z0k cs cs' Z)|false=>False
  | _=>False
 | .func a b c,v,Z=>v=.func a b c/\Z
 | .iface t u,v,Z=>match v with
  | .iface t' u'=>match Nat.beq t' t with|true=>Yu u u' Z|false=>False
  | _=>False
 | .agg cs,v,Z=>match v with|.agg cs'=>Z0k cs cs' Z|_=>False
 | .tuple cs,v,Z=>match v with|.tuple cs'=>Z0k cs cs' Z|_=>False
 | .stamp y,v,Z=>match v with|.stamp x=>Z4 (x=y) Z|_=>False
def Z0k:List AV->List AV->Prop->Prop
 | [],l,Z=>match l with|[]=>Z|_::_=>False
 | v::r,l,Z=>match l with|v'::r'=>Yu v v' (Z0k r r' Z)|[]=>False
end
set_option maxHeartbeats 1000000 in
mutual
theorem Z0l:∀(v₂ v:AV) (Z:Prop),Yu v₂ v Z->v=v₂/\Z
 | .top,v,Z,h=>by unfold Yu at h;split at h<;>first|exact ⟨rfl,h⟩|simp_all
 | .bool b,v,Z,h=>by
  unfold Yu at h
  grind [Zd]
 | .int k b,v,Z,h=>by
  unfold Yu at h
  split at h
  ·split at h
   ·rename_i hk
    have hk:=of_decide_eq_true hk
    grind [Zd]
   simp_all
  simp_all
 | .str b,v,Z,h=>by
  unfold Yu at h
  grind
 | .ptr none,v,Z,h=>by unfold Yu at h;split at h<;>first|exact ⟨rfl,h⟩|simp_all
 | .ptr (some q),v,Z,h=>by
  unfold Yu at h
  split at h
  ·rename_i p
   obtain ⟨p1,p2,p3,p4,p5⟩:=p
   obtain ⟨q1,q2,q3,q4,q5⟩:=q
   replace h:=Zd h;grind [Zd]
  simp_all
 | .nslice q esz len lo,v,Z,h=>by
  unfold Yu at h
  split at h
  ·rename_i p _ _ _
   obtain ⟨p1,p2,p3,p4,p5⟩:=p
   obtain ⟨q1,q2,q3,q4,q5⟩:=q
   grind [Zd]
  simp_all
 | .vints k xs len,v,Z,h=>by
  unfold Yu at h
  split at h
  ·split at h
   ·grind [Zd]
   simp_all
  simp_all
 | .vrows esz n f len,v,Z,h=>by
  unfold Yu at h
  grind [Zd]
 | .eslice,v,Z,h=>by unfold Yu at h;split at h<;>first|simp_all
 | .fslice,v,Z,h=>by unfold Yu at h;split at h<;>first|simp_all
 | .nilslice,v,Z,h=>by unfold Yu at h;split at h<;>first|simp_all
 | .map none,v,Z,h=>by unfold Yu at h;split at h<;>first|simp_all
 | .map (some y),v,Z,h=>by
  unfold Yu at h
  grind [Zd]
 | .yield y,v,Z,h=>by
  unfold Yu at h
  grind [Zd]
 | .stamp y,v,Z,h=>by
  unfold Yu at h
  grind [Zd]
 | .nilFunc,v,Z,h=>by unfold Yu at h;split at h<;>first|simp_all
 | .nilIface,v,Z,h=>by unfold Yu at h;split at h<;>first|simp_all
 | .arr k n xs,v,Z,h=>by
  unfold Yu at h
  split at h
  ·split at h
   all_goals simp_all
  simp_all
 | .pview cs inn,v,Z,h=>by
  unfold Yu at h
  split at h
  ·replace h:=Vm cs _ _ h;obtain ⟨e,h⟩:=h
   subst e
   replace h:=Zd h;obtain ⟨rfl,h⟩:=h;exact ⟨rfl,h⟩
  ·exact h.elim
 | .func (.func g) fs cs,v,Z,h=>by
  unfold Yu at h
  split at h
  ·split at h
   ·rename_i hb
    have:=J0 hb
    subst this
    replace h:=Vm fs _ _ h;obtain ⟨e,h⟩:=h
    subst e
    replace h:=Vm cs _ _ h;obtain ⟨e,h⟩:=h
    subst e
    exact ⟨rfl,h⟩
   ·exact h.elim
  ·exact h.elim
 | .func (.method _) _ _,v,Z,h=>by exact h
 | .func (.methodOf _ _) _ _,v,Z,h=>by exact h
 | .func (.via _ _ _ _) _ _,v,Z,h=>by exact h
 | .func (.yield _) _ _,v,Z,h=>by exact h
 | .iface t u,v,Z,h=>by
  unfold Yu at h
  split at h
  ·split at h
   ·rename_i hb
    have:=J0 hb
    subst this
    replace h:=Z0l u _ _ h;obtain ⟨e,h⟩:=h
    subst e
    exact ⟨rfl,h⟩
   ·exact h.elim
  ·exact h.elim
 | .agg cs,v,Z,h=>by
  unfold Yu at h
  split at h
  ·replace h:=Vm cs _ _ h;obtain ⟨e,h⟩:=h
   subst e
   exact ⟨rfl,h⟩
  ·exact h.elim
 | .tuple cs,v,Z,h=>by
  unfold Yu at h
  split at h
  ·replace h:=Vm cs _ _ h;obtain ⟨e,h⟩:=h
   subst e
   exact ⟨rfl,h⟩
  ·exact h.elim
theorem Vm:∀(l₂ l:List AV) (Z:Prop),Z0k l₂ l Z->l=l₂/\Z
 | [],l,Z,h=>by unfold Z0k at h;split at h<;>first|simp_all
 | v::r,l,Z,h=>by
  unfold Z0k at h
  split at h
  ·replace h:=Z0l v _ _ h;obtain ⟨e,h⟩:=h
   subst e
   replace h:=Vm r _ _ h;obtain ⟨e,h⟩:=h
   subst e
   exact ⟨rfl,h⟩
  ·exact h.elim
end
def Vn (P:Program) (t:ZM) (h:Z6) (K:Prop):List (It×AV)->Prop
 | []=>K
 | (it,v)::r=>match worldless it.o.op with
  | true=>Vn P t h K r
  | false=>opQ P it.o.op (WU t (opT it.o.op)) h fun v'=>Yu v v' (Vn P t h K r)
def Z4e (P:Program) (h:Z6) (o:Op) (t:ZM) (K:AV->Z6->Prop):Prop:=
 match o with
 | .alloc T=>Z2A P h T K
 | .buildSlice T len ps=>XW P h T len (Zbl t ps.toList) K
 | _=>False
def Z37 (P:Program) (D:Nat) (s:St) (K:Prop):List It->Prop
 | []=>K
 | it::r=>match bsI it&&Nat.beq (Nat.land it.m D) it.m with
  | true=>Z4e P s.h it.o.op (WU s.t (opT it.o.op)) fun _ _=>Z37 P D s K r
  | false=>Z37 P D s K r
def Z10 (P:Program) (m:Nat) (pd:List (It×AV)):List It->List It->Nat->St->(List It->Nat->St->Prop)->Prop
 | [],kept,D,s,K=>K kept D s
 | it::r,kept,D,s,K=>
  match ZL it&&m.testBit it.i with
  | true=>Z4e P s.h it.o.op (WU s.t (opT it.o.op)) fun v h'=>Ub { s with h:=h'} it.o.dst v fun s2=>Vn P s2.t s2.h (Z10 P m pd r kept (Nat.lor D (2^it.i)) s2 K) pd
  | false=>Z10 P m pd r (kept++[it]) D s K
def WF:List It->Option It
 | []=>none
 | it::r=>match Xo it with|true=>some it|false=>WF r
def Vo (i:Nat):List It->List It
 | []=>[]
 | it::r=>match Nat.beq it.i i with|true=>Vo i r|false=>it::Vo i r
def Vp (m:Nat):List (It×AV)->List (It×AV)
 | []=>[]
 | (it,v)::r=>match m.testBit it.i with|true=>Vp m r|false=>(it,v)::Vp m r
def Z38 (t:ZM):List It->ZM
 | []=>t
 | it::r=>match it.o.dst with|some x=>Z3N (Z38 t r) x|none=>Z38 t r
def ZfV:List It->Nat
 | []=>0
 | it::r=>Nat.lor (2^it.i) (ZfV r)
def Z0m (m:Nat):List It->Bool
 | []=>false
 | it::r=>(Xo it&&m.testBit it.i)||Z0m m r
def Z4f (rem:List It) (it:It):Bool:=Xo it&& !Z0m it.m rem
def Z26 (rem:List It):List It->Bool
 | []=>false
 | it::r=>Z4f rem it||Z26 rem r
def Z39 (f:It->Prop) (rem:List It):List It->Prop
 | []=>True
 | it::r=>match Z4f rem it with
  | true=>(match Z26 rem r with|true=>f it/\Z39 f rem r|false=>f it)
  | false=>Z39 f rem r
theorem Z1B {rem:List It} {it:It}:∀{l:List It},it∈l->Z4f rem it=true->Z26 rem l=true
 | x::r,hm,hc=>by
  unfold Z26
  cases hm with
  | head=>rw [hc];rfl
  | tail _ h=>rw [Z1B h hc];simp
theorem QJ {f:It->Prop} {rem:List It} {it:It}:∀{l:List It},Z39 f rem l->it∈l->Z4f rem it=true->f it
 | x::r,h,hm,hc=>by
  unfold Z39 at h
  split at h
  ·split at h
   ·cases hm with
    | head=>exact h.1
    | tail _ hm=>exact QJ h.2 hm hc
   ·rename_i ha
    cases hm with
    | head=>exact h
    | tail _ hm=>rw [Z1B hm hc] at ha;cases ha
  ·rename_i hx
   cases hm with
   | head=>rw [hc] at hx;cases hx
   | tail _ hm=>exact QJ h hm hc
theorem Uq {m:Nat}:∀{l:List It},(∀q∈l,Xo q=true->m.testBit q.i=false)->Z0m m l=false
 | [],_=>rfl
 | x::r,h=>by
  unfold Z0m
  rw [Uq fun q hq=>h q (Jh _ hq),Bool.or_false]
  simp_all
def VV (cx:Ctx) (P:Program) (all:List Oper) (its:List It) (next:List It->Nat->List (It×AV)->St->KE->Prop) (rem:List It) (D:Nat) (pend:List (It×AV)) (s:St) (X:KE):Prop:=
 match QI (fun it=> !Yy it|| !Nat.beq (Nat.land it.m D) it.m) rem with
 | false=>False
 | true=>Z37 P D s (match WF rem with
  | none=>Z10 P (ZfV its) [] rem [] D s fun _ _ s=>X .normal s
  | some _=>Z39 (fun e=>Z10 P e.m (Vp e.m pend) rem [] D s fun rem D s=>match Nat.beq (Nat.land e.m D) e.m with
    | false=>False
    | true=>QH all e.o.guard s
     (fun s2=>match Z7R cx P e.o.op (WU s2.t (opT e.o.op)) with
      | some (S,args)=>S args s2.h fun v=>Ub s2 e.o.dst v fun s3=>next (Vo e.i rem) (Nat.lor D (2^e.i)) (Vp e.m pend) s3 X
      | none=>Z32 cx P e.o.op (WU s2.t (opT e.o.op)) s2.h s2.d
       (fun v h' d'=>Ub ⟨s2.n,s2.t,h',d'⟩ e.o.dst v fun s3=>Vn P s3.t s3.h (next (Vo e.i rem) (Nat.lor D (2^e.i)) (Vp e.m pend) s3 X) (Vp e.m pend))
       (fun v h'=>X (.panic v) ⟨s2.n,Z38 s2.t its,h',s2.d⟩))
     (fun s2=>Ub s2 e.o.dst (.tuple []) fun s3=>next (Vo e.i rem) (Nat.lor D (2^e.i)) (Vp e.m pend) s3 X)) rem rem) rem
def Z11 (cx:Ctx) (P:Program) (all:List Oper) (its:List It):Nat->List It->Nat->List (It×AV)->St->KE->Prop
 | 0,_,_,_,_,_=>False
 | n+1,rem,D,pend,s,X=>Q2 P all rem [] D pend s fun rem D pend s=>VV cx P all its (Z11 cx P all its n) rem D pend s X
def WG (t:ZM):List It->ZM
 | []=>t
 | it::r=>match ZL it,it.o.dst with|true,some x=>Z3N (WG t r) x|_,_=>WG t r
structure WH where
 i:Nat
 c:Int
 y:Nat
structure SpD where
 i:Nat
 x:Nat
 T:TypeId
 k:IntKind
 js:List WH
def isSp:Op->Bool
 | .makeMap _ none=>true
 | .insert .. =>true
 | _=>false
def WV:List It->List It
 | []=>[]
 | it::r=>match isSp it.o.op with|true=>WV r|false=>it::WV r
def spK:List It->Option (TypeId×IntKind)
 | []=>none
 | it::r=>match it.o.op with
  | .insert T _ (.const (.int k _)) _=>some (T,k)
  | _=>spK r
def ZgG:List It->List WH
 | []=>[]
 | it::r=>match it.o.op with
  | .insert _ _ (.const (.int _ c)) (.tmp y)=>⟨it.i,c,y⟩::ZgG r
  | _=>ZgG r
def spM:List It->Option (Nat×Nat)
 | []=>none
 | it::r=>match it.o.op,it.o.dst with
  | .makeMap _ none,some x=>some (it.i,x)
  | _,_=>spM r
def ZkD (its:List It):Option SpD:=
 match spM its,spK its with
 | some (i,x),some (T,k)=>some ⟨i,x,T,k,ZgG its⟩
 | _,_=>none
def ZbI (f:WH->Bool):List WH->Bool
 | []=>false
 | a::r=>match f a with|true=>true|false=>ZbI f r
def Z6n (f:WH->Bool):List WH->Bool
 | []=>true
 | a::r=>match f a with|true=>Z6n f r|false=>false
theorem Z6o (f:WH->Bool):∀l,ZbI f l=true↔∃a∈l,f a=true
 | []=>by simp [ZbI]
 | a::r=>by
  unfold ZbI
  split
  ·rename_i h;simp [h]
  ·rename_i h;simp [h,Z6o f r]
theorem Ur (f:WH->Bool):∀l,Z6n f l=true↔∀a∈l,f a=true
 | []=>by simp [Z6n]
 | a::r=>by
  unfold Z6n
  split
  ·rename_i h;simp [h,Ur f r]
  ·rename_i h;simp [h]
def QK:List WH->Bool
 | []=>true
 | a::r=>Z6n (fun b=> !Nat.beq a.i b.i&& !decide (a.c=b.c)) r&&QK r
def Z4g (it:It) (x:Nat):Bool:=match it.o.dst with|some y=>Nat.beq y x|none=>false
def Z6p (d:SpD) (it:It):Bool:=
 Z36 it&&it.o.guard.isNone&&match it.o.op with
 | .makeMap _ none=>Nat.beq it.i d.i&&Z4g it d.x
 | .insert T (.tmp m) (.const (.int k c)) (.tmp y)=>it.o.dst.isNone&&Nat.beq T d.T&&Nat.beq m d.x&&decide (k=d.k)&&ZbI (fun j=>Nat.beq j.i it.i&&decide (j.c=c)&&Nat.beq j.y y) d.js
 | _=>false
def ZbJ (all:List Oper) (d:SpD) (it:It):Bool:=
 !Nat.beq it.i d.i&& !it.m.testBit d.i&& !Z4g it d.x&& !Zah d.x (Wb all it.o)&&Z6n (fun j=> !Nat.beq it.i j.i&& !it.m.testBit j.i) d.js
def jOk (d:SpD) (its0 its:List It) (j:WH):Bool:=
 !Nat.beq j.i d.i&& !Nat.beq j.y d.x&&Z7W (fun it=>Nat.beq it.i j.i&&it.m.testBit d.i&&QI (fun p=> !Z4g p j.y||it.m.testBit p.i) its) its0
def Z1R (it:It):Bool:=
 Z36 it&&it.o.guard.isNone&&Nat.beq (it.m+1) (2^it.i)&&match it.o.op with|.move _=>true|.assign _=>true|_=>false
def spB (P:Program) (all:List Oper) (its0 its:List It) (d:SpD):Bool:=
 (Ul P d.T).isSome&&QK d.js&&Z6n (jOk d its0 its) d.js&&QI (fun it=>match isSp it.o.op with|true=>Z6p d it|false=>ZbJ all d it||Z1R it) its0&&QI (ZbJ all d) its
def ZhX (P:Program) (all:List Oper) (its0 its:List It):Option SpD->Bool
 | none=>true
 | some d=>spB P all its0 its d
def Z90 (t:ZM) (k:IntKind) (js:List WH) (K:List (AV×AV)->Prop):Prop:=
 match js with
 | []=>K []
 | j::r=>match ZD t j.y with
  | some v=>Z90 t k r fun es=>K ((.int k j.c,v)::es)
  | none=>False
def ZbK (sp:Option SpD) (s:St) (K:St->Prop):Prop:=
 match sp with
 | none=>K s
 | some d=>Z90 s.t d.k d.js fun es=>Ub { s with h:=s.h.add (.pmap es)} (some d.x) (.map (some s.h.next)) K
def spX (sp:Option SpD) (X:KE):KE:=fun e s=>match e with
 | .normal=>ZbK sp s fun s=>X .normal s
 | e=>X e s
def Z6q (sp:Option SpD) (t:ZM):ZM:=match sp with|none=>t|some d=>Z3N t d.x
def ZgH (sp:Option SpD) (n m:Nat):Bool:=match sp with|none=>true|some d=>Nat.blt d.x n&&Nat.blt d.i m&&Z6n (fun j=>Nat.blt j.i m) d.js
def Wc:List It->List It
 | []=>[]
 | it::r=>match Wc r with
  | []=>(match Z1R it with|true=>[]|false=>[it])
  | a::m=>it::a::m
def Us:List It->List It
 | []=>[]
 | it::r=>match Wc r with
  | []=>(match Z1R it with|true=>it::Us r|false=>Us r)
  | _::_=>Us r
def tailA (P:Program):List It->St->(St->Prop)->Prop
 | [],s,K=>K s
 | it::r,s,K=>opQ P it.o.op s.t s.h fun v=>Ub s it.o.dst v fun s2=>tailA P r s2 K
def tlX (P:Program) (T:List It) (X:KE):KE:=fun e s=>match e with
 | .normal=>tailA P T s fun s=>X .normal s
 | e=>X e s
def Z91 (cx:Ctx) (P:Program) (all:List Oper) (its0 its:List It) (sp:Option SpD) (T:List It) (n0:Nat) (s:St) (X:KE) (Z:Prop):Prop:=
 match P.follows .mixedOrders&&ZhW P all its&&ZhX P all its0 its sp&&ZgH sp s.n n0&&QI (fun a=>Nat.blt a.i n0) its&&QI Z1R T&&QI (fun it=> !ZL it||(match it.o.dst with|some x=>Nat.blt x s.n|none=>true)) its with
 | true=>Z11 cx P all its (all.length+1) its 0 [] { s with t:=Z6q sp (WG s.t its)} (spX sp (tlX P T X))
 | false=>Z
def ZfW:List Oper->Bool
 | []=>false
 | o::r=>match o.op with|.insert .. =>true|_=>ZfW r
def ZbL (P:Program) (cx:Ctx) (all:List Oper) (its:List It) (s:St) (X:KE) (Z:Prop):Prop:=Z91 cx P all its its none [] all.length s X Z
def ZfX (P:Program) (cx:Ctx) (all:List Oper) (its:List It) (s:St) (X:KE):Prop:=
 match ZkD its with
 | some d=>Z91 cx P all its (WV (Wc its)) (some d) (Us its) (Wc its).length s X False
 | none=>False
def ZbM (P:Program) (cx:Ctx) (all:List Oper) (s:St) (X:KE):Prop:=
 match ZfW all with
 | true=>ZfX P cx all (ZG 2 0 [] all) s X
 | false=>ZbL P cx all (ZG 1 0 [] all) s X (ZbL P cx all (ZG 0 0 [] all) s X False)
theorem Q3 {acc:List Nat}:∀{es:List Edge} {s p:Nat},(Qr acc es s).testBit p=true->s.testBit p=true\/∃e∈es,Region.binds .any e=true/\(p=e.on\/(Qe acc e.on).testBit p=true)
 | [],s,p,h=>.inl h
 | e::r,s,p,h=>by
  unfold Qr at h
  split at h
  ·rcases Q3 h with h1|⟨e',he,h2⟩
   ·have h1':(s|||2^e.on|||Qe acc e.on).testBit p=true:=h1
    grind
   grind
  simp_all [Q3]
theorem Xj {qm:Nat}:∀{r:List Oper} {k:Nat} {acc:List Nat} {j:Nat} {it:It},(ZG qm k acc r)[j]? =some it->it.i=k+j/\r[j]? =some it.o
 | [],_,_,j,it,h=>by simp [ZG] at h
 | o::r,k,acc,0,it,h=>by simp [ZG] at h;grind
 | o::r,k,acc,j+1,it,h=>by
  simp only [ZG] at h
  have:=Xj h
  exact ⟨by omega,by simpa using this.2⟩
theorem XH {qm:Nat}:∀{r:List Oper} {k:Nat} {acc:List Nat},(ZG qm k acc r).length=r.length
 | [],_,_=>rfl
 | o::r,k,acc=>by simp [ZG,XH]
theorem Z4h {acc:List Nat} {m j:Nat}:Qe (acc++[m]) j=if j=acc.length then m else Qe acc j:=by
 induction acc generalizing j with
 | nil=>cases j<;>simp [Qe]
 | cons a r ih=>
  cases j with
  | zero=>simp [Qe]
  | succ j=>simp [Qe,ih]
theorem VW {qm:Nat} {L:Nat->Prop} {all:List Oper} (hdown:∀i o e,all[i]? =some o->L i->e∈o.after.toList->Region.binds .any e=true->L e.on):
  ∀{r:List Oper} {k:Nat} {acc:List Nat},acc.length=k->(∀j,r[j]? =all[k+j]?)->(∀j p,j<k->L j->(Qe acc j).testBit p=true->L p)->
   (∀j,k<=j->Qe acc j=0)->∀it∈ZG qm k acc r,L it.i->∀p,it.m.testBit p=true->L p
 | [],_,_,_,_,_,_,it,h,_,_,_=>by simp [ZG] at h
 | o::r,k,acc,hk,hr,hacc,hz,it,h,hL,p,hp=>by
  have h0:all[k]? =some o:=by have:=hr 0;simp_all
  have hself:L k->∀p,(Qr acc o.after.toList 0).testBit p=true->L p:=fun hk' p hp=>by
   rcases Q3 hp with h1|⟨e,he,hb,h2⟩
   all_goals grind
  simp only [ZG,J7] at h
  rcases h with rfl|h
  ·simp_all
  ·refine VW hdown (k:=k+1) (acc:=acc++[Qr acc o.after.toList 0]) (by simp [hk]) (fun j=> ?_) ?_ ?_ it h hL p hp
   ·have:=hr (j+1)
    rw [show k+1+j=k+(j+1) from by omega,<-this]
    simp
   all_goals grind [Z4h]
def Wj (all:List Oper) (t:ZM) (g:Option (Nat×Bool)):Option Bool:=
 match g with
 | none=>some true
 | some (j,want)=>match Z1x all j with
  | none=>none
  | some d=>match ZD t d with
   | some (.bool b)=>some (b==want)
   | some (.tuple [])=>some false
   | _=>none
theorem Z1C {all:List Oper} {s:St} {run skip:St->Prop} (h:QH all g s run skip):
  ∃s',(∀x,ZD s'.t x=ZD s.t x)/\s'.h=s.h/\s'.n=s.n/\s'.d=s.d/\((Wj all s.t g=some true/\run s')\/(Wj all s.t g=some false/\skip s')):=by
 unfold QH at h
 split at h
 ·exact ⟨s,fun _=>rfl,rfl,rfl,rfl,.inl ⟨rfl,h⟩⟩
 ·rename_i j want
  split at h
  ·simp_all
  ·rename_i d hd
   split at h
   ·rename_i b hb
    have key:∀c,b=c->∀x,ZD (Ue s.t d (.bool c)) x=ZD s.t x:=fun c hc x=>by
     grind [X4,YT]
    cases b with
    | true=>
     refine ⟨{ s with t:=Ue s.t d (.bool true)},key true rfl,rfl,rfl,rfl, ?_⟩
     cases want with
     | true=>exact .inl ⟨by simp [Wj,hd,hb],h⟩
     | false=>exact .inr ⟨by simp [Wj,hd,hb],h⟩
    | false=>
     refine ⟨{ s with t:=Ue s.t d (.bool false)},key false rfl,rfl,rfl,rfl, ?_⟩
     cases want with
     | true=>exact .inr ⟨by simp [Wj,hd,hb],h⟩
     | false=>exact .inl ⟨by simp [Wj,hd,hb],h⟩
   all_goals grind [Wj]
theorem Q4 {all:List Oper} {o:Oper} {t:ZM} {c:Bool} (h:Wj all t o.guard=some c) {a:Act}
  (hrel:∀x∈Z4d all o.guard,∀v,ZD t x=some v->Zc E v (a.tmps.getD x undef)):Region.wanted o (yielded all.toArray a.tmps)=c:=by
 unfold Wj at h
 split at h
 ·simp_all [Region.wanted]
 ·rename_i j want hg
  split at h
  ·cases h
  ·rename_i d hd
   have hdst:(all.toArray[j]?).bind (·.dst)=some d:=by
    unfold Z1x at hd
    grind
   have hmem:d∈Z4d all o.guard:=by simp [Z4d,hg,hd]
   split at h
   ·rename_i b hb
    have hv:=hrel d hmem _ hb
    have hreal:a.tmps[d]? =some (.bool b):=by
     rw [Jw] at hv
     cases hq:a.tmps[d]? with
     | none=>rw [hq] at hv;cases hv
     | some r=>rw [hq] at hv;cases hv;rfl
    simp_all [yielded,Region.wanted]
   ·rename_i hb
    cases h
    have hv:=hrel d hmem _ hb
    have hy:yielded all.toArray a.tmps j=none:=by
     unfold yielded
     rw [hdst]
     rw [Jw] at hv
     cases hq:a.tmps[d]? with
     | none=>simp [hq]
     | some r=>
      rw [hq] at hv
      cases hv with
      | tuple vs rs hl=>simp [hq]
    simp [Region.wanted,hg,hy]
   ·cases h
def Z12 (P:Program) (it:It) (t:ZM) (h:Z6) (v:AV):Prop:=
 ∀(E:Env) (w:World) (a:Act),(worldless it.o.op=false->Emb E h w)->(∀x∈opT it.o.op,∀u,ZD t x=some u->Zc E u (a.tmps.getD x undef))->∃r,(execOp a.eval it.o).run P w=.ok (.value r) w/\Zc E v r
theorem Z92 {P:Program} {it:It} {t:ZM} {h:Z6} (hl:opQ P it.o.op (WU t (opT it.o.op)) h K):∃v,K v/\Z12 P it t h v:=by
 obtain ⟨v,hK,hv⟩:=Z7Q hl
 refine ⟨v,hK,fun E w a he hx=>hv E w a.tmps.size a he ⟨rfl,fun x u hu=> ?_⟩⟩
 have:=XG hu
 simp_all
theorem Z12.congr {P:Program} {it:It} {t:ZM} {h:Z6} {v:AV} (hs:Z12 P it t h v) (ht:∀x∈opT it.o.op,ZD t' x=ZD t x):Z12 P it t' h v:=
 fun E w a he hx=>hs E w a he fun x hm u hu=>hx x hm u (by rw [ht x hm];exact hu)
theorem Z12.worldless {P:Program} {it:It} {t:ZM} {h h':Z6} {v:AV} (hs:Z12 P it t h v) (hw:worldless it.o.op=true):Z12 P it t h' v:=
 fun E w a _ hx=>hs E w a (fun hq=>by rw [hw] at hq;cases hq) hx
theorem WW {all:List Oper} {t:ZM} (ht:∀x∈Z4d all g,ZD t' x=ZD t x):Wj all t' g=Wj all t g:=by
 unfold Wj
 cases g with
 | none=>rfl
 | some p=>
  obtain ⟨j,want⟩:=p
  simp only
  cases hd:Z1x all j with
  | none=>rfl
  | some d=>
   simp only
   rw [ht d (by simp [Z4d,hd])]
theorem YW {s:St} {dst:Option Tmp} {v:AV} {K:St->Prop} (h:Ub s dst v K):
  ∃s',K s'/\s'.h=s.h/\s'.n=s.n/\s'.d=s.d/\(∀x,dst=some x->ZD s'.t x=some v/\x<s.n)/\(∀x,dst≠some x->ZD s'.t x=ZD s.t x):=by
 unfold Ub at h
 split at h
 ·exact ⟨s,h,rfl,rfl,rfl,fun x hx=>by simp at hx,fun x _=>rfl⟩
 ·split at h
  ·refine ⟨_,h,rfl,rfl,rfl,fun x hx=> ?_,fun x hx=> ?_⟩
   all_goals simp_all [X4,YT]
  simp_all
theorem Ut {a:Act} {x:Nat} (h:x<a.tmps.size):(a.put (some x) r).tmps.getD x undef=r:=by
 simp [Act.put,h]
theorem Yo {a:Act} {dst:Option Tmp} {x:Nat} (h:dst≠some x):(a.put dst r).tmps.getD x undef=a.tmps.getD x undef:=by
 cases dst with
 | none=>rfl
 | some d=>
  have:d≠x:=fun e=>h (by rw [e])
  simp [Act.put,this]
theorem Xp {a:Act} {dst:Option Tmp}:(a.put dst r).tmps.size=a.tmps.size:=by cases dst<;>simp [Act.put]
theorem put_defers {a:Act} {dst:Option Tmp}:(a.put dst r).defers=a.defers:=by cases dst<;>rfl
structure Stat (P:Program) (all:List Oper) (its0 its:List It) (sp:Option SpD) (n0:Nat):Prop where
 sub:∀it∈its,it∈its0
 mem0:∀it∈its0,all[it.i]? =some it.o
 mem:∀it∈its,all[it.i]? =some it.o
 ex:∀i,i<all.length->∃it∈its0,it.i=i
 uniq0:∀a∈its0,∀b∈its0,a.i=b.i->a=b
 uniq:∀a∈its,∀b∈its,a.i=b.i->a=b
 dst:∀a∈its,∀b∈its,a≠b->∀x,a.o.dst=some x->b.o.dst≠some x
 rd:∀a∈its,∀b∈its,a≠b->∀x,a.o.dst=some x->x∈Wb all b.o->b.m.testBit a.i=true\/(a.m.testBit b.i=true/\(Xo a=true\/(Yy a=true/\∃e∈its,Xo e=true/\e.m.testBit b.i=true/\a.m.testBit e.i=true)))
 self:∀a∈its,Xo a=false->∀x,a.o.dst=some x->x∉Wb all a.o
 guard:∀a∈its,∀j w,a.o.guard=some (j,w)->a.m.testBit j=true/\∃d,Z1x all j=some d
 late:∀a∈its,ZL a=true->a.o.guard=none/\∃x,a.o.dst=some x
 lz:∀a∈its,∀T,a.o.op=.alloc T->∃cs,Z07 P T=some cs
 lrd:∀a∈its,ZL a=true->∀p∈its,∀x,p.o.dst=some x->x∈opT a.o.op->a.m.testBit p.i=true
 qlate:∀a∈its,(Yy a||bsI a)=true->∀p∈its,ZL p=true->a.m.testBit p.i=true->∃e∈its,Xo e=true/\e.m.testBit p.i=true/\a.m.testBit e.i=true
 edges:∀a∈its0,∀e∈a.o.after.toList,Region.binds .any e=true->e.on<a.i
 spc:∀a∈its0,a∈its\/(∃d,sp=some d/\Z6p d a=true)\/(Z1R a=true/\n0<=a.i)
 un:∀d,sp=some d->∀a∈its,ZbJ all d a=true
 jok:∀d,sp=some d->∀j∈d.js,jOk d its0 its j=true
 key:∀d,sp=some d->∃T,Ul P d.T=some T
 alone:∀d,sp=some d->QK d.js=true
theorem Zee {qm:Nat} {P:Program} {all:List Oper} {its:List It} {sp:Option SpD} {n0:Nat} (hsub:∀it∈its,it∈ZG qm 0 [] all) (hcov:∀it∈ZG qm 0 [] all,it∈its\/(isSp it.o.op=true/\sp≠none)\/(Z1R it=true/\n0<=it.i)) (h:ZhW P all its=true) (hs:ZhX P all (ZG qm 0 [] all) its sp=true):Stat P all (ZG qm 0 [] all) its sp n0:=by
 have hall:=(YL _ _).1 h
 have hget:∀it∈ZG qm 0 [] all,(ZG qm 0 [] all)[it.i]? =some it/\all[it.i]? =some it.o:=fun it hm=>by
  obtain ⟨j,hj⟩:=JX.1 hm
  have:=Xj hj
  have e:it.i=j:=by omega
  rw [e]
  exact ⟨hj,this.2⟩
 have huniq:∀a∈ZG qm 0 [] all,∀b∈ZG qm 0 [] all,a.i=b.i->a=b:=fun a ha b hb e=>by
  have h1:=(hget a ha).1
  have h2:=(hget b hb).1
  rw [e,h2] at h1
  simp_all
 have hpair:∀a∈its,∀b∈its,a≠b->Z5x a b=false/\(Z1A all a b=true->b.m.testBit a.i=true\/(a.m.testBit b.i=true/\(Xo a=true\/(Yy a=true/\∃e∈its,Xo e=true/\e.m.testBit b.i=true/\a.m.testBit e.i=true)))):=fun a ha b hb hne=>by
  have h1:=hall a ha
  simp only [J2] at h1
  have h2:=(YL _ _).1 h1.2 b hb
  unfold ZfU at h2
  have hi:Nat.beq a.i b.i=false:=Zu fun e=>hne (huniq a (hsub a ha) b (hsub b hb) e)
  rw [hi] at h2
  simp only [Bool.false_or,J2,Jy,JJ] at h2
  refine ⟨h2.1,fun hd=> ?_⟩
  rcases h2.2 with (h3|h3)|h3
  ·rw [hd] at h3;cases h3
  ·exact .inl h3
  ·refine .inr ⟨h3.1, ?_⟩
   rcases h3.2 with h4|h4
   ·exact .inl h4
   ·refine .inr ⟨h4.1, ?_⟩
    obtain ⟨e,he,h5⟩:=(Z0j _ _).1 h4.2
    grind
 have hone:∀a∈its,Z7X P all its a=true:=fun a ha=>by
  have h1:=hall a ha
  simp only [J2] at h1
  exact h1.1
 have hlate:∀a∈its,ZL a=true->a.o.guard.isNone=true/\a.o.dst.isSome=true/\(match a.o.op with|.alloc T=>(Z07 P T).isSome|_=>true)=true/\∀p∈its,(!Z1A all p a||a.m.testBit p.i)=true:=fun a ha hl=>by
  have h1:=hone a ha
  unfold Z7X at h1
  simp only [J2] at h1
  have h2:=h1.1.2
  rw [hl] at h2
  simp only [J2] at h2
  exact ⟨h2.1.1.1,h2.1.1.2,h2.1.2,(YL _ _).1 h2.2⟩
 have hedge:∀a,Z36 a=true->∀e∈a.o.after.toList,Region.binds .any e=true->e.on<a.i:=fun a h2 e he hb=>by
  unfold Z36 at h2
  have h3:=List.all_eq_true.1 h2 e he
  simp only [JJ,Jy] at h3
  rcases h3 with h3|h3
  ·rw [hb] at h3;cases h3
  ·exact Je h3
 have hsp:∀d,sp=some d->spB P all (ZG qm 0 [] all) its d=true:=fun d hd=>by
  subst hd;exact hs
 have hspc:∀d,sp=some d->(∀it∈ZG qm 0 [] all,isSp it.o.op=true->Z6p d it=true)/\∀it∈its,ZbJ all d it=true:=fun d hd=>by
  have h1:=hsp d hd
  unfold spB at h1
  simp only [J2] at h1
  refine ⟨fun it hit h3=> ?_,(YL _ _).1 h1.2⟩
  have h2:=(YL _ _).1 h1.1.2 it hit
  rw [h3] at h2
  exact h2
 have hspo:∀a∈ZG qm 0 [] all,a∈its\/(∃d,sp=some d/\Z6p d a=true)\/(Z1R a=true/\n0<=a.i):=fun a ha=>by
  rcases hcov a ha with h1|⟨h1,h2⟩|h1
  ·exact .inl h1
  ·cases sp with
   | none=>exact absurd rfl h2
   | some d=>exact .inr (.inl ⟨d,rfl,(hspc d rfl).1 a ha h1⟩)
  ·exact .inr (.inr h1)
 refine ⟨hsub,fun it hm=>(hget it hm).2,fun it hm=>(hget it (hsub it hm)).2,fun i hi=> ?_,huniq,fun a ha b hb=>huniq a (hsub a ha) b (hsub b hb),fun a ha b hb hne x hx hy=> ?_,fun a ha b hb hne x hx hr=> ?_,fun a ha he x hx hr=> ?_,fun a ha j w hg=> ?_,fun a ha hl=> ?_,fun a ha T hT=> ?_,fun a ha hl p hp x hx hr=> ?_,fun a ha hq p hp hl hbit=> ?_,fun a ha=> ?_,
  hspo,fun d hd=>(hspc d hd).2,fun d hd j hj=> ?_,fun d hd=> ?_,fun d hd=> ?_⟩
 ·have hl:i<(ZG qm 0 [] all).length:=by rw [XH];exact hi
  refine ⟨(ZG qm 0 [] all)[i],Jx _, ?_⟩
  have:=Xj (j:=i) (J8 hl)
  omega
 ·have:=(hpair a ha b hb hne).1
  simp [Z5x,hx,hy,Jj] at this
 ·simp_all [Z1A,Up]
 ·have h1:=hone a ha
  unfold Z7X at h1
  simp only [J2,JJ,Jy] at h1
  grind [Z1A,Up]
 ·have h1:=hone a ha
  unfold Z7X at h1
  simp only [J2] at h1
  have h2:=h1.1.1.2
  rw [hg] at h2
  simp only [J2] at h2
  exact ⟨h2.1,K1.1 h2.2⟩
 ·have h1:=hlate a ha hl
  exact ⟨by simpa using h1.1,K1.1 h1.2.1⟩
 ·have h1:=hlate a ha (by unfold ZL;rw [hT];rfl)
  have h2:=h1.2.2.1
  rw [hT] at h2
  exact K1.1 h2
 ·have h1:=(hlate a ha hl).2.2.2 p hp
  simp only [Z1A,hx,(Up x _).2 (show x∈Wb all a.o from JB _ hr),Bool.not_true,Bool.false_or] at h1
  exact h1
 ·have h1:=hone a ha
  unfold Z7X at h1
  simp only [J2] at h1
  have h2:=h1.2
  rw [hq] at h2
  simp only [Bool.not_true,Bool.false_or] at h2
  have h3:=(YL _ _).1 h2 p hp
  simp only [JJ,Jy] at h3
  rcases h3 with (h3|h3)|h3
  ·rw [h3] at hl;cases hl
  ·rw [hbit] at h3;cases h3
  ·obtain ⟨e,he,h5⟩:=(Z0j _ _).1 h3
   simp only [J2] at h5
   exact ⟨e,he,h5.1.1,h5.1.2,h5.2⟩
 ·rcases hspo a ha with h1|⟨d,_,h1⟩|⟨h1,_⟩
  ·have h2:=hone a h1
   unfold Z7X at h2
   simp only [J2] at h2
   exact hedge a h2.1.1.1.1
  ·unfold Z6p at h1
   simp only [J2] at h1
   exact hedge a h1.1.1
  ·unfold Z1R at h1
   simp only [J2] at h1
   exact hedge a h1.1.1.1
 ·have h1:=hsp d hd
  unfold spB at h1
  simp only [J2] at h1
  exact (Ur _ _).1 h1.1.1.2 j hj
 ·have h1:=hsp d hd
  unfold spB at h1
  simp only [J2] at h1
  exact K1.1 h1.1.1.1.1
 ·have h1:=hsp d hd
  unfold spB at h1
  simp only [J2] at h1
  exact h1.1.1.1.2
end Go.Tk
end
section
namespace Go.Tk
open IntKind (i64 u8 u32 u64 wrap)
def WX (P:Program) (it:It) (a:Act) (mkv:Nat->Value) (obj:Obj):Prop:=
 ∀w:World,(execOp a.eval it.o).run P w=.ok (.value (mkv w.heap.size)) { w with heap:=w.heap.push obj}
theorem Zai {a a':Act} {o:Operand} (h:∀x,o=.tmp x->a'.tmps.getD x undef=a.tmps.getD x undef):a'.eval o=a.eval o:=by
 cases o with
 | tmp x=>exact h x rfl
 | _=>rfl
theorem WI {x:Nat}:∀{l:List Operand},.tmp x∈l->x∈tmpsOf l
 | [],h=>by simp at h
 | .tmp y::r,h=>by
  rcases J7.1 h with h|h
  ·cases h;exact Jz ..
  ·exact Jh _ (WI h)
 | .const _::r,h=>by
  rcases J7.1 h with h|h
  ·cases h
  ·exact WI (l:=r) h
 | .global _::r,h=>by
  rcases J7.1 h with h|h
  ·cases h
  ·exact WI (l:=r) h
 | .func _::r,h=>by
  rcases J7.1 h with h|h
  ·cases h
  ·exact WI (l:=r) h
theorem Uu {it:It} (h:ZL it=true):(∃T,it.o.op=.alloc T)\/∃T len ps,it.o.op=.buildSlice T len ps/\bsI it=true/\len≠0:=by
 have h1:=h
 unfold ZL at h1
 cases ho:it.o.op<;>rw [ho] at h1<;>first|skip
 all_goals grind [bsI,ZfT,Jj]
theorem WX.congr {P:Program} {it:It} {a a':Act} {mkv:Nat->Value} {obj:Obj} (hl:ZL it=true) (h:WX P it a mkv obj) (ha:∀x∈opT it.o.op,a'.tmps.getD x undef=a.tmps.getD x undef):WX P it a' mkv obj:=by
 intro w
 rw [execOp_congr (ρ:=a'.eval) (ρ':=a.eval) it.o (fun cs b e=>by rcases Uu hl with ⟨T,h⟩|⟨T,l,ps,h,_⟩<;>rw [h] at e<;>cases e) (fun x hx=>Zai fun y hy=>ha y (by exact WI (by simp_all)))]
 exact h w
def ZhY (P:Program) (w0:World) (E:Env) (h:Z6) (w:World) (a:Act) (it:It) (b:Nat):Prop:=
 ∃mkv obj,WX P it a mkv obj/\(∀x,it.o.dst=some x->a.tmps.getD x undef=mkv b)/\w.heap[b]? =some obj/\
  ¬X5 E h b/\(∀ad c,E.imm ad c->ad.block≠b)/\w0.heap.size<=b/\b<w.heap.size
def Z3a (k:IntKind) (a:Act) (j:WH):Value×Value:=(.int k j.c,a.tmps.getD j.y undef)
def MpI (sp:Option SpD) (w0:World) (L:Nat->Prop) (bl:Nat->Nat) (rem:List It) (t:ZM) (E:Env) (h:Z6) (a:Act) (w:World):Prop:=
 ∀d,sp=some d->d.x<a.tmps.size/\ZD t d.x=none/\(L d.i->∃b ents clock,a.tmps.getD d.x undef=.map (some b)/\w.heap[b]? =some (.map ents clock)/\
  ¬X5 E h b/\(∀ad c,E.imm ad c->ad.block≠b)/\w0.heap.size<=b/\b<w.heap.size/\(∀q∈rem,L q.i->ZL q=true->bl q.i≠b)/\
  ∃done:List WH,(done.map (·.i)).Nodup/\(∀j,j∈done↔j∈d.js/\L j.i)/\ents.toList.map (fun e=>(e.key,e.val))=done.map (Z3a d.k a))
theorem MpI.step {sp:Option SpD} {w0:World} {L L':Nat->Prop} {bl bl':Nat->Nat} {rem rem':List It} {t t':ZM} {E E':Env} {h h':Z6} {a a':Act} {w w':World} (M:MpI sp w0 L bl rem t E h a w)
  (hL:∀d,sp=some d->(L' d.i->L d.i)/\∀j∈d.js,(L' j.i↔L j.i))
  (ht:∀d,sp=some d->ZD t d.x=none->ZD t' d.x=none)
  (hz:a'.tmps.size=a.tmps.size)
  (hx:∀d,sp=some d->a'.tmps.getD d.x undef=a.tmps.getD d.x undef)
  (hy:∀d,sp=some d->∀j∈d.js,L j.i->a'.tmps.getD j.y undef=a.tmps.getD j.y undef)
  (hw:∀b,b<w.heap.size->¬X5 E h b->w'.heap[b]? =w.heap[b]?)
  (ho:∀b,b<w.heap.size->¬X5 E h b->(∀q∈rem,L q.i->ZL q=true->bl q.i≠b)->¬X5 E' h' b)
  (hi:∀ad c,E'.imm ad c->E.imm ad c)
  (hs:w.heap.size<=w'.heap.size)
  (hb:∀q∈rem',L' q.i->ZL q=true->∀b,b<w.heap.size->(∀q∈rem,L q.i->ZL q=true->bl q.i≠b)->bl' q.i≠b):
  MpI sp w0 L' bl' rem' t' E' h' a' w':=by
 intro d hd
 obtain ⟨m1,m2,m3⟩:=M d hd
 grind [List.map_congr_left,Z3a]
structure Inv (P:Program) (all:List Oper) (its:List It) (sp:Option SpD) (E0:Env) (h0:Z6) (w0:World) (L:Nat->Prop) (bl:Nat->Nat) (rem:List It) (D:Nat) (pend:List (It×AV)) (s:St) (E:Env) (a:Act) (w:World):Prop where
 sub:∀it∈rem,it∈its
 nodup:rem.Pairwise fun a b=>a.i≠b.i
 dbit:∀it∈its,D.testBit it.i=true->it∉rem
 born:∀it∈its,ZL it=false->it∉rem->∀q∈its,it.m.testBit q.i=true->q∉rem
 eff:∀it∈its,Xo it=true->(L it.i↔it∉rem)
 late:∀it∈its,ZL it=true->it∉rem->L it.i
 quiet:∀it∈its,Yy it=true->L it.i->it∉rem
 fact:∀it∈its,Yy it=true->it∉rem->¬L it.i->∃v,(∀x,it.o.dst=some x->ZD s.t x=some v)/\
  ((Wj all s.t it.o.guard=some true/\(it,v)∈pend/\Z12 P it s.t s.h v)\/(Wj all s.t it.o.guard=some false/\v=.tuple []))
 size:a.tmps.size=s.n
 tmps:∀x v,ZD s.t x=some v->(∀it∈its,it.o.dst=some x->Yy it=true->it∉rem->L it.i)->Zc E v (a.tmps.getD x undef)
 defs:VT E s.d a.defers
 evo:Evo E0 h0 w0 E s.h w
 lt:∀it∈rem,ZL it=true->∀x,it.o.dst=some x->ZD s.t x=none
 adopt:∀it∈rem,L it.i->ZL it=true->ZhY P w0 E s.h w a it (bl it.i)
 inj:∀it∈rem,∀it'∈rem,L it.i->L it'.i->ZL it=true->ZL it'=true->bl it.i=bl it'.i->it=it'
 dst:∀it∈its,∀x,it.o.dst=some x->it∉rem->x<s.n
 dset:∀it∈its,it∉rem->D.testBit it.i=true
 ln:∀it∈its,ZL it=true->∀x,it.o.dst=some x->x<s.n
 mp:MpI sp w0 L bl rem s.t E s.h a w
theorem Z1S {o:It} (h:ZL o=true):Yy o=false:=by
 unfold Yy
 rcases Uu h with ⟨T,h⟩|⟨T,l,ps,h,_⟩<;>rw [h]<;>rfl
theorem Yl {o:It} (h:Xo o=true):Yy o=false:=by
 unfold Xo at h;cases hq:Yy o<;>simp_all
theorem YN {o:It} (h:Xo o=true):ZL o=false:=by
 unfold Xo at h;cases hq:ZL o<;>simp_all
theorem ZY {o:It} (h:Yy o=true):ZL o=false:=by
 grind [Z1S]
theorem kinds (o:It):Yy o=true\/Xo o=true\/ZL o=true:=by
 grind [Xo]
theorem XI {P:Program} {all:List Oper} {its0 its:List It} {sp:Option SpD} {n0:Nat} (hst:Stat P all its0 its sp n0) {d:SpD} (hd:sp=some d) {it:It} (hit:it∈its):
  it.i≠d.i/\it.m.testBit d.i=false/\it.o.dst≠some d.x/\d.x∉Wb all it.o/\∀j∈d.js,it.i≠j.i/\it.m.testBit j.i=false:=by
 have h:=hst.un d hd it hit
 unfold ZbJ at h
 simp only [J2,Jy] at h
 obtain ⟨⟨⟨⟨h1,h2⟩,h3⟩,h4⟩,h5⟩:=h
 refine ⟨fun e=>(by rw [e,Jj] at h1;cases h1),h2,fun e=> ?_,fun e=> ?_,fun j hj=> ?_⟩
 ·simp_all [Z4g]
 ·rw [(Up _ _).2 e] at h4;cases h4
 ·have h6:=(Ur _ _).1 h5 j hj
  grind [Jj]
theorem Z3b {P:Program} {all:List Oper} {its0 its:List It} {sp:Option SpD} {n0:Nat} (hst:Stat P all its0 its sp n0) {d:SpD} (hd:sp=some d) {j:WH} (hj:j∈d.js) {L:Nat->Prop}
  (hm:∀it∈its0,L it.i->∀p,it.m.testBit p=true->L p) (hL:L j.i):L d.i/\j.y≠d.x/\∀p∈its,p.o.dst=some j.y->L p.i:=by
 have h:=hst.jok d hd j hj
 unfold jOk at h
 simp only [J2] at h
 obtain ⟨⟨_,h1⟩,h2⟩:=h
 obtain ⟨it,hit,h3⟩:=(Z0j _ _).1 h2
 simp only [J2] at h3
 have hi:it.i=j.i:=J0 h3.1.1
 have hL':L it.i:=by rw [hi];exact hL
 refine ⟨hm it hit hL' _ h3.1.2,fun e=>(by rw [e,Jj] at h1;cases h1),fun p hp hdp=> ?_⟩
 have h4:=(YL _ _).1 h3.2 p hp
 unfold Z4g at h4
 rw [hdp] at h4
 simp only [Jj,Bool.not_true] at h4
 grind
section
variable {P:Program} {all:List Oper} {its0 its:List It} {sp:Option SpD} {n0:Nat} {E0:Env} {h0:Z6} {w0:World} {L:Nat->Prop} {bl:Nat->Nat} {rem rem':List It} {D:Nat} {pend pend':List (It×AV)} {s s2:St} {E:Env} {a:Act} {w:World}
theorem Z5y {D i j:Nat} (h:(Nat.lor D (2^i)).testBit j=true):D.testBit j=true\/j=i:=by
 have h':(D|||2^i).testBit j=true:=h
 grind
theorem Z3c {D i j:Nat} (h:D.testBit j=true):(Nat.lor D (2^i)).testBit j=true:=by
 simp_all
theorem Z13 {m D:Nat} (h:Nat.beq (Nat.land m D) m=true) {p:Nat} (hp:m.testBit p=true):D.testBit p=true:=by
 have e:m&&&D=m:=J0 h
 rw [<-e,Nat.testBit_and,J2] at hp
 exact hp.2
theorem Inv.birth (hst:Stat P all its0 its sp n0) (hm:∀it∈its,L it.i->∀p,it.m.testBit p=true->L p) (I:Inv P all its sp E0 h0 w0 L bl rem D pend s E a w) {it:It} (hit:it∈rem) (hq:Yy it=true)
  (hD:∀p,it.m.testBit p=true->D.testBit p=true) (hr:∀x,x∈rem'↔x∈rem/\x≠it) (hnd:rem'.Pairwise fun a b=>a.i≠b.i) {v:AV} (hp:∀x,x∈pend->x∈pend')
  (hv:(Wj all s.t it.o.guard=some true/\(it,v)∈pend'/\Z12 P it s.t s.h v)\/(Wj all s.t it.o.guard=some false/\v=.tuple []))
  (e1:s2.h=s.h) (e2:s2.n=s.n) (e3:s2.d=s.d) (e4:∀x,it.o.dst=some x->ZD s2.t x=some v/\x<s.n) (e5:∀x,it.o.dst≠some x->ZD s2.t x=ZD s.t x):
  Inv P all its sp E0 h0 w0 L bl rem' (Nat.lor D (2^it.i)) pend' s2 E a w:=by
 have hits:=I.sub it hit
 have hne:∀q∈its,q≠it->q.i≠it.i:=fun q hq' hn e=>hn (hst.uniq q hq' it hits e)
 have hnL:¬L it.i:=fun hL=>I.quiet it hits hq hL hit
 have hback:∀q∈its,q∉rem'->q=it\/q∉rem:=fun q _ hn=>by
  by_cases h:q=it
  ·exact .inl h
  ·exact .inr fun hr'=>hn ((hr q).2 ⟨hr',h⟩)
 have hfwd:∀q,q∉rem->q∉rem':=fun q hn h=>hn ((hr q).1 h).1
 have hqe:Xo it=false:=by
  cases he:Xo it with
  | false=>rfl
  | true=>rw [Yl he] at hq;cases hq
 refine ⟨fun q hq'=>I.sub q ((hr q).1 hq').1,hnd,fun q hq' hb=> ?_,fun q hq' hnl hn p hp' hb=> ?_,fun q hq' he=> ?_,fun q hq' hl hn=> ?_,fun q hq' hqq hL=>hfwd q (I.quiet q hq' hqq hL),fun q hq' hqq hn hL=> ?_,by rw [e2];exact I.size,fun x u hx hc=> ?_,by rw [e3];exact I.defs,
  by rw [e1];exact I.evo,fun q hq' hl x hx=> ?_,fun q hq' hL hT=> ?_,fun q hq' q' hq''=>I.inj q ((hr q).1 hq').1 q' ((hr q').1 hq'').1,fun q hq' x hx hn=> ?_,fun q hq' hn=> ?_,by rw [e2];exact I.ln, ?_⟩
 ·rcases Z5y hb with h|h
  ·exact hfwd q (I.dbit q hq' h)
  grind
 ·rcases hback q hq' hn with rfl|hn'
  ·exact hfwd p (I.dbit p hp' (hD _ hb))
  ·exact hfwd p (I.born q hq' hnl hn' p hp' hb)
 ·rw [I.eff q hq' he]
  have:q≠it:=fun h=>by simp_all
  simp_all
 ·have:q≠it:=fun h=>by simp_all [ZY]
  rcases hback q hq' hn with h|h
  ·simp_all
  ·exact I.late q hq' hl h
 ·by_cases hqi:q=it
  ·subst hqi
   have hself:∀x∈Wb all q.o,ZD s2.t x=ZD s.t x:=fun x hx=>e5 x fun hd=>hst.self q hits hqe x hd hx
   refine ⟨v,fun x hx=>(e4 x hx).1, ?_⟩
   rw [WW fun x hx=>hself x (JO _ hx),e1]
   rcases hv with ⟨h1,h2,h3⟩|h
   ·exact .inl ⟨h1,h2,h3.congr fun x hx=>hself x (JB _ hx)⟩
   simp_all
  ·have hn':q∉rem:=(hback q hq' hn).resolve_left hqi
   obtain ⟨u,h1,h2⟩:=I.fact q hq' hqq hn' hL
   have hsame:∀x∈Wb all q.o,ZD s2.t x=ZD s.t x:=fun x hx=>e5 x fun hd=>by
    rcases hst.rd it hits q hq' (fun e=>hqi e.symm) x hd hx with h|⟨h3,h4⟩
    ·exact I.born q hq' (ZY hqq) hn' it hits h hit
    ·rcases h4 with h4|⟨_,e,he,h5,h6,h7⟩
     ·rw [hqe] at h4;cases h4
     ·have:L e.i:=(I.eff e he h5).2 (I.dbit e he (hD _ h7))
      grind
   refine ⟨u,fun x hx=> ?_, ?_⟩
   ·rw [e5 x fun hd=>hst.dst it hits q hq' (fun e=>hqi e.symm) x hd hx]
    simp_all
   ·rw [WW fun x hx=>hsame x (JO _ hx),e1]
    rcases h2 with ⟨h2,h3,h4⟩|h
    ·exact .inl ⟨h2,hp _ h3,h4.congr fun x hx=>hsame x (JB _ hx)⟩
    simp_all
 ·by_cases hd:it.o.dst=some x
  ·simp_all
  ·rw [e5 x hd] at hx
   exact I.tmps x u hx fun q hq' hdq hqq hn=>hc q hq' hdq hqq (hfwd q hn)
 ·have hq1:=(hr q).1 hq'
  rw [e5 x fun hd=>hst.dst it hits q (I.sub q hq1.1) (fun e=>hq1.2 e.symm) x hd hx]
  exact I.lt q hq1.1 hl x hx
 ·rw [e1]
  exact I.adopt q ((hr q).1 hq').1 hL hT
 ·rw [e2]
  rcases hback q hq' hn with rfl|hn'
  ·simp_all
  ·exact I.dst q hq' x hx hn'
 ·rcases hback q hq' hn with rfl|hn'
  ·simp_all
  ·exact Z3c (I.dset q hq' hn')
 ·rw [e1]
  refine I.mp.step (fun d hd=>⟨id,fun j _=>.rfl⟩) (fun d hd h=>by rw [e5 _ (XI hst hd hits).2.2.1];exact h) rfl (fun _ _=>rfl) (fun _ _ _ _ _=>rfl) (fun _ _ _=>rfl) (fun _ _ h _=>h) (fun _ _ h=>h) (J1 _) (fun q hq' hL hl b _ hb=>hb q ((hr q).1 hq').1 hL hl)
theorem Z4i (hst:Stat P all its0 its sp n0) (hm:∀it∈its,L it.i->∀p,it.m.testBit p=true->L p) {K:List It->Nat->List (It×AV)->St->Prop}:
  ∀(todo kept:List It) (D:Nat) (pend:List (It×AV)) (s:St),Q2 P all todo kept D pend s K->Inv P all its sp E0 h0 w0 L bl (kept++todo) D pend s E a w->
   ∃rem D' pend' s',K rem D' pend' s'/\Inv P all its sp E0 h0 w0 L bl rem D' pend' s' E a w:=by
 intro todo
 induction todo with
 | nil=>intro kept D pend s h I;exact ⟨kept,D,pend,s,h,by simp_all⟩
 | cons it r ih=>
  intro kept D pend s h I
  unfold Q2 at h
  split at h
  ·rename_i hb
   rw [J2] at hb
   have hmem:it∈kept++it::r:=by simp
   have hnd:=I.nodup
   have hnd':(kept++r).Pairwise fun a b=>a.i≠b.i:=hnd.sublist (List.Sublist.append (List.Sublist.refl _) (List.sublist_cons_self _ _))
   have hr:∀x,x∈kept++r↔x∈kept++it::r/\x≠it:=fun x=>by
    grind
   obtain ⟨s',g1,g2,g3,g4,g5⟩:=Z1C h
   rcases g5 with ⟨gw,gr⟩|⟨gw,gs⟩
   ·obtain ⟨v,hv,hsem⟩:=Z92 gr
    obtain ⟨s2,k0,k1,k2,k3,k4,k5⟩:=YW hv
    refine ih kept _ _ s2 k0 (I.birth hst hm hmem hb.1 (fun p hp=>Z13 hb.2 hp) hr hnd' (v:=v) (fun x hx=>Jh _ hx) (.inl ⟨gw,Jz .., ?_⟩) (k1.trans g2) (k2.trans g3) (k3.trans g4)
     (fun x hx=>⟨(k4 x hx).1,g3▸(k4 x hx).2⟩) (fun x hx=>(k5 x hx).trans (g1 x)))
    rw [g2] at hsem
    exact hsem.congr fun x _=>(g1 x).symm
   ·obtain ⟨s2,k0,k1,k2,k3,k4,k5⟩:=YW gs
    exact ih kept _ _ s2 k0 (I.birth hst hm hmem hb.1 (fun p hp=>Z13 hb.2 hp) hr hnd' (v:=.tuple []) (fun x hx=>hx) (.inr ⟨gw,rfl⟩) (k1.trans g2) (k2.trans g3) (k3.trans g4)
     (fun x hx=>⟨(k4 x hx).1,g3▸(k4 x hx).2⟩) (fun x hx=>(k5 x hx).trans (g1 x)))
  grind
end
end Go.Tk
end
