/- V: part 2 of an engine (a symbolic evaluator, proved against the model) and of the walk by it. -/
import Derived.Test.YtdfjhgjefkkkbaaGreatV1
import Derived.ChangeKeysEq
import Derived.Laws.StructEq
import Derived.DeepKeys3
import Derived.Laws.BytesString
import Derived.Laws.IdiomStrings
import Derived.Laws.Externs
import Derived.Lib.Bytealg
import Derived.LoopNIn
import Derived.OrdersIn
set_option linter.unusedVariables false
set_option linter.unusedSimpArgs false
set_option maxRecDepth 100000
set_option maxHeartbeats 0
section
namespace Go.Tk
open IntKind (i64 u8 u32 u64 wrap)
variable {kk:IntKind} {es:Array MapEntry} {clock:Nat} {kt:TypeId} {ents:List MapEntry} {v:AV} {rs:List Value} {op:BinOp} {ox oy:Operand} {re rk:Value} {kf vf:Nat->AV} {ys:LI} {args:List AV} {ro:Option Nat} {E0:Env} {w0:World} {Q:Exit->Act->World->Prop}
def Z2D (k:IntKind) (n:Int) (some_:AV->Prop) (none_:Prop):List (AV×AV)->Prop
 | []=>none_
 | (.int k' c,v)::r=>Z6 (k=k') (Z7 (decide (n=c)) (some_ v) (Z2D k n some_ none_ r))
 | _::_=>False
def VC (P:Program) (T:TypeId):Option TypeId:=
 match P.underlying T with
 | some (.map kt et)=>match P.underlying kt with
  | some (.int _)=>some et
  | _=>none
 | _=>none
theorem QN {P:Program} {T et:TypeId} (h:VC P T=some et):∃kt k,P.underlying T=some (.map kt et)/\P.underlying kt=some (.int k):=by
 unfold VC at h
 split at h
 ·rename_i kt et' hT
  split at h
  ·rename_i k hk;cases h;exact ⟨kt,k,hT,hk⟩
  ·cases h
 ·cases h
theorem Zc.int_inv {E:Env} {k:IntKind} {c:Int} {r:Value} (h:Zc E (.int k c) r):r=.int k c:=by cases h;rfl
theorem Z1t {k:IntKind} {n:Int} {S:AV->Prop} {N:Prop}:∀(es:List (AV×AV)),Z2D k n S N es->
  (∃v,S v/\∀(E:Env) (ents:List MapEntry) (i:Nat),Zw E (es.map (·.1)) (ents.map (·.key))->Zw E (es.map (·.2)) (ents.map (·.val))->∃j r,Zc E v r/\Instr.findNow (.int kk) (.int k n) ents i=some (some (j,r)))\/
  (N/\∀(E:Env) (ents:List MapEntry) (i:Nat),Zw E (es.map (·.1)) (ents.map (·.key))->Zw E (es.map (·.2)) (ents.map (·.val))->Instr.findNow (.int kk) (.int k n) ents i=some none):=by
 intro es
 induction es with
 | nil=>
  intro hh
  refine .inr ⟨hh,fun E ents i hk _=> ?_⟩
  cases ents with
  | nil=>rfl
  | cons e r=>cases hk
 | cons p r ih=>
  obtain ⟨kv,v⟩:=p
  intro hh
  cases kv with
  | int k' c=>
   simp only [Z2D] at hh
   obtain ⟨rfl,hh⟩:=Zb hh
   by_cases hnc:n=c
   ·subst hnc
    simp only [decide_true,Z7] at hh
    refine .inl ⟨v,hh,fun E ents i hk hv=> ?_⟩
    cases ents with
    | nil=>cases hk
    | cons e es''=>
     cases hk with
     | cons _ _ _ _ hk1 hk2=>
      cases hv with
      | cons _ _ _ _ hv1 hv2=>
       have hke:e.key=.int k n:=hk1.int_inv
       exact ⟨i,e.val,hv1,by simp [Instr.findNow,hke,Instr.sameNow]⟩
   ·simp only [hnc,decide_false,Z7] at hh
    have hb:(n==c)=false:=by simpa using hnc
    rcases ih hh with ⟨v',h1,h2⟩|⟨h1,h2⟩
    ·refine .inl ⟨v',h1,fun E ents i hk hv=> ?_⟩
     cases ents with
     | nil=>cases hk
     | cons e es''=>
      cases hk with
      | cons _ _ _ _ hk1 hk2=>
       cases hv with
       | cons _ _ _ _ hv1 hv2=>
        have hke:e.key=.int k c:=hk1.int_inv
        obtain ⟨j,r',h3,h4⟩:=h2 E es'' (i+1) hk2 hv2
        exact ⟨j,r',h3,by simp [Instr.findNow,hke,Instr.sameNow,hb,h4]⟩
    ·refine .inr ⟨h1,fun E ents i hk hv=> ?_⟩
     cases ents with
     | nil=>cases hk
     | cons e es''=>
      cases hk with
      | cons _ _ _ _ hk1 hk2=>
       cases hv with
       | cons _ _ _ _ hv1 hv2=>
        have hke:e.key=.int k c:=hk1.int_inv
        simp [Instr.findNow,hke,Instr.sameNow,hb,h2 E es'' (i+1) hk2 hv2]
  | _=>exact hh.elim
theorem Y7 {P:Program} {w:World} {r:Nat} (hb:w.heap[r]? =some (.map es clock)):(getObj r).run P w=.ok (.map es clock) w:=by
 simp [getObj,Sem.run,hb]
theorem Y8 {P:Program} {k:IntKind} (hk:P.underlying kt=some (.int k)) (empty:Bool) (n:Nat) (v:Value) (w:World):(Instr.checkKey empty (n+1) kt v).run P w=.ok () w:=by
 simp [Instr.checkKey,run_underlying hk]
def okV (ok:Bool) (v:AV) (b:Bool):AV:=match ok with|true=>.tuple [v,.bool b]|false=>v
theorem XI {k kk:IntKind} {n:Int}:∀(ents:List MapEntry) (i:Nat),(∀e∈ents,∃c,e.key=.int k c)->
  (∃j e,e∈ents/\e.key=.int k n/\Instr.findNow (.int kk) (.int k n) ents i=some (some (j,e.val)))\/((∀e∈ents,e.key≠.int k n)/\Instr.findNow (.int kk) (.int k n) ents i=some none)
 | [],i,_=>.inr ⟨by simp,rfl⟩
 | e::r,i,h=>by
  obtain ⟨c,hc⟩:=h e (by simp)
  by_cases hn:n=c
  ·subst hn
   exact .inl ⟨i,e,by simp,hc,by simp [Instr.findNow,hc,Instr.sameNow]⟩
  ·have hb:(n==c)=false:=by simpa using hn
   have hs:Instr.findNow (.int kk) (.int k n) (e::r) i=Instr.findNow (.int kk) (.int k n) r (i+1):=by simp [Instr.findNow,hc,Instr.sameNow,hb]
   rw [hs]
   rcases XI r (i+1) (fun q hq=>h q (by simp [hq])) with ⟨j,q,h1,h2,h3⟩|⟨h1,h2⟩
   ·exact .inl ⟨j,q,by simp [h1],h2,h3⟩
   ·refine .inr ⟨fun q hq=> ?_,h2⟩
    rcases J9.1 hq with rfl|hq
    ·rw [hc]
     intro he
     injection he with _ he
     exact hn he.symm
    ·exact h1 q hq
theorem Ql {k k2:IntKind} {n:Int} {ents':List MapEntry} (hp:ents'.Perm ents) (hn:(ents'.map (·.key)).Nodup) (hi:∀e∈ents',∃c,e.key=.int k2 c) {o:Option Value}
  (h:∃q,Instr.findNow (.int kk) (.int k n) ents' 0=some q/\q.map (·.2)=o):∃q,Instr.findNow (.int kk) (.int k n) ents 0=some q/\q.map (·.2)=o:=by
 obtain ⟨q,h1,h2⟩:=h
 by_cases hkk:k=k2
 ·subst hkk
  have hi2:∀e∈ents,∃c,e.key=.int k c:=fun e he=>hi e (hp.mem_iff.2 he)
  rcases XI (kk:=kk) (n:=n) ents' 0 hi with ⟨j,e,g1,g2,g3⟩|⟨g1,g3⟩
  ·rcases XI (kk:=kk) (n:=n) ents 0 hi2 with ⟨j',e',f1,f2,f3⟩|⟨f1,f3⟩
   ·refine ⟨_,f3, ?_⟩
    rw [h1] at g3
    injection g3 with g3
    rw [<-h2,g3]
    have:e'=e:=by
     have he':=hp.mem_iff.2 f1
     have:=List.pairwise_map.1 hn
     by_cases hee:e'=e
     ·exact hee
     ·exfalso
      obtain ⟨i1,l1,rfl⟩:=List.getElem_of_mem he'
      obtain ⟨i2,l2,rfl⟩:=List.getElem_of_mem g1
      have hne:i1≠i2:=fun h=>hee (by subst h;rfl)
      have hpw:=List.pairwise_iff_getElem.1 this
      rcases J7 i1 i2 with hlt|hge
      ·exact hpw i1 i2 l1 l2 hlt (f2.trans g2.symm)
      ·exact hpw i2 i1 l2 l1 (by omega) (g2.trans f2.symm)
    rw [this];rfl
   ·exact absurd g2 (f1 e (hp.mem_iff.1 g1))
  ·rcases XI (kk:=kk) (n:=n) ents 0 hi2 with ⟨j',e',f1,f2,f3⟩|⟨f1,f3⟩
   ·exact absurd f2 (g1 e' (hp.mem_iff.2 f1))
   ·refine ⟨_,f3, ?_⟩
    rw [h1] at g3
    injection g3 with g3
    rw [<-h2,g3]
 ·cases ents' with
  | nil=>rw [List.nil_perm.1 hp];exact ⟨q,h1,h2⟩
  | cons e r=>
   obtain ⟨c,hc⟩:=hi e (by simp)
   simp [Instr.findNow,hc,Instr.sameNow,hkk] at h1
def Z3B (P:Program) (h:Z9) (T:TypeId) (m key:AV) (ok:Bool) (K:AV->Prop):Prop:=
 match VC P T with
 | some et=>match Ve P et with
  | some z=>match m,key with
   | .map none,.int _ _=>K (okV ok z false)
   | .map (some x),.int k n=>match h.get x with
    | some (.map es)=>Z2D k n (fun v=>K (okV ok v true)) (K (okV ok z false)) es
    | some (.pmap es)=>Z2D k n (fun v=>K (okV ok v true)) (K (okV ok z false)) es
    | _=>False
   | _,_=>False
  | none=>False
 | none=>False
theorem XC {E:Env} {ok b:Bool} {r:Value} (h:Zc E v r):Zc E (okV ok v b) (if ok then .tuple #[r,.bool b] else r):=by
 cases ok with
 | true=>
  have:=Zc.tuple [v,.bool b] [r,.bool b] (.cons _ _ _ _ h (.cons _ _ _ _ (.bool b) .nil)) (E:=E)
  simpa [okV] using this
 | false=>simpa [okV] using h
theorem Z5M {P:Program} {h:Z9} {T:TypeId} {m key:AV} {ok:Bool} {K:AV->Prop} (hl:Z3B P h T m key ok K):
  ∃v,K v/\∀(E:Env) (w:World) (rm rk:Value),Emb E h w->Zc E m rm->Zc E key rk->∃r,(Instr.lookup T rm rk ok).run P w=.ok r w/\Zc E v r:=by
 unfold Z3B at hl
 split at hl
 ·rename_i et het
  obtain ⟨kt,kk,hT,hkt⟩:=QN het
  split at hl
  ·rename_i z hz
   obtain ⟨zr,hz1,hz2⟩:=Wi hz
   split at hl
   ·rename_i k n
    refine ⟨_,hl,fun E w rm rk he hm hk=> ?_⟩
    cases hm
    cases hk
    refine ⟨_, ?_,XC (hz2 E)⟩
    simp only [Instr.lookup,J6,run_underlying hT,J4,Ji,Y8 hkt _ 9999,Instr.findKey,run_underlying hkt,Instr.findNow,hz1]
   ·rename_i x k n
    split at hl
    ·rename_i es hg
     rcases Z1t (kk:=kk) es hl with ⟨v,h1,h2⟩|⟨h1,h2⟩
     ·refine ⟨_,h1,fun E w rm rk he hm hk=> ?_⟩
      cases hm with
      | map _ b N hb=>
       cases hk
       have hown:=he.own _ _ hg
       cases hown with
       | map _ b' ents clock hbb hw hkk hvv=>
        rw [hbb] at hb
        cases hb
        obtain ⟨j,r,h3,h4⟩:=h2 E ents 0 hkk hvv
        refine ⟨_, ?_,XC h3⟩
        simp only [Instr.lookup,J6,run_underlying hT,J4,Ji,Y7 hw,Y8 hkt _ 9999,Instr.findKey,run_underlying hkt,h4]
     ·refine ⟨_,h1,fun E w rm rk he hm hk=> ?_⟩
      cases hm with
      | map _ b N hb=>
       cases hk
       have hown:=he.own _ _ hg
       cases hown with
       | map _ b' ents clock hbb hw hkk hvv=>
        rw [hbb] at hb
        cases hb
        refine ⟨_, ?_,XC (hz2 E)⟩
        simp only [Instr.lookup,J6,run_underlying hT,J4,Ji,Y7 hw,Y8 hkt _ 9999,Instr.findKey,run_underlying hkt,h2 E ents 0 hkk hvv,hz1]
    ·rename_i es hg
     rcases Z1t (kk:=kk) es hl with ⟨v,h1,h2⟩|⟨h1,h2⟩
     ·refine ⟨_,h1,fun E w rm rk he hm hk=> ?_⟩
      cases hm with
      | map _ b N hb=>
       cases hk
       have hown:=he.own _ _ hg
       cases hown with
       | pmap _ b' k2 ents ents' clock hbb hw hp hn hi hkk hvv=>
        rw [hbb] at hb
        cases hb
        obtain ⟨j,r,h3,h4⟩:=h2 E ents' 0 hkk hvv
        obtain ⟨q,h5,h6⟩:=Ql hp hn hi ⟨_,h4,rfl⟩
        cases q with
        | none=>cases h6
        | some jr=>
         obtain ⟨j',r'⟩:=jr
         have h6:some r'=some r:=h6
         cases h6
         refine ⟨_, ?_,XC h3⟩
         simp only [Instr.lookup,J6,run_underlying hT,J4,Ji,Y7 hw,Y8 hkt _ 9999,Instr.findKey,run_underlying hkt,h5]
     ·refine ⟨_,h1,fun E w rm rk he hm hk=> ?_⟩
      cases hm with
      | map _ b N hb=>
       cases hk
       have hown:=he.own _ _ hg
       cases hown with
       | pmap _ b' k2 ents ents' clock hbb hw hp hn hi hkk hvv=>
        rw [hbb] at hb
        cases hb
        obtain ⟨q,h5,h6⟩:=Ql hp hn hi ⟨_,h2 E ents' 0 hkk hvv,rfl⟩
        cases q with
        | some jr=>cases h6
        | none=>
         refine ⟨_, ?_,XC (hz2 E)⟩
         simp only [Instr.lookup,J6,run_underlying hT,J4,Ji,Y7 hw,Y8 hkt _ 9999,Instr.findKey,run_underlying hkt,h5,hz1]
    ·exact hl.elim
   ·exact hl.elim
  ·exact hl.elim
 ·exact hl.elim
theorem Wj {P:Program} {w:World} {r:Nat} (o:Obj) (hb:w.heap[r]? =some (.map es clock)):(setObj r o).run P w=.ok () { w with heap:=w.heap.setIfInBounds r o}:=by
 simp [setObj,Sem.run,hb]
def Z3C (P:Program) (h:Z9) (T:TypeId) (m key v:AV) (K:Z9->Prop):Prop:=
 match VC P T,m,key with
 | some _,.map (some x),.int k n=>match h.get x with
  | some (.map es)=>Z2D k n (fun _=>False) (K (h.set x (.map (es++[(.int k n,v)])))) es
  | _=>False
 | _,_,_=>False
theorem Zw.snoc {E:Env} {vs:List AV} {r:Value} (h:Zw E vs rs) (hv:Zc E v r):Zw E (vs++[v]) (rs++[r]):=by
 induction vs generalizing rs with
 | nil=>cases h;exact .cons _ _ _ _ hv .nil
 | cons u us ih=>cases h with|cons _ c _ cs h1 h2=>exact .cons _ _ _ _ h1 (ih h2)
theorem Z5N {P:Program} {h:Z9} {T:TypeId} {m key:AV} {K:Z9->Prop} (hl:Z3C P h T m key v K):
  ∃h',K h'/\∀(E:Env) (w:World) (rm rk rv:Value),Emb E h w->Zc E m rm->Zc E key rk->Zc E v rv->∃w',(Instr.mapUpdate T rm rk rv).run P w=.ok () w'/\Evo E h w E h' w':=by
 unfold Z3C at hl
 split at hl
 ·rename_i et x k n het
  obtain ⟨kt,kk,hT,hkt⟩:=QN het
  split at hl
  ·rename_i es hg
   rcases Z1t (kk:=kk) es hl with ⟨_,h1,_⟩|⟨h1,h2⟩
   ·exact h1.elim
   ·refine ⟨_,h1,fun E w rm rk rv he hm hk hv=> ?_⟩
    cases hm with
    | map _ b N hb=>
     cases hk
     have hown:=he.own _ _ hg
     cases hown with
     | map _ b' ents clock hbb hw hkk hvv=>
      rw [hbb] at hb
      cases hb
      have hlt:b<w.heap.size:=by
       rcases J7 b w.heap.size with hh|hh
       ·exact hh
       ·rw [Jj hh] at hw;cases hw
      refine ⟨{ w with heap:=w.heap.setIfInBounds b (.map (ents.toArray.push ⟨.int k n,rv,clock⟩) (clock+1))}, ?_, ?_⟩
      ·simp only [Instr.mapUpdate,J6,run_underlying hT,J4,Y7 hw,Y8 hkt _ 9999,Instr.findKey,run_underlying hkt,h2 E ents 0 hkk hvv,Ji,Wj _ hw]
      ·refine Xk he x _ _ b 0 hg hbb (fun i hi=> ?_) (by simp) rfl rfl ⟨rfl,J5 _⟩ ?_
       ·show (w.heap.setIfInBounds b _)[i]? =_
        rw [Jk,if_neg (fun e=>hi e.symm)]
       ·refine .map _ b (ents++[⟨.int k n,rv,clock⟩]) (clock+1) hbb ?_ ?_ ?_
        ·show (w.heap.setIfInBounds b _)[b]? =_
         simp [hlt]
        ·simp only [K1,K4,List.map_nil]
         exact hkk.snoc (.int _ _)
        ·simp only [K1,K4,List.map_nil]
         exact hvv.snoc hv
  ·exact hl.elim
 ·exact hl.elim
theorem Z5O {P:Program} {T:TypeId} {E:Env} {h:Z9} {w:World} (he:Emb E h w):
  ∃r w' E',(Instr.makeMap T none).run P w=.ok r w'/\Evo E h w E' (h.add (.map [])) w'/\Zc E' (.map (some h.next)) r:=by
 refine ⟨.map (some w.heap.size),{ w with heap:=w.heap.push (.map #[] 0)},E.ext h.next w.heap.size 0,by simp [Instr.makeMap],W8 he (.map #[] 0) 0 (.map []) (.map [] w.heap.size [] 0 (Env.ext_same ..) (by simp) .nil .nil),.map _ _ 0 (Env.ext_same ..)⟩
def Z3D (P:Program) (T:TypeId) (x:AV) (K:AV->Prop):Prop:=
 match P.underlying T with
 | some (.array n _)=>match Nat.blt 0 n,x with
  | true,.nslice p _ len _=>Z6 (n<=len) (K (.ptr (some p)))
  | true,.vints k xs len=>Z6 (n<=len) (K (.pview [.arr k n (xs.take n)] 0))
  | _,_=>False
 | _=>False
theorem Z5P {P:Program} {T:TypeId} {x:AV} {K:AV->Prop} (hl:Z3D P T x K):
  ∃v,K v/\∀(E:Env) (w:World) (rx:Value),Zc E x rx->∃r,(Instr.arrayAt T rx).run P w=.ok r w/\Zc E v r:=by
 unfold Z3D at hl
 split at hl
 ·rename_i n e hT
  split at hl
  ·rename_i p esz len lo hn
   have hn0:0<n:=Jh hn
   obtain ⟨hle,hk⟩:=Zb hl
   refine ⟨_,hk,fun E w rx hx=> ?_⟩
   cases hx with
   | nslice0 _ _ _ _ a h1 h2=>omega
   | nslice _ _ _ _ b N cap hb h1 h2 h3=>
    refine ⟨.pointer (some ⟨b,p.tot,none⟩), ?_,.ptr p b N hb⟩
    simp only [Instr.arrayAt,J6,run_underlying hT,J4]
    rw [if_neg (by omega)]
    rfl
  ·rename_i k xs len hn
   have hn0:0<n:=Jh hn
   obtain ⟨hle,hk⟩:=Zb hl
   refine ⟨_,hk,fun E w rx hx=> ?_⟩
   cases hx with
   | vintsNil _ _ _ h1 h2=>omega
   | vints _ _ _ a cap h1 h2 hi=>
    refine ⟨.pointer (some a), ?_, ?_⟩
    ·simp only [Instr.arrayAt,J6,run_underlying hT,J4]
     rw [if_neg (by omega)]
     rfl
    ·have:=Zc.pview [.arr k n (xs.take n)] 0 a (intCells k n (xs.take n)++[]) (.arr k n (xs.take n) [] [] .nil) (fun j c hj=>by
      rw [JU] at hj
      rcases J7 j n with hh|hh
      ·rw [Zj hh] at hj
       cases hj
       have e1:(xs.take n).getD j 0=xs.getD j 0:=by simp [J2,hh]
       rw [e1]
       exact hi j (by omega)
      ·rw [Ya hh] at hj;cases hj) (E:=E)
     simpa [YR] using this
  ·exact hl.elim
 ·exact hl.elim
def Zbi (P:Program) (ev:TypeId->AV->AV->(Bool->Prop)->Prop) (cs cs':List AV):List Field->(Bool->Prop)->Prop
 | [],K=>K true
 | f::fs,K=>match decide (f.name= "_") with
  | true=>False
  | false=>Qk P f.type cs f.offset fun a=>Qk P f.type cs' f.offset fun b=>ev f.type a b fun r=>match fs with
   | []=>K r
   | _::_=>Zbi P ev cs cs' fs fun r'=>K (r&&r')
def Zbj (P:Program) (ev:TypeId->AV->AV->(Bool->Prop)->Prop) (e:TypeId) (sz:Nat) (cs cs':List AV):List Nat->(Bool->Prop)->Prop
 | [],K=>K true
 | i::is,K=>Qk P e cs (i*sz) fun a=>Qk P e cs' (i*sz) fun b=>ev e a b fun r=>match is with
  | []=>K r
  | _::_=>Zbj P ev e sz cs cs' is fun r'=>K (r&&r')
def Z3E (P:Program):Nat->TypeId->AV->AV->(Bool->Prop)->Prop
 | 0,_,_,_,_=>False
 | d+1,T,x,y,K=>match P.underlying T with
  | some (.int _)=>match x,y with
   | .int k a,.int k' b=>match decide (k=k') with|true=>K (a==b)|false=>False
   | _,_=>False
  | some .bool=>match x,y with
   | .bool a,.bool b=>K (a==b)
   | _,_=>False
  | some .string=>match x,y with
   | .str a,.str b=>K (a.toList==b.toList)
   | _,_=>False
  | some (.struct fs)=>match x,y with
   | .agg cs,.agg cs'=>match P.stoodInHeld T with
    | false=>Zbi P (Z3E P d) cs cs' fs.toList K
    | true=>False
   | _,_=>False
  | some (.array n e)=>match x,y with
   | .agg [.arr k m xs],.agg [.arr k' m' ys]=>match P.underlying e,ZV P e,decide (k=k')&&Nat.beq m n&&Nat.beq m' n with
    | some (.int _),some 1,true=>Z6 (xs.length=n/\ys.length=n) (K (xs==ys))
    | _,_,_=>False
   | .agg cs,.agg cs'=>match ZV P e with
    | some sz=>Zbj P (Z3E P d) e sz cs cs' (List.range n) K
    | none=>False
   | _,_=>False
  | _=>False
theorem Uy:∀(xs ys:LI),xs.length=ys.length->((List.range xs.length).all fun i=>xs.getD i 0==ys.getD i 0)=(xs==ys)
 | [],[],_=>rfl
 | x::xs,y::ys,h=>by
  have ih:=Uy xs ys (by simpa using h)
  rw [Jw,List.range_succ_eq_map,List.all_cons,List.all_map]
  simp only [List.getD_cons_zero,Function.comp_def,List.getD_cons_succ,ih]
  simp [List.cons_beq_cons]
 | [],_::_,h=>by simp at h
 | _::_,[],h=>by simp at h
theorem WU {P:Program} {w:World} {e:TypeId} {k0 k:IntKind} {n:Nat} {xs ys:LI} (he:P.underlying e=some (.int k0)) (D:Nat):∀(is:List Nat),(∀i∈is,i<n)->
  (Op.eqItems (D+1) e 1 (intCells k n xs).toArray (intCells k n ys).toArray is).run P w=.ok (is.all fun i=>xs.getD i 0==ys.getD i 0) w
 | [],_=>by simp [Op.eqItems]
 | i::is,h=>by
  have hi:i<n:=h i (by simp)
  have px:∀zs:LI,(part e (intCells k n zs).toArray (i*1)).run P w=.ok (.int k (zs.getD i 0)) w:=fun zs=>by
   simp [part,isAgg,run_underlying he,Zj hi]
  simp only [Op.eqItems,J6,px,J4,run_equalIn_int w D e k k0 _ _ he,List.all_cons]
  cases hb:(xs.getD i 0==ys.getD i 0)
  ·simp
  ·simp only [Kl,Bool.false_eq_true,if_false,JW]
   exact WU he D is (fun j hj=>h j (by simp [hj]))
theorem Z73 {P:Program} {ev:TypeId->AV->AV->(Bool->Prop)->Prop} {D:Nat}
  (hev:∀T x y K,ev T x y K->∃b,K b/\∀(E:Env) (w:World) (rx ry:Value),Zc E x rx->Zc E y ry->(Op.equalIn D T rx ry).run P w=.ok b w) {cs cs':List AV}:
  ∀(fs:List Field) (K:Bool->Prop),Zbi P ev cs cs' fs K->∃b,K b/\∀(E:Env) (w:World) (vs vs':List Value),Zn E cs vs->Zn E cs' vs'->(Op.eqFields D vs.toArray vs'.toArray fs).run P w=.ok b w
 | [],K,h=>⟨true,h,fun E w vs vs' _ _=>by simp [Op.eqFields]⟩
 | f::fs,K,h=>by
  unfold Zbi at h
  split at h
  ·exact h.elim
  ·rename_i hn
   have hn:f.name≠ "_" :=of_decide_eq_false hn
   obtain ⟨a,h,ha⟩:=Wh h
   obtain ⟨b,h,hb⟩:=Wh h
   obtain ⟨r,h,hr⟩:=hev _ _ _ _ h
   cases fs with
   | nil=>
    refine ⟨r,h,fun E w vs vs' hc hc'=> ?_⟩
    obtain ⟨ra,a1,a2⟩:=ha E w vs hc
    obtain ⟨rb,b1,b2⟩:=hb E w vs' hc'
    simp only [Op.eqFields,hn,ne_eq,not_false_eq_true,if_true,J6,a1,b1,J4,hr E w ra rb a2 b2]
    cases r<;>simp
   | cons g gs=>
    obtain ⟨r',h,hr'⟩:=Z73 hev (g::gs) _ h
    refine ⟨r&&r',h,fun E w vs vs' hc hc'=> ?_⟩
    obtain ⟨ra,a1,a2⟩:=ha E w vs hc
    obtain ⟨rb,b1,b2⟩:=hb E w vs' hc'
    rw [Op.eqFields]
    simp only [hn,ne_eq,not_false_eq_true,if_true,J6,a1,b1,J4,hr E w ra rb a2 b2]
    cases r
    ·simp
    ·simpa using hr' E w vs vs' hc hc'
theorem Z74 {P:Program} {ev:TypeId->AV->AV->(Bool->Prop)->Prop} {D:Nat}
  (hev:∀T x y K,ev T x y K->∃b,K b/\∀(E:Env) (w:World) (rx ry:Value),Zc E x rx->Zc E y ry->(Op.equalIn D T rx ry).run P w=.ok b w) {e:TypeId} {sz:Nat} {cs cs':List AV}:
  ∀(is:List Nat) (K:Bool->Prop),Zbj P ev e sz cs cs' is K->∃b,K b/\∀(E:Env) (w:World) (vs vs':List Value),Zn E cs vs->Zn E cs' vs'->(Op.eqItems D e sz vs.toArray vs'.toArray is).run P w=.ok b w
 | [],K,h=>⟨true,h,fun E w vs vs' _ _=>by simp [Op.eqItems]⟩
 | i::is,K,h=>by
  unfold Zbj at h
  obtain ⟨a,h,ha⟩:=Wh h
  obtain ⟨b,h,hb⟩:=Wh h
  obtain ⟨r,h,hr⟩:=hev _ _ _ _ h
  cases is with
  | nil=>
   refine ⟨r,h,fun E w vs vs' hc hc'=> ?_⟩
   obtain ⟨ra,a1,a2⟩:=ha E w vs hc
   obtain ⟨rb,b1,b2⟩:=hb E w vs' hc'
   simp only [Op.eqItems,J6,a1,b1,J4,hr E w ra rb a2 b2]
   cases r<;>simp
  | cons g gs=>
   obtain ⟨r',h,hr'⟩:=Z74 hev (g::gs) _ h
   refine ⟨r&&r',h,fun E w vs vs' hc hc'=> ?_⟩
   obtain ⟨ra,a1,a2⟩:=ha E w vs hc
   obtain ⟨rb,b1,b2⟩:=hb E w vs' hc'
   rw [Op.eqItems]
   simp only [J6,a1,b1,J4,hr E w ra rb a2 b2]
   cases r
   ·simp
   ·simpa using hr' E w vs vs' hc hc'
theorem U7 {P:Program}:∀(d:Nat) (N:Nat) (T:TypeId) (x y:AV) (K:Bool->Prop),Z3E P d T x y K->∃b,K b/\∀(E:Env) (w:World) (rx ry:Value),Zc E x rx->Zc E y ry->(Op.equalIn (d+1+N) T rx ry).run P w=.ok b w
 | 0,N,T,x,y,K,h=>h.elim
 | d+1,N,T,x,y,K,h=>by
  have e0:d+1+1+N=(d+1+N)+1:=by omega
  unfold Z3E at h
  rw [e0]
  split at h
  ·rename_i k0 hu
   split at h
   ·split at h
    ·rename_i hk
     have hk:=of_decide_eq_true hk
     subst hk
     exact ⟨_,h,fun E w rx ry hx hy=>by cases hx;cases hy;exact run_equalIn_int w _ T _ k0 _ _ hu⟩
    ·exact h.elim
   ·exact h.elim
  ·rename_i hu
   split at h
   ·exact ⟨_,h,fun E w rx ry hx hy=>by cases hx;cases hy;exact run_equalIn_bool w _ T _ _ hu⟩
   ·exact h.elim
  ·rename_i hu
   split at h
   ·exact ⟨_,h,fun E w rx ry hx hy=>by cases hx;cases hy;exact run_equalIn_string w _ T _ _ hu⟩
   ·exact h.elim
  ·rename_i fs hu
   split at h
   ·split at h
    ·rename_i hst
     obtain ⟨b,hK,hb⟩:=Z73 (D:=d+1+N) (fun T' x' y' K' h'=>U7 d N T' x' y' K' h') _ _ h
     refine ⟨b,hK,fun E w rx ry hx hy=> ?_⟩
     have hfo:P.fieldsOf T=fs:=by simp [Program.fieldsOf,hu]
     cases hx with
     | agg cs vs hc=>cases hy with
      | agg cs' vs' hc'=>
       rw [run_equalIn_struct w _ T _ _ (by rw [hfo];exact hu) hst,hfo]
       exact hb E w vs vs' hc hc'
    ·exact h.elim
   ·exact h.elim
  ·rename_i n e hu
   split at h
   ·rename_i k m xs k' m' ys
    split at h
    ·rename_i k0 he hs hb
     simp only [J3] at hb
     obtain ⟨⟨q1,q2⟩,q3⟩:=hb
     have q1:=of_decide_eq_true q1
     have q2:=J0 q2
     have q3:=J0 q3
     subst q1 q2 q3
     obtain ⟨⟨hx,hy⟩,hK⟩:=Zb h
     refine ⟨_,hK,fun E w rx ry hxr hyr=> ?_⟩
     cases hxr with
     | agg cs vs hc=>cases hyr with
      | agg cs' vs' hc'=>
       obtain ⟨ws,rfl,hw⟩:=Zn.cons_arr hc
       cases hw
       obtain ⟨ws',rfl,hw'⟩:=Zn.cons_arr hc'
       cases hw'
       unfold ZV at hs
       cases hi:P.info? e with
       | none=>rw [hi] at hs;cases hs
       | some i=>
        rw [hi] at hs
        have hs1:i.size=1:=by simpa using hs
        have hcells:P.cellsOf e=1:=by simp [Program.cellsOf,hi,hs1]
        rw [run_equalIn_array w _ _ _ hu hi,hcells]
        simp only [JU]
        rw [show d+1+N=(d+N)+1 by omega]
        rw [WU he _ _ (fun j hj=>Jq.1 hj)]
        rw [<-Uy xs ys (by omega),hx]
    ·exact h.elim
   ·split at h
    ·rename_i sz hs
     obtain ⟨b,hK,hb⟩:=Z74 (D:=d+1+N) (fun T' x' y' K' h'=>U7 d N T' x' y' K' h') _ _ h
     refine ⟨b,hK,fun E w rx ry hx hy=> ?_⟩
     cases hx with
     | agg cs vs hc=>cases hy with
      | agg cs' vs' hc'=>
       unfold ZV at hs
       cases hi:P.info? e with
       | none=>rw [hi] at hs;cases hs
       | some i=>
        rw [hi] at hs
        have hs1:i.size=sz:=by simpa using hs
        have hcells:P.cellsOf e=sz:=by simp [Program.cellsOf,hi,hs1]
        rw [run_equalIn_array w _ _ _ hu hi,hcells]
        exact hb E w vs vs' hc hc'
    ·exact h.elim
   ·exact h.elim
  ·exact h.elim
def Z5Q (P:Program) (op:BinOp) (T:TypeId) (x y:AV) (K:AV->Prop):Prop:=
 match P.eqGuardType P.depth T with
 | true=>False
 | false=>match op with
  | .eql=>Z3E P 20 T x y fun b=>K (.bool b)
  | .neq=>Z3E P 20 T x y fun b=>K (.bool (!b))
  | _=>False
theorem Z81 {P:Program} {T:TypeId} {cs cs':List AV} {K:AV->Prop} (h:Z5Q P op T (.agg cs) (.agg cs') K):
  ∃v,K v/\∀(E:Env) (w:World) (rx ry:Value),Zc E (.agg cs) rx->Zc E (.agg cs') ry->∃r,(do eqGuard op T ox oy rx ry;binOp op T rx ry).run P w=.ok r w/\Zc E v r:=by
 unfold Z5Q at h
 split at h
 ·exact h.elim
 ·rename_i hg
  split at h
  ·obtain ⟨b,hK,hb⟩:=U7 20 9979 _ _ _ _ h
   refine ⟨_,hK,fun E w rx ry hx hy=>⟨.bool b, ?_,.bool b⟩⟩
   have h1:=hb E w rx ry hx hy
   cases hx with
   | agg cs vs hc=>cases hy with
    | agg cs' vs' hc'=>
     rw [J6,run_eqGuard_agg w _ T ox oy _ _ hg,J4,run_eql_struct w,h1]
     rfl
  ·obtain ⟨b,hK,hb⟩:=U7 20 9979 _ _ _ _ h
   refine ⟨_,hK,fun E w rx ry hx hy=>⟨.bool (!b), ?_,.bool _⟩⟩
   have h1:=hb E w rx ry hx hy
   cases hx with
   | agg cs vs hc=>cases hy with
    | agg cs' vs' hc'=>
     rw [J6,run_eqGuard_agg w _ T ox oy _ _ hg,J4,run_neq_struct w,h1]
     rfl
  ·exact h.elim
def Zbk (P:Program) (ev:TypeId->AV->Prop->Prop) (cs:List AV):List Field->Prop->Prop
 | [],K=>K
 | f::fs,K=>match decide (f.name= "_") with
  | true=>False
  | false=>Qk P f.type cs f.offset fun a=>ev f.type a (Zbk P ev cs fs K)
def ckK (P:Program):Nat->TypeId->AV->Prop->Prop
 | 0,_,_,_=>False
 | d+1,T,x,K=>match P.underlying T with
  | some (.int _)=>K
  | some .bool=>K
  | some (.struct fs)=>match x with
   | .agg cs=>Zbk P (ckK P d) cs fs.toList K
   | _=>False
  | some (.array n e)=>match x with
   | .agg [.arr _ m _]=>match P.underlying e,ZV P e,Nat.beq m n with
    | some (.int _),some 1,true=>K
    | _,_,_=>False
   | _=>False
  | _=>False
theorem Z2E {P:Program} {ev:TypeId->AV->Prop->Prop} {D:Nat} {cs:List AV}
  (hev:∀T x K,ev T x K->K/\∀(E:Env) (w:World) (rx:Value) (em:Bool),Zc E x rx->(Instr.checkKey em D T rx).run P w=.ok () w):
  ∀(fs:List Field) (K:Prop),Zbk P ev cs fs K->K/\∀f∈fs,f.name≠ "_" /\∀(E:Env) (w:World) (vs:List Value),Zn E cs vs->∃r,(part f.type vs.toArray f.offset).run P w=.ok r w/\∀em,(Instr.checkKey em D f.type r).run P w=.ok () w
 | [],K,h=>⟨h,fun f hf=>by simp at hf⟩
 | f::fs,K,h=>by
  unfold Zbk at h
  split at h
  ·exact h.elim
  ·rename_i hn
   have hn:f.name≠ "_" :=of_decide_eq_false hn
   obtain ⟨a,h,ha⟩:=Wh h
   obtain ⟨h,hc⟩:=hev _ _ _ h
   obtain ⟨hK,hr⟩:=Z2E hev fs K h
   refine ⟨hK,fun g hg=> ?_⟩
   rcases J9.1 hg with rfl|hg
   ·refine ⟨hn,fun E w vs hcr=> ?_⟩
    obtain ⟨r,h1,h2⟩:=ha E w vs hcr
    exact ⟨r,h1,fun em=>hc E w r em h2⟩
   ·exact hr g hg
theorem QO {P:Program}:∀(d N:Nat) (T:TypeId) (x:AV) (K:Prop),ckK P d T x K->K/\∀(E:Env) (w:World) (rx:Value) (em:Bool),Zc E x rx->(Instr.checkKey em (d+1+N) T rx).run P w=.ok () w
 | 0,N,T,x,K,h=>h.elim
 | d+1,N,T,x,K,h=>by
  unfold ckK at h
  rw [show d+1+1+N=(d+1+N)+1 by omega]
  split at h
  ·rename_i k hu
   exact ⟨h,fun E w rx em hx=>by simp [Instr.checkKey,run_underlying hu]⟩
  ·rename_i hu
   exact ⟨h,fun E w rx em hx=>by simp [Instr.checkKey,run_underlying hu]⟩
  ·rename_i fs hu
   split at h
   ·rename_i cs
    obtain ⟨hK,each⟩:=Z2E (D:=d+1+N) (fun T' x' K' h'=>QO d N T' x' K' h') _ _ h
    refine ⟨hK,fun E w rx em hx=> ?_⟩
    cases hx with
    | agg _ vs hc=>
     rw [Instr.checkKey]
     simp only [J6,run_underlying hu,J4]
     rw [<-Array.forIn_toList]
     have each:=fun f hf=>(each f hf).imp id fun h=>h E w vs hc
     generalize fs.toList=L at each
     clear h
     induction L with
     | nil=>simp
     | cons f L ih=>
      obtain ⟨hn,r,p1,p2⟩:=each f (by simp)
      simp only [List.forIn_cons,J6,hn,ne_eq,not_false_eq_true,if_true,J4,p1,p2,Ji]
      exact ih (fun y hy=>each y (by simp [hy]))
   ·exact h.elim
  ·rename_i n e hu
   split at h
   ·rename_i k m xs
    split at h
    ·rename_i k0 he hs hb
     have hb:=J0 hb
     subst hb
     refine ⟨h,fun E w rx em hx=> ?_⟩
     cases hx with
     | agg _ vs hc=>
      obtain ⟨ws,rfl,hw⟩:=Zn.cons_arr hc
      cases hw
      rw [Instr.checkKey]
      simp only [J6,run_underlying hu,J4]
      simp only [Std.Legacy.Range.forIn_eq_forIn_range',Std.Legacy.Range.size,Nat.sub_zero,Nat.add_one_sub_one,Nat.div_one]
      have each:∀j∈List.range' 0 m,j<m:=fun j hj=>by simpa using hj
      generalize List.range' 0 m=is at each
      induction is with
      | nil=>simp
      | cons j is ih=>
       have hj:=each j (by simp)
       have px:(part e (intCells k m xs++[]).toArray (j*1)).run P w=.ok (.int k (xs.getD j 0)) w:=by
        simp [part,isAgg,run_underlying he,Zj hj]
       have p2:(Instr.checkKey em (d+1+N) e (.int k (xs.getD j 0))).run P w=.ok () w:=by
        rw [show d+1+N=(d+N)+1 by omega]
        simp [Instr.checkKey,run_underlying he]
       simp only [List.forIn_cons,J6,run_sizeOf hs,J4,px,p2,Ji]
       exact ih (fun y hy=>each y (by simp [hy]))
    ·exact h.elim
   ·exact h.elim
  ·exact h.elim
def Z4D (P:Program) (kt:TypeId) (key:AV) (some_:Nat->AV->Prop) (none_:Prop):Nat->List (AV×AV)->Prop
 | _,[]=>none_
 | j,(kv,v)::r=>Z3E P 20 kt key kv fun b=>Z7 b (some_ j v) (Z4D P kt key some_ none_ (j+1) r)
def Z1u (P:Program) (kt:TypeId):Bool:=match P.underlying kt with
 | some (.struct _)=>true
 | some (.array _ _)=>true
 | some .bool=>true
 | _=>false
theorem Z3F {P:Program} (hk:Z1u P kt=true) {kd:TypeDesc} (hu:P.underlying kt=some kd) {key kv:AV} {K:Bool->Prop} (h:Z3E P 20 kt key kv K) {b:Bool} {E:Env} (hb:∀w,(Op.equalIn 10000 kt rk re).run P w=.ok b w) (w0:World):Instr.sameNow kd rk re=none\/Instr.sameNow kd rk re=some b:=by
 unfold Z1u at hk
 rw [hu] at hk
 cases kd<;>simp at hk
 ·have:=hb w0
  cases rk<;>cases re<;>simp [Instr.sameNow]
  rw [show (10000:Nat)=9999+1 from rfl,run_equalIn_bool w0 _ kt _ _ hu] at this
  cases this
  rfl
 ·exact .inl (by simp [Instr.sameNow])
 ·exact .inl (by simp [Instr.sameNow])
theorem Z4E {P:Program} (hk:Z1u P kt=true) {kd:TypeDesc} (hu:P.underlying kt=some kd) {key:AV} {S:Nat->AV->Prop} {N:Prop}:∀(es:List (AV×AV)) (j0:Nat),Z4D P kt key S N j0 es->
  (∃j v,S (j0+j) v/\j<es.length/\∀(E:Env) (w:World) (ents:List MapEntry) (i:Nat) (rk:Value),Zc E key rk->Zw E (es.map (·.1)) (ents.map (·.key))->Zw E (es.map (·.2)) (ents.map (·.val))->
   ∃r,Zc E v r/\(Instr.findAsking kt rk ents i).run P w=.ok (some (i+j,r)) w/\(Instr.findNow kd rk ents i=none\/Instr.findNow kd rk ents i=some (some (i+j,r))))\/
  (N/\∀(E:Env) (w:World) (ents:List MapEntry) (i:Nat) (rk:Value),Zc E key rk->Zw E (es.map (·.1)) (ents.map (·.key))->Zw E (es.map (·.2)) (ents.map (·.val))->
   (Instr.findAsking kt rk ents i).run P w=.ok none w/\(Instr.findNow kd rk ents i=none\/Instr.findNow kd rk ents i=some none)):=by
 intro es
 induction es with
 | nil=>
  intro j0 h
  refine .inr ⟨h,fun E w ents i rk _ hkk _=> ?_⟩
  cases ents with
  | nil=>exact ⟨by simp [Instr.findAsking],.inr rfl⟩
  | cons e r=>cases hkk
 | cons p r ih=>
  obtain ⟨kv,v⟩:=p
  intro j0 h
  unfold Z4D at h
  have h0:=h
  obtain ⟨b,hb,heq⟩:=U7 20 9979 _ _ _ _ h
  have step:∀(E:Env) (w:World) (e:MapEntry) (rk:Value),Zc E key rk->Zc E kv e.key->(Op.equal kt rk e.key).run P w=.ok b w/\(Instr.sameNow kd rk e.key=none\/Instr.sameNow kd rk e.key=some b):=by
   intro E w e rk h1 h2
   have h3:∀w,(Op.equalIn 10000 kt rk e.key).run P w=.ok b w:=fun w=>heq E w rk e.key h1 h2
   exact ⟨h3 w,Z3F hk hu h0 (E:=E) h3 w⟩
  cases b with
  | true=>
   simp only [Z7] at hb
   refine .inl ⟨0,v,hb,by simp,fun E w ents i rk h1 hkk hvv=> ?_⟩
   cases ents with
   | nil=>cases hkk
   | cons e es''=>
    cases hkk with
    | cons _ _ _ _ hk1 hk2=>cases hvv with
     | cons _ _ _ _ hv1 hv2=>
      obtain ⟨s1,s2⟩:=step E w e rk h1 hk1
      refine ⟨e.val,hv1,by simp [Instr.findAsking,s1], ?_⟩
      rcases s2 with s2|s2
      ·exact .inl (by simp [Instr.findNow,s2])
      ·exact .inr (by simp [Instr.findNow,s2])
  | false=>
   simp only [Z7] at hb
   rcases ih (j0+1) hb with ⟨j,v',hS,hj,hr⟩|⟨hN,hr⟩
   ·refine .inl ⟨j+1,v',by rw [show j0+(j+1)=j0+1+j by omega];exact hS,by simp only [Jw];omega,fun E w ents i rk h1 hkk hvv=> ?_⟩
    cases ents with
    | nil=>cases hkk
    | cons e es''=>
     cases hkk with
     | cons _ _ _ _ hk1 hk2=>cases hvv with
      | cons _ _ _ _ hv1 hv2=>
       obtain ⟨s1,s2⟩:=step E w e rk h1 hk1
       obtain ⟨x,x1,x2,x3⟩:=hr E w es'' (i+1) rk h1 hk2 hv2
       rw [show i+1+j=i+(j+1) by omega] at x2 x3
       refine ⟨x,x1,by simp [Instr.findAsking,s1,x2], ?_⟩
       rcases s2 with s2|s2
       ·exact .inl (by simp [Instr.findNow,s2])
       ·simpa [Instr.findNow,s2] using x3
   ·refine .inr ⟨hN,fun E w ents i rk h1 hkk hvv=> ?_⟩
    cases ents with
    | nil=>cases hkk
    | cons e es''=>
     cases hkk with
     | cons _ _ _ _ hk1 hk2=>cases hvv with
      | cons _ _ _ _ hv1 hv2=>
       obtain ⟨s1,s2⟩:=step E w e rk h1 hk1
       obtain ⟨x2,x3⟩:=hr E w es'' (i+1) rk h1 hk2 hv2
       refine ⟨by simp [Instr.findAsking,s1,x2], ?_⟩
       rcases s2 with s2|s2
       ·exact .inl (by simp [Instr.findNow,s2])
       ·simpa [Instr.findNow,s2] using x3
theorem YM {P:Program} {kd:TypeDesc} (hu:P.underlying kt=some kd) {w:World} {R:Option (Nat×Value)} (h1:(Instr.findAsking kt rk ents 0).run P w=.ok R w) (h2:Instr.findNow kd rk ents 0=none\/Instr.findNow kd rk ents 0=some R):(Instr.findKey kt rk ents).run P w=.ok R w:=by
 simp only [Instr.findKey,J6,run_underlying hu,J4]
 rcases h2 with h2|h2
 ·rw [h2];exact h1
 ·rw [h2];rfl
def Z3G (P:Program) (h:Z9) (T:TypeId) (m key:AV) (ok:Bool) (K:AV->Prop):Prop:=
 match P.underlying T with
 | some (.map kt et)=>match Z1u P kt,Ve P et with
  | true,some z=>match m with
   | .map none=>ckK P 20 kt key (K (okV ok z false))
   | .map (some x)=>match h.get x with
    | some (.map es)=>ckK P 20 kt key (Z4D P kt key (fun _ v=>K (okV ok v true)) (K (okV ok z false)) 0 es)
    | _=>False
   | _=>False
  | _,_=>False
 | _=>False
theorem Z0i {P:Program} (h:Z1u P kt=true):∃kd,P.underlying kt=some kd:=by
 unfold Z1u at h
 cases hu:P.underlying kt with
 | none=>rw [hu] at h;simp at h
 | some kd=>exact ⟨kd,rfl⟩
theorem Z5R {P:Program} {h:Z9} {T:TypeId} {m key:AV} {ok:Bool} {K:AV->Prop} (hl:Z3G P h T m key ok K):
  ∃v,K v/\∀(E:Env) (w:World) (rm rk:Value),Emb E h w->Zc E m rm->Zc E key rk->∃r,(Instr.lookup T rm rk ok).run P w=.ok r w/\Zc E v r:=by
 unfold Z3G at hl
 split at hl
 ·rename_i kt et hT
  split at hl
  ·rename_i z hkd hz
   obtain ⟨zr,hz1,hz2⟩:=Wi hz
   obtain ⟨kd,hu⟩:=Z0i hkd
   split at hl
   ·obtain ⟨hK,hc⟩:=QO 20 9979 _ _ _ hl
    refine ⟨_,hK,fun E w rm rk he hm hk=> ?_⟩
    cases hm
    refine ⟨_, ?_,XC (hz2 E)⟩
    have hc:=hc E w rk true hk
    have hf:(Instr.findKey kt rk []).run P w=.ok none w:=YM hu (by simp [Instr.findAsking]) (.inr rfl)
    simp only [Instr.lookup,J6,run_underlying hT,J4,Ji]
    simp only [Array.isEmpty_empty,hc,J4,hf,hz1,J6,Ji]
   ·rename_i x
    split at hl
    ·rename_i es hg
     obtain ⟨hl,hc⟩:=QO 20 9979 _ _ _ hl
     rcases Z4E hkd hu es 0 hl with ⟨j,v,h1,_,h2⟩|⟨h1,h2⟩
     ·refine ⟨_,h1,fun E w rm rk he hm hk=> ?_⟩
      cases hm with
      | map _ b N hb=>
       have hown:=he.own _ _ hg
       cases hown with
       | map _ b' ents clock hbb hw hkk hvv=>
        rw [hbb] at hb
        cases hb
        obtain ⟨r,h3,h4,h5⟩:=h2 E w ents 0 rk hk hkk hvv
        refine ⟨_, ?_,XC h3⟩
        have hf:=YM hu h4 h5
        simp only [Instr.lookup,J6,run_underlying hT,J4,Ji,Y7 hw,hc E w rk _ hk,hf]
     ·refine ⟨_,h1,fun E w rm rk he hm hk=> ?_⟩
      cases hm with
      | map _ b N hb=>
       have hown:=he.own _ _ hg
       cases hown with
       | map _ b' ents clock hbb hw hkk hvv=>
        rw [hbb] at hb
        cases hb
        obtain ⟨h4,h5⟩:=h2 E w ents 0 rk hk hkk hvv
        refine ⟨_, ?_,XC (hz2 E)⟩
        have hf:=YM hu h4 h5
        simp only [Instr.lookup,J6,run_underlying hT,J4,Ji,Y7 hw,hc E w rk _ hk,hf,hz1]
    ·exact hl.elim
   ·exact hl.elim
  ·exact hl.elim
 ·exact hl.elim
def Z0N (P:Program) (h:Z9) (T:TypeId) (m key:AV) (ok:Bool) (K:AV->Prop):Prop:=match VC P T with
 | some _=>Z3B P h T m key ok K
 | none=>Z3G P h T m key ok K
theorem Z1v {P:Program} {h:Z9} {T:TypeId} {m key:AV} {ok:Bool} {K:AV->Prop} (hl:Z0N P h T m key ok K):
  ∃v,K v/\∀(E:Env) (w:World) (rm rk:Value),Emb E h w->Zc E m rm->Zc E key rk->∃r,(Instr.lookup T rm rk ok).run P w=.ok r w/\Zc E v r:=by
 unfold Z0N at hl
 split at hl
 ·exact Z5M hl
 ·exact Z5R hl
def Z3H (P:Program) (h:Z9) (T:TypeId) (m key v:AV) (K:Z9->Prop):Prop:=
 match P.underlying T,m with
 | some (.map kt _),.map (some x)=>match Z1u P kt,h.get x with
  | true,some (.map es)=>ckK P 20 kt key (Z4D P kt key (fun _ _=>False) (K (h.set x (.map (es++[(key,v)])))) 0 es)
  | _,_=>False
 | _,_=>False
theorem Z5S {P:Program} {h:Z9} {T:TypeId} {m key:AV} {K:Z9->Prop} (hl:Z3H P h T m key v K):
  ∃h',K h'/\∀(E:Env) (w:World) (rm rk rv:Value),Emb E h w->Zc E m rm->Zc E key rk->Zc E v rv->∃w',(Instr.mapUpdate T rm rk rv).run P w=.ok () w'/\Evo E h w E h' w':=by
 unfold Z3H at hl
 split at hl
 ·rename_i kt et x hT
  split at hl
  ·rename_i es hkd hg
   obtain ⟨kd,hu⟩:=Z0i hkd
   obtain ⟨hl,hc⟩:=QO 20 9979 _ _ _ hl
   rcases Z4E hkd hu es 0 hl with ⟨j,_,h1,_⟩|⟨h1,h2⟩
   ·exact h1.elim
   ·refine ⟨_,h1,fun E w rm rk rv he hm hk hv=> ?_⟩
    cases hm with
    | map _ b N hb=>
     have hown:=he.own _ _ hg
     cases hown with
     | map _ b' ents clock hbb hw hkk hvv=>
      rw [hbb] at hb
      cases hb
      have hlt:b<w.heap.size:=by
       rcases J7 b w.heap.size with hh|hh
       ·exact hh
       ·rw [Jj hh] at hw;cases hw
      obtain ⟨h4,h5⟩:=h2 E w ents 0 rk hk hkk hvv
      have hf:=YM hu h4 h5
      refine ⟨{ w with heap:=w.heap.setIfInBounds b (.map (ents.toArray.push ⟨rk,rv,clock⟩) (clock+1))}, ?_, ?_⟩
      ·simp only [Instr.mapUpdate,J6,run_underlying hT,J4,Y7 hw,hc E w rk _ hk,hf,Ji,Wj _ hw]
      ·refine Xk he x _ _ b 0 hg hbb (fun i hi=> ?_) (by simp) rfl rfl ⟨rfl,J5 _⟩ ?_
       ·show (w.heap.setIfInBounds b _)[i]? =_
        rw [Jk,if_neg (fun e=>hi e.symm)]
       ·refine .map _ b (ents++[⟨rk,rv,clock⟩]) (clock+1) hbb ?_ ?_ ?_
        ·show (w.heap.setIfInBounds b _)[b]? =_
         simp [hlt]
        ·simp only [K1,K4,List.map_nil]
         exact hkk.snoc hk
        ·simp only [K1,K4,List.map_nil]
         exact hvv.snoc hv
  ·exact hl.elim
 ·exact hl.elim
def Z0O (P:Program) (h:Z9) (T:TypeId) (m key v:AV) (K:Z9->Prop):Prop:=match VC P T with
 | some _=>Z3C P h T m key v K
 | none=>Z3H P h T m key v K
theorem Z1w {P:Program} {h:Z9} {T:TypeId} {m key:AV} {K:Z9->Prop} (hl:Z0O P h T m key v K):
  ∃h',K h'/\∀(E:Env) (w:World) (rm rk rv:Value),Emb E h w->Zc E m rm->Zc E key rk->Zc E v rv->∃w',(Instr.mapUpdate T rm rk rv).run P w=.ok () w'/\Evo E h w E h' w':=by
 unfold Z0O at hl
 split at hl
 ·exact Z5N hl
 ·exact Z5S hl
def Z1x:AV->AV->Bool
 | .int k a,v=>match v with|.int k' b=>decide (k=k')&&(a==b)|_=>false
 | .bool a,v=>match v with|.bool b=>a==b|_=>false
 | .arr k n xs,v=>match v with|.arr k' n' ys=>decide (k=k')&&Nat.beq n n'&&(xs==ys)|_=>false
 | _,_=>false
def Qm:List AV->List AV->Bool
 | [],l=>match l with|[]=>true|_=>false
 | a::r,l=>match l with
  | b::s=>(match r,s with|[],[]=>Z1x a b|r,s=>Z1x a b&&Qm r s)
  | []=>false
def YT:AV->AV->Bool
 | .agg cs,v=>match v with|.agg ds=>Qm cs ds|_=>false
 | .arr _ _ _,_=>false
 | a,v=>Z1x a v
theorem QP {a b:AV} (h:Z1x a b=true):a=b/\((∃k n,a=.int k n)\/(∃x,a=.bool x)\/∃k n xs,a=.arr k n xs):=by
 unfold Z1x at h
 split at h
 ·split at h
  ·simp only [J3,decide_eq_true_eq,beq_iff_eq] at h
   obtain ⟨rfl,rfl⟩:=h
   exact ⟨rfl,.inl ⟨_,_,rfl⟩⟩
  ·cases h
 ·split at h
  ·simp only [beq_iff_eq] at h
   subst h
   exact ⟨rfl,.inr (.inl ⟨_,rfl⟩)⟩
  ·cases h
 ·split at h
  ·simp only [J3,decide_eq_true_eq,beq_iff_eq] at h
   obtain ⟨⟨rfl,h2⟩,rfl⟩:=h
   have h2:=J0 h2
   subst h2
   exact ⟨rfl,.inr (.inr ⟨_,_,_,rfl⟩)⟩
  ·cases h
 ·cases h
def Z75 (a:AV):Prop:=(∃k n,a=.int k n)\/(∃x,a=.bool x)\/∃k n xs,a=.arr k n xs
theorem Z1y:∀{l m:List AV},Qm l m=true->l=m/\∀a∈l,Z75 a
 | [],m,h=>by
  unfold Qm at h
  split at h
  ·exact ⟨rfl,by simp⟩
  ·cases h
 | a::r,m,h=>by
  unfold Qm at h
  split at h
  ·rename_i b s
   split at h
   ·obtain ⟨rfl,h1⟩:=QP h
    exact ⟨rfl,by simpa [Z75] using h1⟩
   ·rw [J3] at h
    obtain ⟨rfl,h1⟩:=QP h.1
    obtain ⟨rfl,h2⟩:=Z1y h.2
    refine ⟨rfl,fun x hx=> ?_⟩
    rcases J9.1 hx with rfl|hx
    ·exact h1
    ·exact h2 x hx
  ·cases h
theorem Vf (n:Nat) (k:IntKind) (a:Int):Instr.sameBits (n+1) (.int k a) (.int k a)=true:=by simp [Instr.sameBits]
theorem Uz (n:Nat) (a:Bool):Instr.sameBits (n+1) (.bool a) (.bool a)=true:=by simp [Instr.sameBits]
theorem U9 {E:Env}:∀{l:List AV} {r s:List Value},(∀a∈l,Z75 a)->Zn E l r->Zn E l s->r=s/\∀v∈r,∀n,Instr.sameBits (n+1) v v=true
 | [],r,s,_,h1,h2=>by cases h1;cases h2;exact ⟨rfl,by simp⟩
 | a::l,r,s,hs,h1,h2=>by
  have ha:=hs a (JB ..)
  have hl:∀x∈l,Z75 x:=fun x hx=>hs x (Jp _ hx)
  rcases ha with ⟨k,n,rfl⟩|⟨x,rfl⟩|⟨k,n,xs,rfl⟩
  ·cases h1 with
   | one v c vs cs h0 h1 hv t=>cases hv;cases h2 with
    | one v c vs cs h0 h1 hv t'=>cases hv;obtain ⟨e,h3⟩:=U9 hl t t';exact ⟨by rw [e],fun v hv n=>by
      rcases J9.1 hv with rfl|hv
      ·exact Vf _ _ _
      ·exact h3 v hv n⟩
  ·cases h1 with
   | one v c vs cs h0 h1 hv t=>cases hv;cases h2 with
    | one v c vs cs h0 h1 hv t'=>cases hv;obtain ⟨e,h3⟩:=U9 hl t t';exact ⟨by rw [e],fun v hv n=>by
      rcases J9.1 hv with rfl|hv
      ·exact Uz _ _
      ·exact h3 v hv n⟩
  ·obtain ⟨ws,rfl,t⟩:=Zn.cons_arr h1
   obtain ⟨ws',rfl,t'⟩:=Zn.cons_arr h2
   obtain ⟨e,h3⟩:=U9 hl t t'
   refine ⟨by rw [e],fun v hv m=> ?_⟩
   rcases Jr.1 hv with hv|hv
   ·unfold intCells at hv
    obtain ⟨i,_,rfl⟩:=List.mem_map.1 hv
    exact Vf _ _ _
   ·exact h3 v hv m
theorem Z5T {a b:AV} (h:YT a b=true) {E:Env} {r s:Value} (hr:Zc E a r) (hs:Zc E b s):a=b/\r=s/\∀n,Instr.sameBits (n+2) r s=true:=by
 unfold YT at h
 split at h
 ·split at h
  ·obtain ⟨rfl,h1⟩:=Z1y h
   cases hr with
   | agg _ vs hc=>cases hs with
    | agg _ ws hc'=>
     obtain ⟨rfl,h2⟩:=U9 h1 hc hc'
     refine ⟨rfl,rfl,fun n=> ?_⟩
     simp only [Instr.sameBits,BEq.rfl,JW,K5]
     intro p hp
     obtain ⟨i,hi⟩:=JP.1 hp
     rw [List.getElem?_zip_eq_some] at hi
     have e:p.1=p.2:=by
      have h3:=hi.1.symm.trans hi.2
      simpa using h3
     rw [<-e]
     exact h2 p.1 (by simpa using JR hi.1) n
  ·cases h
 ·cases h
 ·rename_i h1 h2
  obtain ⟨rfl,h3⟩:=QP h
  rcases h3 with ⟨k,n,rfl⟩|⟨x,rfl⟩|⟨k,n,xs,rfl⟩
  ·cases hr;cases hs;exact ⟨rfl,rfl,fun n=>Vf _ _ _⟩
  ·cases hr;cases hs;exact ⟨rfl,rfl,fun n=>Uz _ _⟩
  ·exact absurd rfl (h2 _ _ _)
@[irreducible] def Zd6 (P:Program) (kt:TypeId) (a b:AV):Prop:=Z3E P 20 kt a b fun r=>r=YT a b
inductive Z3I (P:Program) (kt:TypeId) (key:AV) (n:Nat) (kf:Nat->AV):Prop
 | mk (h:∀i,i<n->Zd6 P kt key (kf i)):Z3I P kt key n kf
def Yv (p:Nat->Bool) (n:Nat):Nat:=match (List.range n).find? p with|some i=>i|none=>n
theorem Z4F {p:Nat->Bool} {n i:Nat} (hi:i<n) (hp:p i=true) (hb:∀j,j<i->p j=false):Yv p n=i:=by
 unfold Yv
 have:(List.range n).find? p=some i:=by
  rw [List.find?_range_eq_some]
  exact ⟨hp,Jq.2 hi,fun j hj=>by simp [hb j hj]⟩
 rw [this]
theorem Z4G {p:Nat->Bool} {n:Nat} (hb:∀j,j<n->p j=false):Yv p n=n:=by
 unfold Yv
 have:(List.range n).find? p=none:=by
  rw [List.find?_eq_none]
  intro j hj
  simp [hb j (Jq.1 hj)]
 rw [this]
theorem Z4H {P:Program} {kd:TypeDesc} (hu:P.underlying kt=some kd) {b:Bool} {w:World} (h:(Op.equalIn 10000 kt rk re).run P w=.ok b w):Instr.sameNow kd rk re=none\/Instr.sameNow kd rk re=some b:=by
 cases hs:Instr.sameNow kd rk re with
 | none=>exact .inl rfl
 | some c=>
  refine .inr ?_
  rw [show (10000:Nat)=9999+1 from rfl] at h
  unfold Instr.sameNow at hs
  split at hs
  ·split at hs
   ·rename_i hk
    subst hk
    cases hs
    rw [run_equalIn_int _ _ _ _ _ _ _ hu] at h
    cases h;rfl
   ·cases hs
  ·cases hs
   rw [Op.equalIn] at h
   simp only [J6,run_underlying hu,J4,Ji,Result.ok.injEq,and_true] at h
   rw [h]
  ·cases hs
   rw [run_equalIn_bool _ _ _ _ _ hu] at h
   cases h;rfl
  ·cases hs
theorem Z2F {P:Program} {kt:TypeId} {kd:TypeDesc} (hu:P.underlying kt=some kd) {rk:Value} {w:World}:∀(ents:List MapEntry) (p:Nat->Bool) (i0:Nat),
  (∀(i:Nat) (e:MapEntry),ents[i]? =some e->(Op.equalIn 10000 kt rk e.key).run P w=.ok (p i) w)->
  (∃(j:Nat) (e:MapEntry),ents[j]? =some e/\p j=true/\(∀i,i<j->p i=false)/\(Instr.findAsking kt rk ents i0).run P w=.ok (some (i0+j,e.val)) w/\(Instr.findNow kd rk ents i0=none\/Instr.findNow kd rk ents i0=some (some (i0+j,e.val))))\/
  ((∀i,i<ents.length->p i=false)/\(Instr.findAsking kt rk ents i0).run P w=.ok none w/\(Instr.findNow kd rk ents i0=none\/Instr.findNow kd rk ents i0=some none))
 | [],p,i0,_=>.inr ⟨by simp,by simp [Instr.findAsking],.inr rfl⟩
 | e::r,p,i0,h=>by
  have h0:=h 0 e rfl
  have s1:(Op.equal kt rk e.key).run P w=.ok (p 0) w:=h0
  have s2:=Z4H hu h0
  cases hp:p 0 with
  | true=>
   rw [hp] at s1 s2
   refine .inl ⟨0,e,rfl,hp,by omega,by simp [Instr.findAsking,s1], ?_⟩
   rcases s2 with s2|s2
   ·exact .inl (by simp [Instr.findNow,s2])
   ·exact .inr (by simp [Instr.findNow,s2])
  | false=>
   rw [hp] at s1 s2
   rcases Z2F hu r (fun i=>p (i+1)) (i0+1) (fun i e' he=>h (i+1) e' (by simpa using he)) with ⟨j,e',h1,h2,h3,h4,h5⟩|⟨h1,h2,h3⟩
   ·refine .inl ⟨j+1,e',by simpa using h1,h2,fun i hi=> ?_, ?_, ?_⟩
    ·cases i with
     | zero=>exact hp
     | succ i=>exact h3 i (by omega)
    ·rw [show i0+(j+1)=i0+1+j by omega]
     simp [Instr.findAsking,s1,h4]
    ·rw [show i0+(j+1)=i0+1+j by omega]
     rcases s2 with s2|s2
     ·exact .inl (by simp [Instr.findNow,s2])
     ·simpa [Instr.findNow,s2] using h5
   ·refine .inr ⟨fun i hi=> ?_,by simp [Instr.findAsking,s1,h2], ?_⟩
    ·cases i with
     | zero=>exact hp
     | succ i=>exact h1 i (by simpa using hi)
    ·rcases s2 with s2|s2
     ·exact .inl (by simp [Instr.findNow,s2])
     ·simpa [Instr.findNow,s2] using h3
theorem Ua {P:Program} {kd:TypeDesc} (hu:P.underlying kt=some kd) {key:AV} {n:Nat} (ha:Z3I P kt key n kf) {E:Env} {w:World} (hl:ents.length=n)
  (hk:∀(i:Nat) (e:MapEntry),ents[i]? =some e->Zc E (kf i) e.key) (hv:∀(i:Nat) (e:MapEntry),ents[i]? =some e->Zc E (vf i) e.val) (hr:Zc E key rk):
  (∃(e:MapEntry),Yv (fun i=>YT key (kf i)) n<n/\ents[Yv (fun i=>YT key (kf i)) n]? =some e/\YT key (kf (Yv (fun i=>YT key (kf i)) n))=true/\Zc E (vf (Yv (fun i=>YT key (kf i)) n)) e.val/\(Instr.findKey kt rk ents).run P w=.ok (some (Yv (fun i=>YT key (kf i)) n,e.val)) w)\/
  (Yv (fun i=>YT key (kf i)) n=n/\(Instr.findKey kt rk ents).run P w=.ok none w):=by
 obtain ⟨ha⟩:=ha
 have each:∀(i:Nat) (e:MapEntry),ents[i]? =some e->(Op.equalIn 10000 kt rk e.key).run P w=.ok (YT key (kf i)) w:=fun i e he=>by
  have hi:=(Js.1 he).1
  have hk0:=ha i (by omega)
  unfold Zd6 at hk0
  obtain ⟨b,rfl,h2⟩:=U7 20 9979 _ _ _ _ hk0
  exact h2 E w rk e.key hr (hk i e he)
 rcases Z2F hu ents (fun i=>YT key (kf i)) 0 each with ⟨j,e,h1,h2,h3,h4,h5⟩|⟨h1,h2,h3⟩
 ·have hj:=(Js.1 h1).1
  have e1:Yv (fun i=>YT key (kf i)) n=j:=Z4F (by omega) h2 h3
  rw [e1]
  rw [JE] at h4 h5
  exact .inl ⟨e,by omega,h1,h2,hv j e h1,YM hu h4 h5⟩
 ·refine .inr ⟨Z4G fun j hj=>h1 j (by omega),YM hu h2 h3⟩
def Z3J (P:Program) (T:TypeId) (n:Nat) (kf vf:Nat->AV) (key:AV) (ok:Bool) (K:AV->Prop):Prop:=
 match P.underlying T with
 | some (.map kt et)=>match P.underlying kt,Ve P et with
  | some _,some z=>ckK P 20 kt key (Z3I P kt key n kf/\Z7 (Nat.blt (Yv (fun i=>YT key (kf i)) n) n) (K (okV ok (vf (Yv (fun i=>YT key (kf i)) n)) true)) (K (okV ok z false)))
  | _,_=>False
 | _=>False
def Z4I (f:Nat->AV) (j:Nat) (v:AV) (i:Nat):AV:=match Nat.beq i j with|true=>v|false=>f i
def Z3K (P:Program) (h:Z9) (T:TypeId) (x n:Nat) (kf vf:Nat->AV) (key v:AV) (K:Z9->Prop):Prop:=
 match P.underlying T with
 | some (.map kt _)=>match P.underlying kt with
  | some _=>ckK P 20 kt key (Z3I P kt key n kf/\Z7 (Nat.blt (Yv (fun i=>YT key (kf i)) n) n) (K (h.set x (.fmap n kf (Z4I vf (Yv (fun i=>YT key (kf i)) n) v)))) (K (h.set x (.fmap (n+1) (Z4I kf n key) (Z4I vf n v)))))
  | none=>False
 | _=>False
theorem Z5U {P:Program} {h:Z9} {T:TypeId} {x n:Nat} {key:AV} {ok:Bool} {K:AV->Prop} (hg:h.get x=some (.fmap n kf vf)) (hl:Z3J P T n kf vf key ok K):
  ∃v,K v/\∀(E:Env) (w:World) (rm rk:Value),Emb E h w->Zc E (.map (some x)) rm->Zc E key rk->∃r,(Instr.lookup T rm rk ok).run P w=.ok r w/\Zc E v r:=by
 unfold Z3J at hl
 split at hl
 ·rename_i kt et hT
  split at hl
  ·rename_i kd z hu hz
   obtain ⟨zr,hz1,hz2⟩:=Wi hz
   obtain ⟨⟨ha,hl⟩,hc⟩:=QO 20 9979 _ _ _ hl
   cases hb:Nat.blt (Yv (fun i=>YT key (kf i)) n) n with
   | true=>
    have hlt:Yv (fun i=>YT key (kf i)) n<n:=Jh hb
    rw [hb] at hl
    refine ⟨_,hl,fun E w rm rk he hm hk=> ?_⟩
    cases hm with
    | map _ b N hb=>
     have hown:=he.own _ _ hg
     cases hown with
     | fmap _ _ _ b' ents clock hbb hw hll hkk hvv=>
      rw [hbb] at hb
      cases hb
      rcases Ua (w:=w) hu ha hll hkk hvv hk with ⟨e,_,_,_,h3,h4⟩|⟨h3,_⟩
      ·refine ⟨_, ?_,XC h3⟩
       simp only [Instr.lookup,J6,run_underlying hT,J4,Ji,Y7 hw,hc E w rk _ hk,h4]
      ·omega
   | false=>
    rw [hb] at hl
    refine ⟨_,hl,fun E w rm rk he hm hk=> ?_⟩
    cases hm with
    | map _ b N hb2=>
     have hown:=he.own _ _ hg
     cases hown with
     | fmap _ _ _ b' ents clock hbb hw hll hkk hvv=>
      rw [hbb] at hb2
      cases hb2
      rcases Ua (w:=w) hu ha hll hkk hvv hk with ⟨e,h3,_⟩|⟨h3,h4⟩
      ·have h5:Nat.blt (Yv (fun i=>YT key (kf i)) n) n=true:=Nat.ble_eq_true_of_le h3
       rw [h5] at hb;cases hb
      ·refine ⟨_, ?_,XC (hz2 E)⟩
       simp only [Instr.lookup,J6,run_underlying hT,J4,Ji,Y7 hw,hc E w rk _ hk,h4,hz1]
  ·exact hl.elim
 ·exact hl.elim
theorem Z3L {P:Program} {w:World} {a b:Value} (h:Instr.sameBits 10000 a b=true):(Instr.keyThatStays a b).run P w=.ok b w:=by
 simp [Instr.keyThatStays,h]
theorem Z5V {P:Program} {h:Z9} {T:TypeId} {x n:Nat} {key:AV} {K:Z9->Prop} (hg:h.get x=some (.fmap n kf vf)) (hl:Z3K P h T x n kf vf key v K):
  ∃h',K h'/\∀(E:Env) (w:World) (rm rk rv:Value),Emb E h w->Zc E (.map (some x)) rm->Zc E key rk->Zc E v rv->∃w',(Instr.mapUpdate T rm rk rv).run P w=.ok () w'/\Evo E h w E h' w':=by
 unfold Z3K at hl
 split at hl
 ·rename_i kt et hT
  split at hl
  ·rename_i kd hu
   obtain ⟨⟨ha,hl⟩,hc⟩:=QO 20 9979 _ _ _ hl
   cases hb:Nat.blt (Yv (fun i=>YT key (kf i)) n) n with
   | true=>
    have hlt:Yv (fun i=>YT key (kf i)) n<n:=Jh hb
    rw [hb] at hl
    refine ⟨_,hl,fun E w rm rk rv he hm hk hv=> ?_⟩
    cases hm with
    | map _ b N hb=>
     have hown:=he.own _ _ hg
     cases hown with
     | fmap _ _ _ b' ents clock hbb hw hll hkk hvv=>
      rw [hbb] at hb
      cases hb
      rcases Ua (w:=w) hu ha hll hkk hvv hk with ⟨e,_,h2,h3,_,h4⟩|⟨h3,_⟩
      ·generalize hJ:Yv (fun i=>YT key (kf i)) n=J at*
       obtain ⟨_,h5,h6⟩:=Z5T h3 hk (hkk J e h2)
       have hs:(Instr.keyThatStays e.key rk).run P w=.ok rk w:=Z3L (by rw [<-h5];rw [<-h5] at h6;exact h6 9998)
       have hbl:b<w.heap.size:=by
        rcases J7 b w.heap.size with hh|hh
        ·exact hh
        ·rw [Jj hh] at hw;cases hw
       refine ⟨{ w with heap:=w.heap.setIfInBounds b (.map (ents.set J (⟨rk,rv,e.born⟩:MapEntry)).toArray clock)}, ?_, ?_⟩
       ·have hm:ents.toArray.modify J (fun e=>{ e with key:=rk,val:=rv})=(ents.set J (⟨rk,rv,e.born⟩:MapEntry)).toArray:=by
         apply Array.ext_getElem?
         intro i
         rw [Array.getElem?_modify]
         simp only [JO,K3]
         by_cases hi:J=i
         ·subst hi
          obtain ⟨this,hE⟩:=Js.1 h2
          simp [this,hE]
         ·simp [hi]
        simp only [Instr.mapUpdate,J6,run_underlying hT,J4,Y7 hw,hc E w rk _ hk,h4,JO,h2,Option.map_some,Kj,hs,hm,Wj _ hw]
       ·refine Xk he x _ (.fmap n kf (Z4I vf J v)) b 0 hg hbb (fun i hi=>by simp [Jk,Ne.symm hi]) (by simp) rfl rfl ⟨rfl,J5 _⟩ ?_
        ·refine .fmap _ _ _ b (ents.set J ⟨rk,rv,e.born⟩) clock hbb (by simp [Jk,hbl]) (by simp [hll]) (fun i e' he'=> ?_) (fun i e' he'=> ?_)
         ·rw [K3] at he'
          split at he'
          ·rename_i hi
           subst hi
           split at he'
           ·cases he';rw [h5];exact hkk _ e h2
           ·cases he'
          ·exact hkk i e' he'
         ·rw [K3] at he'
          unfold Z4I
          split at he'
          ·rename_i hi
           subst hi
           split at he'
           ·cases he';rw [Jg];exact hv
           ·cases he'
          ·rename_i hi
           rw [Zs (Ne.symm hi)]
           exact hvv i e' he'
      ·omega
   | false=>
    rw [hb] at hl
    refine ⟨_,hl,fun E w rm rk rv he hm hk hv=> ?_⟩
    cases hm with
    | map _ b N hb2=>
     have hown:=he.own _ _ hg
     cases hown with
     | fmap _ _ _ b' ents clock hbb hw hll hkk hvv=>
      rw [hbb] at hb2
      cases hb2
      rcases Ua (w:=w) hu ha hll hkk hvv hk with ⟨e,h3,_⟩|⟨h3,h4⟩
      ·have h5:Nat.blt (Yv (fun i=>YT key (kf i)) n) n=true:=Nat.ble_eq_true_of_le h3
       rw [h5] at hb;cases hb
      ·have hbl:b<w.heap.size:=by
        rcases J7 b w.heap.size with hh|hh
        ·exact hh
        ·rw [Jj hh] at hw;cases hw
       refine ⟨{ w with heap:=w.heap.setIfInBounds b (.map (ents.toArray.push ⟨rk,rv,clock⟩) (clock+1))}, ?_, ?_⟩
       ·simp only [Instr.mapUpdate,J6,run_underlying hT,J4,Y7 hw,hc E w rk _ hk,h4,Ji,Wj _ hw]
       ·refine Xk he x _ (.fmap (n+1) (Z4I kf n key) (Z4I vf n v)) b 0 hg hbb (fun i hi=>by simp [Jk,Ne.symm hi]) (by simp) rfl rfl ⟨rfl,J5 _⟩ ?_
        ·refine .fmap _ _ _ b (ents++[⟨rk,rv,clock⟩]) (clock+1) hbb (by simp [Jk,hbl]) (by simp [hll]) (fun i e' he'=> ?_) (fun i e' he'=> ?_)
         all_goals
          unfold Z4I
          rw [List.getElem?_append] at he'
          split at he'
          ·rename_i hi
           rw [Zs (by omega)]
           first|exact hkk i e' he'|exact hvv i e' he'
          ·rename_i hi
           have h7:=(Js.1 he').1
           simp at h7
           have h8:i=n:=by omega
           subst h8
           rw [hll,Nat.sub_self] at he'
           simp at he'
           subst he'
           rw [Jg]
           first|exact hk|exact hv
  ·exact hl.elim
 ·exact hl.elim
def Z3M (P:Program) (h:Z9) (T:TypeId) (m key:AV) (ok:Bool) (K:AV->Prop):Prop:=match m with
 | .map (some x)=>match h.get x with
  | some (.fmap n kf vf)=>Z3J P T n kf vf key ok K
  | _=>Z0N P h T m key ok K
 | _=>Z0N P h T m key ok K
theorem Z5W {P:Program} {h:Z9} {T:TypeId} {m key:AV} {ok:Bool} {K:AV->Prop} (hl:Z3M P h T m key ok K):
  ∃v,K v/\∀(E:Env) (w:World) (rm rk:Value),Emb E h w->Zc E m rm->Zc E key rk->∃r,(Instr.lookup T rm rk ok).run P w=.ok r w/\Zc E v r:=by
 unfold Z3M at hl
 split at hl
 ·split at hl
  ·rename_i hg
   exact Z5U hg hl
  ·exact Z1v hl
 ·exact Z1v hl
def Z0P (P:Program) (h:Z9) (T:TypeId) (m key v:AV) (K:Z9->Prop):Prop:=match m with
 | .map (some x)=>match h.get x with
  | some (.fmap n kf vf)=>Z3K P h T x n kf vf key v K
  | _=>Z0O P h T m key v K
 | _=>Z0O P h T m key v K
theorem Z1z {P:Program} {h:Z9} {T:TypeId} {m key:AV} {K:Z9->Prop} (hl:Z0P P h T m key v K):
  ∃h',K h'/\∀(E:Env) (w:World) (rm rk rv:Value),Emb E h w->Zc E m rm->Zc E key rk->Zc E v rv->∃w',(Instr.mapUpdate T rm rk rv).run P w=.ok () w'/\Evo E h w E h' w':=by
 unfold Z0P at hl
 split at hl
 ·split at hl
  ·rename_i hg
   exact Z5V hg hl
  ·exact Z1w hl
 ·exact Z1w hl
def W2 (n:Int):UInt8:=UInt8.ofNat n.toNat
def strOf (xs:LI):ByteArray:=⟨(xs.map W2).toArray⟩
def Ub (s:ByteArray):LI:=s.data.toList.map fun b=>(b.toNat:Int)
theorem Z1A:∀(xs:LI) (r:ByteArray),xs.foldl (fun r n=>r.push (UInt8.ofNat n.toNat)) r=⟨r.data++(xs.map W2).toArray⟩
 | [],r=>by simp
 | x::xs,r=>by
  rw [List.foldl_cons,Z1A xs]
  simp [ByteArray.push,W2]
theorem Z1B {w:World} {r:Value} {m:Nat} {k:IntKind} (h:Reads w 1 r m (intCells k ys.length ys)):∃a c,r=.slice a m c/\m=ys.length/\((a=none/\ys=[])\/∃ad,a=some ad/\∀j,j<ys.length->w.cell? (ad.add j)=some (.int k (ys.getD j 0))):=by
 obtain ⟨a,c,rfl,hl,hc⟩:=h
 rw [Z8,JL] at hl
 refine ⟨a,c,rfl,hl.symm, ?_⟩
 cases a with
 | none=>
  left
  refine ⟨rfl, ?_⟩
  cases ys with
  | nil=>rfl
  | cons y ys=>obtain ⟨ad,h1,_⟩:=hc 0 _ (Zj (by simp));cases h1
 | some ad=>
  right
  refine ⟨ad,rfl,fun j hj=> ?_⟩
  obtain ⟨ad',h1,h2⟩:=hc j _ (Zj hj)
  cases h1
  exact h2
def Zbl (P:Program) (h:Z9) (s d:TypeId) (x:AV) (K:AV->Prop):Prop:=
 match P.underlying s,P.underlying d with
 | some (.slice e),some .string=>match P.underlying e with
  | some (.int .u8)=>Uw h .u8 x fun ys=>K (.str (strOf ys))
  | _=>False
 | _,_=>Z95 P s d x K
theorem Z97 {k:IntKind} (ys:LI):∀j v,(ys.map (Value.int k))[j]? =some v->j<ys.length/\v=.int k (ys.getD j 0):=fun j v hj=>by
 rw [JT] at hj
 cases hq:ys[j]? with
 | none=>rw [hq] at hj;cases hj
 | some y=>
  rw [hq] at hj
  cases hj
  have:=Js.1 hq
  exact ⟨this.1,by simp [J2,hq]⟩
theorem Z76 {P:Program} {h:Z9} {s d:TypeId} {x:AV} {K:AV->Prop} (hl:Zbl P h s d x K):
  ∃v,K v/\∀(E:Env) (w:World) (r:Value),Emb E h w->Zc E x r->∃r',(convert s d r).run P w=.ok r' w/\Zc E v r':=by
 unfold Zbl at hl
 split at hl
 ·rename_i e hs hd
  split at hl
  ·rename_i he
   obtain ⟨ys,hK,hr⟩:=XG hl
   refine ⟨_,hK,fun E w r hem hx=>⟨_, ?_,.str _⟩⟩
   obtain ⟨a,c,rfl,hm,hc⟩:=Z1B (hr E w r hem hx)
   rw [run_convert_bytes_string w s d e a _ c hs he hd]
   rcases hc with ⟨rfl,rfl⟩|⟨ad,rfl,hc⟩
   ·simp [Conv.bytesToString,strOf,ByteArray.empty,ByteArray.emptyWithCapacity];rfl
   ·rw [run_bytesToString w ad _ c ys]
    ·rw [Z1A];simp [strOf,ByteArray.empty,ByteArray.emptyWithCapacity];rfl
    ·have:=run_loadCells_list (P:=P) w ad (ys.map (Value.int .u8)) (fun j v hj=>by
      obtain ⟨h1,h2⟩:=Z97 ys j v hj
      rw [h2];exact hc j h1)
     simpa [hm] using this
  ·exact hl.elim
 ·obtain ⟨v,hK,hv⟩:=Z96 hl
  exact ⟨v,hK,fun E w r _ hx=>hv E w r hx⟩
def Xh (xs ys:LI):Int:=Lib.compareBytes (xs.map W2) (ys.map W2)
theorem run_loadBytes {P:Program} {w:World}:∀(ys:LI) (ad:Addr) (acc:ByteArray),(∀j,j<ys.length->w.cell? (ad.add j)=some (.int .u8 (ys.getD j 0)))->
  (Extern.Bytes.loadBytes ad ys.length acc).run P w=.ok ⟨acc.data++(ys.map W2).toArray⟩ w
 | [],ad,acc,_=>by simp [Extern.Bytes.loadBytes]
 | y::ys,ad,acc,h=>by
  have h0:=h 0 (by simp)
  have e0:ad.add 0=ad:=by simp [Addr.add]
  rw [e0] at h0
  have hload:(load ad).run P w=.ok (.int .u8 y) w:=by
   simp [h0]
  simp only [Jw,Extern.Bytes.loadBytes,J6,hload,J4]
  have hadd:∀j,(ad.add 1).add j=ad.add (j+1):=fun j=>by
   unfold Addr.add
   by_cases hj:j=0
   ·subst hj;simp
   ·simp [hj];omega
  rw [run_loadBytes ys (ad.add 1) _ (fun j hj=>by rw [hadd];have:=h (j+1) (by simpa using hj);simpa using this)]
  simp [ByteArray.push,W2,Nat.toUInt8]
theorem Z0j {P:Program} {w:World} {r:Value} {m:Nat} (h:Reads w 1 r m (intCells .u8 ys.length ys)):(Extern.Bytes.bytesOf r).run P w=.ok (strOf ys) w:=by
 obtain ⟨a,c,rfl,hm,hc⟩:=Z1B h
 rcases hc with ⟨rfl,rfl⟩|⟨ad,rfl,hc⟩
 ·simp [Extern.Bytes.bytesOf,strOf,ByteArray.empty,ByteArray.emptyWithCapacity];rfl
 ·simp only [Extern.Bytes.bytesOf,hm]
  rw [run_loadBytes ys ad _ hc]
  simp [strOf,ByteArray.empty,ByteArray.emptyWithCapacity];rfl
def ZdE (h:Z9) (args:List AV) (K:AV->Prop):Prop:=
 match args with
 | [a,b]=>Uw h .u8 a fun xs=>Uw h .u8 b fun ys=>K (.int .i64 (Xh xs ys))
 | _=>False
theorem Zbm {P:Program} {h:Z9} {K:AV->Prop} (hl:ZdE h args K):∃v,K v/\∀(E:Env) (w:World) (rs:List Value),Emb E h w->Zw E args rs->∃r,(Extern.BytealgCompare.compare rs.toArray).run P w=.ok r w/\Zc E v r:=by
 unfold ZdE at hl
 split at hl
 ·obtain ⟨xs,hl,h1⟩:=XG hl
  obtain ⟨ys,hl,h2⟩:=XG hl
  refine ⟨_,hl,fun E w rs he hr=> ?_⟩
  cases hr with
  | cons v c vs cs ha hb=>cases hb with
   | cons v2 c2 vs2 cs2 ha2 hb2=>cases hb2 with
    | nil=>
     refine ⟨_, ?_,.int _ _⟩
     change Sem.run P (do pure (goInt (Extern.BytealgCompare.cmp (<-Extern.Bytes.bytesOf c) (<-Extern.Bytes.bytesOf c2)))) w=_
     simp only [J6,Z0j (h1 E w c he ha),Z0j (h2 E w c2 he ha2),J4,Ji]
     rw [Lib.cmp_eq]
     rfl
 ·exact hl.elim
def Zbn (lt:Bool) (args:List AV) (K:AV->Prop):Prop:=
 match args with
 | [.int k a,.int k' b]=>match decide (k=k') with
  | true=>match lt with
   | true=>K (.int k (if b<a then b else a))
   | false=>K (.int k (if b>a then b else a))
  | false=>False
 | _=>False
def Z5X (P:Program) (h:Z9) (s d:TypeId) (x:AV) (K:AV->Z9->Prop) (L:Prop):Prop:=
 match P.underlying s,P.underlying d,x with
 | some .string,some (.slice e),.str b=>match P.underlying e with
  | some (.int .u8)=>K (.nslice ⟨h.next,0,0,0,0⟩ 1 (Ub b).length (Ub b).length) (h.add (.ints .u8 (Ub b)))
  | _=>False
 | _,_,_=>L
theorem Z82 {P:Program} {h:Z9} {s d:TypeId} {x:AV} {K:AV->Z9->Prop} {L:Prop} (hl:Z5X P h s d x K L):
  L\/∃v h',K v h'/\∀(E:Env) (w:World) (r:Value),Emb E h w->Zc E x r->∃r' w' E',(convert s d r).run P w=.ok r' w'/\Evo E h w E' h' w'/\Zc E' v r':=by
 unfold Z5X at hl
 split at hl
 ·rename_i e b hs hd
  split at hl
  ·rename_i he
   right
   refine ⟨_,_,hl,fun E w r hem hx=> ?_⟩
   cases hx
   have hrun:=run_bytes_of_string (P:=P) w s d e b hs hd he
   have hlen:(Ub b).length=b.size:=by unfold Ub;rw [List.length_map];rfl
   generalize hcap:grownCap w b.size 0 e=cap at hrun
   have hcap':b.size<=cap:=by rw [<-hcap];exact grownCap_ge _ _ _ _
   generalize hrow:bytesRow b cap=row at hrun
   have hsz:row.size=cap:=by
    rw [<-hrow]
    unfold bytesRow
    have:b.data.size=b.size:=rfl
    simp only [Array.size_append,Array.size_map,Array.size_replicate]
    omega
   have hev1:Evo E h w E h w.drew:=Z13 hem rfl rfl rfl ⟨rfl,Nat.le_succ _⟩
   refine ⟨_,_,E.ext h.next w.heap.size cap,hrun,hev1.trans (W8 (w:=w.drew) hev1.emb _ cap _ ?_), ?_⟩
   ·refine .ints _ _ w.heap.size row e (row.size,row.size+1) (by rw [hsz];exact Env.ext_same _ _ _ _) (by show (w.heap.push _)[w.heap.size]? =_;simp) (fun o ho=>by omega) (fun j hj=> ?_)
    rw [<-hrow]
    unfold bytesRow
    rw [hlen] at hj
    have hj':j<b.data.size:=hj
    rw [Array.getElem?_append_left (by simpa using hj')]
    simp [Ub,J2,Array.getElem?_eq_getElem hj']
   ·rw [hlen]
    exact .nslice _ _ _ _ w.heap.size cap cap (Env.ext_same _ _ _ _) hcap' hcap' (by simp [ZN.tot])
  ·exact hl.elim
 ·exact .inl hl
def Z5Y (P:Program) (op:BinOp) (T:TypeId) (ox oy:Operand) (x y:AV) (K:AV->Prop):Prop:=
 match x,y with
 | .agg cs,.agg cs'=>Z5Q P op T (.agg cs) (.agg cs') K
 | x,y=>Z5H P op T ox oy x y K
theorem Z83 {P:Program} {T:TypeId} {x y:AV} {K:AV->Prop} (h:Z5Y P op T ox oy x y K):
  ∃v,K v/\∀(E:Env) (w:World) (rx ry:Value),Zc E x rx->Zc E y ry->∃r,(do eqGuard op T ox oy rx ry;binOp op T rx ry).run P w=.ok r w/\Zc E v r:=by
 unfold Z5Y at h
 split at h
 ·exact Z81 h
 ·exact Z7X h
def opQ (P:Program) (o:Op) (t:ZL) (h:Z9) (K:AV->Prop):Prop:=
 match o with
 | .move x=>K (aev t x)
 | .assign x=>K (aev t x)
 | .pick c a b=>match aev t c with
  | .bool e=>Z7 e (K (aev t a)) (K (aev t b))
  | _=>False
 | .build T ps=>Z5C P T (Z94 t ps.toList) K
 | .load T a=>Z6Y P h T (aev t a) K
 | .nilCheck x=>Z2C (aev t x) K
 | .binOp op T x y _=>Z5Y P op T x y (aev t x) (aev t y) K
 | .unOp op _ x=>unA op (aev t x) K
 | .convert s d x=>Zbl P h s d (aev t x) K
 | .makeInterface T x=>Z4C P T (aev t x) K
 | .makeFunc (.func f) first cap=>K (.func (.func f) (Z3A t first.toList) (Z3A t cap.toList))
 | .slice T x lo hi mx=>Z5z P h T (aev t x) (lo.map (aev t)) (hi.map (aev t)) (mx.map (aev t)) K
 | .fieldAddr S x f=>Z5x P S (aev t x) f K
 | .field S x f=>Z5K P S (aev t x) f K
 | .indexAddr T x i=>Z5y P h T (aev t x) (aev t i) K
 | .index T x i=>Z5L P T (aev t x) (aev t i) K
 | .extract x i=>Z1r (aev t x) i K
 | .typeAssert x _ asserted ok=>VB P (aev t x) asserted ok K
 | .call ⟨.builtin .len,args,tys⟩=>match args.toList,tys.toList with
  | [x],[T]=>ZdB P h T (aev t x) K
  | _,_=>False
 | .call ⟨.builtin .min,args,_⟩=>Zbn true (Z3A t args.toList) K
 | .call ⟨.builtin .max,args,_⟩=>Zbn false (Z3A t args.toList) K
 | .lookup T m k ok=>Z3M P h T (aev t m) (aev t k) ok K
 | .sliceToArrayPointer T x=>Z3D P T (aev t x) K
 | _=>False
def worldless:Op->Bool
 | .move _|.assign _|.pick .. |.build .. |.nilCheck _|.binOp .. |.unOp .. |.makeInterface .. |.makeFunc .. |.fieldAddr .. |.indexAddr .. |.field .. |.index .. |.extract .. |.typeAssert .. |.sliceToArrayPointer .. =>true
 | _=>false
def opA (P:Program) (o:Op) (t:ZL) (h:Z9) (K:AV->Z9->Prop):Prop:=
 match o with
 | .alloc e=>Z1d P h e K
 | .box _ x=>ZdA h (aev t x) K
 | .buildSlice T len ps=>XF P h T len (Z94 t ps.toList) K
 | .makeMap _ none=>K (.map (some h.next)) (h.add (.map []))
 | .call ⟨.builtin .append,args,tys⟩=>match args.toList,tys.toList with
  | [s,x],[T,T']=>match Nat.beq T T' with
   | true=>Z3v P h T (aev t s) (aev t x) K
   | false=>Z3x P h T T' (aev t s) (aev t x) K
  | _,_=>False
 | .call ⟨.builtin .copy,args,tys⟩=>match args.toList,tys.toList with
  | [d,s],[T,_]=>Z90 P h T (aev t d) (aev t s) K
  | _,_=>False
 | .convert s d x=>Z5X P h s d (aev t x) K (Zbl P h s d (aev t x) fun v=>K v h)
 | o=>opQ P o t h fun v=>K v h
def ZdF (lt:Bool) (k:IntKind) (a b:Int):AV:=match lt with|true=>.int k (if b<a then b else a)|false=>.int k (if b>a then b else a)
theorem Z4J {lt:Bool} {K:AV->Prop} (h:Zbn lt args K):∃k a b,args=[.int k a,.int k b]/\K (ZdF lt k a b):=by
 unfold Zbn at h
 split at h
 ·split at h
  ·rename_i hk
   have hk:=of_decide_eq_true hk
   subst hk
   cases lt with
   | true=>exact ⟨_,_,_,rfl,h⟩
   | false=>exact ⟨_,_,_,rfl,h⟩
  ·exact h.elim
 ·exact h.elim
theorem Z77 {E:Env} {k:IntKind} {a b:Int} (h:Zw E [.int k a,.int k b] rs):rs=[.int k a,.int k b]:=by
 cases h with
 | cons v c vs cs h1 h2=>cases h2 with
  | cons v c vs cs h3 h4=>cases h1;cases h3;cases h4;rfl
theorem Z5Z {P:Program} {o:Oper} {t:ZL} {h:Z9} {K:AV->Prop} (hl:opQ P o.op t h K):
  ∃v,K v/\∀(E:Env) (w:World) (n:Nat) (a:Act),(worldless o.op=false->Emb E h w)->WL E n t a.tmps->∃r,(execOp a.eval o).run P w=.ok (.value r) w/\Zc E v r:=by
 unfold opQ at hl
 split at hl
 ·rename_i x ho
  exact ⟨_,hl,fun E w n a he ht=>⟨_,by simp [execOp,ho],Zo ht x⟩⟩
 ·rename_i x ho
  exact ⟨_,hl,fun E w n a he ht=>⟨_,by simp [execOp,ho],Zo ht x⟩⟩
 ·rename_i c x y ho
  split at hl
  ·rename_i e hc
   cases e with
   | true=>
    refine ⟨_,hl,fun E w n a he ht=>⟨a.eval x, ?_,Zo ht x⟩⟩
    have h1:=Zo ht c
    rw [hc] at h1
    cases hcv:a.eval c<;>rw [hcv] at h1<;>cases h1
    simp [execOp,ho,hcv,asBool]
   | false=>
    refine ⟨_,hl,fun E w n a he ht=>⟨a.eval y, ?_,Zo ht y⟩⟩
    have h1:=Zo ht c
    rw [hc] at h1
    cases hcv:a.eval c<;>rw [hcv] at h1<;>cases h1
    simp [execOp,ho,hcv,asBool]
  ·exact hl.elim
 ·rename_i T ps ho
  obtain ⟨v,hK,hv⟩:=Z7W hl
  refine ⟨v,hK,fun E w n a he ht=> ?_⟩
  obtain ⟨r,h1,h2⟩:=hv E w _ (VA ht ps.toList)
  refine ⟨r, ?_,h2⟩
  have e:(ps.map fun (x:Nat×Operand)=>(x.1,a.eval x.2))=(ps.toList.map fun (x:Nat×Operand)=>(x.1,a.eval x.2)).toArray:=by apply JJ;simp
  simp only [execOp,ho,J6]
  rw [e,h1]
  simp
 ·rename_i T x ho
  obtain ⟨v,hK,hv⟩:=Z4r hl
  refine ⟨v,hK,fun E w n a he ht=> ?_⟩
  obtain ⟨ad,r,e1,h1,h2⟩:=hv E w _ (he (by rw [ho];rfl)) (Zo ht x)
  exact ⟨r,by simp [execOp,ho,Instr.loadAt,e1,Instr.sureAddr,h1],h2⟩
 ·rename_i x ho
  unfold Z2C at hl
  split at hl
  ·rename_i p hx
   refine ⟨_,hl,fun E w n a he ht=> ?_⟩
   have h1:=Zo ht x
   rw [hx] at h1
   refine ⟨a.eval x, ?_,h1⟩
   cases hcv:a.eval x<;>rw [hcv] at h1<;>cases h1
   simp [execOp,ho,hcv]
  ·rename_i cs inn hx
   refine ⟨_,hl,fun E w n a he ht=> ?_⟩
   have h1:=Zo ht x
   rw [hx] at h1
   refine ⟨a.eval x, ?_,h1⟩
   cases hcv:a.eval x<;>rw [hcv] at h1<;>cases h1
   simp [execOp,ho,hcv]
  ·rename_i f b c hx
   refine ⟨_,hl,fun E w n a he ht=> ?_⟩
   have h1:=Zo ht x
   rw [hx] at h1
   refine ⟨a.eval x, ?_,h1⟩
   cases hcv:a.eval x<;>rw [hcv] at h1<;>cases h1
   simp [execOp,ho,hcv]
  ·rename_i y hx
   refine ⟨_,hl,fun E w n a he ht=> ?_⟩
   have h1:=Zo ht x
   rw [hx] at h1
   refine ⟨a.eval x, ?_,h1⟩
   cases hcv:a.eval x<;>rw [hcv] at h1<;>cases h1
   simp [execOp,ho,hcv]
  ·exact hl.elim
 ·rename_i op T x y yt ho
  obtain ⟨v,hK,hv⟩:=Z83 hl
  refine ⟨v,hK,fun E w n a he ht=> ?_⟩
  obtain ⟨r,h1,h2⟩:=hv E w _ _ (Zo ht x) (Zo ht y)
  exact ⟨r,by simp only [execOp,ho];rw [J6,h1];rfl,h2⟩
 ·rename_i op T x ho
  obtain ⟨v,hK,hv⟩:=ZdD hl P
  refine ⟨v,hK,fun E w n a he ht=> ?_⟩
  obtain ⟨r,h1,h2⟩:=hv E w _ (Zo ht x)
  exact ⟨r,by simp [execOp,ho,h1],h2⟩
 ·rename_i s d x ho
  obtain ⟨v,hK,hv⟩:=Z76 hl
  refine ⟨v,hK,fun E w n a he ht=> ?_⟩
  obtain ⟨r,h1,h2⟩:=hv E w _ (he (by rw [ho];rfl)) (Zo ht x)
  exact ⟨r,by simp [execOp,ho,h1],h2⟩
 ·rename_i T x ho
  unfold Z4C at hl
  split at hl
  ·exact hl.elim
  ·exact hl.elim
  ·rename_i d hni hu
   refine ⟨_,hl,fun E w n a he ht=>⟨.iface T (a.eval x), ?_,.iface _ _ _ (Zo ht x)⟩⟩
   simp only [execOp,ho,Instr.makeInterface,J6,Za hu,J4]
   cases d<;>first|exact absurd hu (hni _)|simp
 ·rename_i f first cap ho
  refine ⟨_,hl,fun E w n a he ht=>⟨.func (.func f) (first.map a.eval) (cap.map a.eval),by simp [execOp,ho,Instr.makeFunc], ?_⟩⟩
  rw [show first.map a.eval=(first.toList.map a.eval).toArray from by apply JJ;simp,show cap.map a.eval=(cap.toList.map a.eval).toArray from by apply JJ;simp]
  exact Zc.func (.func f) _ _ _ _ (Wg ht first.toList) (Wg ht cap.toList)
 ·rename_i T x lo hi mx ho
  obtain ⟨v,hK,hv⟩:=Z7U hl
  refine ⟨v,hK,fun E w n a he ht=> ?_⟩
  obtain ⟨r,h1,h2⟩:=hv E w _ _ _ _ (he (by rw [ho];rfl)) (Zo ht x) (Z1q ht lo) (Z1q ht hi) (Z1q ht mx)
  exact ⟨r,by simp [execOp,ho,h1],h2⟩
 ·rename_i S x f ho
  obtain ⟨v,hK,hv⟩:=Z7R hl
  refine ⟨v,hK,fun E w n a he ht=> ?_⟩
  obtain ⟨r,h1,h2⟩:=hv E w _ (Zo ht x)
  exact ⟨r,by simp [execOp,ho,h1],h2⟩
 ·rename_i S x f ho
  obtain ⟨v,hK,hv⟩:=Z7Z hl
  refine ⟨v,hK,fun E w n a he ht=> ?_⟩
  obtain ⟨r,h1,h2⟩:=hv E w _ (Zo ht x)
  exact ⟨r,by simp [execOp,ho,h1],h2⟩
 ·rename_i T x i ho
  obtain ⟨v,hK,hv⟩:=Z7S hl
  refine ⟨v,hK,fun E w n a he ht=> ?_⟩
  obtain ⟨r,h1,h2⟩:=hv E w _ _ (Zo ht x) (Zo ht i)
  exact ⟨r,by simp [execOp,ho,h1],h2⟩
 ·rename_i T x i ho
  obtain ⟨v,hK,hv⟩:=Z80 hl
  refine ⟨v,hK,fun E w n a he ht=> ?_⟩
  obtain ⟨r,h1,h2⟩:=hv E w _ _ (Zo ht x) (Zo ht i)
  exact ⟨r,by simp [execOp,ho,h1],h2⟩
 ·rename_i x i ho
  obtain ⟨v,hK,hv⟩:=Z4B hl P
  refine ⟨v,hK,fun E w n a he ht=> ?_⟩
  obtain ⟨r,h1,h2⟩:=hv E w _ (Zo ht x)
  exact ⟨r,by simp [execOp,ho,h1],h2⟩
 ·rename_i x xt asserted ok ho
  obtain ⟨v,hK,hv⟩:=Z1s (xt:=xt) hl
  refine ⟨v,hK,fun E w n a he ht=> ?_⟩
  obtain ⟨r,h1,h2⟩:=hv E w _ (Zo ht x)
  exact ⟨r,by simp [execOp,ho,h1],h2⟩
 ·rename_i args tys ho
  split at hl
  ·rename_i x T hx hT
   obtain ⟨v,hK,hv⟩:=Zbc (ty:=o.type) hl
   refine ⟨v,hK,fun E w n a he ht=> ?_⟩
   obtain ⟨r,h1,h2⟩:=hv E w _ (he (by rw [ho];rfl)) (Zo ht x)
   refine ⟨r, ?_,h2⟩
   have e1:args= #[x]:=by rw [<-Array.toArray_toList (xs:=args),hx]
   have e2:tys= #[T]:=by rw [<-Array.toArray_toList (xs:=tys),hT]
   simp [execOp,ho,resolve,invoke,builtin,e1,e2,h1]
  ·exact hl.elim
 ·rename_i args tys ho
  obtain ⟨k,x,y,hargs,hK⟩:=Z4J hl
  refine ⟨_,hK,fun E w n a he ht=> ?_⟩
  have hr:=Wg ht args.toList
  rw [hargs] at hr
  have hmap:=Z77 hr
  refine ⟨_, ?_,by unfold ZdF;exact .int _ _⟩
  have e1:args.map a.eval= #[.int k x,.int k y]:=by apply JJ;simp [hmap]
  simp [execOp,ho,resolve,invoke,builtin,e1,Builtin.min_,Builtin.min2]
 ·rename_i args tys ho
  obtain ⟨k,x,y,hargs,hK⟩:=Z4J hl
  refine ⟨_,hK,fun E w n a he ht=> ?_⟩
  have hr:=Wg ht args.toList
  rw [hargs] at hr
  have hmap:=Z77 hr
  refine ⟨_, ?_,by unfold ZdF;exact .int _ _⟩
  have e1:args.map a.eval= #[.int k x,.int k y]:=by apply JJ;simp [hmap]
  simp [execOp,ho,resolve,invoke,builtin,e1,Builtin.max_,Builtin.max2]
 ·rename_i T m k ok ho
  obtain ⟨v,hK,hv⟩:=Z5W hl
  refine ⟨v,hK,fun E w n a he ht=> ?_⟩
  obtain ⟨r,h1,h2⟩:=hv E w _ _ (he (by rw [ho];rfl)) (Zo ht m) (Zo ht k)
  exact ⟨r,by simp [execOp,ho,h1],h2⟩
 ·rename_i T x ho
  obtain ⟨v,hK,hv⟩:=Z5P hl
  refine ⟨v,hK,fun E w n a he ht=> ?_⟩
  obtain ⟨r,h1,h2⟩:=hv E w _ (Zo ht x)
  exact ⟨r,by simp [execOp,ho,h1],h2⟩
 ·exact hl.elim
theorem Z98 {P:Program} {o:Oper} {t:ZL} {h:Z9} {K:AV->Z9->Prop} (hl:opA P o.op t h K):
  ∃v h',K v h'/\∀(E:Env) (w:World) (n:Nat) (a:Act),Emb E h w->WL E n t a.tmps->
   ∃r w' E',(execOp a.eval o).run P w=.ok (.value r) w'/\Evo E h w E' h' w'/\Zc E' v r:=by
 unfold opA at hl
 split at hl
 ·rename_i e ho
  obtain ⟨v,h',hK,hv⟩:=Z7V hl
  refine ⟨v,h',hK,fun E w n a he ht=> ?_⟩
  obtain ⟨r,w',E',h1,h2,h3⟩:=hv E w (.tuple #[]) he
  exact ⟨r,w',E',by simp [execOp,ho,h1],h2,h3⟩
 ·rename_i e x ho
  obtain ⟨v,h',hK,hv⟩:=Zbb hl P e
  refine ⟨v,h',hK,fun E w n a he ht=> ?_⟩
  obtain ⟨r,w',E',h1,h2,h3⟩:=hv E w _ he (Zo ht x)
  exact ⟨r,w',E',by simp [execOp,ho,h1],h2,h3⟩
 ·rename_i T len ps ho
  obtain ⟨v,h',hK,hv⟩:=Z1j hl
  refine ⟨v,h',hK,fun E w n a he ht=> ?_⟩
  obtain ⟨r,w',E',h1,h2,h3⟩:=hv E w _ he (VA ht ps.toList)
  refine ⟨r,w',E', ?_,h2,h3⟩
  have e:(ps.map fun (x:Nat×Operand)=>(x.1,a.eval x.2))=(ps.toList.map fun (x:Nat×Operand)=>(x.1,a.eval x.2)).toArray:=by apply JJ;simp
  simp only [execOp,ho,J6]
  rw [e,h1]
  simp
 ·rename_i T ho
  refine ⟨_,_,hl,fun E w n a he ht=> ?_⟩
  obtain ⟨r,w',E',h1,h2,h3⟩:=Z5O (P:=P) (T:=T) he
  exact ⟨r,w',E',by simp [execOp,ho,h1],h2,h3⟩
 ·rename_i args tys ho
  split at hl
  ·rename_i s x T T' hx hT
   have e1:args= #[s,x]:=by rw [<-Array.toArray_toList (xs:=args),hx]
   have e2:tys= #[T,T']:=by rw [<-Array.toArray_toList (xs:=tys),hT]
   split at hl
   ·rename_i hb
    have hTT:T=T':=J0 hb
    subst hTT
    obtain ⟨v,h',hK,hv⟩:=Z5F (ty:=o.type) hl
    refine ⟨v,h',hK,fun E w n a he ht=> ?_⟩
    obtain ⟨r,w',E',h1,h2,h3⟩:=hv E w _ _ he (Zo ht s) (Zo ht x)
    exact ⟨r,w',E',by simp [execOp,ho,resolve,invoke,builtin,e1,e2,h1],h2,h3⟩
   ·obtain ⟨v,h',hK,hv⟩:=Z5G (ty:=o.type) hl
    refine ⟨v,h',hK,fun E w n a he ht=> ?_⟩
    obtain ⟨r,w',E',h1,h2,h3⟩:=hv E w _ _ he (Zo ht s) (Zo ht x)
    exact ⟨r,w',E',by simp [execOp,ho,resolve,invoke,builtin,e1,e2,h1],h2,h3⟩
  ·exact hl.elim
 ·rename_i args tys ho
  split at hl
  ·rename_i d s T T' hx hT
   have e1:args= #[d,s]:=by rw [<-Array.toArray_toList (xs:=args),hx]
   have e2:tys= #[T,T']:=by rw [<-Array.toArray_toList (xs:=tys),hT]
   obtain ⟨v,h',hK,hv⟩:=Z91 (t2:=T') (ty:=o.type) hl
   refine ⟨v,h',hK,fun E w n a he ht=> ?_⟩
   obtain ⟨r,w',E',h1,h2,h3⟩:=hv E w _ _ he (Zo ht d) (Zo ht s)
   exact ⟨r,w',E',by simp [execOp,ho,resolve,invoke,builtin,e1,e2,h1],h2,h3⟩
  ·exact hl.elim
 ·rename_i s d x ho
  rcases Z82 hl with hl|⟨v,h',hK,hv⟩
  ·obtain ⟨v,hK,hv⟩:=Z76 hl
   refine ⟨v,h,hK,fun E w n a he ht=> ?_⟩
   obtain ⟨r,h1,h2⟩:=hv E w _ he (Zo ht x)
   exact ⟨r,w,E,by simp [execOp,ho,h1],.refl he,h2⟩
  ·refine ⟨v,h',hK,fun E w n a he ht=> ?_⟩
   obtain ⟨r,w',E',h1,h2,h3⟩:=hv E w _ he (Zo ht x)
   exact ⟨r,w',E',by simp [execOp,ho,h1],h2,h3⟩
 ·obtain ⟨v,hK,hv⟩:=Z5Z hl
  refine ⟨v,h,hK,fun E w n a he ht=> ?_⟩
  obtain ⟨r,q1,q2⟩:=hv E w n a (fun _=>he) ht
  exact ⟨r,w,E,q1,.refl he,q2⟩
inductive VD where
 | call (f:FuncId) (args:List AV)
 | mark (x:Nat)
structure St where
 n:Nat
 t:ZL
 h:Z9
 d:List VD
inductive Ex where
 | normal
 | exit (id:Nat)
 | goto (l:Nat)
 | ret
 | panic (v:AV)
inductive Out where
 | ret (v:AV)
 | panic (v:AV)
abbrev KO:=Out->Z9->Prop
abbrev KE:=Ex->St->Prop
abbrev ZJ:=List AV->Z9->(AV->Prop)->Prop
structure Ctx where
 pure:FuncId->Option ZJ
 call:FuncId->List AV->Z9->KO->Prop
 round:Nat->List AV->Z9->KO->Prop
 fn:FuncId
 inR:Option Nat
variable {cx:Ctx}
inductive Vg (E:Env):List VD->List Deferred->Prop
 | nil:Vg E [] []
 |call (f:FuncId) (args:List AV) (fn:Fn) (cap rs:Array Value) (ds:List VD) (rd:List Deferred) (hf:fn=.func f) (hl:Zw E args (rs.toList++cap.toList)) (t:Vg E ds rd):
   Vg E (.call f args::ds) (⟨.fn fn cap,rs⟩::rd)
 | mark (x b N:Nat) (ds:List VD) (rd:List Deferred) (h:E.blk x=some (b,N)) (t:Vg E ds rd):Vg E (.mark x::ds) (⟨.collected b, #[]⟩::rd)
theorem Vg.mono {E E':Env} (le:E.le E'):∀{ds:List VD} {rd:List Deferred},Vg E ds rd->Vg E' ds rd
 | _,_,.nil=>.nil
 | _,_,.call f args fn cap rs ds rd hf hl t=>.call f args fn cap rs ds rd hf (hl.mono le) (Vg.mono le t)
 | _,_,.mark x b N ds rd h t=>.mark x b N ds rd (le.blk _ _ h) (Vg.mono le t)
structure WQ (E:Env) (s:St) (a:Act) (w:World):Prop where
 emb:Emb E s.h w
 tmps:WL E s.n s.t a.tmps
 defs:Vg E s.d a.defers
inductive Z1C (E:Env):Ex->Exit->Prop
 | normal:Z1C E .normal .normal
 | exit (id:Nat):Z1C E (.exit id) (.exit id)
 | goto (l:Nat):Z1C E (.goto l) (.goto l)
 | ret:Z1C E .ret .ret
 | panic (v:AV) (r:Value) (h:Zc E v r):Z1C E (.panic v) (.panic [{ v:=r,recovered:=false}])
inductive UR (E:Env):Out->Ending->Prop
 | ret (v:AV) (r:Value) (h:Zc E v r):UR E (.ret v) (.returned r)
 | panic (v:AV) (r:Value) (h:Zc E v r):UR E (.panic v) (.panicked [{ v:=r,recovered:=false}])
def Zh (P:Program) (f:FuncId) (args:List AV) (h:Z9) (K:KO):Prop:=
 ∀(E:Env) (w:World) (rs:List Value),Emb E h w->Zw E args rs->
  Calls P f rs.toArray w fun e w'=>∃E' o h',K o h'/\Evo E h w E' h' w'/\UR E' o e
def Z99 (P:Program) (x:Nat) (args:List AV) (h:Z9) (K:KO):Prop:=
 ∀(E:Env) (w:World) (rs:List Value) (b N:Nat),Emb E h w->Zw E args rs->E.blk x=some (b,N)->
  ∃f tmps assign body,(Instr.yield b rs.toArray).run P w=.ok (.round b f tmps assign body) w/\
   RoundIn Fence.wide 0 P b f tmps assign body w fun e w'=>∃E' o h',K o h'/\Evo E h w E' h' w'/\UR E' o e
structure Ctx.Ok (P:Program) (cx:Ctx):Prop where
 pure:∀f S args h K,cx.pure f=some S->S args h K->Zh P f args h fun o h'=>∃v,o=.ret v/\h'=h/\K v
 call:∀f args h K,cx.call f args h K->Zh P f args h K
 round:∀x args h K,cx.round x args h K->Z99 P x args h K
def Vs (s:St) (dst:Option Tmp) (v:AV) (K:St->Prop):Prop:=
 match dst with
 | none=>K s
 | some d=>match Nat.blt d s.n with
  | true=>K { s with t:=Vv s.t d v}
  | false=>False
theorem Uc {s:St} {dst:Option Tmp} {K:St->Prop} (h:Vs s dst v K):
  ∃s',K s'/\s'.h=s.h/\s'.n=s.n/\∀(E:Env) (a:Act) (w:World) (r:Value),WQ E s a w->Zc E v r->WQ E s' (a.put dst r) w:=by
 unfold Vs at h
 split at h
 ·exact ⟨s,h,rfl,rfl,fun E a w r hs hv=>hs⟩
 ·rename_i d
  split at h
  ·rename_i hb
   have hd:d<s.n:=Jh hb
   refine ⟨_,h,rfl,rfl,fun E a w r hs hv=>⟨hs.emb,⟨?_,fun x u hx=> ?_⟩,hs.defs⟩⟩
   ·simp [Act.put,hs.tmps.size]
   ·simp only [Act.put]
    by_cases hxd:d=x
    ·subst hxd
     rw [X7] at hx
     cases hx
     have:d<a.tmps.size:=by rw [hs.tmps.size];exact hd
     simp only [Jc,Jk,if_true,this]
     exact hv
    ·rw [YW _ _ _ _ hxd] at hx
     have:=hs.tmps.get x u hx
     simpa [Jc,Jk,hxd] using this
  ·exact h.elim
theorem Z9a {fn:Func} (h:fn.name= "internal/bytealg.Compare"):Extern.find fn=some Extern.BytealgCompare.compare:=by
 have h1:Extern.allGenericRows.lookup "internal/bytealg.Compare" =none:=by kernel_rfl
 have h2:Extern.allTypedRows.lookup "internal/bytealg.Compare" =none:=by kernel_rfl
 have h3:Extern.allRows.lookup "internal/bytealg.Compare" =some Extern.BytealgCompare.compare:=by kernel_rfl
 simp [Extern.find,h,h1,h2,h3]
theorem Z3N {fn:Func} (h:fn.name= "internal/bytealg.Compare") (ho:fn.origin= ""):Extern.findNext fn=none:=by
 have h1:Extern.allNextRows.lookup "internal/bytealg.Compare" =none:=by kernel_rfl
 have h2:Extern.allNextRows.lookup "" =none:=by kernel_rfl
 simp [Extern.findNext,h,ho,h1,h2]
def Z9b (cx:Ctx) (P:Program) (f:AV) (args:List AV) (h:Z9) (K:KO):Prop:=
 match f with
 | .func (.func g) first cap=>match P.funcs[g]? with
  | some fn=>match fn.body.isSome&& !(fn.name== "runtime.NumGoroutine") with
   | true=>cx.call g (first++args++cap) h K
   | false=>match fn.body.isNone&&fn.name== "internal/bytealg.Compare" &&fn.origin== "" with
    | true=>ZdE h (first++args++cap) fun v=>K (.ret v) h
    | false=>False
  | none=>False
 | .yield x=>cx.round x args h K
 | _=>False
def Z1D (cx:Ctx) (P:Program) (o:Op) (t:ZL) (h:Z9) (d:List VD) (K:AV->Z9->List VD->Prop) (X:AV->Z9->Prop):Prop:=
 match o with
 | .store T x v=>Z5w P h T (aev t x) (aev t v) fun h'=>K (.tuple []) h' d
 | .insert T m k v=>Z0P P h T (aev t m) (aev t k) (aev t v) fun h'=>K (.tuple []) h' d
 | .mapUpdate T m k v=>Z0P P h T (aev t m) (aev t k) (aev t v) fun h'=>K (.tuple []) h' d
 | .call ⟨.value f,args,_⟩=>Z9b cx P (aev t f) (Z3A t args.toList) h fun o h'=>match o with
  | .ret v=>K v h' d
  | .panic v=>X v h'
 | .panic x=>match aev t x with
  | .iface T v=>X (.iface T v) h
  | _=>False
 | .defer ⟨.value f,args,_⟩=>match aev t f,cx.inR with
  | .func (.func g) first cap,none=>match P.funcs[g]? with
   | some fn=>match fn.body.isSome&& !(fn.name== "runtime.NumGoroutine") with
    | true=>K (.tuple []) h (.call g (first++Z3A t args.toList++cap)::d)
    | false=>False
   | none=>False
  | _,_=>False
 | o=>opA P o t h fun v h'=>K v h' d
def Z60 (cx:Ctx) (P:Program) (o:Op) (t:ZL):Option (ZJ×List AV):=
 match o with
 | .call ⟨.value f,args,_⟩=>match aev t f with
  | .func (.func g) first cap=>match cx.pure g with
   | some S=>match P.funcs[g]? with
    | some fn=>match fn.body.isSome&& !(fn.name== "runtime.NumGoroutine") with
     | true=>some (S,first++Z3A t args.toList++cap)
     | false=>none
    | none=>none
   | none=>none
  | _=>none
 | _=>none
def Z61 (P:Program) (ri:Option Nat):Ctx:=⟨fun _=>none,fun f args h K=>Zh P f args h K,fun _ _ _ _=>False,0,ri⟩
theorem Z84 (P:Program) (ri:Option Nat):(Z61 P ri).Ok P:=⟨fun _ _ _ _ _ h=>by simp [Z61] at h,fun _ _ _ _ h=>h,fun _ _ _ _ h=>h.elim⟩
theorem Z4K {P:Program} (hcx:cx.Ok P) {o:Op} {t:ZL} {h:Z9} {d:List VD} {S:ZJ} {N:AV->Prop} (ri:Option Nat) (hp:Z60 cx P o t=some (S,args)) (hs:S args h N):
  Z1D (Z61 P ri) P o t h d (fun v h' d'=>N v/\h'=h/\d'=d) (fun _ _=>False):=by
 unfold Z60 at hp
 split at hp
 ·rename_i f as tys
  split at hp
  ·rename_i g first cap hf
   split at hp
   ·rename_i S' hS
    split at hp
    ·rename_i fn hfn
     split at hp
     ·rename_i hb
      cases hp
      have hc:=hcx.pure g _ _ _ _ hS hs
      simp only [Z1D,Z9b,hf,hfn,hb]
      intro E w rs he hl
      refine (hc E w rs he hl).mono ?_
      rintro e w' ⟨E',o',h',⟨v,rfl,rfl,hN⟩,hev,ho⟩
      exact ⟨E',.ret v,h',by simpa using hN,hev,ho⟩
     ·cases hp
    ·cases hp
   ·cases hp
  ·cases hp
 ·cases hp
def Zd7 (cx:Ctx) (P:Program) (o:Op) (s:St) (K:AV->St->Prop) (X:KE):Prop:=
 match s with
 | ⟨n,t,h,d⟩=>Z1D cx P o t h d (fun v h' d'=>K v ⟨n,t,h',d'⟩) fun v h'=>X (.panic v) ⟨n,t,h',d⟩
def Fr (ro:Option Nat):Fence:={ Fence.wide with round:=ro}
theorem Z1E {n:Nat} {P:Program} {f:FuncId} {args:Array Value} {w:World} {R:Ending->World->Prop} (h:Calls P f args w R):CallsIn (Fr ro) n P f args w R:=(callsIn_wide (n:=n)).2 h
theorem Zw.append {E:Env}:∀{vs us:List AV} {rs ts:List Value},Zw E vs rs->Zw E us ts->Zw E (vs++us) (rs++ts)
 | _,_,_,_,.nil,h=>h
 | _,_,_,_,.cons v c vs cs h t,k=>.cons v c _ _ h (Zw.append t k)
theorem Vh {P:Program} {g:FuncId} {fn:Func} (hf:P.funcs[g]? =some fn) (hb:(fn.body.isSome&& !(fn.name== "runtime.NumGoroutine"))=true) (args:Array Value) (w:World):
  (callFunc g args).run P w=.ok (.enter g args) w:=by
 rw [J3] at hb
 have h1:(fn.name== "runtime.NumGoroutine")=false:=by simpa using hb.2
 have h2:fn.body.isNone=false:=by cases hq:fn.body<;>simp_all
 simp only [callFunc,J6,run_program,J4,hf]
 rw [if_neg (by rw [h1];simp),if_neg (by rw [h2];simp)]
 rfl
theorem ZO {ρ:Operand->Value} {o:Oper} (h:∀c,o.op≠.defer c):o.semAt ro ρ=execOp ρ o:=Oper.semAt_eq ro ρ o h
theorem Z1F {P:Program} (hcx:cx.Ok P) {o:Oper} {t:ZL} {h:Z9} {d:List VD} {K:AV->Z9->List VD->Prop} {X:AV->Z9->Prop} (hl:Z1D cx P o.op t h d K X)
  {E:Env} {h0:Z9} {w:World} {a:Act} {m:Nat} (he:Emb E h w) (ht:WL E m t a.tmps) (hd:Vg E d a.defers) (hev:Evo E0 h0 w0 E h w) (hro:cx.inR=none->ro=none) {n:Nat}
  {next:Act->World->Prop}
  (hK:∀v h' d' E' ds r w',K v h' d'->Evo E h w E' h' w'->Evo E0 h0 w0 E' h' w'->Vg E' d' ds->Zc E' v r->next (({ a with defers:=ds}:Act).put o.dst r) w')
  (hX:∀v h' E' r w',X v h'->Evo E h w E' h' w'->Evo E0 h0 w0 E' h' w'->Zc E' v r->Q (.panic [{ v:=r,recovered:=false}]) a w'):
  o.wpIn (Fr ro) n P a w next Q:=by
 refine ⟨fun _ _=>trivial, ?_⟩
 unfold Z1D at hl
 split at hl
 ·-- a store
  rename_i T x v ho
  rw [show (Fr ro).round=ro from rfl,ZO (fun c e=>by rw [ho] at e;cases e)]
  obtain ⟨h',hk,hr⟩:=Z7Q hl
  obtain ⟨w',h1,h2⟩:=hr E w _ _ he (Zo ht x) (Zo ht v)
  have:(execOp a.eval o).run P w=.ok .skip w':=by simp [execOp,ho,h1]
  rw [this]
  exact hK _ _ _ E a.defers undef w' hk h2 (hev.trans h2) hd (.tuple [] [] .nil)
 ·-- an entry
  rename_i T m k v ho
  rw [show (Fr ro).round=ro from rfl,ZO (fun c e=>by rw [ho] at e;cases e)]
  obtain ⟨h',hk,hr⟩:=Z1z hl
  obtain ⟨w',h1,h2⟩:=hr E w _ _ _ he (Zo ht m) (Zo ht k) (Zo ht v)
  have:(execOp a.eval o).run P w=.ok .skip w':=by simp [execOp,ho,h1]
  rw [this]
  exact hK _ _ _ E a.defers undef w' hk h2 (hev.trans h2) hd (.tuple [] [] .nil)
 ·-- an entry
  rename_i T m k v ho
  rw [show (Fr ro).round=ro from rfl,ZO (fun c e=>by rw [ho] at e;cases e)]
  obtain ⟨h',hk,hr⟩:=Z1z hl
  obtain ⟨w',h1,h2⟩:=hr E w _ _ _ he (Zo ht m) (Zo ht k) (Zo ht v)
  have:(execOp a.eval o).run P w=.ok .skip w':=by simp [execOp,ho,h1]
  rw [this]
  exact hK _ _ _ E a.defers undef w' hk h2 (hev.trans h2) hd (.tuple [] [] .nil)
 ·-- a call
  rename_i f args tys ho
  rw [show (Fr ro).round=ro from rfl,ZO (fun c e=>by rw [ho] at e;cases e)]
  have hf:=Zo ht f
  have ha:=Wg ht args.toList
  unfold Z9b at hl
  split at hl
  ·rename_i g first cap hfv
   rw [hfv] at hf
   split at hl
   ·rename_i fn hfn
    split at hl
    ·rename_i hb
     cases hfe:a.eval f<;>rw [hfe] at hf<;>cases hf
     rename_i fs cs hfs hcs
     have hrun:(execOp a.eval o).run P w=.ok (.enter g (fs.toArray++(args.toList.map a.eval).toArray++cs.toArray)) w:=by
      simp only [execOp,ho,resolve,J6,hfe,Deferred.ofValue,Ji,J4,invoke]
      rw [Vh hfn hb]
      congr 2
      apply JJ
      simp
     rw [hrun]
     refine ⟨fun h=>(by cases h), ?_⟩
     have hcall:=hcx.call _ _ _ _ hl E w (fs++args.toList.map a.eval++cs) he ((hfs.append ha).append hcs)
     have e1:(fs++args.toList.map a.eval++cs).toArray=fs.toArray++(args.toList.map a.eval).toArray++cs.toArray:=by simp
     rw [e1] at hcall
     refine Z1E (hcall.mono ?_)
     rintro e w' ⟨E',out,h',hk,hv,ho'⟩
     cases ho' with
     | ret v r hvr=>exact hK v _ _ E' a.defers r w' hk hv (hev.trans hv) (hd.mono hv.le) hvr
     | panic v r hvr=>exact hX _ _ E' r w' hk hv (hev.trans hv) hvr
    ·split at hl
     ·rename_i hb
      simp only [J3,beq_iff_eq] at hb
      obtain ⟨⟨hb1,hb2⟩,hb3⟩:=hb
      cases hfe:a.eval f<;>rw [hfe] at hf<;>cases hf
      rename_i fs cs hfs hcs
      obtain ⟨v,hK',hv⟩:=Zbm (P:=P) hl
      obtain ⟨r,h1,h2⟩:=hv E w (fs++args.toList.map a.eval++cs) he ((hfs.append ha).append hcs)
      have e1:(fs++args.toList.map a.eval++cs).toArray=fs.toArray++(args.toList.map a.eval).toArray++cs.toArray:=by simp
      have hrun:(execOp a.eval o).run P w=.ok (.value r) w:=by
       simp only [execOp,ho,resolve,J6,hfe,Deferred.ofValue,Ji,J4,invoke]
       have e2:fs.toArray++args.map a.eval++cs.toArray=(fs++args.toList.map a.eval++cs).toArray:=by apply JJ;simp
       rw [e2,run_callFunc_extern hfn (by rw [hb2];rfl) hb1 (Z3N hb2 hb3) (Z9a hb2),h1]
       rfl
      rw [hrun]
      exact hK v _ _ E a.defers r w hK' (.refl he) hev hd h2
     ·exact hl.elim
   ·exact hl.elim
  ·rename_i x hfv
   rw [hfv] at hf
   cases hfe:a.eval f<;>rw [hfe] at hf<;>cases hf
   rename_i b N hbx
   obtain ⟨g,tmps,assign,body,hy,hR⟩:=hcx.round _ _ _ _ hl E w (args.toList.map a.eval) b N he ha hbx
   have hrun:(execOp a.eval o).run P w=.ok (.round b g tmps assign body) w:=by
    simp only [execOp,ho,resolve,J6,hfe,Deferred.ofValue,Ji,J4,invoke]
    rw [show #[]++args.map a.eval=(args.toList.map a.eval).toArray from by apply JJ;simp]
    exact hy
   rw [hrun]
   refine ⟨fun h=>(by cases h), ?_⟩
   refine RoundIn.mono (F:=Fence.wide) (n:=n-1) ⟨hR.1,fun c cs hroom=>hR.2 c cs (room_wide _)⟩ ?_
   rintro e w' ⟨E',out,h',hk,hv,ho'⟩
   cases ho' with
   | ret v r hvr=>exact hK v _ _ E' a.defers r w' hk hv (hev.trans hv) (hd.mono hv.le) hvr
   | panic v r hvr=>exact hX _ _ E' r w' hk hv (hev.trans hv) hvr
  ·exact hl.elim
 ·-- a panic
  rename_i x ho
  rw [show (Fr ro).round=ro from rfl,ZO (fun c e=>by rw [ho] at e;cases e)]
  split at hl
  ·rename_i T v hx
   have h1:=Zo ht x
   rw [hx] at h1
   cases hxe:a.eval x<;>rw [hxe] at h1<;>cases h1
   rename_i r hr
   have hrun:(execOp a.eval o).run P w=.halt (.panic (.iface T r)) w:=by simp [execOp,ho,Instr.panic,hxe]
   rw [hrun]
   exact hX _ _ E _ w hl (.refl he) hev (.iface _ _ _ hr)
  ·exact hl.elim
 ·-- a deferred call
  rename_i f args tys ho
  split at hl
  ·rename_i g first cap hfv hin
   split at hl
   ·rename_i fn hfn
    split at hl
    ·have hr0:=hro hin
     subst hr0
     have hf:=Zo ht f
     have ha:=Wg ht args.toList
     rw [hfv] at hf
     cases hfe:a.eval f<;>rw [hfe] at hf<;>cases hf
     rename_i fs cs hfs hcs
     rw [show (Fr none).round=none from rfl,Oper.semAt_none]
     have hrun:(execOp a.eval o).run P w=.ok (.defer ⟨.fn (.func g) cs.toArray,fs.toArray++args.map a.eval⟩) w:=by
      simp only [execOp,ho,resolve,J6,hfe,Deferred.ofValue,Ji,J4]
     rw [hrun]
     refine hK _ _ _ E (_::a.defers) undef w hl (.refl he) hev (.call g _ _ _ _ _ _ rfl ?_ hd) (.tuple [] [] .nil)
     have:(fs.toArray++args.map a.eval).toList++cs.toArray.toList=fs++args.toList.map a.eval++cs:=by simp
     rw [this]
     exact (hfs.append ha).append hcs
    ·exact hl.elim
   ·exact hl.elim
  ·exact hl.elim
 ·rename_i o' h1 h2 h3 h4 h5
  rw [show (Fr ro).round=ro from rfl]
  have hnd:∀c,o.op≠.defer c:=by
   intro c e
   rw [e] at hl
   simp [opA,opQ] at hl
  rw [ZO hnd]
  obtain ⟨v,h',hk,hr⟩:=Z98 hl
  obtain ⟨r,w',E',q1,q2,q3⟩:=hr E w m a he ht
  rw [q1]
  exact hK v _ _ E' a.defers r w' hk q2 (hev.trans q2) (hd.mono q2.le) q3
theorem Z9c {P:Program} (hcx:cx.Ok P) {o:Oper} {s:St} {K:AV->St->Prop} {X:KE} (hl:Zd7 cx P o.op s K X)
  {E:Env} {h0:Z9} {w:World} {a:Act} (hs:WQ E s a w) (hev:Evo E0 h0 w0 E s.h w) (hro:cx.inR=none->ro=none) {n:Nat}
  {next:Act->World->Prop}
  (hK:∀v s' E' a' r w',K v s'->s'.n=s.n->WQ E' s' a' w'->Evo E0 h0 w0 E' s'.h w'->Zc E' v r->next (a'.put o.dst r) w')
  (hX:∀x s' E' e a' w',X x s'->WQ E' s' a' w'->Evo E0 h0 w0 E' s'.h w'->Z1C E' x e->Q e a' w'):
  o.wpIn (Fr ro) n P a w next Q:=by
 obtain ⟨m,t,h,d⟩:=s
 have hl':Z1D cx P o.op t h d (fun v h' d'=>K v ⟨m,t,h',d'⟩) fun v h'=>X (.panic v) ⟨m,t,h',d⟩:=hl
 refine Z1F hcx hl' hs.emb hs.tmps hs.defs hev hro ?_ ?_
 ·intro v h' d' E' ds r w' hk hv hv0 hds hvr
  exact hK v ⟨m,t,h',d'⟩ E' { a with defers:=ds} r w' hk rfl ⟨hv.emb,hs.tmps.mono hv.le,hds⟩ hv0 hvr
 ·intro v h' E' r w' hx hv hv0 hvr
  exact hX _ _ E' _ a w' hx ⟨hv.emb,hs.tmps.mono hv.le,hs.defs.mono hv.le⟩ hv0 (.panic v r hvr)
end Go.Tk
end
section
namespace Go.Tk
open IntKind (i64 u8 u32 u64 wrap)
def Z0k (all:List Oper) (j:Nat):Option Tmp:=match all[j]? with|some o=>o.dst|none=>none
def US (all:List Oper) (g:Option (Nat×Bool)) (s:St) (run skip:St->Prop):Prop:=
 match g with
 | none=>run s
 | some (j,want)=>match Z0k all j with
  | none=>False
  | some d=>match Zz s.t d with
   | some (.bool b)=>Z7 b
     (match want with|true=>run { s with t:=Vv s.t d (.bool true)}|false=>skip { s with t:=Vv s.t d (.bool true)})
     (match want with|true=>skip { s with t:=Vv s.t d (.bool false)}|false=>run { s with t:=Vv s.t d (.bool false)})
   | some (.tuple [])=>skip s
   | _=>False
def Z78 (cx:Ctx) (P:Program) (all:List Oper):List Oper->St->KE->Prop
 | [],s,X=>X .normal s
 | o::r,s,X=>US all o.guard s
   (fun s'=>Zd7 cx P o.op s' (fun v s2=>Vs s2 o.dst v fun s3=>Z78 cx P all r s3 X) X)
   (fun s'=>Vs s' o.dst (.tuple []) fun s3=>Z78 cx P all r s3 X)
theorem Z85 {all:List Oper} {o:Oper} {s:St} {run skip:St->Prop} (h:US all o.guard s run skip) {E:Env} {a:Act} {w:World} (hs:WQ E s a w):
  ∃s',s'.h=s.h/\s'.n=s.n/\WQ E s' a w/\((Region.wanted o (yielded all.toArray a.tmps)=true/\run s')\/(Region.wanted o (yielded all.toArray a.tmps)=false/\skip s')):=by
 unfold US at h
 split at h
 ·rename_i hg
  exact ⟨s,rfl,rfl,hs,.inl ⟨by simp [Region.wanted,hg],h⟩⟩
 ·rename_i j want hg
  split at h
  ·exact h.elim
  ·rename_i d hd
   have hdst:(all.toArray[j]?).bind (·.dst)=some d:=by
    unfold Z0k at hd
    cases hj:all[j]? with
    | none=>simp [hj] at hd
    | some o'=>simp [hj] at hd;simp [hj,hd]
   split at h
   ·rename_i b hb
    have hv:=hs.tmps.get d _ hb
    have hreal:a.tmps[d]? =some (.bool b):=by
     rw [Jc] at hv
     cases hq:a.tmps[d]? with
     | none=>rw [hq] at hv;simp [undef] at hv;cases hv
     | some r=>rw [hq] at hv;simp at hv;cases hv;rfl
    have hy:yielded all.toArray a.tmps j=some b:=by
     unfold yielded
     rw [hdst]
     simp [hreal]
    have hset:∀c,b=c->WQ E { s with t:=Vv s.t d (.bool c)} a w:=fun c hc=>by
     subst hc
     refine ⟨hs.emb,⟨hs.tmps.size,fun x v hx=> ?_⟩,hs.defs⟩
     by_cases hxd:d=x
     ·subst hxd
      rw [X7] at hx
      cases hx
      exact hv
     ·rw [YW _ _ _ _ hxd] at hx
      exact hs.tmps.get x v hx
    cases b with
    | true=>
     refine ⟨{ s with t:=Vv s.t d (.bool true)},rfl,rfl,hset true rfl, ?_⟩
     cases want with
     | true=>exact .inl ⟨by simp [Region.wanted,hg,hy],h⟩
     | false=>exact .inr ⟨by simp [Region.wanted,hg,hy],h⟩
    | false=>
     refine ⟨{ s with t:=Vv s.t d (.bool false)},rfl,rfl,hset false rfl, ?_⟩
     cases want with
     | true=>exact .inr ⟨by simp [Region.wanted,hg,hy],h⟩
     | false=>exact .inl ⟨by simp [Region.wanted,hg,hy],h⟩
   ·rename_i hb
    have hv:=hs.tmps.get d _ hb
    have hy:yielded all.toArray a.tmps j=none:=by
     unfold yielded
     rw [hdst]
     rw [Jc] at hv
     cases hq:a.tmps[d]? with
     | none=>simp [hq]
     | some r=>
      rw [hq] at hv
      simp at hv
      cases hv with
      | tuple vs rs hl=>simp [hq]
    exact ⟨s,rfl,rfl,hs,.inr ⟨by simp [Region.wanted,hg,hy],h⟩⟩
   ·exact h.elim
def Vi (E0:Env) (h0:Z9) (w0:World) (X:KE):Exit->Act->World->Prop:=fun e a w=>∃E' x s',X x s'/\Evo E0 h0 w0 E' s'.h w/\WQ E' s' a w/\Z1C E' x e
theorem Z9d {cx:Ctx} {P:Program} (hcx:cx.Ok P) {all:List Oper} {X:KE} {E0:Env} {h0:Z9} {w0:World} {ro:Option Nat} (hro:cx.inR=none->ro=none) {n:Nat}:
  ∀(r:List Oper) (k:Nat),all.drop k=r->∀(s:St) (E:Env) (a:Act) (w:World),Z78 cx P all r s X->WQ E s a w->Evo E0 h0 w0 E s.h w->
   wpOpsIn (Fr ro) n P all.toArray (Vi E0 h0 w0 X) (List.range' k r.length) a w:=by
 intro r
 induction r with
 | nil=>
  intro k _ s E a w h hs hev
  exact ⟨E,.normal,s,h,hev,hs,.normal⟩
 | cons o r ih=>
  intro k hk s E a w h hs hev
  have hko:all[k]? =some o:=by
   have:=congrArg (fun l=>l[0]?) hk
   simpa using this
  have hkr:all.drop (k+1)=r:=by
   have:=congrArg (List.drop 1) hk
   simpa [List.drop_drop,Nat.add_comm] using this
  simp only [Jw,List.range'_succ,wpOpsIn,JO,hko]
  obtain ⟨s',e1,e2,hs',hw⟩:=Z85 h hs
  rcases hw with ⟨hw,hrun⟩|⟨hw,hskip⟩
  ·rw [if_pos hw]
   refine Z9c hcx hrun hs' (e1▸hev) hro ?_ ?_
   ·intro v s2 E' a' r' w' hK hn hs2 hev2 hv
    obtain ⟨s3,hK3,f1,f2,f3⟩:=Uc hK
    exact ih (k+1) hkr s3 E' _ w' hK3 (f3 E' a' w' r' hs2 hv) (f1▸hev2)
   ·intro x s2 E' e a' w' hX hs2 hev2 hx
    exact ⟨E',x,s2,hX,hev2,hs2,hx⟩
  ·rw [if_neg (by rw [hw];simp)]
   refine ⟨fun _ _=>trivial, ?_⟩
   obtain ⟨s3,hK3,f1,f2,f3⟩:=Uc hskip
   exact ih (k+1) hkr s3 E _ w hK3 (f3 E a w undef hs' (.tuple [] [] .nil)) (by rw [f1,e1];exact hev)
def Z4L (id:Nat):Ex->Ex
 | .exit i=>match Nat.beq i id with|true=>.normal|false=>.exit i
 | e=>e
def Z79 (f:St->Prop) (X:KE):KE:=fun e s=>match e with|.normal=>f s|.exit i=>X (.exit i) s|.goto l=>X (.goto l) s|.ret=>X .ret s|.panic v=>X (.panic v) s
def Z9e (body:St->KE->Prop):Nat->St->KE->Prop
 | 0,_,_=>False
 | m+1,s,X=>body s (Z79 (fun s'=>Z9e body m s' X) X)
abbrev Z9f:=Nat->Option (St->KE->Prop)
def Z3O:Operand->Nat
 | .tmp n=>100000+n
 | _=>99999
def Z9g (summ:Z9f) (c:Operand):Option (St->KE->Prop):=summ (Z3O c)
mutual
def Xm (cx:Ctx) (P:Program) (summ:Z9f) (fuel:Nat) (evalD:List Oper->St->KE->Prop) (evalF:Operand->Array Tmp->Code->Code->St->KE->Prop):Code->St->KE->Prop
 | .skip,s,X=>X .normal s
 | .region _ ops draw,s,X=>match draw with
  | false=>Z78 cx P ops.toList ops.toList s X
  | true=>evalD ops.toList s X
 | .seq a b,s,X=>Xm cx P summ fuel evalD evalF a s (Z79 (fun s'=>Xm cx P summ fuel evalD evalF b s' X) X)
 | .cond c x y,s,X=>match Z9g summ c with
  | some S=>S s X
  | none=>match aev s.t c with
   | .bool b=>Z7 b (Xm cx P summ fuel evalD evalF x s X) (Xm cx P summ fuel evalD evalF y s X)
   | _=>False
 | .block id c,s,X=>match summ id with
  | some S=>S s fun e s'=>X (Z4L id e) s'
  | none=>Xm cx P summ fuel evalD evalF c s fun e s'=>X (Z4L id e) s'
 | .loop c,s,X=>Z9e (fun s' X'=>Xm cx P summ fuel evalD evalF c s' X') fuel s X
 | .rangeFunc g ps assign body,s,X=>evalF g ps assign body s X
 | .exit id,s,X=>X (.exit id) s
 | .scope c,s,X=>Xm cx P summ fuel evalD evalF c s fun e s'=>match e with
  | .goto l=>XJ cx P summ fuel evalD evalF l c s' fun e2 s2=>match e2 with
   | .goto _=>False
   | .normal=>X .normal s2
   | .exit i=>X (.exit i) s2
   | .ret=>X .ret s2
   | .panic v=>X (.panic v) s2
  | .normal=>X .normal s'
  | .exit i=>X (.exit i) s'
  | .ret=>X .ret s'
  | .panic v=>X (.panic v) s'
 | .label _,s,X=>X .normal s
 | .goto l,s,X=>X (.goto l) s
 | .ret,s,X=>X .ret s
 | .refuse _,_,_=>False
def XJ (cx:Ctx) (P:Program) (summ:Z9f) (fuel:Nat) (evalD:List Oper->St->KE->Prop) (evalF:Operand->Array Tmp->Code->Code->St->KE->Prop) (l:Nat):Code->St->KE->Prop
 | .seq a b,s,X=>match findLabel a l with
  | some _=>XJ cx P summ fuel evalD evalF l a s (Z79 (fun s'=>Xm cx P summ fuel evalD evalF b s' X) X)
  | none=>XJ cx P summ fuel evalD evalF l b s X
 | .label l',s,X=>match l'==l with
  | true=>X .normal s
  | false=>False
 | _,_,_=>False
end
def YJ (P:Program) (k:Nat) (ro:Option Nat) (c:Code) (s:St) (X:KE):Prop:=
 ∀(E0:Env) (h0:Z9) (w0:World) (E:Env) (a:Act) (w:World) (n:Nat),(∀x,k<=x->E0.blk x=none)->WQ E s a w->Evo E0 h0 w0 E s.h w->c.wpIn (Fr ro) n P (Vi E0 h0 w0 X) a w
def Zt:Code->List (Nat×Code)
 | .seq a b=>Zt a++Zt b
 | .cond o x y=>(Z3O o,.cond o x y)::(Zt x++Zt y)
 | .block id c=>(id,c)::Zt c
 | .loop c=>Zt c
 | .scope c=>Zt c
 | _=>[]
theorem Vi.mono {E0:Env} {h0:Z9} {w0:World} {X Y:KE} {e:Exit} {a:Act} {w:World} (h:Vi E0 h0 w0 X e a w) (hxy:∀x s,X x s->Y x s):Vi E0 h0 w0 Y e a w:=
 let ⟨E',x,s',h1,h2⟩:=h;⟨E',x,s',hxy _ _ h1,h2⟩
theorem QQ {E0:Env} {h0:Z9} {w0:World} {f:St->Prop} {X:KE} {e:Exit} {a:Act} {w:World} (h:Vi E0 h0 w0 (Z79 f X) e a w):
  (e=.normal/\∃E' s',f s'/\Evo E0 h0 w0 E' s'.h w/\WQ E' s' a w)\/(e≠.normal/\Vi E0 h0 w0 X e a w):=by
 obtain ⟨E',x,s',hx,hev,hs,he⟩:=h
 cases he with
 | normal=>exact .inl ⟨rfl,E',s',hx,hev,hs⟩
 | exit id=>exact .inr ⟨by simp,E',_,s',hx,hev,hs,.exit id⟩
 | goto l=>exact .inr ⟨by simp,E',_,s',hx,hev,hs,.goto l⟩
 | ret=>exact .inr ⟨by simp,E',_,s',hx,hev,hs,.ret⟩
 | panic v r h=>exact .inr ⟨by simp,E',_,s',hx,hev,hs,.panic v r h⟩
theorem Z4M {P:Program} {k:Nat} {ro:Option Nat} {c:Code} {body:St->KE->Prop} (hb:∀s X,body s X->YJ P k ro c s X) {X:KE} {E0:Env} {h0:Z9} {w0:World} {n:Nat} (hk:∀x,k<=x->E0.blk x=none):
  ∀(m:Nat) (s:St) (E:Env) (a:Act) (w:World),Z9e body m s X->WQ E s a w->Evo E0 h0 w0 E s.h w->Code.roundsIn (Fr ro) n P c (Vi E0 h0 w0 X) m a w
 | 0,_,_,_,_,h,_,_=>h.elim
 | m+1,s,E,a,w,h,hs,hev=>by
  rw [roundsIn_succ]
  refine wpIn_mono (hb s _ h E0 h0 w0 E a w n hk hs hev) ?_
  intro e a' w' hp
  rcases QQ hp with ⟨rfl,E',s',hf,hev',hs'⟩|⟨hne,hp⟩
  ·exact Z4M hb hk m s' E' a' w' hf hs' hev'
  ·cases e<;>first|exact absurd rfl hne|exact hp
section
variable {P:Program} {b:Frame} {a:Act} {k:List Item} {cs:List Frame} {w:World}
theorem Z0l {c:Code}:step P (lone (b.atR a (.code (.scope c)::k)) cs w)=.next (lone (b.atR a (.code c::.inScope c::k)) cs w):=
 step_lone_go (by simp [stepG,stepG.exec,Frame.atR])
theorem Z2n {c:Code}:step P (lone (b.atR a (.inScope c::k)) cs w)=.next (lone (b.atR a k) cs w):=
 step_lone_go (by simp [stepG,stepG.exec,Frame.atR])
end
theorem UA {F:Fence} {n:Nat} {P:Program} {c:Code} {b:Frame} {k:List Item} {cs:List Frame} {m:Machine} {e:Exit} {a:Act} {w:World} (hb:F.fn b.fn) (hr:F.room (cs.length+1+n)) (he:∀l,e≠.goto l)
  (h:ArrivesIn (Machine.fenced P F) P m b (.inScope c::k) cs e a w):ArrivesIn (Machine.fenced P F) P m b k cs e a w:=by
 cases e with
 | normal=>exact StepsIn.trans h (.one (fenced_calm hb hr rfl) Z2n)
 | exit id=>exact ⟨fun k' hk=>h.1 k' (by simpa [exitTo] using hk),fun hr hk=>h.2 hr (by simpa [exitTo] using hk)⟩
 | goto l=>exact absurd rfl (he l)
 | ret=>exact h
 | panic ch=>exact h
 | outgrown=>exact h
theorem Z0E {F:Fence} {n:Nat} {P:Program} {Q:Exit->Act->World->Prop} {a:Act} {w:World} {c:Code}
  (first:c.wpIn F n P (fun e a' w'=>(∃l rest,e=.goto l/\findLabel c l=some rest/\rest.wpIn F n P (fun e2 a2 w2=>(∀l2,e2≠.goto l2)/\Q e2 a2 w2) a' w')\/((∀l2,e≠.goto l2)/\Q e a' w')) a w):(Code.scope c).wpIn F n P Q a w:=by
 intro b k cs hro hb hr
 have h0:(lone (b.atR a (.code (.scope c)::k)) cs w).fenced P F:=fenced_calm hb hr rfl
 obtain ⟨e,a₁,w₁,hq,harr⟩:=first b (.inScope c::k) cs hro hb hr
 rcases hq with ⟨l,rest,rfl,hf,hrest⟩|⟨hne,hq⟩
 ·have hg:gotoIn l (.inScope c::k)=some (.code rest::.inScope c::k):=by simp [gotoIn,hf]
  obtain ⟨e2,a2,w2,⟨hne2,hq2⟩,harr2⟩:=hrest b (.inScope c::k) cs hro hb hr
  exact ⟨e2,a2,w2,hq2,.of_steps (.head h0 Z0l (harr.1 _ hg)) (UA hb hr hne2 harr2)⟩
 ·exact ⟨e,a₁,w₁,hq,.of_steps (.one h0 Z0l) (UA hb hr hne harr)⟩
theorem Z4N {cx:Ctx} {P:Program} {k:Nat} (hcx:cx.Ok P) {summ:Z9f} {fuel:Nat} {evalD:List Oper->St->KE->Prop} {evalF:Operand->Array Tmp->Code->Code->St->KE->Prop} {ro:Option Nat} (hro:cx.inR=none->ro=none)
  (hD:∀id ops s X,evalD ops.toList s X->YJ P k ro (.region id ops true) s X) (hFn:∀g ps assign body s X,evalF g ps assign body s X->YJ P k ro (.rangeFunc g ps assign body) s X)
  (blocks:List (Nat×Code)) (hS:∀id S c,summ id=some S->(id,c)∈blocks->∀s X,S s X->YJ P k ro c s X):
  ∀(c:Code),(∀b,b∈Zt c->b∈blocks)->(∀(s:St) (X:KE),Xm cx P summ fuel evalD evalF c s X->YJ P k ro c s X)/\
   ∀l (s:St) (X:KE),XJ cx P summ fuel evalD evalF l c s X->∃rest,findLabel c l=some rest/\YJ P k ro rest s X:=by
 intro c
 induction c with
 | skip=>
  refine fun hb0=>⟨?_,fun l s X h=>absurd h (by simp [XJ])⟩
  revert hb0
  intro _ s X h E0 h0 w0 E a w n hk hs hev;exact wpIn_skip ⟨E,.normal,s,h,hev,hs,.normal⟩
 | region id ops draw=>
  refine fun hb0=>⟨?_,fun l s X h=>absurd h (by simp [XJ])⟩
  revert hb0
  intro _ s X h
  cases draw with
  | false=>
   intro E0 h0 w0 E a w n hk hs hev
   have:=Z9d (n:=n) hcx hro ops.toList 0 rfl s E a w (by simpa [Xm] using h) hs hev
   refine wpIn_region ?_
   rw [List.range_eq_range']
   simpa using this
  | true=>exact hD id ops s X (by simpa [Xm] using h)
 | seq x y ihx ihy=>
  refine fun hb0=>⟨?_,fun l s X h=> ?_⟩
  rotate_left
  ·simp only [XJ] at h
   split at h
   ·rename_i r0 hr0
    obtain ⟨rest,hf,hc⟩:=(ihx (fun b hm=>hb0 b (by simp [Zt,hm]))).2 l s _ h
    refine ⟨.seq rest y,by simp [findLabel,hf],fun E0 h0 w0 E a w n hk hs hev=>wpIn_seq (wpIn_mono (hc E0 h0 w0 E a w n hk hs hev) ?_)⟩
    intro e a' w' hp
    rcases QQ hp with ⟨rfl,E',s',hf,hev',hs'⟩|⟨hne,hp⟩
    ·exact (ihy (fun b hm=>hb0 b (by simp [Zt,hm]))).1 s' X hf E0 h0 w0 E' a' w' n hk hs' hev'
    ·cases e<;>first|exact absurd rfl hne|exact hp
   ·rename_i hr0
    obtain ⟨rest,hf,hc⟩:=(ihy (fun b hm=>hb0 b (by simp [Zt,hm]))).2 l s _ h
    exact ⟨rest,by simp [findLabel,hr0,hf],hc⟩
  revert hb0
  intro hb s X h E0 h0 w0 E a w n hk hs hev
  refine wpIn_seq (wpIn_mono ((ihx (fun b hm=>hb b (by simp [Zt,hm]))).1 s _ (by simpa [Xm] using h) E0 h0 w0 E a w n hk hs hev) ?_)
  intro e a' w' hp
  rcases QQ hp with ⟨rfl,E',s',hf,hev',hs'⟩|⟨hne,hp⟩
  ·exact (ihy (fun b hm=>hb b (by simp [Zt,hm]))).1 s' X hf E0 h0 w0 E' a' w' n hk hs' hev'
  ·cases e<;>first|exact absurd rfl hne|exact hp
 | cond c x y ihx ihy=>
  refine fun hb0=>⟨?_,fun l s X h=>absurd h (by simp [XJ])⟩
  revert hb0
  intro hb s X h
  simp only [Xm] at h
  split at h
  ·rename_i S hS'
   exact hS (Z3O c) S _ hS' (hb _ (by simp [Zt])) s _ h
  intro E0 h0 w0 E a w n hk hs hev
  split at h
  ·rename_i b hc
   have hv:=Zo hs.tmps c
   rw [hc] at hv
   cases hcv:a.eval c<;>rw [hcv] at hv<;>cases hv
   refine wpIn_cond hcv ?_
   cases b with
   | true=>exact (ihx (fun b hm=>hb b (by simp [Zt,hm]))).1 s X h E0 h0 w0 E a w n hk hs hev
   | false=>exact (ihy (fun b hm=>hb b (by simp [Zt,hm]))).1 s X h E0 h0 w0 E a w n hk hs hev
  ·exact h.elim
 | block id c ih=>
  refine fun hb0=>⟨?_,fun l s X h=>absurd h (by simp [XJ])⟩
  revert hb0
  intro hb s X h E0 h0 w0 E a w n hk hs hev
  have key:YJ P k ro c s (fun e s'=>X (Z4L id e) s'):=by
   simp only [Xm] at h
   split at h
   ·rename_i S hS'
    exact hS id S c hS' (hb _ (by simp [Zt])) s _ h
   ·exact (ih (fun b hm=>hb b (by simp [Zt,hm]))).1 s _ h
  refine wpIn_block (wpIn_mono (key E0 h0 w0 E a w n hk hs hev) ?_)
  rintro e a' w' ⟨E',x,s',hx,hev',hs',he⟩
  cases he with
  | normal=>exact ⟨E',_,s',hx,hev',hs',.normal⟩
  | exit i=>
   simp only [Exit.inBlock]
   by_cases hi:i=id
   ·subst hi
    rw [if_pos rfl]
    simp only [Z4L,Jg] at hx
    exact ⟨E',_,s',hx,hev',hs',.normal⟩
   ·rw [if_neg hi]
    simp only [Z4L,Zs hi] at hx
    exact ⟨E',_,s',hx,hev',hs',.exit i⟩
  | goto l=>exact ⟨E',_,s',hx,hev',hs',.goto l⟩
  | ret=>exact ⟨E',_,s',hx,hev',hs',.ret⟩
  | panic v r h=>exact ⟨E',_,s',hx,hev',hs',.panic v r h⟩
 | loop c ih=>
  refine fun hb0=>⟨?_,fun l s X h=>absurd h (by simp [XJ])⟩
  revert hb0
  intro hb s X h E0 h0 w0 E a w n hk hs hev
  exact wpIn_loop_rounds fuel (Z4M (k:=k) (fun s' X' hq=>(ih (fun b hm=>hb b (by simpa [Zt] using hm))).1 s' X' hq) hk fuel s E a w (by simpa [Xm] using h) hs hev)
 | rangeFunc g ps assign body _ _=>
  refine fun hb0=>⟨?_,fun l s X h=>absurd h (by simp [XJ])⟩
  revert hb0
  intro _ s X h;exact hFn g ps assign body s X (by simpa [Xm] using h)
 | exit id=>
  refine fun hb0=>⟨?_,fun l s X h=>absurd h (by simp [XJ])⟩
  revert hb0
  intro _ s X h E0 h0 w0 E a w n hk hs hev;exact wpIn_exit ⟨E,.exit id,s,h,hev,hs,.exit id⟩
 | scope c ih=>
  refine fun hb0=>⟨?_,fun l s X h=>absurd h (by simp [XJ])⟩
  revert hb0
  intro hb s X h E0 h0 w0 E a w n hk hs hev
  have ihc:=ih (fun b hm=>hb b (by simpa [Zt] using hm))
  simp only [Xm] at h
  refine Z0E (wpIn_mono (ihc.1 s _ h E0 h0 w0 E a w n hk hs hev) ?_)
  rintro e a' w' ⟨E',x,s',hx,hev',hs',he⟩
  cases he with
  | goto l=>
   simp only at hx
   obtain ⟨rest,hf,hc⟩:=ihc.2 l s' _ hx
   refine .inl ⟨l,rest,rfl,hf,wpIn_mono (hc E0 h0 w0 E' a' w' n hk hs' hev') ?_⟩
   rintro e2 a2 w2 ⟨E2,x2,s2,hx2,hev2,hs2,he2⟩
   cases he2 with
   | goto l2=>exact hx2.elim
   | normal=>exact ⟨by simp,E2,_,s2,hx2,hev2,hs2,.normal⟩
   | exit id=>exact ⟨by simp,E2,_,s2,hx2,hev2,hs2,.exit id⟩
   | ret=>exact ⟨by simp,E2,_,s2,hx2,hev2,hs2,.ret⟩
   | panic v r h=>exact ⟨by simp,E2,_,s2,hx2,hev2,hs2,.panic v r h⟩
  | normal=>exact .inr ⟨by simp,E',_,s',hx,hev',hs',.normal⟩
  | exit id=>exact .inr ⟨by simp,E',_,s',hx,hev',hs',.exit id⟩
  | ret=>exact .inr ⟨by simp,E',_,s',hx,hev',hs',.ret⟩
  | panic v r h=>exact .inr ⟨by simp,E',_,s',hx,hev',hs',.panic v r h⟩
 | label l0=>
  refine fun hb0=>⟨?_,fun l s X h=> ?_⟩
  rotate_left
  ·simp only [XJ] at h
   split at h
   ·rename_i hl
    exact ⟨.skip,by simp [findLabel,hl],fun E0 h0 w0 E a w n hk hs hev=>wpIn_skip ⟨E,.normal,s,h,hev,hs,.normal⟩⟩
   ·exact h.elim
  revert hb0
  intro _ s X h E0 h0 w0 E a w n hk hs hev;exact wpIn_label ⟨E,.normal,s,h,hev,hs,.normal⟩
 | goto l=>
  refine fun hb0=>⟨?_,fun l s X h=>absurd h (by simp [XJ])⟩
  revert hb0
  intro _ s X h E0 h0 w0 E a w n hk hs hev;exact wpIn_goto ⟨E,.goto l,s,h,hev,hs,.goto l⟩
 | ret=>
  refine fun hb0=>⟨?_,fun l s X h=>absurd h (by simp [XJ])⟩
  revert hb0
  intro _ s X h E0 h0 w0 E a w n hk hs hev;exact wpIn_ret ⟨E,.ret,s,h,hev,hs,.ret⟩
 | refuse why=>
  refine fun hb0=>⟨?_,fun l s X h=>absurd h (by simp [XJ])⟩
  revert hb0
  intro _ s X h;exact absurd h (by simp [Xm])
end Go.Tk
end
section
namespace Go.Tk
open IntKind (i64 u8 u32 u64 wrap)
variable {args:List AV} {rs:List Value} {u:FrameMode} {E0:Env} {w0:World} {cx:Ctx} {ro:Option Nat} {X:KE} {t':ZL} {v:AV}
def Z0m:Nat->List AV->ZL
 | _,[]=>[]
 | k,v::r=>(k,v)::Z0m (k+1) r
theorem Z2G {E:Env}:∀(args:List AV) (rs:List Value) (k:Nat) (pre post:List Value),Zw E args rs->pre.length=k->∀x v,Zz (Z0m k args) x=some v->Zc E v ((pre++rs++post).toArray.getD x undef)
 | [],_,_,_,_,_,_,x,v,h=>by simp [Z0m,Zz] at h
 |u::r,_,k,pre,post,.cons _ c _ cs hv ht,hk,x,v,h=>by
  simp only [Z0m,Zz] at h
  split at h
  ·rename_i hb
   have:=J0 hb
   cases h
   subst this
   have:(pre++c::cs++post).toArray.getD k undef=c:=by
    rw [<-hk]
    simp [Jc]
   rw [this];exact hv
  ·have:=Z2G r cs (k+1) (pre++[c]) post ht (by simp [hk]) x v h
   simpa using this
theorem Z2H {E:Env} {N:Nat} (h:Zw E args rs) (hn:args.length<=N):WL E N (Z0m 0 args) (rs.toArray++Array.replicate (N-rs.toArray.size) undef):=by
 have hl:=h.length
 refine ⟨by simp;omega,fun x v hx=> ?_⟩
 have:=Z2G args rs 0 [] (List.replicate (N-rs.length) undef) h rfl x v hx
 have e:rs.toArray++Array.replicate (N-rs.toArray.size) undef=([]++rs++List.replicate (N-rs.length) undef).toArray:=by
  apply JJ;simp
 rw [e];exact this
def Z86 (P:Program) (s:St):List ResultVar->(List AV->Prop)->Prop
 | [],K=>K []
 | .tmp t::r,K=>match Zz s.t t with
  | some v=>Z86 P s r fun vs=>K (v::vs)
  | none=>False
 | .cell a T::r,K=>match Zz s.t a with
  | some p=>Z6Y P s.h T p fun v=>Z86 P s r fun vs=>K (v::vs)
  | none=>False
def Z9h:List AV->AV
 | [v]=>v
 | vs=>.tuple vs
def Zf6 (P:Program) (fn:Func) (s:St) (K:AV->Prop):Prop:=Z86 P s fn.results.toList fun vs=>K (Z9h vs)
def Z9i (tm:Array Value):ResultVar->Sem Value
 | .tmp t=>pure (tm.getD t undef)
 | .cell a t=>do loadVar t (<-asAddr (tm.getD a undef))
theorem Z3P {P:Program} {s:St}:∀(l:List ResultVar) (K:List AV->Prop),Z86 P s l K->∃vs,K vs/\∀(E:Env) (w:World) (tm:Array Value),Emb E s.h w->WL E s.n s.t tm->
  ∃rs,Zw E vs rs/\(l.mapM (Z9i tm)).run P w=.ok rs w
 | [],K,h=>⟨[],h,fun E w tm he ht=>⟨[],.nil,by simp⟩⟩
 | .tmp t::r,K,h=>by
  simp only [Z86] at h
  split at h
  ·rename_i v hv
   obtain ⟨vs,hK,hr⟩:=Z3P r _ h
   refine ⟨v::vs,hK,fun E w tm he ht=> ?_⟩
   obtain ⟨rs,h1,h2⟩:=hr E w tm he ht
   exact ⟨_::rs,.cons _ _ _ _ (ht.get t v hv) h1,by simp only [List.mapM_cons,J6,Z9i,Ji,J4,h2]⟩
  ·exact h.elim
 | .cell a T::r,K,h=>by
  simp only [Z86] at h
  split at h
  ·rename_i p hp
   obtain ⟨v,h,hv⟩:=Z4r h
   obtain ⟨vs,hK,hr⟩:=Z3P r _ h
   refine ⟨v::vs,hK,fun E w tm he ht=> ?_⟩
   obtain ⟨ad,rv,e1,e2,e3⟩:=hv E w _ he (ht.get a p hp)
   obtain ⟨rs,h1,h2⟩:=hr E w tm he ht
   refine ⟨rv::rs,.cons _ _ _ _ e3 h1, ?_⟩
   have e4:(Z9i tm (.cell a T)).run P w=.ok rv w:=by simp only [Z9i,J6,e1,asAddr,Ji,J4,e2]
   simp only [List.mapM_cons,J6,e4,Ji,J4,h2]
  ·exact h.elim
theorem Zbo {P:Program} {fn:Func} {s:St} {K:AV->Prop} (h:Zf6 P fn s K):∃v,K v/\∀(E:Env) (w:World) (tm:Array Value),Emb E s.h w->WL E s.n s.t tm->
  ∃r,(results fn tm).run P w=.ok r w/\Zc E v r:=by
 obtain ⟨vs,hK,hr⟩:=Z3P _ _ h
 refine ⟨_,hK,fun E w tm he ht=> ?_⟩
 obtain ⟨rs,h1,h2⟩:=hr E w tm he ht
 refine ⟨if h:rs.toArray.size=1 then rs.toArray[0] else .tuple rs.toArray, ?_, ?_⟩
 ·have e:results fn tm=(do let vs<-fn.results.mapM (Z9i tm);pure (if h:vs.size=1 then vs[0] else .tuple vs)):=by
   unfold results
   congr 1
  rw [e]
  simp only [Array.mapM_eq_mapM_toList,J6,Sem.run_map]
  rw [h2]
  simp
 ·cases h1 with
  | nil=>exact .tuple [] [] .nil
  | cons v c vs cs hv ht=>
   cases ht with
   | nil=>simpa [Z9h] using hv
   | cons v2 c2 vs2 cs2 hv2 ht2=>
    have:=Zc.tuple _ _ (.cons _ _ _ _ hv (.cons _ _ _ _ hv2 ht2))
    simpa [Z9h] using this
inductive PM where
 | none
 | pan (v:AV)
 | rcv
inductive WC (E:Env):PM->FrameMode->Prop
 | none:WC E .none .returning
 | pan (v:AV) (r:Value) (h:Zc E v r):WC E (.pan v) (.panicking [{ v:=r,recovered:=false}])
 | rcv (r:Value):WC E .rcv (.panicking [{ v:=r,recovered:=true}])
theorem WC.mono {E E':Env} (le:E.le E') {m:PM} (h:WC E m u):WC E' m u:=by
 cases h with
 | none=>exact .none
 | pan v r h=>exact .pan v r (h.mono le)
 | rcv r=>exact .rcv r
def QR (P:Program):List Oper->PM->St->(PM->St->Prop)->Prop
 | [],m,s,X=>X m s
 | o::r,m,s,X=>match o.guard with
  | some _=>False
  | none=>match o.op with
   | .call ⟨.builtin .recover,_,_⟩=>match m with
    | .pan v=>Vs s o.dst v fun s'=>QR P r .rcv s' X
    | m=>Vs s o.dst .nilIface fun s'=>QR P r m s' X
   | op=>opA P op s.t s.h fun v h'=>Vs { s with h:=h'} o.dst v fun s'=>QR P r m s' X
theorem Z87 {P:Program} {X:PM->St->Prop} {h0:Z9} {all:List Oper} {c₀:Frame} {cs:List Frame} {n:Nat}:
  ∀(r:List Oper) (k:Nat),all.drop k=r->∀(m:PM) (u:FrameMode) (s:St) (E:Env) (a:Act) (w:World),QR P r m s X->WQ E s a w->Evo E0 h0 w0 E s.h w->WC E m u->
   wpOpsSIn (Fr none) n P all.toArray (fun e a' cs' w'=>e=.normal/\∃E' m' u' s',X m' s'/\Evo E0 h0 w0 E' s'.h w'/\WQ E' s' a' w'/\WC E' m' u'/\cs'={ c₀ with mode:=u'}::cs)
    (List.range' k r.length) a ({ c₀ with mode:=u}::cs) w:=by
 intro r
 induction r with
 | nil=>intro k _ m u s E a w h hs hev hm;exact ⟨rfl,E,m,u,s,h,hev,hs,hm,rfl⟩
 | cons o r ih=>
  intro k hk m u s E a w h hs hev hm
  have hko:all[k]? =some o:=by
   have:=congrArg (fun l=>l[0]?) hk
   simpa using this
  have hkr:all.drop (k+1)=r:=by
   have:=congrArg (List.drop 1) hk
   simpa [List.drop_drop,Nat.add_comm] using this
  simp only [Jw,List.range'_succ,wpOpsSIn,JO,hko]
  refine ⟨fun _ _=>trivial, ?_⟩
  simp only [QR] at h
  split at h
  ·exact h.elim
  ·rename_i hg
   rw [if_pos (by simp [Region.wanted,hg])]
   split at h
   ·rename_i args tys ho
    have hrun:(execOp a.eval o).run P w=.ok .recover w:=by simp [execOp,ho,resolve,invoke,builtin]
    rw [hrun]
    cases hm with
    | pan v rv hv=>
     simp only [recoverD]
     obtain ⟨s3,hK3,f1,f2,f3⟩:=Uc h
     exact ih (k+1) hkr .rcv _ s3 E _ w hK3 (f3 E a w rv hs hv) (f1▸hev) (.rcv rv)
    | none=>
     simp only [recoverD]
     obtain ⟨s3,hK3,f1,f2,f3⟩:=Uc h
     exact ih (k+1) hkr .none _ s3 E _ w hK3 (f3 E a w .nilIface hs .nilIface) (f1▸hev) .none
    | rcv rv=>
     simp only [recoverD]
     obtain ⟨s3,hK3,f1,f2,f3⟩:=Uc h
     exact ih (k+1) hkr .rcv _ s3 E _ w hK3 (f3 E a w .nilIface hs .nilIface) (f1▸hev) (.rcv rv)
   ·obtain ⟨v,h',hk',hr'⟩:=Z98 h
    obtain ⟨rv,w',E',q1,q2,q3⟩:=hr' E w s.n a hs.emb hs.tmps
    rw [q1]
    obtain ⟨s3,hK3,f1,f2,f3⟩:=Uc hk'
    exact ih (k+1) hkr m u s3 E' _ w' hK3 (f3 E' a w' rv ⟨q2.emb,hs.tmps.mono q2.le,hs.defs.mono q2.le⟩ q3) (by rw [f1];exact hev.trans q2) (hm.mono q2.le)
def ZdG (P:Program) (ev:FuncId->Code->St->KE->Prop) (g:FuncId) (args:List AV) (m:PM) (h:Z9) (K:PM->Z9->Prop):Prop:=
 match P.funcs[g]? with
 | some fn=>match fn.body,fn.results.toList,Nat.ble args.length fn.ntmps with
  | some (.seq (.region _ ops false) rest),[],true=>QR P ops.toList m ⟨fn.ntmps,Z0m 0 args,h,[]⟩ fun m' s'=>ev g rest s' fun e s2=>match e,s2.d with
   | .normal,[]=>K m' s2.h
   | .ret,[]=>K m' s2.h
   | _,_=>False
  | _,_,_=>False
 | none=>False
theorem Zbp {P:Program} {ev:FuncId->Code->St->KE->Prop} (hev:∀g fn id ops rest,P.funcs[g]? =some fn->fn.body=some (.seq (.region id ops false) rest)->∀s X,ev g rest s X->YJ P s.h.next none rest s X) {g:FuncId} {m:PM} {h:Z9} {K:PM->Z9->Prop} (hl:ZdG P ev g args m h K)
  {E:Env} {h0:Z9} {w:World} {n:Nat} (he:Emb E h w) (hv:Evo E0 h0 w0 E h w) (ha:Zw E args rs) (hm:WC E m u):
  CallsDIn (Fr none) n P g rs.toArray u w fun e u' w'=>(∃v,e=.returned v)/\∃E' m' h',K m' h'/\Evo E0 h0 w0 E' h' w'/\WC E' m' u'/\E.le E':=by
 unfold ZdG at hl
 split at hl
 ·rename_i fn hf
  split at hl
  ·rename_i id ops rest hb hr hn
   refine callsDIn_of_wpSIn hf hb trivial ?_
   intro c₀ cs hu
   refine wpSIn_seq ?_
   refine wpSIn_region ?_
   have hent:=Z2H (N:=fn.ntmps) ha (WM hn)
   have h1:=Z87 (E0:=E) (h0:=h) (w0:=w) (all:=ops.toList) (c₀:=c₀) (cs:=cs) (n:=n) ops.toList 0 rfl m u ⟨fn.ntmps,Z0m 0 args,h,[]⟩ E { tmps:=rs.toArray++Array.replicate (fn.ntmps-rs.toArray.size) undef,defers:=[]} w hl ⟨he,hent,.nil⟩ (.refl he) hm
   rw [List.range_eq_range']
   have hcs:c₀::cs={ c₀ with mode:=u}::cs:=by rw [<-hu]
   rw [hcs]
   have mono:∀(l:List Nat) (a:Act) (cs:List Frame) (w:World) (Q Q':Exit->Act->List Frame->World->Prop),(∀e a cs w,Q e a cs w->Q' e a cs w)->wpOpsSIn (Fr none) n P ops.toList.toArray Q l a cs w->wpOpsSIn (Fr none) n P ops.toList.toArray Q' l a cs w:=by
    intro l
    induction l with
    | nil=>intro a cs w Q Q' hq hh;exact hq _ _ _ _ hh
    | cons i l ih=>
     intro a cs w Q Q' hq hh
     simp only [wpOpsSIn] at hh⊢
     split at hh
     ·exact ih a cs w Q Q' hq hh
     ·obtain ⟨q1,q2⟩:=hh
      refine ⟨q1, ?_⟩
      split at q2
      ·rename_i hw
       rw [if_pos hw]
       split at q2
       ·split at q2<;>exact ih _ _ _ Q Q' hq q2
       ·exact ih _ _ _ Q Q' hq q2
       ·exact ih _ _ _ Q Q' hq q2
       ·exact hq _ _ _ _ q2
       ·exact q2.elim
      ·rename_i hw
       rw [if_neg hw]
       exact ih _ _ _ Q Q' hq q2
   have h2:=mono _ _ _ _ _ (Exit.thenS (Code.wpSIn (Fr none) n P rest (bodyPostS P fn c₀ cs fun e u' w'=>(∃v,e=.returned v)/\∃E' m' h',K m' h'/\Evo E0 h0 w0 E' h' w'/\WC E' m' u'/\E.le E')) (bodyPostS P fn c₀ cs fun e u' w'=>(∃v,e=.returned v)/\∃E' m' h',K m' h'/\Evo E0 h0 w0 E' h' w'/\WC E' m' u'/\E.le E')) ?_ h1
   ·simpa using h2
   ·rintro e a' cs' w' ⟨rfl,E',m',u',s',hX,hv',hs',hm',rfl⟩
    refine wpSIn_of_wpIn rfl ?_
    refine wpIn_mono (hev g fn id ops rest hf hb s' _ hX E' s'.h w' E' a' w' n hs'.emb.fresh hs' (.refl hs'.emb)) ?_
    rintro e a2 w2 ⟨E2,x,s2,hx,hv2,hs2,hxe⟩
    have hres:∀(tm:Array Value),(results fn tm).run P w2=.ok (.tuple #[]) w2:=by
     intro tm
     have:fn.results= #[]:=by rw [<-Array.toArray_toList (xs:=fn.results),hr]
     simp [results,this]
    have fin:s2.d=[]->K m' s2.h->a2.defers=[]/\∃u'',({ c₀ with mode:=u'}:Frame)::cs={ c₀ with mode:=u''}::cs/\∃v,(results fn a2.tmps).run P w2=.ok v w2/\((∃v',Ending.returned v=.returned v')/\∃E' m' h',K m' h'/\Evo E0 h0 w0 E' h' w2/\WC E' m' u''/\E.le E'):=by
     intro hd hK
     have hdd:=hs2.defs
     rw [hd] at hdd
     have hde:a2.defers=[]:=by
      generalize a2.defers=ad at hdd
      cases hdd
      rfl
     exact ⟨hde,u',rfl,_,hres _,⟨_,rfl⟩,E2,m',s2.h,hK,(hv.trans (hv'.trans hv2)),hm'.mono hv2.le,hv'.le.trans hv2.le⟩
    cases hxe with
    | normal=>
     cases hd:s2.d with
     | nil=>simp only [hd] at hx;exact fin hd hx
     | cons d ds=>simp [hd] at hx
    | ret=>
     cases hd:s2.d with
     | nil=>simp only [hd] at hx;exact fin hd hx
     | cons d ds=>simp [hd] at hx
    | exit i=>simp at hx
    | goto l=>simp at hx
    | panic v r h=>simp at hx
  ·exact hl.elim
 ·exact hl.elim
def Z3Q:PM->PM
 | .rcv=>.none
 | m=>m
def VE (P:Program) (ev:FuncId->Code->St->KE->Prop) (fn:Func) (s:St):List VD->PM->Z9->KO->Prop
 | [],.none,h,K=>Zf6 P fn { s with h:=h} fun v=>K (.ret v) h
 | [],.pan v,h,K=>K (.panic v) h
 | [],.rcv,_,_=>False
 | .mark x::ds,m,h,K=>match h.get x with
  | some .defd=>VE P ev fn s ds m (h.del x) K
  | _=>False
 | .call g args::ds,m,h,K=>match P.funcs[g]? with
  | some gf=>match gf.body.isSome&& !(gf.name== "runtime.NumGoroutine") with
   | true=>ZdG P ev g args m h fun m' h'=>VE P ev fn s ds (Z3Q m') h' K
   | false=>False
  | none=>False
theorem CallsDIn.mono' {F:Fence} {n:Nat} {P:Program} {f:FuncId} {args:Array Value} {w:World} {R R':Ending->FrameMode->World->Prop} (h:CallsDIn F n P f args u w R) (hr:∀e u w,R e u w->R' e u w):CallsDIn F n P f args u w R':=
 ⟨h.1,fun c cs hu hroom=>let ⟨e,u',w',fr,q,rest⟩:=h.2 c cs hu hroom;⟨e,u',w',fr,hr _ _ _ q,rest⟩⟩
theorem QS {P:Program} {ev:FuncId->Code->St->KE->Prop} (hev:∀g fn id ops rest,P.funcs[g]? =some fn->fn.body=some (.seq (.region id ops false) rest)->∀s X,ev g rest s X->YJ P s.h.next none rest s X) {fn:Func} {s:St} {K:KO} {h0:Z9} {tm:Array Value} {n:Nat}:
  ∀(ds:List VD) (rd:List Deferred) (m:PM) (u:FrameMode) (h:Z9) (E:Env) (w:World),VE P ev fn s ds m h K->Emb E h w->WL E s.n s.t tm->Evo E0 h0 w0 E h w->Vg E ds rd->WC E m u->m≠.rcv->
   LeavesInM (Fr none) n P fn tm (fun e w'=>∃E' o h',K o h'/\Evo E0 h0 w0 E' h' w'/\UR E' o e) rd u w:=by
 intro ds
 induction ds with
 | nil=>
  intro rd m u h E w hl he ht hv hd hm _
  cases hd
  cases hm with
  | none=>
   obtain ⟨v,hK,hr⟩:=Zbo hl
   obtain ⟨r,h1,h2⟩:=hr E w tm he ht
   exact ⟨r,h1,E,_,h,hK,hv,.ret v r h2⟩
  | pan v r hvr=>exact ⟨E,_,h,hl,hv,.panic v r hvr⟩
  | rcv r=>exact hl.elim
 | cons d ds ih=>
  intro rd m u h E w hl he ht hv hd hm hnr
  have hu:u≠.run:=by cases hm<;>simp
  cases hd with
  | call g args fnv cap rs ds rd hf hla t=>
   subst hf
   simp only [VE] at hl
   split at hl
   ·rename_i gf hgf
    split at hl
    ·rename_i hb
     refine ⟨hu,.inr ⟨fun h=>(by cases h),.func g,cap,g,rs++cap,rfl, ?_,fun _ _=>trivial, ?_⟩⟩
     ·simp only [invoke]
      exact Vh hgf hb _ w
     ·have h1:=Zbp (n:=n-1) hev hl he hv hla hm
      have e1:(rs.toList++cap.toList).toArray=rs++cap:=by apply JJ;simp
      rw [e1] at h1
      refine CallsDIn.mono' h1 ?_
      rintro e u' w' ⟨⟨v,rfl⟩,E',m',h',hK,hv',hm',hle⟩
      refine ih rd (Z3Q m') (settle u') h' E' w' hK hv'.emb (ht.mono hle) hv' (t.mono hle) ?_ ?_
      ·cases hm' with
       | none=>exact .none
       | pan v r h=>exact .pan v r h
       | rcv r=>exact .none
      ·cases m'<;>simp [Z3Q]
    ·exact hl.elim
   ·exact hl.elim
  | mark x b N ds rd hb t=>
   simp only [VE] at hl
   split at hl
   ·rename_i hg
    have hB:=he.own _ _ hg
    cases hB with
    | defd b' hb' hw=>
     rw [hb'] at hb
     injection hb with hb
     injection hb with q1 q2
     subst q1
     refine ⟨hu,.inl ⟨b',{ w with heap:=w.heap.setIfInBounds b' (.deferred none)},rfl, ?_, ?_⟩⟩
     ·simp [Instr.takeDeferred,getObj,setObj,Sem.run,hw]
     ·have hsz:b'<w.heap.size:=(he.own _ _ hg).lt hb'
      have hev1:Evo E h w E (h.del x) { w with heap:=w.heap.setIfInBounds b' (.deferred none)}:=by
       have hd:=Z0M he x
       have hget:∀y C,(h.del x).get y=some C->y≠x/\h.get y=some C:=fun y C hy=>by
        by_cases hn:x=y
        ·subst hn;rw [Z9.get_del_same] at hy;cases hy
        ·rw [Z9.get_del_other _ _ _ hn] at hy;exact ⟨fun q=>hn q.symm,hy⟩
       have hne:∀(i:Nat),i≠b'->(w.heap.setIfInBounds b' (.deferred none))[i]? =w.heap[i]?:=fun i hi=>by
        rw [Jk,if_neg (fun q=>hi q.symm)]
       refine ⟨.refl E,⟨hd.emb.fresh,hd.emb.lt,fun y C hy=> ?_,hd.emb.disj,fun a c hi=> ?_,hd.emb.sep⟩,by simp,rfl,rfl,⟨rfl,J5 _⟩, ?_, ?_,fun _ _ h=>h⟩
       ·obtain ⟨hyx,hy'⟩:=hget y C hy
        refine (he.own y C hy').congr fun b2 N2 hb2=>hne b2 ?_
        rintro rfl
        exact hyx (he.disj y x C _ b2 N2 _ hy' hg hb2 hb')
       ·have h1:=he.imm a c hi
        have hab:a.block≠b':=by
         intro hq
         have h2:=h1
         simp [World.cell?,hq,hw] at h2
        simpa [World.cell?,hne _ hab] using h1
       ·intro i _ hno
        refine hne i ?_
        rintro rfl
        exact hno ⟨x,_,_,hg,hb'⟩
       ·rintro i ⟨y,C,M,hy,hby⟩
        exact .inl ⟨y,C,M,(hget y C hy).2,hby⟩
      exact ih rd m u (h.del x) E _ hl hev1.emb ht (hv.trans hev1) t hm hnr
   ·exact hl.elim
def Z7a (n:Nat):List Nat->List AV->ZL->(ZL->Prop)->Prop
 | [],[],t,K=>K t
 | p::ps,v::vs,t,K=>match Nat.blt p n with
  | true=>Z7a n ps vs (Vv t p v) K
  | false=>False
 | _,_,_,_=>False
theorem Z4O {n:Nat}:∀(ps:List Nat) (vs:List AV) (t:ZL) (K:ZL->Prop),Z7a n ps vs t K->∃t',K t'/\ps.length=vs.length/\∀(E:Env) (tm:Array Value) (rs:List Value),WL E n t tm->Zw E vs rs->
  WL E n t' ((ps.zip rs).foldl (fun tmps (x:Nat×Value)=>tmps.setIfInBounds x.1 x.2) tm)
 | [],[],t,K,h=>⟨t,h,rfl,fun E tm rs ht hl=>by cases hl;exact ht⟩
 | [],_::_,_,_,h=>h.elim
 | _::_,[],_,_,h=>h.elim
 | p::ps,v::vs,t,K,h=>by
  simp only [Z7a] at h
  split at h
  ·rename_i hb
   have hp:p<n:=Jh hb
   obtain ⟨t',hK,hl,hr⟩:=Z4O ps vs (Vv t p v) K h
   refine ⟨t',hK,by simp [hl],fun E tm rs ht hl=> ?_⟩
   cases hl with
   | cons v c vs cs hv hvs=>
    simp only [List.zip_cons_cons,List.foldl_cons]
    refine hr E _ cs ⟨by simp [ht.size],fun x u hx=> ?_⟩ hvs
    by_cases hxp:p=x
    ·subst hxp
     rw [X7] at hx
     cases hx
     have:p<tm.size:=by rw [ht.size];exact hp
     simp only [Jc,Jk,if_true,this]
     exact hv
    ·rw [YW _ _ _ _ hxp] at hx
     have:=ht.get x u hx
     simpa [Jc,Jk,hxp] using this
  ·exact h.elim
def Z62:Option Code->LoopState
 | none=>.ready
 | some _=>.done
def endRound (x:Nat) (pending:Option Code) (h:Z9) (K:Z9->Prop):Prop:=
 match h.get x with
 | some (.loop l)=>K (h.set x (.loop { l with state:=Z62 pending,pending:=pending}))
 | _=>False
def Z63 (ev:FuncId->Nat->Code->St->KE->Prop) (x:Nat) (args:List AV) (h:Z9) (K:KO):Prop:=
 match h.get x with
 | some (.loop l)=>match l.state with
  | .ready=>Z7a l.n l.params args l.tmps fun t1=>ev l.fn x l.assign ⟨l.n,t1,h,[]⟩ fun e s=>match e with
   | .normal=>match s.h.get x with
    | some (.loop l1)=>match l1.state with
     | .ready=>ev l.fn x l.body { s with h:=s.h.set x (.loop { l1 with state:=.busy})} fun e2 s2=>match e2 with
      | .normal=>endRound x none s2.h fun h'=>K (.ret (.bool true)) h'
      | .ret=>endRound x (some .ret) s2.h fun h'=>K (.ret (.bool false)) h'
      | .exit id=>endRound x (some (.exit id)) s2.h fun h'=>K (.ret (.bool false)) h'
      | .goto t=>endRound x (some (.goto t)) s2.h fun h'=>K (.ret (.bool false)) h'
      | .panic _=>False
     | _=>False
    | _=>False
   | _=>False
  | _=>False
 | _=>False
theorem run_getLoop {P:Program} {w:World} {b:Nat} {r:Loop} (h:w.heap[b]? =some (.loop r)):(Instr.getLoop b).run P w=.ok r w:=by
 simp [Instr.getLoop,getObj,Sem.run,h]
theorem run_setObj_loop {P:Program} {w:World} {b:Nat} {r r':Loop} (h:w.heap[b]? =some (.loop r)):(setObj b (.loop r')).run P w=.ok () { w with heap:=w.heap.setIfInBounds b (.loop r')}:=by
 simp [setObj,Sem.run,h]
theorem VF {E:Env} {h:Z9} {w:World} (he:Emb E h w) (x b d N:Nat) (l l':Z8P) (fnr:FuncId) (tm:Array Value) (hg:h.get x=some (.loop l)) (hb:E.blk x=some (b,0)) (hd:E.blk l.defers=some (d,N))
  (ht:WL E l.n l.tmps tm)
  (e1:l'.n=l.n) (e2:l'.tmps=l.tmps) (e3:l'.params=l.params) (e4:l'.assign=l.assign) (e5:l'.body=l.body) (e6:l'.defers=l.defers):
  Evo E h w E (h.set x (.loop l')) { w with heap:=w.heap.setIfInBounds b (.loop ⟨l'.state,l'.pending,fnr,tm,l.params.toArray,l.assign,l.body,d⟩)}:=by
 have hlt:b<w.heap.size:=(he.own _ _ hg).lt hb
 refine Xk he x _ _ b 0 hg hb (fun i hi=> ?_) (by simp) rfl rfl ⟨rfl,J5 _⟩ ?_
 ·rw [Jk,if_neg (fun q=>hi q.symm)]
 ·refine .loop l' b d N fnr tm hb (by rw [e6];exact hd) ?_ (by rw [e1,e2];exact ht)
  rw [e3,e4,e5]
  simp [hlt]
theorem Z4P {x:Nat} {pending:Option Code} {h:Z9} {K:Z9->Prop} (hl:endRound x pending h K):
  ∃h',K h'/\∀(P:Program) (E:Env) (w:World) (b N:Nat),Emb E h w->E.blk x=some (b,N)->∃w',(Instr.endRound b pending).run P w=.ok (.bool pending.isNone) w'/\Evo E h w E h' w':=by
 unfold endRound at hl
 split at hl
 ·rename_i l hg
  refine ⟨_,hl,fun P E w b N he hb=> ?_⟩
  have hB:=he.own _ _ hg
  cases hB with
  | loop l b' d N' fnr tm hb' hd hw ht=>
   rw [hb'] at hb
   injection hb with hb
   injection hb with q1 q2
   subst q1
   have hev:=VF he x b' d N' l { l with state:=Z62 pending,pending:=pending} fnr tm hg hb' hd ht rfl rfl rfl rfl rfl rfl
   refine ⟨_, ?_,hev⟩
   simp only [Instr.endRound,J6,run_getLoop hw,J4]
   rw [run_setObj_loop hw]
   cases pending<;>simp [Z62]
 ·exact hl.elim
theorem Z88 {P:Program} {ev:FuncId->Nat->Code->St->KE->Prop} (hev:∀f x c s X,ev f x c s X->∀(E0:Env) (h0:Z9) (w0:World) (E:Env) (a:Act) (w:World) (n b N:Nat),WQ E s a w->Evo E0 h0 w0 E s.h w->E.blk x=some (b,N)->
   c.wpIn (Fr (some b)) n P (Vi E0 h0 w0 X) a w) {x:Nat} {h:Z9} {K:KO} (hl:Z63 ev x args h K):Z99 P x args h K:=by
 intro E w rs b N he ha hb
 unfold Z63 at hl
 split at hl
 ·rename_i l hg
  split at hl
  ·rename_i hst
   obtain ⟨t1,hl,hlen,hset⟩:=Z4O _ _ _ _ hl
   have hB:=he.own _ _ hg
   cases hB with
   | loop l b' d N' fnr tm hb' hd hw ht=>
    have hbb:=hb
    rw [hb'] at hb
    injection hb with hb
    injection hb with q1 q2
    subst q1
    have hrl:=ha.length
    refine ⟨fnr,(l.params.zip rs).foldl (fun tmps (x:Nat×Value)=>tmps.setIfInBounds x.1 x.2) tm,l.assign,l.body, ?_, ?_⟩
    ·simp only [Instr.yield,J6,run_getLoop hw,J4]
     rw [if_neg (by simp;omega)]
     simp
    ·refine roundIn_of_wpIn trivial ?_
     refine wpIn_mono (hev _ _ _ _ _ hl E h w E { tmps:=_,defers:=[]} w 0 b' 0 ⟨he,hset E tm rs ht ha,.nil⟩ (.refl he) hb') ?_
     rintro e a1 w1 ⟨E1,x1,s1,hx,hv1,hs1,hxe⟩
     cases hxe with
     | normal=>
      simp only at hx
      split at hx
      ·rename_i l1 hg1
       split at hx
       ·rename_i hst1
        have hB1:=hs1.emb.own _ _ hg1
        cases hB1 with
        | loop l1 b1 d1 N1 fnr1 tm1 hb1 hd1 hw1 ht1=>
         have hbe:=hv1.le.blk _ _ hb'
         rw [hb1] at hbe
         injection hbe with hbe
         injection hbe with q3 q4
         subst q3
         have hev1:=VF hs1.emb x b1 d1 N1 l1 { l1 with state:=.busy} fnr1 tm1 hg1 hb1 hd1 ht1 rfl rfl rfl rfl rfl rfl
         refine ⟨{ w1 with heap:=w1.heap.setIfInBounds b1 (.loop ⟨.busy,l1.pending,fnr1,tm1,l1.params.toArray,l1.assign,l1.body,d1⟩)}, ?_, ?_⟩
         ·simp only [Instr.beginRound,J6,run_getLoop hw1,J4]
          rw [run_setObj_loop hw1]
          simp [hst1]
         ·refine wpIn_mono (hev _ _ _ _ _ hx E h w E1 a1 _ 0 b1 0 ⟨hev1.emb,hs1.tmps,hs1.defs⟩ (hv1.trans hev1) hb1) ?_
          rintro e2 a2 w2 ⟨E2,x2,s2,hx2,hv2,hs2,hxe2⟩
          have hb2:E2.blk x=some (b1,0):=hv2.le.blk _ _ (by rw [hb'])
          have fin:∀(pending:Option Code) (o:Bool),o=pending.isNone->endRound x pending s2.h (fun h'=>K (.ret (.bool o)) h')->∃v w',(Instr.endRound b1 pending).run P w2=.ok v w'/\(∃E' o h',K o h'/\Evo E h w E' h' w'/\UR E' o (.returned v)):=by
           intro pending o ho hh
           obtain ⟨h',hK,hr⟩:=Z4P hh
           obtain ⟨w',h1,h2⟩:=hr P E2 w2 b1 0 hs2.emb hb2
           exact ⟨_,w',h1,E2,_,h',hK,hv2.trans h2,by rw [ho];exact .ret _ _ (.bool _)⟩
          cases hxe2 with
          | normal=>exact fin none true rfl hx2
          | ret=>exact fin (some .ret) false rfl hx2
          | exit id=>exact fin (some (.exit id)) false rfl hx2
          | goto t=>exact fin (some (.goto t)) false rfl hx2
          | panic v r h=>exact hx2.elim
       ·exact hx.elim
      ·exact hx.elim
     | exit id=>exact hx.elim
     | goto t=>exact hx.elim
     | ret=>exact hx.elim
     | panic v r h=>exact hx.elim
  ·exact hl.elim
 ·exact hl.elim
def Z64 (cx:Ctx) (P:Program) (g:Operand) (ps:Array Tmp) (assign body:Code) (s:St) (X:KE):Prop:=
 match cx.inR with
 | some _=>False
 | none=>match aev s.t g with
  | .func (.func gg) first cap=>match P.funcs[gg]? with
   | some fn=>match fn.body.isSome&& !(fn.name== "runtime.NumGoroutine") with
    | true=>cx.call gg (first++[.yield (s.h.next+1)]++cap) ((s.h.add .defd).add (.loop ⟨.ready,none,cx.fn,s.n,s.t,ps.toList,assign,body,s.h.next⟩)) fun o h3=>match o with
     | .ret _=>match h3.get (s.h.next+1) with
      | some (.loop l)=>match l.state with
       | .busy=>False
       | _=>match l.pending with
        | none=>X .normal { s with h:=h3.del (s.h.next+1),d:=.mark s.h.next::s.d}
        | some .ret=>X .ret { s with h:=h3.del (s.h.next+1),d:=.mark s.h.next::s.d}
        | some (.exit id)=>X (.exit id) { s with h:=h3.del (s.h.next+1),d:=.mark s.h.next::s.d}
        | some (.goto t)=>X (.goto t) { s with h:=h3.del (s.h.next+1),d:=.mark s.h.next::s.d}
        | _=>False
      | _=>False
     | .panic v=>X (.panic v) { s with h:=h3,d:=.mark s.h.next::s.d}
    | false=>False
   | none=>False
  | _=>False
theorem Z2I {P:Program} {k:Nat} (hcx:cx.Ok P) (hro:cx.inR=none->ro=none) {g:Operand} {ps:Array Tmp} {assign body:Code} {s:St} (hl:Z64 cx P g ps assign body s X):
  YJ P k ro (.rangeFunc g ps assign body) s X:=by
 unfold Z64 at hl
 split at hl
 ·exact hl.elim
 ·rename_i hin
  have hr0:=hro hin
  subst hr0
  split at hl
  ·rename_i gg first cap hgv
   split at hl
   ·rename_i fn hfn
    split at hl
    ·rename_i hbody
     intro E0 h0 w0 E a w n _ hs hev
     refine wpIn_rangeFunc ?_
     intro fnr _
     have hgr:=Zo hs.tmps g
     rw [hgv] at hgr
     cases hge:a.eval g<;>rw [hge] at hgr<;>cases hgr
     rename_i fs cs hfs hcs
     -- the block of deferred calls
     have hev1:=W8 hs.emb (.deferred (some [])) 0 .defd (.defd w.heap.size (Env.ext_same _ _ _ _) (by simp))
     have hs1:({ w with heap:=w.heap.push (.deferred (some []))}:World).heap.size=w.heap.size+1:=by simp
     have hbd:(E.ext s.h.next w.heap.size 0).blk s.h.next=some (w.heap.size,0):=Env.ext_same _ _ _ _
     have hfr1:(E.ext s.h.next w.heap.size 0).blk (s.h.next+1)=none:=hev1.emb.fresh _ (J5 _)
     have hle2:(E.ext s.h.next w.heap.size 0).le ((E.ext s.h.next w.heap.size 0).ext (s.h.next+1) (w.heap.size+1) 0):=Env.ext_le hfr1
     have hev2:=W8 hev1.emb (.loop ⟨.ready,none,fnr,a.tmps,ps,assign,body,w.heap.size⟩) 0 (.loop ⟨.ready,none,cx.fn,s.n,s.t,ps.toList,assign,body,s.h.next⟩)
      (.loop _ (w.heap.size+1) w.heap.size 0 fnr a.tmps (by rw [hs1];exact Env.ext_same _ _ _ _) (by rw [hs1];exact hle2.blk _ _ hbd) (by rw [Array.getElem?_push,if_pos (by simp)]) (by rw [hs1];exact hs.tmps.mono (hev1.le.trans hle2)))
     rw [hs1] at hev2
     have hbl:((E.ext s.h.next w.heap.size 0).ext (s.h.next+1) (w.heap.size+1) 0).blk (s.h.next+1)=some (w.heap.size+1,0):=Env.ext_same _ _ _ _
     refine ⟨w.heap.size+1,[⟨.collected w.heap.size, #[]⟩],{ w with heap:=(w.heap.push (.deferred (some []))).push (.loop ⟨.ready,none,fnr,a.tmps,ps,assign,body,w.heap.size⟩)},⟨.fn (.func gg) cs.toArray,fs.toArray++ #[.func (.yield (w.heap.size+1)) #[] #[]]⟩,{ w with heap:=(w.heap.push (.deferred (some []))).push (.loop ⟨.ready,none,fnr,a.tmps,ps,assign,body,w.heap.size⟩)},gg,fs.toArray++ #[.func (.yield (w.heap.size+1)) #[] #[]]++cs.toArray,{ w with heap:=(w.heap.push (.deferred (some []))).push (.loop ⟨.ready,none,fnr,a.tmps,ps,assign,body,w.heap.size⟩)}, ?_, ?_,fun _ _=>trivial, ?_,fun h=>(by cases h), ?_⟩
     ·show (Instr.enterLoop fnr a.tmps ps assign body none).run P w=_
      have e0:({ w with heap:=w.heap.push (.deferred (some []))}:World).heap.size=w.heap.size+1:=by simp
      simp only [Instr.enterLoop,J6,run_newObj,J4,Ji,e0]
     ·simp only [resolve,hge,Deferred.ofValue,Ji]
      have e2:(#[Operand.const (Value.func (Fn.yield (w.heap.size+1)) #[] #[])]:Array Operand).map a.eval= #[Value.func (Fn.yield (w.heap.size+1)) #[] #[]]:=by simp [Act.eval]
      rw [e2]
     ·simp only [invoke]
      exact Vh hfn hbody _ _
     ·have hev12:=hev1.trans hev2
      have hyl:Zw ((E.ext s.h.next w.heap.size 0).ext (s.h.next+1) (w.heap.size+1) 0) (first++[.yield (s.h.next+1)]++cap) (fs++[.func (.yield (w.heap.size+1)) #[] #[]]++cs):=
       ((hfs.mono hev12.le).append (.cons _ _ _ _ (.yield _ _ _ hbl) .nil)).append (hcs.mono hev12.le)
      have hcall:=hcx.call _ _ _ _ hl _ _ _ hev2.emb hyl
      have e1:(fs++[Value.func (.yield (w.heap.size+1)) #[] #[]]++cs).toArray=fs.toArray++ #[Value.func (.yield (w.heap.size+1)) #[] #[]]++cs.toArray:=by simp
      rw [e1] at hcall
      refine Z1E (hcall.mono ?_)
      rintro e w3 ⟨E3,o,h3,hk,hv3,ho⟩
      have hv03:=hev.trans (hev12.trans hv3)
      have hdr:Vg E3 (.mark s.h.next::s.d) ([⟨.collected w.heap.size, #[]⟩]++a.defers):=.mark _ _ 0 _ _ (hv3.le.blk _ _ (hle2.blk _ _ hbd)) (hs.defs.mono (hev12.le.trans hv3.le))
      cases ho with
      | ret v r hvr=>
       simp only at hk
       split at hk
       ·rename_i l hgl
        have hB:=hv3.emb.own _ _ hgl
        cases hB with
        | loop l b3 d3 N3 fnr3 tm3 hb3 hd3 hw3 ht3=>
         have hbe:=hv3.le.blk _ _ hbl
         rw [hb3] at hbe
         injection hbe with hbe
         injection hbe with q1 q2
         subst q1
         have hnb:l.state≠.busy:=by intro hq;rw [hq] at hk;exact hk
         have hk':(match l.pending with
           | none=>X .normal { s with h:=h3.del (s.h.next+1),d:=.mark s.h.next::s.d}
           | some .ret=>X .ret { s with h:=h3.del (s.h.next+1),d:=.mark s.h.next::s.d}
           | some (.exit id)=>X (.exit id) { s with h:=h3.del (s.h.next+1),d:=.mark s.h.next::s.d}
           | some (.goto t)=>X (.goto t) { s with h:=h3.del (s.h.next+1),d:=.mark s.h.next::s.d}
           | _=>False):=by
          cases hq:l.state<;>rw [hq] at hk<;>first|exact hk|exact hk.elim
         have hev3:=VF hv3.emb (s.h.next+1) (w.heap.size+1) d3 N3 l { l with state:=.exhausted} fnr3 tm3 hgl hb3 hd3 ht3 rfl rfl rfl rfl rfl rfl
         have hev4:=Z0M hev3.emb (s.h.next+1)
         have hdel:((h3.set (s.h.next+1) (.loop { l with state:=.exhausted})).del (s.h.next+1))=((h3.set (s.h.next+1) (.loop { l with state:=.exhausted})).del (s.h.next+1)):=rfl
         have hev5:Evo E3 h3 w3 E3 (h3.del (s.h.next+1)) { w3 with heap:=w3.heap.setIfInBounds (w.heap.size+1) (.loop ⟨.exhausted,l.pending,fnr3,tm3,l.params.toArray,l.assign,l.body,d3⟩)}:=by
          refine (hev3.trans hev4).trans (Z14 hev4.emb rfl ?_)
          intro y B hy
          by_cases hyx:s.h.next+1=y
          ·subst hyx;rw [Z9.get_del_same] at hy;cases hy
          ·rw [Z9.get_del_other _ _ _ hyx] at hy⊢
           rw [Z9.get_set_other _ _ _ _ hyx];exact hy
         refine ⟨l.pending,{ w3 with heap:=w3.heap.setIfInBounds (w.heap.size+1) (.loop ⟨.exhausted,l.pending,fnr3,tm3,l.params.toArray,l.assign,l.body,d3⟩)}, ?_, ?_⟩
         ·simp only [Instr.endLoop,J6,run_getLoop hw3,J4]
          rw [if_neg (by cases hq:l.state<;>simp_all)]
          simp only [J6,Ji]
          rw [run_setObj_loop hw3]
          simp
         ·have hsr:WQ E3 { s with h:=h3.del (s.h.next+1),d:=.mark s.h.next::s.d} { a with defers:=[⟨.collected w.heap.size, #[]⟩]++a.defers} { w3 with heap:=w3.heap.setIfInBounds (w.heap.size+1) (.loop ⟨.exhausted,l.pending,fnr3,tm3,l.params.toArray,l.assign,l.body,d3⟩)}:=
           ⟨hev5.emb,hs.tmps.mono (hev12.le.trans hv3.le),hdr⟩
          have hvv:=hv03.trans hev5
          cases hp:l.pending with
          | none=>rw [hp] at hk' hsr hvv;exact ⟨E3,.normal,_,hk',hvv,hsr,.normal⟩
          | some c=>
           rw [hp] at hk' hsr hvv
           cases c with
           | ret=>exact wpIn_ret ⟨E3,.ret,_,hk',hvv,hsr,.ret⟩
           | exit id=>exact wpIn_exit ⟨E3,.exit id,_,hk',hvv,hsr,.exit id⟩
           | goto t=>exact wpIn_goto ⟨E3,.goto t,_,hk',hvv,hsr,.goto t⟩
           | _=>exact hk'.elim
       ·exact hk.elim
      | panic v r hvr=>
       exact ⟨E3,.panic v,_,hk,hv03,⟨hv3.emb,hs.tmps.mono (hev12.le.trans hv3.le),hdr⟩,.panic v r hvr⟩
    ·exact hl.elim
   ·exact hl.elim
  ·exact hl.elim
abbrev Yb:=List AV->Z9->KO->Prop
abbrev Zf7:=Ctx->List Oper->St->KE->Prop
structure Zf where
 P:Program
 draw:Zf7
 psumm:FuncId->Option ZJ
 fsumm:FuncId->Option Yb
 lsumm:FuncId->Nat->Option (Nat->St->KE->Prop)
 fuel:Nat
variable {G:Zf}
def Z9j (G:Zf) (f:FuncId) (k:Nat):Z9f:=fun id=>match G.lsumm f id with|some S=>some (S k)|none=>none
def evC (G:Zf) (cx:Ctx) (k:Nat):Code->St->KE->Prop:=
 Xm cx G.P (match cx.inR with|none=>Z9j G cx.fn k|some _=>fun _=>none) G.fuel (G.draw cx) (Z64 cx G.P)
def Z7b (G:Zf) (mk:FuncId->Option Nat->Ctx) (f:FuncId) (args:List AV) (h:Z9) (K:KO):Prop:=
 match G.psumm f with
 | some S=>S args h fun v=>K (.ret v) h
 | none=>match G.fsumm f with
 | some S=>S args h K
 | none=>match G.P.funcs[f]? with
  | some fn=>match fn.body,Nat.ble args.length fn.ntmps with
   | some c,true=>evC G (mk f none) h.next c ⟨fn.ntmps,Z0m 0 args,h,[]⟩ fun e s=>match e with
    | .normal=>VE G.P (fun g c s X=>evC G (mk g none) s.h.next c s X) fn s s.d .none s.h K
    | .ret=>VE G.P (fun g c s X=>evC G (mk g none) s.h.next c s X) fn s s.d .none s.h K
    | .panic v=>VE G.P (fun g c s X=>evC G (mk g none) s.h.next c s X) fn s s.d (.pan v) s.h K
    | _=>False
   | _,_=>False
  | none=>False
def Z3R (G:Zf):Nat->FuncId->Option Nat->Ctx
 | 0,f,ro=>⟨fun _=>none,fun _ _ _ _=>False,fun _ _ _ _=>False,f,ro⟩
 | n+1,f,ro=>⟨G.psumm,fun g args h K=>Z7b G (Z3R G n) g args h K,fun x args h K=>Z63 (fun f' x' c s X=>evC G (Z3R G n f' (some x')) 0 c s X) x args h K,f,ro⟩
@[irreducible] def evF (G:Zf) (n:Nat) (f:FuncId) (args:List AV) (h:Z9) (K:KO):Prop:=Z7b G (Z3R G n) f args h K
structure Zf.Ok (G:Zf):Prop where
 draw:∀(cx:Ctx) (ro:Option Nat) (id:Nat) (ops:Array Oper) (s:St) (X:KE),cx.Ok G.P->(cx.inR=none->ro=none)->G.draw cx ops.toList s X->∀k,YJ G.P k ro (.region id ops true) s X
 psumm:∀f S args h K,G.psumm f=some S->S args h K->Zh G.P f args h fun o h'=>∃v,o=.ret v/\h'=h/\K v
 fsumm:∀f S args h K,G.fsumm f=some S->S args h K->Zh G.P f args h K
 lsumm:∀f id S fn c body,G.lsumm f id=some S->G.P.funcs[f]? =some fn->fn.body=some body->(id,c)∈Zt body->∀k s X,S k s X->YJ G.P k none c s X
theorem Z3S (hG:G.Ok) {k k':Nat} (hcx:cx.Ok G.P) (hro:cx.inR=none->ro=none) {c:Code}
  (hkk:cx.inR=none->k'=k) (hsub:cx.inR=none->∃fn body,G.P.funcs[cx.fn]? =some fn/\fn.body=some body/\∀b,b∈Zt c->b∈Zt body) {s:St} (h:evC G cx k c s X):YJ G.P k' ro c s X:=by
 unfold evC at h
 cases hin:cx.inR with
 | some x=>
  simp only [hin] at h
  exact (Z4N hcx hro (fun id ops s X hd=>hG.draw cx ro id ops s X hcx hro hd k') (fun g ps assign body s X hr=>Z2I hcx hro hr) (Zt c) (fun id S c' hS=>by simp at hS) c (fun _ hb=>hb)).1 s X h
 | none=>
  simp only [hin] at h
  obtain ⟨fn,body,hf,hb,hbl⟩:=hsub hin
  exact (Z4N hcx hro (fun id ops s X hd=>hG.draw cx ro id ops s X hcx hro hd k') (fun g ps assign body s X hr=>Z2I hcx hro hr) (Zt body)
   (fun id S c' hS hm s' X' hs'=>by
    unfold Z9j at hS
    split at hS
    ·rename_i S0 hS0
     cases hS
     have hk0:=hkk hin
     subst hk0
     have hr0:=hro hin
     subst hr0
     exact hG.lsumm cx.fn id S0 fn c' body hS0 hf hb hm _ s' X' hs'
    ·cases hS) c hbl).1 s X h
theorem Z4Q (hG:G.Ok) {mk:FuncId->Option Nat->Ctx} (hmk:∀f ro,(mk f ro).Ok G.P/\(mk f ro).fn=f/\(mk f ro).inR=ro) {f:FuncId} {h:Z9} {K:KO} (hl:Z7b G mk f args h K):Zh G.P f args h K:=by
 unfold Z7b at hl
 split at hl
 ·rename_i S hS
  intro E w rs he ha
  refine (hG.psumm f S args h _ hS hl E w rs he ha).mono ?_
  rintro e w' ⟨E',o',h',⟨v,rfl,rfl,hN⟩,hev,ho⟩
  exact ⟨E',.ret v,h',hN,hev,ho⟩
 split at hl
 ·rename_i S hS
  exact hG.fsumm f S args h K hS hl
 ·split at hl
  ·rename_i fn hf
   split at hl
   ·rename_i c hb hn
    intro E w rs he ha
    refine (callsIn_wide (n:=0)).1 ?_
    refine callsIn_of_wp_marks hf hb trivial ?_ rfl
    have hent:=Z2H (N:=fn.ntmps) ha (WM hn)
    have hcode:YJ G.P h.next none c _ _:=Z3S hG (hmk f none).1 (ro:=none) (fun _=>rfl) (fun _=>rfl) (fun _=>⟨fn,c,by rw [(hmk f none).2.1];exact hf,hb,fun _ hb=>hb⟩) hl
    have hdef:∀g gfn id ops rest,G.P.funcs[g]? =some gfn->gfn.body=some (.seq (.region id ops false) rest)->∀s X,evC G (mk g none) s.h.next rest s X->YJ G.P s.h.next none rest s X:=
     fun g gfn id ops rest hgf hgb s X hr=>Z3S hG (hmk g none).1 (fun _=>rfl) (fun _=>rfl) (fun _=>⟨gfn,_,by rw [(hmk g none).2.1];exact hgf,hgb,fun b hb=>by simp [Zt,hb]⟩) hr
    refine wpIn_mono (hcode E h w E { tmps:=rs.toArray++Array.replicate (fn.ntmps-rs.toArray.size) undef,defers:=[]} w 0 he.fresh ⟨he,hent,.nil⟩ (.refl he)) ?_
    rintro e a' w' ⟨E',x,s',hx,hev,hs',hxe⟩
    cases hxe with
    | normal=>exact QS (ev:=fun g c s X=>evC G (mk g none) s.h.next c s X) hdef s'.d a'.defers .none .returning s'.h E' w' hx hs'.emb hs'.tmps hev hs'.defs .none (by simp)
    | ret=>exact QS (ev:=fun g c s X=>evC G (mk g none) s.h.next c s X) hdef s'.d a'.defers .none .returning s'.h E' w' hx hs'.emb hs'.tmps hev hs'.defs .none (by simp)
    | panic v r hv=>exact QS (ev:=fun g c s X=>evC G (mk g none) s.h.next c s X) hdef s'.d a'.defers (.pan v) _ s'.h E' w' hx hs'.emb hs'.tmps hev hs'.defs (.pan v r hv) (by simp)
    | exit id=>exact hx.elim
    | goto l=>exact hx.elim
   ·exact hl.elim
  ·exact hl.elim
theorem Z0Q {G:Zf} (hG:G.Ok):∀(n:Nat) (f:FuncId) (ro:Option Nat),(Z3R G n f ro).Ok G.P/\(Z3R G n f ro).fn=f/\(Z3R G n f ro).inR=ro
 | 0,f,ro=>⟨⟨fun _ _ _ _ _ h=>by simp [Z3R] at h,fun _ _ _ _ h=>h.elim,fun _ _ _ _ h=>h.elim⟩,rfl,rfl⟩
 | n+1,f,ro=>by
  refine ⟨⟨fun f' S args h K hS hs=>hG.psumm f' S args h K hS hs,fun g args h K hl=>Z4Q hG (Z0Q hG n) hl,fun x args h K hl=> ?_⟩,rfl,rfl⟩
  refine Z88 (ev:=fun f' x' c s X=>evC G (Z3R G n f' (some x')) 0 c s X) ?_ hl
  intro f' x' c s X hc E0 h0 w0 E a w m b N hs hev hb
  have hk:=Z0Q hG n f' (some x')
  exact Z3S (k':=s.h.next) hG hk.1 (ro:=some b) (fun hq=>by rw [hk.2.2] at hq;cases hq) (fun hq=>by rw [hk.2.2] at hq;cases hq) (fun hq=>by rw [hk.2.2] at hq;cases hq) hc E0 h0 w0 E a w m (fun x hx=>by
   cases hq:E0.blk x with
   | none=>rfl
   | some r=>have:=hev.le.blk x r hq;rw [hs.emb.fresh x hx] at this;cases this) hs hev
theorem Yw (hG:G.Ok) {n:Nat} {f:FuncId} {h:Z9} {K:KO} (hl:evF G n f args h K):Zh G.P f args h K:=by
 unfold evF at hl
 exact Z4Q hG (Z0Q hG n) hl
def Z9k:Op->Bool
 | .move _|.assign _|.pick .. |.build .. |.load .. |.nilCheck _|.binOp .. |.unOp .. |.convert .. |.makeInterface .. |.makeFunc .. |.slice .. |.fieldAddr .. |.field .. |.indexAddr .. |.index .. |.extract .. |.typeAssert ..
 | .lookup .. |.sliceToArrayPointer .. =>true
 | .call ⟨.builtin .len,_,_⟩=>true
 | _=>false
def Zd8 (q:Nat):Op->Bool
 | .alloc _=>true
 | .buildSlice _ len _=>Nat.beq q 2&& !Nat.beq len 0
 | _=>false
def tmpsOf:List Operand->List Nat
 | []=>[]
 | .tmp x::r=>x::tmpsOf r
 | _::r=>tmpsOf r
def opT (o:Op):List Nat:=tmpsOf o.operands.toList
def WD (t:ZL):List Nat->ZL
 | []=>[]
 | x::r=>match Zz t x with|some v=>(x,v)::WD t r|none=>WD t r
theorem Xv {t:ZL}:∀{xs:List Nat} {x:Nat} {v:AV},Zz (WD t xs) x=some v->Zz t x=some v/\x∈xs
 | [],_,_,h=>by simp [WD,Zz] at h
 | y::r,x,v,h=>by
  unfold WD at h
  split at h
  ·rename_i u hu
   simp only [Zz] at h
   split at h
   ·rename_i hb
    have:=J0 hb
    subst this
    cases h
    exact ⟨hu,JB ..⟩
   ·have:=Xv h
    exact ⟨this.1,Jp _ this.2⟩
  ·have:=Xv h
   exact ⟨this.1,Jp _ this.2⟩
structure It where
 i:Nat
 o:Oper
 m:Nat
 q:Nat
def Z9l (q:Nat):Op->Bool
 | .assign _=> !Nat.beq q 0
 | o=>Z9k o
def Yx (it:It):Bool:=Z9l it.q it.o.op
def ZI (it:It):Bool:=Zd8 it.q it.o.op
def bsI (it:It):Bool:=match it.o.op with|.buildSlice .. =>ZI it|_=>false
def Xi (it:It):Bool:= !Yx it&& !ZI it
def Ur:List Nat->Nat->Nat
 | [],_=>0
 | a::_,0=>a
 | _::r,n+1=>Ur r n
def UB (acc:List Nat):List Edge->Nat->Nat
 | [],s=>s
 | e::r,s=>match Region.binds .any e with
  | true=>UB acc r (Nat.lor (Nat.lor s (2^e.on)) (Ur acc e.on))
  | false=>UB acc r s
def ZF (q:Nat):Nat->List Nat->List Oper->List It
 | _,_,[]=>[]
 | k,acc,o::r=>⟨k,o,UB acc o.after.toList 0,q⟩::ZF q (k+1) (acc++[UB acc o.after.toList 0]) r
def Z2J (all:List Oper) (g:Option (Nat×Bool)):List Nat:=
 match g with
 | none=>[]
 | some (j,_)=>match Z0k all j with|some d=>[d]|none=>[]
def XT (all:List Oper) (o:Oper):List Nat:=Z2J all o.guard++opT o.op
def Z65 (x:Nat):List Nat->Bool
 | []=>false
 | y::r=>match Nat.beq x y with|true=>true|false=>Z65 x r
theorem VG (x:Nat):∀l:List Nat,Z65 x l=true↔x∈l
 | []=>by simp [Z65]
 | y::r=>by
  unfold Z65
  split
  ·rename_i h;simp [J0 h]
  ·rename_i h
   have hne:x≠y:=fun e=>by subst e;rw [Jg] at h;cases h
   simp [VG x r,hne]
def Z0n (all:List Oper) (a b:It):Bool:=match a.o.dst with|some x=>Z65 x (XT all b.o)|none=>false
def Z3T (a b:It):Bool:=match a.o.dst,b.o.dst with|some x,some y=>Nat.beq x y|_,_=>false
def Z66 (f:It->Bool):List It->Bool
 | []=>false
 | a::r=>match f a with|true=>true|false=>Z66 f r
def UT (f:It->Bool):List It->Bool
 | []=>true
 | a::r=>match f a with|true=>UT f r|false=>false
theorem Qn (f:It->Bool):∀l,Z66 f l=true↔∃a∈l,f a=true
 | []=>by simp [Z66]
 | a::r=>by
  unfold Z66
  split
  ·rename_i h;simp [h]
  ·rename_i h;simp [h,Qn f r]
theorem YQ (f:It->Bool):∀l,UT f l=true↔∀a∈l,f a=true
 | []=>by simp [UT]
 | a::r=>by
  unfold UT
  split
  ·rename_i h;simp [h,YQ f r]
  ·rename_i h;simp [h]
def Zd9 (all:List Oper) (its:List It) (a b:It):Bool:=
 Nat.beq a.i b.i||(!Z3T a b&&(!Z0n all a b||b.m.testBit a.i||(a.m.testBit b.i&&(Xi a||(Yx a&&Z66 (fun e=>Xi e&&e.m.testBit b.i&&a.m.testBit e.i) its)))))
def Z1G (it:It):Bool:=it.o.after.toList.all fun e=> !Region.binds .any e||Nat.blt e.on it.i
def Z67 (P:Program) (all:List Oper) (its:List It) (a:It):Bool:=
 Z1G a&&(Xi a|| !Z0n all a a)&&
 (match a.o.guard with|none=>true|some (j,_)=>a.m.testBit j&&(Z0k all j).isSome)&&
 (match ZI a with
  | true=>a.o.guard.isNone&&a.o.dst.isSome&&(match a.o.op with|.alloc T=>(Qh P T).isSome|_=>true)&&UT (fun p=> !Z0n all p a||a.m.testBit p.i) its
  | false=>true)&&
 (!(Yx a||bsI a)||UT (fun p=> !ZI p|| !a.m.testBit p.i||Z66 (fun e=>Xi e&&e.m.testBit p.i&&a.m.testBit e.i) its) its)
def Zf8 (P:Program) (all:List Oper) (its:List It):Bool:=UT (fun a=>Z67 P all its a&&UT (Zd9 all its a) its) its
def Ud (P:Program) (all:List Oper):List It->List It->Nat->List (It×AV)->St->(List It->Nat->List (It×AV)->St->Prop)->Prop
 | [],kept,D,pend,s,K=>K kept D pend s
 | it::r,kept,D,pend,s,K=>
  match Yx it&&Nat.beq (Nat.land it.m D) it.m with
  | true=>US all it.o.guard s
    (fun s'=>opQ P it.o.op (WD s'.t (opT it.o.op)) s'.h fun v=>Vs s' it.o.dst v fun s2=>Ud P all r kept (Nat.lor D (2^it.i)) ((it,v)::pend) s2 K)
    (fun s'=>Vs s' it.o.dst (.tuple []) fun s2=>Ud P all r kept (Nat.lor D (2^it.i)) pend s2 K)
  | false=>Ud P all r (kept++[it]) D pend s K
mutual
/-- One value is the other. -/
def Yo:AV->AV->Prop->Prop
 | .top,v,Z=>match v with|.top=>Z|_=>False
 | .bool b,v,Z=>match v with|.bool a=>Z6 (a=b) Z|_=>False
 | .int k b,v,Z=>match v with
  | .int k' a=>match decide (k'=k) with|true=>Z6 (a=b) Z|false=>False
  | _=>False
 | .str b,v,Z=>match v with|.str a=>a=b/\Z|_=>False
 | .ptr none,v,Z=>match v with|.ptr none=>Z|_=>False
 | .ptr (some q),v,Z=>match v with
  | .ptr (some p)=>Z6 (p.blk=q.blk) (Z6 (p.row=q.row) (Z6 (p.sz=q.sz) (Z6 (p.off=q.off) (Z6 (p.inn=q.inn) Z))))
  | _=>False
 | .nslice q esz len lo,v,Z=>match v with
  | .nslice p esz' len' lo'=>Z6 (p.blk=q.blk) (Z6 (p.row=q.row) (Z6 (p.sz=q.sz) (Z6 (p.off=q.off) (Z6 (p.inn=q.inn) (Z6 (esz'=esz) (Z6 (len'=len) (Z6 (lo'=lo) Z)))))))
  | _=>False
 | .vints k xs len,v,Z=>match v with
  | .vints k' xs' len'=>match decide (k'=k) with|true=>xs'=xs/\Z6 (len'=len) Z|false=>False
  | _=>False
 | .vrows esz n f len,v,Z=>match v with
  | .vrows esz' n' f' len'=>Z6 (esz'=esz) (Z6 (n'=n) (f'=f/\Z6 (len'=len) Z))
  | _=>False
 | .eslice,v,Z=>match v with|.eslice=>Z|_=>False
 | .fslice,v,Z=>match v with|.fslice=>Z|_=>False
 | .nilslice,v,Z=>match v with|.nilslice=>Z|_=>False
 | .map none,v,Z=>match v with|.map none=>Z|_=>False
 | .map (some y),v,Z=>match v with|.map (some x)=>Z6 (x=y) Z|_=>False
 | .yield y,v,Z=>match v with|.yield x=>Z6 (x=y) Z|_=>False
 | .nilFunc,v,Z=>match v with|.nilFunc=>Z|_=>False
 | .nilIface,v,Z=>match v with|.nilIface=>Z|_=>False
 | .arr k n xs,v,Z=>match v with
  | .arr k' n' xs'=>match decide (k'=k)&&Nat.beq n' n with|true=>xs'=xs/\Z|false=>False
  | _=>False
 | .pview cs inn,v,Z=>match v with|.pview cs' inn'=>Qo cs cs' (Z6 (inn'=inn) Z)|_=>False
 | .func (.func g) fs cs,v,Z=>match v with
  | .func (.func g') fs' cs'=>match Nat.beq g' g with|true=>Qo fs fs' (Qo cs cs' Z)|false=>False
  | _=>False
 | .func a b c,v,Z=>v=.func a b c/\Z
 | .iface t u,v,Z=>match v with
  | .iface t' u'=>match Nat.beq t' t with|true=>Yo u u' Z|false=>False
  | _=>False
 | .agg cs,v,Z=>match v with|.agg cs'=>Qo cs cs' Z|_=>False
 | .tuple cs,v,Z=>match v with|.tuple cs'=>Qo cs cs' Z|_=>False
def Qo:List AV->List AV->Prop->Prop
 | [],l,Z=>match l with|[]=>Z|_::_=>False
 | v::r,l,Z=>match l with|v'::r'=>Yo v v' (Qo r r' Z)|[]=>False
end
set_option maxHeartbeats 1000000 in
mutual
theorem Z1H:∀(v₂ v:AV) (Z:Prop),Yo v₂ v Z->v=v₂/\Z
 | .top,v,Z,h=>by unfold Yo at h;split at h<;>first|exact ⟨rfl,h⟩|exact h.elim
 | .bool b,v,Z,h=>by
  unfold Yo at h
  split at h
  ·replace h:=Zb h;obtain ⟨rfl,h⟩:=h;exact ⟨rfl,h⟩
  ·exact h.elim
 | .int k b,v,Z,h=>by
  unfold Yo at h
  split at h
  ·split at h
   ·rename_i hk
    have hk:=of_decide_eq_true hk
    subst hk
    replace h:=Zb h;obtain ⟨rfl,h⟩:=h;exact ⟨rfl,h⟩
   ·exact h.elim
  ·exact h.elim
 | .str b,v,Z,h=>by
  unfold Yo at h
  split at h
  ·obtain ⟨rfl,h⟩:=h;exact ⟨rfl,h⟩
  ·exact h.elim
 | .ptr none,v,Z,h=>by unfold Yo at h;split at h<;>first|exact ⟨rfl,h⟩|exact h.elim
 | .ptr (some q),v,Z,h=>by
  unfold Yo at h
  split at h
  ·rename_i p
   obtain ⟨p1,p2,p3,p4,p5⟩:=p
   obtain ⟨q1,q2,q3,q4,q5⟩:=q
   replace h:=Zb h;obtain ⟨rfl,h⟩:=h
   replace h:=Zb h;obtain ⟨rfl,h⟩:=h
   replace h:=Zb h;obtain ⟨rfl,h⟩:=h
   replace h:=Zb h;obtain ⟨rfl,h⟩:=h
   replace h:=Zb h;obtain ⟨rfl,h⟩:=h
   exact ⟨rfl,h⟩
  ·exact h.elim
 | .nslice q esz len lo,v,Z,h=>by
  unfold Yo at h
  split at h
  ·rename_i p _ _ _
   obtain ⟨p1,p2,p3,p4,p5⟩:=p
   obtain ⟨q1,q2,q3,q4,q5⟩:=q
   replace h:=Zb h;obtain ⟨rfl,h⟩:=h
   replace h:=Zb h;obtain ⟨rfl,h⟩:=h
   replace h:=Zb h;obtain ⟨rfl,h⟩:=h
   replace h:=Zb h;obtain ⟨rfl,h⟩:=h
   replace h:=Zb h;obtain ⟨rfl,h⟩:=h
   replace h:=Zb h;obtain ⟨rfl,h⟩:=h
   replace h:=Zb h;obtain ⟨rfl,h⟩:=h
   replace h:=Zb h;obtain ⟨rfl,h⟩:=h
   exact ⟨rfl,h⟩
  ·exact h.elim
 | .vints k xs len,v,Z,h=>by
  unfold Yo at h
  split at h
  ·split at h
   ·rename_i hk
    have hk:=of_decide_eq_true hk
    subst hk
    obtain ⟨rfl,h⟩:=h
    replace h:=Zb h;obtain ⟨rfl,h⟩:=h;exact ⟨rfl,h⟩
   ·exact h.elim
  ·exact h.elim
 | .vrows esz n f len,v,Z,h=>by
  unfold Yo at h
  split at h
  ·replace h:=Zb h;obtain ⟨rfl,h⟩:=h
   replace h:=Zb h;obtain ⟨rfl,h⟩:=h
   obtain ⟨rfl,h⟩:=h
   replace h:=Zb h;obtain ⟨rfl,h⟩:=h;exact ⟨rfl,h⟩
  ·exact h.elim
 | .eslice,v,Z,h=>by unfold Yo at h;split at h<;>first|exact ⟨rfl,h⟩|exact h.elim
 | .fslice,v,Z,h=>by unfold Yo at h;split at h<;>first|exact ⟨rfl,h⟩|exact h.elim
 | .nilslice,v,Z,h=>by unfold Yo at h;split at h<;>first|exact ⟨rfl,h⟩|exact h.elim
 | .map none,v,Z,h=>by unfold Yo at h;split at h<;>first|exact ⟨rfl,h⟩|exact h.elim
 | .map (some y),v,Z,h=>by
  unfold Yo at h
  split at h
  ·replace h:=Zb h;obtain ⟨rfl,h⟩:=h;exact ⟨rfl,h⟩
  ·exact h.elim
 | .yield y,v,Z,h=>by
  unfold Yo at h
  split at h
  ·replace h:=Zb h;obtain ⟨rfl,h⟩:=h;exact ⟨rfl,h⟩
  ·exact h.elim
 | .nilFunc,v,Z,h=>by unfold Yo at h;split at h<;>first|exact ⟨rfl,h⟩|exact h.elim
 | .nilIface,v,Z,h=>by unfold Yo at h;split at h<;>first|exact ⟨rfl,h⟩|exact h.elim
 | .arr k n xs,v,Z,h=>by
  unfold Yo at h
  split at h
  ·split at h
   ·rename_i hb
    rw [J3] at hb
    have h1:=of_decide_eq_true hb.1
    have h2:=J0 hb.2
    subst h1 h2
    obtain ⟨rfl,h⟩:=h
    exact ⟨rfl,h⟩
   ·exact h.elim
  ·exact h.elim
 | .pview cs inn,v,Z,h=>by
  unfold Yo at h
  split at h
  ·replace h:=WV cs _ _ h;obtain ⟨e,h⟩:=h
   subst e
   replace h:=Zb h;obtain ⟨rfl,h⟩:=h;exact ⟨rfl,h⟩
  ·exact h.elim
 | .func (.func g) fs cs,v,Z,h=>by
  unfold Yo at h
  split at h
  ·split at h
   ·rename_i hb
    have:=J0 hb
    subst this
    replace h:=WV fs _ _ h;obtain ⟨e,h⟩:=h
    subst e
    replace h:=WV cs _ _ h;obtain ⟨e,h⟩:=h
    subst e
    exact ⟨rfl,h⟩
   ·exact h.elim
  ·exact h.elim
 | .func (.method _) _ _,v,Z,h=>by unfold Yo at h;exact h
 | .func (.methodOf _ _) _ _,v,Z,h=>by unfold Yo at h;exact h
 | .func (.via _ _ _ _) _ _,v,Z,h=>by unfold Yo at h;exact h
 | .func (.yield _) _ _,v,Z,h=>by unfold Yo at h;exact h
 | .iface t u,v,Z,h=>by
  unfold Yo at h
  split at h
  ·split at h
   ·rename_i hb
    have:=J0 hb
    subst this
    replace h:=Z1H u _ _ h;obtain ⟨e,h⟩:=h
    subst e
    exact ⟨rfl,h⟩
   ·exact h.elim
  ·exact h.elim
 | .agg cs,v,Z,h=>by
  unfold Yo at h
  split at h
  ·replace h:=WV cs _ _ h;obtain ⟨e,h⟩:=h
   subst e
   exact ⟨rfl,h⟩
  ·exact h.elim
 | .tuple cs,v,Z,h=>by
  unfold Yo at h
  split at h
  ·replace h:=WV cs _ _ h;obtain ⟨e,h⟩:=h
   subst e
   exact ⟨rfl,h⟩
  ·exact h.elim
theorem WV:∀(l₂ l:List AV) (Z:Prop),Qo l₂ l Z->l=l₂/\Z
 | [],l,Z,h=>by unfold Qo at h;split at h<;>first|exact ⟨rfl,h⟩|exact h.elim
 | v::r,l,Z,h=>by
  unfold Qo at h
  split at h
  ·replace h:=Z1H v _ _ h;obtain ⟨e,h⟩:=h
   subst e
   replace h:=WV r _ _ h;obtain ⟨e,h⟩:=h
   subst e
   exact ⟨rfl,h⟩
  ·exact h.elim
end
def WW (P:Program) (t:ZL) (h:Z9) (K:Prop):List (It×AV)->Prop
 | []=>K
 | (it,v)::r=>match worldless it.o.op with
  | true=>WW P t h K r
  | false=>opQ P it.o.op (WD t (opT it.o.op)) h fun v'=>Yo v v' (WW P t h K r)
def Z2K (P:Program) (h:Z9) (o:Op) (t:ZL) (K:AV->Z9->Prop):Prop:=
 match o with
 | .alloc T=>Z1d P h T K
 | .buildSlice T len ps=>XF P h T len (Z94 t ps.toList) K
 | _=>False
def Z1I (P:Program) (D:Nat) (s:St) (K:Prop):List It->Prop
 | []=>K
 | it::r=>match bsI it&&Nat.beq (Nat.land it.m D) it.m with
  | true=>Z2K P s.h it.o.op (WD s.t (opT it.o.op)) fun _ _=>Z1I P D s K r
  | false=>Z1I P D s K r
def QT (P:Program) (m:Nat) (pd:List (It×AV)):List It->List It->Nat->St->(List It->Nat->St->Prop)->Prop
 | [],kept,D,s,K=>K kept D s
 | it::r,kept,D,s,K=>
  match ZI it&&m.testBit it.i with
  | true=>Z2K P s.h it.o.op (WD s.t (opT it.o.op)) fun v h'=>Vs { s with h:=h'} it.o.dst v fun s2=>WW P s2.t s2.h (QT P m pd r kept (Nat.lor D (2^it.i)) s2 K) pd
  | false=>QT P m pd r (kept++[it]) D s K
def Wk:List It->Option It
 | []=>none
 | it::r=>match Xi it with|true=>some it|false=>Wk r
def WX (i:Nat):List It->List It
 | []=>[]
 | it::r=>match Nat.beq it.i i with|true=>WX i r|false=>it::WX i r
def WY (m:Nat):List (It×AV)->List (It×AV)
 | []=>[]
 | (it,v)::r=>match m.testBit it.i with|true=>WY m r|false=>(it,v)::WY m r
def Z1J (t:ZL):List It->ZL
 | []=>t
 | it::r=>match it.o.dst with|some x=>Z0z (Z1J t r) x|none=>Z1J t r
def Zda:List It->Nat
 | []=>0
 | it::r=>Nat.lor (2^it.i) (Zda r)
def Qp (m:Nat):List It->Bool
 | []=>false
 | it::r=>(Xi it&&m.testBit it.i)||Qp m r
def Z2L (rem:List It) (it:It):Bool:=Xi it&& !Qp it.m rem
def Z0R (rem:List It):List It->Bool
 | []=>false
 | it::r=>Z2L rem it||Z0R rem r
def Z1K (f:It->Prop) (rem:List It):List It->Prop
 | []=>True
 | it::r=>match Z2L rem it with
  | true=>(match Z0R rem r with|true=>f it/\Z1K f rem r|false=>f it)
  | false=>Z1K f rem r
theorem Z0o {rem:List It} {it:It}:∀{l:List It},it∈l->Z2L rem it=true->Z0R rem l=true
 | x::r,hm,hc=>by
  unfold Z0R
  cases hm with
  | head=>rw [hc];rfl
  | tail _ h=>rw [Z0o h hc];simp
theorem UU {f:It->Prop} {rem:List It} {it:It}:∀{l:List It},Z1K f rem l->it∈l->Z2L rem it=true->f it
 | x::r,h,hm,hc=>by
  unfold Z1K at h
  split at h
  ·split at h
   ·cases hm with
    | head=>exact h.1
    | tail _ hm=>exact UU h.2 hm hc
   ·rename_i ha
    cases hm with
    | head=>exact h
    | tail _ hm=>rw [Z0o hm hc] at ha;cases ha
  ·rename_i hx
   cases hm with
   | head=>rw [hc] at hx;cases hx
   | tail _ hm=>exact UU h hm hc
theorem VH {m:Nat}:∀{l:List It},(∀q∈l,Xi q=true->m.testBit q.i=false)->Qp m l=false
 | [],_=>rfl
 | x::r,h=>by
  unfold Qp
  rw [VH fun q hq=>h q (Jp _ hq),Bool.or_false]
  cases he:Xi x with
  | false=>rfl
  | true=>rw [h x (JB ..) he];rfl
def Vj (cx:Ctx) (P:Program) (all:List Oper) (its:List It) (next:List It->Nat->List (It×AV)->St->KE->Prop) (rem:List It) (D:Nat) (pend:List (It×AV)) (s:St) (X:KE):Prop:=
 match UT (fun it=> !Yx it|| !Nat.beq (Nat.land it.m D) it.m) rem with
 | false=>False
 | true=>Z1I P D s (match Wk rem with
  | none=>QT P (Zda its) [] rem [] D s fun _ _ s=>X .normal s
  | some _=>Z1K (fun e=>QT P e.m (WY e.m pend) rem [] D s fun rem D s=>match Nat.beq (Nat.land e.m D) e.m with
    | false=>False
    | true=>US all e.o.guard s
     (fun s2=>match Z60 cx P e.o.op (WD s2.t (opT e.o.op)) with
      | some (S,args)=>S args s2.h fun v=>Vs s2 e.o.dst v fun s3=>next (WX e.i rem) (Nat.lor D (2^e.i)) (WY e.m pend) s3 X
      | none=>Z1D cx P e.o.op (WD s2.t (opT e.o.op)) s2.h s2.d
       (fun v h' d'=>Vs ⟨s2.n,s2.t,h',d'⟩ e.o.dst v fun s3=>WW P s3.t s3.h (next (WX e.i rem) (Nat.lor D (2^e.i)) (WY e.m pend) s3 X) (WY e.m pend))
       (fun v h'=>X (.panic v) ⟨s2.n,Z1J s2.t its,h',s2.d⟩))
     (fun s2=>Vs s2 e.o.dst (.tuple []) fun s3=>next (WX e.i rem) (Nat.lor D (2^e.i)) (WY e.m pend) s3 X)) rem rem) rem
def UV (cx:Ctx) (P:Program) (all:List Oper) (its:List It):Nat->List It->Nat->List (It×AV)->St->KE->Prop
 | 0,_,_,_,_,_=>False
 | n+1,rem,D,pend,s,X=>Ud P all rem [] D pend s fun rem D pend s=>Vj cx P all its (UV cx P all its n) rem D pend s X
def Wl (t:ZL):List It->ZL
 | []=>t
 | it::r=>match ZI it,it.o.dst with|true,some x=>Z0z (Wl t r) x|_,_=>Wl t r
structure Wm where
 i:Nat
 c:Int
 y:Nat
structure SpD where
 i:Nat
 x:Nat
 T:TypeId
 k:IntKind
 js:List Wm
def isSp:Op->Bool
 | .makeMap _ none=>true
 | .insert .. =>true
 | _=>false
def WE:List It->List It
 | []=>[]
 | it::r=>match isSp it.o.op with|true=>WE r|false=>it::WE r
def spK:List It->Option (TypeId×IntKind)
 | []=>none
 | it::r=>match it.o.op with
  | .insert T _ (.const (.int k _)) _=>some (T,k)
  | _=>spK r
def ZdH:List It->List Wm
 | []=>[]
 | it::r=>match it.o.op with
  | .insert _ _ (.const (.int _ c)) (.tmp y)=>⟨it.i,c,y⟩::ZdH r
  | _=>ZdH r
def spM:List It->Option (Nat×Nat)
 | []=>none
 | it::r=>match it.o.op,it.o.dst with
  | .makeMap _ none,some x=>some (it.i,x)
  | _,_=>spM r
def Zhd (its:List It):Option SpD:=
 match spM its,spK its with
 | some (i,x),some (T,k)=>some ⟨i,x,T,k,ZdH its⟩
 | _,_=>none
def Z9m (f:Wm->Bool):List Wm->Bool
 | []=>false
 | a::r=>match f a with|true=>true|false=>Z9m f r
def Z4R (f:Wm->Bool):List Wm->Bool
 | []=>true
 | a::r=>match f a with|true=>Z4R f r|false=>false
theorem Z4S (f:Wm->Bool):∀l,Z9m f l=true↔∃a∈l,f a=true
 | []=>by simp [Z9m]
 | a::r=>by
  unfold Z9m
  split
  ·rename_i h;simp [h]
  ·rename_i h;simp [h,Z4S f r]
theorem VI (f:Wm->Bool):∀l,Z4R f l=true↔∀a∈l,f a=true
 | []=>by simp [Z4R]
 | a::r=>by
  unfold Z4R
  split
  ·rename_i h;simp [h,VI f r]
  ·rename_i h;simp [h]
def UW:List Wm->Bool
 | []=>true
 | a::r=>Z4R (fun b=> !Nat.beq a.i b.i&& !decide (a.c=b.c)) r&&UW r
def Z2M (it:It) (x:Nat):Bool:=match it.o.dst with|some y=>Nat.beq y x|none=>false
def Z4T (d:SpD) (it:It):Bool:=
 Z1G it&&it.o.guard.isNone&&match it.o.op with
 | .makeMap _ none=>Nat.beq it.i d.i&&Z2M it d.x
 | .insert T (.tmp m) (.const (.int k c)) (.tmp y)=>it.o.dst.isNone&&Nat.beq T d.T&&Nat.beq m d.x&&decide (k=d.k)&&Z9m (fun j=>Nat.beq j.i it.i&&decide (j.c=c)&&Nat.beq j.y y) d.js
 | _=>false
def Z9n (all:List Oper) (d:SpD) (it:It):Bool:=
 !Nat.beq it.i d.i&& !it.m.testBit d.i&& !Z2M it d.x&& !Z65 d.x (XT all it.o)&&Z4R (fun j=> !Nat.beq it.i j.i&& !it.m.testBit j.i) d.js
def jOk (d:SpD) (its0 its:List It) (j:Wm):Bool:=
 !Nat.beq j.i d.i&& !Nat.beq j.y d.x&&Z66 (fun it=>Nat.beq it.i j.i&&it.m.testBit d.i&&UT (fun p=> !Z2M p j.y||it.m.testBit p.i) its) its0
def Z0F (it:It):Bool:=
 Z1G it&&it.o.guard.isNone&&Nat.beq (it.m+1) (2^it.i)&&match it.o.op with|.move _=>true|.assign _=>true|_=>false
def spB (P:Program) (all:List Oper) (its0 its:List It) (d:SpD):Bool:=
 (VC P d.T).isSome&&UW d.js&&Z4R (jOk d its0 its) d.js&&UT (fun it=>match isSp it.o.op with|true=>Z4T d it|false=>Z9n all d it||Z0F it) its0&&UT (Z9n all d) its
def Zf9 (P:Program) (all:List Oper) (its0 its:List It):Option SpD->Bool
 | none=>true
 | some d=>spB P all its0 its d
def Z7c (t:ZL) (k:IntKind) (js:List Wm) (K:List (AV×AV)->Prop):Prop:=
 match js with
 | []=>K []
 | j::r=>match Zz t j.y with
  | some v=>Z7c t k r fun es=>K ((.int k j.c,v)::es)
  | none=>False
def Z9o (sp:Option SpD) (s:St) (K:St->Prop):Prop:=
 match sp with
 | none=>K s
 | some d=>Z7c s.t d.k d.js fun es=>Vs { s with h:=s.h.add (.pmap es)} (some d.x) (.map (some s.h.next)) K
def spX (sp:Option SpD) (X:KE):KE:=fun e s=>match e with
 | .normal=>Z9o sp s fun s=>X .normal s
 | e=>X e s
def Z4U (sp:Option SpD) (t:ZL):ZL:=match sp with|none=>t|some d=>Z0z t d.x
def ZdI (sp:Option SpD) (n m:Nat):Bool:=match sp with|none=>true|some d=>Nat.blt d.x n&&Nat.blt d.i m&&Z4R (fun j=>Nat.blt j.i m) d.js
def XU:List It->List It
 | []=>[]
 | it::r=>match XU r with
  | []=>(match Z0F it with|true=>[]|false=>[it])
  | a::m=>it::a::m
def VJ:List It->List It
 | []=>[]
 | it::r=>match XU r with
  | []=>(match Z0F it with|true=>it::VJ r|false=>VJ r)
  | _::_=>VJ r
def tailA (P:Program):List It->St->(St->Prop)->Prop
 | [],s,K=>K s
 | it::r,s,K=>opQ P it.o.op s.t s.h fun v=>Vs s it.o.dst v fun s2=>tailA P r s2 K
def tlX (P:Program) (T:List It) (X:KE):KE:=fun e s=>match e with
 | .normal=>tailA P T s fun s=>X .normal s
 | e=>X e s
def Z7d (cx:Ctx) (P:Program) (all:List Oper) (its0 its:List It) (sp:Option SpD) (T:List It) (n0:Nat) (s:St) (X:KE) (Z:Prop):Prop:=
 match P.follows .mixedOrders&&Zf8 P all its&&Zf9 P all its0 its sp&&ZdI sp s.n n0&&UT (fun a=>Nat.blt a.i n0) its&&UT Z0F T&&UT (fun it=> !ZI it||(match it.o.dst with|some x=>Nat.blt x s.n|none=>true)) its with
 | true=>UV cx P all its (all.length+1) its 0 [] { s with t:=Z4U sp (Wl s.t its)} (spX sp (tlX P T X))
 | false=>Z
def Zdb:List Oper->Bool
 | []=>false
 | o::r=>match o.op with|.insert .. =>true|_=>Zdb r
def Z9p (P:Program) (cx:Ctx) (all:List Oper) (its:List It) (s:St) (X:KE) (Z:Prop):Prop:=Z7d cx P all its its none [] all.length s X Z
def Zdc (P:Program) (cx:Ctx) (all:List Oper) (its:List It) (s:St) (X:KE):Prop:=
 match Zhd its with
 | some d=>Z7d cx P all its (WE (XU its)) (some d) (VJ its) (XU its).length s X False
 | none=>False
def Z9q (P:Program) (cx:Ctx) (all:List Oper) (s:St) (X:KE):Prop:=
 match Zdb all with
 | true=>Zdc P cx all (ZF 2 0 [] all) s X
 | false=>Z9p P cx all (ZF 1 0 [] all) s X (Z9p P cx all (ZF 0 0 [] all) s X False)
theorem Ue {acc:List Nat}:∀{es:List Edge} {s p:Nat},(UB acc es s).testBit p=true->s.testBit p=true\/∃e∈es,Region.binds .any e=true/\(p=e.on\/(Ur acc e.on).testBit p=true)
 | [],s,p,h=>.inl h
 | e::r,s,p,h=>by
  unfold UB at h
  split at h
  ·rename_i hb
   rcases Ue h with h1|⟨e',he,h2⟩
   ·have h1':(s|||2^e.on|||Ur acc e.on).testBit p=true:=h1
    simp only [Nat.testBit_or,JH] at h1'
    rcases h1' with (h1|h1)|h1
    ·exact .inl h1
    ·refine .inr ⟨e,JB ..,hb,.inl ?_⟩
     have:=Nat.testBit_two_pow (n:=e.on) (m:=p)
     rw [this] at h1
     simpa using (of_decide_eq_true h1).symm
    ·exact .inr ⟨e,JB ..,hb,.inr h1⟩
   ·exact .inr ⟨e',Jp _ he,h2⟩
  ·rcases Ue h with h1|⟨e',he,h2⟩
   ·exact .inl h1
   ·exact .inr ⟨e',Jp _ he,h2⟩
theorem Xe {qm:Nat}:∀{r:List Oper} {k:Nat} {acc:List Nat} {j:Nat} {it:It},(ZF qm k acc r)[j]? =some it->it.i=k+j/\r[j]? =some it.o
 | [],_,_,j,it,h=>by simp [ZF] at h
 | o::r,k,acc,0,it,h=>by simp [ZF] at h;subst h;simp
 | o::r,k,acc,j+1,it,h=>by
  simp only [ZF,JS] at h
  have:=Xe h
  exact ⟨by rw [this.1];omega,by simpa using this.2⟩
theorem Xw {qm:Nat}:∀{r:List Oper} {k:Nat} {acc:List Nat},(ZF qm k acc r).length=r.length
 | [],_,_=>rfl
 | o::r,k,acc=>by simp [ZF,Xw]
theorem QU {acc:List Nat} {m j:Nat}:Ur (acc++[m]) j=if j=acc.length then m else Ur acc j:=by
 induction acc generalizing j with
 | nil=>cases j<;>simp [Ur]
 | cons a r ih=>
  cases j with
  | zero=>simp [Ur]
  | succ j=>simp [Ur,ih]
theorem Vk {qm:Nat} {L:Nat->Prop} {all:List Oper} (hdown:∀i o e,all[i]? =some o->L i->e∈o.after.toList->Region.binds .any e=true->L e.on):
  ∀{r:List Oper} {k:Nat} {acc:List Nat},acc.length=k->(∀j,r[j]? =all[k+j]?)->(∀j p,j<k->L j->(Ur acc j).testBit p=true->L p)->
   (∀j,k<=j->Ur acc j=0)->∀it∈ZF qm k acc r,L it.i->∀p,it.m.testBit p=true->L p
 | [],_,_,_,_,_,_,it,h,_,_,_=>by simp [ZF] at h
 | o::r,k,acc,hk,hr,hacc,hz,it,h,hL,p,hp=>by
  have h0:all[k]? =some o:=by have:=hr 0;simpa using this.symm
  have hself:L k->∀p,(UB acc o.after.toList 0).testBit p=true->L p:=fun hk' p hp=>by
   rcases Ue hp with h1|⟨e,he,hb,h2⟩
   ·simp at h1
   ·have hLe:=hdown k o e h0 hk' he hb
    rcases h2 with rfl|h2
    ·exact hLe
    ·by_cases hlt:e.on<k
     ·exact hacc e.on p hlt hLe h2
     ·rw [hz e.on (by omega)] at h2;simp at h2
  simp only [ZF,J9] at h
  rcases h with rfl|h
  ·exact hself hL p hp
  ·refine Vk hdown (k:=k+1) (acc:=acc++[UB acc o.after.toList 0]) (by simp [hk]) (fun j=> ?_) ?_ ?_ it h hL p hp
   ·have:=hr (j+1)
    rw [show k+1+j=k+(j+1) from by omega,<-this]
    simp
   ·intro j p hj hLj hbit
    rw [QU] at hbit
    split at hbit
    ·rename_i hjk
     rw [hk] at hjk
     subst hjk
     exact hself hLj p hbit
    ·exact hacc j p (by omega) hLj hbit
   ·intro j hj
    rw [QU,if_neg (by omega)]
    exact hz j (by omega)
def XW (all:List Oper) (t:ZL) (g:Option (Nat×Bool)):Option Bool:=
 match g with
 | none=>some true
 | some (j,want)=>match Z0k all j with
  | none=>none
  | some d=>match Zz t d with
   | some (.bool b)=>some (b==want)
   | some (.tuple [])=>some false
   | _=>none
theorem Z0p {all:List Oper} {g:Option (Nat×Bool)} {s:St} {run skip:St->Prop} (h:US all g s run skip):
  ∃s',(∀x,Zz s'.t x=Zz s.t x)/\s'.h=s.h/\s'.n=s.n/\s'.d=s.d/\((XW all s.t g=some true/\run s')\/(XW all s.t g=some false/\skip s')):=by
 unfold US at h
 split at h
 ·exact ⟨s,fun _=>rfl,rfl,rfl,rfl,.inl ⟨rfl,h⟩⟩
 ·rename_i j want
  split at h
  ·exact h.elim
  ·rename_i d hd
   split at h
   ·rename_i b hb
    have key:∀c,b=c->∀x,Zz (Vv s.t d (.bool c)) x=Zz s.t x:=fun c hc x=>by
     by_cases hx:d=x
     ·subst hx;rw [X7,hb,hc]
     ·rw [YW _ _ _ _ hx]
    cases b with
    | true=>
     refine ⟨{ s with t:=Vv s.t d (.bool true)},key true rfl,rfl,rfl,rfl, ?_⟩
     cases want with
     | true=>exact .inl ⟨by simp [XW,hd,hb],h⟩
     | false=>exact .inr ⟨by simp [XW,hd,hb],h⟩
    | false=>
     refine ⟨{ s with t:=Vv s.t d (.bool false)},key false rfl,rfl,rfl,rfl, ?_⟩
     cases want with
     | true=>exact .inr ⟨by simp [XW,hd,hb],h⟩
     | false=>exact .inl ⟨by simp [XW,hd,hb],h⟩
   ·rename_i hb
    exact ⟨s,fun _=>rfl,rfl,rfl,rfl,.inr ⟨by simp [XW,hd,hb],h⟩⟩
   ·exact h.elim
theorem Uf {all:List Oper} {o:Oper} {t:ZL} {c:Bool} (h:XW all t o.guard=some c) {E:Env} {a:Act}
  (hrel:∀x∈Z2J all o.guard,∀v,Zz t x=some v->Zc E v (a.tmps.getD x undef)):Region.wanted o (yielded all.toArray a.tmps)=c:=by
 unfold XW at h
 split at h
 ·rename_i hg;cases h;simp [Region.wanted,hg]
 ·rename_i j want hg
  split at h
  ·cases h
  ·rename_i d hd
   have hdst:(all.toArray[j]?).bind (·.dst)=some d:=by
    unfold Z0k at hd
    cases hj:all[j]? with
    | none=>simp [hj] at hd
    | some o'=>simp [hj] at hd;simp [hj,hd]
   have hmem:d∈Z2J all o.guard:=by simp [Z2J,hg,hd]
   split at h
   ·rename_i b hb
    cases h
    have hv:=hrel d hmem _ hb
    have hreal:a.tmps[d]? =some (.bool b):=by
     rw [Jc] at hv
     cases hq:a.tmps[d]? with
     | none=>rw [hq] at hv;simp [undef] at hv;cases hv
     | some r=>rw [hq] at hv;simp at hv;cases hv;rfl
    have hy:yielded all.toArray a.tmps j=some b:=by
     unfold yielded
     rw [hdst]
     simp [hreal]
    simp [Region.wanted,hg,hy]
   ·rename_i hb
    cases h
    have hv:=hrel d hmem _ hb
    have hy:yielded all.toArray a.tmps j=none:=by
     unfold yielded
     rw [hdst]
     rw [Jc] at hv
     cases hq:a.tmps[d]? with
     | none=>simp [hq]
     | some r=>
      rw [hq] at hv
      simp at hv
      cases hv with
      | tuple vs rs hl=>simp [hq]
    simp [Region.wanted,hg,hy]
   ·cases h
def QV (P:Program) (it:It) (t:ZL) (h:Z9) (v:AV):Prop:=
 ∀(E:Env) (w:World) (a:Act),(worldless it.o.op=false->Emb E h w)->(∀x∈opT it.o.op,∀u,Zz t x=some u->Zc E u (a.tmps.getD x undef))->∃r,(execOp a.eval it.o).run P w=.ok (.value r) w/\Zc E v r
theorem Z7e {P:Program} {it:It} {t:ZL} {h:Z9} {K:AV->Prop} (hl:opQ P it.o.op (WD t (opT it.o.op)) h K):∃v,K v/\QV P it t h v:=by
 obtain ⟨v,hK,hv⟩:=Z5Z hl
 refine ⟨v,hK,fun E w a he hx=>hv E w a.tmps.size a he ⟨rfl,fun x u hu=> ?_⟩⟩
 have:=Xv hu
 exact hx x this.2 u this.1
theorem QV.congr {P:Program} {it:It} {t:ZL} {h:Z9} (hs:QV P it t h v) (ht:∀x∈opT it.o.op,Zz t' x=Zz t x):QV P it t' h v:=
 fun E w a he hx=>hs E w a he fun x hm u hu=>hx x hm u (by rw [ht x hm];exact hu)
theorem QV.worldless {P:Program} {it:It} {t:ZL} {h h':Z9} (hs:QV P it t h v) (hw:worldless it.o.op=true):QV P it t h' v:=
 fun E w a _ hx=>hs E w a (fun hq=>by rw [hw] at hq;cases hq) hx
theorem WF {all:List Oper} {t:ZL} {g:Option (Nat×Bool)} (ht:∀x∈Z2J all g,Zz t' x=Zz t x):XW all t' g=XW all t g:=by
 unfold XW
 cases g with
 | none=>rfl
 | some p=>
  obtain ⟨j,want⟩:=p
  simp only
  cases hd:Z0k all j with
  | none=>rfl
  | some d=>
   simp only
   rw [ht d (by simp [Z2J,hd])]
theorem X1 {s:St} {dst:Option Tmp} {K:St->Prop} (h:Vs s dst v K):
  ∃s',K s'/\s'.h=s.h/\s'.n=s.n/\s'.d=s.d/\(∀x,dst=some x->Zz s'.t x=some v/\x<s.n)/\(∀x,dst≠some x->Zz s'.t x=Zz s.t x):=by
 unfold Vs at h
 split at h
 ·exact ⟨s,h,rfl,rfl,rfl,fun x hx=>by simp at hx,fun x _=>rfl⟩
 ·rename_i d
  split at h
  ·rename_i hb
   refine ⟨_,h,rfl,rfl,rfl,fun x hx=> ?_,fun x hx=> ?_⟩
   ·cases hx
    exact ⟨X7 _ _ _,Jh hb⟩
   ·exact YW _ _ _ _ (fun e=>hx (by rw [e]))
  ·exact h.elim
theorem VK {a:Act} {x:Nat} {r:Value} (h:x<a.tmps.size):(a.put (some x) r).tmps.getD x undef=r:=by
 simp [Act.put,Jc,h]
theorem Yy {a:Act} {dst:Option Tmp} {x:Nat} {r:Value} (h:dst≠some x):(a.put dst r).tmps.getD x undef=a.tmps.getD x undef:=by
 cases dst with
 | none=>rfl
 | some d=>
  have:d≠x:=fun e=>h (by rw [e])
  simp [Act.put,Jc,this]
theorem Xn {a:Act} {dst:Option Tmp} {r:Value}:(a.put dst r).tmps.size=a.tmps.size:=by cases dst<;>simp [Act.put]
theorem put_defers {a:Act} {dst:Option Tmp} {r:Value}:(a.put dst r).defers=a.defers:=by cases dst<;>rfl
structure Stat (P:Program) (all:List Oper) (its0 its:List It) (sp:Option SpD) (n0:Nat):Prop where
 sub:∀it∈its,it∈its0
 mem0:∀it∈its0,all[it.i]? =some it.o
 mem:∀it∈its,all[it.i]? =some it.o
 ex:∀i,i<all.length->∃it∈its0,it.i=i
 uniq0:∀a∈its0,∀b∈its0,a.i=b.i->a=b
 uniq:∀a∈its,∀b∈its,a.i=b.i->a=b
 dst:∀a∈its,∀b∈its,a≠b->∀x,a.o.dst=some x->b.o.dst≠some x
 rd:∀a∈its,∀b∈its,a≠b->∀x,a.o.dst=some x->x∈XT all b.o->b.m.testBit a.i=true\/(a.m.testBit b.i=true/\(Xi a=true\/(Yx a=true/\∃e∈its,Xi e=true/\e.m.testBit b.i=true/\a.m.testBit e.i=true)))
 self:∀a∈its,Xi a=false->∀x,a.o.dst=some x->x∉XT all a.o
 guard:∀a∈its,∀j w,a.o.guard=some (j,w)->a.m.testBit j=true/\∃d,Z0k all j=some d
 late:∀a∈its,ZI a=true->a.o.guard=none/\∃x,a.o.dst=some x
 lz:∀a∈its,∀T,a.o.op=.alloc T->∃cs,Qh P T=some cs
 lrd:∀a∈its,ZI a=true->∀p∈its,∀x,p.o.dst=some x->x∈opT a.o.op->a.m.testBit p.i=true
 qlate:∀a∈its,(Yx a||bsI a)=true->∀p∈its,ZI p=true->a.m.testBit p.i=true->∃e∈its,Xi e=true/\e.m.testBit p.i=true/\a.m.testBit e.i=true
 edges:∀a∈its0,∀e∈a.o.after.toList,Region.binds .any e=true->e.on<a.i
 spc:∀a∈its0,a∈its\/(∃d,sp=some d/\Z4T d a=true)\/(Z0F a=true/\n0<=a.i)
 un:∀d,sp=some d->∀a∈its,Z9n all d a=true
 jok:∀d,sp=some d->∀j∈d.js,jOk d its0 its j=true
 key:∀d,sp=some d->∃T,VC P d.T=some T
 alone:∀d,sp=some d->UW d.js=true
theorem Zbq {qm:Nat} {P:Program} {all:List Oper} {its:List It} {sp:Option SpD} {n0:Nat} (hsub:∀it∈its,it∈ZF qm 0 [] all) (hcov:∀it∈ZF qm 0 [] all,it∈its\/(isSp it.o.op=true/\sp≠none)\/(Z0F it=true/\n0<=it.i)) (h:Zf8 P all its=true) (hs:Zf9 P all (ZF qm 0 [] all) its sp=true):Stat P all (ZF qm 0 [] all) its sp n0:=by
 have hall:=(YQ _ _).1 h
 have hget:∀it∈ZF qm 0 [] all,(ZF qm 0 [] all)[it.i]? =some it/\all[it.i]? =some it.o:=fun it hm=>by
  obtain ⟨j,hj⟩:=JP.1 hm
  have:=Xe hj
  have e:it.i=j:=by omega
  rw [e]
  exact ⟨hj,this.2⟩
 have huniq:∀a∈ZF qm 0 [] all,∀b∈ZF qm 0 [] all,a.i=b.i->a=b:=fun a ha b hb e=>by
  have h1:=(hget a ha).1
  have h2:=(hget b hb).1
  rw [e,h2] at h1
  cases h1;rfl
 have hpair:∀a∈its,∀b∈its,a≠b->Z3T a b=false/\(Z0n all a b=true->b.m.testBit a.i=true\/(a.m.testBit b.i=true/\(Xi a=true\/(Yx a=true/\∃e∈its,Xi e=true/\e.m.testBit b.i=true/\a.m.testBit e.i=true)))):=fun a ha b hb hne=>by
  have h1:=hall a ha
  simp only [J3] at h1
  have h2:=(YQ _ _).1 h1.2 b hb
  unfold Zd9 at h2
  have hi:Nat.beq a.i b.i=false:=Zs fun e=>hne (huniq a (hsub a ha) b (hsub b hb) e)
  rw [hi] at h2
  simp only [Bool.false_or,J3,Ja,JH] at h2
  refine ⟨h2.1,fun hd=> ?_⟩
  rcases h2.2 with (h3|h3)|h3
  ·rw [hd] at h3;cases h3
  ·exact .inl h3
  ·refine .inr ⟨h3.1, ?_⟩
   rcases h3.2 with h4|h4
   ·exact .inl h4
   ·refine .inr ⟨h4.1, ?_⟩
    obtain ⟨e,he,h5⟩:=(Qn _ _).1 h4.2
    simp only [J3] at h5
    exact ⟨e,he,h5.1.1,h5.1.2,h5.2⟩
 have hone:∀a∈its,Z67 P all its a=true:=fun a ha=>by
  have h1:=hall a ha
  simp only [J3] at h1
  exact h1.1
 have hlate:∀a∈its,ZI a=true->a.o.guard.isNone=true/\a.o.dst.isSome=true/\(match a.o.op with|.alloc T=>(Qh P T).isSome|_=>true)=true/\∀p∈its,(!Z0n all p a||a.m.testBit p.i)=true:=fun a ha hl=>by
  have h1:=hone a ha
  unfold Z67 at h1
  simp only [J3] at h1
  have h2:=h1.1.2
  rw [hl] at h2
  simp only [J3] at h2
  exact ⟨h2.1.1.1,h2.1.1.2,h2.1.2,(YQ _ _).1 h2.2⟩
 have hedge:∀a,Z1G a=true->∀e∈a.o.after.toList,Region.binds .any e=true->e.on<a.i:=fun a h2 e he hb=>by
  unfold Z1G at h2
  have h3:=K5.1 h2 e he
  simp only [JH,Ja] at h3
  rcases h3 with h3|h3
  ·rw [hb] at h3;cases h3
  ·exact Jh h3
 have hsp:∀d,sp=some d->spB P all (ZF qm 0 [] all) its d=true:=fun d hd=>by
  subst hd;exact hs
 have hspc:∀d,sp=some d->(∀it∈ZF qm 0 [] all,isSp it.o.op=true->Z4T d it=true)/\∀it∈its,Z9n all d it=true:=fun d hd=>by
  have h1:=hsp d hd
  unfold spB at h1
  simp only [J3] at h1
  refine ⟨fun it hit h3=> ?_,(YQ _ _).1 h1.2⟩
  have h2:=(YQ _ _).1 h1.1.2 it hit
  rw [h3] at h2
  exact h2
 have hspo:∀a∈ZF qm 0 [] all,a∈its\/(∃d,sp=some d/\Z4T d a=true)\/(Z0F a=true/\n0<=a.i):=fun a ha=>by
  rcases hcov a ha with h1|⟨h1,h2⟩|h1
  ·exact .inl h1
  ·cases sp with
   | none=>exact absurd rfl h2
   | some d=>exact .inr (.inl ⟨d,rfl,(hspc d rfl).1 a ha h1⟩)
  ·exact .inr (.inr h1)
 refine ⟨hsub,fun it hm=>(hget it hm).2,fun it hm=>(hget it (hsub it hm)).2,fun i hi=> ?_,huniq,fun a ha b hb=>huniq a (hsub a ha) b (hsub b hb),fun a ha b hb hne x hx hy=> ?_,fun a ha b hb hne x hx hr=> ?_,fun a ha he x hx hr=> ?_,fun a ha j w hg=> ?_,fun a ha hl=> ?_,fun a ha T hT=> ?_,fun a ha hl p hp x hx hr=> ?_,fun a ha hq p hp hl hbit=> ?_,fun a ha=> ?_,
  hspo,fun d hd=>(hspc d hd).2,fun d hd j hj=> ?_,fun d hd=> ?_,fun d hd=> ?_⟩
 ·have hl:i<(ZF qm 0 [] all).length:=by rw [Xw];exact hi
  refine ⟨(ZF qm 0 [] all)[i],Kk _, ?_⟩
  have:=Xe (j:=i) (Jd hl)
  omega
 ·have:=(hpair a ha b hb hne).1
  simp [Z3T,hx,hy,Jg] at this
 ·refine (hpair a ha b hb hne).2 ?_
  simp [Z0n,hx,(VG x _).2 hr]
 ·have h1:=hone a ha
  unfold Z67 at h1
  simp only [J3,JH,Ja] at h1
  rcases h1.1.1.1.2 with h2|h2
  ·rw [he] at h2;cases h2
  ·simp [Z0n,hx,(VG x _).2 hr] at h2
 ·have h1:=hone a ha
  unfold Z67 at h1
  simp only [J3] at h1
  have h2:=h1.1.1.2
  rw [hg] at h2
  simp only [J3] at h2
  exact ⟨h2.1,JZ.1 h2.2⟩
 ·have h1:=hlate a ha hl
  exact ⟨by simpa using h1.1,JZ.1 h1.2.1⟩
 ·have h1:=hlate a ha (by unfold ZI;rw [hT];rfl)
  have h2:=h1.2.2.1
  rw [hT] at h2
  exact JZ.1 h2
 ·have h1:=(hlate a ha hl).2.2.2 p hp
  simp only [Z0n,hx,(VG x _).2 (show x∈XT all a.o from Jv _ hr),Kl,Bool.false_or] at h1
  exact h1
 ·have h1:=hone a ha
  unfold Z67 at h1
  simp only [J3] at h1
  have h2:=h1.2
  rw [hq] at h2
  simp only [Kl,Bool.false_or] at h2
  have h3:=(YQ _ _).1 h2 p hp
  simp only [JH,Ja] at h3
  rcases h3 with (h3|h3)|h3
  ·rw [h3] at hl;cases hl
  ·rw [hbit] at h3;cases h3
  ·obtain ⟨e,he,h5⟩:=(Qn _ _).1 h3
   simp only [J3] at h5
   exact ⟨e,he,h5.1.1,h5.1.2,h5.2⟩
 ·rcases hspo a ha with h1|⟨d,_,h1⟩|⟨h1,_⟩
  ·have h2:=hone a h1
   unfold Z67 at h2
   simp only [J3] at h2
   exact hedge a h2.1.1.1.1
  ·unfold Z4T at h1
   simp only [J3] at h1
   exact hedge a h1.1.1
  ·unfold Z0F at h1
   simp only [J3] at h1
   exact hedge a h1.1.1.1
 ·have h1:=hsp d hd
  unfold spB at h1
  simp only [J3] at h1
  exact (VI _ _).1 h1.1.1.2 j hj
 ·have h1:=hsp d hd
  unfold spB at h1
  simp only [J3] at h1
  exact JZ.1 h1.1.1.1.1
 ·have h1:=hsp d hd
  unfold spB at h1
  simp only [J3] at h1
  exact h1.1.1.1.2
end Go.Tk
end
section
namespace Go.Tk
open IntKind (i64 u8 u32 u64 wrap)
def WG (P:Program) (it:It) (a:Act) (mkv:Nat->Value) (obj:Obj):Prop:=
 ∀w:World,(execOp a.eval it.o).run P w=.ok (.value (mkv w.heap.size)) { w with heap:=w.heap.push obj}
theorem Z89 {a a':Act} {o:Operand} (h:∀x,o=.tmp x->a'.tmps.getD x undef=a.tmps.getD x undef):a'.eval o=a.eval o:=by
 cases o with
 | tmp x=>exact h x rfl
 | _=>rfl
theorem Wn {x:Nat}:∀{l:List Operand},.tmp x∈l->x∈tmpsOf l
 | [],h=>by simp at h
 | .tmp y::r,h=>by
  rcases J9.1 h with h|h
  ·cases h;exact JB ..
  ·exact Jp _ (Wn h)
 | .const _::r,h=>by
  rcases J9.1 h with h|h
  ·cases h
  ·exact Wn (l:=r) h
 | .global _::r,h=>by
  rcases J9.1 h with h|h
  ·cases h
  ·exact Wn (l:=r) h
 | .func _::r,h=>by
  rcases J9.1 h with h|h
  ·cases h
  ·exact Wn (l:=r) h
theorem VL {it:It} (h:ZI it=true):(∃T,it.o.op=.alloc T)\/∃T len ps,it.o.op=.buildSlice T len ps/\bsI it=true/\len≠0:=by
 have h1:=h
 unfold ZI at h1
 cases ho:it.o.op<;>rw [ho] at h1<;>first|cases h1|skip
 ·exact .inl ⟨_,rfl⟩
 ·refine .inr ⟨_,_,_,rfl,by unfold bsI;rw [ho];exact h,fun e=> ?_⟩
  subst e
  simp [Zd8,Jg] at h1
theorem WG.congr {P:Program} {it:It} {a a':Act} {mkv:Nat->Value} {obj:Obj} (hl:ZI it=true) (h:WG P it a mkv obj) (ha:∀x∈opT it.o.op,a'.tmps.getD x undef=a.tmps.getD x undef):WG P it a' mkv obj:=by
 intro w
 rw [execOp_congr (ρ:=a'.eval) (ρ':=a.eval) it.o (fun cs b e=>by rcases VL hl with ⟨T,h⟩|⟨T,l,ps,h,_⟩<;>rw [h] at e<;>cases e) (fun x hx=>Z89 fun y hy=>ha y (by subst hy;exact Wn (by simpa using hx)))]
 exact h w
def Zfa (P:Program) (w0:World) (E:Env) (h:Z9) (w:World) (a:Act) (it:It) (b:Nat):Prop:=
 ∃mkv obj,WG P it a mkv obj/\(∀x,it.o.dst=some x->a.tmps.getD x undef=mkv b)/\w.heap[b]? =some obj/\
  ¬YX E h b/\(∀ad c,E.imm ad c->ad.block≠b)/\w0.heap.size<=b/\b<w.heap.size
def Z0q (k:IntKind) (a:Act) (j:Wm):Value×Value:=(.int k j.c,a.tmps.getD j.y undef)
def MpI (sp:Option SpD) (w0:World) (L:Nat->Prop) (bl:Nat->Nat) (rem:List It) (t:ZL) (E:Env) (h:Z9) (a:Act) (w:World):Prop:=
 ∀d,sp=some d->d.x<a.tmps.size/\Zz t d.x=none/\(L d.i->∃b ents clock,a.tmps.getD d.x undef=.map (some b)/\w.heap[b]? =some (.map ents clock)/\
  ¬YX E h b/\(∀ad c,E.imm ad c->ad.block≠b)/\w0.heap.size<=b/\b<w.heap.size/\(∀q∈rem,L q.i->ZI q=true->bl q.i≠b)/\
  ∃done:List Wm,(done.map (·.i)).Nodup/\(∀j,j∈done↔j∈d.js/\L j.i)/\ents.toList.map (fun e=>(e.key,e.val))=done.map (Z0q d.k a))
theorem MpI.step {sp:Option SpD} {w0:World} {L L':Nat->Prop} {bl bl':Nat->Nat} {rem rem':List It} {t t':ZL} {E E':Env} {h h':Z9} {a a':Act} {w w':World} (M:MpI sp w0 L bl rem t E h a w)
  (hL:∀d,sp=some d->(L' d.i->L d.i)/\∀j∈d.js,(L' j.i↔L j.i))
  (ht:∀d,sp=some d->Zz t d.x=none->Zz t' d.x=none)
  (hz:a'.tmps.size=a.tmps.size)
  (hx:∀d,sp=some d->a'.tmps.getD d.x undef=a.tmps.getD d.x undef)
  (hy:∀d,sp=some d->∀j∈d.js,L j.i->a'.tmps.getD j.y undef=a.tmps.getD j.y undef)
  (hw:∀b,b<w.heap.size->¬YX E h b->w'.heap[b]? =w.heap[b]?)
  (ho:∀b,b<w.heap.size->¬YX E h b->(∀q∈rem,L q.i->ZI q=true->bl q.i≠b)->¬YX E' h' b)
  (hi:∀ad c,E'.imm ad c->E.imm ad c)
  (hs:w.heap.size<=w'.heap.size)
  (hb:∀q∈rem',L' q.i->ZI q=true->∀b,b<w.heap.size->(∀q∈rem,L q.i->ZI q=true->bl q.i≠b)->bl' q.i≠b):
  MpI sp w0 L' bl' rem' t' E' h' a' w':=by
 intro d hd
 obtain ⟨m1,m2,m3⟩:=M d hd
 refine ⟨by rw [hz];exact m1,ht d hd m2,fun hLd=> ?_⟩
 obtain ⟨b,ents,clock,n1,n2,n3,n4,n5,n6,n7,done,k1,k2,k3⟩:=m3 ((hL d hd).1 hLd)
 refine ⟨b,ents,clock,(hx d hd).trans n1,(hw b n6 n3).trans n2,ho b n6 n3 n7,fun ad c h=>n4 ad c (hi ad c h),n5,Nat.lt_of_lt_of_le n6 hs,fun q hq hLq hl=>hb q hq hLq hl b n6 n7,done,k1,fun j=> ?_, ?_⟩
 ·rw [k2]
  exact ⟨fun h=>⟨h.1,((hL d hd).2 j h.1).2 h.2⟩,fun h=>⟨h.1,((hL d hd).2 j h.1).1 h.2⟩⟩
 ·rw [k3]
  refine List.map_congr_left fun j hj=> ?_
  have:=(k2 j).1 hj
  unfold Z0q
  rw [hy d hd j this.1 this.2]
structure Inv (P:Program) (all:List Oper) (its:List It) (sp:Option SpD) (E0:Env) (h0:Z9) (w0:World) (L:Nat->Prop) (bl:Nat->Nat) (rem:List It) (D:Nat) (pend:List (It×AV)) (s:St) (E:Env) (a:Act) (w:World):Prop where
 sub:∀it∈rem,it∈its
 nodup:rem.Pairwise fun a b=>a.i≠b.i
 dbit:∀it∈its,D.testBit it.i=true->it∉rem
 born:∀it∈its,ZI it=false->it∉rem->∀q∈its,it.m.testBit q.i=true->q∉rem
 eff:∀it∈its,Xi it=true->(L it.i↔it∉rem)
 late:∀it∈its,ZI it=true->it∉rem->L it.i
 quiet:∀it∈its,Yx it=true->L it.i->it∉rem
 fact:∀it∈its,Yx it=true->it∉rem->¬L it.i->∃v,(∀x,it.o.dst=some x->Zz s.t x=some v)/\
  ((XW all s.t it.o.guard=some true/\(it,v)∈pend/\QV P it s.t s.h v)\/(XW all s.t it.o.guard=some false/\v=.tuple []))
 size:a.tmps.size=s.n
 tmps:∀x v,Zz s.t x=some v->(∀it∈its,it.o.dst=some x->Yx it=true->it∉rem->L it.i)->Zc E v (a.tmps.getD x undef)
 defs:Vg E s.d a.defers
 evo:Evo E0 h0 w0 E s.h w
 lt:∀it∈rem,ZI it=true->∀x,it.o.dst=some x->Zz s.t x=none
 adopt:∀it∈rem,L it.i->ZI it=true->Zfa P w0 E s.h w a it (bl it.i)
 inj:∀it∈rem,∀it'∈rem,L it.i->L it'.i->ZI it=true->ZI it'=true->bl it.i=bl it'.i->it=it'
 dst:∀it∈its,∀x,it.o.dst=some x->it∉rem->x<s.n
 dset:∀it∈its,it∉rem->D.testBit it.i=true
 ln:∀it∈its,ZI it=true->∀x,it.o.dst=some x->x<s.n
 mp:MpI sp w0 L bl rem s.t E s.h a w
theorem Z0G {o:It} (h:ZI o=true):Yx o=false:=by
 unfold Yx
 rcases VL h with ⟨T,h⟩|⟨T,l,ps,h,_⟩<;>rw [h]<;>rfl
theorem Yp {o:It} (h:Xi o=true):Yx o=false:=by
 unfold Xi at h;cases hq:Yx o<;>simp_all
theorem YH {o:It} (h:Xi o=true):ZI o=false:=by
 unfold Xi at h;cases hq:ZI o<;>simp_all
theorem ZZ {o:It} (h:Yx o=true):ZI o=false:=by
 cases hl:ZI o with
 | false=>rfl
 | true=>rw [Z0G hl] at h;cases h
theorem kinds (o:It):Yx o=true\/Xi o=true\/ZI o=true:=by
 cases hq:Yx o with
 | true=>exact .inl rfl
 | false=>cases hl:ZI o with
  | false=>exact .inr (.inl (by simp [Xi,hq,hl]))
  | true=>exact .inr (.inr rfl)
theorem Xx {P:Program} {all:List Oper} {its0 its:List It} {sp:Option SpD} {n0:Nat} (hst:Stat P all its0 its sp n0) {d:SpD} (hd:sp=some d) {it:It} (hit:it∈its):
  it.i≠d.i/\it.m.testBit d.i=false/\it.o.dst≠some d.x/\d.x∉XT all it.o/\∀j∈d.js,it.i≠j.i/\it.m.testBit j.i=false:=by
 have h:=hst.un d hd it hit
 unfold Z9n at h
 simp only [J3,Ja] at h
 obtain ⟨⟨⟨⟨h1,h2⟩,h3⟩,h4⟩,h5⟩:=h
 refine ⟨fun e=>(by rw [e,Jg] at h1;cases h1),h2,fun e=> ?_,fun e=> ?_,fun j hj=> ?_⟩
 ·unfold Z2M at h3
  rw [e] at h3
  simp [Jg] at h3
 ·rw [(VG _ _).2 e] at h4;cases h4
 ·have h6:=(VI _ _).1 h5 j hj
  simp only [J3,Ja] at h6
  exact ⟨fun e=>(by rw [e,Jg] at h6;cases h6.1),h6.2⟩
theorem Z1L {P:Program} {all:List Oper} {its0 its:List It} {sp:Option SpD} {n0:Nat} (hst:Stat P all its0 its sp n0) {d:SpD} (hd:sp=some d) {j:Wm} (hj:j∈d.js) {L:Nat->Prop}
  (hm:∀it∈its0,L it.i->∀p,it.m.testBit p=true->L p) (hL:L j.i):L d.i/\j.y≠d.x/\∀p∈its,p.o.dst=some j.y->L p.i:=by
 have h:=hst.jok d hd j hj
 unfold jOk at h
 simp only [J3,Ja] at h
 obtain ⟨⟨_,h1⟩,h2⟩:=h
 obtain ⟨it,hit,h3⟩:=(Qn _ _).1 h2
 simp only [J3] at h3
 have hi:it.i=j.i:=J0 h3.1.1
 have hL':L it.i:=by rw [hi];exact hL
 refine ⟨hm it hit hL' _ h3.1.2,fun e=>(by rw [e,Jg] at h1;cases h1),fun p hp hdp=> ?_⟩
 have h4:=(YQ _ _).1 h3.2 p hp
 unfold Z2M at h4
 rw [hdp] at h4
 simp only [Jg,Kl,Bool.false_or] at h4
 exact hm it hit hL' _ h4
section
variable {P:Program} {all:List Oper} {its0 its:List It} {sp:Option SpD} {n0:Nat} {E0:Env} {h0:Z9} {w0:World} {L:Nat->Prop} {bl:Nat->Nat} {rem rem':List It} {D:Nat} {pend pend':List (It×AV)} {s s2:St} {E:Env} {a:Act} {w:World}
theorem Z3U {D i j:Nat} (h:(Nat.lor D (2^i)).testBit j=true):D.testBit j=true\/j=i:=by
 have h':(D|||2^i).testBit j=true:=h
 rw [Nat.testBit_or,JH] at h'
 rcases h' with h'|h'
 ·exact .inl h'
 ·rw [Nat.testBit_two_pow] at h'
  exact .inr (of_decide_eq_true h').symm
theorem Z1M (D i:Nat):(Nat.lor D (2^i)).testBit i=true:=by
 show (D|||2^i).testBit i=true
 rw [Nat.testBit_or,Nat.testBit_two_pow]
 simp
theorem Z1N {D i j:Nat} (h:D.testBit j=true):(Nat.lor D (2^i)).testBit j=true:=by
 show (D|||2^i).testBit j=true
 rw [Nat.testBit_or,h]
 rfl
theorem QW {m D:Nat} (h:Nat.beq (Nat.land m D) m=true) {p:Nat} (hp:m.testBit p=true):D.testBit p=true:=by
 have e:m&&&D=m:=J0 h
 rw [<-e,Nat.testBit_and,J3] at hp
 exact hp.2
theorem Inv.birth (hst:Stat P all its0 its sp n0) (hm:∀it∈its,L it.i->∀p,it.m.testBit p=true->L p) (I:Inv P all its sp E0 h0 w0 L bl rem D pend s E a w) {it:It} (hit:it∈rem) (hq:Yx it=true)
  (hD:∀p,it.m.testBit p=true->D.testBit p=true) (hr:∀x,x∈rem'↔x∈rem/\x≠it) (hnd:rem'.Pairwise fun a b=>a.i≠b.i) {v:AV} (hp:∀x,x∈pend->x∈pend')
  (hv:(XW all s.t it.o.guard=some true/\(it,v)∈pend'/\QV P it s.t s.h v)\/(XW all s.t it.o.guard=some false/\v=.tuple []))
  (e1:s2.h=s.h) (e2:s2.n=s.n) (e3:s2.d=s.d) (e4:∀x,it.o.dst=some x->Zz s2.t x=some v/\x<s.n) (e5:∀x,it.o.dst≠some x->Zz s2.t x=Zz s.t x):
  Inv P all its sp E0 h0 w0 L bl rem' (Nat.lor D (2^it.i)) pend' s2 E a w:=by
 have hits:=I.sub it hit
 have hne:∀q∈its,q≠it->q.i≠it.i:=fun q hq' hn e=>hn (hst.uniq q hq' it hits e)
 have hnL:¬L it.i:=fun hL=>I.quiet it hits hq hL hit
 have hback:∀q∈its,q∉rem'->q=it\/q∉rem:=fun q _ hn=>by
  by_cases h:q=it
  ·exact .inl h
  ·exact .inr fun hr'=>hn ((hr q).2 ⟨hr',h⟩)
 have hfwd:∀q,q∉rem->q∉rem':=fun q hn h=>hn ((hr q).1 h).1
 have hqe:Xi it=false:=by
  cases he:Xi it with
  | false=>rfl
  | true=>rw [Yp he] at hq;cases hq
 refine ⟨fun q hq'=>I.sub q ((hr q).1 hq').1,hnd,fun q hq' hb=> ?_,fun q hq' hnl hn p hp' hb=> ?_,fun q hq' he=> ?_,fun q hq' hl hn=> ?_,fun q hq' hqq hL=>hfwd q (I.quiet q hq' hqq hL),fun q hq' hqq hn hL=> ?_,by rw [e2];exact I.size,fun x u hx hc=> ?_,by rw [e3];exact I.defs,
  by rw [e1];exact I.evo,fun q hq' hl x hx=> ?_,fun q hq' hL hT=> ?_,fun q hq' q' hq''=>I.inj q ((hr q).1 hq').1 q' ((hr q').1 hq'').1,fun q hq' x hx hn=> ?_,fun q hq' hn=> ?_,by rw [e2];exact I.ln, ?_⟩
 ·rcases Z3U hb with h|h
  ·exact hfwd q (I.dbit q hq' h)
  ·have:q=it:=hst.uniq q hq' it hits h
   subst this
   exact fun h=>((hr q).1 h).2 rfl
 ·rcases hback q hq' hn with rfl|hn'
  ·exact hfwd p (I.dbit p hp' (hD _ hb))
  ·exact hfwd p (I.born q hq' hnl hn' p hp' hb)
 ·rw [I.eff q hq' he]
  have:q≠it:=fun h=>by subst h;rw [hqe] at he;cases he
  exact ⟨fun h=>hfwd q h,fun h h'=>h ((hr q).2 ⟨h',this⟩)⟩
 ·have:q≠it:=fun h=>by subst h;rw [ZZ hq] at hl;cases hl
  rcases hback q hq' hn with h|h
  ·exact absurd h this
  ·exact I.late q hq' hl h
 ·by_cases hqi:q=it
  ·subst hqi
   have hself:∀x∈XT all q.o,Zz s2.t x=Zz s.t x:=fun x hx=>e5 x fun hd=>hst.self q hits hqe x hd hx
   refine ⟨v,fun x hx=>(e4 x hx).1, ?_⟩
   rw [WF fun x hx=>hself x (Jx _ hx),e1]
   rcases hv with ⟨h1,h2,h3⟩|h
   ·exact .inl ⟨h1,h2,h3.congr fun x hx=>hself x (Jv _ hx)⟩
   ·exact .inr h
  ·have hn':q∉rem:=(hback q hq' hn).resolve_left hqi
   obtain ⟨u,h1,h2⟩:=I.fact q hq' hqq hn' hL
   have hsame:∀x∈XT all q.o,Zz s2.t x=Zz s.t x:=fun x hx=>e5 x fun hd=>by
    rcases hst.rd it hits q hq' (fun e=>hqi e.symm) x hd hx with h|⟨h3,h4⟩
    ·exact I.born q hq' (ZZ hqq) hn' it hits h hit
    ·rcases h4 with h4|⟨_,e,he,h5,h6,h7⟩
     ·rw [hqe] at h4;cases h4
     ·have:L e.i:=(I.eff e he h5).2 (I.dbit e he (hD _ h7))
      exact hL (hm e he this _ h6)
   refine ⟨u,fun x hx=> ?_, ?_⟩
   ·rw [e5 x fun hd=>hst.dst it hits q hq' (fun e=>hqi e.symm) x hd hx]
    exact h1 x hx
   ·rw [WF fun x hx=>hsame x (Jx _ hx),e1]
    rcases h2 with ⟨h2,h3,h4⟩|h
    ·exact .inl ⟨h2,hp _ h3,h4.congr fun x hx=>hsame x (Jv _ hx)⟩
    ·exact .inr h
 ·by_cases hd:it.o.dst=some x
  ·exact absurd (hc it hits hd hq fun h=>((hr it).1 h).2 rfl) hnL
  ·rw [e5 x hd] at hx
   exact I.tmps x u hx fun q hq' hdq hqq hn=>hc q hq' hdq hqq (hfwd q hn)
 ·have hq1:=(hr q).1 hq'
  rw [e5 x fun hd=>hst.dst it hits q (I.sub q hq1.1) (fun e=>hq1.2 e.symm) x hd hx]
  exact I.lt q hq1.1 hl x hx
 ·rw [e1]
  exact I.adopt q ((hr q).1 hq').1 hL hT
 ·rw [e2]
  rcases hback q hq' hn with rfl|hn'
  ·exact (e4 x hx).2
  ·exact I.dst q hq' x hx hn'
 ·rcases hback q hq' hn with rfl|hn'
  ·exact Z1M _ _
  ·exact Z1N (I.dset q hq' hn')
 ·rw [e1]
  refine I.mp.step (fun d hd=>⟨id,fun j _=>.rfl⟩) (fun d hd h=>by rw [e5 _ (Xx hst hd hits).2.2.1];exact h) rfl (fun _ _=>rfl) (fun _ _ _ _ _=>rfl) (fun _ _ _=>rfl) (fun _ _ h _=>h) (fun _ _ h=>h) (J5 _) (fun q hq' hL hl b _ hb=>hb q ((hr q).1 hq').1 hL hl)
theorem Z2N (hst:Stat P all its0 its sp n0) (hm:∀it∈its,L it.i->∀p,it.m.testBit p=true->L p) {K:List It->Nat->List (It×AV)->St->Prop}:
  ∀(todo kept:List It) (D:Nat) (pend:List (It×AV)) (s:St),Ud P all todo kept D pend s K->Inv P all its sp E0 h0 w0 L bl (kept++todo) D pend s E a w->
   ∃rem D' pend' s',K rem D' pend' s'/\Inv P all its sp E0 h0 w0 L bl rem D' pend' s' E a w:=by
 intro todo
 induction todo with
 | nil=>intro kept D pend s h I;exact ⟨kept,D,pend,s,h,by simpa using I⟩
 | cons it r ih=>
  intro kept D pend s h I
  unfold Ud at h
  split at h
  ·rename_i hb
   rw [J3] at hb
   have hmem:it∈kept++it::r:=by simp
   have hnd:=I.nodup
   have hnd':(kept++r).Pairwise fun a b=>a.i≠b.i:=hnd.sublist (List.Sublist.append (List.Sublist.refl _) (List.sublist_cons_self _ _))
   have hni:it∉kept++r:=fun hin=>by
    rw [List.pairwise_append] at hnd
    rcases Jr.1 hin with h1|h1
    ·exact hnd.2.2 it h1 it (by simp) rfl
    ·exact (JX.1 hnd.2.1).1 it h1 rfl
   have hr:∀x,x∈kept++r↔x∈kept++it::r/\x≠it:=fun x=>by
    constructor
    ·intro hx
     refine ⟨?_,fun e=>hni (e▸hx)⟩
     rcases Jr.1 hx with h1|h1
     ·exact Jx _ h1
     ·exact Jv _ (Jp _ h1)
    ·rintro ⟨hx,hne⟩
     rcases Jr.1 hx with h1|h1
     ·exact Jx _ h1
     ·rcases J9.1 h1 with h2|h2
      ·exact absurd h2 hne
      ·exact Jv _ h2
   obtain ⟨s',g1,g2,g3,g4,g5⟩:=Z0p h
   rcases g5 with ⟨gw,gr⟩|⟨gw,gs⟩
   ·obtain ⟨v,hv,hsem⟩:=Z7e gr
    obtain ⟨s2,k0,k1,k2,k3,k4,k5⟩:=X1 hv
    refine ih kept _ _ s2 k0 (I.birth hst hm hmem hb.1 (fun p hp=>QW hb.2 hp) hr hnd' (v:=v) (fun x hx=>Jp _ hx) (.inl ⟨gw,JB .., ?_⟩) (k1.trans g2) (k2.trans g3) (k3.trans g4)
     (fun x hx=>⟨(k4 x hx).1,g3▸(k4 x hx).2⟩) (fun x hx=>(k5 x hx).trans (g1 x)))
    rw [g2] at hsem
    exact hsem.congr fun x _=>(g1 x).symm
   ·obtain ⟨s2,k0,k1,k2,k3,k4,k5⟩:=X1 gs
    exact ih kept _ _ s2 k0 (I.birth hst hm hmem hb.1 (fun p hp=>QW hb.2 hp) hr hnd' (v:=.tuple []) (fun x hx=>hx) (.inr ⟨gw,rfl⟩) (k1.trans g2) (k2.trans g3) (k3.trans g4)
     (fun x hx=>⟨(k4 x hx).1,g3▸(k4 x hx).2⟩) (fun x hx=>(k5 x hx).trans (g1 x)))
  ·refine ih (kept++[it]) D pend s h ?_
   simpa using I
end
end Go.Tk
end
