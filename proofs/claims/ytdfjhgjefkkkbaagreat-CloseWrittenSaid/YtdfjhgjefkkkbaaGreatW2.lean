/- W: part 2 of an engine (a symbolic evaluator, proved against the model) and of the walk by it. -/
import Derived.Test.YtdfjhgjefkkkbaaGreatW1
import Derived.DeepKeys3
import Derived.Laws.BytesString
import Derived.Laws.IdiomStrings
import Derived.Laws.Externs
import Derived.Lib.Bytealg
import Derived.LoopNIn
import Derived.OrdersIn
set_option linter.unusedVariables false
set_option linter.unusedSimpArgs false
set_option maxRecDepth 100000
set_option maxHeartbeats 0
section
namespace Go.Tk
open IntKind (i64 u8 u32 u64 wrap)
variable {kt:TypeId} {re rk:Value} {ents:List MapEntry} {v:AV} {kf vf:Nat->AV} {ys:LI} {args:List AV} {ro:Option Nat} {E0:Env} {w0:World} {Q:Exit->Act->World->Prop}
def Zgw (P:Program) (ev:TypeId->AV->Prop->Prop) (cs:List AV):List Field->Prop->Prop
 | [],K=>K
 | f::fs,K=>match decide (f.name= "_") with
  | true=>False
  | false=>Z0J P f.type cs f.offset fun a=>ev f.type a (Zgw P ev cs fs K)
def ckK (P:Program):Nat->TypeId->AV->Prop->Prop
 | 0,_,_,_=>False
 | d+1,T,x,K=>match P.underlying T with
  | some (.int _)=>K
  | some .bool=>K
  | some (.struct fs)=>match x with
   | .agg cs=>Zgw P (ckK P d) cs fs.toList K
   | _=>False
  | some (.array n e)=>match x with
   | .agg [.arr _ m _]=>match P.underlying e,Yk P e,Nat.beq m n with
    | some (.int _),some 1,true=>K
    | _,_,_=>False
   | _=>False
  | _=>False
theorem Z4w {P:Program} {ev:TypeId->AV->Prop->Prop} {D:Nat} {cs:List AV}
  (hev:∀T x K,ev T x K->K/\∀(E:Env) (w:World) (rx:Value) (em:Bool),Zk E x rx->(Instr.checkKey em D T rx).run P w=.ok () w):
  ∀(fs:List Field) (K:Prop),Zgw P ev cs fs K->K/\∀f∈fs,f.name≠ "_" /\∀(E:Env) (w:World) (vs:List Value),Zz E cs vs->∃r,(part f.type vs.toArray f.offset).run P w=.ok r w/\∀em,(Instr.checkKey em D f.type r).run P w=.ok () w
 | [],K,h=>⟨h,fun f hf=>by simp at hf⟩
 | f::fs,K,h=>by
  unfold Zgw at h
  split at h
  ·simp_all
  ·rename_i hn
   have hn:f.name≠ "_" :=of_decide_eq_false hn
   obtain ⟨a,h,ha⟩:=WZ h
   obtain ⟨h,hc⟩:=hev _ _ _ h
   obtain ⟨hK,hr⟩:=Z4w hev fs K h
   refine ⟨hK,fun g hg=> ?_⟩
   rcases J8.1 hg with rfl|hg
   ·refine ⟨hn,fun E w vs hcr=> ?_⟩
    obtain ⟨r,h1,h2⟩:=ha E w vs hcr
    grind
   ·exact hr g hg
theorem Z1h {P:Program}:∀(d N:Nat) (T:TypeId) (x:AV) (K:Prop),ckK P d T x K->K/\∀(E:Env) (w:World) (rx:Value) (em:Bool),Zk E x rx->(Instr.checkKey em (d+1+N) T rx).run P w=.ok () w
 | 0,N,T,x,K,h=>h.elim
 | d+1,N,T,x,K,h=>by
  unfold ckK at h
  rw [show d+1+1+N=(d+1+N)+1 by omega]
  split at h
  ·simp_all [Instr.checkKey,run_underlying]
  ·simp_all [Instr.checkKey,run_underlying]
  ·rename_i fs hu
   split at h
   ·rename_i cs
    obtain ⟨hK,each⟩:=Z4w (D:=d+1+N) (fun T' x' K' h'=>Z1h d N T' x' K' h') _ _ h
    refine ⟨hK,fun E w rx em hx=> ?_⟩
    cases hx with
    | agg _ vs hc=>
     rw [Instr.checkKey]
     simp only [J7,run_underlying hu,J4]
     rw [<-Array.forIn_toList]
     have each:=fun f hf=>(each f hf).imp id fun h=>h E w vs hc
     generalize fs.toList=L at each
     clear h
     induction L with
     | nil=>simp
     | cons f L ih=>
      obtain ⟨hn,r,p1,p2⟩:=each f (by simp)
      simp only [List.forIn_cons,J7,hn,ne_eq,not_false_eq_true,if_true,J4,p1,p2]
      simp_all
   simp_all
  ·rename_i n e hu
   split at h
   ·rename_i k m xs
    split at h
    ·rename_i k0 he hs hb
     have hb:=J0 hb
     subst hb
     refine ⟨h,fun E w rx em hx=> ?_⟩
     cases hx with
     | agg _ vs hc=>
      obtain ⟨ws,rfl,hw⟩:=Zz.cons_arr hc
      cases hw
      rw [Instr.checkKey]
      simp only [J7,run_underlying hu,J4]
      simp only [Std.Legacy.Range.forIn_eq_forIn_range',Std.Legacy.Range.size,Nat.add_one_sub_one,Nat.div_one]
      have each:∀j∈List.range' 0 m,j<m:=fun j hj=>by simp_all
      generalize List.range' 0 m=is at each
      induction is with
      | nil=>simp
      | cons j is ih=>
       have hj:=each j (by simp)
       have px:(part e (intCells k m xs++[]).toArray (j*1)).run P w=.ok (.int k (xs.getD j 0)) w:=by
        simp [part,isAgg,run_underlying he,Zv hj]
       have p2:(Instr.checkKey em (d+1+N) e (.int k (xs.getD j 0))).run P w=.ok () w:=by
        rw [show d+1+N=(d+N)+1 by omega]
        simp [Instr.checkKey,run_underlying he]
       simp_all [run_sizeOf]
    simp_all
   simp_all
  simp_all
def Za1 (P:Program) (kt:TypeId) (key:AV) (some_:Nat->AV->Prop) (none_:Prop):Nat->List (AV×AV)->Prop
 | _,[]=>none_
 | j,(kv,v)::r=>Z5I P 20 kt key kv fun b=>Z0 b (some_ j v) (Za1 P kt key some_ none_ (j+1) r)
def Z36 (P:Program) (kt:TypeId):Bool:=match P.underlying kt with
 | some (.struct _)=>true
 | some (.array _ _)=>true
 | some .bool=>true
 | _=>false
theorem Z5J {P:Program} (hk:Z36 P kt=true) {kd:TypeDesc} (hu:P.underlying kt=some kd) {key kv:AV} {K:Bool->Prop} (h:Z5I P 20 kt key kv K) {b:Bool} {E:Env} (hb:∀w,(Op.equalIn 10000 kt rk re).run P w=.ok b w) (w0:World):Instr.sameNow kd rk re=none\/Instr.sameNow kd rk re=some b:=by
 unfold Z36 at hk
 rw [hu] at hk
 cases kd<;>simp at hk
 ·have:=hb w0
  cases rk<;>cases re<;>simp [Instr.sameNow]
  rw [show (10000:Nat)=9999+1 from rfl,run_equalIn_bool w0 _ kt _ _ hu] at this
  simp_all
 all_goals simp_all [Instr.sameNow]
theorem Z6R {P:Program} (hk:Z36 P kt=true) {kd:TypeDesc} (hu:P.underlying kt=some kd) {key:AV} {S:Nat->AV->Prop} {N:Prop}:∀(es:List (AV×AV)) (j0:Nat),Za1 P kt key S N j0 es->
  (∃j v,S (j0+j) v/\j<es.length/\∀(E:Env) (w:World) (ents:List MapEntry) (i:Nat) (rk:Value),Zk E key rk->ZH E (es.map (·.1)) (ents.map (·.key))->ZH E (es.map (·.2)) (ents.map (·.val))->
   ∃r,Zk E v r/\(Instr.findAsking kt rk ents i).run P w=.ok (some (i+j,r)) w/\(Instr.findNow kd rk ents i=none\/Instr.findNow kd rk ents i=some (some (i+j,r))))\/
  (N/\∀(E:Env) (w:World) (ents:List MapEntry) (i:Nat) (rk:Value),Zk E key rk->ZH E (es.map (·.1)) (ents.map (·.key))->ZH E (es.map (·.2)) (ents.map (·.val))->
   (Instr.findAsking kt rk ents i).run P w=.ok none w/\(Instr.findNow kd rk ents i=none\/Instr.findNow kd rk ents i=some none)):=by
 intro es
 induction es with
 | nil=>
  intro j0 h
  refine .inr ⟨h,fun E w ents i rk _ hkk _=> ?_⟩
  cases ents with
  | nil=>exact ⟨by simp [Instr.findAsking],.inr rfl⟩
  | cons e r=>cases hkk
 | cons p r ih=>
  obtain ⟨kv,v⟩:=p
  intro j0 h
  have h0:=h
  obtain ⟨b,hb,heq⟩:=Qq 20 9979 _ _ _ _ h
  have step:∀(E:Env) (w:World) (e:MapEntry) (rk:Value),Zk E key rk->Zk E kv e.key->(Op.equal kt rk e.key).run P w=.ok b w/\(Instr.sameNow kd rk e.key=none\/Instr.sameNow kd rk e.key=some b):=by
   intro E w e rk h1 h2
   have h3:∀w,(Op.equalIn 10000 kt rk e.key).run P w=.ok b w:=fun w=>heq E w rk e.key h1 h2
   exact ⟨h3 w,Z5J hk hu h0 (E:=E) h3 w⟩
  cases b with
  | true=>
   refine .inl ⟨0,v,hb,by simp,fun E w ents i rk h1 hkk hvv=> ?_⟩
   cases ents with
   | nil=>cases hkk
   | cons e es''=>
    cases hkk with
    | cons _ _ _ _ hk1 hk2=>cases hvv with
     | cons _ _ _ _ hv1 hv2=>
      obtain ⟨s1,s2⟩:=step E w e rk h1 hk1
      refine ⟨e.val,hv1,by simp [Instr.findAsking,s1], ?_⟩
      grind [Instr.findNow]
  | false=>
   rcases ih (j0+1) hb with ⟨j,v',hS,hj,hr⟩|⟨hN,hr⟩
   ·refine .inl ⟨j+1,v',by rw [show j0+(j+1)=j0+1+j by omega];exact hS,by simp_all,fun E w ents i rk h1 hkk hvv=> ?_⟩
    cases ents with
    | nil=>cases hkk
    | cons e es''=>
     cases hkk with
     | cons _ _ _ _ hk1 hk2=>cases hvv with
      | cons _ _ _ _ hv1 hv2=>
       obtain ⟨s1,s2⟩:=step E w e rk h1 hk1
       obtain ⟨x,x1,x2,x3⟩:=hr E w es'' (i+1) rk h1 hk2 hv2
       rw [show i+1+j=i+(j+1) by omega] at x2 x3
       refine ⟨x,x1,by simp [Instr.findAsking,s1,x2], ?_⟩
       grind [Instr.findNow]
   ·refine .inr ⟨hN,fun E w ents i rk h1 hkk hvv=> ?_⟩
    cases ents with
    | nil=>cases hkk
    | cons e es''=>
     cases hkk with
     | cons _ _ _ _ hk1 hk2=>cases hvv with
      | cons _ _ _ _ hv1 hv2=>
       obtain ⟨s1,s2⟩:=step E w e rk h1 hk1
       obtain ⟨x2,x3⟩:=hr E w es'' (i+1) rk h1 hk2 hv2
       refine ⟨by simp [Instr.findAsking,s1,x2], ?_⟩
       grind [Instr.findNow]
theorem X2 {P:Program} {kd:TypeDesc} (hu:P.underlying kt=some kd) {w:World} {R:Option (Nat×Value)} (h1:(Instr.findAsking kt rk ents 0).run P w=.ok R w) (h2:Instr.findNow kd rk ents 0=none\/Instr.findNow kd rk ents 0=some R):(Instr.findKey kt rk ents).run P w=.ok R w:=by
 simp only [Instr.findKey,J7,run_underlying hu]
 rcases h2 with h2|h2
 all_goals simp_all
def Z5K (P:Program) (h:Z8) (T:TypeId) (m key:AV) (ok:Bool) (K:AV->Prop):Prop:=
 match P.underlying T with
 | some (.map kt et)=>match Z36 P kt,Ue P et with
  | true,some z=>match m with
   | .map none=>ckK P 20 kt key (K (okV ok z false))
   | .map (some x)=>match h.get x with
    | some (.map es)=>ckK P 20 kt key (Za1 P kt key (fun _ v=>K (okV ok v true)) (K (okV ok z false)) 0 es)
    | _=>False
   | _=>False
  | _,_=>False
 | _=>False
theorem Z1O {P:Program} (h:Z36 P kt=true):∃kd,P.underlying kt=some kd:=by
 unfold Z36 at h
 grind
theorem Z8r {P:Program} {h:Z8} {T:TypeId} {m key:AV} {ok:Bool} {K:AV->Prop} (hl:Z5K P h T m key ok K):
  ∃v,K v/\∀(E:Env) (w:World) (rm rk:Value),Emb E h w->Zk E m rm->Zk E key rk->∃r,(Instr.lookup T rm rk ok).run P w=.ok r w/\Zk E v r:=by
 unfold Z5K at hl
 split at hl
 ·rename_i kt et hT
  split at hl
  ·rename_i z hkd hz
   obtain ⟨zr,hz1,hz2⟩:=V0 hz
   obtain ⟨kd,hu⟩:=Z1O hkd
   split at hl
   ·obtain ⟨hK,hc⟩:=Z1h 20 9979 _ _ _ hl
    refine ⟨_,hK,fun E w rm rk he hm hk=> ?_⟩
    cases hm
    refine ⟨_, ?_,Wn (hz2 E)⟩
    have hc:=hc E w rk true hk
    have hf:(Instr.findKey kt rk []).run P w=.ok none w:=X2 hu (by simp [Instr.findAsking]) (.inr rfl)
    simp_all [Instr.lookup,run_underlying]
   ·split at hl
    ·rename_i es hg
     obtain ⟨hl,hc⟩:=Z1h 20 9979 _ _ _ hl
     rcases Z6R hkd hu es 0 hl with ⟨j,v,h1,_,h2⟩|⟨h1,h2⟩
     ·refine ⟨_,h1,fun E w rm rk he hm hk=> ?_⟩
      cases hm with
      | map _ b N hb=>
       have hown:=he.own _ _ hg
       cases hown with
       | map _ b' ents clock hbb hw hkk hvv=>
        rw [hbb] at hb
        cases hb
        obtain ⟨r,h3,h4,h5⟩:=h2 E w ents 0 rk hk hkk hvv
        refine ⟨_, ?_,Wn h3⟩
        have hf:=X2 hu h4 h5
        simp only [Instr.lookup,J7,run_underlying hT,J4,Jp,Yx hw,hc E w rk _ hk,hf]
     ·refine ⟨_,h1,fun E w rm rk he hm hk=> ?_⟩
      cases hm with
      | map _ b N hb=>
       have hown:=he.own _ _ hg
       cases hown with
       | map _ b' ents clock hbb hw hkk hvv=>
        rw [hbb] at hb
        cases hb
        obtain ⟨h4,h5⟩:=h2 E w ents 0 rk hk hkk hvv
        refine ⟨_, ?_,Wn (hz2 E)⟩
        have hf:=X2 hu h4 h5
        simp only [Instr.lookup,J7,run_underlying hT,J4,Jp,Yx hw,hc E w rk _ hk,hf,hz1]
    simp_all
   simp_all
  simp_all
 simp_all
def Z2e (P:Program) (h:Z8) (T:TypeId) (m key:AV) (ok:Bool) (K:AV->Prop):Prop:=match UM P T with
 | some _=>Z5F P h T m key ok K
 | none=>Z5K P h T m key ok K
theorem Z8s {P:Program} {h:Z8} {T:TypeId} {m key:AV} {ok:Bool} {K:AV->Prop} (hl:Z2e P h T m key ok K):
  ∃v,K v/\∀(E:Env) (w:World) (rm rk:Value),Emb E h w->Zk E m rm->Zk E key rk->∃r,(Instr.lookup T rm rk ok).run P w=.ok r w/\Zk E v r:=by
 grind [Z2e,Z8m,Z8r]
def Z5L (P:Program) (h:Z8) (T:TypeId) (m key v:AV) (K:Z8->Prop):Prop:=
 match P.underlying T,m with
 | some (.map kt _),.map (some x)=>match Z36 P kt,h.get x with
  | true,some (.map es)=>ckK P 20 kt key (Za1 P kt key (fun _ _=>False) (K (h.set x (.map (es++[(key,v)])))) 0 es)
  | _,_=>False
 | _,_=>False
theorem Z8t {P:Program} {h:Z8} {T:TypeId} {m key:AV} {K:Z8->Prop} (hl:Z5L P h T m key v K):
  ∃h',K h'/\∀(E:Env) (w:World) (rm rk rv:Value),Emb E h w->Zk E m rm->Zk E key rk->Zk E v rv->∃w',(Instr.mapUpdate T rm rk rv).run P w=.ok () w'/\Evo E h w E h' w':=by
 unfold Z5L at hl
 split at hl
 ·rename_i kt et x hT
  split at hl
  ·rename_i es hkd hg
   obtain ⟨kd,hu⟩:=Z1O hkd
   obtain ⟨hl,hc⟩:=Z1h 20 9979 _ _ _ hl
   rcases Z6R hkd hu es 0 hl with ⟨j,_,h1,_⟩|⟨h1,h2⟩
   ·simp_all
   ·refine ⟨_,h1,fun E w rm rk rv he hm hk hv=> ?_⟩
    cases hm with
    | map _ b N hb=>
     have hown:=he.own _ _ hg
     cases hown with
     | map _ b' ents clock hbb hw hkk hvv=>
      rw [hbb] at hb
      cases hb
      have hlt:b<w.heap.size:=by
       grind
      obtain ⟨h4,h5⟩:=h2 E w ents 0 rk hk hkk hvv
      have hf:=X2 hu h4 h5
      refine ⟨{ w with heap:=w.heap.setIfInBounds b (.map (ents.toArray.push ⟨rk,rv,clock⟩) (clock+1))}, ?_, ?_⟩
      ·simp only [Instr.mapUpdate,J7,run_underlying hT,J4,Yx hw,hc E w rk _ hk,hf,V1 _ hw]
      ·refine XU he x _ _ b 0 hg hbb (fun i hi=> ?_) (by simp) rfl rfl ⟨rfl,J2 _⟩ ?_
       ·rw [Js,if_neg (fun e=>hi e.symm)]
       ·refine .map _ b (ents++[⟨rk,rv,clock⟩]) (clock+1) hbb ?_ ?_ ?_
        ·simp_all
        ·simp only [JY,K6]
         exact hkk.snoc hk
        ·simp only [JY,K6]
         exact hvv.snoc hv
  simp_all
 simp_all
def Z2f (P:Program) (h:Z8) (T:TypeId) (m key v:AV) (K:Z8->Prop):Prop:=match UM P T with
 | some _=>Z5G P h T m key v K
 | none=>Z5L P h T m key v K
theorem Z8u {P:Program} {h:Z8} {T:TypeId} {m key:AV} {K:Z8->Prop} (hl:Z2f P h T m key v K):
  ∃h',K h'/\∀(E:Env) (w:World) (rm rk rv:Value),Emb E h w->Zk E m rm->Zk E key rk->Zk E v rv->∃w',(Instr.mapUpdate T rm rk rv).run P w=.ok () w'/\Evo E h w E h' w':=by
 grind [Z2f,Z8n,Z8t]
def Z37:AV->AV->Bool
 | .int k a,v=>match v with|.int k' b=>decide (k=k')&&(a==b)|_=>false
 | .bool a,v=>match v with|.bool b=>a==b|_=>false
 | .arr k n xs,v=>match v with|.arr k' n' ys=>decide (k=k')&&Nat.beq n n'&&(xs==ys)|_=>false
 | _,_=>false
def Z0L:List AV->List AV->Bool
 | [],l=>match l with|[]=>true|_=>false
 | a::r,l=>match l with
  | b::s=>(match r,s with|[],[]=>Z37 a b|r,s=>Z37 a b&&Z0L r s)
  | []=>false
def Xp:AV->AV->Bool
 | .agg cs,v=>match v with|.agg ds=>Z0L cs ds|_=>false
 | .arr _ _ _,_=>false
 | a,v=>Z37 a v
theorem Z1i {a b:AV} (h:Z37 a b=true):a=b/\((∃k n,a=.int k n)\/(∃x,a=.bool x)\/∃k n xs,a=.arr k n xs):=by
 unfold Z37 at h
 split at h
 ·grind
 ·grind
 ·split at h
  all_goals simp_all
 ·cases h
def Za2 (a:AV):Prop:=(∃k n,a=.int k n)\/(∃x,a=.bool x)\/∃k n xs,a=.arr k n xs
theorem Z38:∀{l m:List AV},Z0L l m=true->l=m/\∀a∈l,Za2 a
 | [],m,h=>by
  grind [Z0L]
 | a::r,m,h=>by
  unfold Z0L at h
  split at h
  ·split at h
   ·grind [Z1i,Za2]
   ·rw [J3] at h
    obtain ⟨rfl,h1⟩:=Z1i h.1
    obtain ⟨rfl,h2⟩:=Z38 h.2
    refine ⟨rfl,fun x hx=> ?_⟩
    rcases J8.1 hx with rfl|hx
    ·exact h1
    simp_all
  ·cases h
theorem Uf (n:Nat) (k:IntKind) (a:Int):Instr.sameBits (n+1) (.int k a) (.int k a)=true:=by simp [Instr.sameBits]
theorem QT (n:Nat) (a:Bool):Instr.sameBits (n+1) (.bool a) (.bool a)=true:=by simp [Instr.sameBits]
theorem Qr {E:Env}:∀{l:List AV} {r s:List Value},(∀a∈l,Za2 a)->Zz E l r->Zz E l s->r=s/\∀v∈r,∀n,Instr.sameBits (n+1) v v=true
 | [],r,s,_,h1,h2=>by cases h1;cases h2;simp_all
 | a::l,r,s,hs,h1,h2=>by
  have ha:=hs a (JT ..)
  have hl:∀x∈l,Za2 x:=fun x hx=>hs x (Jq _ hx)
  rcases ha with ⟨k,n,rfl⟩|⟨x,rfl⟩|⟨k,n,xs,rfl⟩
  ·cases h1 with
   | one v c vs cs h0 h1 hv t=>cases hv;cases h2 with
    | one v c vs cs h0 h1 hv t'=>cases hv;obtain ⟨e,h3⟩:=Qr hl t t';exact ⟨by rw [e],fun v hv n=>by
      rcases J8.1 hv with rfl|hv
      ·exact Uf _ _ _
      ·exact h3 v hv n⟩
  ·cases h1 with
   | one v c vs cs h0 h1 hv t=>cases hv;cases h2 with
    | one v c vs cs h0 h1 hv t'=>cases hv;obtain ⟨e,h3⟩:=Qr hl t t';exact ⟨by rw [e],fun v hv n=>by
      rcases J8.1 hv with rfl|hv
      ·exact QT _ _
      ·exact h3 v hv n⟩
  ·obtain ⟨ws,rfl,t⟩:=Zz.cons_arr h1
   obtain ⟨ws',rfl,t'⟩:=Zz.cons_arr h2
   obtain ⟨e,h3⟩:=Qr hl t t'
   refine ⟨by rw [e],fun v hv m=> ?_⟩
   rcases JW.1 hv with hv|hv
   ·obtain ⟨i,_,rfl⟩:=List.mem_map.1 hv
    exact Uf _ _ _
   ·exact h3 v hv m
theorem Z8v {a b:AV} (h:Xp a b=true) {E:Env} {r s:Value} (hr:Zk E a r) (hs:Zk E b s):a=b/\r=s/\∀n,Instr.sameBits (n+2) r s=true:=by
 unfold Xp at h
 split at h
 ·split at h
  ·obtain ⟨rfl,h1⟩:=Z38 h
   cases hr with
   | agg _ vs hc=>cases hs with
    | agg _ ws hc'=>
     obtain ⟨rfl,h2⟩:=Qr h1 hc hc'
     refine ⟨rfl,rfl,fun n=> ?_⟩
     simp only [Instr.sameBits,BEq.rfl,Bool.true_and,List.all_eq_true]
     intro p hp
     obtain ⟨i,hi⟩:=JO.1 hp
     grind
  ·cases h
 ·cases h
 ·obtain ⟨rfl,h3⟩:=Z1i h
  rcases h3 with ⟨k,n,rfl⟩|⟨x,rfl⟩|⟨k,n,xs,rfl⟩
  ·cases hr;cases hs;simp_all [Uf]
  ·cases hr;cases hs;simp_all [QT]
  simp_all
@[irreducible] def ZiQ (P:Program) (kt:TypeId) (a b:AV):Prop:=Z5I P 20 kt a b fun r=>r=Xp a b
inductive Z5M (P:Program) (kt:TypeId) (key:AV) (n:Nat) (kf:Nat->AV):Prop
 | mk (h:∀i,i<n->ZiQ P kt key (kf i)):Z5M P kt key n kf
def YQ (p:Nat->Bool) (n:Nat):Nat:=match (List.range n).find? p with|some i=>i|none=>n
theorem Z6S {p:Nat->Bool} {n i:Nat} (hi:i<n) (hp:p i=true) (hb:∀j,j<i->p j=false):YQ p n=i:=by
 unfold YQ
 have:(List.range n).find? p=some i:=by
  simp_all
 rw [this]
theorem Z6T {p:Nat->Bool} {n:Nat} (hb:∀j,j<n->p j=false):YQ p n=n:=by
 unfold YQ
 have:(List.range n).find? p=none:=by
  simp_all
 rw [this]
theorem Z6U {P:Program} {kd:TypeDesc} (hu:P.underlying kt=some kd) {b:Bool} {w:World} (h:(Op.equalIn 10000 kt rk re).run P w=.ok b w):Instr.sameNow kd rk re=none\/Instr.sameNow kd rk re=some b:=by
 cases hs:Instr.sameNow kd rk re with
 | none=>simp_all
 | some c=>
  refine .inr ?_
  unfold Instr.sameNow at hs
  split at hs
  ·simp_all [run_equalIn_int]
  ·cases hs
   rw [Op.equalIn] at h
   simp only [J7,run_underlying hu,J4,Jp,Result.ok.injEq,and_true] at h
   rw [h]
  all_goals simp_all [run_equalIn_bool]
theorem Z4x {P:Program} {kt:TypeId} {kd:TypeDesc} (hu:P.underlying kt=some kd) {rk:Value} {w:World}:∀(ents:List MapEntry) (p:Nat->Bool) (i0:Nat),
  (∀(i:Nat) (e:MapEntry),ents[i]? =some e->(Op.equalIn 10000 kt rk e.key).run P w=.ok (p i) w)->
  (∃(j:Nat) (e:MapEntry),ents[j]? =some e/\p j=true/\(∀i,i<j->p i=false)/\(Instr.findAsking kt rk ents i0).run P w=.ok (some (i0+j,e.val)) w/\(Instr.findNow kd rk ents i0=none\/Instr.findNow kd rk ents i0=some (some (i0+j,e.val))))\/
  ((∀i,i<ents.length->p i=false)/\(Instr.findAsking kt rk ents i0).run P w=.ok none w/\(Instr.findNow kd rk ents i0=none\/Instr.findNow kd rk ents i0=some none))
 | [],p,i0,_=>.inr ⟨by simp,by simp [Instr.findAsking],.inr rfl⟩
 | e::r,p,i0,h=>by
  have h0:=h 0 e rfl
  have s1:(Op.equal kt rk e.key).run P w=.ok (p 0) w:=h0
  have s2:=Z6U hu h0
  cases hp:p 0 with
  | true=>
   rw [hp] at s1 s2
   refine .inl ⟨0,e,rfl,hp,by omega,by simp [Instr.findAsking,s1], ?_⟩
   grind [Instr.findNow]
  | false=>
   rw [hp] at s1 s2
   rcases Z4x hu r (fun i=>p (i+1)) (i0+1) (fun i e' he=>h (i+1) e' (by simp_all)) with ⟨j,e',h1,h2,h3,h4,h5⟩|⟨h1,h2,h3⟩
   ·refine .inl ⟨j+1,e',by simp_all,h2,fun i hi=> ?_, ?_, ?_⟩
    ·cases i with
     | zero=>exact hp
     | succ i=>simp_all
    ·rw [show i0+(j+1)=i0+1+j by omega]
     simp [Instr.findAsking,s1,h4]
    grind [Instr.findNow]
   ·refine .inr ⟨fun i hi=> ?_,by simp [Instr.findAsking,s1,h2], ?_⟩
    all_goals grind [Instr.findNow]
theorem Qs {P:Program} {kd:TypeDesc} (hu:P.underlying kt=some kd) {key:AV} {n:Nat} (ha:Z5M P kt key n kf) {E:Env} {w:World} (hl:ents.length=n)
  (hk:∀(i:Nat) (e:MapEntry),ents[i]? =some e->Zk E (kf i) e.key) (hv:∀(i:Nat) (e:MapEntry),ents[i]? =some e->Zk E (vf i) e.val) (hr:Zk E key rk):
  (∃(e:MapEntry),YQ (fun i=>Xp key (kf i)) n<n/\ents[YQ (fun i=>Xp key (kf i)) n]? =some e/\Xp key (kf (YQ (fun i=>Xp key (kf i)) n))=true/\Zk E (vf (YQ (fun i=>Xp key (kf i)) n)) e.val/\(Instr.findKey kt rk ents).run P w=.ok (some (YQ (fun i=>Xp key (kf i)) n,e.val)) w)\/
  (YQ (fun i=>Xp key (kf i)) n=n/\(Instr.findKey kt rk ents).run P w=.ok none w):=by
 obtain ⟨ha⟩:=ha
 have each:∀(i:Nat) (e:MapEntry),ents[i]? =some e->(Op.equalIn 10000 kt rk e.key).run P w=.ok (Xp key (kf i)) w:=fun i e he=>by
  have hi:=(Jy.1 he).1
  have hk0:=ha i (by omega)
  unfold ZiQ at hk0
  obtain ⟨b,rfl,h2⟩:=Qq 20 9979 _ _ _ _ hk0
  grind
 rcases Z4x hu ents (fun i=>Xp key (kf i)) 0 each with ⟨j,e,h1,h2,h3,h4,h5⟩|⟨h1,h2,h3⟩
 ·have hj:=(Jy.1 h1).1
  have e1:YQ (fun i=>Xp key (kf i)) n=j:=Z6S (by omega) h2 h3
  simp_all [X2]
 simp_all [Z6T,X2]
def Z5N (P:Program) (T:TypeId) (n:Nat) (kf vf:Nat->AV) (key:AV) (ok:Bool) (K:AV->Prop):Prop:=
 match P.underlying T with
 | some (.map kt et)=>match P.underlying kt,Ue P et with
  | some _,some z=>ckK P 20 kt key (Z5M P kt key n kf/\Z0 (Nat.blt (YQ (fun i=>Xp key (kf i)) n) n) (K (okV ok (vf (YQ (fun i=>Xp key (kf i)) n)) true)) (K (okV ok z false)))
  | _,_=>False
 | _=>False
def Z6V (f:Nat->AV) (j:Nat) (v:AV) (i:Nat):AV:=match Nat.beq i j with|true=>v|false=>f i
def Z5O (P:Program) (h:Z8) (T:TypeId) (x n:Nat) (kf vf:Nat->AV) (key v:AV) (K:Z8->Prop):Prop:=
 match P.underlying T with
 | some (.map kt _)=>match P.underlying kt with
  | some _=>ckK P 20 kt key (Z5M P kt key n kf/\Z0 (Nat.blt (YQ (fun i=>Xp key (kf i)) n) n) (K (h.set x (.fmap n kf (Z6V vf (YQ (fun i=>Xp key (kf i)) n) v)))) (K (h.set x (.fmap (n+1) (Z6V kf n key) (Z6V vf n v)))))
  | none=>False
 | _=>False
theorem Z8w {P:Program} {h:Z8} {T:TypeId} {x n:Nat} {key:AV} {ok:Bool} {K:AV->Prop} (hg:h.get x=some (.fmap n kf vf)) (hl:Z5N P T n kf vf key ok K):
  ∃v,K v/\∀(E:Env) (w:World) (rm rk:Value),Emb E h w->Zk E (.map (some x)) rm->Zk E key rk->∃r,(Instr.lookup T rm rk ok).run P w=.ok r w/\Zk E v r:=by
 unfold Z5N at hl
 split at hl
 ·rename_i kt et hT
  split at hl
  ·rename_i kd z hu hz
   obtain ⟨zr,hz1,hz2⟩:=V0 hz
   obtain ⟨⟨ha,hl⟩,hc⟩:=Z1h 20 9979 _ _ _ hl
   cases hb:Nat.blt (YQ (fun i=>Xp key (kf i)) n) n with
   | true=>
    have hlt:YQ (fun i=>Xp key (kf i)) n<n:=Jh hb
    rw [hb] at hl
    refine ⟨_,hl,fun E w rm rk he hm hk=> ?_⟩
    cases hm with
    | map _ b N hb=>
     have hown:=he.own _ _ hg
     cases hown with
     | fmap _ _ _ b' ents clock hbb hw hll hkk hvv=>
      rw [hbb] at hb
      cases hb
      rcases Qs (w:=w) hu ha hll hkk hvv hk with ⟨e,_,_,_,h3,h4⟩|⟨h3,_⟩
      ·refine ⟨_, ?_,Wn h3⟩
       simp only [Instr.lookup,J7,run_underlying hT,J4,Jp,Yx hw,hc E w rk _ hk,h4]
      ·omega
   | false=>
    rw [hb] at hl
    refine ⟨_,hl,fun E w rm rk he hm hk=> ?_⟩
    cases hm with
    | map _ b N hb2=>
     have hown:=he.own _ _ hg
     cases hown with
     | fmap _ _ _ b' ents clock hbb hw hll hkk hvv=>
      rw [hbb] at hb2
      cases hb2
      rcases Qs (w:=w) hu ha hll hkk hvv hk with ⟨e,h3,_⟩|⟨h3,h4⟩
      ·have h5:Nat.blt (YQ (fun i=>Xp key (kf i)) n) n=true:=Nat.ble_eq_true_of_le h3
       rw [h5] at hb;cases hb
      ·refine ⟨_, ?_,Wn (hz2 E)⟩
       simp only [Instr.lookup,J7,run_underlying hT,J4,Jp,Yx hw,hc E w rk _ hk,h4,hz1]
  simp_all
 simp_all
theorem Z5P {P:Program} {w:World} {a b:Value} (h:Instr.sameBits 10000 a b=true):(Instr.keyThatStays a b).run P w=.ok b w:=by
 simp [Instr.keyThatStays,h]
theorem Z8x {P:Program} {h:Z8} {T:TypeId} {x n:Nat} {key:AV} {K:Z8->Prop} (hg:h.get x=some (.fmap n kf vf)) (hl:Z5O P h T x n kf vf key v K):
  ∃h',K h'/\∀(E:Env) (w:World) (rm rk rv:Value),Emb E h w->Zk E (.map (some x)) rm->Zk E key rk->Zk E v rv->∃w',(Instr.mapUpdate T rm rk rv).run P w=.ok () w'/\Evo E h w E h' w':=by
 unfold Z5O at hl
 split at hl
 ·rename_i kt et hT
  split at hl
  ·rename_i kd hu
   obtain ⟨⟨ha,hl⟩,hc⟩:=Z1h 20 9979 _ _ _ hl
   cases hb:Nat.blt (YQ (fun i=>Xp key (kf i)) n) n with
   | true=>
    have hlt:YQ (fun i=>Xp key (kf i)) n<n:=Jh hb
    rw [hb] at hl
    refine ⟨_,hl,fun E w rm rk rv he hm hk hv=> ?_⟩
    cases hm with
    | map _ b N hb=>
     have hown:=he.own _ _ hg
     cases hown with
     | fmap _ _ _ b' ents clock hbb hw hll hkk hvv=>
      rw [hbb] at hb
      cases hb
      rcases Qs (w:=w) hu ha hll hkk hvv hk with ⟨e,_,h2,h3,_,h4⟩|⟨h3,_⟩
      ·generalize hJ:YQ (fun i=>Xp key (kf i)) n=J at*
       obtain ⟨_,h5,h6⟩:=Z8v h3 hk (hkk J e h2)
       have hs:(Instr.keyThatStays e.key rk).run P w=.ok rk w:=Z5P (by rw [<-h5];rw [<-h5] at h6;simp_all)
       have hbl:b<w.heap.size:=by
        grind
       refine ⟨{ w with heap:=w.heap.setIfInBounds b (.map (ents.set J (⟨rk,rv,e.born⟩:MapEntry)).toArray clock)}, ?_, ?_⟩
       ·have hm:ents.toArray.modify J (fun e=>{ e with key:=rk,val:=rv})=(ents.set J (⟨rk,rv,e.born⟩:MapEntry)).toArray:=by
         grind
        simp only [Instr.mapUpdate,J7,run_underlying hT,J4,Yx hw,hc E w rk _ hk,h4,List.getElem?_toArray,h2,Option.map_some,Option.getD_some,hs,hm,V1 _ hw]
       ·refine XU he x _ (.fmap n kf (Z6V vf J v)) b 0 hg hbb (fun i hi=>by grind) (by simp) rfl rfl ⟨rfl,J2 _⟩ ?_
        ·refine .fmap _ _ _ b (ents.set J ⟨rk,rv,e.born⟩) clock hbb (by simp_all) (by simp [hll]) (fun i e' he'=> ?_) (fun i e' he'=> ?_)
         ·rw [List.getElem?_set] at he'
          grind
         ·rw [List.getElem?_set] at he'
          unfold Z6V
          split at he'
          ·grind [Jj]
          simp_all [ZD,Ne.symm]
      ·omega
   | false=>
    rw [hb] at hl
    refine ⟨_,hl,fun E w rm rk rv he hm hk hv=> ?_⟩
    cases hm with
    | map _ b N hb2=>
     have hown:=he.own _ _ hg
     cases hown with
     | fmap _ _ _ b' ents clock hbb hw hll hkk hvv=>
      rw [hbb] at hb2
      cases hb2
      rcases Qs (w:=w) hu ha hll hkk hvv hk with ⟨e,h3,_⟩|⟨h3,h4⟩
      ·have h5:Nat.blt (YQ (fun i=>Xp key (kf i)) n) n=true:=Nat.ble_eq_true_of_le h3
       rw [h5] at hb;cases hb
      ·have hbl:b<w.heap.size:=by
        grind
       refine ⟨{ w with heap:=w.heap.setIfInBounds b (.map (ents.toArray.push ⟨rk,rv,clock⟩) (clock+1))}, ?_, ?_⟩
       ·simp only [Instr.mapUpdate,J7,run_underlying hT,J4,Yx hw,hc E w rk _ hk,h4,V1 _ hw]
       ·refine XU he x _ (.fmap (n+1) (Z6V kf n key) (Z6V vf n v)) b 0 hg hbb (fun i hi=>by grind) (by simp) rfl rfl ⟨rfl,J2 _⟩ ?_
        ·refine .fmap _ _ _ b (ents++[⟨rk,rv,clock⟩]) (clock+1) hbb (by simp_all) (by simp [hll]) (fun i e' he'=> ?_) (fun i e' he'=> ?_)
         all_goals
          unfold Z6V
          rw [List.getElem?_append] at he'
          split at he'
          ·grind [ZD]
          ·have h7:=(Jy.1 he').1
           simp at h7
           have h8:i=n:=by omega
           grind [Jj]
  simp_all
 simp_all
def Z5Q (P:Program) (h:Z8) (T:TypeId) (m key:AV) (ok:Bool) (K:AV->Prop):Prop:=match m with
 | .map (some x)=>match h.get x with
  | some (.fmap n kf vf)=>Z5N P T n kf vf key ok K
  | _=>Z2e P h T m key ok K
 | _=>Z2e P h T m key ok K
theorem Z8y {P:Program} {h:Z8} {T:TypeId} {m key:AV} {ok:Bool} {K:AV->Prop} (hl:Z5Q P h T m key ok K):
  ∃v,K v/\∀(E:Env) (w:World) (rm rk:Value),Emb E h w->Zk E m rm->Zk E key rk->∃r,(Instr.lookup T rm rk ok).run P w=.ok r w/\Zk E v r:=by
 unfold Z5Q at hl
 grind [Z8w,Z8s]
def Z2g (P:Program) (h:Z8) (T:TypeId) (m key v:AV) (K:Z8->Prop):Prop:=match m with
 | .map (some x)=>match h.get x with
  | some (.fmap n kf vf)=>Z5O P h T x n kf vf key v K
  | _=>Z2f P h T m key v K
 | _=>Z2f P h T m key v K
theorem Z39 {P:Program} {h:Z8} {T:TypeId} {m key:AV} {K:Z8->Prop} (hl:Z2g P h T m key v K):
  ∃h',K h'/\∀(E:Env) (w:World) (rm rk rv:Value),Emb E h w->Zk E m rm->Zk E key rk->Zk E v rv->∃w',(Instr.mapUpdate T rm rk rv).run P w=.ok () w'/\Evo E h w E h' w':=by
 unfold Z2g at hl
 grind [Z8x,Z8u]
def V2 (n:Int):UInt8:=UInt8.ofNat n.toNat
def strOf (xs:LI):ByteArray:=⟨(xs.map V2).toArray⟩
def Qt (s:ByteArray):LI:=s.data.toList.map fun b=>(b.toNat:Int)
theorem Z3a:∀(xs:LI) (r:ByteArray),xs.foldl (fun r n=>r.push (UInt8.ofNat n.toNat)) r=⟨r.data++(xs.map V2).toArray⟩
 | [],r=>by simp
 | x::xs,r=>by
  rw [List.foldl_cons,Z3a xs]
  simp [V2]
theorem Z3b {w:World} {r:Value} {m:Nat} {k:IntKind} (h:Reads w 1 r m (intCells k ys.length ys)):∃a c,r=.slice a m c/\m=ys.length/\((a=none/\ys=[])\/∃ad,a=some ad/\∀j,j<ys.length->w.cell? (ad.add j)=some (.int k (ys.getD j 0))):=by
 obtain ⟨a,c,rfl,hl,hc⟩:=h
 rw [Zb,JR] at hl
 refine ⟨a,c,rfl,hl.symm, ?_⟩
 cases a with
 | none=>
  left
  refine ⟨rfl, ?_⟩
  cases ys with
  | nil=>rfl
  | cons y ys=>obtain ⟨ad,h1,_⟩:=hc 0 _ (Zv (by simp));cases h1
 | some ad=>
  simp_all [Zv]
def Zgx (P:Program) (h:Z8) (s d:TypeId) (x:AV) (K:AV->Prop):Prop:=
 match P.underlying s,P.underlying d with
 | some (.slice e),some .string=>match P.underlying e with
  | some (.int .u8)=>QQ h .u8 x fun ys=>K (.str (strOf ys))
  | _=>False
 | _,_=>Zd1 P s d x K
theorem ZlA {k:IntKind} (ys:LI):∀j v,(ys.map (Value.int k))[j]? =some v->j<ys.length/\v=.int k (ys.getD j 0):=fun j v hj=>by
 grind
theorem Za3 {P:Program} {h:Z8} {s d:TypeId} {x:AV} {K:AV->Prop} (hl:Zgx P h s d x K):
  ∃v,K v/\∀(E:Env) (w:World) (r:Value),Emb E h w->Zk E x r->∃r',(convert s d r).run P w=.ok r' w/\Zk E v r':=by
 unfold Zgx at hl
 split at hl
 ·rename_i e hs hd
  split at hl
  ·rename_i he
   obtain ⟨ys,hK,hr⟩:=Wr hl
   refine ⟨_,hK,fun E w r hem hx=>⟨_, ?_,.str _⟩⟩
   obtain ⟨a,c,rfl,hm,hc⟩:=Z3b (hr E w r hem hx)
   rw [run_convert_bytes_string w s d e a _ c hs he hd]
   rcases hc with ⟨rfl,rfl⟩|⟨ad,rfl,hc⟩
   ·rfl
   ·rw [run_bytesToString w ad _ c ys]
    ·rw [Z3a];simp [strOf,ByteArray.empty,ByteArray.emptyWithCapacity];rfl
    ·have:=run_loadCells_list (P:=P) w ad (ys.map (Value.int .u8)) (fun j v hj=>by
      grind)
     simp_all
  simp_all
 ·obtain ⟨v,hK,hv⟩:=Zd2 hl
  exact ⟨v,hK,fun E w r _ hx=>hv E w r hx⟩
def Xf (xs ys:LI):Int:=Lib.compareBytes (xs.map V2) (ys.map V2)
theorem run_loadBytes {P:Program} {w:World}:∀(ys:LI) (ad:Addr) (acc:ByteArray),(∀j,j<ys.length->w.cell? (ad.add j)=some (.int .u8 (ys.getD j 0)))->
  (Extern.Bytes.loadBytes ad ys.length acc).run P w=.ok ⟨acc.data++(ys.map V2).toArray⟩ w
 | [],ad,acc,_=>by simp [Extern.Bytes.loadBytes]
 | y::ys,ad,acc,h=>by
  have h0:=h 0 (by simp)
  have e0:ad.add 0=ad:=by simp [Addr.add]
  rw [e0] at h0
  have hload:(load ad).run P w=.ok (.int .u8 y) w:=by
   simp [h0]
  simp only [Jl,Extern.Bytes.loadBytes,J7,hload,J4]
  have hadd:∀j,(ad.add 1).add j=ad.add (j+1):=fun j=>by
   grind [Addr.add]
  rw [run_loadBytes ys (ad.add 1) _ (fun j hj=>by simp_all)]
  simp [V2]
theorem Z1P {P:Program} {w:World} {r:Value} {m:Nat} (h:Reads w 1 r m (intCells .u8 ys.length ys)):(Extern.Bytes.bytesOf r).run P w=.ok (strOf ys) w:=by
 obtain ⟨a,c,rfl,hm,hc⟩:=Z3b h
 rcases hc with ⟨rfl,rfl⟩|⟨ad,rfl,hc⟩
 ·rfl
 ·simp only [Extern.Bytes.bytesOf,hm]
  rw [run_loadBytes ys ad _ hc]
  simp [strOf,ByteArray.empty,ByteArray.emptyWithCapacity];rfl
def Zjs (h:Z8) (args:List AV) (K:AV->Prop):Prop:=
 match args with
 | [a,b]=>QQ h .u8 a fun xs=>QQ h .u8 b fun ys=>K (.int .i64 (Xf xs ys))
 | _=>False
theorem Zgy {P:Program} {h:Z8} {K:AV->Prop} (hl:Zjs h args K):∃v,K v/\∀(E:Env) (w:World) (rs:List Value),Emb E h w->ZH E args rs->∃r,(Extern.BytealgCompare.compare rs.toArray).run P w=.ok r w/\Zk E v r:=by
 unfold Zjs at hl
 split at hl
 ·obtain ⟨xs,hl,h1⟩:=Wr hl
  obtain ⟨ys,hl,h2⟩:=Wr hl
  refine ⟨_,hl,fun E w rs he hr=> ?_⟩
  cases hr with
  | cons v c vs cs ha hb=>cases hb with
   | cons v2 c2 vs2 cs2 ha2 hb2=>cases hb2 with
    | nil=>
     refine ⟨_, ?_,.int _ _⟩
     change Sem.run P (do pure (goInt (Extern.BytealgCompare.cmp (<-Extern.Bytes.bytesOf c) (<-Extern.Bytes.bytesOf c2)))) w=_
     simp only [J7,Z1P (h1 E w c he ha),Z1P (h2 E w c2 he ha2),J4]
     rw [Lib.cmp_eq]
     rfl
 simp_all
def Zgz (lt:Bool) (args:List AV) (K:AV->Prop):Prop:=
 match args with
 | [.int k a,.int k' b]=>match decide (k=k') with
  | true=>match lt with
   | true=>K (.int k (if b<a then b else a))
   | false=>K (.int k (if b>a then b else a))
  | false=>False
 | _=>False
def Z8z (P:Program) (h:Z8) (s d:TypeId) (x:AV) (K:AV->Z8->Prop) (L:Prop):Prop:=
 match P.underlying s,P.underlying d,x with
 | some .string,some (.slice e),.str b=>match P.underlying e with
  | some (.int .u8)=>K (.nslice ⟨h.next,0,0,0,0⟩ 1 (Qt b).length (Qt b).length) (h.add (.ints .u8 (Qt b)))
  | _=>False
 | _,_,_=>L
theorem Zbq {P:Program} {h:Z8} {s d:TypeId} {x:AV} {K:AV->Z8->Prop} {L:Prop} (hl:Z8z P h s d x K L):
  L\/∃v h',K v h'/\∀(E:Env) (w:World) (r:Value),Emb E h w->Zk E x r->∃r' w' E',(convert s d r).run P w=.ok r' w'/\Evo E h w E' h' w'/\Zk E' v r':=by
 unfold Z8z at hl
 split at hl
 ·rename_i e b hs hd
  split at hl
  ·rename_i he
   right
   refine ⟨_,_,hl,fun E w r hem hx=> ?_⟩
   cases hx
   have hrun:=run_bytes_of_string (P:=P) w s d e b hs hd he
   have hlen:(Qt b).length=b.size:=by unfold Qt;rw [List.length_map];rfl
   generalize hcap:grownCap w b.size 0 e=cap at hrun
   have hcap':b.size<=cap:=by rw [<-hcap];exact grownCap_ge _ _ _ _
   generalize hrow:bytesRow b cap=row at hrun
   have hsz:row.size=cap:=by
    rw [<-hrow]
    unfold bytesRow
    simp_all
   have hev1:Evo E h w E h w.drew:=Z2F hem rfl rfl rfl ⟨rfl,Nat.le_succ _⟩
   refine ⟨_,_,E.ext h.next w.heap.size cap,hrun,hev1.trans (WR (w:=w.drew) hev1.emb _ cap _ ?_), ?_⟩
   ·refine .ints _ _ w.heap.size row e (row.size,row.size+1) (by rw [hsz];exact Env.ext_same _ _ _ _) (by show (w.heap.push _)[w.heap.size]? =_;simp) (fun o ho=>by omega) (fun j hj=> ?_)
    grind [bytesRow,Qt]
   ·rw [hlen]
    exact .nslice _ _ _ _ w.heap.size cap cap (Env.ext_same _ _ _ _) hcap' hcap' (by simp [ZO.tot])
  simp_all
 simp_all
def Z8A (P:Program) (op:BinOp) (T:TypeId) (ox oy:Operand) (x y:AV) (K:AV->Prop):Prop:=
 match x,y with
 | .agg cs,.agg cs'=>Z8q P op T (.agg cs) (.agg cs') K
 | x,y=>Z8h P op T ox oy x y K
theorem Zbr {P:Program} {op:BinOp} {T:TypeId} {ox oy:Operand} {x y:AV} {K:AV->Prop} (h:Z8A P op T ox oy x y K):
  ∃v,K v/\∀(E:Env) (w:World) (rx ry:Value),Zk E x rx->Zk E y ry->∃r,(do eqGuard op T ox oy rx ry;binOp op T rx ry).run P w=.ok r w/\Zk E v r:=by
 unfold Z8A at h
 split at h
 ·exact Zbp h
 ·exact Zbl h
def opQ (P:Program) (o:Op) (t:Y2) (h:Z8) (K:AV->Prop):Prop:=
 match o with
 | .move x=>K (aev t x)
 | .assign x=>K (aev t x)
 | .pick c a b=>match aev t c with
  | .bool e=>Z0 e (K (aev t a)) (K (aev t b))
  | _=>False
 | .build T ps=>Z8b P T (Zd0 t ps.toList) K
 | .load T a=>Z9U P h T (aev t a) K
 | .nilCheck x=>Z4u (aev t x) K
 | .binOp op T x y _=>Z8A P op T x y (aev t x) (aev t y) K
 | .unOp op _ x=>unA op (aev t x) K
 | .convert s d x=>Zgx P h s d (aev t x) K
 | .makeInterface T x=>Z6Q P T (aev t x) K
 | .makeFunc (.func f) first cap=>K (.func (.func f) (Z5E t first.toList) (Z5E t cap.toList))
 | .slice T x lo hi mx=>Z88 P h T (aev t x) (lo.map (aev t)) (hi.map (aev t)) (mx.map (aev t)) K
 | .fieldAddr S x f=>Z86 P S (aev t x) f K
 | .field S x f=>Z8k P S (aev t x) f K
 | .indexAddr T x i=>Z87 P h T (aev t x) (aev t i) K
 | .index T x i=>Z8l P T (aev t x) (aev t i) K
 | .extract x i=>Z33 (aev t x) i K
 | .typeAssert x _ asserted ok=>UL P (aev t x) asserted ok K
 | .call ⟨.builtin .len,args,tys⟩=>match args.toList,tys.toList with
  | [x],[T]=>Zjo P h T (aev t x) K
  | _,_=>False
 | .call ⟨.builtin .min,args,_⟩=>Zgz true (Z5E t args.toList) K
 | .call ⟨.builtin .max,args,_⟩=>Zgz false (Z5E t args.toList) K
 | .lookup T m k ok=>Z5Q P h T (aev t m) (aev t k) ok K
 | .sliceToArrayPointer T x=>Z5H P T (aev t x) K
 | _=>False
def worldless:Op->Bool
 | .move _|.assign _|.pick .. |.build .. |.nilCheck _|.binOp .. |.unOp .. |.makeInterface .. |.makeFunc .. |.fieldAddr .. |.indexAddr .. |.field .. |.index .. |.extract .. |.typeAssert .. |.sliceToArrayPointer .. =>true
 | _=>false
def opA (P:Program) (o:Op) (t:Y2) (h:Z8) (K:AV->Z8->Prop):Prop:=
 match o with
 | .alloc e=>Z2Q P h e K
 | .box _ x=>Zjn h (aev t x) K
 | .buildSlice T len ps=>Wq P h T len (Zd0 t ps.toList) K
 | .makeMap _ none=>K (.map (some h.next)) (h.add (.map []))
 | .call ⟨.builtin .append,args,tys⟩=>match args.toList,tys.toList with
  | [s,x],[T,T']=>match Nat.beq T T' with
   | true=>Z5z P h T (aev t s) (aev t x) K
   | false=>Z5B P h T T' (aev t s) (aev t x) K
  | _,_=>False
 | .call ⟨.builtin .copy,args,tys⟩=>match args.toList,tys.toList with
  | [d,s],[T,_]=>ZcW P h T (aev t d) (aev t s) K
  | _,_=>False
 | .convert s d x=>Z8z P h s d (aev t x) K (Zgx P h s d (aev t x) fun v=>K v h)
 | o=>opQ P o t h fun v=>K v h
def ZlB (lt:Bool) (k:IntKind) (a b:Int):AV:=match lt with|true=>.int k (if b<a then b else a)|false=>.int k (if b>a then b else a)
theorem Z6W {lt:Bool} {K:AV->Prop} (h:Zgz lt args K):∃k a b,args=[.int k a,.int k b]/\K (ZlB lt k a b):=by
 unfold Zgz at h
 split at h
 ·split at h
  ·rename_i hk
   have hk:=of_decide_eq_true hk
   subst hk
   cases lt with
   | true=>exact ⟨_,_,_,rfl,h⟩
   | false=>exact ⟨_,_,_,rfl,h⟩
  simp_all
 simp_all
theorem Za4 {E:Env} {k:IntKind} {a b:Int} {rs:List Value} (h:ZH E [.int k a,.int k b] rs):rs=[.int k a,.int k b]:=by
 cases h with
 | cons v c vs cs h1 h2=>cases h2 with
  | cons v c vs cs h3 h4=>cases h1;cases h3;cases h4;rfl
theorem Z8B {P:Program} {o:Oper} {t:Y2} {h:Z8} {K:AV->Prop} (hl:opQ P o.op t h K):
  ∃v,K v/\∀(E:Env) (w:World) (n:Nat) (a:Act),(worldless o.op=false->Emb E h w)->VC E n t a.tmps->∃r,(execOp a.eval o).run P w=.ok (.value r) w/\Zk E v r:=by
 unfold opQ at hl
 split at hl
 ·rename_i x ho
  exact ⟨_,hl,fun E w n a he ht=>⟨_,by simp [execOp,ho],ZA ht x⟩⟩
 ·rename_i x ho
  exact ⟨_,hl,fun E w n a he ht=>⟨_,by simp [execOp,ho],ZA ht x⟩⟩
 ·rename_i c x y ho
  split at hl
  ·rename_i e hc
   cases e with
   | true=>
    refine ⟨_,hl,fun E w n a he ht=>⟨a.eval x, ?_,ZA ht x⟩⟩
    have h1:=ZA ht c
    rw [hc] at h1
    cases hcv:a.eval c<;>rw [hcv] at h1<;>cases h1
    simp [execOp,ho,hcv,asBool]
   | false=>
    refine ⟨_,hl,fun E w n a he ht=>⟨a.eval y, ?_,ZA ht y⟩⟩
    have h1:=ZA ht c
    rw [hc] at h1
    cases hcv:a.eval c<;>rw [hcv] at h1<;>cases h1
    simp [execOp,ho,hcv,asBool]
  simp_all
 ·rename_i T ps ho
  obtain ⟨v,hK,hv⟩:=Zbk hl
  refine ⟨v,hK,fun E w n a he ht=> ?_⟩
  obtain ⟨r,h1,h2⟩:=hv E w _ (UK ht ps.toList)
  refine ⟨r, ?_,h2⟩
  have e:(ps.map fun (x:Nat×Operand)=>(x.1,a.eval x.2))=(ps.toList.map fun (x:Nat×Operand)=>(x.1,a.eval x.2)).toArray:=by grind
  simp_all [execOp]
 ·rename_i T x ho
  obtain ⟨v,hK,hv⟩:=Z6F hl
  refine ⟨v,hK,fun E w n a he ht=> ?_⟩
  obtain ⟨ad,r,e1,h1,h2⟩:=hv E w _ (he (by rw [ho];rfl)) (ZA ht x)
  simp_all [execOp,Instr.loadAt,Instr.sureAddr]
 ·rename_i x ho
  unfold Z4u at hl
  split at hl
  ·rename_i p hx
   refine ⟨_,hl,fun E w n a he ht=> ?_⟩
   have h1:=ZA ht x
   rw [hx] at h1
   refine ⟨a.eval x, ?_,h1⟩
   cases hcv:a.eval x<;>rw [hcv] at h1<;>cases h1
   simp [execOp,ho,hcv]
  ·rename_i cs inn hx
   refine ⟨_,hl,fun E w n a he ht=> ?_⟩
   have h1:=ZA ht x
   rw [hx] at h1
   refine ⟨a.eval x, ?_,h1⟩
   cases hcv:a.eval x<;>rw [hcv] at h1<;>cases h1
   simp [execOp,ho,hcv]
  ·rename_i f b c hx
   refine ⟨_,hl,fun E w n a he ht=> ?_⟩
   have h1:=ZA ht x
   rw [hx] at h1
   refine ⟨a.eval x, ?_,h1⟩
   cases hcv:a.eval x<;>rw [hcv] at h1<;>cases h1
   simp [execOp,ho,hcv]
  ·rename_i y hx
   refine ⟨_,hl,fun E w n a he ht=> ?_⟩
   have h1:=ZA ht x
   rw [hx] at h1
   refine ⟨a.eval x, ?_,h1⟩
   cases hcv:a.eval x<;>rw [hcv] at h1<;>cases h1
   simp [execOp,ho,hcv]
  simp_all
 ·rename_i op T x y yt ho
  obtain ⟨v,hK,hv⟩:=Zbr hl
  refine ⟨v,hK,fun E w n a he ht=> ?_⟩
  obtain ⟨r,h1,h2⟩:=hv E w _ _ (ZA ht x) (ZA ht y)
  exact ⟨r,by simp only [execOp,ho];rw [J7,h1];rfl,h2⟩
 ·rename_i op T x ho
  obtain ⟨v,hK,hv⟩:=Zjq hl P
  refine ⟨v,hK,fun E w n a he ht=> ?_⟩
  obtain ⟨r,h1,h2⟩:=hv E w _ (ZA ht x)
  exact ⟨r,by simp [execOp,ho,h1],h2⟩
 ·rename_i s d x ho
  obtain ⟨v,hK,hv⟩:=Za3 hl
  refine ⟨v,hK,fun E w n a he ht=> ?_⟩
  obtain ⟨r,h1,h2⟩:=hv E w _ (he (by rw [ho];rfl)) (ZA ht x)
  exact ⟨r,by simp [execOp,ho,h1],h2⟩
 ·rename_i T x ho
  unfold Z6Q at hl
  split at hl
  ·simp_all
  ·simp_all
  ·rename_i d hni hu
   refine ⟨_,hl,fun E w n a he ht=>⟨.iface T (a.eval x), ?_,.iface _ _ _ (ZA ht x)⟩⟩
   simp only [execOp,ho,Instr.makeInterface,J7,Ze hu,J4]
   cases d<;>first|exact absurd hu (hni _)|simp
 ·rename_i f first cap ho
  refine ⟨_,hl,fun E w n a he ht=>⟨.func (.func f) (first.map a.eval) (cap.map a.eval),by simp [execOp,ho,Instr.makeFunc], ?_⟩⟩
  rw [show first.map a.eval=(first.toList.map a.eval).toArray from by grind,show cap.map a.eval=(cap.toList.map a.eval).toArray from by grind]
  grind [Zk.func,VQ]
 ·rename_i T x lo hi mx ho
  obtain ⟨v,hK,hv⟩:=Zbi hl
  refine ⟨v,hK,fun E w n a he ht=> ?_⟩
  obtain ⟨r,h1,h2⟩:=hv E w _ _ _ _ (he (by rw [ho];rfl)) (ZA ht x) (Z32 ht lo) (Z32 ht hi) (Z32 ht mx)
  exact ⟨r,by simp [execOp,ho,h1],h2⟩
 ·rename_i S x f ho
  obtain ⟨v,hK,hv⟩:=Zbf hl
  refine ⟨v,hK,fun E w n a he ht=> ?_⟩
  obtain ⟨r,h1,h2⟩:=hv E w _ (ZA ht x)
  exact ⟨r,by simp [execOp,ho,h1],h2⟩
 ·rename_i S x f ho
  obtain ⟨v,hK,hv⟩:=Zbn hl
  refine ⟨v,hK,fun E w n a he ht=> ?_⟩
  obtain ⟨r,h1,h2⟩:=hv E w _ (ZA ht x)
  exact ⟨r,by simp [execOp,ho,h1],h2⟩
 ·rename_i T x i ho
  obtain ⟨v,hK,hv⟩:=Zbg hl
  refine ⟨v,hK,fun E w n a he ht=> ?_⟩
  obtain ⟨r,h1,h2⟩:=hv E w _ _ (ZA ht x) (ZA ht i)
  exact ⟨r,by simp [execOp,ho,h1],h2⟩
 ·rename_i T x i ho
  obtain ⟨v,hK,hv⟩:=Zbo hl
  refine ⟨v,hK,fun E w n a he ht=> ?_⟩
  obtain ⟨r,h1,h2⟩:=hv E w _ _ (ZA ht x) (ZA ht i)
  exact ⟨r,by simp [execOp,ho,h1],h2⟩
 ·rename_i x i ho
  obtain ⟨v,hK,hv⟩:=Z6P hl P
  refine ⟨v,hK,fun E w n a he ht=> ?_⟩
  obtain ⟨r,h1,h2⟩:=hv E w _ (ZA ht x)
  exact ⟨r,by simp [execOp,ho,h1],h2⟩
 ·rename_i x xt asserted ok ho
  obtain ⟨v,hK,hv⟩:=Z34 (xt:=xt) hl
  refine ⟨v,hK,fun E w n a he ht=> ?_⟩
  obtain ⟨r,h1,h2⟩:=hv E w _ (ZA ht x)
  exact ⟨r,by simp [execOp,ho,h1],h2⟩
 ·rename_i args tys ho
  split at hl
  ·rename_i x T hx hT
   obtain ⟨v,hK,hv⟩:=Zgp (ty:=o.type) hl
   refine ⟨v,hK,fun E w n a he ht=> ?_⟩
   obtain ⟨r,h1,h2⟩:=hv E w _ (he (by rw [ho];rfl)) (ZA ht x)
   refine ⟨r, ?_,h2⟩
   have e1:args= #[x]:=by rw [<-Array.toArray_toList (xs:=args),hx]
   have e2:tys= #[T]:=by rw [<-Array.toArray_toList (xs:=tys),hT]
   simp_all [execOp,resolve,invoke,builtin]
  simp_all
 ·rename_i args tys ho
  obtain ⟨k,x,y,hargs,hK⟩:=Z6W hl
  refine ⟨_,hK,fun E w n a he ht=> ?_⟩
  have hr:=VQ ht args.toList
  rw [hargs] at hr
  have hmap:=Za4 hr
  refine ⟨_, ?_,by unfold ZlB;exact .int _ _⟩
  have e1:args.map a.eval= #[.int k x,.int k y]:=by grind
  simp_all [execOp,resolve,invoke,builtin,Builtin.min_,Builtin.min2]
 ·rename_i args tys ho
  obtain ⟨k,x,y,hargs,hK⟩:=Z6W hl
  refine ⟨_,hK,fun E w n a he ht=> ?_⟩
  have hr:=VQ ht args.toList
  rw [hargs] at hr
  have hmap:=Za4 hr
  refine ⟨_, ?_,by exact .int _ _⟩
  simp_all [execOp,resolve,invoke,builtin,Builtin.max_,Builtin.max2]
 ·rename_i T m k ok ho
  obtain ⟨v,hK,hv⟩:=Z8y hl
  refine ⟨v,hK,fun E w n a he ht=> ?_⟩
  obtain ⟨r,h1,h2⟩:=hv E w _ _ (he (by rw [ho];rfl)) (ZA ht m) (ZA ht k)
  exact ⟨r,by simp [execOp,ho,h1],h2⟩
 ·rename_i T x ho
  obtain ⟨v,hK,hv⟩:=Z8p hl
  refine ⟨v,hK,fun E w n a he ht=> ?_⟩
  obtain ⟨r,h1,h2⟩:=hv E w _ (ZA ht x)
  exact ⟨r,by simp [execOp,ho,h1],h2⟩
 simp_all
theorem Zd3 {P:Program} {o:Oper} {t:Y2} {h:Z8} {K:AV->Z8->Prop} (hl:opA P o.op t h K):
  ∃v h',K v h'/\∀(E:Env) (w:World) (n:Nat) (a:Act),Emb E h w->VC E n t a.tmps->
   ∃r w' E',(execOp a.eval o).run P w=.ok (.value r) w'/\Evo E h w E' h' w'/\Zk E' v r:=by
 unfold opA at hl
 split at hl
 ·rename_i e ho
  obtain ⟨v,h',hK,hv⟩:=Zbj hl
  refine ⟨v,h',hK,fun E w n a he ht=> ?_⟩
  obtain ⟨r,w',E',h1,h2,h3⟩:=hv E w (.tuple #[]) he
  exact ⟨r,w',E',by simp [execOp,ho,h1],h2,h3⟩
 ·rename_i e x ho
  obtain ⟨v,h',hK,hv⟩:=Zgo hl P e
  refine ⟨v,h',hK,fun E w n a he ht=> ?_⟩
  obtain ⟨r,w',E',h1,h2,h3⟩:=hv E w _ he (ZA ht x)
  exact ⟨r,w',E',by simp [execOp,ho,h1],h2,h3⟩
 ·rename_i T len ps ho
  obtain ⟨v,h',hK,hv⟩:=Z2W hl
  refine ⟨v,h',hK,fun E w n a he ht=> ?_⟩
  obtain ⟨r,w',E',h1,h2,h3⟩:=hv E w _ he (UK ht ps.toList)
  refine ⟨r,w',E', ?_,h2,h3⟩
  have e:(ps.map fun (x:Nat×Operand)=>(x.1,a.eval x.2))=(ps.toList.map fun (x:Nat×Operand)=>(x.1,a.eval x.2)).toArray:=by grind
  simp_all [execOp]
 ·rename_i T ho
  refine ⟨_,_,hl,fun E w n a he ht=> ?_⟩
  obtain ⟨r,w',E',h1,h2,h3⟩:=Z8o (P:=P) (T:=T) he
  exact ⟨r,w',E',by simp [execOp,ho,h1],h2,h3⟩
 ·rename_i args tys ho
  split at hl
  ·rename_i s x T T' hx hT
   have e1:args= #[s,x]:=by rw [<-Array.toArray_toList (xs:=args),hx]
   have e2:tys= #[T,T']:=by rw [<-Array.toArray_toList (xs:=tys),hT]
   split at hl
   ·rename_i hb
    have hTT:T=T':=J0 hb
    subst hTT
    obtain ⟨v,h',hK,hv⟩:=Z8e (ty:=o.type) hl
    refine ⟨v,h',hK,fun E w n a he ht=> ?_⟩
    obtain ⟨r,w',E',h1,h2,h3⟩:=hv E w _ _ he (ZA ht s) (ZA ht x)
    exact ⟨r,w',E',by simp_all [execOp,resolve,invoke,builtin],h2,h3⟩
   ·obtain ⟨v,h',hK,hv⟩:=Z8f (ty:=o.type) hl
    refine ⟨v,h',hK,fun E w n a he ht=> ?_⟩
    obtain ⟨r,w',E',h1,h2,h3⟩:=hv E w _ _ he (ZA ht s) (ZA ht x)
    exact ⟨r,w',E',by simp_all [execOp,resolve,invoke,builtin],h2,h3⟩
  simp_all
 ·rename_i args tys ho
  split at hl
  ·rename_i d s T T' hx hT
   have e1:args= #[d,s]:=by rw [<-Array.toArray_toList (xs:=args),hx]
   have e2:tys= #[T,T']:=by rw [<-Array.toArray_toList (xs:=tys),hT]
   obtain ⟨v,h',hK,hv⟩:=ZcX (t2:=T') (ty:=o.type) hl
   refine ⟨v,h',hK,fun E w n a he ht=> ?_⟩
   obtain ⟨r,w',E',h1,h2,h3⟩:=hv E w _ _ he (ZA ht d) (ZA ht s)
   exact ⟨r,w',E',by simp_all [execOp,resolve,invoke,builtin],h2,h3⟩
  simp_all
 ·rename_i s d x ho
  rcases Zbq hl with hl|⟨v,h',hK,hv⟩
  ·obtain ⟨v,hK,hv⟩:=Za3 hl
   refine ⟨v,h,hK,fun E w n a he ht=> ?_⟩
   obtain ⟨r,h1,h2⟩:=hv E w _ he (ZA ht x)
   exact ⟨r,w,E,by simp [execOp,ho,h1],.refl he,h2⟩
  ·refine ⟨v,h',hK,fun E w n a he ht=> ?_⟩
   obtain ⟨r,w',E',h1,h2,h3⟩:=hv E w _ he (ZA ht x)
   exact ⟨r,w',E',by simp [execOp,ho,h1],h2,h3⟩
 ·obtain ⟨v,hK,hv⟩:=Z8B hl
  refine ⟨v,h,hK,fun E w n a he ht=> ?_⟩
  obtain ⟨r,q1,q2⟩:=hv E w n a (fun _=>he) ht
  exact ⟨r,w,E,q1,.refl he,q2⟩
inductive UN where
 | call (f:FuncId) (args:List AV)
 | mark (x:Nat)
structure St where
 n:Nat
 t:Y2
 h:Z8
 d:List UN
inductive Ex where
 | normal
 | exit (id:Nat)
 | goto (l:Nat)
 | ret
 | panic (v:AV)
inductive Out where
 | ret (v:AV)
 | panic (v:AV)
abbrev KO:=Out->Z8->Prop
abbrev KE:=Ex->St->Prop
abbrev ZF:=List AV->Z8->(AV->Prop)->Prop
structure Ctx where
 pure:FuncId->Option ZF
 call:FuncId->List AV->Z8->KO->Prop
 round:Nat->List AV->Z8->KO->Prop
 fn:FuncId
 inR:Option Nat
variable {cx:Ctx}
inductive Ug (E:Env):List UN->List Deferred->Prop
 | nil:Ug E [] []
 |call (f:FuncId) (args:List AV) (fn:Fn) (cap rs:Array Value) (ds:List UN) (rd:List Deferred) (hf:fn=.func f) (hl:ZH E args (rs.toList++cap.toList)) (t:Ug E ds rd):
   Ug E (.call f args::ds) (⟨.fn fn cap,rs⟩::rd)
 | mark (x b N:Nat) (ds:List UN) (rd:List Deferred) (h:E.blk x=some (b,N)) (t:Ug E ds rd):Ug E (.mark x::ds) (⟨.collected b, #[]⟩::rd)
theorem Ug.mono {E E':Env} (le:E.le E'):∀{ds:List UN} {rd:List Deferred},Ug E ds rd->Ug E' ds rd
 | _,_,.nil=>.nil
 | _,_,.call f args fn cap rs ds rd hf hl t=>.call f args fn cap rs ds rd hf (hl.mono le) (Ug.mono le t)
 | _,_,.mark x b N ds rd h t=>.mark x b N ds rd (le.blk _ _ h) (Ug.mono le t)
structure VG (E:Env) (s:St) (a:Act) (w:World):Prop where
 emb:Emb E s.h w
 tmps:VC E s.n s.t a.tmps
 defs:Ug E s.d a.defers
inductive Z3c (E:Env):Ex->Exit->Prop
 | normal:Z3c E .normal .normal
 | exit (id:Nat):Z3c E (.exit id) (.exit id)
 | goto (l:Nat):Z3c E (.goto l) (.goto l)
 | ret:Z3c E .ret .ret
 | panic (v:AV) (r:Value) (h:Zk E v r):Z3c E (.panic v) (.panic [{ v:=r,recovered:=false}])
inductive Z0b (E:Env):Out->Ending->Prop
 | ret (v:AV) (r:Value) (h:Zk E v r):Z0b E (.ret v) (.returned r)
 | panic (v:AV) (r:Value) (h:Zk E v r):Z0b E (.panic v) (.panicked [{ v:=r,recovered:=false}])
def Zd (P:Program) (f:FuncId) (args:List AV) (h:Z8) (K:KO):Prop:=
 ∀(E:Env) (w:World) (rs:List Value),Emb E h w->ZH E args rs->
  Calls P f rs.toArray w fun e w'=>∃E' o h',K o h'/\Evo E h w E' h' w'/\Z0b E' o e
def Zd4 (P:Program) (x:Nat) (args:List AV) (h:Z8) (K:KO):Prop:=
 ∀(E:Env) (w:World) (rs:List Value) (b N:Nat),Emb E h w->ZH E args rs->E.blk x=some (b,N)->
  ∃f tmps assign body,(Instr.yield b rs.toArray).run P w=.ok (.round b f tmps assign body) w/\
   RoundIn Fence.wide 0 P b f tmps assign body w fun e w'=>∃E' o h',K o h'/\Evo E h w E' h' w'/\Z0b E' o e
structure Ctx.Ok (P:Program) (cx:Ctx):Prop where
 pure:∀f S args h K,cx.pure f=some S->S args h K->Zd P f args h fun o h'=>∃v,o=.ret v/\h'=h/\K v
 call:∀f args h K,cx.call f args h K->Zd P f args h K
 round:∀x args h K,cx.round x args h K->Zd4 P x args h K
def UB (s:St) (dst:Option Tmp) (v:AV) (K:St->Prop):Prop:=
 match dst with
 | none=>K s
 | some d=>match Nat.blt d s.n with
  | true=>K { s with t:=UF s.t d v}
  | false=>False
theorem Qu {s:St} {dst:Option Tmp} {K:St->Prop} (h:UB s dst v K):
  ∃s',K s'/\s'.h=s.h/\s'.n=s.n/\∀(E:Env) (a:Act) (w:World) (r:Value),VG E s a w->Zk E v r->VG E s' (a.put dst r) w:=by
 unfold UB at h
 split at h
 ·exact ⟨s,h,rfl,rfl,fun E a w r hs hv=>hs⟩
 ·rename_i d
  split at h
  ·rename_i hb
   have hd:d<s.n:=Jh hb
   refine ⟨_,h,rfl,rfl,fun E a w r hs hv=>⟨hs.emb,⟨?_,fun x u hx=> ?_⟩,hs.defs⟩⟩
   ·simp [Act.put,hs.tmps.size]
   ·simp only [Act.put]
    by_cases hxd:d=x
    ·subst hxd
     rw [XG] at hx
     have:d<a.tmps.size:=by rw [hs.tmps.size];exact hd
     simp_all
    ·rw [Xt _ _ _ _ hxd] at hx
     have:=hs.tmps.get x u hx
     simp_all
  simp_all
theorem Zd5 {fn:Func} (h:fn.name= "internal/bytealg.Compare"):Extern.find fn=some Extern.BytealgCompare.compare:=by
 have h1:Extern.allGenericRows.lookup "internal/bytealg.Compare" =none:=by kernel_rfl
 have h2:Extern.allTypedRows.lookup "internal/bytealg.Compare" =none:=by kernel_rfl
 have h3:Extern.allRows.lookup "internal/bytealg.Compare" =some Extern.BytealgCompare.compare:=by kernel_rfl
 simp [Extern.find,h,h1,h2,h3]
theorem Z5R {fn:Func} (h:fn.name= "internal/bytealg.Compare") (ho:fn.origin= ""):Extern.findNext fn=none:=by
 have h1:Extern.allNextRows.lookup "internal/bytealg.Compare" =none:=by kernel_rfl
 have h2:Extern.allNextRows.lookup "" =none:=by kernel_rfl
 simp [Extern.findNext,h,ho,h1,h2]
def Zd6 (cx:Ctx) (P:Program) (f:AV) (args:List AV) (h:Z8) (K:KO):Prop:=
 match f with
 | .func (.func g) first cap=>match P.funcs[g]? with
  | some fn=>match fn.body.isSome&& !(fn.name== "runtime.NumGoroutine") with
   | true=>cx.call g (first++args++cap) h K
   | false=>match fn.body.isNone&&fn.name== "internal/bytealg.Compare" &&fn.origin== "" with
    | true=>Zjs h (first++args++cap) fun v=>K (.ret v) h
    | false=>False
  | none=>False
 | .yield x=>cx.round x args h K
 | _=>False
def Z3d (cx:Ctx) (P:Program) (o:Op) (t:Y2) (h:Z8) (d:List UN) (K:AV->Z8->List UN->Prop) (X:AV->Z8->Prop):Prop:=
 match o with
 | .store T x v=>Z85 P h T (aev t x) (aev t v) fun h'=>K (.tuple []) h' d
 | .insert T m k v=>Z2g P h T (aev t m) (aev t k) (aev t v) fun h'=>K (.tuple []) h' d
 | .mapUpdate T m k v=>Z2g P h T (aev t m) (aev t k) (aev t v) fun h'=>K (.tuple []) h' d
 | .call ⟨.value f,args,_⟩=>Zd6 cx P (aev t f) (Z5E t args.toList) h fun o h'=>match o with
  | .ret v=>K v h' d
  | .panic v=>X v h'
 | .panic x=>match aev t x with
  | .iface T v=>X (.iface T v) h
  | _=>False
 | .defer ⟨.value f,args,_⟩=>match aev t f,cx.inR with
  | .func (.func g) first cap,none=>match P.funcs[g]? with
   | some fn=>match fn.body.isSome&& !(fn.name== "runtime.NumGoroutine") with
    | true=>K (.tuple []) h (.call g (first++Z5E t args.toList++cap)::d)
    | false=>False
   | none=>False
  | _,_=>False
 | o=>opA P o t h fun v h'=>K v h' d
def Z8C (cx:Ctx) (P:Program) (o:Op) (t:Y2):Option (ZF×List AV):=
 match o with
 | .call ⟨.value f,args,_⟩=>match aev t f with
  | .func (.func g) first cap=>match cx.pure g with
   | some S=>match P.funcs[g]? with
    | some fn=>match fn.body.isSome&& !(fn.name== "runtime.NumGoroutine") with
     | true=>some (S,first++Z5E t args.toList++cap)
     | false=>none
    | none=>none
   | none=>none
  | _=>none
 | _=>none
def Z8D (P:Program) (ri:Option Nat):Ctx:=⟨fun _=>none,fun f args h K=>Zd P f args h K,fun _ _ _ _=>False,0,ri⟩
theorem Zbs (P:Program) (ri:Option Nat):(Z8D P ri).Ok P:=⟨fun _ _ _ _ _ h=>by simp [Z8D] at h,fun _ _ _ _ h=>h,fun _ _ _ _ h=>h.elim⟩
theorem Z6X {P:Program} (hcx:cx.Ok P) {o:Op} {t:Y2} {h:Z8} {d:List UN} {S:ZF} {N:AV->Prop} (ri:Option Nat) (hp:Z8C cx P o t=some (S,args)) (hs:S args h N):
  Z3d (Z8D P ri) P o t h d (fun v h' d'=>N v/\h'=h/\d'=d) (fun _ _=>False):=by
 unfold Z8C at hp
 split at hp
 ·split at hp
  ·rename_i g first cap hf
   split at hp
   ·rename_i S' hS
    split at hp
    ·rename_i fn hfn
     split at hp
     ·rename_i hb
      cases hp
      have hc:=hcx.pure g _ _ _ _ hS hs
      simp only [Z3d,Zd6,hf,hfn,hb]
      intro E w rs he hl
      refine (hc E w rs he hl).mono ?_
      grind
     ·cases hp
    ·cases hp
   ·cases hp
  ·cases hp
 ·cases hp
def ZiR (cx:Ctx) (P:Program) (o:Op) (s:St) (K:AV->St->Prop) (X:KE):Prop:=
 match s with
 | ⟨n,t,h,d⟩=>Z3d cx P o t h d (fun v h' d'=>K v ⟨n,t,h',d'⟩) fun v h'=>X (.panic v) ⟨n,t,h',d⟩
def Fr (ro:Option Nat):Fence:={ Fence.wide with round:=ro}
theorem Z3e {n:Nat} {P:Program} {f:FuncId} {args:Array Value} {w:World} {R:Ending->World->Prop} (h:Calls P f args w R):CallsIn (Fr ro) n P f args w R:=(callsIn_wide (n:=n)).2 h
theorem ZH.append {E:Env}:∀{vs us:List AV} {rs ts:List Value},ZH E vs rs->ZH E us ts->ZH E (vs++us) (rs++ts)
 | _,_,_,_,.nil,h=>h
 | _,_,_,_,.cons v c vs cs h t,k=>.cons v c _ _ h (ZH.append t k)
theorem Uh {P:Program} {g:FuncId} {fn:Func} (hf:P.funcs[g]? =some fn) (hb:(fn.body.isSome&& !(fn.name== "runtime.NumGoroutine"))=true) (args:Array Value) (w:World):
  (callFunc g args).run P w=.ok (.enter g args) w:=by
 have h1:(fn.name== "runtime.NumGoroutine")=false:=by simp_all
 have h2:fn.body.isNone=false:=by cases hq:fn.body<;>simp_all
 simp only [callFunc,J7,run_program,J4,hf]
 rw [if_neg (by rw [h1];simp),if_neg (by rw [h2];simp)]
 rfl
theorem Y7 {ρ:Operand->Value} {o:Oper} (h:∀c,o.op≠.defer c):o.semAt ro ρ=execOp ρ o:=Oper.semAt_eq ro ρ o h
theorem Z3f {P:Program} (hcx:cx.Ok P) {o:Oper} {t:Y2} {h:Z8} {d:List UN} {K:AV->Z8->List UN->Prop} {X:AV->Z8->Prop} (hl:Z3d cx P o.op t h d K X)
  {E:Env} {h0:Z8} {w:World} {a:Act} {m:Nat} (he:Emb E h w) (ht:VC E m t a.tmps) (hd:Ug E d a.defers) (hev:Evo E0 h0 w0 E h w) (hro:cx.inR=none->ro=none) {n:Nat}
  {next:Act->World->Prop}
  (hK:∀v h' d' E' ds r w',K v h' d'->Evo E h w E' h' w'->Evo E0 h0 w0 E' h' w'->Ug E' d' ds->Zk E' v r->next (({ a with defers:=ds}:Act).put o.dst r) w')
  (hX:∀v h' E' r w',X v h'->Evo E h w E' h' w'->Evo E0 h0 w0 E' h' w'->Zk E' v r->Q (.panic [{ v:=r,recovered:=false}]) a w'):
  o.wpIn (Fr ro) n P a w next Q:=by
 refine ⟨fun _ _=>trivial, ?_⟩
 unfold Z3d at hl
 split at hl
 ·-- a store
  rename_i T x v ho
  rw [show (Fr ro).round=ro from rfl,Y7 (fun c e=>by rw [ho] at e;cases e)]
  obtain ⟨h',hk,hr⟩:=Zbe hl
  obtain ⟨w',h1,h2⟩:=hr E w _ _ he (ZA ht x) (ZA ht v)
  have:(execOp a.eval o).run P w=.ok .skip w':=by simp [execOp,ho,h1]
  rw [this]
  exact hK _ _ _ E a.defers undef w' hk h2 (hev.trans h2) hd (.tuple [] [] .nil)
 ·-- an entry
  rename_i T m k v ho
  rw [show (Fr ro).round=ro from rfl,Y7 (fun c e=>by rw [ho] at e;cases e)]
  obtain ⟨h',hk,hr⟩:=Z39 hl
  obtain ⟨w',h1,h2⟩:=hr E w _ _ _ he (ZA ht m) (ZA ht k) (ZA ht v)
  have:(execOp a.eval o).run P w=.ok .skip w':=by simp [execOp,ho,h1]
  rw [this]
  exact hK _ _ _ E a.defers undef w' hk h2 (hev.trans h2) hd (.tuple [] [] .nil)
 ·-- an entry
  rename_i T m k v ho
  rw [show (Fr ro).round=ro from rfl,Y7 (fun c e=>by rw [ho] at e;cases e)]
  obtain ⟨h',hk,hr⟩:=Z39 hl
  obtain ⟨w',h1,h2⟩:=hr E w _ _ _ he (ZA ht m) (ZA ht k) (ZA ht v)
  have:(execOp a.eval o).run P w=.ok .skip w':=by simp [execOp,ho,h1]
  rw [this]
  exact hK _ _ _ E a.defers undef w' hk h2 (hev.trans h2) hd (.tuple [] [] .nil)
 ·-- a call
  rename_i f args tys ho
  rw [show (Fr ro).round=ro from rfl,Y7 (fun c e=>by rw [ho] at e;cases e)]
  have hf:=ZA ht f
  have ha:=VQ ht args.toList
  unfold Zd6 at hl
  split at hl
  ·rename_i g first cap hfv
   rw [hfv] at hf
   split at hl
   ·rename_i fn hfn
    split at hl
    ·rename_i hb
     cases hfe:a.eval f<;>rw [hfe] at hf<;>cases hf
     rename_i fs cs hfs hcs
     have hrun:(execOp a.eval o).run P w=.ok (.enter g (fs.toArray++(args.toList.map a.eval).toArray++cs.toArray)) w:=by
      simp only [execOp,ho,resolve,J7,hfe,Deferred.ofValue,Jp,J4,invoke]
      rw [Uh hfn hb]
      simp_all
     rw [hrun]
     refine ⟨fun h=>(by cases h), ?_⟩
     have hcall:=hcx.call _ _ _ _ hl E w (fs++args.toList.map a.eval++cs) he ((hfs.append ha).append hcs)
     have e1:(fs++args.toList.map a.eval++cs).toArray=fs.toArray++(args.toList.map a.eval).toArray++cs.toArray:=by simp
     rw [e1] at hcall
     refine Z3e (hcall.mono ?_)
     rintro e w' ⟨E',out,h',hk,hv,ho'⟩
     cases ho' with
     | ret v r hvr=>exact hK v _ _ E' a.defers r w' hk hv (hev.trans hv) (hd.mono hv.le) hvr
     | panic v r hvr=>exact hX _ _ E' r w' hk hv (hev.trans hv) hvr
    ·split at hl
     ·rename_i hb
      simp only [J3,beq_iff_eq] at hb
      obtain ⟨⟨hb1,hb2⟩,hb3⟩:=hb
      cases hfe:a.eval f<;>rw [hfe] at hf<;>cases hf
      rename_i fs cs hfs hcs
      obtain ⟨v,hK',hv⟩:=Zgy (P:=P) hl
      obtain ⟨r,h1,h2⟩:=hv E w (fs++args.toList.map a.eval++cs) he ((hfs.append ha).append hcs)
      have e1:(fs++args.toList.map a.eval++cs).toArray=fs.toArray++(args.toList.map a.eval).toArray++cs.toArray:=by simp
      have hrun:(execOp a.eval o).run P w=.ok (.value r) w:=by
       simp only [execOp,ho,resolve,J7,hfe,Deferred.ofValue,Jp,J4,invoke]
       have e2:fs.toArray++args.map a.eval++cs.toArray=(fs++args.toList.map a.eval++cs).toArray:=by simp_all
       rw [e2,run_callFunc_extern hfn (by rw [hb2];rfl) hb1 (Z5R hb2 hb3) (Zd5 hb2),h1]
       rfl
      rw [hrun]
      exact hK v _ _ E a.defers r w hK' (.refl he) hev hd h2
     simp_all
   simp_all
  ·rename_i x hfv
   rw [hfv] at hf
   cases hfe:a.eval f<;>rw [hfe] at hf<;>cases hf
   rename_i b N hbx
   obtain ⟨g,tmps,assign,body,hy,hR⟩:=hcx.round _ _ _ _ hl E w (args.toList.map a.eval) b N he ha hbx
   have hrun:(execOp a.eval o).run P w=.ok (.round b g tmps assign body) w:=by
    simp only [execOp,ho,resolve,J7,hfe,Deferred.ofValue,Jp,J4,invoke]
    rw [show #[]++args.map a.eval=(args.toList.map a.eval).toArray from by grind]
    exact hy
   rw [hrun]
   refine ⟨fun h=>(by cases h), ?_⟩
   refine RoundIn.mono (F:=Fence.wide) (n:=n-1) ⟨hR.1,fun c cs hroom=>hR.2 c cs (room_wide _)⟩ ?_
   rintro e w' ⟨E',out,h',hk,hv,ho'⟩
   cases ho' with
   | ret v r hvr=>exact hK v _ _ E' a.defers r w' hk hv (hev.trans hv) (hd.mono hv.le) hvr
   | panic v r hvr=>exact hX _ _ E' r w' hk hv (hev.trans hv) hvr
  simp_all
 ·-- a panic
  rename_i x ho
  rw [show (Fr ro).round=ro from rfl,Y7 (fun c e=>by rw [ho] at e;cases e)]
  split at hl
  ·rename_i T v hx
   have h1:=ZA ht x
   rw [hx] at h1
   cases hxe:a.eval x<;>rw [hxe] at h1<;>cases h1
   rename_i r hr
   have hrun:(execOp a.eval o).run P w=.halt (.panic (.iface T r)) w:=by simp [execOp,ho,Instr.panic,hxe]
   rw [hrun]
   exact hX _ _ E _ w hl (.refl he) hev (.iface _ _ _ hr)
  simp_all
 ·-- a deferred call
  rename_i f args tys ho
  split at hl
  ·rename_i g first cap hfv hin
   split at hl
   ·split at hl
    ·have hr0:=hro hin
     subst hr0
     have hf:=ZA ht f
     have ha:=VQ ht args.toList
     rw [hfv] at hf
     cases hfe:a.eval f<;>rw [hfe] at hf<;>cases hf
     rename_i fs cs hfs hcs
     rw [show (Fr none).round=none from rfl,Oper.semAt_none]
     have hrun:(execOp a.eval o).run P w=.ok (.defer ⟨.fn (.func g) cs.toArray,fs.toArray++args.map a.eval⟩) w:=by
      simp_all [execOp,resolve,Deferred.ofValue]
     rw [hrun]
     refine hK _ _ _ E (_::a.defers) undef w hl (.refl he) hev (.call g _ _ _ _ _ _ rfl ?_ hd) (.tuple [] [] .nil)
     have:(fs.toArray++args.map a.eval).toList++cs.toArray.toList=fs++args.toList.map a.eval++cs:=by simp
     rw [this]
     exact (hfs.append ha).append hcs
    simp_all
   simp_all
  simp_all
 ·have hnd:∀c,o.op≠.defer c:=by
   grind [opA,opQ]
  rw [Y7 hnd]
  obtain ⟨v,h',hk,hr⟩:=Zd3 hl
  obtain ⟨r,w',E',q1,q2,q3⟩:=hr E w m a he ht
  rw [q1]
  exact hK v _ _ E' a.defers r w' hk q2 (hev.trans q2) (hd.mono q2.le) q3
theorem Zd7 {P:Program} (hcx:cx.Ok P) {o:Oper} {s:St} {K:AV->St->Prop} {X:KE} (hl:ZiR cx P o.op s K X)
  {E:Env} {h0:Z8} {w:World} {a:Act} (hs:VG E s a w) (hev:Evo E0 h0 w0 E s.h w) (hro:cx.inR=none->ro=none) {n:Nat}
  {next:Act->World->Prop}
  (hK:∀v s' E' a' r w',K v s'->s'.n=s.n->VG E' s' a' w'->Evo E0 h0 w0 E' s'.h w'->Zk E' v r->next (a'.put o.dst r) w')
  (hX:∀x s' E' e a' w',X x s'->VG E' s' a' w'->Evo E0 h0 w0 E' s'.h w'->Z3c E' x e->Q e a' w'):
  o.wpIn (Fr ro) n P a w next Q:=by
 obtain ⟨m,t,h,d⟩:=s
 have hl':Z3d cx P o.op t h d (fun v h' d'=>K v ⟨m,t,h',d'⟩) fun v h'=>X (.panic v) ⟨m,t,h',d⟩:=hl
 refine Z3f hcx hl' hs.emb hs.tmps hs.defs hev hro ?_ ?_
 ·intro v h' d' E' ds r w' hk hv hv0 hds hvr
  exact hK v ⟨m,t,h',d'⟩ E' { a with defers:=ds} r w' hk rfl ⟨hv.emb,hs.tmps.mono hv.le,hds⟩ hv0 hvr
 ·intro v h' E' r w' hx hv hv0 hvr
  exact hX _ _ E' _ a w' hx ⟨hv.emb,hs.tmps.mono hv.le,hs.defs.mono hv.le⟩ hv0 (.panic v r hvr)
end Go.Tk
end
section
namespace Go.Tk
open IntKind (i64 u8 u32 u64 wrap)
def Z1Q (all:List Oper) (j:Nat):Option Tmp:=match all[j]? with|some o=>o.dst|none=>none
def Z0c (all:List Oper) (g:Option (Nat×Bool)) (s:St) (run skip:St->Prop):Prop:=
 match g with
 | none=>run s
 | some (j,want)=>match Z1Q all j with
  | none=>False
  | some d=>match ZT s.t d with
   | some (.bool b)=>Z0 b
     (match want with|true=>run { s with t:=UF s.t d (.bool true)}|false=>skip { s with t:=UF s.t d (.bool true)})
     (match want with|true=>skip { s with t:=UF s.t d (.bool false)}|false=>run { s with t:=UF s.t d (.bool false)})
   | some (.tuple [])=>skip s
   | _=>False
def Za5 (cx:Ctx) (P:Program) (all:List Oper):List Oper->St->KE->Prop
 | [],s,X=>X .normal s
 | o::r,s,X=>Z0c all o.guard s
   (fun s'=>ZiR cx P o.op s' (fun v s2=>UB s2 o.dst v fun s3=>Za5 cx P all r s3 X) X)
   (fun s'=>UB s' o.dst (.tuple []) fun s3=>Za5 cx P all r s3 X)
theorem Zbt {all:List Oper} {o:Oper} {s:St} {run skip:St->Prop} (h:Z0c all o.guard s run skip) {E:Env} {a:Act} {w:World} (hs:VG E s a w):
  ∃s',s'.h=s.h/\s'.n=s.n/\VG E s' a w/\((Region.wanted o (yielded all.toArray a.tmps)=true/\run s')\/(Region.wanted o (yielded all.toArray a.tmps)=false/\skip s')):=by
 unfold Z0c at h
 split at h
 ·grind [Region.wanted]
 ·rename_i j want hg
  split at h
  ·simp_all
  ·rename_i d hd
   have hdst:(all.toArray[j]?).bind (·.dst)=some d:=by
    unfold Z1Q at hd
    grind
   split at h
   ·rename_i b hb
    have hv:=hs.tmps.get d _ hb
    have hreal:a.tmps[d]? =some (.bool b):=by
     rw [Jt] at hv
     cases hq:a.tmps[d]? with
     | none=>rw [hq] at hv;cases hv
     | some r=>rw [hq] at hv;cases hv;rfl
    have hy:yielded all.toArray a.tmps j=some b:=by
     simp_all [yielded]
    have hset:∀c,b=c->VG E { s with t:=UF s.t d (.bool c)} a w:=fun c hc=>by
     refine ⟨hs.emb,⟨hs.tmps.size,fun x v hx=> ?_⟩,hs.defs⟩
     by_cases hxd:d=x
     ·simp_all [XG]
     ·rw [Xt _ _ _ _ hxd] at hx
      exact hs.tmps.get x v hx
    cases b with
    | true=>
     refine ⟨{ s with t:=UF s.t d (.bool true)},rfl,rfl,hset true rfl, ?_⟩
     cases want with
     | true=>exact .inl ⟨by simp [Region.wanted,hg,hy],h⟩
     | false=>exact .inr ⟨by simp [Region.wanted,hg,hy],h⟩
    | false=>
     refine ⟨{ s with t:=UF s.t d (.bool false)},rfl,rfl,hset false rfl, ?_⟩
     cases want with
     | true=>exact .inr ⟨by simp [Region.wanted,hg,hy],h⟩
     | false=>exact .inl ⟨by simp [Region.wanted,hg,hy],h⟩
   ·rename_i hb
    have hv:=hs.tmps.get d _ hb
    have hy:yielded all.toArray a.tmps j=none:=by
     unfold yielded
     rw [hdst]
     rw [Jt] at hv
     cases hq:a.tmps[d]? with
     | none=>simp [hq]
     | some r=>
      rw [hq] at hv
      cases hv with
      | tuple vs rs hl=>simp [hq]
    grind [Region.wanted]
   simp_all
def Ui (E0:Env) (h0:Z8) (w0:World) (X:KE):Exit->Act->World->Prop:=fun e a w=>∃E' x s',X x s'/\Evo E0 h0 w0 E' s'.h w/\VG E' s' a w/\Z3c E' x e
theorem Zd8 {cx:Ctx} {P:Program} (hcx:cx.Ok P) {all:List Oper} {X:KE} {E0:Env} {h0:Z8} {w0:World} {ro:Option Nat} (hro:cx.inR=none->ro=none) {n:Nat}:
  ∀(r:List Oper) (k:Nat),all.drop k=r->∀(s:St) (E:Env) (a:Act) (w:World),Za5 cx P all r s X->VG E s a w->Evo E0 h0 w0 E s.h w->
   wpOpsIn (Fr ro) n P all.toArray (Ui E0 h0 w0 X) (List.range' k r.length) a w:=by
 intro r
 induction r with
 | nil=>
  intro k _ s E a w h hs hev
  exact ⟨E,.normal,s,h,hev,hs,.normal⟩
 | cons o r ih=>
  intro k hk s E a w h hs hev
  have hko:all[k]? =some o:=by
   have:=congrArg (fun l=>l[0]?) hk
   grind
  have hkr:all.drop (k+1)=r:=by
   have:=congrArg (List.drop 1) hk
   grind [Km]
  simp only [Jl,List.range'_succ,wpOpsIn,List.getElem?_toArray,hko]
  obtain ⟨s',e1,e2,hs',hw⟩:=Zbt h hs
  rcases hw with ⟨hw,hrun⟩|⟨hw,hskip⟩
  ·rw [if_pos hw]
   refine Zd7 hcx hrun hs' (e1▸hev) hro ?_ ?_
   ·grind [Qu]
   ·intro x s2 E' e a' w' hX hs2 hev2 hx
    exact ⟨E',x,s2,hX,hev2,hs2,hx⟩
  ·rw [if_neg (by rw [hw];simp)]
   refine ⟨fun _ _=>trivial, ?_⟩
   obtain ⟨s3,hK3,f1,f2,f3⟩:=Qu hskip
   exact ih (k+1) hkr s3 E _ w hK3 (f3 E a w undef hs' (.tuple [] [] .nil)) (by rw [f1,e1];exact hev)
def Z6Y (id:Nat):Ex->Ex
 | .exit i=>match Nat.beq i id with|true=>.normal|false=>.exit i
 | e=>e
def Za6 (f:St->Prop) (X:KE):KE:=fun e s=>match e with|.normal=>f s|.exit i=>X (.exit i) s|.goto l=>X (.goto l) s|.ret=>X .ret s|.panic v=>X (.panic v) s
def Zd9 (body:St->KE->Prop):Nat->St->KE->Prop
 | 0,_,_=>False
 | m+1,s,X=>body s (Za6 (fun s'=>Zd9 body m s' X) X)
abbrev Zda:=Nat->Option (St->KE->Prop)
def Z5S:Operand->Nat
 | .tmp n=>100000+n
 | _=>99999
def Zdb (summ:Zda) (c:Operand):Option (St->KE->Prop):=summ (Z5S c)
mutual
def W2 (cx:Ctx) (P:Program) (summ:Zda) (fuel:Nat) (evalD:List Oper->St->KE->Prop) (evalF:Operand->Array Tmp->Code->Code->St->KE->Prop):Code->St->KE->Prop
 | .skip,s,X=>X .normal s
 | .region _ ops draw,s,X=>match draw with
  | false=>Za5 cx P ops.toList ops.toList s X
  | true=>evalD ops.toList s X
 | .seq a b,s,X=>W2 cx P summ fuel evalD evalF a s (Za6 (fun s'=>W2 cx P summ fuel evalD evalF b s' X) X)
 | .cond c x y,s,X=>match Zdb summ c with
  | some S=>S s X
  | none=>match aev s.t c with
   | .bool b=>Z0 b (W2 cx P summ fuel evalD evalF x s X) (W2 cx P summ fuel evalD evalF y s X)
   | _=>False
 | .block id c,s,X=>match summ id with
  | some S=>S s fun e s'=>X (Z6Y id e) s'
  | none=>W2 cx P summ fuel evalD evalF c s fun e s'=>X (Z6Y id e) s'
 | .loop c,s,X=>Zd9 (fun s' X'=>W2 cx P summ fuel evalD evalF c s' X') fuel s X
 | .rangeFunc g ps assign body,s,X=>evalF g ps assign body s X
 | .exit id,s,X=>X (.exit id) s
 | .scope c,s,X=>W2 cx P summ fuel evalD evalF c s fun e s'=>match e with
  | .goto l=>Wt cx P summ fuel evalD evalF l c s' fun e2 s2=>match e2 with
   | .goto _=>False
   | .normal=>X .normal s2
   | .exit i=>X (.exit i) s2
   | .ret=>X .ret s2
   | .panic v=>X (.panic v) s2
  | .normal=>X .normal s'
  | .exit i=>X (.exit i) s'
  | .ret=>X .ret s'
  | .panic v=>X (.panic v) s'
 | .label _,s,X=>X .normal s
 | .goto l,s,X=>X (.goto l) s
 | .ret,s,X=>X .ret s
 | .refuse _,_,_=>False
def Wt (cx:Ctx) (P:Program) (summ:Zda) (fuel:Nat) (evalD:List Oper->St->KE->Prop) (evalF:Operand->Array Tmp->Code->Code->St->KE->Prop) (l:Nat):Code->St->KE->Prop
 | .seq a b,s,X=>match findLabel a l with
  | some _=>Wt cx P summ fuel evalD evalF l a s (Za6 (fun s'=>W2 cx P summ fuel evalD evalF b s' X) X)
  | none=>Wt cx P summ fuel evalD evalF l b s X
 | .label l',s,X=>match l'==l with
  | true=>X .normal s
  | false=>False
 | _,_,_=>False
end
def YH (P:Program) (k:Nat) (ro:Option Nat) (c:Code) (s:St) (X:KE):Prop:=
 ∀(E0:Env) (h0:Z8) (w0:World) (E:Env) (a:Act) (w:World) (n:Nat),(∀x,k<=x->E0.blk x=none)->VG E s a w->Evo E0 h0 w0 E s.h w->c.wpIn (Fr ro) n P (Ui E0 h0 w0 X) a w
def ZE:Code->List (Nat×Code)
 | .seq a b=>ZE a++ZE b
 | .cond o x y=>(Z5S o,.cond o x y)::(ZE x++ZE y)
 | .block id c=>(id,c)::ZE c
 | .loop c=>ZE c
 | .scope c=>ZE c
 | _=>[]
theorem Ui.mono {E0:Env} {h0:Z8} {w0:World} {X Y:KE} {e:Exit} {a:Act} {w:World} (h:Ui E0 h0 w0 X e a w) (hxy:∀x s,X x s->Y x s):Ui E0 h0 w0 Y e a w:=
 let ⟨E',x,s',h1,h2⟩:=h;⟨E',x,s',hxy _ _ h1,h2⟩
theorem Z1j {E0:Env} {h0:Z8} {w0:World} {f:St->Prop} {X:KE} {e:Exit} {a:Act} {w:World} (h:Ui E0 h0 w0 (Za6 f X) e a w):
  (e=.normal/\∃E' s',f s'/\Evo E0 h0 w0 E' s'.h w/\VG E' s' a w)\/(e≠.normal/\Ui E0 h0 w0 X e a w):=by
 obtain ⟨E',x,s',hx,hev,hs,he⟩:=h
 cases he with
 | normal=>exact .inl ⟨rfl,E',s',hx,hev,hs⟩
 | exit id=>exact .inr ⟨by simp,E',_,s',hx,hev,hs,.exit id⟩
 | goto l=>exact .inr ⟨by simp,E',_,s',hx,hev,hs,.goto l⟩
 | ret=>exact .inr ⟨by simp,E',_,s',hx,hev,hs,.ret⟩
 | panic v r h=>exact .inr ⟨by simp,E',_,s',hx,hev,hs,.panic v r h⟩
theorem Z6Z {P:Program} {k:Nat} {ro:Option Nat} {c:Code} {body:St->KE->Prop} (hb:∀s X,body s X->YH P k ro c s X) {X:KE} {E0:Env} {h0:Z8} {w0:World} {n:Nat} (hk:∀x,k<=x->E0.blk x=none):
  ∀(m:Nat) (s:St) (E:Env) (a:Act) (w:World),Zd9 body m s X->VG E s a w->Evo E0 h0 w0 E s.h w->Code.roundsIn (Fr ro) n P c (Ui E0 h0 w0 X) m a w
 | 0,_,_,_,_,h,_,_=>h.elim
 | m+1,s,E,a,w,h,hs,hev=>by
  refine wpIn_mono (hb s _ h E0 h0 w0 E a w n hk hs hev) ?_
  intro e a' w' hp
  rcases Z1j hp with ⟨rfl,E',s',hf,hev',hs'⟩|⟨hne,hp⟩
  ·exact Z6Z hb hk m s' E' a' w' hf hs' hev'
  ·cases e<;>first|exact absurd rfl hne|exact hp
section
variable {P:Program} {b:Frame} {a:Act} {k:List Item} {cs:List Frame} {w:World}
theorem Z1R {c:Code}:step P (lone (b.atR a (.code (.scope c)::k)) cs w)=.next (lone (b.atR a (.code c::.inScope c::k)) cs w):=
 step_lone_go (by simp [stepG,stepG.exec,Frame.atR])
theorem Z4e {c:Code}:step P (lone (b.atR a (.inScope c::k)) cs w)=.next (lone (b.atR a k) cs w):=
 step_lone_go (by simp [stepG,stepG.exec,Frame.atR])
end
theorem QU {F:Fence} {n:Nat} {P:Program} {c:Code} {b:Frame} {k:List Item} {cs:List Frame} {m:Machine} {e:Exit} {a:Act} {w:World} (hb:F.fn b.fn) (hr:F.room (cs.length+1+n)) (he:∀l,e≠.goto l)
  (h:ArrivesIn (Machine.fenced P F) P m b (.inScope c::k) cs e a w):ArrivesIn (Machine.fenced P F) P m b k cs e a w:=by
 cases e with
 | normal=>exact StepsIn.trans h (.one (fenced_calm hb hr rfl) Z4e)
 | exit id=>exact ⟨fun k' hk=>h.1 k' (by simpa [exitTo] using hk),fun hr hk=>h.2 hr (by simpa [exitTo] using hk)⟩
 | goto l=>simp_all
 | ret=>exact h
 | panic ch=>exact h
 | outgrown=>exact h
theorem Z26 {F:Fence} {n:Nat} {P:Program} {Q:Exit->Act->World->Prop} {a:Act} {w:World} {c:Code}
  (first:c.wpIn F n P (fun e a' w'=>(∃l rest,e=.goto l/\findLabel c l=some rest/\rest.wpIn F n P (fun e2 a2 w2=>(∀l2,e2≠.goto l2)/\Q e2 a2 w2) a' w')\/((∀l2,e≠.goto l2)/\Q e a' w')) a w):(Code.scope c).wpIn F n P Q a w:=by
 intro b k cs hro hb hr
 have h0:(lone (b.atR a (.code (.scope c)::k)) cs w).fenced P F:=fenced_calm hb hr rfl
 obtain ⟨e,a₁,w₁,hq,harr⟩:=first b (.inScope c::k) cs hro hb hr
 rcases hq with ⟨l,rest,rfl,hf,hrest⟩|⟨hne,hq⟩
 ·have hg:gotoIn l (.inScope c::k)=some (.code rest::.inScope c::k):=by simp [gotoIn,hf]
  obtain ⟨e2,a2,w2,⟨hne2,hq2⟩,harr2⟩:=hrest b (.inScope c::k) cs hro hb hr
  exact ⟨e2,a2,w2,hq2,.of_steps (.head h0 Z1R (harr.1 _ hg)) (QU hb hr hne2 harr2)⟩
 ·exact ⟨e,a₁,w₁,hq,.of_steps (.one h0 Z1R) (QU hb hr hne harr)⟩
theorem Z70 {cx:Ctx} {P:Program} {k:Nat} (hcx:cx.Ok P) {summ:Zda} {fuel:Nat} {evalD:List Oper->St->KE->Prop} {evalF:Operand->Array Tmp->Code->Code->St->KE->Prop} {ro:Option Nat} (hro:cx.inR=none->ro=none)
  (hD:∀id ops s X,evalD ops.toList s X->YH P k ro (.region id ops true) s X) (hFn:∀g ps assign body s X,evalF g ps assign body s X->YH P k ro (.rangeFunc g ps assign body) s X)
  (blocks:List (Nat×Code)) (hS:∀id S c,summ id=some S->(id,c)∈blocks->∀s X,S s X->YH P k ro c s X):
  ∀(c:Code),(∀b,b∈ZE c->b∈blocks)->(∀(s:St) (X:KE),W2 cx P summ fuel evalD evalF c s X->YH P k ro c s X)/\
   ∀l (s:St) (X:KE),Wt cx P summ fuel evalD evalF l c s X->∃rest,findLabel c l=some rest/\YH P k ro rest s X:=by
 intro c
 induction c with
 | skip=>
  refine fun hb0=>⟨?_,fun l s X h=>absurd h (by simp [Wt])⟩
  revert hb0
  intro _ s X h E0 h0 w0 E a w n hk hs hev;exact wpIn_skip ⟨E,.normal,s,h,hev,hs,.normal⟩
 | region id ops draw=>
  refine fun hb0=>⟨?_,fun l s X h=>absurd h (by simp [Wt])⟩
  revert hb0
  intro _ s X h
  cases draw with
  | false=>
   intro E0 h0 w0 E a w n hk hs hev
   have:=Zd8 (n:=n) hcx hro ops.toList 0 rfl s E a w (by simpa [W2] using h) hs hev
   simp_all [wpIn_region,List.range_eq_range']
  | true=>grind [W2]
 | seq x y ihx ihy=>
  refine fun hb0=>⟨?_,fun l s X h=> ?_⟩
  rotate_left
  ·simp only [Wt] at h
   split at h
   ·rename_i r0 hr0
    obtain ⟨rest,hf,hc⟩:=(ihx (fun b hm=>hb0 b (by simp [ZE,hm]))).2 l s _ h
    refine ⟨.seq rest y,by simp [findLabel,hf],fun E0 h0 w0 E a w n hk hs hev=>wpIn_seq (wpIn_mono (hc E0 h0 w0 E a w n hk hs hev) ?_)⟩
    intro e a' w' hp
    rcases Z1j hp with ⟨rfl,E',s',hf,hev',hs'⟩|⟨hne,hp⟩
    ·exact (ihy (fun b hm=>hb0 b (by simp [ZE,hm]))).1 s' X hf E0 h0 w0 E' a' w' n hk hs' hev'
    ·cases e<;>first|exact absurd rfl hne|exact hp
   simp_all [ZE,findLabel]
  revert hb0
  intro hb s X h E0 h0 w0 E a w n hk hs hev
  refine wpIn_seq (wpIn_mono ((ihx (fun b hm=>hb b (by simp [ZE,hm]))).1 s _ (by simpa [W2] using h) E0 h0 w0 E a w n hk hs hev) ?_)
  intro e a' w' hp
  rcases Z1j hp with ⟨rfl,E',s',hf,hev',hs'⟩|⟨hne,hp⟩
  ·exact (ihy (fun b hm=>hb b (by simp [ZE,hm]))).1 s' X hf E0 h0 w0 E' a' w' n hk hs' hev'
  ·cases e<;>first|exact absurd rfl hne|exact hp
 | cond c x y ihx ihy=>
  refine fun hb0=>⟨?_,fun l s X h=>absurd h (by simp [Wt])⟩
  revert hb0
  intro hb s X h
  simp only [W2] at h
  split at h
  ·rename_i S hS'
   exact hS (Z5S c) S _ hS' (hb _ (by simp [ZE])) s _ h
  intro E0 h0 w0 E a w n hk hs hev
  split at h
  ·rename_i b hc
   have hv:=ZA hs.tmps c
   rw [hc] at hv
   cases hcv:a.eval c<;>rw [hcv] at hv<;>cases hv
   refine wpIn_cond hcv ?_
   cases b with
   | true=>exact (ihx (fun b hm=>hb b (by simp [ZE,hm]))).1 s X h E0 h0 w0 E a w n hk hs hev
   | false=>exact (ihy (fun b hm=>hb b (by simp [ZE,hm]))).1 s X h E0 h0 w0 E a w n hk hs hev
  simp_all
 | block id c ih=>
  refine fun hb0=>⟨?_,fun l s X h=>absurd h (by simp [Wt])⟩
  revert hb0
  intro hb s X h E0 h0 w0 E a w n hk hs hev
  have key:YH P k ro c s (fun e s'=>X (Z6Y id e) s'):=by
   grind [W2,ZE]
  refine wpIn_block (wpIn_mono (key E0 h0 w0 E a w n hk hs hev) ?_)
  rintro e a' w' ⟨E',x,s',hx,hev',hs',he⟩
  cases he with
  | normal=>exact ⟨E',_,s',hx,hev',hs',.normal⟩
  | exit i=>
   simp only [Exit.inBlock]
   by_cases hi:i=id
   ·subst hi
    rw [if_pos rfl]
    simp only [Z6Y,Jj] at hx
    exact ⟨E',_,s',hx,hev',hs',.normal⟩
   ·rw [if_neg hi]
    simp only [Z6Y,ZD hi] at hx
    exact ⟨E',_,s',hx,hev',hs',.exit i⟩
  | goto l=>exact ⟨E',_,s',hx,hev',hs',.goto l⟩
  | ret=>exact ⟨E',_,s',hx,hev',hs',.ret⟩
  | panic v r h=>exact ⟨E',_,s',hx,hev',hs',.panic v r h⟩
 | loop c ih=>
  refine fun hb0=>⟨?_,fun l s X h=>absurd h (by simp [Wt])⟩
  revert hb0
  intro hb s X h E0 h0 w0 E a w n hk hs hev
  exact wpIn_loop_rounds fuel (Z6Z (k:=k) (fun s' X' hq=>(ih (fun b hm=>hb b (by simpa [ZE] using hm))).1 s' X' hq) hk fuel s E a w (by simpa [W2] using h) hs hev)
 | rangeFunc g ps assign body _ _=>
  simp_all [Wt,W2]
 | exit id=>
  refine fun hb0=>⟨?_,fun l s X h=>absurd h (by simp [Wt])⟩
  revert hb0
  intro _ s X h E0 h0 w0 E a w n hk hs hev;exact wpIn_exit ⟨E,.exit id,s,h,hev,hs,.exit id⟩
 | scope c ih=>
  refine fun hb0=>⟨?_,fun l s X h=>absurd h (by simp [Wt])⟩
  revert hb0
  intro hb s X h E0 h0 w0 E a w n hk hs hev
  have ihc:=ih (fun b hm=>hb b (by simpa [ZE] using hm))
  refine Z26 (wpIn_mono (ihc.1 s _ h E0 h0 w0 E a w n hk hs hev) ?_)
  rintro e a' w' ⟨E',x,s',hx,hev',hs',he⟩
  cases he with
  | goto l=>
   obtain ⟨rest,hf,hc⟩:=ihc.2 l s' _ hx
   refine .inl ⟨l,rest,rfl,hf,wpIn_mono (hc E0 h0 w0 E' a' w' n hk hs' hev') ?_⟩
   rintro e2 a2 w2 ⟨E2,x2,s2,hx2,hev2,hs2,he2⟩
   cases he2 with
   | goto l2=>simp_all
   | normal=>exact ⟨by simp,E2,_,s2,hx2,hev2,hs2,.normal⟩
   | exit id=>exact ⟨by simp,E2,_,s2,hx2,hev2,hs2,.exit id⟩
   | ret=>exact ⟨by simp,E2,_,s2,hx2,hev2,hs2,.ret⟩
   | panic v r h=>exact ⟨by simp,E2,_,s2,hx2,hev2,hs2,.panic v r h⟩
  | normal=>exact .inr ⟨by simp,E',_,s',hx,hev',hs',.normal⟩
  | exit id=>exact .inr ⟨by simp,E',_,s',hx,hev',hs',.exit id⟩
  | ret=>exact .inr ⟨by simp,E',_,s',hx,hev',hs',.ret⟩
  | panic v r h=>exact .inr ⟨by simp,E',_,s',hx,hev',hs',.panic v r h⟩
 | label l0=>
  refine fun hb0=>⟨?_,fun l s X h=> ?_⟩
  rotate_left
  ·simp only [Wt] at h
   split at h
   ·rename_i hl
    exact ⟨.skip,by simp [findLabel,hl],fun E0 h0 w0 E a w n hk hs hev=>wpIn_skip ⟨E,.normal,s,h,hev,hs,.normal⟩⟩
   simp_all
  revert hb0
  intro _ s X h E0 h0 w0 E a w n hk hs hev;exact wpIn_label ⟨E,.normal,s,h,hev,hs,.normal⟩
 | goto l=>
  refine fun hb0=>⟨?_,fun l s X h=>absurd h (by simp [Wt])⟩
  revert hb0
  intro _ s X h E0 h0 w0 E a w n hk hs hev;exact wpIn_goto ⟨E,.goto l,s,h,hev,hs,.goto l⟩
 | ret=>
  refine fun hb0=>⟨?_,fun l s X h=>absurd h (by simp [Wt])⟩
  revert hb0
  intro _ s X h E0 h0 w0 E a w n hk hs hev;exact wpIn_ret ⟨E,.ret,s,h,hev,hs,.ret⟩
 | refuse why=>
  simp_all [Wt,W2]
end Go.Tk
end
section
namespace Go.Tk
open IntKind (i64 u8 u32 u64 wrap)
variable {args:List AV} {rs:List Value} {u:FrameMode} {E0:Env} {w0:World} {cx:Ctx} {ro:Option Nat} {X:KE} {t':Y2} {v:AV}
def Z1S:Nat->List AV->Y2
 | _,[]=>[]
 | k,v::r=>(k,v)::Z1S (k+1) r
theorem Z4y {E:Env}:∀(args:List AV) (rs:List Value) (k:Nat) (pre post:List Value),ZH E args rs->pre.length=k->∀x v,ZT (Z1S k args) x=some v->Zk E v ((pre++rs++post).toArray.getD x undef)
 | [],_,_,_,_,_,_,x,v,h=>by simp [Z1S,ZT] at h
 |u::r,_,k,pre,post,.cons _ c _ cs hv ht,hk,x,v,h=>by
  simp only [Z1S,ZT] at h
  split at h
  ·simp_all
  ·have:=Z4y r cs (k+1) (pre++[c]) post ht (by simp [hk]) x v h
   simp_all
theorem Z4z {E:Env} {N:Nat} (h:ZH E args rs) (hn:args.length<=N):VC E N (Z1S 0 args) (rs.toArray++Array.replicate (N-rs.toArray.size) undef):=by
 have hl:=h.length
 refine ⟨by simp;omega,fun x v hx=> ?_⟩
 have:=Z4y args rs 0 [] (List.replicate (N-rs.length) undef) h rfl x v hx
 grind [Array.replicate]
def Zbu (P:Program) (s:St):List ResultVar->(List AV->Prop)->Prop
 | [],K=>K []
 | .tmp t::r,K=>match ZT s.t t with
  | some v=>Zbu P s r fun vs=>K (v::vs)
  | none=>False
 | .cell a T::r,K=>match ZT s.t a with
  | some p=>Z9U P s.h T p fun v=>Zbu P s r fun vs=>K (v::vs)
  | none=>False
def Zdc:List AV->AV
 | [v]=>v
 | vs=>.tuple vs
def ZlC (P:Program) (fn:Func) (s:St) (K:AV->Prop):Prop:=Zbu P s fn.results.toList fun vs=>K (Zdc vs)
def Zdd (tm:Array Value):ResultVar->Sem Value
 | .tmp t=>pure (tm.getD t undef)
 | .cell a t=>do loadVar t (<-asAddr (tm.getD a undef))
theorem Z5T {P:Program} {s:St}:∀(l:List ResultVar) (K:List AV->Prop),Zbu P s l K->∃vs,K vs/\∀(E:Env) (w:World) (tm:Array Value),Emb E s.h w->VC E s.n s.t tm->
  ∃rs,ZH E vs rs/\(l.mapM (Zdd tm)).run P w=.ok rs w
 | [],K,h=>⟨[],h,fun E w tm he ht=>⟨[],.nil,by simp⟩⟩
 | .tmp t::r,K,h=>by
  simp only [Zbu] at h
  split at h
  ·rename_i v hv
   obtain ⟨vs,hK,hr⟩:=Z5T r _ h
   refine ⟨v::vs,hK,fun E w tm he ht=> ?_⟩
   obtain ⟨rs,h1,h2⟩:=hr E w tm he ht
   exact ⟨_::rs,.cons _ _ _ _ (ht.get t v hv) h1,by simp only [List.mapM_cons,J7,Zdd,Jp,J4,h2]⟩
  ·exact h.elim
 | .cell a T::r,K,h=>by
  simp only [Zbu] at h
  split at h
  ·rename_i p hp
   obtain ⟨v,h,hv⟩:=Z6F h
   obtain ⟨vs,hK,hr⟩:=Z5T r _ h
   refine ⟨v::vs,hK,fun E w tm he ht=> ?_⟩
   obtain ⟨ad,rv,e1,e2,e3⟩:=hv E w _ he (ht.get a p hp)
   obtain ⟨rs,h1,h2⟩:=hr E w tm he ht
   refine ⟨rv::rs,.cons _ _ _ _ e3 h1, ?_⟩
   have e4:(Zdd tm (.cell a T)).run P w=.ok rv w:=by simp only [Zdd,J7,e1,asAddr,Jp,J4,e2]
   simp only [List.mapM_cons,J7,e4,Jp,J4,h2]
  ·exact h.elim
theorem ZgA {P:Program} {fn:Func} {s:St} {K:AV->Prop} (h:ZlC P fn s K):∃v,K v/\∀(E:Env) (w:World) (tm:Array Value),Emb E s.h w->VC E s.n s.t tm->
  ∃r,(results fn tm).run P w=.ok r w/\Zk E v r:=by
 obtain ⟨vs,hK,hr⟩:=Z5T _ _ h
 refine ⟨_,hK,fun E w tm he ht=> ?_⟩
 obtain ⟨rs,h1,h2⟩:=hr E w tm he ht
 refine ⟨if h:rs.toArray.size=1 then rs.toArray[0] else .tuple rs.toArray, ?_, ?_⟩
 ·have e:results fn tm=(do let vs<-fn.results.mapM (Zdd tm);pure (if h:vs.size=1 then vs[0] else .tuple vs)):=by
   congr 1
  simp_all [Array.mapM_eq_mapM_toList]
 ·cases h1 with
  | nil=>exact .tuple [] [] .nil
  | cons v c vs cs hv ht=>
   cases ht with
   | nil=>simpa [Zdc] using hv
   | cons v2 c2 vs2 cs2 hv2 ht2=>
    have:=Zk.tuple _ _ (.cons _ _ _ _ hv (.cons _ _ _ _ hv2 ht2))
    simpa [Zdc] using this
inductive PM where
 | none
 | pan (v:AV)
 | rcv
inductive Vm (E:Env):PM->FrameMode->Prop
 | none:Vm E .none .returning
 | pan (v:AV) (r:Value) (h:Zk E v r):Vm E (.pan v) (.panicking [{ v:=r,recovered:=false}])
 | rcv (r:Value):Vm E .rcv (.panicking [{ v:=r,recovered:=true}])
theorem Vm.mono {E E':Env} (le:E.le E') {m:PM} (h:Vm E m u):Vm E' m u:=by
 cases h with
 | none=>exact .none
 | pan v r h=>exact .pan v r (h.mono le)
 | rcv r=>exact .rcv r
def Z1k (P:Program):List Oper->PM->St->(PM->St->Prop)->Prop
 | [],m,s,X=>X m s
 | o::r,m,s,X=>match o.guard with
  | some _=>False
  | none=>match o.op with
   | .call ⟨.builtin .recover,_,_⟩=>match m with
    | .pan v=>UB s o.dst v fun s'=>Z1k P r .rcv s' X
    | m=>UB s o.dst .nilIface fun s'=>Z1k P r m s' X
   | op=>opA P op s.t s.h fun v h'=>UB { s with h:=h'} o.dst v fun s'=>Z1k P r m s' X
theorem Zbv {P:Program} {X:PM->St->Prop} {h0:Z8} {all:List Oper} {c₀:Frame} {cs:List Frame} {n:Nat}:
  ∀(r:List Oper) (k:Nat),all.drop k=r->∀(m:PM) (u:FrameMode) (s:St) (E:Env) (a:Act) (w:World),Z1k P r m s X->VG E s a w->Evo E0 h0 w0 E s.h w->Vm E m u->
   wpOpsSIn (Fr none) n P all.toArray (fun e a' cs' w'=>e=.normal/\∃E' m' u' s',X m' s'/\Evo E0 h0 w0 E' s'.h w'/\VG E' s' a' w'/\Vm E' m' u'/\cs'={ c₀ with mode:=u'}::cs)
    (List.range' k r.length) a ({ c₀ with mode:=u}::cs) w:=by
 intro r
 induction r with
 | nil=>intro k _ m u s E a w h hs hev hm;exact ⟨rfl,E,m,u,s,h,hev,hs,hm,rfl⟩
 | cons o r ih=>
  intro k hk m u s E a w h hs hev hm
  have hko:all[k]? =some o:=by
   have:=congrArg (fun l=>l[0]?) hk
   grind
  have hkr:all.drop (k+1)=r:=by
   have:=congrArg (List.drop 1) hk
   grind [Km]
  simp only [Jl,List.range'_succ,wpOpsSIn,List.getElem?_toArray,hko]
  refine ⟨fun _ _=>trivial, ?_⟩
  simp only [Z1k] at h
  split at h
  ·simp_all
  ·rename_i hg
   rw [if_pos (by simp [Region.wanted,hg])]
   split at h
   ·rename_i args tys ho
    have hrun:(execOp a.eval o).run P w=.ok .recover w:=by simp [execOp,ho,resolve,invoke,builtin]
    rw [hrun]
    cases hm with
    | pan v rv hv=>
     obtain ⟨s3,hK3,f1,f2,f3⟩:=Qu h
     exact ih (k+1) hkr .rcv _ s3 E _ w hK3 (f3 E a w rv hs hv) (f1▸hev) (.rcv rv)
    | none=>
     obtain ⟨s3,hK3,f1,f2,f3⟩:=Qu h
     exact ih (k+1) hkr .none _ s3 E _ w hK3 (f3 E a w .nilIface hs .nilIface) (f1▸hev) .none
    | rcv rv=>
     obtain ⟨s3,hK3,f1,f2,f3⟩:=Qu h
     exact ih (k+1) hkr .rcv _ s3 E _ w hK3 (f3 E a w .nilIface hs .nilIface) (f1▸hev) (.rcv rv)
   ·obtain ⟨v,h',hk',hr'⟩:=Zd3 h
    obtain ⟨rv,w',E',q1,q2,q3⟩:=hr' E w s.n a hs.emb hs.tmps
    rw [q1]
    obtain ⟨s3,hK3,f1,f2,f3⟩:=Qu hk'
    exact ih (k+1) hkr m u s3 E' _ w' hK3 (f3 E' a w' rv ⟨q2.emb,hs.tmps.mono q2.le,hs.defs.mono q2.le⟩ q3) (by rw [f1];exact hev.trans q2) (hm.mono q2.le)
def Zjt (P:Program) (ev:FuncId->Code->St->KE->Prop) (g:FuncId) (args:List AV) (m:PM) (h:Z8) (K:PM->Z8->Prop):Prop:=
 match P.funcs[g]? with
 | some fn=>match fn.body,fn.results.toList,Nat.ble args.length fn.ntmps with
  | some (.seq (.region _ ops false) rest),[],true=>Z1k P ops.toList m ⟨fn.ntmps,Z1S 0 args,h,[]⟩ fun m' s'=>ev g rest s' fun e s2=>match e,s2.d with
   | .normal,[]=>K m' s2.h
   | .ret,[]=>K m' s2.h
   | _,_=>False
  | _,_,_=>False
 | none=>False
theorem ZgB {P:Program} {ev:FuncId->Code->St->KE->Prop} (hev:∀g fn id ops rest,P.funcs[g]? =some fn->fn.body=some (.seq (.region id ops false) rest)->∀s X,ev g rest s X->YH P s.h.next none rest s X) {g:FuncId} {m:PM} {h:Z8} {K:PM->Z8->Prop} (hl:Zjt P ev g args m h K)
  {E:Env} {h0:Z8} {w:World} {n:Nat} (he:Emb E h w) (hv:Evo E0 h0 w0 E h w) (ha:ZH E args rs) (hm:Vm E m u):
  CallsDIn (Fr none) n P g rs.toArray u w fun e u' w'=>(∃v,e=.returned v)/\∃E' m' h',K m' h'/\Evo E0 h0 w0 E' h' w'/\Vm E' m' u'/\E.le E':=by
 unfold Zjt at hl
 split at hl
 ·rename_i fn hf
  split at hl
  ·rename_i id ops rest hb hr hn
   refine callsDIn_of_wpSIn hf hb trivial ?_
   intro c₀ cs hu
   refine wpSIn_seq ?_
   refine wpSIn_region ?_
   have hent:=Z4z (N:=fn.ntmps) ha (VD hn)
   have h1:=Zbv (E0:=E) (h0:=h) (w0:=w) (all:=ops.toList) (c₀:=c₀) (cs:=cs) (n:=n) ops.toList 0 rfl m u ⟨fn.ntmps,Z1S 0 args,h,[]⟩ E { tmps:=rs.toArray++Array.replicate (fn.ntmps-rs.toArray.size) undef,defers:=[]} w hl ⟨he,hent,.nil⟩ (.refl he) hm
   rw [List.range_eq_range']
   have hcs:c₀::cs={ c₀ with mode:=u}::cs:=by rw [<-hu]
   rw [hcs]
   have mono:∀(l:List Nat) (a:Act) (cs:List Frame) (w:World) (Q Q':Exit->Act->List Frame->World->Prop),(∀e a cs w,Q e a cs w->Q' e a cs w)->wpOpsSIn (Fr none) n P ops.toList.toArray Q l a cs w->wpOpsSIn (Fr none) n P ops.toList.toArray Q' l a cs w:=by
    intro l
    induction l with
    | nil=>intro a cs w Q Q' hq hh;exact hq _ _ _ _ hh
    | cons i l ih=>
     intro a cs w Q Q' hq hh
     simp only [wpOpsSIn] at hh⊢
     split at hh
     ·exact ih a cs w Q Q' hq hh
     ·obtain ⟨q1,q2⟩:=hh
      refine ⟨q1, ?_⟩
      split at q2
      ·rename_i hw
       rw [if_pos hw]
       split at q2
       ·split at q2<;>exact ih _ _ _ Q Q' hq q2
       ·exact ih _ _ _ Q Q' hq q2
       ·exact ih _ _ _ Q Q' hq q2
       ·exact hq _ _ _ _ q2
       ·exact q2.elim
      ·rename_i hw
       rw [if_neg hw]
       exact ih _ _ _ Q Q' hq q2
   have h2:=mono _ _ _ _ _ (Exit.thenS (Code.wpSIn (Fr none) n P rest (bodyPostS P fn c₀ cs fun e u' w'=>(∃v,e=.returned v)/\∃E' m' h',K m' h'/\Evo E0 h0 w0 E' h' w'/\Vm E' m' u'/\E.le E')) (bodyPostS P fn c₀ cs fun e u' w'=>(∃v,e=.returned v)/\∃E' m' h',K m' h'/\Evo E0 h0 w0 E' h' w'/\Vm E' m' u'/\E.le E')) ?_ h1
   ·omega
   ·rintro e a' cs' w' ⟨rfl,E',m',u',s',hX,hv',hs',hm',rfl⟩
    refine wpSIn_of_wpIn rfl ?_
    refine wpIn_mono (hev g fn id ops rest hf hb s' _ hX E' s'.h w' E' a' w' n hs'.emb.fresh hs' (.refl hs'.emb)) ?_
    rintro e a2 w2 ⟨E2,x,s2,hx,hv2,hs2,hxe⟩
    have hres:∀(tm:Array Value),(results fn tm).run P w2=.ok (.tuple #[]) w2:=by
     simp_all [results]
    have fin:s2.d=[]->K m' s2.h->a2.defers=[]/\∃u'',({ c₀ with mode:=u'}:Frame)::cs={ c₀ with mode:=u''}::cs/\∃v,(results fn a2.tmps).run P w2=.ok v w2/\((∃v',Ending.returned v=.returned v')/\∃E' m' h',K m' h'/\Evo E0 h0 w0 E' h' w2/\Vm E' m' u''/\E.le E'):=by
     intro hd hK
     have hdd:=hs2.defs
     rw [hd] at hdd
     have hde:a2.defers=[]:=by
      generalize a2.defers=ad at hdd
      cases hdd
      rfl
     exact ⟨hde,u',rfl,_,hres _,⟨_,rfl⟩,E2,m',s2.h,hK,(hv.trans (hv'.trans hv2)),hm'.mono hv2.le,hv'.le.trans hv2.le⟩
    cases hxe with
    | normal=>
     cases hd:s2.d with
     | nil=>simp only [hd] at hx;exact fin hd hx
     | cons d ds=>grind
    | ret=>
     cases hd:s2.d with
     | nil=>simp only [hd] at hx;exact fin hd hx
     | cons d ds=>grind
    | exit i=>simp at hx
    | goto l=>simp at hx
    | panic v r h=>simp at hx
  simp_all
 simp_all
def Z5U:PM->PM
 | .rcv=>.none
 | m=>m
def UO (P:Program) (ev:FuncId->Code->St->KE->Prop) (fn:Func) (s:St):List UN->PM->Z8->KO->Prop
 | [],.none,h,K=>ZlC P fn { s with h:=h} fun v=>K (.ret v) h
 | [],.pan v,h,K=>K (.panic v) h
 | [],.rcv,_,_=>False
 | .mark x::ds,m,h,K=>match h.get x with
  | some .defd=>UO P ev fn s ds m (h.del x) K
  | _=>False
 | .call g args::ds,m,h,K=>match P.funcs[g]? with
  | some gf=>match gf.body.isSome&& !(gf.name== "runtime.NumGoroutine") with
   | true=>Zjt P ev g args m h fun m' h'=>UO P ev fn s ds (Z5U m') h' K
   | false=>False
  | none=>False
theorem CallsDIn.mono' {F:Fence} {n:Nat} {P:Program} {f:FuncId} {args:Array Value} {w:World} {R R':Ending->FrameMode->World->Prop} (h:CallsDIn F n P f args u w R) (hr:∀e u w,R e u w->R' e u w):CallsDIn F n P f args u w R':=
 ⟨h.1,fun c cs hu hroom=>let ⟨e,u',w',fr,q,rest⟩:=h.2 c cs hu hroom;⟨e,u',w',fr,hr _ _ _ q,rest⟩⟩
theorem Z1l {P:Program} {ev:FuncId->Code->St->KE->Prop} (hev:∀g fn id ops rest,P.funcs[g]? =some fn->fn.body=some (.seq (.region id ops false) rest)->∀s X,ev g rest s X->YH P s.h.next none rest s X) {fn:Func} {s:St} {K:KO} {h0:Z8} {tm:Array Value} {n:Nat}:
  ∀(ds:List UN) (rd:List Deferred) (m:PM) (u:FrameMode) (h:Z8) (E:Env) (w:World),UO P ev fn s ds m h K->Emb E h w->VC E s.n s.t tm->Evo E0 h0 w0 E h w->Ug E ds rd->Vm E m u->m≠.rcv->
   LeavesInM (Fr none) n P fn tm (fun e w'=>∃E' o h',K o h'/\Evo E0 h0 w0 E' h' w'/\Z0b E' o e) rd u w:=by
 intro ds
 induction ds with
 | nil=>
  intro rd m u h E w hl he ht hv hd hm _
  cases hd
  cases hm with
  | none=>
   obtain ⟨v,hK,hr⟩:=ZgA hl
   obtain ⟨r,h1,h2⟩:=hr E w tm he ht
   exact ⟨r,h1,E,_,h,hK,hv,.ret v r h2⟩
  | pan v r hvr=>exact ⟨E,_,h,hl,hv,.panic v r hvr⟩
  | rcv r=>simp_all
 | cons d ds ih=>
  intro rd m u h E w hl he ht hv hd hm hnr
  have hu:u≠.run:=by cases hm<;>simp
  cases hd with
  | call g args fnv cap rs ds rd hf hla t=>
   subst hf
   simp only [UO] at hl
   split at hl
   ·rename_i gf hgf
    split at hl
    ·rename_i hb
     refine ⟨hu,.inr ⟨fun h=>(by cases h),.func g,cap,g,rs++cap,rfl, ?_,fun _ _=>trivial, ?_⟩⟩
     ·simp_all [invoke,Uh]
     ·have h1:=ZgB (n:=n-1) hev hl he hv hla hm
      have e1:(rs.toList++cap.toList).toArray=rs++cap:=by simp_all
      rw [e1] at h1
      refine CallsDIn.mono' h1 ?_
      rintro e u' w' ⟨⟨v,rfl⟩,E',m',h',hK,hv',hm',hle⟩
      refine ih rd (Z5U m') (settle u') h' E' w' hK hv'.emb (ht.mono hle) hv' (t.mono hle) ?_ ?_
      ·cases hm' with
       | none=>exact .none
       | pan v r h=>exact .pan v r h
       | rcv r=>exact .none
      ·cases m'<;>simp [Z5U]
    simp_all
   simp_all
  | mark x b N ds rd hb t=>
   simp only [UO] at hl
   split at hl
   ·rename_i hg
    have hB:=he.own _ _ hg
    cases hB with
    | defd b' hb' hw=>
     rw [hb'] at hb
     injection hb with hb
     injection hb with q1 q2
     subst q1
     refine ⟨hu,.inl ⟨b',{ w with heap:=w.heap.setIfInBounds b' (.deferred none)},rfl, ?_, ?_⟩⟩
     ·simp [Instr.takeDeferred,getObj,setObj,Sem.run,hw]
     ·have hev1:Evo E h w E (h.del x) { w with heap:=w.heap.setIfInBounds b' (.deferred none)}:=by
       have hd:=Z2d he x
       have hget:∀y C,(h.del x).get y=some C->y≠x/\h.get y=some C:=fun y C hy=>by
        grind [Z8.get_del_same,Z8.get_del_other]
       have hne:∀(i:Nat),i≠b'->(w.heap.setIfInBounds b' (.deferred none))[i]? =w.heap[i]?:=fun i hi=>by
        rw [Js,if_neg (fun q=>hi q.symm)]
       refine ⟨.refl E,⟨hd.emb.fresh,hd.emb.lt,fun y C hy=> ?_,hd.emb.disj,fun a c hi=> ?_,hd.emb.sep⟩,by simp,rfl,rfl,⟨rfl,J2 _⟩, ?_, ?_,fun _ _ h=>h⟩
       ·obtain ⟨hyx,hy'⟩:=hget y C hy
        refine (he.own y C hy').congr fun b2 N2 hb2=>hne b2 ?_
        rintro rfl
        exact hyx (he.disj y x C _ b2 N2 _ hy' hg hb2 hb')
       ·have h1:=he.imm a c hi
        grind [World.cell?]
       ·intro i _ hno
        refine hne i ?_
        rintro rfl
        exact hno ⟨x,_,_,hg,hb'⟩
       ·rintro i ⟨y,C,M,hy,hby⟩
        exact .inl ⟨y,C,M,(hget y C hy).2,hby⟩
      exact ih rd m u (h.del x) E _ hl hev1.emb ht (hv.trans hev1) t hm hnr
   simp_all
def Za7 (n:Nat):List Nat->List AV->Y2->(Y2->Prop)->Prop
 | [],[],t,K=>K t
 | p::ps,v::vs,t,K=>match Nat.blt p n with
  | true=>Za7 n ps vs (UF t p v) K
  | false=>False
 | _,_,_,_=>False
theorem Z71 {n:Nat}:∀(ps:List Nat) (vs:List AV) (t:Y2) (K:Y2->Prop),Za7 n ps vs t K->∃t',K t'/\ps.length=vs.length/\∀(E:Env) (tm:Array Value) (rs:List Value),VC E n t tm->ZH E vs rs->
  VC E n t' ((ps.zip rs).foldl (fun tmps (x:Nat×Value)=>tmps.setIfInBounds x.1 x.2) tm)
 | [],[],t,K,h=>⟨t,h,rfl,fun E tm rs ht hl=>by simp_all⟩
 | [],_::_,_,_,h=>h.elim
 | _::_,[],_,_,h=>h.elim
 | p::ps,v::vs,t,K,h=>by
  simp only [Za7] at h
  split at h
  ·rename_i hb
   have hp:p<n:=Jh hb
   obtain ⟨t',hK,hl,hr⟩:=Z71 ps vs (UF t p v) K h
   refine ⟨t',hK,by simp [hl],fun E tm rs ht hl=> ?_⟩
   cases hl with
   | cons v c vs cs hv hvs=>
    refine hr E _ cs ⟨by simp [ht.size],fun x u hx=> ?_⟩ hvs
    by_cases hxp:p=x
    ·subst hxp
     rw [XG] at hx
     have:p<tm.size:=by rw [ht.size];exact hp
     simp_all
    ·rw [Xt _ _ _ _ hxp] at hx
     have:=ht.get x u hx
     simp_all
  simp_all
def Z8E:Option Code->LoopState
 | none=>.ready
 | some _=>.done
def endRound (x:Nat) (pending:Option Code) (h:Z8) (K:Z8->Prop):Prop:=
 match h.get x with
 | some (.loop l)=>K (h.set x (.loop { l with state:=Z8E pending,pending:=pending}))
 | _=>False
def Z8F (ev:FuncId->Nat->Code->St->KE->Prop) (x:Nat) (args:List AV) (h:Z8) (K:KO):Prop:=
 match h.get x with
 | some (.loop l)=>match l.state with
  | .ready=>Za7 l.n l.params args l.tmps fun t1=>ev l.fn x l.assign ⟨l.n,t1,h,[]⟩ fun e s=>match e with
   | .normal=>match s.h.get x with
    | some (.loop l1)=>match l1.state with
     | .ready=>ev l.fn x l.body { s with h:=s.h.set x (.loop { l1 with state:=.busy})} fun e2 s2=>match e2 with
      | .normal=>endRound x none s2.h fun h'=>K (.ret (.bool true)) h'
      | .ret=>endRound x (some .ret) s2.h fun h'=>K (.ret (.bool false)) h'
      | .exit id=>endRound x (some (.exit id)) s2.h fun h'=>K (.ret (.bool false)) h'
      | .goto t=>endRound x (some (.goto t)) s2.h fun h'=>K (.ret (.bool false)) h'
      | .panic _=>False
     | _=>False
    | _=>False
   | _=>False
  | _=>False
 | _=>False
theorem run_getLoop {P:Program} {w:World} {b:Nat} {r:Loop} (h:w.heap[b]? =some (.loop r)):(Instr.getLoop b).run P w=.ok r w:=by
 simp [Instr.getLoop,getObj,Sem.run,h]
theorem run_setObj_loop {P:Program} {w:World} {b:Nat} {r r':Loop} (h:w.heap[b]? =some (.loop r)):(setObj b (.loop r')).run P w=.ok () { w with heap:=w.heap.setIfInBounds b (.loop r')}:=by
 simp [setObj,Sem.run,h]
theorem UP {E:Env} {h:Z8} {w:World} (he:Emb E h w) (x b d N:Nat) (l l':ZcM) (fnr:FuncId) (tm:Array Value) (hg:h.get x=some (.loop l)) (hb:E.blk x=some (b,0)) (hd:E.blk l.defers=some (d,N))
  (ht:VC E l.n l.tmps tm)
  (e1:l'.n=l.n) (e2:l'.tmps=l.tmps) (e3:l'.params=l.params) (e4:l'.assign=l.assign) (e5:l'.body=l.body) (e6:l'.defers=l.defers):
  Evo E h w E (h.set x (.loop l')) { w with heap:=w.heap.setIfInBounds b (.loop ⟨l'.state,l'.pending,fnr,tm,l.params.toArray,l.assign,l.body,d⟩)}:=by
 have hlt:b<w.heap.size:=(he.own _ _ hg).lt hb
 refine XU he x _ _ b 0 hg hb (fun i hi=> ?_) (by simp) rfl rfl ⟨rfl,J2 _⟩ ?_
 ·rw [Js,if_neg (fun q=>hi q.symm)]
 ·refine .loop l' b d N fnr tm hb (by rw [e6];exact hd) ?_ (by rw [e1,e2];exact ht)
  rw [e3,e4,e5]
  simp [hlt]
theorem Z72 {x:Nat} {pending:Option Code} {h:Z8} {K:Z8->Prop} (hl:endRound x pending h K):
  ∃h',K h'/\∀(P:Program) (E:Env) (w:World) (b N:Nat),Emb E h w->E.blk x=some (b,N)->∃w',(Instr.endRound b pending).run P w=.ok (.bool pending.isNone) w'/\Evo E h w E h' w':=by
 unfold endRound at hl
 split at hl
 ·rename_i l hg
  refine ⟨_,hl,fun P E w b N he hb=> ?_⟩
  have hB:=he.own _ _ hg
  cases hB with
  | loop l b' d N' fnr tm hb' hd hw ht=>
   rw [hb'] at hb
   injection hb with hb
   injection hb with q1 q2
   subst q1
   have hev:=UP he x b' d N' l { l with state:=Z8E pending,pending:=pending} fnr tm hg hb' hd ht rfl rfl rfl rfl rfl rfl
   refine ⟨_, ?_,hev⟩
   simp only [Instr.endRound,J7,run_getLoop hw,J4]
   rw [run_setObj_loop hw]
   cases pending<;>simp [Z8E]
 simp_all
theorem Zbw {P:Program} {ev:FuncId->Nat->Code->St->KE->Prop} (hev:∀f x c s X,ev f x c s X->∀(E0:Env) (h0:Z8) (w0:World) (E:Env) (a:Act) (w:World) (n b N:Nat),VG E s a w->Evo E0 h0 w0 E s.h w->E.blk x=some (b,N)->
   c.wpIn (Fr (some b)) n P (Ui E0 h0 w0 X) a w) {x:Nat} {h:Z8} {K:KO} (hl:Z8F ev x args h K):Zd4 P x args h K:=by
 intro E w rs b N he ha hb
 unfold Z8F at hl
 split at hl
 ·rename_i l hg
  split at hl
  ·obtain ⟨t1,hl,hlen,hset⟩:=Z71 _ _ _ _ hl
   have hB:=he.own _ _ hg
   cases hB with
   | loop l b' d N' fnr tm hb' hd hw ht=>
    rw [hb'] at hb
    injection hb with hb
    injection hb with q1 q2
    subst q1
    have hrl:=ha.length
    refine ⟨fnr,(l.params.zip rs).foldl (fun tmps (x:Nat×Value)=>tmps.setIfInBounds x.1 x.2) tm,l.assign,l.body, ?_, ?_⟩
    ·simp only [Instr.yield,J7,run_getLoop hw,J4]
     rw [if_neg (by simp;omega)]
     simp
    ·refine roundIn_of_wpIn trivial ?_
     refine wpIn_mono (hev _ _ _ _ _ hl E h w E { tmps:=_,defers:=[]} w 0 b' 0 ⟨he,hset E tm rs ht ha,.nil⟩ (.refl he) hb') ?_
     rintro e a1 w1 ⟨E1,x1,s1,hx,hv1,hs1,hxe⟩
     cases hxe with
     | normal=>
      simp only at hx
      split at hx
      ·rename_i l1 hg1
       split at hx
       ·have hB1:=hs1.emb.own _ _ hg1
        cases hB1 with
        | loop l1 b1 d1 N1 fnr1 tm1 hb1 hd1 hw1 ht1=>
         have hbe:=hv1.le.blk _ _ hb'
         rw [hb1] at hbe
         injection hbe with hbe
         injection hbe with q3 q4
         subst q3
         have hev1:=UP hs1.emb x b1 d1 N1 l1 { l1 with state:=.busy} fnr1 tm1 hg1 hb1 hd1 ht1 rfl rfl rfl rfl rfl rfl
         refine ⟨{ w1 with heap:=w1.heap.setIfInBounds b1 (.loop ⟨.busy,l1.pending,fnr1,tm1,l1.params.toArray,l1.assign,l1.body,d1⟩)}, ?_, ?_⟩
         ·simp_all [Instr.beginRound,run_getLoop,run_setObj_loop]
         ·refine wpIn_mono (hev _ _ _ _ _ hx E h w E1 a1 _ 0 b1 0 ⟨hev1.emb,hs1.tmps,hs1.defs⟩ (hv1.trans hev1) hb1) ?_
          rintro e2 a2 w2 ⟨E2,x2,s2,hx2,hv2,hs2,hxe2⟩
          have hb2:E2.blk x=some (b1,0):=hv2.le.blk _ _ (by rw [hb'])
          have fin:∀(pending:Option Code) (o:Bool),o=pending.isNone->endRound x pending s2.h (fun h'=>K (.ret (.bool o)) h')->∃v w',(Instr.endRound b1 pending).run P w2=.ok v w'/\(∃E' o h',K o h'/\Evo E h w E' h' w'/\Z0b E' o (.returned v)):=by
           intro pending o ho hh
           obtain ⟨h',hK,hr⟩:=Z72 hh
           obtain ⟨w',h1,h2⟩:=hr P E2 w2 b1 0 hs2.emb hb2
           exact ⟨_,w',h1,E2,_,h',hK,hv2.trans h2,by rw [ho];exact .ret _ _ (.bool _)⟩
          cases hxe2 with
          | normal=>exact fin none true rfl hx2
          | ret=>exact fin (some .ret) false rfl hx2
          | exit id=>exact fin (some (.exit id)) false rfl hx2
          | goto t=>exact fin (some (.goto t)) false rfl hx2
          | panic v r h=>simp_all
       simp_all
      simp_all
     | exit id=>simp_all
     | goto t=>simp_all
     | ret=>simp_all
     | panic v r h=>simp_all
  simp_all
 simp_all
def Z8G (cx:Ctx) (P:Program) (g:Operand) (ps:Array Tmp) (assign body:Code) (s:St) (X:KE):Prop:=
 match cx.inR with
 | some _=>False
 | none=>match aev s.t g with
  | .func (.func gg) first cap=>match P.funcs[gg]? with
   | some fn=>match fn.body.isSome&& !(fn.name== "runtime.NumGoroutine") with
    | true=>cx.call gg (first++[.yield (s.h.next+1)]++cap) ((s.h.add .defd).add (.loop ⟨.ready,none,cx.fn,s.n,s.t,ps.toList,assign,body,s.h.next⟩)) fun o h3=>match o with
     | .ret _=>match h3.get (s.h.next+1) with
      | some (.loop l)=>match l.state with
       | .busy=>False
       | _=>match l.pending with
        | none=>X .normal { s with h:=h3.del (s.h.next+1),d:=.mark s.h.next::s.d}
        | some .ret=>X .ret { s with h:=h3.del (s.h.next+1),d:=.mark s.h.next::s.d}
        | some (.exit id)=>X (.exit id) { s with h:=h3.del (s.h.next+1),d:=.mark s.h.next::s.d}
        | some (.goto t)=>X (.goto t) { s with h:=h3.del (s.h.next+1),d:=.mark s.h.next::s.d}
        | _=>False
      | _=>False
     | .panic v=>X (.panic v) { s with h:=h3,d:=.mark s.h.next::s.d}
    | false=>False
   | none=>False
  | _=>False
theorem Z4A {P:Program} {k:Nat} (hcx:cx.Ok P) (hro:cx.inR=none->ro=none) {g:Operand} {ps:Array Tmp} {assign body:Code} {s:St} (hl:Z8G cx P g ps assign body s X):
  YH P k ro (.rangeFunc g ps assign body) s X:=by
 unfold Z8G at hl
 split at hl
 ·simp_all
 ·rename_i hin
  have hr0:=hro hin
  subst hr0
  split at hl
  ·rename_i gg first cap hgv
   split at hl
   ·rename_i fn hfn
    split at hl
    ·rename_i hbody
     intro E0 h0 w0 E a w n _ hs hev
     refine wpIn_rangeFunc ?_
     intro fnr _
     have hgr:=ZA hs.tmps g
     rw [hgv] at hgr
     cases hge:a.eval g<;>rw [hge] at hgr<;>cases hgr
     rename_i fs cs hfs hcs
     -- the block of deferred calls
     have hev1:=WR hs.emb (.deferred (some [])) 0 .defd (.defd w.heap.size (Env.ext_same _ _ _ _) (by simp))
     have hs1:({ w with heap:=w.heap.push (.deferred (some []))}:World).heap.size=w.heap.size+1:=by simp
     have hbd:(E.ext s.h.next w.heap.size 0).blk s.h.next=some (w.heap.size,0):=Env.ext_same _ _ _ _
     have hfr1:(E.ext s.h.next w.heap.size 0).blk (s.h.next+1)=none:=hev1.emb.fresh _ (J2 _)
     have hle2:(E.ext s.h.next w.heap.size 0).le ((E.ext s.h.next w.heap.size 0).ext (s.h.next+1) (w.heap.size+1) 0):=Env.ext_le hfr1
     have hev2:=WR hev1.emb (.loop ⟨.ready,none,fnr,a.tmps,ps,assign,body,w.heap.size⟩) 0 (.loop ⟨.ready,none,cx.fn,s.n,s.t,ps.toList,assign,body,s.h.next⟩)
      (.loop _ (w.heap.size+1) w.heap.size 0 fnr a.tmps (by rw [hs1];exact Env.ext_same _ _ _ _) (by rw [hs1];exact hle2.blk _ _ hbd) (by rw [Array.getElem?_push,if_pos (by simp)]) (by rw [hs1];exact hs.tmps.mono (hev1.le.trans hle2)))
     rw [hs1] at hev2
     have hbl:((E.ext s.h.next w.heap.size 0).ext (s.h.next+1) (w.heap.size+1) 0).blk (s.h.next+1)=some (w.heap.size+1,0):=Env.ext_same _ _ _ _
     refine ⟨w.heap.size+1,[⟨.collected w.heap.size, #[]⟩],{ w with heap:=(w.heap.push (.deferred (some []))).push (.loop ⟨.ready,none,fnr,a.tmps,ps,assign,body,w.heap.size⟩)},⟨.fn (.func gg) cs.toArray,fs.toArray++ #[.func (.yield (w.heap.size+1)) #[] #[]]⟩,{ w with heap:=(w.heap.push (.deferred (some []))).push (.loop ⟨.ready,none,fnr,a.tmps,ps,assign,body,w.heap.size⟩)},gg,fs.toArray++ #[.func (.yield (w.heap.size+1)) #[] #[]]++cs.toArray,{ w with heap:=(w.heap.push (.deferred (some []))).push (.loop ⟨.ready,none,fnr,a.tmps,ps,assign,body,w.heap.size⟩)}, ?_, ?_,fun _ _=>trivial, ?_,fun h=>(by cases h), ?_⟩
     ·show (Instr.enterLoop fnr a.tmps ps assign body none).run P w=_
      have e0:({ w with heap:=w.heap.push (.deferred (some []))}:World).heap.size=w.heap.size+1:=by simp
      simp only [Instr.enterLoop,J7,run_newObj,J4,Jp,e0]
     ·simp only [resolve,hge,Deferred.ofValue,Jp]
      have e2:(#[Operand.const (Value.func (Fn.yield (w.heap.size+1)) #[] #[])]:Array Operand).map a.eval= #[Value.func (Fn.yield (w.heap.size+1)) #[] #[]]:=by simp [Act.eval]
      rw [e2]
     ·simp_all [invoke,Uh]
     ·have hev12:=hev1.trans hev2
      have hyl:ZH ((E.ext s.h.next w.heap.size 0).ext (s.h.next+1) (w.heap.size+1) 0) (first++[.yield (s.h.next+1)]++cap) (fs++[.func (.yield (w.heap.size+1)) #[] #[]]++cs):=
       ((hfs.mono hev12.le).append (.cons _ _ _ _ (.yield _ _ _ hbl) .nil)).append (hcs.mono hev12.le)
      have hcall:=hcx.call _ _ _ _ hl _ _ _ hev2.emb hyl
      have e1:(fs++[Value.func (.yield (w.heap.size+1)) #[] #[]]++cs).toArray=fs.toArray++ #[Value.func (.yield (w.heap.size+1)) #[] #[]]++cs.toArray:=by simp
      rw [e1] at hcall
      refine Z3e (hcall.mono ?_)
      rintro e w3 ⟨E3,o,h3,hk,hv3,ho⟩
      have hv03:=hev.trans (hev12.trans hv3)
      have hdr:Ug E3 (.mark s.h.next::s.d) ([⟨.collected w.heap.size, #[]⟩]++a.defers):=.mark _ _ 0 _ _ (hv3.le.blk _ _ (hle2.blk _ _ hbd)) (hs.defs.mono (hev12.le.trans hv3.le))
      cases ho with
      | ret v r hvr=>
       simp only at hk
       split at hk
       ·rename_i l hgl
        have hB:=hv3.emb.own _ _ hgl
        cases hB with
        | loop l b3 d3 N3 fnr3 tm3 hb3 hd3 hw3 ht3=>
         have hbe:=hv3.le.blk _ _ hbl
         rw [hb3] at hbe
         injection hbe with hbe
         injection hbe with q1 q2
         subst q1
         have hnb:l.state≠.busy:=by grind
         have hk':(match l.pending with
           | none=>X .normal { s with h:=h3.del (s.h.next+1),d:=.mark s.h.next::s.d}
           | some .ret=>X .ret { s with h:=h3.del (s.h.next+1),d:=.mark s.h.next::s.d}
           | some (.exit id)=>X (.exit id) { s with h:=h3.del (s.h.next+1),d:=.mark s.h.next::s.d}
           | some (.goto t)=>X (.goto t) { s with h:=h3.del (s.h.next+1),d:=.mark s.h.next::s.d}
           | _=>False):=by
          cases hq:l.state<;>rw [hq] at hk<;>first|simp_all
         have hev3:=UP hv3.emb (s.h.next+1) (w.heap.size+1) d3 N3 l { l with state:=.exhausted} fnr3 tm3 hgl hb3 hd3 ht3 rfl rfl rfl rfl rfl rfl
         have hev4:=Z2d hev3.emb (s.h.next+1)
         have hev5:Evo E3 h3 w3 E3 (h3.del (s.h.next+1)) { w3 with heap:=w3.heap.setIfInBounds (w.heap.size+1) (.loop ⟨.exhausted,l.pending,fnr3,tm3,l.params.toArray,l.assign,l.body,d3⟩)}:=by
          refine (hev3.trans hev4).trans (Z2G hev4.emb rfl ?_)
          grind [Z8.get_del_same,Z8.get_del_other,Z8.get_set_other]
         refine ⟨l.pending,{ w3 with heap:=w3.heap.setIfInBounds (w.heap.size+1) (.loop ⟨.exhausted,l.pending,fnr3,tm3,l.params.toArray,l.assign,l.body,d3⟩)}, ?_, ?_⟩
         ·simp_all [Instr.endLoop,run_getLoop,run_setObj_loop]
         ·have hsr:VG E3 { s with h:=h3.del (s.h.next+1),d:=.mark s.h.next::s.d} { a with defers:=[⟨.collected w.heap.size, #[]⟩]++a.defers} { w3 with heap:=w3.heap.setIfInBounds (w.heap.size+1) (.loop ⟨.exhausted,l.pending,fnr3,tm3,l.params.toArray,l.assign,l.body,d3⟩)}:=
           ⟨hev5.emb,hs.tmps.mono (hev12.le.trans hv3.le),hdr⟩
          have hvv:=hv03.trans hev5
          cases hp:l.pending with
          | none=>rw [hp] at hk' hsr hvv;exact ⟨E3,.normal,_,hk',hvv,hsr,.normal⟩
          | some c=>
           rw [hp] at hk' hsr hvv
           cases c with
           | ret=>exact wpIn_ret ⟨E3,.ret,_,hk',hvv,hsr,.ret⟩
           | exit id=>exact wpIn_exit ⟨E3,.exit id,_,hk',hvv,hsr,.exit id⟩
           | goto t=>exact wpIn_goto ⟨E3,.goto t,_,hk',hvv,hsr,.goto t⟩
           | _=>exact hk'.elim
       simp_all
      | panic v r hvr=>
       exact ⟨E3,.panic v,_,hk,hv03,⟨hv3.emb,hs.tmps.mono (hev12.le.trans hv3.le),hdr⟩,.panic v r hvr⟩
    simp_all
   simp_all
  simp_all
abbrev ZQ:=List AV->Z8->KO->Prop
abbrev ZlD:=Ctx->List Oper->St->KE->Prop
structure Za where
 P:Program
 draw:ZlD
 psumm:FuncId->Option ZF
 fsumm:FuncId->Option ZQ
 lsumm:FuncId->Nat->Option (Nat->St->KE->Prop)
 fuel:Nat
variable {G:Za}
def Zde (G:Za) (f:FuncId) (k:Nat):Zda:=fun id=>match G.lsumm f id with|some S=>some (S k)|none=>none
def evC (G:Za) (cx:Ctx) (k:Nat):Code->St->KE->Prop:=
 W2 cx G.P (match cx.inR with|none=>Zde G cx.fn k|some _=>fun _=>none) G.fuel (G.draw cx) (Z8G cx G.P)
def Za8 (G:Za) (mk:FuncId->Option Nat->Ctx) (f:FuncId) (args:List AV) (h:Z8) (K:KO):Prop:=
 match G.psumm f with
 | some S=>S args h fun v=>K (.ret v) h
 | none=>match G.fsumm f with
 | some S=>S args h K
 | none=>match G.P.funcs[f]? with
  | some fn=>match fn.body,Nat.ble args.length fn.ntmps with
   | some c,true=>evC G (mk f none) h.next c ⟨fn.ntmps,Z1S 0 args,h,[]⟩ fun e s=>match e with
    | .normal=>UO G.P (fun g c s X=>evC G (mk g none) s.h.next c s X) fn s s.d .none s.h K
    | .ret=>UO G.P (fun g c s X=>evC G (mk g none) s.h.next c s X) fn s s.d .none s.h K
    | .panic v=>UO G.P (fun g c s X=>evC G (mk g none) s.h.next c s X) fn s s.d (.pan v) s.h K
    | _=>False
   | _,_=>False
  | none=>False
def Z4f (G:Za):Nat->FuncId->Option Nat->Ctx
 | 0,f,ro=>⟨fun _=>none,fun _ _ _ _=>False,fun _ _ _ _=>False,f,ro⟩
 | n+1,f,ro=>⟨G.psumm,fun g args h K=>Za8 G (Z4f G n) g args h K,fun x args h K=>Z8F (fun f' x' c s X=>evC G (Z4f G n f' (some x')) 0 c s X) x args h K,f,ro⟩
@[irreducible] def evF (G:Za) (n:Nat) (f:FuncId) (args:List AV) (h:Z8) (K:KO):Prop:=Za8 G (Z4f G n) f args h K
structure Za.Ok (G:Za):Prop where
 draw:∀(cx:Ctx) (ro:Option Nat) (id:Nat) (ops:Array Oper) (s:St) (X:KE),cx.Ok G.P->(cx.inR=none->ro=none)->G.draw cx ops.toList s X->∀k,YH G.P k ro (.region id ops true) s X
 psumm:∀f S args h K,G.psumm f=some S->S args h K->Zd G.P f args h fun o h'=>∃v,o=.ret v/\h'=h/\K v
 fsumm:∀f S args h K,G.fsumm f=some S->S args h K->Zd G.P f args h K
 lsumm:∀f id S fn c body,G.lsumm f id=some S->G.P.funcs[f]? =some fn->fn.body=some body->(id,c)∈ZE body->∀k s X,S k s X->YH G.P k none c s X
theorem Z3g (hG:G.Ok) {k k':Nat} (hcx:cx.Ok G.P) (hro:cx.inR=none->ro=none) {c:Code}
  (hkk:cx.inR=none->k'=k) (hsub:cx.inR=none->∃fn body,G.P.funcs[cx.fn]? =some fn/\fn.body=some body/\∀b,b∈ZE c->b∈ZE body) {s:St} (h:evC G cx k c s X):YH G.P k' ro c s X:=by
 unfold evC at h
 cases hin:cx.inR with
 | some x=>
  simp only [hin] at h
  exact (Z70 hcx hro (fun id ops s X hd=>hG.draw cx ro id ops s X hcx hro hd k') (fun g ps assign body s X hr=>Z4A hcx hro hr) (ZE c) (fun id S c' hS=>by simp at hS) c (fun _ hb=>hb)).1 s X h
 | none=>
  simp only [hin] at h
  obtain ⟨fn,body,hf,hb,hbl⟩:=hsub hin
  exact (Z70 hcx hro (fun id ops s X hd=>hG.draw cx ro id ops s X hcx hro hd k') (fun g ps assign body s X hr=>Z4A hcx hro hr) (ZE body)
   (fun id S c' hS hm s' X' hs'=>by
    unfold Zde at hS
    split at hS
    ·rename_i S0 hS0
     cases hS
     have hk0:=hkk hin
     subst hk0
     have hr0:=hro hin
     subst hr0
     exact hG.lsumm cx.fn id S0 fn c' body hS0 hf hb hm _ s' X' hs'
    ·cases hS) c hbl).1 s X h
theorem Z73 (hG:G.Ok) {mk:FuncId->Option Nat->Ctx} (hmk:∀f ro,(mk f ro).Ok G.P/\(mk f ro).fn=f/\(mk f ro).inR=ro) {f:FuncId} {h:Z8} {K:KO} (hl:Za8 G mk f args h K):Zd G.P f args h K:=by
 unfold Za8 at hl
 split at hl
 ·rename_i S hS
  intro E w rs he ha
  refine (hG.psumm f S args h _ hS hl E w rs he ha).mono ?_
  grind
 split at hl
 ·rename_i S hS
  exact hG.fsumm f S args h K hS hl
 ·split at hl
  ·rename_i fn hf
   split at hl
   ·rename_i c hb hn
    intro E w rs he ha
    refine (callsIn_wide (n:=0)).1 ?_
    refine callsIn_of_wp_marks hf hb trivial ?_ rfl
    have hent:=Z4z (N:=fn.ntmps) ha (VD hn)
    have hcode:YH G.P h.next none c _ _:=Z3g hG (hmk f none).1 (ro:=none) (fun _=>rfl) (fun _=>rfl) (fun _=>⟨fn,c,by rw [(hmk f none).2.1];exact hf,hb,fun _ hb=>hb⟩) hl
    have hdef:∀g gfn id ops rest,G.P.funcs[g]? =some gfn->gfn.body=some (.seq (.region id ops false) rest)->∀s X,evC G (mk g none) s.h.next rest s X->YH G.P s.h.next none rest s X:=
     fun g gfn id ops rest hgf hgb s X hr=>Z3g hG (hmk g none).1 (fun _=>rfl) (fun _=>rfl) (fun _=>⟨gfn,_,by rw [(hmk g none).2.1];exact hgf,hgb,fun b hb=>by simp [ZE,hb]⟩) hr
    refine wpIn_mono (hcode E h w E { tmps:=rs.toArray++Array.replicate (fn.ntmps-rs.toArray.size) undef,defers:=[]} w 0 he.fresh ⟨he,hent,.nil⟩ (.refl he)) ?_
    rintro e a' w' ⟨E',x,s',hx,hev,hs',hxe⟩
    cases hxe with
    | normal=>exact Z1l (ev:=fun g c s X=>evC G (mk g none) s.h.next c s X) hdef s'.d a'.defers .none .returning s'.h E' w' hx hs'.emb hs'.tmps hev hs'.defs .none (by simp)
    | ret=>exact Z1l (ev:=fun g c s X=>evC G (mk g none) s.h.next c s X) hdef s'.d a'.defers .none .returning s'.h E' w' hx hs'.emb hs'.tmps hev hs'.defs .none (by simp)
    | panic v r hv=>exact Z1l (ev:=fun g c s X=>evC G (mk g none) s.h.next c s X) hdef s'.d a'.defers (.pan v) _ s'.h E' w' hx hs'.emb hs'.tmps hev hs'.defs (.pan v r hv) (by simp)
    | exit id=>simp_all
    | goto l=>simp_all
   simp_all
  simp_all
theorem Z0M {G:Za} (hG:G.Ok):∀(n:Nat) (f:FuncId) (ro:Option Nat),(Z4f G n f ro).Ok G.P/\(Z4f G n f ro).fn=f/\(Z4f G n f ro).inR=ro
 | 0,f,ro=>⟨⟨fun _ _ _ _ _ h=>by simp [Z4f] at h,fun _ _ _ _ h=>h.elim,fun _ _ _ _ h=>h.elim⟩,rfl,rfl⟩
 | n+1,f,ro=>by
  refine ⟨⟨fun f' S args h K hS hs=>hG.psumm f' S args h K hS hs,fun g args h K hl=>Z73 hG (Z0M hG n) hl,fun x args h K hl=> ?_⟩,rfl,rfl⟩
  refine Zbw (ev:=fun f' x' c s X=>evC G (Z4f G n f' (some x')) 0 c s X) ?_ hl
  intro f' x' c s X hc E0 h0 w0 E a w m b N hs hev hb
  have hk:=Z0M hG n f' (some x')
  exact Z3g (k':=s.h.next) hG hk.1 (ro:=some b) (fun hq=>by rw [hk.2.2] at hq;cases hq) (fun hq=>by rw [hk.2.2] at hq;cases hq) (fun hq=>by rw [hk.2.2] at hq;cases hq) hc E0 h0 w0 E a w m (fun x hx=>by
   cases hq:E0.blk x with
   | none=>rfl
   | some r=>have:=hev.le.blk x r hq;rw [hs.emb.fresh x hx] at this;cases this) hs hev
theorem Y5 (hG:G.Ok) {n:Nat} {f:FuncId} {h:Z8} {K:KO} (hl:evF G n f args h K):Zd G.P f args h K:=by
 grind [evF,Z73,Z0M]
def Zdf:Op->Bool
 | .move _|.assign _|.pick .. |.build .. |.load .. |.nilCheck _|.binOp .. |.unOp .. |.convert .. |.makeInterface .. |.makeFunc .. |.slice .. |.fieldAddr .. |.field .. |.indexAddr .. |.index .. |.extract .. |.typeAssert ..
 | .lookup .. |.sliceToArrayPointer .. =>true
 | .call ⟨.builtin .len,_,_⟩=>true
 | _=>false
def ZiS (q:Nat):Op->Bool
 | .alloc _=>true
 | .buildSlice _ len _=>Nat.beq q 2&& !Nat.beq len 0
 | _=>false
def tmpsOf:List Operand->List Nat
 | []=>[]
 | .tmp x::r=>x::tmpsOf r
 | _::r=>tmpsOf r
def opT (o:Op):List Nat:=tmpsOf o.operands.toList
def Vn (t:Y2):List Nat->Y2
 | []=>[]
 | x::r=>match ZT t x with|some v=>(x,v)::Vn t r|none=>Vn t r
theorem W7 {t:Y2}:∀{xs:List Nat} {x:Nat} {v:AV},ZT (Vn t xs) x=some v->ZT t x=some v/\x∈xs
 | [],_,_,h=>by simp [Vn,ZT] at h
 | y::r,x,v,h=>by
  unfold Vn at h
  split at h
  ·rename_i u hu
   simp only [ZT] at h
   split at h
   ·rename_i hb
    have:=J0 hb
    subst this
    cases h
    exact ⟨hu,JT ..⟩
   ·have:=W7 h
    exact ⟨this.1,Jq _ this.2⟩
  ·have:=W7 h
   exact ⟨this.1,Jq _ this.2⟩
structure It where
 i:Nat
 o:Oper
 m:Nat
 q:Nat
def Zdg (q:Nat):Op->Bool
 | .assign _=> !Nat.beq q 0
 | o=>Zdf o
def X0 (it:It):Bool:=Zdg it.q it.o.op
def Y8 (it:It):Bool:=ZiS it.q it.o.op
def bsI (it:It):Bool:=match it.o.op with|.buildSlice .. =>Y8 it|_=>false
def XV (it:It):Bool:= !X0 it&& !Y8 it
def QH:List Nat->Nat->Nat
 | [],_=>0
 | a::_,0=>a
 | _::r,n+1=>QH r n
def QV (acc:List Nat):List Edge->Nat->Nat
 | [],s=>s
 | e::r,s=>match Region.binds .any e with
  | true=>QV acc r (Nat.lor (Nat.lor s (2^e.on)) (QH acc e.on))
  | false=>QV acc r s
def ZY (q:Nat):Nat->List Nat->List Oper->List It
 | _,_,[]=>[]
 | k,acc,o::r=>⟨k,o,QV acc o.after.toList 0,q⟩::ZY q (k+1) (acc++[QV acc o.after.toList 0]) r
def Z4B (all:List Oper) (g:Option (Nat×Bool)):List Nat:=
 match g with
 | none=>[]
 | some (j,_)=>match Z1Q all j with|some d=>[d]|none=>[]
def WB (all:List Oper) (o:Oper):List Nat:=Z4B all o.guard++opT o.op
def Z8H (x:Nat):List Nat->Bool
 | []=>false
 | y::r=>match Nat.beq x y with|true=>true|false=>Z8H x r
theorem UQ (x:Nat):∀l:List Nat,Z8H x l=true↔x∈l
 | []=>by simp [Z8H]
 | y::r=>by
  unfold Z8H
  split
  ·rename_i h;simp [J0 h]
  ·rename_i h
   have hne:x≠y:=fun e=>by subst e;rw [Jj] at h;cases h
   simp [UQ x r,hne]
def Z1T (all:List Oper) (a b:It):Bool:=match a.o.dst with|some x=>Z8H x (WB all b.o)|none=>false
def Z5V (a b:It):Bool:=match a.o.dst,b.o.dst with|some x,some y=>Nat.beq x y|_,_=>false
def Z8I (f:It->Bool):List It->Bool
 | []=>false
 | a::r=>match f a with|true=>true|false=>Z8I f r
def Z0d (f:It->Bool):List It->Bool
 | []=>true
 | a::r=>match f a with|true=>Z0d f r|false=>false
theorem Z0N (f:It->Bool):∀l,Z8I f l=true↔∃a∈l,f a=true
 | []=>by simp [Z8I]
 | a::r=>by
  unfold Z8I
  split
  ·rename_i h;simp [h]
  ·rename_i h;simp [h,Z0N f r]
theorem Xg (f:It->Bool):∀l,Z0d f l=true↔∀a∈l,f a=true
 | []=>by simp [Z0d]
 | a::r=>by
  unfold Z0d
  split
  ·rename_i h;simp [h,Xg f r]
  ·rename_i h;simp [h]
def ZiT (all:List Oper) (its:List It) (a b:It):Bool:=
 Nat.beq a.i b.i||(!Z5V a b&&(!Z1T all a b||b.m.testBit a.i||(a.m.testBit b.i&&(XV a||(X0 a&&Z8I (fun e=>XV e&&e.m.testBit b.i&&a.m.testBit e.i) its)))))
def Z3h (it:It):Bool:=it.o.after.toList.all fun e=> !Region.binds .any e||Nat.blt e.on it.i
def Z8J (P:Program) (all:List Oper) (its:List It) (a:It):Bool:=
 Z3h a&&(XV a|| !Z1T all a a)&&
 (match a.o.guard with|none=>true|some (j,_)=>a.m.testBit j&&(Z1Q all j).isSome)&&
 (match Y8 a with
  | true=>a.o.guard.isNone&&a.o.dst.isSome&&(match a.o.op with|.alloc T=>(Z0G P T).isSome|_=>true)&&Z0d (fun p=> !Z1T all p a||a.m.testBit p.i) its
  | false=>true)&&
 (!(X0 a||bsI a)||Z0d (fun p=> !Y8 p|| !a.m.testBit p.i||Z8I (fun e=>XV e&&e.m.testBit p.i&&a.m.testBit e.i) its) its)
def ZlE (P:Program) (all:List Oper) (its:List It):Bool:=Z0d (fun a=>Z8J P all its a&&Z0d (ZiT all its a) its) its
def Qv (P:Program) (all:List Oper):List It->List It->Nat->List (It×AV)->St->(List It->Nat->List (It×AV)->St->Prop)->Prop
 | [],kept,D,pend,s,K=>K kept D pend s
 | it::r,kept,D,pend,s,K=>
  match X0 it&&Nat.beq (Nat.land it.m D) it.m with
  | true=>Z0c all it.o.guard s
    (fun s'=>opQ P it.o.op (Vn s'.t (opT it.o.op)) s'.h fun v=>UB s' it.o.dst v fun s2=>Qv P all r kept (Nat.lor D (2^it.i)) ((it,v)::pend) s2 K)
    (fun s'=>UB s' it.o.dst (.tuple []) fun s2=>Qv P all r kept (Nat.lor D (2^it.i)) pend s2 K)
  | false=>Qv P all r (kept++[it]) D pend s K
mutual
/-- One value is the other. -/
def X3:AV->AV->Prop->Prop
 | .top,v,Z=>match v with|.top=>Z|_=>False
 | .bool b,v,Z=>match v with|.bool a=>Z6 (a=b) Z|_=>False
 | .int k b,v,Z=>match v with
  | .int k' a=>match decide (k'=k) with|true=>Z6 (a=b) Z|false=>False
  | _=>False
 | .str b,v,Z=>match v with|.str a=>a=b/\Z|_=>False
 | .ptr none,v,Z=>match v with|.ptr none=>Z|_=>False
 | .ptr (some q),v,Z=>match v with
  | .ptr (some p)=>Z6 (p.blk=q.blk) (Z6 (p.row=q.row) (Z6 (p.sz=q.sz) (Z6 (p.off=q.off) (Z6 (p.inn=q.inn) Z))))
  | _=>False
 | .nslice q esz len lo,v,Z=>match v with
  | .nslice p esz' len' lo'=>Z6 (p.blk=q.blk) (Z6 (p.row=q.row) (Z6 (p.sz=q.sz) (Z6 (p.off=q.off) (Z6 (p.inn=q.inn) (Z6 (esz'=esz) (Z6 (len'=len) (Z6 (lo'=lo) Z)))))))
  | _=>False
 | .vints k xs len,v,Z=>match v with
  | .vints k' xs' len'=>match decide (k'=k) with|true=>xs'=xs/\Z6 (len'=len) Z|false=>False
  | _=>False
 | .vrows esz n f len,v,Z=>match v with
  | .vrows esz' n' f' len'=>Z6 (esz'=esz) (Z6 (n'=n) (f'=f/\Z6 (len'=len) Z))
  | _=>False
 | .eslice,v,Z=>match v with|.eslice=>Z|_=>False
 | .fslice,v,Z=>match v with|.fslice=>Z|_=>False
 | .nilslice,v,Z=>match v with|.nilslice=>Z|_=>False
 | .map none,v,Z=>match v with|.map none=>Z|_=>False
 | .map (some y),v,Z=>match v with|.map (some x)=>Z6 (x=y) Z|_=>False
 | .yield y,v,Z=>match v with|.yield x=>Z6 (x=y) Z|_=>False
 | .nilFunc,v,Z=>match v with|.nilFunc=>Z|_=>False
 | .nilIface,v,Z=>match v with|.nilIface=>Z|_=>False
 | .arr k n xs,v,Z=>match v with
  | .arr k' n' xs'=>match decide (k'=k)&&Nat.beq n' n with|true=>xs'=xs/\Z|false=>False
  | _=>False
 | .pview cs inn,v,Z=>match v with|.pview cs' inn'=>Z0O cs cs' (Z6 (inn'=inn) Z)|_=>False
 | .func (.func g) fs cs,v,Z=>match v with
  | .func (.func g') fs' cs'=>match Nat.beq g' g with|true=>Z0O fs fs' (Z0O cs cs' Z)|false=>False
  | _=>False
 | .func a b c,v,Z=>v=.func a b c/\Z
 | .iface t u,v,Z=>match v with
  | .iface t' u'=>match Nat.beq t' t with|true=>X3 u u' Z|false=>False
  | _=>False
 | .agg cs,v,Z=>match v with|.agg cs'=>Z0O cs cs' Z|_=>False
 | .tuple cs,v,Z=>match v with|.tuple cs'=>Z0O cs cs' Z|_=>False
def Z0O:List AV->List AV->Prop->Prop
 | [],l,Z=>match l with|[]=>Z|_::_=>False
 | v::r,l,Z=>match l with|v'::r'=>X3 v v' (Z0O r r' Z)|[]=>False
end
set_option maxHeartbeats 1000000 in
mutual
theorem Z3i:∀(v₂ v:AV) (Z:Prop),X3 v₂ v Z->v=v₂/\Z
 | .top,v,Z,h=>by unfold X3 at h;split at h<;>first|exact ⟨rfl,h⟩|simp_all
 | .bool b,v,Z,h=>by
  unfold X3 at h
  grind [Zf]
 | .int k b,v,Z,h=>by
  unfold X3 at h
  split at h
  ·split at h
   ·rename_i hk
    have hk:=of_decide_eq_true hk
    grind [Zf]
   simp_all
  simp_all
 | .str b,v,Z,h=>by
  unfold X3 at h
  grind
 | .ptr none,v,Z,h=>by unfold X3 at h;split at h<;>first|exact ⟨rfl,h⟩|simp_all
 | .ptr (some q),v,Z,h=>by
  unfold X3 at h
  split at h
  ·rename_i p
   obtain ⟨p1,p2,p3,p4,p5⟩:=p
   obtain ⟨q1,q2,q3,q4,q5⟩:=q
   replace h:=Zf h;grind [Zf]
  simp_all
 | .nslice q esz len lo,v,Z,h=>by
  unfold X3 at h
  split at h
  ·rename_i p _ _ _
   obtain ⟨p1,p2,p3,p4,p5⟩:=p
   obtain ⟨q1,q2,q3,q4,q5⟩:=q
   grind [Zf]
  simp_all
 | .vints k xs len,v,Z,h=>by
  unfold X3 at h
  split at h
  ·split at h
   ·grind [Zf]
   simp_all
  simp_all
 | .vrows esz n f len,v,Z,h=>by
  unfold X3 at h
  grind [Zf]
 | .eslice,v,Z,h=>by unfold X3 at h;split at h<;>first|simp_all
 | .fslice,v,Z,h=>by unfold X3 at h;split at h<;>first|simp_all
 | .nilslice,v,Z,h=>by unfold X3 at h;split at h<;>first|simp_all
 | .map none,v,Z,h=>by unfold X3 at h;split at h<;>first|simp_all
 | .map (some y),v,Z,h=>by
  unfold X3 at h
  grind [Zf]
 | .yield y,v,Z,h=>by
  unfold X3 at h
  grind [Zf]
 | .nilFunc,v,Z,h=>by unfold X3 at h;split at h<;>first|simp_all
 | .nilIface,v,Z,h=>by unfold X3 at h;split at h<;>first|simp_all
 | .arr k n xs,v,Z,h=>by
  unfold X3 at h
  split at h
  ·split at h
   all_goals simp_all
  simp_all
 | .pview cs inn,v,Z,h=>by
  unfold X3 at h
  split at h
  ·replace h:=VS cs _ _ h;obtain ⟨e,h⟩:=h
   subst e
   replace h:=Zf h;obtain ⟨rfl,h⟩:=h;exact ⟨rfl,h⟩
  ·exact h.elim
 | .func (.func g) fs cs,v,Z,h=>by
  unfold X3 at h
  split at h
  ·split at h
   ·rename_i hb
    have:=J0 hb
    subst this
    replace h:=VS fs _ _ h;obtain ⟨e,h⟩:=h
    subst e
    replace h:=VS cs _ _ h;obtain ⟨e,h⟩:=h
    subst e
    exact ⟨rfl,h⟩
   ·exact h.elim
  ·exact h.elim
 | .func (.method _) _ _,v,Z,h=>by exact h
 | .func (.methodOf _ _) _ _,v,Z,h=>by exact h
 | .func (.via _ _ _ _) _ _,v,Z,h=>by exact h
 | .func (.yield _) _ _,v,Z,h=>by exact h
 | .iface t u,v,Z,h=>by
  unfold X3 at h
  split at h
  ·split at h
   ·rename_i hb
    have:=J0 hb
    subst this
    replace h:=Z3i u _ _ h;obtain ⟨e,h⟩:=h
    subst e
    exact ⟨rfl,h⟩
   ·exact h.elim
  ·exact h.elim
 | .agg cs,v,Z,h=>by
  unfold X3 at h
  split at h
  ·replace h:=VS cs _ _ h;obtain ⟨e,h⟩:=h
   subst e
   exact ⟨rfl,h⟩
  ·exact h.elim
 | .tuple cs,v,Z,h=>by
  unfold X3 at h
  split at h
  ·replace h:=VS cs _ _ h;obtain ⟨e,h⟩:=h
   subst e
   exact ⟨rfl,h⟩
  ·exact h.elim
theorem VS:∀(l₂ l:List AV) (Z:Prop),Z0O l₂ l Z->l=l₂/\Z
 | [],l,Z,h=>by unfold Z0O at h;split at h<;>first|simp_all
 | v::r,l,Z,h=>by
  unfold Z0O at h
  split at h
  ·replace h:=Z3i v _ _ h;obtain ⟨e,h⟩:=h
   subst e
   replace h:=VS r _ _ h;obtain ⟨e,h⟩:=h
   subst e
   exact ⟨rfl,h⟩
  ·exact h.elim
end
def VT (P:Program) (t:Y2) (h:Z8) (K:Prop):List (It×AV)->Prop
 | []=>K
 | (it,v)::r=>match worldless it.o.op with
  | true=>VT P t h K r
  | false=>opQ P it.o.op (Vn t (opT it.o.op)) h fun v'=>X3 v v' (VT P t h K r)
def Z4C (P:Program) (h:Z8) (o:Op) (t:Y2) (K:AV->Z8->Prop):Prop:=
 match o with
 | .alloc T=>Z2Q P h T K
 | .buildSlice T len ps=>Wq P h T len (Zd0 t ps.toList) K
 | _=>False
def Z3j (P:Program) (D:Nat) (s:St) (K:Prop):List It->Prop
 | []=>K
 | it::r=>match bsI it&&Nat.beq (Nat.land it.m D) it.m with
  | true=>Z4C P s.h it.o.op (Vn s.t (opT it.o.op)) fun _ _=>Z3j P D s K r
  | false=>Z3j P D s K r
def Z1m (P:Program) (m:Nat) (pd:List (It×AV)):List It->List It->Nat->St->(List It->Nat->St->Prop)->Prop
 | [],kept,D,s,K=>K kept D s
 | it::r,kept,D,s,K=>
  match Y8 it&&m.testBit it.i with
  | true=>Z4C P s.h it.o.op (Vn s.t (opT it.o.op)) fun v h'=>UB { s with h:=h'} it.o.dst v fun s2=>VT P s2.t s2.h (Z1m P m pd r kept (Nat.lor D (2^it.i)) s2 K) pd
  | false=>Z1m P m pd r (kept++[it]) D s K
def V3:List It->Option It
 | []=>none
 | it::r=>match XV it with|true=>some it|false=>V3 r
def VU (i:Nat):List It->List It
 | []=>[]
 | it::r=>match Nat.beq it.i i with|true=>VU i r|false=>it::VU i r
def VV (m:Nat):List (It×AV)->List (It×AV)
 | []=>[]
 | (it,v)::r=>match m.testBit it.i with|true=>VV m r|false=>(it,v)::VV m r
def Z3k (t:Y2):List It->Y2
 | []=>t
 | it::r=>match it.o.dst with|some x=>Z4a (Z3k t r) x|none=>Z3k t r
def ZiU:List It->Nat
 | []=>0
 | it::r=>Nat.lor (2^it.i) (ZiU r)
def Z0P (m:Nat):List It->Bool
 | []=>false
 | it::r=>(XV it&&m.testBit it.i)||Z0P m r
def Z4D (rem:List It) (it:It):Bool:=XV it&& !Z0P it.m rem
def Z2h (rem:List It):List It->Bool
 | []=>false
 | it::r=>Z4D rem it||Z2h rem r
def Z3l (f:It->Prop) (rem:List It):List It->Prop
 | []=>True
 | it::r=>match Z4D rem it with
  | true=>(match Z2h rem r with|true=>f it/\Z3l f rem r|false=>f it)
  | false=>Z3l f rem r
theorem Z1U {rem:List It} {it:It}:∀{l:List It},it∈l->Z4D rem it=true->Z2h rem l=true
 | x::r,hm,hc=>by
  unfold Z2h
  cases hm with
  | head=>rw [hc];rfl
  | tail _ h=>rw [Z1U h hc];simp
theorem Z0e {f:It->Prop} {rem:List It} {it:It}:∀{l:List It},Z3l f rem l->it∈l->Z4D rem it=true->f it
 | x::r,h,hm,hc=>by
  unfold Z3l at h
  split at h
  ·split at h
   ·cases hm with
    | head=>exact h.1
    | tail _ hm=>exact Z0e h.2 hm hc
   ·rename_i ha
    cases hm with
    | head=>exact h
    | tail _ hm=>rw [Z1U hm hc] at ha;cases ha
  ·rename_i hx
   cases hm with
   | head=>rw [hc] at hx;cases hx
   | tail _ hm=>exact Z0e h hm hc
theorem UR {m:Nat}:∀{l:List It},(∀q∈l,XV q=true->m.testBit q.i=false)->Z0P m l=false
 | [],_=>rfl
 | x::r,h=>by
  unfold Z0P
  rw [UR fun q hq=>h q (Jq _ hq),Bool.or_false]
  simp_all
def Uj (cx:Ctx) (P:Program) (all:List Oper) (its:List It) (next:List It->Nat->List (It×AV)->St->KE->Prop) (rem:List It) (D:Nat) (pend:List (It×AV)) (s:St) (X:KE):Prop:=
 match Z0d (fun it=> !X0 it|| !Nat.beq (Nat.land it.m D) it.m) rem with
 | false=>False
 | true=>Z3j P D s (match V3 rem with
  | none=>Z1m P (ZiU its) [] rem [] D s fun _ _ s=>X .normal s
  | some _=>Z3l (fun e=>Z1m P e.m (VV e.m pend) rem [] D s fun rem D s=>match Nat.beq (Nat.land e.m D) e.m with
    | false=>False
    | true=>Z0c all e.o.guard s
     (fun s2=>match Z8C cx P e.o.op (Vn s2.t (opT e.o.op)) with
      | some (S,args)=>S args s2.h fun v=>UB s2 e.o.dst v fun s3=>next (VU e.i rem) (Nat.lor D (2^e.i)) (VV e.m pend) s3 X
      | none=>Z3d cx P e.o.op (Vn s2.t (opT e.o.op)) s2.h s2.d
       (fun v h' d'=>UB ⟨s2.n,s2.t,h',d'⟩ e.o.dst v fun s3=>VT P s3.t s3.h (next (VU e.i rem) (Nat.lor D (2^e.i)) (VV e.m pend) s3 X) (VV e.m pend))
       (fun v h'=>X (.panic v) ⟨s2.n,Z3k s2.t its,h',s2.d⟩))
     (fun s2=>UB s2 e.o.dst (.tuple []) fun s3=>next (VU e.i rem) (Nat.lor D (2^e.i)) (VV e.m pend) s3 X)) rem rem) rem
def Z1n (cx:Ctx) (P:Program) (all:List Oper) (its:List It):Nat->List It->Nat->List (It×AV)->St->KE->Prop
 | 0,_,_,_,_,_=>False
 | n+1,rem,D,pend,s,X=>Qv P all rem [] D pend s fun rem D pend s=>Uj cx P all its (Z1n cx P all its n) rem D pend s X
def V4 (t:Y2):List It->Y2
 | []=>t
 | it::r=>match Y8 it,it.o.dst with|true,some x=>Z4a (V4 t r) x|_,_=>V4 t r
structure V5 where
 i:Nat
 c:Int
 y:Nat
structure SpD where
 i:Nat
 x:Nat
 T:TypeId
 k:IntKind
 js:List V5
def isSp:Op->Bool
 | .makeMap _ none=>true
 | .insert .. =>true
 | _=>false
def Vo:List It->List It
 | []=>[]
 | it::r=>match isSp it.o.op with|true=>Vo r|false=>it::Vo r
def spK:List It->Option (TypeId×IntKind)
 | []=>none
 | it::r=>match it.o.op with
  | .insert T _ (.const (.int k _)) _=>some (T,k)
  | _=>spK r
def Zju:List It->List V5
 | []=>[]
 | it::r=>match it.o.op with
  | .insert _ _ (.const (.int _ c)) (.tmp y)=>⟨it.i,c,y⟩::Zju r
  | _=>Zju r
def spM:List It->Option (Nat×Nat)
 | []=>none
 | it::r=>match it.o.op,it.o.dst with
  | .makeMap _ none,some x=>some (it.i,x)
  | _,_=>spM r
def ZoY (its:List It):Option SpD:=
 match spM its,spK its with
 | some (i,x),some (T,k)=>some ⟨i,x,T,k,Zju its⟩
 | _,_=>none
def Zdh (f:V5->Bool):List V5->Bool
 | []=>false
 | a::r=>match f a with|true=>true|false=>Zdh f r
def Z74 (f:V5->Bool):List V5->Bool
 | []=>true
 | a::r=>match f a with|true=>Z74 f r|false=>false
theorem Z75 (f:V5->Bool):∀l,Zdh f l=true↔∃a∈l,f a=true
 | []=>by simp [Zdh]
 | a::r=>by
  unfold Zdh
  split
  ·rename_i h;simp [h]
  ·rename_i h;simp [h,Z75 f r]
theorem US (f:V5->Bool):∀l,Z74 f l=true↔∀a∈l,f a=true
 | []=>by simp [Z74]
 | a::r=>by
  unfold Z74
  split
  ·rename_i h;simp [h,US f r]
  ·rename_i h;simp [h]
def Z0f:List V5->Bool
 | []=>true
 | a::r=>Z74 (fun b=> !Nat.beq a.i b.i&& !decide (a.c=b.c)) r&&Z0f r
def Z4E (it:It) (x:Nat):Bool:=match it.o.dst with|some y=>Nat.beq y x|none=>false
def Z76 (d:SpD) (it:It):Bool:=
 Z3h it&&it.o.guard.isNone&&match it.o.op with
 | .makeMap _ none=>Nat.beq it.i d.i&&Z4E it d.x
 | .insert T (.tmp m) (.const (.int k c)) (.tmp y)=>it.o.dst.isNone&&Nat.beq T d.T&&Nat.beq m d.x&&decide (k=d.k)&&Zdh (fun j=>Nat.beq j.i it.i&&decide (j.c=c)&&Nat.beq j.y y) d.js
 | _=>false
def Zdi (all:List Oper) (d:SpD) (it:It):Bool:=
 !Nat.beq it.i d.i&& !it.m.testBit d.i&& !Z4E it d.x&& !Z8H d.x (WB all it.o)&&Z74 (fun j=> !Nat.beq it.i j.i&& !it.m.testBit j.i) d.js
def jOk (d:SpD) (its0 its:List It) (j:V5):Bool:=
 !Nat.beq j.i d.i&& !Nat.beq j.y d.x&&Z8I (fun it=>Nat.beq it.i j.i&&it.m.testBit d.i&&Z0d (fun p=> !Z4E p j.y||it.m.testBit p.i) its) its0
def Z27 (it:It):Bool:=
 Z3h it&&it.o.guard.isNone&&Nat.beq (it.m+1) (2^it.i)&&match it.o.op with|.move _=>true|.assign _=>true|_=>false
def spB (P:Program) (all:List Oper) (its0 its:List It) (d:SpD):Bool:=
 (UM P d.T).isSome&&Z0f d.js&&Z74 (jOk d its0 its) d.js&&Z0d (fun it=>match isSp it.o.op with|true=>Z76 d it|false=>Zdi all d it||Z27 it) its0&&Z0d (Zdi all d) its
def ZlF (P:Program) (all:List Oper) (its0 its:List It):Option SpD->Bool
 | none=>true
 | some d=>spB P all its0 its d
def Za9 (t:Y2) (k:IntKind) (js:List V5) (K:List (AV×AV)->Prop):Prop:=
 match js with
 | []=>K []
 | j::r=>match ZT t j.y with
  | some v=>Za9 t k r fun es=>K ((.int k j.c,v)::es)
  | none=>False
def Zdj (sp:Option SpD) (s:St) (K:St->Prop):Prop:=
 match sp with
 | none=>K s
 | some d=>Za9 s.t d.k d.js fun es=>UB { s with h:=s.h.add (.pmap es)} (some d.x) (.map (some s.h.next)) K
def spX (sp:Option SpD) (X:KE):KE:=fun e s=>match e with
 | .normal=>Zdj sp s fun s=>X .normal s
 | e=>X e s
def Z77 (sp:Option SpD) (t:Y2):Y2:=match sp with|none=>t|some d=>Z4a t d.x
def Zjv (sp:Option SpD) (n m:Nat):Bool:=match sp with|none=>true|some d=>Nat.blt d.x n&&Nat.blt d.i m&&Z74 (fun j=>Nat.blt j.i m) d.js
def WC:List It->List It
 | []=>[]
 | it::r=>match WC r with
  | []=>(match Z27 it with|true=>[]|false=>[it])
  | a::m=>it::a::m
def UT:List It->List It
 | []=>[]
 | it::r=>match WC r with
  | []=>(match Z27 it with|true=>it::UT r|false=>UT r)
  | _::_=>UT r
def tailA (P:Program):List It->St->(St->Prop)->Prop
 | [],s,K=>K s
 | it::r,s,K=>opQ P it.o.op s.t s.h fun v=>UB s it.o.dst v fun s2=>tailA P r s2 K
def tlX (P:Program) (T:List It) (X:KE):KE:=fun e s=>match e with
 | .normal=>tailA P T s fun s=>X .normal s
 | e=>X e s
def Zaa (cx:Ctx) (P:Program) (all:List Oper) (its0 its:List It) (sp:Option SpD) (T:List It) (n0:Nat) (s:St) (X:KE) (Z:Prop):Prop:=
 match P.follows .mixedOrders&&ZlE P all its&&ZlF P all its0 its sp&&Zjv sp s.n n0&&Z0d (fun a=>Nat.blt a.i n0) its&&Z0d Z27 T&&Z0d (fun it=> !Y8 it||(match it.o.dst with|some x=>Nat.blt x s.n|none=>true)) its with
 | true=>Z1n cx P all its (all.length+1) its 0 [] { s with t:=Z77 sp (V4 s.t its)} (spX sp (tlX P T X))
 | false=>Z
def ZiV:List Oper->Bool
 | []=>false
 | o::r=>match o.op with|.insert .. =>true|_=>ZiV r
def Zdk (P:Program) (cx:Ctx) (all:List Oper) (its:List It) (s:St) (X:KE) (Z:Prop):Prop:=Zaa cx P all its its none [] all.length s X Z
def ZiW (P:Program) (cx:Ctx) (all:List Oper) (its:List It) (s:St) (X:KE):Prop:=
 match ZoY its with
 | some d=>Zaa cx P all its (Vo (WC its)) (some d) (UT its) (WC its).length s X False
 | none=>False
def Zdl (P:Program) (cx:Ctx) (all:List Oper) (s:St) (X:KE):Prop:=
 match ZiV all with
 | true=>ZiW P cx all (ZY 2 0 [] all) s X
 | false=>Zdk P cx all (ZY 1 0 [] all) s X (Zdk P cx all (ZY 0 0 [] all) s X False)
theorem Qw {acc:List Nat}:∀{es:List Edge} {s p:Nat},(QV acc es s).testBit p=true->s.testBit p=true\/∃e∈es,Region.binds .any e=true/\(p=e.on\/(QH acc e.on).testBit p=true)
 | [],s,p,h=>.inl h
 | e::r,s,p,h=>by
  unfold QV at h
  split at h
  ·rcases Qw h with h1|⟨e',he,h2⟩
   ·have h1':(s|||2^e.on|||QH acc e.on).testBit p=true:=h1
    grind
   grind
  simp_all [Qw]
theorem XQ {qm:Nat}:∀{r:List Oper} {k:Nat} {acc:List Nat} {j:Nat} {it:It},(ZY qm k acc r)[j]? =some it->it.i=k+j/\r[j]? =some it.o
 | [],_,_,j,it,h=>by simp [ZY] at h
 | o::r,k,acc,0,it,h=>by simp [ZY] at h;grind
 | o::r,k,acc,j+1,it,h=>by
  simp only [ZY] at h
  have:=XQ h
  exact ⟨by omega,by simpa using this.2⟩
theorem W9 {qm:Nat}:∀{r:List Oper} {k:Nat} {acc:List Nat},(ZY qm k acc r).length=r.length
 | [],_,_=>rfl
 | o::r,k,acc=>by simp [ZY,W9]
theorem Z4F {acc:List Nat} {m j:Nat}:QH (acc++[m]) j=if j=acc.length then m else QH acc j:=by
 induction acc generalizing j with
 | nil=>cases j<;>simp [QH]
 | cons a r ih=>
  cases j with
  | zero=>simp [QH]
  | succ j=>simp [QH,ih]
theorem Uk {qm:Nat} {L:Nat->Prop} {all:List Oper} (hdown:∀i o e,all[i]? =some o->L i->e∈o.after.toList->Region.binds .any e=true->L e.on):
  ∀{r:List Oper} {k:Nat} {acc:List Nat},acc.length=k->(∀j,r[j]? =all[k+j]?)->(∀j p,j<k->L j->(QH acc j).testBit p=true->L p)->
   (∀j,k<=j->QH acc j=0)->∀it∈ZY qm k acc r,L it.i->∀p,it.m.testBit p=true->L p
 | [],_,_,_,_,_,_,it,h,_,_,_=>by simp [ZY] at h
 | o::r,k,acc,hk,hr,hacc,hz,it,h,hL,p,hp=>by
  have h0:all[k]? =some o:=by have:=hr 0;simp_all
  have hself:L k->∀p,(QV acc o.after.toList 0).testBit p=true->L p:=fun hk' p hp=>by
   rcases Qw hp with h1|⟨e,he,hb,h2⟩
   all_goals grind
  simp only [ZY,J8] at h
  rcases h with rfl|h
  ·simp_all
  ·refine Uk hdown (k:=k+1) (acc:=acc++[QV acc o.after.toList 0]) (by simp [hk]) (fun j=> ?_) ?_ ?_ it h hL p hp
   ·have:=hr (j+1)
    rw [show k+1+j=k+(j+1) from by omega,<-this]
    simp
   all_goals grind [Z4F]
def WI (all:List Oper) (t:Y2) (g:Option (Nat×Bool)):Option Bool:=
 match g with
 | none=>some true
 | some (j,want)=>match Z1Q all j with
  | none=>none
  | some d=>match ZT t d with
   | some (.bool b)=>some (b==want)
   | some (.tuple [])=>some false
   | _=>none
theorem Z1V {all:List Oper} {g:Option (Nat×Bool)} {s:St} {run skip:St->Prop} (h:Z0c all g s run skip):
  ∃s',(∀x,ZT s'.t x=ZT s.t x)/\s'.h=s.h/\s'.n=s.n/\s'.d=s.d/\((WI all s.t g=some true/\run s')\/(WI all s.t g=some false/\skip s')):=by
 unfold Z0c at h
 split at h
 ·exact ⟨s,fun _=>rfl,rfl,rfl,rfl,.inl ⟨rfl,h⟩⟩
 ·rename_i j want
  split at h
  ·simp_all
  ·rename_i d hd
   split at h
   ·rename_i b hb
    have key:∀c,b=c->∀x,ZT (UF s.t d (.bool c)) x=ZT s.t x:=fun c hc x=>by
     grind [XG,Xt]
    cases b with
    | true=>
     refine ⟨{ s with t:=UF s.t d (.bool true)},key true rfl,rfl,rfl,rfl, ?_⟩
     cases want with
     | true=>exact .inl ⟨by simp [WI,hd,hb],h⟩
     | false=>exact .inr ⟨by simp [WI,hd,hb],h⟩
    | false=>
     refine ⟨{ s with t:=UF s.t d (.bool false)},key false rfl,rfl,rfl,rfl, ?_⟩
     cases want with
     | true=>exact .inr ⟨by simp [WI,hd,hb],h⟩
     | false=>exact .inl ⟨by simp [WI,hd,hb],h⟩
   all_goals grind [WI]
theorem Qx {all:List Oper} {o:Oper} {t:Y2} {c:Bool} (h:WI all t o.guard=some c) {E:Env} {a:Act}
  (hrel:∀x∈Z4B all o.guard,∀v,ZT t x=some v->Zk E v (a.tmps.getD x undef)):Region.wanted o (yielded all.toArray a.tmps)=c:=by
 unfold WI at h
 split at h
 ·simp_all [Region.wanted]
 ·rename_i j want hg
  split at h
  ·cases h
  ·rename_i d hd
   have hdst:(all.toArray[j]?).bind (·.dst)=some d:=by
    unfold Z1Q at hd
    grind
   have hmem:d∈Z4B all o.guard:=by simp [Z4B,hg,hd]
   split at h
   ·rename_i b hb
    have hv:=hrel d hmem _ hb
    have hreal:a.tmps[d]? =some (.bool b):=by
     rw [Jt] at hv
     cases hq:a.tmps[d]? with
     | none=>rw [hq] at hv;cases hv
     | some r=>rw [hq] at hv;cases hv;rfl
    simp_all [yielded,Region.wanted]
   ·rename_i hb
    cases h
    have hv:=hrel d hmem _ hb
    have hy:yielded all.toArray a.tmps j=none:=by
     unfold yielded
     rw [hdst]
     rw [Jt] at hv
     cases hq:a.tmps[d]? with
     | none=>simp [hq]
     | some r=>
      rw [hq] at hv
      cases hv with
      | tuple vs rs hl=>simp [hq]
    simp [Region.wanted,hg,hy]
   ·cases h
def Z1o (P:Program) (it:It) (t:Y2) (h:Z8) (v:AV):Prop:=
 ∀(E:Env) (w:World) (a:Act),(worldless it.o.op=false->Emb E h w)->(∀x∈opT it.o.op,∀u,ZT t x=some u->Zk E u (a.tmps.getD x undef))->∃r,(execOp a.eval it.o).run P w=.ok (.value r) w/\Zk E v r
theorem Zab {P:Program} {it:It} {t:Y2} {h:Z8} {K:AV->Prop} (hl:opQ P it.o.op (Vn t (opT it.o.op)) h K):∃v,K v/\Z1o P it t h v:=by
 obtain ⟨v,hK,hv⟩:=Z8B hl
 refine ⟨v,hK,fun E w a he hx=>hv E w a.tmps.size a he ⟨rfl,fun x u hu=> ?_⟩⟩
 have:=W7 hu
 simp_all
theorem Z1o.congr {P:Program} {it:It} {t:Y2} {h:Z8} (hs:Z1o P it t h v) (ht:∀x∈opT it.o.op,ZT t' x=ZT t x):Z1o P it t' h v:=
 fun E w a he hx=>hs E w a he fun x hm u hu=>hx x hm u (by rw [ht x hm];exact hu)
theorem Z1o.worldless {P:Program} {it:It} {t:Y2} {h h':Z8} (hs:Z1o P it t h v) (hw:worldless it.o.op=true):Z1o P it t h' v:=
 fun E w a _ hx=>hs E w a (fun hq=>by rw [hw] at hq;cases hq) hx
theorem Vp {all:List Oper} {t:Y2} {g:Option (Nat×Bool)} (ht:∀x∈Z4B all g,ZT t' x=ZT t x):WI all t' g=WI all t g:=by
 unfold WI
 cases g with
 | none=>rfl
 | some p=>
  obtain ⟨j,want⟩:=p
  simp only
  cases hd:Z1Q all j with
  | none=>rfl
  | some d=>
   simp only
   rw [ht d (by simp [Z4B,hd])]
theorem Xx {s:St} {dst:Option Tmp} {K:St->Prop} (h:UB s dst v K):
  ∃s',K s'/\s'.h=s.h/\s'.n=s.n/\s'.d=s.d/\(∀x,dst=some x->ZT s'.t x=some v/\x<s.n)/\(∀x,dst≠some x->ZT s'.t x=ZT s.t x):=by
 unfold UB at h
 split at h
 ·exact ⟨s,h,rfl,rfl,rfl,fun x hx=>by simp at hx,fun x _=>rfl⟩
 ·split at h
  ·refine ⟨_,h,rfl,rfl,rfl,fun x hx=> ?_,fun x hx=> ?_⟩
   all_goals simp_all [XG,Xt]
  simp_all
theorem UU {a:Act} {x:Nat} {r:Value} (h:x<a.tmps.size):(a.put (some x) r).tmps.getD x undef=r:=by
 simp [Act.put,h]
theorem YS {a:Act} {dst:Option Tmp} {x:Nat} {r:Value} (h:dst≠some x):(a.put dst r).tmps.getD x undef=a.tmps.getD x undef:=by
 cases dst with
 | none=>rfl
 | some d=>
  have:d≠x:=fun e=>h (by rw [e])
  simp [Act.put,this]
theorem XW {a:Act} {dst:Option Tmp} {r:Value}:(a.put dst r).tmps.size=a.tmps.size:=by cases dst<;>simp [Act.put]
theorem put_defers {a:Act} {dst:Option Tmp} {r:Value}:(a.put dst r).defers=a.defers:=by cases dst<;>rfl
structure Stat (P:Program) (all:List Oper) (its0 its:List It) (sp:Option SpD) (n0:Nat):Prop where
 sub:∀it∈its,it∈its0
 mem0:∀it∈its0,all[it.i]? =some it.o
 mem:∀it∈its,all[it.i]? =some it.o
 ex:∀i,i<all.length->∃it∈its0,it.i=i
 uniq0:∀a∈its0,∀b∈its0,a.i=b.i->a=b
 uniq:∀a∈its,∀b∈its,a.i=b.i->a=b
 dst:∀a∈its,∀b∈its,a≠b->∀x,a.o.dst=some x->b.o.dst≠some x
 rd:∀a∈its,∀b∈its,a≠b->∀x,a.o.dst=some x->x∈WB all b.o->b.m.testBit a.i=true\/(a.m.testBit b.i=true/\(XV a=true\/(X0 a=true/\∃e∈its,XV e=true/\e.m.testBit b.i=true/\a.m.testBit e.i=true)))
 self:∀a∈its,XV a=false->∀x,a.o.dst=some x->x∉WB all a.o
 guard:∀a∈its,∀j w,a.o.guard=some (j,w)->a.m.testBit j=true/\∃d,Z1Q all j=some d
 late:∀a∈its,Y8 a=true->a.o.guard=none/\∃x,a.o.dst=some x
 lz:∀a∈its,∀T,a.o.op=.alloc T->∃cs,Z0G P T=some cs
 lrd:∀a∈its,Y8 a=true->∀p∈its,∀x,p.o.dst=some x->x∈opT a.o.op->a.m.testBit p.i=true
 qlate:∀a∈its,(X0 a||bsI a)=true->∀p∈its,Y8 p=true->a.m.testBit p.i=true->∃e∈its,XV e=true/\e.m.testBit p.i=true/\a.m.testBit e.i=true
 edges:∀a∈its0,∀e∈a.o.after.toList,Region.binds .any e=true->e.on<a.i
 spc:∀a∈its0,a∈its\/(∃d,sp=some d/\Z76 d a=true)\/(Z27 a=true/\n0<=a.i)
 un:∀d,sp=some d->∀a∈its,Zdi all d a=true
 jok:∀d,sp=some d->∀j∈d.js,jOk d its0 its j=true
 key:∀d,sp=some d->∃T,UM P d.T=some T
 alone:∀d,sp=some d->Z0f d.js=true
theorem ZgC {qm:Nat} {P:Program} {all:List Oper} {its:List It} {sp:Option SpD} {n0:Nat} (hsub:∀it∈its,it∈ZY qm 0 [] all) (hcov:∀it∈ZY qm 0 [] all,it∈its\/(isSp it.o.op=true/\sp≠none)\/(Z27 it=true/\n0<=it.i)) (h:ZlE P all its=true) (hs:ZlF P all (ZY qm 0 [] all) its sp=true):Stat P all (ZY qm 0 [] all) its sp n0:=by
 have hall:=(Xg _ _).1 h
 have hget:∀it∈ZY qm 0 [] all,(ZY qm 0 [] all)[it.i]? =some it/\all[it.i]? =some it.o:=fun it hm=>by
  obtain ⟨j,hj⟩:=JO.1 hm
  have:=XQ hj
  have e:it.i=j:=by omega
  rw [e]
  exact ⟨hj,this.2⟩
 have huniq:∀a∈ZY qm 0 [] all,∀b∈ZY qm 0 [] all,a.i=b.i->a=b:=fun a ha b hb e=>by
  have h1:=(hget a ha).1
  have h2:=(hget b hb).1
  rw [e,h2] at h1
  simp_all
 have hpair:∀a∈its,∀b∈its,a≠b->Z5V a b=false/\(Z1T all a b=true->b.m.testBit a.i=true\/(a.m.testBit b.i=true/\(XV a=true\/(X0 a=true/\∃e∈its,XV e=true/\e.m.testBit b.i=true/\a.m.testBit e.i=true)))):=fun a ha b hb hne=>by
  have h1:=hall a ha
  simp only [J3] at h1
  have h2:=(Xg _ _).1 h1.2 b hb
  unfold ZiT at h2
  have hi:Nat.beq a.i b.i=false:=ZD fun e=>hne (huniq a (hsub a ha) b (hsub b hb) e)
  rw [hi] at h2
  simp only [Bool.false_or,J3,J6,JZ] at h2
  refine ⟨h2.1,fun hd=> ?_⟩
  rcases h2.2 with (h3|h3)|h3
  ·rw [hd] at h3;cases h3
  ·exact .inl h3
  ·refine .inr ⟨h3.1, ?_⟩
   rcases h3.2 with h4|h4
   ·exact .inl h4
   ·refine .inr ⟨h4.1, ?_⟩
    obtain ⟨e,he,h5⟩:=(Z0N _ _).1 h4.2
    grind
 have hone:∀a∈its,Z8J P all its a=true:=fun a ha=>by
  have h1:=hall a ha
  simp only [J3] at h1
  exact h1.1
 have hlate:∀a∈its,Y8 a=true->a.o.guard.isNone=true/\a.o.dst.isSome=true/\(match a.o.op with|.alloc T=>(Z0G P T).isSome|_=>true)=true/\∀p∈its,(!Z1T all p a||a.m.testBit p.i)=true:=fun a ha hl=>by
  have h1:=hone a ha
  unfold Z8J at h1
  simp only [J3] at h1
  have h2:=h1.1.2
  rw [hl] at h2
  simp only [J3] at h2
  exact ⟨h2.1.1.1,h2.1.1.2,h2.1.2,(Xg _ _).1 h2.2⟩
 have hedge:∀a,Z3h a=true->∀e∈a.o.after.toList,Region.binds .any e=true->e.on<a.i:=fun a h2 e he hb=>by
  unfold Z3h at h2
  have h3:=List.all_eq_true.1 h2 e he
  simp only [JZ,J6] at h3
  rcases h3 with h3|h3
  ·rw [hb] at h3;cases h3
  ·exact Jh h3
 have hsp:∀d,sp=some d->spB P all (ZY qm 0 [] all) its d=true:=fun d hd=>by
  subst hd;exact hs
 have hspc:∀d,sp=some d->(∀it∈ZY qm 0 [] all,isSp it.o.op=true->Z76 d it=true)/\∀it∈its,Zdi all d it=true:=fun d hd=>by
  have h1:=hsp d hd
  unfold spB at h1
  simp only [J3] at h1
  refine ⟨fun it hit h3=> ?_,(Xg _ _).1 h1.2⟩
  have h2:=(Xg _ _).1 h1.1.2 it hit
  rw [h3] at h2
  exact h2
 have hspo:∀a∈ZY qm 0 [] all,a∈its\/(∃d,sp=some d/\Z76 d a=true)\/(Z27 a=true/\n0<=a.i):=fun a ha=>by
  rcases hcov a ha with h1|⟨h1,h2⟩|h1
  ·exact .inl h1
  ·cases sp with
   | none=>exact absurd rfl h2
   | some d=>exact .inr (.inl ⟨d,rfl,(hspc d rfl).1 a ha h1⟩)
  ·exact .inr (.inr h1)
 refine ⟨hsub,fun it hm=>(hget it hm).2,fun it hm=>(hget it (hsub it hm)).2,fun i hi=> ?_,huniq,fun a ha b hb=>huniq a (hsub a ha) b (hsub b hb),fun a ha b hb hne x hx hy=> ?_,fun a ha b hb hne x hx hr=> ?_,fun a ha he x hx hr=> ?_,fun a ha j w hg=> ?_,fun a ha hl=> ?_,fun a ha T hT=> ?_,fun a ha hl p hp x hx hr=> ?_,fun a ha hq p hp hl hbit=> ?_,fun a ha=> ?_,
  hspo,fun d hd=>(hspc d hd).2,fun d hd j hj=> ?_,fun d hd=> ?_,fun d hd=> ?_⟩
 ·have hl:i<(ZY qm 0 [] all).length:=by rw [W9];exact hi
  refine ⟨(ZY qm 0 [] all)[i],Ko _, ?_⟩
  have:=XQ (j:=i) (Jd hl)
  omega
 ·have:=(hpair a ha b hb hne).1
  simp [Z5V,hx,hy,Jj] at this
 ·simp_all [Z1T,UQ]
 ·have h1:=hone a ha
  unfold Z8J at h1
  simp only [J3,JZ,J6] at h1
  grind [Z1T,UQ]
 ·have h1:=hone a ha
  unfold Z8J at h1
  simp only [J3] at h1
  have h2:=h1.1.1.2
  rw [hg] at h2
  simp only [J3] at h2
  exact ⟨h2.1,JX.1 h2.2⟩
 ·have h1:=hlate a ha hl
  exact ⟨by simpa using h1.1,JX.1 h1.2.1⟩
 ·have h1:=hlate a ha (by unfold Y8;rw [hT];rfl)
  have h2:=h1.2.2.1
  rw [hT] at h2
  exact JX.1 h2
 ·have h1:=(hlate a ha hl).2.2.2 p hp
  simp only [Z1T,hx,(UQ x _).2 (show x∈WB all a.o from Jw _ hr),Bool.not_true,Bool.false_or] at h1
  exact h1
 ·have h1:=hone a ha
  unfold Z8J at h1
  simp only [J3] at h1
  have h2:=h1.2
  rw [hq] at h2
  simp only [Bool.not_true,Bool.false_or] at h2
  have h3:=(Xg _ _).1 h2 p hp
  simp only [JZ,J6] at h3
  rcases h3 with (h3|h3)|h3
  ·rw [h3] at hl;cases hl
  ·rw [hbit] at h3;cases h3
  ·obtain ⟨e,he,h5⟩:=(Z0N _ _).1 h3
   simp only [J3] at h5
   exact ⟨e,he,h5.1.1,h5.1.2,h5.2⟩
 ·rcases hspo a ha with h1|⟨d,_,h1⟩|⟨h1,_⟩
  ·have h2:=hone a h1
   unfold Z8J at h2
   simp only [J3] at h2
   exact hedge a h2.1.1.1.1
  ·unfold Z76 at h1
   simp only [J3] at h1
   exact hedge a h1.1.1
  ·unfold Z27 at h1
   simp only [J3] at h1
   exact hedge a h1.1.1.1
 ·have h1:=hsp d hd
  unfold spB at h1
  simp only [J3] at h1
  exact (US _ _).1 h1.1.1.2 j hj
 ·have h1:=hsp d hd
  unfold spB at h1
  simp only [J3] at h1
  exact JX.1 h1.1.1.1.1
 ·have h1:=hsp d hd
  unfold spB at h1
  simp only [J3] at h1
  exact h1.1.1.1.2
end Go.Tk
end
section
namespace Go.Tk
open IntKind (i64 u8 u32 u64 wrap)
def Vq (P:Program) (it:It) (a:Act) (mkv:Nat->Value) (obj:Obj):Prop:=
 ∀w:World,(execOp a.eval it.o).run P w=.ok (.value (mkv w.heap.size)) { w with heap:=w.heap.push obj}
theorem Zbx {a a':Act} {o:Operand} (h:∀x,o=.tmp x->a'.tmps.getD x undef=a.tmps.getD x undef):a'.eval o=a.eval o:=by
 cases o with
 | tmp x=>exact h x rfl
 | _=>rfl
theorem V6 {x:Nat}:∀{l:List Operand},.tmp x∈l->x∈tmpsOf l
 | [],h=>by simp at h
 | .tmp y::r,h=>by
  rcases J8.1 h with h|h
  ·cases h;exact JT ..
  ·exact Jq _ (V6 h)
 | .const _::r,h=>by
  rcases J8.1 h with h|h
  ·cases h
  ·exact V6 (l:=r) h
 | .global _::r,h=>by
  rcases J8.1 h with h|h
  ·cases h
  ·exact V6 (l:=r) h
 | .func _::r,h=>by
  rcases J8.1 h with h|h
  ·cases h
  ·exact V6 (l:=r) h
theorem UV {it:It} (h:Y8 it=true):(∃T,it.o.op=.alloc T)\/∃T len ps,it.o.op=.buildSlice T len ps/\bsI it=true/\len≠0:=by
 have h1:=h
 unfold Y8 at h1
 cases ho:it.o.op<;>rw [ho] at h1<;>first|skip
 all_goals grind [bsI,ZiS,Jj]
theorem Vq.congr {P:Program} {it:It} {a a':Act} {mkv:Nat->Value} {obj:Obj} (hl:Y8 it=true) (h:Vq P it a mkv obj) (ha:∀x∈opT it.o.op,a'.tmps.getD x undef=a.tmps.getD x undef):Vq P it a' mkv obj:=by
 intro w
 rw [execOp_congr (ρ:=a'.eval) (ρ':=a.eval) it.o (fun cs b e=>by rcases UV hl with ⟨T,h⟩|⟨T,l,ps,h,_⟩<;>rw [h] at e<;>cases e) (fun x hx=>Zbx fun y hy=>ha y (by exact V6 (by simp_all)))]
 exact h w
def ZlG (P:Program) (w0:World) (E:Env) (h:Z8) (w:World) (a:Act) (it:It) (b:Nat):Prop:=
 ∃mkv obj,Vq P it a mkv obj/\(∀x,it.o.dst=some x->a.tmps.getD x undef=mkv b)/\w.heap[b]? =some obj/\
  ¬Xu E h b/\(∀ad c,E.imm ad c->ad.block≠b)/\w0.heap.size<=b/\b<w.heap.size
def Z3m (k:IntKind) (a:Act) (j:V5):Value×Value:=(.int k j.c,a.tmps.getD j.y undef)
def MpI (sp:Option SpD) (w0:World) (L:Nat->Prop) (bl:Nat->Nat) (rem:List It) (t:Y2) (E:Env) (h:Z8) (a:Act) (w:World):Prop:=
 ∀d,sp=some d->d.x<a.tmps.size/\ZT t d.x=none/\(L d.i->∃b ents clock,a.tmps.getD d.x undef=.map (some b)/\w.heap[b]? =some (.map ents clock)/\
  ¬Xu E h b/\(∀ad c,E.imm ad c->ad.block≠b)/\w0.heap.size<=b/\b<w.heap.size/\(∀q∈rem,L q.i->Y8 q=true->bl q.i≠b)/\
  ∃done:List V5,(done.map (·.i)).Nodup/\(∀j,j∈done↔j∈d.js/\L j.i)/\ents.toList.map (fun e=>(e.key,e.val))=done.map (Z3m d.k a))
theorem MpI.step {sp:Option SpD} {w0:World} {L L':Nat->Prop} {bl bl':Nat->Nat} {rem rem':List It} {t t':Y2} {E E':Env} {h h':Z8} {a a':Act} {w w':World} (M:MpI sp w0 L bl rem t E h a w)
  (hL:∀d,sp=some d->(L' d.i->L d.i)/\∀j∈d.js,(L' j.i↔L j.i))
  (ht:∀d,sp=some d->ZT t d.x=none->ZT t' d.x=none)
  (hz:a'.tmps.size=a.tmps.size)
  (hx:∀d,sp=some d->a'.tmps.getD d.x undef=a.tmps.getD d.x undef)
  (hy:∀d,sp=some d->∀j∈d.js,L j.i->a'.tmps.getD j.y undef=a.tmps.getD j.y undef)
  (hw:∀b,b<w.heap.size->¬Xu E h b->w'.heap[b]? =w.heap[b]?)
  (ho:∀b,b<w.heap.size->¬Xu E h b->(∀q∈rem,L q.i->Y8 q=true->bl q.i≠b)->¬Xu E' h' b)
  (hi:∀ad c,E'.imm ad c->E.imm ad c)
  (hs:w.heap.size<=w'.heap.size)
  (hb:∀q∈rem',L' q.i->Y8 q=true->∀b,b<w.heap.size->(∀q∈rem,L q.i->Y8 q=true->bl q.i≠b)->bl' q.i≠b):
  MpI sp w0 L' bl' rem' t' E' h' a' w':=by
 intro d hd
 obtain ⟨m1,m2,m3⟩:=M d hd
 grind [List.map_congr_left,Z3m]
structure Inv (P:Program) (all:List Oper) (its:List It) (sp:Option SpD) (E0:Env) (h0:Z8) (w0:World) (L:Nat->Prop) (bl:Nat->Nat) (rem:List It) (D:Nat) (pend:List (It×AV)) (s:St) (E:Env) (a:Act) (w:World):Prop where
 sub:∀it∈rem,it∈its
 nodup:rem.Pairwise fun a b=>a.i≠b.i
 dbit:∀it∈its,D.testBit it.i=true->it∉rem
 born:∀it∈its,Y8 it=false->it∉rem->∀q∈its,it.m.testBit q.i=true->q∉rem
 eff:∀it∈its,XV it=true->(L it.i↔it∉rem)
 late:∀it∈its,Y8 it=true->it∉rem->L it.i
 quiet:∀it∈its,X0 it=true->L it.i->it∉rem
 fact:∀it∈its,X0 it=true->it∉rem->¬L it.i->∃v,(∀x,it.o.dst=some x->ZT s.t x=some v)/\
  ((WI all s.t it.o.guard=some true/\(it,v)∈pend/\Z1o P it s.t s.h v)\/(WI all s.t it.o.guard=some false/\v=.tuple []))
 size:a.tmps.size=s.n
 tmps:∀x v,ZT s.t x=some v->(∀it∈its,it.o.dst=some x->X0 it=true->it∉rem->L it.i)->Zk E v (a.tmps.getD x undef)
 defs:Ug E s.d a.defers
 evo:Evo E0 h0 w0 E s.h w
 lt:∀it∈rem,Y8 it=true->∀x,it.o.dst=some x->ZT s.t x=none
 adopt:∀it∈rem,L it.i->Y8 it=true->ZlG P w0 E s.h w a it (bl it.i)
 inj:∀it∈rem,∀it'∈rem,L it.i->L it'.i->Y8 it=true->Y8 it'=true->bl it.i=bl it'.i->it=it'
 dst:∀it∈its,∀x,it.o.dst=some x->it∉rem->x<s.n
 dset:∀it∈its,it∉rem->D.testBit it.i=true
 ln:∀it∈its,Y8 it=true->∀x,it.o.dst=some x->x<s.n
 mp:MpI sp w0 L bl rem s.t E s.h a w
theorem Z28 {o:It} (h:Y8 o=true):X0 o=false:=by
 unfold X0
 rcases UV h with ⟨T,h⟩|⟨T,l,ps,h,_⟩<;>rw [h]<;>rfl
theorem YM {o:It} (h:XV o=true):X0 o=false:=by
 unfold XV at h;cases hq:X0 o<;>simp_all
theorem Xk {o:It} (h:XV o=true):Y8 o=false:=by
 unfold XV at h;cases hq:Y8 o<;>simp_all
theorem Yo {o:It} (h:X0 o=true):Y8 o=false:=by
 grind [Z28]
theorem kinds (o:It):X0 o=true\/XV o=true\/Y8 o=true:=by
 grind [XV]
theorem Wa {P:Program} {all:List Oper} {its0 its:List It} {sp:Option SpD} {n0:Nat} (hst:Stat P all its0 its sp n0) {d:SpD} (hd:sp=some d) {it:It} (hit:it∈its):
  it.i≠d.i/\it.m.testBit d.i=false/\it.o.dst≠some d.x/\d.x∉WB all it.o/\∀j∈d.js,it.i≠j.i/\it.m.testBit j.i=false:=by
 have h:=hst.un d hd it hit
 unfold Zdi at h
 simp only [J3,J6] at h
 obtain ⟨⟨⟨⟨h1,h2⟩,h3⟩,h4⟩,h5⟩:=h
 refine ⟨fun e=>(by rw [e,Jj] at h1;cases h1),h2,fun e=> ?_,fun e=> ?_,fun j hj=> ?_⟩
 ·simp_all [Z4E]
 ·rw [(UQ _ _).2 e] at h4;cases h4
 ·have h6:=(US _ _).1 h5 j hj
  grind [Jj]
theorem Z3n {P:Program} {all:List Oper} {its0 its:List It} {sp:Option SpD} {n0:Nat} (hst:Stat P all its0 its sp n0) {d:SpD} (hd:sp=some d) {j:V5} (hj:j∈d.js) {L:Nat->Prop}
  (hm:∀it∈its0,L it.i->∀p,it.m.testBit p=true->L p) (hL:L j.i):L d.i/\j.y≠d.x/\∀p∈its,p.o.dst=some j.y->L p.i:=by
 have h:=hst.jok d hd j hj
 unfold jOk at h
 simp only [J3] at h
 obtain ⟨⟨_,h1⟩,h2⟩:=h
 obtain ⟨it,hit,h3⟩:=(Z0N _ _).1 h2
 simp only [J3] at h3
 have hi:it.i=j.i:=J0 h3.1.1
 have hL':L it.i:=by rw [hi];exact hL
 refine ⟨hm it hit hL' _ h3.1.2,fun e=>(by rw [e,Jj] at h1;cases h1),fun p hp hdp=> ?_⟩
 have h4:=(Xg _ _).1 h3.2 p hp
 unfold Z4E at h4
 rw [hdp] at h4
 simp only [Jj,Bool.not_true] at h4
 grind
section
variable {P:Program} {all:List Oper} {its0 its:List It} {sp:Option SpD} {n0:Nat} {E0:Env} {h0:Z8} {w0:World} {L:Nat->Prop} {bl:Nat->Nat} {rem rem':List It} {D:Nat} {pend pend':List (It×AV)} {s s2:St} {E:Env} {a:Act} {w:World}
theorem Z5W {D i j:Nat} (h:(Nat.lor D (2^i)).testBit j=true):D.testBit j=true\/j=i:=by
 have h':(D|||2^i).testBit j=true:=h
 grind
theorem ZlH (D i:Nat):(Nat.lor D (2^i)).testBit i=true:=by
 simp_all
theorem Z3o {D i j:Nat} (h:D.testBit j=true):(Nat.lor D (2^i)).testBit j=true:=by
 simp_all
theorem Z1p {m D:Nat} (h:Nat.beq (Nat.land m D) m=true) {p:Nat} (hp:m.testBit p=true):D.testBit p=true:=by
 have e:m&&&D=m:=J0 h
 rw [<-e,Nat.testBit_and,J3] at hp
 exact hp.2
theorem Inv.birth (hst:Stat P all its0 its sp n0) (hm:∀it∈its,L it.i->∀p,it.m.testBit p=true->L p) (I:Inv P all its sp E0 h0 w0 L bl rem D pend s E a w) {it:It} (hit:it∈rem) (hq:X0 it=true)
  (hD:∀p,it.m.testBit p=true->D.testBit p=true) (hr:∀x,x∈rem'↔x∈rem/\x≠it) (hnd:rem'.Pairwise fun a b=>a.i≠b.i) {v:AV} (hp:∀x,x∈pend->x∈pend')
  (hv:(WI all s.t it.o.guard=some true/\(it,v)∈pend'/\Z1o P it s.t s.h v)\/(WI all s.t it.o.guard=some false/\v=.tuple []))
  (e1:s2.h=s.h) (e2:s2.n=s.n) (e3:s2.d=s.d) (e4:∀x,it.o.dst=some x->ZT s2.t x=some v/\x<s.n) (e5:∀x,it.o.dst≠some x->ZT s2.t x=ZT s.t x):
  Inv P all its sp E0 h0 w0 L bl rem' (Nat.lor D (2^it.i)) pend' s2 E a w:=by
 have hits:=I.sub it hit
 have hne:∀q∈its,q≠it->q.i≠it.i:=fun q hq' hn e=>hn (hst.uniq q hq' it hits e)
 have hnL:¬L it.i:=fun hL=>I.quiet it hits hq hL hit
 have hback:∀q∈its,q∉rem'->q=it\/q∉rem:=fun q _ hn=>by
  by_cases h:q=it
  ·exact .inl h
  ·exact .inr fun hr'=>hn ((hr q).2 ⟨hr',h⟩)
 have hfwd:∀q,q∉rem->q∉rem':=fun q hn h=>hn ((hr q).1 h).1
 have hqe:XV it=false:=by
  cases he:XV it with
  | false=>rfl
  | true=>rw [YM he] at hq;cases hq
 refine ⟨fun q hq'=>I.sub q ((hr q).1 hq').1,hnd,fun q hq' hb=> ?_,fun q hq' hnl hn p hp' hb=> ?_,fun q hq' he=> ?_,fun q hq' hl hn=> ?_,fun q hq' hqq hL=>hfwd q (I.quiet q hq' hqq hL),fun q hq' hqq hn hL=> ?_,by rw [e2];exact I.size,fun x u hx hc=> ?_,by rw [e3];exact I.defs,
  by rw [e1];exact I.evo,fun q hq' hl x hx=> ?_,fun q hq' hL hT=> ?_,fun q hq' q' hq''=>I.inj q ((hr q).1 hq').1 q' ((hr q').1 hq'').1,fun q hq' x hx hn=> ?_,fun q hq' hn=> ?_,by rw [e2];exact I.ln, ?_⟩
 ·rcases Z5W hb with h|h
  ·exact hfwd q (I.dbit q hq' h)
  grind
 ·rcases hback q hq' hn with rfl|hn'
  ·exact hfwd p (I.dbit p hp' (hD _ hb))
  ·exact hfwd p (I.born q hq' hnl hn' p hp' hb)
 ·rw [I.eff q hq' he]
  have:q≠it:=fun h=>by simp_all
  simp_all
 ·have:q≠it:=fun h=>by simp_all [Yo]
  rcases hback q hq' hn with h|h
  ·simp_all
  ·exact I.late q hq' hl h
 ·by_cases hqi:q=it
  ·subst hqi
   have hself:∀x∈WB all q.o,ZT s2.t x=ZT s.t x:=fun x hx=>e5 x fun hd=>hst.self q hits hqe x hd hx
   refine ⟨v,fun x hx=>(e4 x hx).1, ?_⟩
   rw [Vp fun x hx=>hself x (JJ _ hx),e1]
   rcases hv with ⟨h1,h2,h3⟩|h
   ·exact .inl ⟨h1,h2,h3.congr fun x hx=>hself x (Jw _ hx)⟩
   simp_all
  ·have hn':q∉rem:=(hback q hq' hn).resolve_left hqi
   obtain ⟨u,h1,h2⟩:=I.fact q hq' hqq hn' hL
   have hsame:∀x∈WB all q.o,ZT s2.t x=ZT s.t x:=fun x hx=>e5 x fun hd=>by
    rcases hst.rd it hits q hq' (fun e=>hqi e.symm) x hd hx with h|⟨h3,h4⟩
    ·exact I.born q hq' (Yo hqq) hn' it hits h hit
    ·rcases h4 with h4|⟨_,e,he,h5,h6,h7⟩
     ·rw [hqe] at h4;cases h4
     ·have:L e.i:=(I.eff e he h5).2 (I.dbit e he (hD _ h7))
      grind
   refine ⟨u,fun x hx=> ?_, ?_⟩
   ·rw [e5 x fun hd=>hst.dst it hits q hq' (fun e=>hqi e.symm) x hd hx]
    simp_all
   ·rw [Vp fun x hx=>hsame x (JJ _ hx),e1]
    rcases h2 with ⟨h2,h3,h4⟩|h
    ·exact .inl ⟨h2,hp _ h3,h4.congr fun x hx=>hsame x (Jw _ hx)⟩
    simp_all
 ·by_cases hd:it.o.dst=some x
  ·simp_all
  ·rw [e5 x hd] at hx
   exact I.tmps x u hx fun q hq' hdq hqq hn=>hc q hq' hdq hqq (hfwd q hn)
 ·have hq1:=(hr q).1 hq'
  rw [e5 x fun hd=>hst.dst it hits q (I.sub q hq1.1) (fun e=>hq1.2 e.symm) x hd hx]
  exact I.lt q hq1.1 hl x hx
 ·rw [e1]
  exact I.adopt q ((hr q).1 hq').1 hL hT
 ·rw [e2]
  rcases hback q hq' hn with rfl|hn'
  ·simp_all
  ·exact I.dst q hq' x hx hn'
 ·rcases hback q hq' hn with rfl|hn'
  ·simp_all
  ·exact Z3o (I.dset q hq' hn')
 ·rw [e1]
  refine I.mp.step (fun d hd=>⟨id,fun j _=>.rfl⟩) (fun d hd h=>by rw [e5 _ (Wa hst hd hits).2.2.1];exact h) rfl (fun _ _=>rfl) (fun _ _ _ _ _=>rfl) (fun _ _ _=>rfl) (fun _ _ h _=>h) (fun _ _ h=>h) (J2 _) (fun q hq' hL hl b _ hb=>hb q ((hr q).1 hq').1 hL hl)
theorem Z4G (hst:Stat P all its0 its sp n0) (hm:∀it∈its,L it.i->∀p,it.m.testBit p=true->L p) {K:List It->Nat->List (It×AV)->St->Prop}:
  ∀(todo kept:List It) (D:Nat) (pend:List (It×AV)) (s:St),Qv P all todo kept D pend s K->Inv P all its sp E0 h0 w0 L bl (kept++todo) D pend s E a w->
   ∃rem D' pend' s',K rem D' pend' s'/\Inv P all its sp E0 h0 w0 L bl rem D' pend' s' E a w:=by
 intro todo
 induction todo with
 | nil=>intro kept D pend s h I;exact ⟨kept,D,pend,s,h,by simp_all⟩
 | cons it r ih=>
  intro kept D pend s h I
  unfold Qv at h
  split at h
  ·rename_i hb
   rw [J3] at hb
   have hmem:it∈kept++it::r:=by simp
   have hnd:=I.nodup
   have hnd':(kept++r).Pairwise fun a b=>a.i≠b.i:=hnd.sublist (List.Sublist.append (List.Sublist.refl _) (List.sublist_cons_self _ _))
   have hr:∀x,x∈kept++r↔x∈kept++it::r/\x≠it:=fun x=>by
    grind
   obtain ⟨s',g1,g2,g3,g4,g5⟩:=Z1V h
   rcases g5 with ⟨gw,gr⟩|⟨gw,gs⟩
   ·obtain ⟨v,hv,hsem⟩:=Zab gr
    obtain ⟨s2,k0,k1,k2,k3,k4,k5⟩:=Xx hv
    refine ih kept _ _ s2 k0 (I.birth hst hm hmem hb.1 (fun p hp=>Z1p hb.2 hp) hr hnd' (v:=v) (fun x hx=>Jq _ hx) (.inl ⟨gw,JT .., ?_⟩) (k1.trans g2) (k2.trans g3) (k3.trans g4)
     (fun x hx=>⟨(k4 x hx).1,g3▸(k4 x hx).2⟩) (fun x hx=>(k5 x hx).trans (g1 x)))
    rw [g2] at hsem
    exact hsem.congr fun x _=>(g1 x).symm
   ·obtain ⟨s2,k0,k1,k2,k3,k4,k5⟩:=Xx gs
    exact ih kept _ _ s2 k0 (I.birth hst hm hmem hb.1 (fun p hp=>Z1p hb.2 hp) hr hnd' (v:=.tuple []) (fun x hx=>hx) (.inr ⟨gw,rfl⟩) (k1.trans g2) (k2.trans g3) (k3.trans g4)
     (fun x hx=>⟨(k4 x hx).1,g3▸(k4 x hx).2⟩) (fun x hx=>(k5 x hx).trans (g1 x)))
  grind
end
end Go.Tk
end
section
namespace Go.Tk
open IntKind (i64 u8 u32 u64 wrap)
theorem Zby {E:Env} {h:Z8} {w:World} (e:Emb E h w) (b N:Nat) (B:Blk) (hb:¬Xu E h b) (hi:∀ad c,E.imm ad c->ad.block≠b)
  (hB:YG (E.ext h.next b N) w h.next B):Emb (E.ext h.next b N) (h.add B) w:=by
 have hfr:E.blk h.next=none:=e.fresh _ (J2 _)
 have hle:E.le (E.ext h.next b N):=Env.ext_le hfr
 have hget:∀y B',(h.add B).get y=some B'->(y=h.next/\B'=B)\/(y≠h.next/\h.get y=some B'):=fun y B' hy=>by
  grind [Z8.get_add_same,Z8.get_add_other]
 refine ⟨?_, ?_, ?_, ?_,e.imm, ?_⟩
 ·intro x hx
  have hx':h.next+1<=x:=hx
  rw [Env.ext_other _ _ _ (by omega)]
  exact e.fresh x (by omega)
 ·intro x B' hx
  show x<h.next+1
  rcases hget x B' hx with ⟨rfl,_⟩|⟨_,h'⟩
  ·omega
  ·have:=e.lt x B' h';omega
 ·intro x B' hx
  rcases hget x B' hx with ⟨rfl,rfl⟩|⟨hne,h'⟩
  ·exact hB
  ·exact (e.own x B' h').mono hle (fun hn=>by rw [Env.ext_other _ _ _ hne];exact hn)
 ·intro x y B1 B2 b' M M' hx hy hbx hby
  rcases hget x B1 hx with ⟨rfl,_⟩|⟨hnx,hx'⟩<;>rcases hget y B2 hy with ⟨rfl,_⟩|⟨hny,hy'⟩
  ·rfl
  ·rw [Env.ext_same] at hbx;cases hbx
   rw [Env.ext_other _ _ _ hny] at hby
   exact absurd ⟨y,B2,M',hy',hby⟩ hb
  ·rw [Env.ext_same] at hby;cases hby
   rw [Env.ext_other _ _ _ hnx] at hbx
   exact absurd ⟨x,B1,M,hx',hbx⟩ hb
  ·rw [Env.ext_other _ _ _ hnx] at hbx;rw [Env.ext_other _ _ _ hny] at hby
   exact e.disj x y B1 B2 b' M M' hx' hy' hbx hby
 ·intro ad c x B' M him hx hbx
  rcases hget x B' hx with ⟨rfl,_⟩|⟨hne,hx'⟩
  ·rw [Env.ext_same] at hbx
   have:b=ad.block:=by simp_all
   exact hi ad c him this.symm
  ·rw [Env.ext_other _ _ _ hne] at hbx
   exact e.sep ad c x B' M him hx' hbx
theorem Z1q {E:Env} {h:Z8} {b N b':Nat} {B:Blk} (ho:Xu (E.ext h.next b N) (h.add B) b'):b'=b\/Xu E h b':=by
 obtain ⟨x,C,M,hx,hb⟩:=ho
 by_cases hn:h.next=x
 ·simp_all [Env.ext_same]
 ·rw [Z8.get_add_other _ _ _ hn] at hx
  rw [Env.ext_other _ _ _ (fun e=>hn e.symm)] at hb
  exact .inr ⟨x,C,M,hx,hb⟩
theorem Z4H {E0:Env} {h0:Z8} {w0:World} {E:Env} {h:Z8} {w:World} (v:Evo E0 h0 w0 E h w) (b N:Nat) (B:Blk) (hb:¬Xu E h b) (hi:∀ad c,E.imm ad c->ad.block≠b)
  (hB:YG (E.ext h.next b N) w h.next B) (hw:w0.heap.size<=b):Evo E0 h0 w0 (E.ext h.next b N) (h.add B) w:=
 ⟨v.le.trans (Env.ext_le (v.emb.fresh _ (J2 _))),Zby v.emb b N B hb hi hB,v.size,v.os,v.tape,v.output,v.keep,fun b' ho=>by
  rcases Z1q ho with rfl|ho
  ·omega
  ·exact v.own b' ho,v.imm⟩
theorem Ul {P:Program} {t:Y2} {h:Z8} {K:Prop}:∀{pend:List (It×AV)},VT P t h K pend->K/\∀q v,(q,v)∈pend->worldless q.o.op=true\/Z1o P q t h v
 | [],hk=>⟨hk,by simp⟩
 | (it,u)::r,hk=>by
  unfold VT at hk
  split at hk
  ·rename_i hw
   have:=Ul hk
   refine ⟨this.1,fun q v' hq=> ?_⟩
   rcases J8.1 hq with h4|h4
   ·cases h4;exact .inl hw
   ·exact this.2 q v' h4
  ·obtain ⟨v,h12,h3⟩:=Zab hk
   obtain ⟨h1,h2⟩:=Z3i _ _ _ h12
   subst h1
   have:=Ul h2
   refine ⟨this.1,fun q v' hq=> ?_⟩
   rcases J8.1 hq with h4|h4
   ·cases h4;exact .inr h3
   ·exact this.2 q v' h4
theorem Z4I {P:Program} {o:Oper} {T:TypeId} (ho:o.op=.alloc T) {z:Value} (hz:∀w,(zeroValue T).run P w=.ok z w) (ρ:Operand->Value) (w:World):
  (execOp ρ o).run P w=.ok (.value (.pointer (some ⟨w.heap.size,0,none⟩))) { w with heap:=w.heap.push (.cells z.cells T (0,0))}:=by
 simp_all [execOp,Instr.alloc,newVar,newRow]
theorem Z3p {P:Program} {it:It} {t:Y2} {h:Z8} {K:AV->Z8->Prop} (hl:Y8 it=true) (h1:Z4C P h it.o.op t K):
  ∃v B,K v (h.add B)/\∀(E:Env) (a:Act),(∀x u,ZT t x=some u->Zk E u (a.tmps.getD x undef))->
   ∃mkv obj N,Vq P it a mkv obj/\∀(E':Env) (w':World) (b:Nat),E.le E'->E'.blk h.next=some (b,N)->w'.heap[b]? =some obj->YG E' w' h.next B/\Zk E' v (mkv b):=by
 rcases UV hl with ⟨T,ho⟩|⟨T,len,ps,ho,_,hlen0⟩
 ·rw [ho] at h1
  unfold Z4C Z2Q at h1
  simp only at h1
  split at h1
  ·rename_i cs hz
   obtain ⟨z,z1,z2⟩:=WX hz
   refine ⟨_,_,h1,fun E a _=>⟨fun b=>.pointer (some ⟨b,0,none⟩),.cells z.cells T (0,0),z.cells.size,fun w=>Z4I ho z1 _ w,fun E' w' b hle hb hw=>⟨?_,Z05 hb⟩⟩⟩
   exact .flat cs b z.cells T (0,0) z.cells.toList hb hw (WY _) ((z2 E).mono hle) (fun j c hj=>by simp_all)
  simp_all
 ·rw [ho] at h1
  unfold Z4C Wq at h1
  simp only at h1
  split at h1
  ·rename_i e hu
   split at h1
   ·rename_i size vs hs hrow
    split at h1
    ·rename_i zc hb1 hb2 hz
     have hlen:vs.length=len:=J0 hb1
     have hle:=VD hb2
     obtain ⟨z,hz1,_⟩:=WX hz
     have hrun:∀(a:Act) (rs:List Value) (cells:Array Value),(ps.toList.map fun (x:Nat×Operand)=>(x.1,a.eval x.2))=Wp 0 rs->
       (∀w:World,(Instr.buildSlice T len (Wp 0 rs).toArray).run P w=((newRow e cells).run P w).andThen fun ad w'=>.ok (.slice (some ad) len len) w')->
       Vq P it a (fun b=>.slice (some ⟨b,0,none⟩) len len) (.cells cells e (0,0)):=fun a rs cells hr hc w=>by
      have e1:(ps.map fun (x:Nat×Operand)=>(x.1,a.eval x.2))=(Wp 0 rs).toArray:=by
       grind
      simp_all [execOp,newRow]
     split at h1
     ·simp_all
     ·split at h1
      ·rename_i k hue hb
       have hsz:size=1:=J0 hb
       subst hsz
       split at h1
       ·rename_i xs hx
        refine ⟨_,_,h1,fun E a ht=> ?_⟩
        obtain ⟨rs,hr1,hr2⟩:=WS _ _ _ _ hrow (UK (a:=a) (n:=a.tmps.size) ⟨rfl,ht⟩ ps.toList)
        obtain ⟨i0,i1,i2⟩:=Z06 _ _ _ hx hr1
        have hrl:rs.length=len:=by rw [hr1.length,hlen]
        obtain ⟨cells,c1,c2,c3⟩:=run_buildSlice hu hs hle hz1 rs hrl i1
        refine ⟨_,_,cells.size,hrun a rs cells hr2 c3,fun E' w' b hlE hb' hw=>⟨?_, ?_⟩⟩
        ·exact .ints k xs b cells e (0,0) hb' hw (WY _) (fun j hj=>c2 _ _ (i2 j hj))
        ·exact .nslice ⟨h.next,0,0,0,0⟩ 1 len len b cells.size len hb' (J2 _) (J2 _) (by simp [ZO.tot,c1])
       simp_all
      ·simp_all
      ·split at h1
       ·rename_i cs hcat
        refine ⟨_,_,h1,fun E a ht=> ?_⟩
        obtain ⟨rs,hr1,hr2⟩:=WS _ _ _ _ hrow (UK (a:=a) (n:=a.tmps.size) ⟨rfl,ht⟩ ps.toList)
        obtain ⟨i1,i2⟩:=Z2V _ _ _ hcat hr1
        have hrl:rs.length=len:=by rw [hr1.length,hlen]
        obtain ⟨cells,c1,c2,c3⟩:=run_buildSlice hu hs hle hz1 rs hrl i2
        refine ⟨_,_,cells.size,hrun a rs cells hr2 c3,fun E' w' b hlE hb' hw=>⟨?_, ?_⟩⟩
        ·exact .flat cs b cells e (0,0) _ hb' hw (WY _) (i1.mono hlE) c2
        ·exact .nslice ⟨h.next,0,0,0,0⟩ size len len b cells.size len hb' (J2 _) (J2 _) (by simp [ZO.tot,c1])
       simp_all
    simp_all
   simp_all
  simp_all
theorem Vq.uniq {P:Program} {it:It} {a:Act} {mkv mkv':Nat->Value} {obj obj':Obj} (w:World) (h:Vq P it a mkv obj) (h':Vq P it a mkv' obj'):(∀b,mkv b=mkv' b)/\obj=obj':=by
 have key:∀b,mkv b=mkv' b/\obj=obj':=fun b=>by
  have h1:=h { w with heap:=Array.replicate b obj}
  rw [h'] at h1
  simp only [Result.ok.injEq,World.mk.injEq] at h1
  have h2:=h1.2
  have h3:=h2.1
  have h4:=Array.push_inj_right.1 h3
  simp_all
 exact ⟨fun b=>(key b).1,(key 0).2⟩
section
variable {P:Program} {all:List Oper} {its0 its:List It} {sp:Option SpD} {n0:Nat} {E0:Env} {h0:Z8} {w0:World} {L:Nat->Prop} {bl:Nat->Nat} {rem rem':List It} {D:Nat} {pend pend':List (It×AV)} {s s2:St} {E:Env} {a:Act} {w:World}
theorem Inv.adoptStep (hst:Stat P all its0 its sp n0) (I:Inv P all its sp E0 h0 w0 L bl rem D pend s E a w) {it:It} (hit:it∈rem) (hl:Y8 it=true) (hm:∀p,it.m.testBit p=true->L p) (hL:L it.i) (hp:∀q∈its,∀v,(q,v)∈pend->L q.i\/worldless q.o.op=true\/Z1o P q s2.t s2.h v) {v:AV} {B:Blk}
  (hv:∀(E:Env) (a:Act),(∀x u,ZT (Vn s.t (opT it.o.op)) x=some u->Zk E u (a.tmps.getD x undef))->
   ∃mkv obj N,Vq P it a mkv obj/\∀(E':Env) (w':World) (b:Nat),E.le E'->E'.blk s.h.next=some (b,N)->w'.heap[b]? =some obj->YG E' w' s.h.next B/\Zk E' v (mkv b))
  (hr:∀x,x∈rem'↔x∈rem/\x≠it) (hnd:rem'.Pairwise fun a b=>a.i≠b.i)
  (e1:s2.h=s.h.add B) (e2:s2.n=s.n) (e3:s2.d=s.d) (e4:∀x,it.o.dst=some x->ZT s2.t x=some v/\x<s.n) (e5:∀x,it.o.dst≠some x->ZT s2.t x=ZT s.t x):
  ∃E',Inv P all its sp E0 h0 w0 L bl rem' (Nat.lor D (2^it.i)) pend s2 E' a w:=by
 have hits:=I.sub it hit
 obtain ⟨mkv,obj,z1,z2,z3,z4,z5,z6,z7⟩:=I.adopt it hit hL hl
 obtain ⟨mkv',obj',N,y1,y2⟩:=hv E a fun x u hu=>by
  have h1:=W7 hu
  exact I.tmps x u h1.1 fun q hq' hdq _ _=>hm _ (hst.lrd it hits hl q hq' x hdq h1.2)
 obtain ⟨u1,rfl⟩:=z1.uniq w y1
 have hle:E.le (E.ext s.h.next (bl it.i) N):=Env.ext_le (I.evo.emb.fresh _ (J2 _))
 obtain ⟨b1,b2⟩:=y2 (E.ext s.h.next (bl it.i) N) w (bl it.i) hle (Env.ext_same ..) z3
 have hback:∀q∈its,q∉rem'->q=it\/q∉rem:=fun q _ hn=>by
  by_cases h:q=it
  ·exact .inl h
  ·exact .inr fun hr'=>hn ((hr q).2 ⟨hr',h⟩)
 have hfwd:∀q,q∉rem->q∉rem':=fun q hn h=>hn ((hr q).1 h).1
 have hev:=Z4H I.evo (bl it.i) N B z4 z5 b1 z6
 refine ⟨E.ext s.h.next (bl it.i) N,⟨fun q hq'=>I.sub q ((hr q).1 hq').1,hnd,fun q hq' hb=> ?_,fun q hq' hnl hn p hp' hb=> ?_,fun q hq' he=> ?_,fun q hq' hl' hn=> ?_,fun q hq' hqq hL'=>hfwd q (I.quiet q hq' hqq hL'),fun q hq' hqq hn hL'=> ?_,by rw [e2];exact I.size,fun x u hx hc=> ?_,
  by rw [e3];exact I.defs.mono hle,by rw [e1];exact hev,fun q hq' hl' x hx=> ?_,fun q hq' hL' hT'=> ?_,fun q hq' q' hq''=>I.inj q ((hr q).1 hq').1 q' ((hr q').1 hq'').1,fun q hq' x hx hn=> ?_,fun q hq' hn=> ?_,by rw [e2];exact I.ln, ?_⟩⟩
 ·rcases Z5W hb with h|h
  ·exact hfwd q (I.dbit q hq' h)
  ·have:q=it:=hst.uniq q hq' it hits h
   subst this
   exact fun h=>((hr q).1 h).2 rfl
 ·rcases hback q hq' hn with rfl|hn'
  ·rw [hl] at hnl;cases hnl
  ·exact hfwd p (I.born q hq' hnl hn' p hp' hb)
 ·rw [I.eff q hq' he]
  have:q≠it:=fun h=>by subst h;rw [Xk he] at hl;cases hl
  exact ⟨fun h=>hfwd q h,fun h h'=>h ((hr q).2 ⟨h',this⟩)⟩
 ·rcases hback q hq' hn with rfl|h
  ·exact hL
  ·exact I.late q hq' hl' h
 ·have hqi:q≠it:=fun h=>by subst h;rw [Yo hqq] at hl;cases hl
  have hn':q∉rem:=(hback q hq' hn).resolve_left hqi
  obtain ⟨u,h1,h2⟩:=I.fact q hq' hqq hn' hL'
  have hsame:∀x∈WB all q.o,ZT s2.t x=ZT s.t x:=fun x hx=>e5 x fun hd=>by
   rcases hst.rd it hits q hq' (fun e=>hqi e.symm) x hd hx with h|⟨h3,h4⟩
   ·exact I.born q hq' (Yo hqq) hn' it hits h hit
   ·rcases h4 with h4|⟨h4,_⟩
    ·rw [Xk h4] at hl;cases hl
    ·rw [Yo h4] at hl;cases hl
  refine ⟨u,fun x hx=> ?_, ?_⟩
  ·rw [e5 x fun hd=>hst.dst it hits q hq' (fun e=>hqi e.symm) x hd hx]
   exact h1 x hx
  ·rw [Vp fun x hx=>hsame x (JJ _ hx)]
   rcases h2 with ⟨h0,h3,h4⟩|h
   ·rcases hp _ hq' _ h3 with h5|h5|h5
    ·exact absurd h5 hL'
    ·refine .inl ⟨h0,h3,fun E' w' a' _ hx=>h4 E' w' a' (fun hw=>by rw [h5] at hw;cases hw) fun x hx' u hu=>hx x hx' u ?_⟩
     rw [hsame x (Jw _ hx')];exact hu
    ·exact .inl ⟨h0,h3,h5⟩
   ·exact .inr h
 ·by_cases hd:it.o.dst=some x
  ·rw [(e4 x hd).1] at hx
   cases hx
   rw [z2 x hd,u1]
   exact b2
  ·rw [e5 x hd] at hx
   exact (I.tmps x u hx fun q hq' hdq hqq hn=>hc q hq' hdq hqq (hfwd q hn)).mono hle
 ·have hq1:=(hr q).1 hq'
  rw [e5 x fun hd=>hst.dst it hits q (I.sub q hq1.1) (fun e=>hq1.2 e.symm) x hd hx]
  exact I.lt q hq1.1 hl' x hx
 ·have hq1:=(hr q).1 hq'
  obtain ⟨y,y0,y1,y2,y3,y4,y5,y6,y7⟩:=I.adopt q hq1.1 hL' hT'
  refine ⟨y,y0,y1,y2,y3,fun ho=> ?_,y5,y6,y7⟩
  rw [e1] at ho
  rcases Z1q ho with h|h
  ·exact hq1.2 (I.inj q hq1.1 it hit hL' hL hT' hl h)
  simp_all
 ·rw [e2]
  rcases hback q hq' hn with rfl|hn'
  ·simp_all
  ·exact I.dst q hq' x hx hn'
 ·rcases hback q hq' hn with rfl|hn'
  ·simp_all
  ·exact Z3o (I.dset q hq' hn')
 ·exact I.mp.step (fun d hd=>⟨id,fun j _=>.rfl⟩) (fun d hd h=>by rw [e5 _ (Wa hst hd hits).2.2.1];exact h) rfl (fun _ _=>rfl) (fun _ _ _ _ _=>rfl) (fun _ _ _=>rfl)
   (fun b _ hno hne ho=>by
    grind [Z1q])
   (fun _ _ h=>h) (J2 _) (fun q hq' hL' hl' b _ hb=>hb q ((hr q).1 hq').1 hL' hl')
theorem Z78 (hst:Stat P all its0 its sp n0) (hmc:∀it∈its,L it.i->∀p,it.m.testBit p=true->L p) {m:Nat} {pd:List (It×AV)} {K:List It->Nat->St->Prop} (hmL:∀it∈its,Y8 it=true->m.testBit it.i=true->L it.i) (hok:∀q∈its,∀v,(q,v)∈pend->L q.i\/(q,v)∈pd):
  ∀(todo kept:List It) (D:Nat) (s:St) (E:Env),Z1m P m pd todo kept D s K->Inv P all its sp E0 h0 w0 L bl (kept++todo) D pend s E a w->
   (∀q∈kept,Y8 q=true->m.testBit q.i=false)->
   ∃rem D' s' E',K rem D' s'/\Inv P all its sp E0 h0 w0 L bl rem D' pend s' E' a w/\(∀q,q∈rem->q∈kept++todo)/\(∀q,q∈kept++todo->Y8 q=false->q∈rem)/\(∀q∈rem,Y8 q=true->m.testBit q.i=false):=by
 intro todo
 induction todo with
 | nil=>intro kept D s E h I hk;exact ⟨kept,D,s,E,h,by simp_all,fun q hq=>by simp_all,fun q hq _=>by simp_all,hk⟩
 | cons it r ih=>
  intro kept D s E h I hk
  unfold Z1m at h
  split at h
  ·rename_i hlb
   ·rw [J3] at hlb
    obtain ⟨hl,hb⟩:=hlb
    ·obtain ⟨v,B,h,hv⟩:=Z3p hl h
     obtain ⟨s2,k0,k1,k2,k3,k4,k5⟩:=Xx h
     obtain ⟨k0,krc⟩:=Ul k0
     have hmem:it∈kept++it::r:=by simp
     have hnd:=I.nodup
     have hnd':(kept++r).Pairwise fun a b=>a.i≠b.i:=hnd.sublist (List.Sublist.append (List.Sublist.refl _) (List.sublist_cons_self _ _))
     have hr:∀x,x∈kept++r↔x∈kept++it::r/\x≠it:=fun x=>by
      grind
     have hLi:=hmL it (I.sub it hmem) hl hb
     obtain ⟨E',I'⟩:=I.adoptStep hst hmem hl (hmc it (I.sub it hmem) hLi) hLi (fun q hq v hqv=>(hok q hq v hqv).imp id (krc q v)) hv hr hnd' k1 k2 k3 k4 k5
     grind
  ·obtain ⟨rem,D',s',E',k1,k2,k3,k4,k5⟩:=ih (kept++[it]) D s E h (by simp_all) (fun q hq hl=>by
    grind)
   grind
theorem Z1r (hst:Stat P all its0 its sp n0) (hm:∀q∈its0,L q.i->∀p,q.m.testBit p=true->L p) {it q:It} (hits:it∈its) (hq:q∈its) (hl:Y8 q=true) (hL:L q.i) (hnL:¬L it.i) {a a':Act} {r:Value} (ha:a'=a.put it.o.dst r) {mkv:Nat->Value} {obj:Obj}
  (h:Vq P q a mkv obj):Vq P q a' mkv obj:=by
 subst ha
 refine h.congr hl fun x hx=>YS fun hd=>hnL ?_
 exact hm q (hst.sub q hq) hL _ (hst.lrd q hq hl it hits x hd hx)
theorem Z8K (hst:Stat P all its0 its sp n0) (hm:∀q∈its0,L q.i->∀p,q.m.testBit p=true->L p) {it:It} (hits:it∈its) (hnL:¬L it.i) (M:MpI sp w0 L bl rem s.t E s.h a w)
  {t':Y2} {rem':List It} {bl':Nat->Nat} {E':Env} {h':Z8} {a':Act} {w':World} {r:Value} (ha:∀x,a'.tmps.getD x undef=(a.put it.o.dst r).tmps.getD x undef) (hz:a'.tmps.size=a.tmps.size)
  (ht:∀x,it.o.dst≠some x->ZT s.t x=none->ZT t' x=none)
  (hw:∀b,b<w.heap.size->¬Xu E s.h b->w'.heap[b]? =w.heap[b]?)
  (ho:∀b,b<w.heap.size->¬Xu E s.h b->(∀q∈rem,L q.i->Y8 q=true->bl q.i≠b)->¬Xu E' h' b)
  (hi:∀ad c,E'.imm ad c->E.imm ad c)
  (hs:w.heap.size<=w'.heap.size)
  (hb:∀q∈rem',(L q.i\/q.i=it.i)->Y8 q=true->∀b,b<w.heap.size->(∀q∈rem,L q.i->Y8 q=true->bl q.i≠b)->bl' q.i≠b):
  MpI sp w0 (fun j=>L j\/j=it.i) bl' rem' t' E' h' a' w':=by
 refine M.step (fun d hd=> ?_) (fun d hd=>ht d.x (Wa hst hd hits).2.2.1) hz (fun d hd=> ?_) (fun d hd j hj hLj=> ?_) hw ho hi hs hb
 ·have hu:=Wa hst hd hits
  grind
 ·rw [ha,YS (Wa hst hd hits).2.2.1]
 ·rw [ha,YS fun e=>hnL ((Z3n hst hd hj hm hLj).2.2 it hits e)]
theorem Inv.doQuiet (hst:Stat P all its0 its sp n0) (hm:∀q∈its0,L q.i->∀p,q.m.testBit p=true->L p) (I:Inv P all its sp E0 h0 w0 L bl rem D pend s E a w) {it:It} (hits:it∈its) (hnL:¬L it.i) (hq:X0 it=true) (hn:it∉rem) {v:AV} {r:Value} (hd:∀x,it.o.dst=some x->ZT s.t x=some v) (hv:Zk E v r):
  Inv P all its sp E0 h0 w0 (fun j=>L j\/j=it.i) bl rem D pend s E (a.put it.o.dst r) w:=by
 have hne:∀q∈its,q≠it->q.i≠it.i:=fun q hq' hn' e=>hn' (hst.uniq q hq' it hits e)
 have hback:∀q∈its,q≠it->(L q.i\/q.i=it.i)->L q.i:=fun q hq' hn' h=>h.resolve_right (hne q hq' hn')
 refine ⟨I.sub,I.nodup,I.dbit,I.born,fun q hq' he=> ?_,fun q hq' hl hn'=>.inl (I.late q hq' hl hn'),fun q hq' hqq hL=> ?_,fun q hq' hqq hn' hL=>I.fact q hq' hqq hn' (fun h=>hL (.inl h)),by rw [XW];exact I.size,fun x u hx hc=> ?_,
  by rw [put_defers];exact I.defs,I.evo,I.lt,fun q hq' hL hT=> ?_,fun q hq' q' hq'' hL hL' hl hl' hb=> ?_,I.dst,I.dset,I.ln, ?_⟩
 ·have hqi:q≠it:=fun h=>by simp_all [YM]
  rw [<-I.eff q hq' he]
  simp_all
 ·by_cases hqi:q=it
  ·simp_all
  ·exact I.quiet q hq' hqq (hback q hq' hqi hL)
 ·by_cases hdx:it.o.dst=some x
  ·rw [hd x hdx] at hx
   cases hx
   rw [hdx,UU (by rw [I.size];exact I.dst it hits x hdx hn)]
   exact hv
  ·rw [YS hdx]
   refine I.tmps x u hx fun q hq' hdq hqq hn'=>hback q hq' (fun e=> ?_) (hc q hq' hdq hqq hn')
   simp_all
 ·have hqi:q≠it:=fun h=>by simp_all
  have hLq:=hback q (I.sub q hq') hqi hL
  obtain ⟨y,y0,y1,y2,y3,y4,y5,y6,y7⟩:=I.adopt q hq' hLq hT
  refine ⟨y,y0,Z1r hst hm hits (I.sub q hq') hT hLq hnL rfl y1,fun x hx=> ?_,y3,y4,y5,y6,y7⟩
  rw [YS (hst.dst q (I.sub q hq') it hits hqi x hx)]
  simp_all
 ·have hqi:q≠it:=fun h=>by simp_all
  have hqi':q'≠it:=fun h=>by simp_all
  exact I.inj q hq' q' hq'' (hback q (I.sub q hq') hqi hL) (hback q' (I.sub q' hq'') hqi' hL') hl hl' hb
 ·refine Z8K hst hm hits hnL I.mp (fun _=>rfl) XW (fun _ _ h=>h) (fun _ _ _=>rfl) (fun _ _ h _=>h) (fun _ _ h=>h) (J2 _) (fun q hq' hL hl b _ hb=>hb q hq' ?_ hl)
  exact hback q (I.sub q hq') (fun h=>by simp_all) hL
theorem Inv.doLate (hst:Stat P all its0 its sp n0) (hm:∀q∈its0,L q.i->∀p,q.m.testBit p=true->L p) (I:Inv P all its sp E0 h0 w0 L bl rem D pend s E a w) {it:It} (hit:it∈rem) (hl:Y8 it=true) (hnL:¬L it.i) {mkv:Nat->Value} {obj:Obj} (hz:Vq P it a mkv obj):
  Inv P all its sp E0 h0 w0 (fun j=>L j\/j=it.i) (fun j=>if j=it.i then w.heap.size else bl j) rem D pend s E (a.put it.o.dst (mkv w.heap.size)) { w with heap:=w.heap.push obj}:=by
 have hits:=I.sub it hit
 have hne:∀q∈its,q≠it->q.i≠it.i:=fun q hq' hn' e=>hn' (hst.uniq q hq' it hits e)
 have hback:∀q∈its,q≠it->(L q.i\/q.i=it.i)->L q.i:=fun q hq' hn' h=>h.resolve_right (hne q hq' hn')
 have hnown:¬Xu E s.h w.heap.size:=fun ⟨x,B,N,hx,hb⟩=>by
  have:=(I.evo.emb.own x B hx).lt hb
  omega
 have hnimm:∀ad c,E.imm ad c->ad.block≠w.heap.size:=fun ad c hi e=>by
  have h1:=I.evo.emb.imm ad c hi
  simp [World.cell?,e] at h1
 have key:∀q∈rem,q≠it->(L q.i\/q.i=it.i)->Y8 q=true->bl q.i<w.heap.size:=fun q hq hqi hL hl'=>by
  obtain ⟨y,y0,y1,y2,y3,y4,y5,y6,y7⟩:=I.adopt q hq (hback q (I.sub q hq) hqi hL) hl'
  exact y7
 refine ⟨I.sub,I.nodup,I.dbit,I.born,fun q hq' he=> ?_,fun q hq' hl' hn'=>.inl (I.late q hq' hl' hn'),fun q hq' hqq hL=> ?_,fun q hq' hqq hn' hL=>I.fact q hq' hqq hn' (fun h=>hL (.inl h)),by rw [XW];exact I.size,fun x u hx hc=> ?_,
  by rw [put_defers];exact I.defs,I.evo.trans (Z2S I.evo.emb _),I.lt,fun q hq' hL hT'=> ?_,fun q hq' q' hq'' hL hL' hl1 hl2 hb=> ?_,I.dst,I.dset,I.ln, ?_⟩
 ·have hqi:q≠it:=fun h=>by simp_all [Xk]
  rw [<-I.eff q hq' he]
  simp_all
 ·have hqi:q≠it:=fun h=>by simp_all [Yo]
  exact I.quiet q hq' hqq (hback q hq' hqi hL)
 ·by_cases hdx:it.o.dst=some x
  ·rw [I.lt it hit hl x hdx] at hx;cases hx
  ·rw [YS hdx]
   refine I.tmps x u hx fun q hq' hdq hqq hn'=>hback q hq' (fun e=> ?_) (hc q hq' hdq hqq hn')
   simp_all
 ·by_cases hqi:q=it
  ·subst hqi
   refine ⟨mkv,obj,hz.congr hl fun x hx=>YS fun hd=>hst.self q hits ?_ x hd (Jw _ hx),fun x hx=> ?_, ?_, ?_, ?_, ?_, ?_⟩
   ·simp_all [XV]
   all_goals simp only [if_true]
   ·rw [hx,UU (by rw [I.size];exact I.ln q hits hl x hx)]
   ·simp
   ·exact hnown
   ·exact hnimm
   ·exact I.evo.size
   ·simp
  ·simp only [if_neg (hne q (I.sub q hq') hqi)]
   have hLq:=hback q (I.sub q hq') hqi hL
   obtain ⟨y,y0,y1,y2,y3,y4,y5,y6,y7⟩:=I.adopt q hq' hLq hT'
   refine ⟨y,y0,Z1r hst hm hits (I.sub q hq') hT' hLq hnL rfl y1,fun x hx=> ?_, ?_,y4,y5,y6, ?_⟩
   ·rw [YS (hst.dst q (I.sub q hq') it hits hqi x hx)]
    simp_all
   all_goals grind
 ·by_cases hqi:q=it
  ·by_cases hqi':q'=it
   ·rw [hqi,hqi']
   ·subst hqi
    simp only [if_true,if_neg (hne q' (I.sub q' hq'') hqi')] at hb
    have:=key q' hq'' hqi' hL' hl2
    omega
  ·by_cases hqi':q'=it
   ·subst hqi'
    simp only [if_true,if_neg (hne q (I.sub q hq') hqi)] at hb
    have:=key q hq' hqi hL hl1
    omega
   ·simp only [if_neg (hne q (I.sub q hq') hqi),if_neg (hne q' (I.sub q' hq'') hqi')] at hb
    exact I.inj q hq' q' hq'' (hback q (I.sub q hq') hqi hL) (hback q' (I.sub q' hq'') hqi' hL') hl1 hl2 hb
 ·refine Z8K hst hm hits hnL I.mp (fun _=>rfl) XW (fun _ _ h=>h) (fun b hb _=>World.push_old hb) (fun _ _ h _=>h) (fun _ _ h=>h) (by simp_all) (fun q hq' hL hl' b hbs hb=> ?_)
  grind
end
end Go.Tk
end
section
namespace Go.Tk
open IntKind (i64 u8 u32 u64 wrap)
theorem Z79 {qm:Nat} {all:List Oper} (hed:∀i o e,all[i]? =some o->e∈o.after.toList->Region.binds .any e=true->e.on<i):
  ∀{r:List Oper} {k:Nat} {acc:List Nat},(∀j,r[j]? =all[k+j]?)->(∀j p,(QH acc j).testBit p=true->p<j)->acc.length=k->
   ∀it∈ZY qm k acc r,∀p,it.m.testBit p=true->p<it.i
 | [],_,_,_,_,_,it,h,_,_=>by simp [ZY] at h
 | o::r,k,acc,hr,hacc,hk,it,h,p,hp=>by
  have h0:all[k]? =some o:=by have:=hr 0;simp_all
  have hself:∀p,(QV acc o.after.toList 0).testBit p=true->p<k:=fun p hp=>by
   rcases Qw hp with h1|⟨e,he,hb,h2⟩
   all_goals grind
  simp only [ZY,J8] at h
  rcases h with rfl|h
  ·simp_all
  ·refine Z79 hed (k:=k+1) (acc:=acc++[QV acc o.after.toList 0]) (fun j=> ?_) ?_ (by simp [hk]) it h p hp
   ·have:=hr (j+1)
    rw [show k+1+j=k+(j+1) from by omega,<-this]
    simp
   grind [Z4F]
theorem Qy {m:Nat} {q:It} {v:AV}:∀{pend:List (It×AV)},(q,v)∈VV m pend↔(q,v)∈pend/\m.testBit q.i=false
 | []=>by simp [VV]
 | (it,u)::r=>by
  unfold VV
  split
  ·rename_i h
   rw [Qy]
   constructor
   ·rintro ⟨h1,h2⟩;exact ⟨Jq _ h1,h2⟩
   ·rintro ⟨h1,h2⟩
    rcases J8.1 h1 with h3|h3
    ·cases h3;rw [h] at h2;cases h2
    ·exact ⟨h3,h2⟩
  ·rename_i h
   rw [J8,Qy,J8]
   constructor
   ·rintro (h1|⟨h1,h2⟩)
    ·cases h1;exact ⟨.inl rfl,h⟩
    ·exact ⟨.inr h1,h2⟩
   ·rintro ⟨h1|h1,h2⟩
    ·exact .inl h1
    ·exact .inr ⟨h1,h2⟩
theorem YT {i:Nat} {q:It}:∀{l:List It},q∈VU i l↔q∈l/\q.i≠i
 | []=>by simp [VU]
 | it::r=>by
  unfold VU
  split
  ·rename_i h
   have e:=J0 h
   rw [YT,J8]
   constructor
   ·rintro ⟨h1,h2⟩;exact ⟨.inr h1,h2⟩
   ·rintro ⟨h1|h1,h2⟩
    ·subst h1;exact absurd e h2
    ·exact ⟨h1,h2⟩
  ·rename_i h
   have e:it.i≠i:=fun e=>by rw [e,Jj] at h;cases h
   rw [J8,YT,J8]
   constructor
   ·rintro (h1|⟨h1,h2⟩)
    ·subst h1;exact ⟨.inl rfl,e⟩
    ·exact ⟨.inr h1,h2⟩
   ·rintro ⟨h1|h1,h2⟩
    ·exact .inl h1
    ·exact .inr ⟨h1,h2⟩
theorem Z1s {i:Nat}:∀{l:List It},(VU i l).Sublist l
 | []=>List.Sublist.refl _
 | it::r=>by
  unfold VU
  split
  ·exact List.Sublist.cons _ Z1s
  ·exact List.Sublist.cons_cons _ Z1s
theorem Z0g {x:Nat} {v:AV} {t:Y2}:∀{its:List It},ZT (Z3k t its) x=some v->ZT t x=some v/\∀it∈its,it.o.dst≠some x
 | [],h=>⟨h,by simp⟩
 | it::r,h=>by
  unfold Z3k at h
  split at h
  ·rename_i y hy
   by_cases hxy:y=x
   ·subst hxy;rw [Wm] at h;cases h
   ·rw [XT _ _ _ hxy] at h
    have:=Z0g h
    refine ⟨this.1,fun q hq=> ?_⟩
    rcases J8.1 hq with rfl|hq
    ·rw [hy];exact fun e=>hxy (by injection e)
    ·exact this.2 q hq
  ·rename_i hy
   have:=Z0g h
   refine ⟨this.1,fun q hq=> ?_⟩
   rcases J8.1 hq with rfl|hq
   ·rw [hy];simp
   ·exact this.2 q hq
theorem WL {x:Nat} {v:AV} {t:Y2}:∀{its:List It},ZT (V4 t its) x=some v->ZT t x=some v/\∀it∈its,Y8 it=true->it.o.dst≠some x
 | [],h=>⟨h,by simp⟩
 | it::r,h=>by
  unfold V4 at h
  split at h
  ·rename_i y hT hy
   by_cases hxy:y=x
   ·subst hxy;rw [Wm] at h;cases h
   ·rw [XT _ _ _ hxy] at h
    have:=WL h
    refine ⟨this.1,fun q hq hl=> ?_⟩
    rcases J8.1 hq with rfl|hq
    ·rw [hy];exact fun e=>hxy (by injection e)
    ·exact this.2 q hq hl
  ·rename_i hno
   have:=WL h
   refine ⟨this.1,fun q hq hl hd=> ?_⟩
   rcases J8.1 hq with rfl|hq
   ·exact hno x hl hd
   ·exact this.2 q hq hl hd
theorem QW:∀{l:List It},V3 l=none->∀q∈l,XV q=false
 | [],_,q,hq=>by simp at hq
 | it::r,h,q,hq=>by
  unfold V3 at h
  split at h
  ·cases h
  ·rename_i he
   rcases J8.1 hq with rfl|hq
   ·exact he
   ·exact QW h q hq
theorem QX:∀{l:List It} {e:It},V3 l=some e->e∈l/\XV e=true
 | [],e,h=>by simp [V3] at h
 | it::r,e,h=>by
  unfold V3 at h
  split at h
  ·rename_i he;cases h;exact ⟨JT ..,he⟩
  ·have:=QX h
   exact ⟨Jq _ this.1,this.2⟩
section
variable {P:Program} {all:List Oper} {its0 its:List It} {sp:Option SpD} {n0:Nat} {E0:Env} {h0:Z8} {w0:World} {L:Nat->Prop} {bl:Nat->Nat} {rem rem':List It} {D:Nat} {pend pend':List (It×AV)} {s s2:St} {E:Env} {a:Act} {w:World}
theorem Inv.doEff (hst:Stat P all its0 its sp n0) (hm:∀q∈its0,L q.i->∀p,q.m.testBit p=true->L p) (I:Inv P all its sp E0 h0 w0 L bl rem D pend s E a w) {e:It} (he:e∈rem) (hnL:¬L e.i) (heff:XV e=true) (hD:∀p,e.m.testBit p=true->D.testBit p=true) (hme:∀p,e.m.testBit p=true->L p)
  {s3:St} {E':Env} {w':World} {ds:List Deferred} {v:AV} {r:Value} (hev:Evo E s.h w E' s3.h w') (hev0:Evo E0 h0 w0 E' s3.h w') (hds:Ug E' s3.d ds) (hv:Zk E' v r)
  (e2:s3.n=s.n) (e4:∀x,e.o.dst=some x->ZT s3.t x=some v/\x<s.n) (e5:∀x,e.o.dst≠some x->ZT s3.t x=ZT s.t x)
  (hre:∀q v,(q,v)∈VV e.m pend->Z1o P q s.t s.h v->(∀x∈opT q.o.op,ZT s3.t x=ZT s.t x)->Z1o P q s3.t s3.h v):
  Inv P all its sp E0 h0 w0 (fun j=>L j\/j=e.i) bl (VU e.i rem) (Nat.lor D (2^e.i)) (VV e.m pend) s3 E' (({ a with defers:=ds}:Act).put e.o.dst r) w':=by
 have hits:=I.sub e he
 have hne:∀q∈its,q≠e->q.i≠e.i:=fun q hq' hn' h=>hn' (hst.uniq q hq' e hits h)
 have hback:∀q∈its,q≠e->(L q.i\/q.i=e.i)->L q.i:=fun q hq' hn' h=>h.resolve_right (hne q hq' hn')
 have hrm:∀q∈its,q∉VU e.i rem->q=e\/q∉rem:=fun q hq hn=>by
  by_cases h:q=e
  ·exact .inl h
  ·exact .inr fun hr=>hn (YT.2 ⟨hr,hne q hq h⟩)
 have hfwd:∀q,q∉rem->q∉VU e.i rem:=fun q hn h=>hn (YT.1 h).1
 refine ⟨fun q hq=>I.sub q (YT.1 hq).1,I.nodup.sublist Z1s,fun q hq hb=> ?_,fun q hq hnl hn p hp hb=> ?_,fun q hq hqe=> ?_,fun q hq hl hn=> ?_,fun q hq hqq hL=> ?_,fun q hq hqq hn hL=> ?_,
  by rw [XW,e2];exact I.size,fun x u hx hc=> ?_,by rw [put_defers];exact hds,hev0,fun q hq hl x hx=> ?_,fun q hq hL hT=> ?_,fun q hq q' hq' hL hL' hl hl' hb=> ?_,fun q hq x hx hn=> ?_,fun q hq hn=> ?_,by rw [e2];exact I.ln, ?_⟩
 ·rcases Z5W hb with h|h
  ·exact hfwd q (I.dbit q hq h)
  ·exact fun hr=>(YT.1 hr).2 h
 ·rcases hrm q hq hn with rfl|hn'
  ·exact hfwd p (I.dbit p hp (hD _ hb))
  ·exact hfwd p (I.born q hq hnl hn' p hp hb)
 ·by_cases hqi:q=e
  ·subst hqi
   exact ⟨fun _ h=>(YT.1 h).2 rfl,fun _=>.inr rfl⟩
  ·constructor
   ·intro h
    exact hfwd q ((I.eff q hq hqe).1 (hback q hq hqi h))
   ·intro h
    exact .inl ((I.eff q hq hqe).2 ((hrm q hq h).resolve_left hqi))
 ·have hqi:q≠e:=fun h=>by subst h;rw [Xk heff] at hl;cases hl
  exact .inl (I.late q hq hl ((hrm q hq hn).resolve_left hqi))
 ·have hqi:q≠e:=fun h=>by subst h;rw [YM heff] at hqq;cases hqq
  exact hfwd q (I.quiet q hq hqq (hback q hq hqi hL))
 ·have hqi:q≠e:=fun h=>by subst h;rw [YM heff] at hqq;cases hqq
  have hn':=(hrm q hq hn).resolve_left hqi
  have hL':¬L q.i:=fun h=>hL (.inl h)
  obtain ⟨u,h1,h2⟩:=I.fact q hq hqq hn' hL'
  have hsame:∀x∈WB all q.o,ZT s3.t x=ZT s.t x:=fun x hx=>e5 x fun hd=>by
   rcases hst.rd e hits q hq (fun h=>hqi h.symm) x hd hx with h|⟨h3,_⟩
   ·exact I.born q hq (Yo hqq) hn' e hits h he
   ·exact hL' (hme _ h3)
  refine ⟨u,fun x hx=> ?_, ?_⟩
  ·rw [e5 x fun hd=>hst.dst e hits q hq (fun h=>hqi h.symm) x hd hx]
   exact h1 x hx
  ·rw [Vp fun x hx=>hsame x (JJ _ hx)]
   rcases h2 with ⟨h2,h3,h4⟩|h
   ·have hmem:(q,u)∈VV e.m pend:=Qy.2 ⟨h3,by
     cases hb:e.m.testBit q.i with
     | false=>rfl
     | true=>exact absurd (hme _ hb) hL'⟩
    exact .inl ⟨h2,hmem,hre q u hmem h4 fun x hx=>hsame x (Jw _ hx)⟩
   ·exact .inr h
 ·by_cases hdx:e.o.dst=some x
  ·rw [(e4 x hdx).1] at hx
   cases hx
   rw [hdx,UU (by show x<a.tmps.size;rw [I.size];simp_all)]
   exact hv
  ·rw [YS hdx]
   rw [e5 x hdx] at hx
   refine (I.tmps x u hx fun q hq hdq hqq hn=> ?_).mono hev.le
   grind
 ·have hq1:=YT.1 hq
  have hqi:q≠e:=fun h=>by simp_all
  rw [e5 x fun hd=>hst.dst e hits q (I.sub q hq1.1) (fun h=>hqi h.symm) x hd hx]
  exact I.lt q hq1.1 hl x hx
 ·have hq1:=YT.1 hq
  have hqi:q≠e:=fun h=>by simp_all
  have hLq:=hback q (I.sub q hq1.1) hqi hL
  obtain ⟨y,y0,y1,y2,y3,y4,y5,y6,y7⟩:=I.adopt q hq1.1 hLq hT
  refine ⟨y,y0,Z1r hst hm hits (I.sub q hq1.1) hT hLq hnL (a:={ a with defers:=ds}) rfl y1,fun x hx=> ?_,(hev.keep _ y7 y4).trans y3,fun ho=> ?_,fun ad c hi=>y5 ad c (hev.imm ad c hi),y6,Nat.lt_of_lt_of_le y7 hev.size⟩
  ·rw [YS (hst.dst q (I.sub q hq1.1) e hits hqi x hx)]
   simp_all
  ·rcases hev.own _ ho with h|h
   all_goals grind
 ·have hq1:=YT.1 hq
  have hq2:=YT.1 hq'
  have hqi:q≠e:=fun h=>by simp_all
  have hqi':q'≠e:=fun h=>by simp_all
  exact I.inj q hq1.1 q' hq2.1 (hback q (I.sub q hq1.1) hqi hL) (hback q' (I.sub q' hq2.1) hqi' hL') hl hl' hb
 ·rw [e2]
  rcases hrm q hq hn with rfl|hn'
  ·simp_all
  ·exact I.dst q hq x hx hn'
 ·rcases hrm q hq hn with rfl|hn'
  ·simp_all
  ·exact Z3o (I.dset q hq hn')
 ·refine Z8K hst hm hits hnL I.mp (r:=r) (fun x=>by cases hq:e.o.dst<;>simp [Act.put]) (by rw [XW]) (fun x hd h=>by rw [e5 x hd];exact h) hev.keep
   (fun b hb hno _ ho=>(hev.own b ho).elim hno fun h=>by omega) (fun ad c h=>hev.imm ad c h) hev.size (fun q hq hL hl b _ hb=> ?_)
  have hq1:=YT.1 hq
  simp_all
end
end Go.Tk
end
