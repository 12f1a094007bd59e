/- H: part 6 of an engine (a symbolic evaluator, proved against the model) and of the walk by it. -/
import Derived.Test.YthnfcmaoiebelaaGreatH5
set_option linter.unusedVariables false
set_option linter.unusedSimpArgs false
set_option maxRecDepth 100000
set_option maxHeartbeats 0
section
namespace Go.Tk
open IntKind (i64 u8 u32 u64 wrap)
variable {D:List Zk} {α:Type} {H:LI->LI} {X:Zb} {W:Int->LI} {xs ys:LI} {most q10 q18:Int} {A k' u:Nat} {G:Zf} {args cs:List AV} {τ:Ren} {E:Env} {C:Prop} {S0:St} {ends:KE->Prop} {K K':AV->Prop}
noncomputable def Q3:Code:=rfA PP 151 0
noncomputable def Q4:Code:=rfB PP 151 0
def jsL (T:List Zk) (js:List Nat):List Zk:=js.reverse.map fun j=>T.getD j Zq
theorem Z7K (T:List Zk) (j:Nat) (js:List Nat):jsL T (j::js)=jsL T js++[T.getD j Zq]:=by simp [jsL]
theorem Zgl (T:List Zk) (js:List Nat):(jsL T js).length=js.length:=by simp [jsL]
def vF:AV:=.func (.func 130) [] [pt 1]
noncomputable def crB (L:List Zk) (m:Blk):List (Nat×Blk):=(7,.rows 66 L.length (tiR L))::(4,.loop (Uv.mk .ready none 151 13 [(6,vF),(4,.nilslice),(2,pt 2),(0,.nilslice),(1,vF)] [7] Q3 Q4 3))::(3,.defd)::(2,.flat [.nslice ⟨7,0,66,0,0⟩ 66 L.length L.length])::(1,.flat [.map (some 0)])::[(0,m)]
noncomputable def crS (T:List Zk) (js:List Nat):St:=⟨15,[(6,.ptr (some ⟨6,0,0,0,0⟩)),(0,.yield 4)],⟨8,(6,.git 0 5 js)::crB (jsL T js) (.froz (.fmap T.length (tkO T) (tiV T)) 5)⟩,[]⟩
noncomputable def crE (T:List Zk) (js:List Nat):St:=⟨15,[(0,.yield 4)],⟨8,crB (jsL T js) (.fmap T.length (tkO T) (tiV T))⟩,[]⟩
theorem Zmb (T:List Zk) (js:List Nat) (go:Nat->Prop) (ex:Prop) (hn:T.length<=48) (hs:Yn T.length js) (hg:∀j,j<T.length->j∉js->go j) (hx:(∀j,j<T.length->j∈js)->ex):
  ZF G0 40 130 0 5 (crS T js) (rdS 5 0 6 (crS T) (crE T) js go ex):=by
 refine @Eq.mpr _ (let b:=T.length;let a:=List.length (jsL T js);let h:=decide (a=a);let g:=a+1;let n:=[(7,11),(5,5),(6,6)];let f:=tiR (jsL T js);let m:=LoopState.ready=LoopState.ready/\(none:Option Code)=none/\(151:FuncId)=151/\(13:Nat)=13/\[(7:Nat)]=[(7:Nat)]/\Q3=Q3/\Q4=Q4;let l:=decide (b=b);let c:=tkO T;let e:=tiV T;let q:=[(7,7)];
 (∀(j:Nat),
 let k:=j::js;let p:=jsL T k;let i:=p.length;let o:=decide (g=i);let d:=List.getD T j Zq;
 j<b->¬List.Mem j js->Z4 h (Z5 (g*80<=140737488355328) (Z4w k k/\Z4 o (Z9 5 n i (tiR p) (Xd a f (XM [AV.arr u8 32 d.inn.v,AV.int i64 d.inID,AV.arr u8 32 d.out.v,AV.int i64 d.outID] 0 66))/\m/\Z4 o (Z5 (i<=g) (Z4 l (Z8 5 n b c e c e/\js=js/\go j)))))))/\
 ((∀(j:Nat),j<b->j∈js)->Z4 h (Z9 5 q a f f/\m/\Z4 h (Z5 (a<=a) (Z4 l (Z8 5 q b c e c e/\ex)))))) (by kernel_rfl) ?_
 conv=>zeta
 try simp only [vcA]
 try simp only [vcB]
 try simp only [vcC]
 have hM:∀τ,Z8 5 τ T.length (tkO T) (tiV T) (tkO T) (tiV T):=fun τ=>ZE (Uo _) fun _ _=>⟨rfl,rfl⟩
 have hl:=Zgl T js
 have hjl:=hs.len
 refine ⟨fun j hj hm=> ?_,fun hall=>⟨Zj ZX fun _ _=>rfl,hM _,hx hall⟩⟩
 have el:(jsL T js).length+1=(jsL T (j::js)).length:=by rw [Z7K,J3];rfl
 exact ⟨by omega,.refl _,el,Zj ZX fun i hi=>by
  have hi':i<(jsL T js).length+1:=by omega
  rw [Z7K]
  exact Yc (x:=T.getD j Zq) rfl hi',el,Jw el.symm,hM _,hg j hj hm⟩
theorem Z7L {T:List Zk} {js:List Nat} (h:Yn T.length js) (ha:∀j,j<T.length->j∈js):(jsL T js).Perm T:=by
 have h1:(js.reverse).Perm (List.range T.length):=(List.reverse_perm js).trans (h.perm ha)
 have h2:=h1.map fun j=>T.getD j Zq
 have h3:(List.range T.length).map (fun j=>T.getD j Zq)=T:=by
  apply List.ext_getElem
  ·simp
  ·intro i h1 h2
   simp only [List.getElem_map,List.getElem_range]
   rw [getD_at h2]
 rw [h3] at h2
 exact h2
noncomputable def Zkn (T:List Zk):Zf:=G0.withL 130 0 (goM 5 (crS T []) (T.length<=48) (Zap 0 (Yn T.length) (fun js=>∀j,j<T.length->j∈js) (crE T)))
theorem Zgm (T:List Zk):(Zkn T).Ok:=
 Zf.withGoS (N:=40) (g:=6) (n:=T.length) (S:=crS T) Zt (by kernel_rfl) fun hC=>⟨rfl,Yn.nil _,fun js hs=>⟨hs.len,Zmb T js _ _ hC hs (fun j hj hm=>hs.cons hj hm) fun h=>h⟩⟩
theorem Zgn:Go.Sort.SWO (Go.Proofs.ltOf cfT) where
 irrefl x:=Zaf x
 trans x y z h1 h2:=Z5q x y z h1 h2
 ntrans x y z h1 h2:=Z44 x y z h1 h2
def Zgo (h:Zk):List Value:=intCells .u8 32 h.inn.v++(.int .i64 h.inID::(intCells .u8 32 h.out.v++(.int .i64 h.outID::[])))
theorem Z4e (E:Env) (h:Zk):Zp E h.c (Zgo h):=
 .arr _ _ _ _ _ (.one _ _ _ _ rfl rfl (.int _ _) (.arr _ _ _ _ _ (.one _ _ _ _ rfl rfl (.int _ _) .nil)))
theorem Zgp (E:Env) (h:Zk) (vs:List Value) (hc:Zp E h.c vs):vs=Zgo h:=by
 unfold Zk.c at hc
 obtain ⟨w0,rfl,k0⟩:=hc.cons_arr
 obtain ⟨c1,w1,rfl,_,_,h1,k1⟩:=k0.cons_cell (by intros;simp)
 obtain ⟨w2,rfl,k2⟩:=k1.cons_arr
 obtain ⟨c3,w3,rfl,_,_,h3,k3⟩:=k2.cons_cell (by intros;simp)
 cases k3
 cases h1;cases h3
 rfl
theorem U2:∃(_:Env),True:=⟨⟨fun _=>none,fun _ _=>False⟩,trivial⟩
theorem Ze5 (h:Zk):(Zgo h).length=66:=by
 obtain ⟨E,_⟩:=U2
 have:=(Z4e E h).length
 simpa [Zk.c,csz] using this
theorem Ze6 (h:Zk):∀v∈Zgo h,v.oneCell'=true:=by
 obtain ⟨E,_⟩:=U2
 exact (Z4e E h).all_one
theorem Zmc (f:Nat->List AV) (lo:Nat) :
  evF G0 60 129 [.nslice ⟨0,0,66,0,0⟩ 66 0 lo,.func (.func 60) [] []] ⟨1,[(0,.rows 66 0 f)]⟩ (Yd 1 (.ret (.tuple [])) 1 [(0,.rows 66 0 f)]):=by
 refine @Eq.mpr _ (Z9 1 [] 0 f f/\True) (by kernel_rfl) ?_
 try simp only [vcA]
 try simp only [vcB]
 try simp only [vcC]
 exact Qq (fun i hi=>absurd hi (Js i)) (fun i hi=>absurd hi (Js i)) fun i hi=>absurd hi (Js i)
theorem ZiH {T M:List Zk} {n lo:Nat} {f:Nat->List AV} (hM:M.Perm T) (hn:M.length=n) (h0:0<n) (hf:∀i,i<n->f i=tiR M i) (h:TR T D):Spec PP 129 [.nslice ⟨0,0,66,0,0⟩ 66 n lo,.func (.func 60) [] []] ⟨1,[(0,.rows 66 n f)]⟩ (.ret (.tuple [])) 1 [(0,.rows 66 n (tiR D))]:=
 Z1E (L:=Zkm) (k:=66) Go.Proofs.Tryz.isAgg33 Go.Proofs.Tryz.sizeOf33 (c:=Zk.c) Ze5 (by decide) Ze6 Zgp Z4e Zgn (g:=60)
  (fun _ _=>Go.Proofs.enters_of Go.Proofs.Tryz.func60 (by kernel_rfl) rfl _ _) (fun x y=>Y6.evW6 Zt (Zlt x y _ rfl)) hn h0 (by have:=h.len;have:=hM.length_eq;omega) hf (fun _ _=>rfl)
  (fun l' hp ho=>h.sorted (hp.trans hM) ho)
theorem Z1F (L:List Zk) (i:Nat):YD (tiR L i)=true:=ZX.p _
def Z9f (T D:List Zk):ZS:=fun args h K=>match args with
 | [.nslice ⟨b,0,66,0,0⟩ 66 _ _,_]=>frA [b] h 20 args fun Bs a=>match Bs,a with
  | [.rows 66 n f],[.nslice ⟨0,0,66,0,0⟩ 66 n' _,.func (.func 60) [] []]=>∃M,(n'=n/\M.length=n/\f=tiR M)/\M.Perm T/\TR T D/\K (.ret (.tuple [])) ⟨h.next,(b,.rows 66 n (tiR D))::Zy h.bs b⟩
  | _,_=>False
 | _=>False
theorem ZbC (T D:List Zk) (args:List AV) (h:Z7) (K:KO) (hl:Z9f T D args h K):Zi PP 129 args h K:=by
 unfold Z9f at hl
 split at hl
 ·refine Spec.fsumm hl fun Bs a hlen hK0=> ?_
  split at hK0
  ·rename_i n f n' lo
   obtain ⟨M,⟨rfl,hn,rfl⟩,hM,hT,hK⟩:=hK0
   rcases JF n' with h0|h0
   ·subst h0
    have hMn:M=[]:=Jl hn
    have hDn:D=[]:=by
     have:=hT.perm.length_eq
     have:=hM.length_eq
     exact Jl (by omega)
    subst hMn hDn
    exact ⟨_,_,_,_,_,.evM Zt (Zmc (tiR []) lo),by simp,.ret _ _ rfl,.cons _ _ _ _ _ _ rfl (.rows _ _ _ (fun i _=>Z1F [] i)) .nil,hK⟩
   ·exact ⟨_,_,_,_,_,ZiH hM hn h0 (fun _ _=>rfl) hT,by simp,.ret _ _ rfl,.cons _ _ _ _ _ _ rfl (.rows _ _ _ (fun i _=>Z1F D i)) .nil,hK⟩
  ·exact hK0.elim
 ·exact hl.elim
noncomputable def ZhD (T D:List Zk):Zf:=(Zkn T).withF 129 (Z9f T D)
theorem Ze7 (T D:List Zk):(ZhD T D).Ok:=Zf.withF_ok (Zgm T) (ZbC T D)
theorem Zmd (T D:List Zk) (n:Nat) (h:TR T D) (hn:n=D.length):
  evF (ZhD T D) 40 59 [.map (some 0),.func (.func 60) [] []] ⟨1,[(0,.fmap T.length (tkO T) (tiV T))]⟩ (Yd 1 (.ret (.nslice ⟨1,0,66,0,0⟩ 66 n n)) 2 [(0,.fmap T.length (tkO T) (tiV T)),(1,.rows 66 n (tiR D))]):=by
 refine @Eq.mpr _ (Z4w [] []/\
 (LoopState.ready=LoopState.ready/\(none:Option Code)=none/\(151:Nat)=(151:FuncId)/\(13:Nat)=(13:Nat)/\[(7:Nat)]=[(7:Nat)]/\Q3=Q3/\Q4=Q4)/\
 Z5 (T.length=T.length) (Z8 (5:Nat) [((5:Nat),(5:Nat)),((6:Nat),(6:Nat))] (T.length) (tkO T) (tiV T) (tkO T) (tiV T)/\T.length<=(48:Nat)/\∀(js:List Nat),Yn (T.length) js->(∀(j:Nat),j<T.length->j∈js)->(∀(i:Nat),i<List.length (jsL T js)->true=true)/\∃(M:List Zk),(List.length (jsL T js)=List.length (jsL T js)/\M.length=List.length (jsL T js)/\tiR (jsL T js)=tiR M)/\List.Perm M T/\TR T D/\Z5 (List.length (jsL T js)=n) (Z5 (n<=List.length (jsL T js)) (Z5 (T.length=T.length) (Z8 (1:Nat) [((1:Nat),(7:Nat))] (T.length) (tkO T) (tiV T) (tkO T) (tiV T)/\Z5 (List.length (jsL T js)=n) (Z9 (1:Nat) [((1:Nat),(7:Nat))] n (tiR D) (tiR D)/\True)))))) (by kernel_rfl) ?_
 try simp only [vcA]
 try simp only [vcB]
 try simp only [vcC]
 have hM:∀k τ,Z8 k τ T.length (tkO T) (tiV T) (tkO T) (tiV T):=fun k τ=>ZE (Uo _) fun _ _=>⟨rfl,rfl⟩
 refine ⟨.refl _,hM _ _,h.len,fun js hs ha=>⟨fun _ _=>trivial,jsL T js,⟨rfl,rfl⟩,Z7L hs ha,h, ?_⟩⟩
 have el:(jsL T js).length=n:=by rw [hn,(Z7L hs ha).length_eq,h.perm.length_eq]
 exact ⟨el,Jw el.symm,hM _ _,el,Zj ZX fun _ _=>rfl⟩
def riS (T D:List Zk):ZS:=fun args h K=>match args with
 | [.map (some o),_]=>frA [o] h 20 args fun Bs a=>match Bs,a with
  | [.fmap n kf vf],[.map (some 0),.func (.func 60) [] []]=>(n=T.length/\kf=tkO T/\vf=tiV T)/\TR T D/\K (.ret (.nslice ⟨h.next,0,66,0,0⟩ 66 D.length D.length)) ⟨h.next+1,(o,.fmap T.length (tkO T) (tiV T))::(h.next,.rows 66 D.length (tiR D))::Zy h.bs o⟩
  | _,_=>False
 | _=>False
theorem Ze8 (T D:List Zk) (args:List AV) (h:Z7) (K:KO) (hl:riS T D args h K):Zi PP 59 args h K:=by
 unfold riS at hl
 split at hl
 ·refine Spec.fsumm hl fun Bs a hlen hK0=> ?_
  split at hK0
  ·obtain ⟨⟨rfl,rfl,rfl⟩,hT,hK⟩:=hK0
   exact ⟨_,_,_,_,_,.evM (Ze7 T D) (Zmd T D _ hT rfl),by simp,.ret _ _ rfl,.cons _ _ _ _ _ _ rfl (.fmap _ _ _ (fun i _=>⟨rfl,rfl⟩)) (.cons _ _ _ _ _ _ rfl (.rows _ _ _ (fun i _=>Z1F D i)) .nil),hK⟩
  ·exact hK0.elim
 ·exact hl.elim
theorem Ze9 {x:Zk} (h:D.length<=48):(Z0Y D x).length<=48:=by
 unfold Z0Y
 split
 ·rename_i he
  have:=(Z6n he).2.2
  rw [UZ]
  omega
 ·exact h
theorem Zgq {o:LI} {id:Int} (h:D.length<=48):(unD D o id).length<=48:=by
 unfold unD
 split
 ·exact JI (List.length_filter_le _ _) h
 ·exact h
theorem Zaq {x:ZQ} {D:Zb} (h:ZP D):ZP (acD Yj hhD x D):=by
 unfold acD
 repeat' split
 ·exact ⟨Ze9 h.t,h.s,h.q⟩
 ·exact ⟨Zgq h.t,h.s,h.q⟩
 ·exact ⟨h.t,Zds h.s,h.q⟩
 ·exact ⟨h.t,h.s,Zdx h.q⟩
 ·exact ⟨h.t,h.s,Zdz h.q⟩
 ·exact ⟨h.t,Zdu h.s,h.q⟩
 ·exact h
structure ZhE (D:Zb) (n1 n2 n3 n4 n5 n6:Nat):Prop where
 h:n1=D.T.length/\n2=D.T.length/\n3=D.S.length/\n4=D.S.length/\n5=D.Q.length/\n6=D.Q.length
def Zme (l:List (Nat×Blk)) (t o i s a wa wb wc:Nat):List (Nat×Blk):=Zy (Zy (Zy (Zy (Zy (Zy (Zy (Zy l t) o) i) s) a) wa) wb) wc
def Zko (X D:Zb) (t o i s a wa wb wc:Nat) (r:List (Nat×Blk)):List (Nat×Blk):=(t,.flat [.map (some o),.map (some i),.map (some s),.map (some a)])::(o,.fmap X.T.length (tkO X.T) (tiV X.T))::(i,.fmap X.T.length (tkI X.T) (tiV X.T))::(s,.fmap X.S.length (skV Zh X.S) (seV X.S))::(a,.fmap X.Q.length (qkV X.Q) (quV X.Q))::(wa,.rows 66 D.T.length (tiR D.T))::(wb,.rows 32 D.S.length (seR D.S))::(wc,.rows 98 D.Q.length (quR D.Q))::r
def Zkp (h:Z7) (args:List AV) (K0:Zb->Zb->ZQ->Nat->Nat->Nat->Nat->Nat->Nat->Nat->Nat->Prop):Prop:=match args with
 | .ptr (some ⟨t,0,0,0,0⟩)::.agg [.nslice ⟨wa,0,66,0,0⟩ 66 _ _,.nslice ⟨wb,0,32,0,0⟩ 32 _ _,.nslice ⟨wc,0,98,0,0⟩ 98 _ _]::_=>match h.get t with
  |some (.flat [.map (some o),.map (some i),.map (some s),.map (some a)])=>frA [t,o,i,s,a,wa,wb,wc] h 60 args fun Bs az=>match Bs,az with
   | [.flat cs,.fmap n1 k1 v1,.fmap n2 k2 v2,.fmap n3 k3 v3,.fmap n4 k4 v4,.rows 66 n5 f5,.rows 32 n6 f6,.rows 98 n7 f7],[.ptr (some ⟨0,0,0,0,0⟩),.agg [.nslice ⟨5,0,66,0,0⟩ 66 m1 m2,.nslice ⟨6,0,32,0,0⟩ 32 m3 m4,.nslice ⟨7,0,98,0,0⟩ 98 m5 m6],.agg xs]=>∃X D x,YN Zh X cs n1 k1 v1 n2 k2 v2 n3 k3 v3 n4 k4 v4/\QO D n5 f5 n6 f6 n7 f7/\ZhE D m1 m2 m3 m4 m5 m6/\QP xs x/\K0 X D x t o i s a wa wb wc
   | _,_=>False
  | _=>False
 | _=>False
def ZiI:ZS:=fun args h K=>Zkp h args fun X D x t o i s a wa wb wc=>K (.ret (.tuple [.agg [.nslice ⟨h.next,0,66,0,0⟩ 66 (acD Yj hhD x D).T.length (acD Yj hhD x D).T.length,.nslice ⟨h.next+1,0,32,0,0⟩ 32 (acD Yj hhD x D).S.length (acD Yj hhD x D).S.length,.nslice ⟨h.next+2,0,98,0,0⟩ 98 (acD Yj hhD x D).Q.length (acD Yj hhD x D).Q.length],.top])) ⟨h.next+3,Zko (acX Zh Yj hhD x X) (acD Yj hhD x D) t o i s a h.next (h.next+1) (h.next+2) (Zme h.bs t o i s a wa wb wc)⟩
theorem Zgr (args:List AV) (h:Z7) (K:KO) (hl:ZiI args h K):Zi PP 8 args h K:=by
 unfold ZiI Zkp at hl
 split at hl
 ·split at hl
  ·refine Spec.fsumm hl fun Bs az hlen hK0=> ?_
   split at hK0
   ·obtain ⟨X,D,x,⟨rfl,⟨rfl,rfl,rfl⟩,⟨rfl,rfl,rfl⟩,⟨rfl,rfl,rfl⟩,⟨rfl,rfl,rfl⟩,hX⟩,⟨⟨rfl,rfl⟩,⟨rfl,rfl⟩,⟨rfl,rfl⟩,hD⟩,⟨rfl,rfl,rfl,rfl,rfl,rfl⟩,⟨rfl⟩,hK⟩:=hK0
    have q:=Qs Zh (acX Zh Yj hhD x X)
    exact ⟨_,_,_,_,_,Zgk X D x hX hD,by simp,.ret _ _ rfl,.cons _ _ _ _ _ _ rfl (.flat _ _ rfl) (.cons _ _ _ _ _ _ rfl (.fmap _ _ _ (fun i _=>(q i).1)) (.cons _ _ _ _ _ _ rfl (.fmap _ _ _ (fun i _=>⟨(q i).2.1,(q i).1.2⟩)) (.cons _ _ _ _ _ _ rfl (.fmap _ _ _ (fun i _=>(q i).2.2.1)) (.cons _ _ _ _ _ _ rfl (.fmap _ _ _ (fun i _=>(q i).2.2.2)) (.cons _ _ _ _ _ _ rfl (.rows _ _ _ (fun i _=>ZX.p _)) (.cons _ _ _ _ _ _ rfl (.rows _ _ _ (fun i _=>Ye.p _)) (.cons _ _ _ _ _ _ rfl (.rows _ _ _ (fun i _=>Y8.p _)) .nil))))))),hK⟩
   ·exact hK0.elim
  ·exact hl.elim
 ·exact hl.elim
theorem Zkq (u:Unit) :
  evF G0 20 82 [.nilslice] ⟨0,[]⟩ (XA (fun v=>v=.nilslice)):=by
 refine @Eq.mpr _ (AV.nilslice=AV.nilslice) (by kernel_rfl) ?_
 rfl
def Z9g:ZS:=fun args h K=>match args with
 | [.nilslice]=>K (.ret .nilslice) h
 | args=>Z2z args h K
theorem ZbD (args:List AV) (h:Z7) (K:KO) (hl:Z9g args h K):Zi PP 82 args h K:=by
 unfold Z9g at hl
 split at hl
 ·have:=X5 (h:=h) (K:=fun v=>K (.ret v) h) Zt rfl (Zkq ()) fun u hu=>hu▸hl
  intro E w rs he hr
  refine (this E w rs he hr).mono ?_
  rintro e w' ⟨E',o,h',⟨v,rfl,rfl,hK⟩,hev,hor⟩
  exact ⟨E',_,_,hK,hev,hor⟩
 ·exact Z0f args h K hl
noncomputable def Zkr:Zf:=G0.withF 82 Z9g
theorem Zgs:Zkr.Ok:=Zf.withF_ok Zt ZbD
theorem Zks (u:Unit) :
  evF Zkr 40 6 [] ⟨0,[]⟩ (XA (fun v=>v=.bool true)):=by
 refine @Eq.mpr _ (let e:=[(0:Int),0,0,0,0,0,0,0,0,0,0,0,0,0,0,0,0,0,0,0,0,0,0,0,0,0,0,0,0,0,0];let d:=(2:Int)::e;let a:=d=d;let c:=(1:Int)::e;let b:=c=c;
 a/\b/\a/\b/\a/\a/\b/\a/\a/\b/\a/\b/\a/\a/\a/\AV.bool true=AV.bool true) (by kernel_rfl) ?_
 conv=>zeta
 repeat' apply JH
 all_goals first|rfl|trivial
def Zea:Yk:=fun args _ K=>match args with
 | []=>K (.bool true)
 | _=>False
theorem Zeb (args:List AV) (h:Z7) (K:AV->Prop) (hl:Zea args h K):Zi PP 6 args h fun o h'=>∃v,o=.ret v/\h'=h/\K v:=by
 unfold Zea at hl
 split at hl
 ·exact X5 Zgs rfl (Zks ()) fun u hu=>hu▸hl
 ·exact hl.elim
def cfS (a b:H32):Int:=ZV a.v b.v
def cfQ (a b:Zs):Int:=ZV a.hash.v b.hash.v
theorem Z16 (a:H32):decide (ZV a.v a.v<0)=false:=by rw [Z5p];decide
theorem Uj (a b c:H32) (h1:decide (ZV a.v b.v<0)=true) (h2:decide (ZV b.v c.v<0)=true):decide (ZV a.v c.v<0)=true:=by
 simp only [decide_eq_true_eq] at*
 exact (VV a b c).1 h1 h2
theorem Vm (a b c:H32) (h1:decide (ZV a.v b.v<0)=false) (h2:decide (ZV b.v c.v<0)=false):decide (ZV a.v c.v<0)=false:=by
 simp only [decide_eq_false_iff_not] at*
 intro h
 have s1:=YQ a.v b.v
 have s2:=YQ b.v c.v
 have s3:=YQ a.v c.v
 rcases Q0 a.v b.v with e1|e1|e1
 ·omega
 ·have:=(VV a b c).2.1 e1;omega
 ·rcases Q0 b.v c.v with e2|e2|e2
  ·omega
  ·have:=(VV a b c).2.2 e2;omega
  ·have:=(VV c b a).1 (by omega) (by omega);omega
theorem ZhF {lt:α->α->Bool} (irr:∀x,lt x x=false) (tr:∀x y z,lt x y=true->lt y z=true->lt x z=true) (ntr:∀x y z,lt x y=false->lt y z=false->lt x z=false):WO lt where
 asym x y h:=by
  cases h2:lt y x with
  | false=>rfl
  | true=>
   have:=tr x y x h h2
   rw [irr] at this
   cases this
 neg x y z h1 h2:=by
  cases h3:lt x z with
  | true=>rfl
  | false=>
   have:=ntr x z y h3 h2
   rw [h1] at this
   cases this
theorem Zec:WO ltS:=ZhF Z16 Uj Vm
theorem Zed:WO ltQ:=ZhF (fun x=>Z16 x.hash) (fun x y z=>Uj x.hash y.hash z.hash) fun x y z=>Vm x.hash y.hash z.hash
theorem Zar {a b:H32} (h1:ltS a b=false) (h2:ltS b a=false):a=b:=by
 unfold ltS at h1 h2
 simp only [decide_eq_false_iff_not] at h1 h2
 have:=YQ a.v b.v
 exact H32.cmp (by omega)
theorem Zgt {a b:Zs} (h1:ltQ a b=false) (h2:ltQ b a=false):a.hash=b.hash:=Zar (a:=a.hash) (b:=b.hash) h1 h2
def srt {α:Type} (lt:α->α->Bool) (l:List α):List α:=Z40 lt [] l
theorem Y5 {lt:α->α->Bool} {l:List α}:(srt lt l).Perm l:=Z42 (lt:=lt) (l:=l) (acc:=[])
theorem Z17 {lt:α->α->Bool} (wo:WO lt) {l:List α}:Ut lt (srt lt l):=Z5o wo .nil
theorem W1 {lt:α->α->Bool} {l:List α}:(srt lt l).length=l.length:=Y5.length_eq
structure SR {α:Type} (lt:α->α->Bool) (L D:List α):Prop where
 perm:D.Perm L
 ord:Ut lt D
 tot:∀a∈L,∀b∈L,lt a b=false->lt b a=false->a=b
theorem SR.sorted {lt:α->α->Bool} {L D M:List α} (h:SR lt L D) (hm:M.Perm L) (ho:Ut lt M):M=D:=
 Vk (hm.trans h.perm.symm) ho h.ord fun a ha b hb h1 h2=>h.tot a (hm.mem_iff.1 ha) b (hm.mem_iff.1 hb) h1 h2
theorem SR.len {lt:α->α->Bool} {L D:List α} (h:SR lt L D):D.length=L.length:=h.perm.length_eq
structure Zb.Inv (H:LI->LI) (X:Zb):Prop where
 lim:X.Lim
 tok:∀x∈X.T,Wd x=true
 sk:X.S.Pairwise fun a b=>H a.v≠H b.v
 qk:X.Q.Pairwise fun a b=>a.hash.v≠b.hash.v
 qok:∀q∈X.Q,XK H q=true
theorem ZiJ {R:α->α->Prop} {l:List α} (hs:∀a b,R a b->R b a) (h:l.Pairwise R) {a b:α} (ha:a∈l) (hb:b∈l):a=b\/R a b:=by
 obtain ⟨i,hi,rfl⟩:=Jr ha
 obtain ⟨j,hj,rfl⟩:=Jr hb
 rcases Nat.lt_trichotomy i j with hlt|rfl|hgt
 ·exact .inr (Ji.1 h i j hi hj hlt)
 ·exact .inl rfl
 ·exact .inr (hs _ _ (Ji.1 h j i hj hi hgt))
def Yg (X:Zb):Zb:=⟨srt ltT X.T,srt ltS X.S,srt ltQ X.Q⟩
theorem Zb.Inv.tr (h:X.Inv H):TR X.T (srt ltT X.T):=⟨Y5,Z17 Z9b,h.lim.ko,h.lim.t⟩
theorem srS (S:List H32):SR ltS S (srt ltS S):=⟨Y5,Z17 Zec,fun _ _ _ _ h1 h2=>Zar h1 h2⟩
theorem Zb.Inv.sq (h:X.Inv H):SR ltQ X.Q (srt ltQ X.Q):=⟨Y5,Z17 Zed,fun a ha b hb h1 h2=>by
 rcases ZiJ (fun _ _ h=>Ne.symm h) h.qk ha hb with e|e
 ·exact e
 ·exact absurd (congrArg H32.v (Zgt h1 h2)) e⟩
theorem Zb.Inv.nil:Zb.Inv H ⟨[],[],[]⟩:=⟨.nil,by simp,.nil,.nil,by simp⟩
theorem Z18 {S:List H32} {i:Nat} (h:i<S.length):S.getD i h0=S[i]:=by
 rw [J5,J8 h]
 rfl
theorem Uk {S:List Zs} {i:Nat} (h:i<S.length):S.getD i ZH=S[i]:=by
 rw [J5,J8 h]
 rfl
theorem Zee {S:List H32} (s:H32) (h:S.Pairwise fun a b=>H a.v≠H b.v):(Vz H S s).Pairwise fun a b=>H a.v≠H b.v:=by
 unfold Vz We
 rcases YK (fun j=>H s.v==H (S.getD j h0).v) S.length with ⟨h1,h2⟩|⟨h1,h2,h3⟩
 ·rw [h1,if_neg (by omega)]
  split
  ·exact h
  ·refine Ki.2 ⟨h,by simp,fun a ha b hb=> ?_⟩
   rw [JW.1 hb]
   obtain ⟨j,hj,rfl⟩:=Jr ha
   have:=h2 j hj
   rw [Z18 hj] at this
   intro e
   rw [e] at this
   simp at this
 ·rw [if_pos h1]
  generalize Zo (fun j=>H s.v==H (S.getD j h0).v) S.length=k at*
  rw [Z18 h1,beq_iff_eq] at h2
  have hp:=Ji.1 h
  refine Ji.2 fun i j hi hj hlt=> ?_
  rw [Ko] at hi hj
  rw [List.getElem_set,List.getElem_set]
  split
  ·rename_i e
   subst e
   rw [if_neg (by omega),h2]
   exact hp _ _ _ _ hlt
  ·split
   ·rename_i e
    subst e
    rw [h2]
    exact hp _ _ _ _ hlt
   ·exact hp _ _ _ _ hlt
theorem Z7M {Q:List Zs} (q:Zs) (h:Q.Pairwise fun a b=>a.hash.v≠b.hash.v) (ho:∀q∈Q,XK H q=true):((VA H Q q).Pairwise fun a b=>a.hash.v≠b.hash.v)/\∀x∈VA H Q q,XK H x=true:=by
 unfold VA
 split
 ·rename_i he
  unfold Wo at he
  split at he
  ·rename_i hk
   split at he
   ·omega
   ·rename_i hn
    unfold atQ at hn
    rcases YK (fun j=>q.hash.v==(Q.getD j ZH).hash.v) Q.length with ⟨h1,h2⟩|⟨h1,h2,h3⟩
    ·refine ⟨Ki.2 ⟨h,by simp,fun a ha b hb=> ?_⟩,fun x hx=> ?_⟩
     ·rw [JW.1 hb]
      obtain ⟨j,hj,rfl⟩:=Jr ha
      have:=h2 j hj
      rw [Uk hj] at this
      intro e
      rw [e] at this
      simp at this
     ·rcases K3.1 hx with hx|hx
      ·exact ho x hx
      ·rw [JW.1 hx]
       exact hk
    ·omega
  ·omega
 ·exact ⟨h,ho⟩
theorem Zb.Inv.tie (h:X.Inv H) (x:Zk):Zb.Inv H ⟨Wn X.T x,X.S,X.Q⟩:=by
 refine ⟨h.lim.tie x, ?_,h.sk,h.qk,h.qok⟩
 show ∀y∈Wn X.T x,_
 unfold Wn
 split
 ·rename_i he
  intro y hy
  rcases K3.1 hy with hy|hy
  ·exact h.tok y hy
  ·rw [JW.1 hy]
   exact (Z6n he).1
 ·exact h.tok
theorem Zb.Inv.untie (h:X.Inv H) (o:LI) (id:Int):Zb.Inv H ⟨unP X.T o id,X.S,X.Q⟩:=
 ⟨h.lim.untie o id,fun y hy=>h.tok y (List.mem_of_mem_eraseIdx hy),h.sk,h.qk,h.qok⟩
theorem Zb.Inv.lrn (h:X.Inv H) (s:H32):Zb.Inv H ⟨X.T,Vz H X.S s,X.Q⟩:=
 ⟨⟨h.lim.t,Zdr h.lim.s,h.lim.q,h.lim.ko,h.lim.ki⟩,h.tok,Zee s h.sk,h.qk,h.qok⟩
theorem Zb.Inv.fgt (h:X.Inv H) (o:LI):Zb.Inv H ⟨X.T,Z4z H X.S o,X.Q⟩:=
 ⟨⟨h.lim.t,Zdt h.lim.s,h.lim.q,h.lim.ko,h.lim.ki⟩,h.tok,List.Pairwise.sublist (Ke ..) h.sk,h.qk,h.qok⟩
theorem Zb.Inv.ask (h:X.Inv H) (q:Zs):Zb.Inv H ⟨X.T,X.S,VA H X.Q q⟩:=
 ⟨⟨h.lim.t,h.lim.s,Zdw h.lim.q,h.lim.ko,h.lim.ki⟩,h.tok,h.sk,(Z7M q h.qk h.qok).1,(Z7M q h.qk h.qok).2⟩
theorem Zb.Inv.pay (h:X.Inv H) (o:LI):Zb.Inv H ⟨X.T,X.S,Z4A X.Q o⟩:=
 ⟨⟨h.lim.t,h.lim.s,Zdy h.lim.q,h.lim.ko,h.lim.ki⟩,h.tok,h.sk,List.Pairwise.sublist (Ke ..) h.qk,fun y hy=>h.qok y (List.mem_of_mem_eraseIdx hy)⟩
def ZbE:Go.Shelf.Ren:=⟨fun|6=>145|15=>149|14=>164|28=>173|29=>174|20=>186|21=>187|22=>188|23=>189|24=>190|25=>191|26=>192|27=>193|46=>202|47=>195|48=>196|49=>203|50=>204|57=>207|n=>n,fun|22=>26|24=>31|25=>117|3=>3|39=>206|0=>0|53=>174|55=>169|4=>4|46=>242|45=>241|50=>246|5=>5|9=>9|66=>264|70=>268|76=>274|77=>275|n=>n,fun|n=>n⟩
theorem Zkt:Go.Proofs.SlLaysF0.n6 PP ZbE:={
 mixed:=by kernel_rfl,
 f6:=⟨Go.Proofs.Tryz.f145.name,by decide,Go.Proofs.Tryz.func145.trans (congrArg some (by kernel_rfl))⟩,
 f14:=⟨Go.Proofs.Tryz.f164.name,by decide,Go.Proofs.Tryz.func164.trans (congrArg some (by kernel_rfl))⟩,
 f15:=Go.Proofs.Tryz.func149.trans (congrArg some (by kernel_rfl)),
 f20:=⟨Go.Proofs.Tryz.f186.name,by decide,Go.Proofs.Tryz.func186.trans (congrArg some (by kernel_rfl))⟩,
 f21:=⟨Go.Proofs.Tryz.f187.name,by decide,Go.Proofs.Tryz.func187.trans (congrArg some (by kernel_rfl))⟩,
 f22:=⟨Go.Proofs.Tryz.f188.name,by decide,Go.Proofs.Tryz.func188.trans (congrArg some (by kernel_rfl))⟩,
 f23:=⟨Go.Proofs.Tryz.f189.name,by decide,Go.Proofs.Tryz.func189.trans (congrArg some (by kernel_rfl))⟩,
 f24:=⟨Go.Proofs.Tryz.f190.name,by decide,Go.Proofs.Tryz.func190.trans (congrArg some (by kernel_rfl))⟩,
 f25:=⟨Go.Proofs.Tryz.f191.name,by decide,Go.Proofs.Tryz.func191.trans (congrArg some (by kernel_rfl))⟩,
 f26:=⟨Go.Proofs.Tryz.f192.name,by decide,Go.Proofs.Tryz.func192.trans (congrArg some (by kernel_rfl))⟩,
 f27:=⟨Go.Proofs.Tryz.f193.name,by decide,Go.Proofs.Tryz.func193.trans (congrArg some (by kernel_rfl))⟩,
 f28:=Go.Proofs.Tryz.func173.trans (congrArg some (by kernel_rfl)),
 f29:=Go.Proofs.Tryz.func174.trans (congrArg some (by kernel_rfl)),
 f46:=⟨Go.Proofs.Tryz.f202.name,by decide,Go.Proofs.Tryz.func202.trans (congrArg some (by kernel_rfl))⟩,
 f47:=Go.Proofs.Tryz.func195.trans (congrArg some (by kernel_rfl)),
 f48:=Go.Proofs.Tryz.func196.trans (congrArg some (by kernel_rfl)),
 f49:=⟨Go.Proofs.Tryz.f203.name,by decide,Go.Proofs.Tryz.func203.trans (congrArg some (by kernel_rfl))⟩,
 f50:=⟨Go.Proofs.Tryz.f204.name,by decide,Go.Proofs.Tryz.func204.trans (congrArg some (by kernel_rfl))⟩,
 f57:=⟨Go.Proofs.Tryz.f207.name,by decide,Go.Proofs.Tryz.func207.trans (congrArg some (by kernel_rfl))⟩,
 t0:=Go.Proofs.Tryz.underlying0,
 a0:=Go.Proofs.Tryz.isAgg0,
 z0:=Go.Proofs.Tryz.sizeOf0,
 v0:=Go.Proofs.Tryz.zeroValue0,
 t3:=Go.Proofs.Tryz.underlying3,
 a3:=Go.Proofs.Tryz.isAgg3,
 z3:=Go.Proofs.Tryz.sizeOf3,
 v3:=Go.Proofs.Tryz.zeroValue3,
 t4:=Go.Proofs.Tryz.underlying4,
 a4:=Go.Proofs.Tryz.isAgg4,
 z4:=Go.Proofs.Tryz.sizeOf4,
 v4:=Go.Proofs.Tryz.zeroValue4,
 t5:=Go.Proofs.Tryz.underlying5,
 a5:=Go.Proofs.Tryz.isAgg5,
 z5:=Go.Proofs.Tryz.sizeOf5,
 v5:=Go.Proofs.Tryz.zeroValue5,
 t9:=Go.Proofs.Tryz.underlying9,
 a9:=Go.Proofs.Tryz.isAgg9,
 z9:=Go.Proofs.Tryz.sizeOf9,
 v9:=Go.Proofs.Tryz.zeroValue9,
 t22:=Go.Proofs.Tryz.underlying26,
 a22:=Go.Proofs.Tryz.isAgg26,
 z22:=Go.Proofs.Tryz.sizeOf26,
 v22:=Go.Proofs.Tryz.zeroValue26,
 t25:=Go.Proofs.Tryz.underlying117,
 a25:=Go.Proofs.Tryz.isAgg117,
 z25:=Go.Proofs.Tryz.sizeOf117,
 v25:=Go.Proofs.Tryz.zeroValue117,
 t39:=Go.Proofs.Tryz.underlying206,
 a39:=Go.Proofs.Tryz.isAgg206,
 z39:=Go.Proofs.Tryz.sizeOf206,
 v39:=Go.Proofs.Tryz.zeroValue206,
 t45:=Go.Proofs.Tryz.underlying241,
 a45:=Go.Proofs.Tryz.isAgg241,
 z45:=Go.Proofs.Tryz.sizeOf241,
 v45:=Go.Proofs.Tryz.zeroValue241,
 t46:=Go.Proofs.Tryz.underlying242,
 a46:=Go.Proofs.Tryz.isAgg242,
 z46:=Go.Proofs.Tryz.sizeOf242,
 v46:=Go.Proofs.Tryz.zeroValue242,
 t50:=Go.Proofs.Tryz.underlying246,
 a50:=Go.Proofs.Tryz.isAgg246,
 z50:=Go.Proofs.Tryz.sizeOf246,
 v50:=Go.Proofs.Tryz.zeroValue246,
 t53:=Go.Proofs.Tryz.underlying174,
 a53:=Go.Proofs.Tryz.isAgg174,
 z53:=Go.Proofs.Tryz.sizeOf174,
 v53:=Go.Proofs.Tryz.zeroValue174,
 t55:=Go.Proofs.Tryz.underlying169,
 a55:=Go.Proofs.Tryz.isAgg169,
 z55:=Go.Proofs.Tryz.sizeOf169,
 v55:=Go.Proofs.Tryz.zeroValue169,
 t66:=Go.Proofs.Tryz.underlying264,
 a66:=Go.Proofs.Tryz.isAgg264,
 z66:=Go.Proofs.Tryz.sizeOf264,
 v66:=Go.Proofs.Tryz.zeroValue264,
 t70:=Go.Proofs.Tryz.underlying268,
 a70:=Go.Proofs.Tryz.isAgg268,
 z70:=Go.Proofs.Tryz.sizeOf268,
 v70:=Go.Proofs.Tryz.zeroValue268,
 t76:=Go.Proofs.Tryz.underlying274,
 a76:=Go.Proofs.Tryz.isAgg274,
 z76:=Go.Proofs.Tryz.sizeOf274,
 v76:=Go.Proofs.Tryz.zeroValue274,
 t77:=Go.Proofs.Tryz.underlying275,
 a77:=Go.Proofs.Tryz.isAgg275,
 z77:=Go.Proofs.Tryz.sizeOf275,
 v77:=Go.Proofs.Tryz.zeroValue275}
def ZbF:Go.Shelf.Ren:=⟨fun|6=>124|15=>149|14=>148|28=>173|29=>174|20=>165|21=>166|22=>167|23=>168|24=>169|25=>170|26=>171|27=>172|46=>194|47=>195|48=>196|49=>197|50=>198|57=>205|n=>n,fun|22=>113|24=>116|25=>118|3=>3|39=>206|0=>0|53=>174|55=>169|4=>4|46=>242|45=>241|50=>246|5=>5|9=>9|66=>264|70=>268|76=>274|77=>275|n=>n,fun|n=>n⟩
theorem Zku:Go.Proofs.SlLaysF0.n6 PP ZbF:={
 mixed:=by kernel_rfl,
 f6:=⟨Go.Proofs.Tryz.f124.name,by decide,Go.Proofs.Tryz.func124.trans (congrArg some (by kernel_rfl))⟩,
 f14:=⟨Go.Proofs.Tryz.f148.name,by decide,Go.Proofs.Tryz.func148.trans (congrArg some (by kernel_rfl))⟩,
 f15:=Go.Proofs.Tryz.func149.trans (congrArg some (by kernel_rfl)),
 f20:=⟨Go.Proofs.Tryz.f165.name,by decide,Go.Proofs.Tryz.func165.trans (congrArg some (by kernel_rfl))⟩,
 f21:=⟨Go.Proofs.Tryz.f166.name,by decide,Go.Proofs.Tryz.func166.trans (congrArg some (by kernel_rfl))⟩,
 f22:=⟨Go.Proofs.Tryz.f167.name,by decide,Go.Proofs.Tryz.func167.trans (congrArg some (by kernel_rfl))⟩,
 f23:=⟨Go.Proofs.Tryz.f168.name,by decide,Go.Proofs.Tryz.func168.trans (congrArg some (by kernel_rfl))⟩,
 f24:=⟨Go.Proofs.Tryz.f169.name,by decide,Go.Proofs.Tryz.func169.trans (congrArg some (by kernel_rfl))⟩,
 f25:=⟨Go.Proofs.Tryz.f170.name,by decide,Go.Proofs.Tryz.func170.trans (congrArg some (by kernel_rfl))⟩,
 f26:=⟨Go.Proofs.Tryz.f171.name,by decide,Go.Proofs.Tryz.func171.trans (congrArg some (by kernel_rfl))⟩,
 f27:=⟨Go.Proofs.Tryz.f172.name,by decide,Go.Proofs.Tryz.func172.trans (congrArg some (by kernel_rfl))⟩,
 f28:=Go.Proofs.Tryz.func173.trans (congrArg some (by kernel_rfl)),
 f29:=Go.Proofs.Tryz.func174.trans (congrArg some (by kernel_rfl)),
 f46:=⟨Go.Proofs.Tryz.f194.name,by decide,Go.Proofs.Tryz.func194.trans (congrArg some (by kernel_rfl))⟩,
 f47:=Go.Proofs.Tryz.func195.trans (congrArg some (by kernel_rfl)),
 f48:=Go.Proofs.Tryz.func196.trans (congrArg some (by kernel_rfl)),
 f49:=⟨Go.Proofs.Tryz.f197.name,by decide,Go.Proofs.Tryz.func197.trans (congrArg some (by kernel_rfl))⟩,
 f50:=⟨Go.Proofs.Tryz.f198.name,by decide,Go.Proofs.Tryz.func198.trans (congrArg some (by kernel_rfl))⟩,
 f57:=⟨Go.Proofs.Tryz.f205.name,by decide,Go.Proofs.Tryz.func205.trans (congrArg some (by kernel_rfl))⟩,
 t0:=Go.Proofs.Tryz.underlying0,
 a0:=Go.Proofs.Tryz.isAgg0,
 z0:=Go.Proofs.Tryz.sizeOf0,
 v0:=Go.Proofs.Tryz.zeroValue0,
 t3:=Go.Proofs.Tryz.underlying3,
 a3:=Go.Proofs.Tryz.isAgg3,
 z3:=Go.Proofs.Tryz.sizeOf3,
 v3:=Go.Proofs.Tryz.zeroValue3,
 t4:=Go.Proofs.Tryz.underlying4,
 a4:=Go.Proofs.Tryz.isAgg4,
 z4:=Go.Proofs.Tryz.sizeOf4,
 v4:=Go.Proofs.Tryz.zeroValue4,
 t5:=Go.Proofs.Tryz.underlying5,
 a5:=Go.Proofs.Tryz.isAgg5,
 z5:=Go.Proofs.Tryz.sizeOf5,
 v5:=Go.Proofs.Tryz.zeroValue5,
 t9:=Go.Proofs.Tryz.underlying9,
 a9:=Go.Proofs.Tryz.isAgg9,
 z9:=Go.Proofs.Tryz.sizeOf9,
 v9:=Go.Proofs.Tryz.zeroValue9,
 t22:=Go.Proofs.Tryz.underlying113,
 a22:=Go.Proofs.Tryz.isAgg113,
 z22:=Go.Proofs.Tryz.sizeOf113,
 v22:=Go.Proofs.Tryz.zeroValue113,
 t25:=Go.Proofs.Tryz.underlying118,
 a25:=Go.Proofs.Tryz.isAgg118,
 z25:=Go.Proofs.Tryz.sizeOf118,
 v25:=Go.Proofs.Tryz.zeroValue118,
 t39:=Go.Proofs.Tryz.underlying206,
 a39:=Go.Proofs.Tryz.isAgg206,
 z39:=Go.Proofs.Tryz.sizeOf206,
 v39:=Go.Proofs.Tryz.zeroValue206,
 t45:=Go.Proofs.Tryz.underlying241,
 a45:=Go.Proofs.Tryz.isAgg241,
 z45:=Go.Proofs.Tryz.sizeOf241,
 v45:=Go.Proofs.Tryz.zeroValue241,
 t46:=Go.Proofs.Tryz.underlying242,
 a46:=Go.Proofs.Tryz.isAgg242,
 z46:=Go.Proofs.Tryz.sizeOf242,
 v46:=Go.Proofs.Tryz.zeroValue242,
 t50:=Go.Proofs.Tryz.underlying246,
 a50:=Go.Proofs.Tryz.isAgg246,
 z50:=Go.Proofs.Tryz.sizeOf246,
 v50:=Go.Proofs.Tryz.zeroValue246,
 t53:=Go.Proofs.Tryz.underlying174,
 a53:=Go.Proofs.Tryz.isAgg174,
 z53:=Go.Proofs.Tryz.sizeOf174,
 v53:=Go.Proofs.Tryz.zeroValue174,
 t55:=Go.Proofs.Tryz.underlying169,
 a55:=Go.Proofs.Tryz.isAgg169,
 z55:=Go.Proofs.Tryz.sizeOf169,
 v55:=Go.Proofs.Tryz.zeroValue169,
 t66:=Go.Proofs.Tryz.underlying264,
 a66:=Go.Proofs.Tryz.isAgg264,
 z66:=Go.Proofs.Tryz.sizeOf264,
 v66:=Go.Proofs.Tryz.zeroValue264,
 t70:=Go.Proofs.Tryz.underlying268,
 a70:=Go.Proofs.Tryz.isAgg268,
 z70:=Go.Proofs.Tryz.sizeOf268,
 v70:=Go.Proofs.Tryz.zeroValue268,
 t76:=Go.Proofs.Tryz.underlying274,
 a76:=Go.Proofs.Tryz.isAgg274,
 z76:=Go.Proofs.Tryz.sizeOf274,
 v76:=Go.Proofs.Tryz.zeroValue274,
 t77:=Go.Proofs.Tryz.underlying275,
 a77:=Go.Proofs.Tryz.isAgg275,
 z77:=Go.Proofs.Tryz.sizeOf275,
 v77:=Go.Proofs.Tryz.zeroValue275}
structure SRb {α:Type} (n:Nat) (lt:α->α->Bool) (L D:List α):Prop where
 s:SR lt L D
 len:L.length<=n
theorem SRb.perm {n:Nat} {lt:α->α->Bool} {L D:List α} (h:SRb n lt L D):D.Perm L:=h.s.perm
theorem SRb.sorted {n:Nat} {lt:α->α->Bool} {L D M:List α} (h:SRb n lt L D) (hm:M.Perm L) (ho:Ut lt M):M=D:=h.s.sorted hm ho
theorem Zgu:Go.Sort.SWO (Go.Proofs.ltOf cfS):=⟨Z16,Uj,Vm⟩
theorem Zgv:Go.Sort.SWO (Go.Proofs.ltOf cfQ):=⟨fun x=>Z16 x.hash,fun x y z=>Uj x.hash y.hash z.hash,fun x y z=>Vm x.hash y.hash z.hash⟩
theorem Zmf (x y:H32) (r:Int) (hr:r=cfS x y):
  evF G0 40 55 [.agg (VX x),.agg (VX y)] ⟨0,[]⟩ (XA (fun v=>v=.int .i64 r)):=by
 refine @Eq.mpr _ (Z5 (u8=u8/\x.v.length=32) (Z5 (u8=u8/\y.v.length=32) (AV.int i64 (cmpI x.v y.v)=AV.int i64 r))) (by kernel_rfl) ?_
 try simp only [vcA]
 try simp only [vcB]
 try simp only [vcC]
 exact ⟨x.l,y.l,by rw [hr,H32.cmpI];rfl⟩
theorem Zmg (x y:Zs) (r:Int) (hr:r=cfQ x y):
  evF G0 40 54 [.agg x.c,.agg y.c] ⟨0,[]⟩ (XA (fun v=>v=.int .i64 r)):=by
 refine @Eq.mpr _ (let b:=x.hash.v;let a:=y.hash.v;
 Z5 (u8=u8/\b.length=32) (Z5 (u8=u8/\a.length=32) (AV.int i64 (cmpI b a)=AV.int i64 r))) (by kernel_rfl) ?_
 conv=>zeta
 try simp only [vcA]
 try simp only [vcB]
 try simp only [vcC]
 exact ⟨x.hash.l,y.hash.l,by rw [hr,H32.cmpI];rfl⟩
noncomputable def U3:Code:=rfA PP 163 0
noncomputable def U4:Code:=rfB PP 163 0
def WE (T:List H32) (js:List Nat):List H32:=js.reverse.map fun j=>T.getD j h0
theorem Z5v (T:List H32) (j:Nat) (js:List Nat):WE T (j::js)=WE T js++[T.getD j h0]:=by simp [WE]
theorem Zef (T:List H32) (js:List Nat):(WE T js).length=js.length:=by simp [WE]
def vFS:AV:=.func (.func 146) [] [pt 1]
noncomputable def Zkv (L:List H32) (m:Blk):List (Nat×Blk):=(7,.rows 32 L.length (seR L))::(4,.loop (Uv.mk .ready none 163 13 [(6,vFS),(4,.nilslice),(2,pt 2),(0,.nilslice),(1,vFS)] [7] U3 U4 3))::(3,.defd)::(2,.flat [.nslice ⟨7,0,32,0,0⟩ 32 L.length L.length])::(1,.flat [.map (some 0)])::[(0,m)]
noncomputable def Zgw (T:List H32) (js:List Nat):St:=⟨15,[(6,.ptr (some ⟨6,0,0,0,0⟩)),(0,.yield 4)],⟨8,(6,.git 0 5 js)::Zkv (WE T js) (.froz (.fmap T.length ((skV Zh) T) (seV T)) 5)⟩,[]⟩
noncomputable def Zkw (T:List H32) (js:List Nat):St:=⟨15,[(0,.yield 4)],⟨8,Zkv (WE T js) (.fmap T.length ((skV Zh) T) (seV T))⟩,[]⟩
theorem Zkx (T:List H32) (js:List Nat) (go:Nat->Prop) (ex:Prop) (hn:T.length<=64) (hs:Yn T.length js) (hg:∀j,j<T.length->j∉js->go j) (hx:(∀j,j<T.length->j∈js)->ex):
  ZF G0 40 146 0 5 (Zgw T js) (rdS 5 0 6 (Zgw T) (Zkw T) js go ex):=by
 refine @Eq.mpr _ (let b:=T.length;let a:=List.length (WE T js);let g:=decide (a=a);let f:=a+1;let m:=[(7,11),(5,5),(6,6)];let e:=seR (WE T js);let l:=LoopState.ready=LoopState.ready/\(none:Option Code)=none/\(163:FuncId)=163/\(13:Nat)=13/\[(7:Nat)]=[(7:Nat)]/\U3=U3/\U4=U4;let k:=decide (b=b);let c:=skV Zh T;let d:=seV T;let p:=[(7,7)];
 (∀(j:Nat),
 let i:=j::js;let o:=WE T i;let h:=o.length;let n:=decide (f=h);
 j<b->¬List.Mem j js->Z4 g (Z5 (f*32<=140737488355328) (Z4w i i/\Z4 n (Z9 5 m h (seR o) (Xd a e (XM [AV.arr u8 32 (List.getD T j h0).v] 0 32))/\l/\Z4 n (Z5 (h<=f) (Z4 k (Z8 5 m b c d c d/\js=js/\go j)))))))/\
 ((∀(j:Nat),j<b->j∈js)->Z4 g (Z9 5 p a e e/\l/\Z4 g (Z5 (a<=a) (Z4 k (Z8 5 p b c d c d/\ex)))))) (by kernel_rfl) ?_
 conv=>zeta
 try simp only [vcA]
 try simp only [vcB]
 try simp only [vcC]
 have hM:∀τ,Z8 5 τ T.length ((skV Zh) T) (seV T) ((skV Zh) T) (seV T):=fun τ=>ZE (VW Zh _) fun _ _=>⟨rfl,rfl⟩
 have hl:=Zef T js
 have hjl:=hs.len
 refine ⟨fun j hj hm=> ?_,fun hall=>⟨Zj Ye fun _ _=>rfl,hM _,hx hall⟩⟩
 have el:(WE T js).length+1=(WE T (j::js)).length:=by rw [Z5v,J3];rfl
 exact ⟨by omega,.refl _,el,Zj Ye fun i hi=>by
  have hi':i<(WE T js).length+1:=by omega
  rw [Z5v]
  exact Yc (x:=T.getD j h0) rfl hi',el,Jw el.symm,hM _,hg j hj hm⟩
theorem Z5w {T:List H32} {js:List Nat} (h:Yn T.length js) (ha:∀j,j<T.length->j∈js):(WE T js).Perm T:=by
 have h1:(js.reverse).Perm (List.range T.length):=(List.reverse_perm js).trans (h.perm ha)
 have h2:=h1.map fun j=>T.getD j h0
 have h3:(List.range T.length).map (fun j=>T.getD j h0)=T:=by
  apply List.ext_getElem
  ·simp
  ·intro i h1 h2
   simp only [List.getElem_map,List.getElem_range]
   rw [Z18 h2]
 rw [h3] at h2
 exact h2
noncomputable def ZhG (T:List H32):Zf:=G0.withL 146 0 (goM 5 (Zgw T []) (T.length<=64) (Zap 0 (Yn T.length) (fun js=>∀j,j<T.length->j∈js) (Zkw T)))
theorem Zeg (T:List H32):(ZhG T).Ok:=
 Zf.withGoS (N:=40) (g:=6) (n:=T.length) (S:=Zgw T) Zt (by kernel_rfl) fun hC=>⟨rfl,Yn.nil _,fun js hs=>⟨hs.len,Zkx T js _ _ hC hs (fun j hj hm=>hs.cons hj hm) fun h=>h⟩⟩
def encS (h:H32):List Value:=intCells .u8 32 h.v++[]
theorem Z1G (E:Env) (h:H32):Zp E (VX h) (encS h):=.arr _ _ _ _ _ .nil
theorem Zeh (E:Env) (h:H32) (vs:List Value) (hc:Zp E (VX h) vs):vs=encS h:=by
 unfold VX at hc
 obtain ⟨w0,rfl,k0⟩:=hc.cons_arr
 cases k0
 rfl
theorem ZbG (h:H32):(encS h).length=32:=by
 obtain ⟨E,_⟩:=U2
 have:=(Z1G E h).length
 simpa [VX,csz] using this
theorem ZbH (h:H32):∀v∈encS h,v.oneCell'=true:=by
 obtain ⟨E,_⟩:=U2
 exact (Z1G E h).all_one
theorem Zky (f:Nat->List AV) (lo:Nat) :
  evF G0 60 145 [.nslice ⟨0,0,32,0,0⟩ 32 0 lo,.func (.func 55) [] []] ⟨1,[(0,.rows 32 0 f)]⟩ (Yd 1 (.ret (.tuple [])) 1 [(0,.rows 32 0 f)]):=by
 refine @Eq.mpr _ (Z9 1 [] 0 f f/\True) (by kernel_rfl) ?_
 try simp only [vcA]
 try simp only [vcB]
 try simp only [vcC]
 exact Qq (fun i hi=>absurd hi (Js i)) (fun i hi=>absurd hi (Js i)) fun i hi=>absurd hi (Js i)
theorem Zgx {T D M:List H32} {n lo:Nat} {f:Nat->List AV} (hM:M.Perm T) (hn:M.length=n) (h0:0<n) (hf:∀i,i<n->f i=seR M i) (h:SRb 64 ltS T D):Spec PP 145 [.nslice ⟨0,0,32,0,0⟩ 32 n lo,.func (.func 55) [] []] ⟨1,[(0,.rows 32 n f)]⟩ (.ret (.tuple [])) 1 [(0,.rows 32 n (seR D))]:=
 Z1E (L:=Zkt) (k:=32) Go.Proofs.Tryz.isAgg31 Go.Proofs.Tryz.sizeOf31 (c:=VX) ZbG (by decide) ZbH Zeh Z1G Zgu (g:=55)
  (fun _ _=>Go.Proofs.enters_of Go.Proofs.Tryz.func55 (by kernel_rfl) rfl _ _) (fun x y=>Y6.evW6 Zt (Zmf x y _ rfl)) hn h0 (by have:=h.len;have:=hM.length_eq;omega) hf (fun _ _=>rfl)
  (fun l' hp ho=>h.sorted (hp.trans hM) ho)
theorem Z0k (L:List H32) (i:Nat):YD (seR L i)=true:=Ye.p _
def Z6q (T D:List H32):ZS:=fun args h K=>match args with
 | [.nslice ⟨b,0,32,0,0⟩ 32 _ _,_]=>frA [b] h 20 args fun Bs a=>match Bs,a with
  | [.rows 32 n f],[.nslice ⟨0,0,32,0,0⟩ 32 n' _,.func (.func 55) [] []]=>∃M,(n'=n/\M.length=n/\f=seR M)/\M.Perm T/\SRb 64 ltS T D/\K (.ret (.tuple [])) ⟨h.next,(b,.rows 32 n (seR D))::Zy h.bs b⟩
  | _,_=>False
 | _=>False
theorem Z9h (T D:List H32) (args:List AV) (h:Z7) (K:KO) (hl:Z6q T D args h K):Zi PP 145 args h K:=by
 unfold Z6q at hl
 split at hl
 ·refine Spec.fsumm hl fun Bs a hlen hK0=> ?_
  split at hK0
  ·rename_i n f n' lo
   obtain ⟨M,⟨rfl,hn,rfl⟩,hM,hT,hK⟩:=hK0
   rcases JF n' with h0|h0
   ·subst h0
    have hMn:M=[]:=Jl hn
    have hDn:D=[]:=by
     have:=hT.perm.length_eq
     have:=hM.length_eq
     exact Jl (by omega)
    subst hMn hDn
    exact ⟨_,_,_,_,_,.evM Zt (Zky (seR []) lo),by simp,.ret _ _ rfl,.cons _ _ _ _ _ _ rfl (.rows _ _ _ (fun i _=>Z0k [] i)) .nil,hK⟩
   ·exact ⟨_,_,_,_,_,Zgx hM hn h0 (fun _ _=>rfl) hT,by simp,.ret _ _ rfl,.cons _ _ _ _ _ _ rfl (.rows _ _ _ (fun i _=>Z0k D i)) .nil,hK⟩
  ·exact hK0.elim
 ·exact hl.elim
noncomputable def Zei (T D:List H32):Zf:=(ZhG T).withF 145 (Z6q T D)
theorem ZbI (T D:List H32):(Zei T D).Ok:=Zf.withF_ok (Zeg T) (Z9h T D)
theorem Zkz (T D:List H32) (n:Nat) (h:SRb 64 ltS T D) (hn:n=D.length):
  evF (Zei T D) 40 92 [.map (some 0),.func (.func 55) [] []] ⟨1,[(0,.fmap T.length ((skV Zh) T) (seV T))]⟩ (Yd 1 (.ret (.nslice ⟨1,0,32,0,0⟩ 32 n n)) 2 [(0,.fmap T.length ((skV Zh) T) (seV T)),(1,.rows 32 n (seR D))]):=by
 refine @Eq.mpr _ (Z4w [] []/\
 (LoopState.ready=LoopState.ready/\(none:Option Code)=none/\(163:Nat)=(163:FuncId)/\(13:Nat)=(13:Nat)/\[(7:Nat)]=[(7:Nat)]/\U3=U3/\U4=U4)/\
 Z5 (T.length=T.length) (Z8 (5:Nat) [((5:Nat),(5:Nat)),((6:Nat),(6:Nat))] (T.length) (skV Zh T) (seV T) (skV Zh T) (seV T)/\T.length<=(64:Nat)/\∀(js:List Nat),Yn (T.length) js->(∀(j:Nat),j<T.length->j∈js)->(∀(i:Nat),i<List.length (WE T js)->true=true)/\∃(M:List H32),(List.length (WE T js)=List.length (WE T js)/\M.length=List.length (WE T js)/\seR (WE T js)=seR M)/\List.Perm M T/\SRb (64:Nat) ltS T D/\Z5 (List.length (WE T js)=n) (Z5 (n<=List.length (WE T js)) (Z5 (T.length=T.length) (Z8 (1:Nat) [((1:Nat),(7:Nat))] (T.length) (skV Zh T) (seV T) (skV Zh T) (seV T)/\Z5 (List.length (WE T js)=n) (Z9 (1:Nat) [((1:Nat),(7:Nat))] n (seR D) (seR D)/\True)))))) (by kernel_rfl) ?_
 try simp only [vcA]
 try simp only [vcB]
 try simp only [vcC]
 have hM:∀k τ,Z8 k τ T.length ((skV Zh) T) (seV T) ((skV Zh) T) (seV T):=fun k τ=>ZE (VW Zh _) fun _ _=>⟨rfl,rfl⟩
 refine ⟨.refl _,hM _ _,h.len,fun js hs ha=>⟨fun _ _=>trivial,WE T js,⟨rfl,rfl⟩,Z5w hs ha,h, ?_⟩⟩
 have el:(WE T js).length=n:=by rw [hn,(Z5w hs ha).length_eq,h.perm.length_eq]
 exact ⟨el,Jw el.symm,hM _ _,el,Zj Ye fun _ _=>rfl⟩
def ZiK (T D:List H32):ZS:=fun args h K=>match args with
 | [.map (some o),_]=>frA [o] h 20 args fun Bs a=>match Bs,a with
  | [.fmap n kf vf],[.map (some 0),.func (.func 55) [] []]=>(n=T.length/\kf=(skV Zh) T/\vf=seV T)/\SRb 64 ltS T D/\K (.ret (.nslice ⟨h.next,0,32,0,0⟩ 32 D.length D.length)) ⟨h.next+1,(o,.fmap T.length ((skV Zh) T) (seV T))::(h.next,.rows 32 D.length (seR D))::Zy h.bs o⟩
  | _,_=>False
 | _=>False
theorem Zgy (T D:List H32) (args:List AV) (h:Z7) (K:KO) (hl:ZiK T D args h K):Zi PP 92 args h K:=by
 unfold ZiK at hl
 split at hl
 ·refine Spec.fsumm hl fun Bs a hlen hK0=> ?_
  split at hK0
  ·obtain ⟨⟨rfl,rfl,rfl⟩,hT,hK⟩:=hK0
   exact ⟨_,_,_,_,_,.evM (ZbI T D) (Zkz T D _ hT rfl),by simp,.ret _ _ rfl,.cons _ _ _ _ _ _ rfl (.fmap _ _ _ (fun i _=>⟨rfl,rfl⟩)) (.cons _ _ _ _ _ _ rfl (.rows _ _ _ (fun i _=>Z0k D i)) .nil),hK⟩
  ·exact hK0.elim
 ·exact hl.elim
noncomputable def U5:Code:=rfA PP 147 0
noncomputable def U6:Code:=rfB PP 147 0
def WF (T:List Zs) (js:List Nat):List Zs:=js.reverse.map fun j=>T.getD j ZH
theorem Z5x (T:List Zs) (j:Nat) (js:List Nat):WF T (j::js)=WF T js++[T.getD j ZH]:=by simp [WF]
theorem Zej (T:List Zs) (js:List Nat):(WF T js).length=js.length:=by simp [WF]
def vFQ:AV:=.func (.func 125) [] [pt 1]
noncomputable def ZkA (L:List Zs) (m:Blk):List (Nat×Blk):=(7,.rows 98 L.length (quR L))::(4,.loop (Uv.mk .ready none 147 13 [(6,vFQ),(4,.nilslice),(2,pt 2),(0,.nilslice),(1,vFQ)] [7] U5 U6 3))::(3,.defd)::(2,.flat [.nslice ⟨7,0,98,0,0⟩ 98 L.length L.length])::(1,.flat [.map (some 0)])::[(0,m)]
noncomputable def Zgz (T:List Zs) (js:List Nat):St:=⟨15,[(6,.ptr (some ⟨6,0,0,0,0⟩)),(0,.yield 4)],⟨8,(6,.git 0 5 js)::ZkA (WF T js) (.froz (.fmap T.length (qkV T) (quV T)) 5)⟩,[]⟩
noncomputable def ZkB (T:List Zs) (js:List Nat):St:=⟨15,[(0,.yield 4)],⟨8,ZkA (WF T js) (.fmap T.length (qkV T) (quV T))⟩,[]⟩
theorem ZkC (T:List Zs) (js:List Nat) (go:Nat->Prop) (ex:Prop) (hn:T.length<=16) (hs:Yn T.length js) (hg:∀j,j<T.length->j∉js->go j) (hx:(∀j,j<T.length->j∈js)->ex):
  ZF G0 40 125 0 5 (Zgz T js) (rdS 5 0 6 (Zgz T) (ZkB T) js go ex):=by
 refine @Eq.mpr _ (let b:=T.length;let a:=List.length (WF T js);let h:=decide (a=a);let g:=a+1;let n:=[(7,11),(5,5),(6,6)];let f:=quR (WF T js);let m:=LoopState.ready=LoopState.ready/\(none:Option Code)=none/\(147:FuncId)=147/\(13:Nat)=13/\[(7:Nat)]=[(7:Nat)]/\U5=U5/\U6=U6;let l:=decide (b=b);let d:=qkV T;let e:=quV T;let q:=[(7,7)];
 (∀(j:Nat),
 let k:=j::js;let p:=WF T k;let i:=p.length;let o:=decide (g=i);let c:=List.getD T j ZH;
 j<b->¬List.Mem j js->Z4 h (Z5 (g*112<=140737488355328) (Z4w k k/\Z4 o (Z9 5 n i (quR p) (Xd a f (XM [AV.arr u8 32 c.hash.v,AV.arr u8 32 c.key.v,AV.int i64 c.amount,AV.int i64 c.least,AV.arr u8 32 c.secret.v] 0 98))/\m/\Z4 o (Z5 (i<=g) (Z4 l (Z8 5 n b d e d e/\js=js/\go j)))))))/\
 ((∀(j:Nat),j<b->j∈js)->Z4 h (Z9 5 q a f f/\m/\Z4 h (Z5 (a<=a) (Z4 l (Z8 5 q b d e d e/\ex)))))) (by kernel_rfl) ?_
 conv=>zeta
 try simp only [vcA]
 try simp only [vcB]
 try simp only [vcC]
 have hM:∀τ,Z8 5 τ T.length (qkV T) (quV T) (qkV T) (quV T):=fun τ=>ZE (Up _) fun _ _=>⟨rfl,rfl⟩
 have hl:=Zej T js
 have hjl:=hs.len
 refine ⟨fun j hj hm=> ?_,fun hall=>⟨Zj Y8 fun _ _=>rfl,hM _,hx hall⟩⟩
 have el:(WF T js).length+1=(WF T (j::js)).length:=by rw [Z5x,J3];rfl
 exact ⟨by omega,.refl _,el,Zj Y8 fun i hi=>by
  have hi':i<(WF T js).length+1:=by omega
  rw [Z5x]
  exact Yc (x:=T.getD j ZH) rfl hi',el,Jw el.symm,hM _,hg j hj hm⟩
theorem Z5y {T:List Zs} {js:List Nat} (h:Yn T.length js) (ha:∀j,j<T.length->j∈js):(WF T js).Perm T:=by
 have h1:(js.reverse).Perm (List.range T.length):=(List.reverse_perm js).trans (h.perm ha)
 have h2:=h1.map fun j=>T.getD j ZH
 have h3:(List.range T.length).map (fun j=>T.getD j ZH)=T:=by
  apply List.ext_getElem
  ·simp
  ·intro i h1 h2
   simp only [List.getElem_map,List.getElem_range]
   rw [Uk h2]
 rw [h3] at h2
 exact h2
noncomputable def ZhH (T:List Zs):Zf:=G0.withL 125 0 (goM 5 (Zgz T []) (T.length<=16) (Zap 0 (Yn T.length) (fun js=>∀j,j<T.length->j∈js) (ZkB T)))
theorem Zek (T:List Zs):(ZhH T).Ok:=
 Zf.withGoS (N:=40) (g:=6) (n:=T.length) (S:=Zgz T) Zt (by kernel_rfl) fun hC=>⟨rfl,Yn.nil _,fun js hs=>⟨hs.len,ZkC T js _ _ hC hs (fun j hj hm=>hs.cons hj hm) fun h=>h⟩⟩
def ZgA (h:Zs):List Value:=intCells .u8 32 h.hash.v++(intCells .u8 32 h.key.v++(.int .i64 h.amount::.int .i64 h.least::(intCells .u8 32 h.secret.v++[])))
theorem Z1H (E:Env) (h:Zs):Zp E h.c (ZgA h):=
 .arr _ _ _ _ _ (.arr _ _ _ _ _ (.one _ _ _ _ rfl rfl (.int _ _) (.one _ _ _ _ rfl rfl (.int _ _) (.arr _ _ _ _ _ .nil))))
theorem Zel (E:Env) (h:Zs) (vs:List Value) (hc:Zp E h.c vs):vs=ZgA h:=by
 unfold Zs.c at hc
 obtain ⟨w0,rfl,k0⟩:=hc.cons_arr
 obtain ⟨w1,rfl,k1⟩:=k0.cons_arr
 obtain ⟨c2,w2,rfl,_,_,h2,k2⟩:=k1.cons_cell (by intros;simp)
 obtain ⟨c3,w3,rfl,_,_,h3,k3⟩:=k2.cons_cell (by intros;simp)
 obtain ⟨w4,rfl,k4⟩:=k3.cons_arr
 cases k4
 cases h2;cases h3
 rfl
theorem ZbJ (h:Zs):(ZgA h).length=98:=by
 obtain ⟨E,_⟩:=U2
 have:=(Z1H E h).length
 simpa [Zs.c,csz] using this
theorem ZbK (h:Zs):∀v∈ZgA h,v.oneCell'=true:=by
 obtain ⟨E,_⟩:=U2
 exact (Z1H E h).all_one
theorem ZkD (f:Nat->List AV) (lo:Nat) :
  evF G0 60 124 [.nslice ⟨0,0,98,0,0⟩ 98 0 lo,.func (.func 54) [] []] ⟨1,[(0,.rows 98 0 f)]⟩ (Yd 1 (.ret (.tuple [])) 1 [(0,.rows 98 0 f)]):=by
 refine @Eq.mpr _ (Z9 1 [] 0 f f/\True) (by kernel_rfl) ?_
 try simp only [vcA]
 try simp only [vcB]
 try simp only [vcC]
 exact Qq (fun i hi=>absurd hi (Js i)) (fun i hi=>absurd hi (Js i)) fun i hi=>absurd hi (Js i)
theorem ZgB {T D M:List Zs} {n lo:Nat} {f:Nat->List AV} (hM:M.Perm T) (hn:M.length=n) (h0:0<n) (hf:∀i,i<n->f i=quR M i) (h:SRb 16 ltQ T D):Spec PP 124 [.nslice ⟨0,0,98,0,0⟩ 98 n lo,.func (.func 54) [] []] ⟨1,[(0,.rows 98 n f)]⟩ (.ret (.tuple [])) 1 [(0,.rows 98 n (quR D))]:=
 Z1E (L:=Zku) (k:=98) Go.Proofs.Tryz.isAgg116 Go.Proofs.Tryz.sizeOf116 (c:=Zs.c) ZbJ (by decide) ZbK Zel Z1H Zgv (g:=54)
  (fun _ _=>Go.Proofs.enters_of Go.Proofs.Tryz.func54 (by kernel_rfl) rfl _ _) (fun x y=>Y6.evW6 Zt (Zmg x y _ rfl)) hn h0 (by have:=h.len;have:=hM.length_eq;omega) hf (fun _ _=>rfl)
  (fun l' hp ho=>h.sorted (hp.trans hM) ho)
theorem Z0l (L:List Zs) (i:Nat):YD (quR L i)=true:=Y8.p _
def Z6r (T D:List Zs):ZS:=fun args h K=>match args with
 | [.nslice ⟨b,0,98,0,0⟩ 98 _ _,_]=>frA [b] h 20 args fun Bs a=>match Bs,a with
  | [.rows 98 n f],[.nslice ⟨0,0,98,0,0⟩ 98 n' _,.func (.func 54) [] []]=>∃M,(n'=n/\M.length=n/\f=quR M)/\M.Perm T/\SRb 16 ltQ T D/\K (.ret (.tuple [])) ⟨h.next,(b,.rows 98 n (quR D))::Zy h.bs b⟩
  | _,_=>False
 | _=>False
theorem Z9i (T D:List Zs) (args:List AV) (h:Z7) (K:KO) (hl:Z6r T D args h K):Zi PP 124 args h K:=by
 unfold Z6r at hl
 split at hl
 ·refine Spec.fsumm hl fun Bs a hlen hK0=> ?_
  split at hK0
  ·rename_i n f n' lo
   obtain ⟨M,⟨rfl,hn,rfl⟩,hM,hT,hK⟩:=hK0
   rcases JF n' with h0|h0
   ·subst h0
    have hMn:M=[]:=Jl hn
    have hDn:D=[]:=by
     have:=hT.perm.length_eq
     have:=hM.length_eq
     exact Jl (by omega)
    subst hMn hDn
    exact ⟨_,_,_,_,_,.evM Zt (ZkD (quR []) lo),by simp,.ret _ _ rfl,.cons _ _ _ _ _ _ rfl (.rows _ _ _ (fun i _=>Z0l [] i)) .nil,hK⟩
   ·exact ⟨_,_,_,_,_,ZgB hM hn h0 (fun _ _=>rfl) hT,by simp,.ret _ _ rfl,.cons _ _ _ _ _ _ rfl (.rows _ _ _ (fun i _=>Z0l D i)) .nil,hK⟩
  ·exact hK0.elim
 ·exact hl.elim
noncomputable def Zem (T D:List Zs):Zf:=(ZhH T).withF 124 (Z6r T D)
theorem ZbL (T D:List Zs):(Zem T D).Ok:=Zf.withF_ok (Zek T) (Z9i T D)
theorem ZkE (T D:List Zs) (n:Nat) (h:SRb 16 ltQ T D) (hn:n=D.length):
  evF (Zem T D) 40 53 [.map (some 0),.func (.func 54) [] []] ⟨1,[(0,.fmap T.length (qkV T) (quV T))]⟩ (Yd 1 (.ret (.nslice ⟨1,0,98,0,0⟩ 98 n n)) 2 [(0,.fmap T.length (qkV T) (quV T)),(1,.rows 98 n (quR D))]):=by
 refine @Eq.mpr _ (Z4w [] []/\
 (LoopState.ready=LoopState.ready/\(none:Option Code)=none/\(147:Nat)=(147:FuncId)/\(13:Nat)=(13:Nat)/\[(7:Nat)]=[(7:Nat)]/\U5=U5/\U6=U6)/\
 Z5 (T.length=T.length) (Z8 (5:Nat) [((5:Nat),(5:Nat)),((6:Nat),(6:Nat))] (T.length) (qkV T) (quV T) (qkV T) (quV T)/\T.length<=(16:Nat)/\∀(js:List Nat),Yn (T.length) js->(∀(j:Nat),j<T.length->j∈js)->(∀(i:Nat),i<List.length (WF T js)->true=true)/\∃(M:List Zs),(List.length (WF T js)=List.length (WF T js)/\M.length=List.length (WF T js)/\quR (WF T js)=quR M)/\List.Perm M T/\SRb (16:Nat) ltQ T D/\Z5 (List.length (WF T js)=n) (Z5 (n<=List.length (WF T js)) (Z5 (T.length=T.length) (Z8 (1:Nat) [((1:Nat),(7:Nat))] (T.length) (qkV T) (quV T) (qkV T) (quV T)/\Z5 (List.length (WF T js)=n) (Z9 (1:Nat) [((1:Nat),(7:Nat))] n (quR D) (quR D)/\True)))))) (by kernel_rfl) ?_
 try simp only [vcA]
 try simp only [vcB]
 try simp only [vcC]
 have hM:∀k τ,Z8 k τ T.length (qkV T) (quV T) (qkV T) (quV T):=fun k τ=>ZE (Up _) fun _ _=>⟨rfl,rfl⟩
 refine ⟨.refl _,hM _ _,h.len,fun js hs ha=>⟨fun _ _=>trivial,WF T js,⟨rfl,rfl⟩,Z5y hs ha,h, ?_⟩⟩
 have el:(WF T js).length=n:=by rw [hn,(Z5y hs ha).length_eq,h.perm.length_eq]
 exact ⟨el,Jw el.symm,hM _ _,el,Zj Y8 fun _ _=>rfl⟩
def ZiL (T D:List Zs):ZS:=fun args h K=>match args with
 | [.map (some o),_]=>frA [o] h 20 args fun Bs a=>match Bs,a with
  | [.fmap n kf vf],[.map (some 0),.func (.func 54) [] []]=>(n=T.length/\kf=qkV T/\vf=quV T)/\SRb 16 ltQ T D/\K (.ret (.nslice ⟨h.next,0,98,0,0⟩ 98 D.length D.length)) ⟨h.next+1,(o,.fmap T.length (qkV T) (quV T))::(h.next,.rows 98 D.length (quR D))::Zy h.bs o⟩
  | _,_=>False
 | _=>False
theorem ZgC (T D:List Zs) (args:List AV) (h:Z7) (K:KO) (hl:ZiL T D args h K):Zi PP 53 args h K:=by
 unfold ZiL at hl
 split at hl
 ·refine Spec.fsumm hl fun Bs a hlen hK0=> ?_
  split at hK0
  ·obtain ⟨⟨rfl,rfl,rfl⟩,hT,hK⟩:=hK0
   exact ⟨_,_,_,_,_,.evM (ZbL T D) (ZkE T D _ hT rfl),by simp,.ret _ _ rfl,.cons _ _ _ _ _ _ rfl (.fmap _ _ _ (fun i _=>⟨rfl,rfl⟩)) (.cons _ _ _ _ _ _ rfl (.rows _ _ _ (fun i _=>Z0l D i)) .nil),hK⟩
  ·exact hK0.elim
 ·exact hl.elim
def Wr (L:List H32):LI:=L.flatMap fun x=>x.v
theorem ZbM {L:List H32} {i:Nat} (h:i<L.length):Wr (L.take (i+1))=Wr (L.take i)++(L.getD i h0).v:=by
 unfold Wr
 rw [X6 h0 h,List.flatMap_append]
 simp
theorem Z4f (L:List H32):(Wr L).length=32*L.length:=by
 unfold Wr
 induction L with
 | nil=>rfl
 | cons a L ih=>rw [List.flatMap_cons,J3,ih,a.l,Ju];omega
def hwB (ys:LI):List (Nat×Blk):=[(0,.flat [.nslice ⟨2,0,0,0,0⟩ 1 ys.length ys.length,.bool true]),(2,.ints .u8 ys)]
def hwS (L:List H32) (ys:LI) (i:Nat):St:=⟨25,[(11,.int .i64 i),(10,.int .i64 L.length),(9,.vrows 32 L.length (seR L) L.length),(0,pt 0)],⟨3,hwB ys⟩,[]⟩
def hwE (ys:LI):St:=⟨25,[],⟨3,hwB ys⟩,[]⟩
def hwN:St:=⟨25,[],⟨0,[]⟩,[]⟩
theorem Zmh (L:List H32) (ys ys':LI) (i:Nat) (go ex:Prop) (hl:ys.length<80000000000000+4096) (hL:L.length<=64) (hi:i<=L.length) (hy:i<L.length->ys'=ys++(L.getD i h0).v) (hg:i<L.length->go) (hx:i=L.length->ex):
  ZF G0 20 51 0 2 (hwS L ys i) (rdM 2 0 9 (hwS L ys' (i+1)) (hwE ys) hwN hwN go ex False False):=by
 refine @Eq.mpr _ (let d:=L.length;let b:=(↑d:Int);let g:=(List.getD L (Int.toNat (↑i:Int)) h0).v;let a:=ys.length;let f:=ys++g;let c:=f.length;let e:=decide (d=d);
 Z6 (decide ((↑i:Int)<b)) (Z5 (0<=(↑i:Int)/\(↑i:Int)<b) (Z5 (u8=u8/\g.length=32) (Z5 (u8=u8/\a=a) (Z5 (c*1<=140737488355328) (Z5 (wrap i64 ((↑i:Int)+1)=(↑(i+1):Int)) (Z5 (b=b) (Z4 e (seR L=seR L/\Z4 e (Z5 (c=ys'.length) (Z5 (ys'.length<=c) (f=ys'/\go))))))))))) (Z5 (a=a) (Z5 (a<=a) (ys=ys/\ex)))) (by kernel_rfl) ?_
 conv=>zeta
 try simp only [vcA]
 try simp only [vcB]
 try simp only [vcC]
 refine ⟨fun hlt=> ?_,fun h=>hx (by omega)⟩
 have hlt':i<L.length:=by omega
 have e:=hy hlt'
 have l2:(L.getD i h0).v.length=32:=(L.getD i h0).l
 have l3:ys'.length=ys.length+32:=by rw [e,J3,l2]
 rw [<-e]
 exact ⟨⟨by omega,hlt⟩,l2,by omega,by rw [w64 (by omega)];omega,rfl,J2 _,rfl,hg hlt'⟩
theorem Zmi (W:Int->LI) (T:Int) (ys:LI) (L:Nat) (n:Int) (hT:T=4611686018427387904) (hW:W=ZC) (hn:0<=n/\n<=T) (hy:ys=W n) (hL:L=ys.length):
  evF (Zd4 W) 20 50 [.ptr (some ⟨0,0,0,0,0⟩),.vints .i64 [n] 1] ⟨1,[(0,.flat [.nilslice,.bool true])]⟩ (Yd 1 (.ret (.int .i64 0)) 2 [(0,.flat [.nslice ⟨1,0,0,0,0⟩ 1 L L,.bool true]),(1,.ints .u8 ys)]):=by
 refine @Eq.mpr _ (Z6 (decide (n<0)) False (Z6 (decide (n>4611686018427387904)) False (Z5 (List.length (W n)=L) (Z5 (L<=List.length (W n)) (W n=ys/\True))))) (by kernel_rfl) ?_
 try simp only [vcA]
 try simp only [vcB]
 try simp only [vcC]
 subst hT hy hL
 exact ⟨by omega,by omega,rfl,J2 _,rfl⟩
noncomputable def ZkF (L:List H32) (xs:LI):Zf:=G0.withL 51 0 (goM 2 (hwS L xs 0) (xs.length<80000000000000/\L.length<=64) (Yx 0 L.length 9 (fun i=>i<L.length) (fun i=>i=L.length) (fun _=>False) (fun _=>False) (fun i=>hwE (xs++Wr (L.take i))) (fun _=>hwN) (fun _=>hwN)))
theorem ZgD (L:List H32) (xs:LI):(ZkF L xs).Ok:=
 Zf.withGoM (N:=20) (k:=2) (n:=L.length) (l:=9) (S:=fun i=>hwS L (xs++Wr (L.take i)) i) Zt (by kernel_rfl) fun hC=>⟨by simp [Wr],fun i hi _=>Zmh L _ _ i _ _ (by
  have:=Z4f (L.take i)
  have:=List.length_take_le i L
  rw [J3]
  omega) hC.2 hi (fun h=>by rw [ZbM h,Jv]) (fun h=>⟨h,h⟩) fun h=>h⟩
theorem Zmj (L:List H32) (xs ys:LI) (N M n:Nat) (hL:L.length<=64) (hn:n=L.length) (hN:xs.length=N) (hB:N<80000000000000) (hy:ys=xs++Wr L) (hM:M=ys.length):
  evF (ZkF L xs) 20 51 [.ptr (some ⟨0,0,0,0,0⟩),.vrows 32 n (seR L) n] ⟨2,[(0,.flat [.nslice ⟨1,0,0,0,0⟩ 1 N N,.bool true]),(1,.ints .u8 xs)]⟩ (Yd 2 (.ret (.int .i64 0)) 3 [(0,.flat [.nslice ⟨2,0,0,0,0⟩ 1 M M,.bool true]),(2,.ints .u8 ys)]):=by
 refine @Eq.mpr _ (let a:=L.length;let e:=decide (n=a);let b:=xs.length;
 Z5 ((↑n:Int)=(↑a:Int)) (Z4 e (seR L=seR L/\
 Z4 e (Z5 (N=b) (Z5 (b<=N) (xs=xs/\
 (b<80000000000000/\a<=64)/\
 ∀(i:Nat),
 let d:=xs++Wr (List.take i L);let c:=d.length;
 i<=a->(∀(j:Nat),j<i->(fun (i:Nat)=>i<a) j)->(i=a->Z5 (c=M) (Z5 (M<=c) (d=ys/\True)))/\(False->False)/\(False->False))))))) (by kernel_rfl) ?_
 conv=>zeta
 try simp only [vcA]
 try simp only [vcB]
 try simp only [vcC]
 subst hn hN
 refine ⟨rfl,rfl,rfl,rfl,J2 _,⟨hB,hL⟩,fun i hi _=>⟨fun e=> ?_,fun h=>h,fun h=>h⟩⟩
 rw [e,Jp,<-hy]
 exact ⟨hM.symm,Jw hM,rfl⟩
structure Z7N (L:List H32) (n:Nat) (f:Nat->List AV) (m:Nat):Prop where
 n:n=L.length
 m:m=L.length
 b:L.length<=64
 f:∀i,i<L.length->f i=seR L i
structure Z1I (xs:LI) (N M:Nat):Prop where
 n:xs.length=N
 m:M=N
 b:N<80000000000000
def whL:ZS:=fun args h K=>match args with
 | [.ptr (some ⟨w,0,0,0,0⟩),_]=>match h.get w with
  |some (.flat [.nslice ⟨b,0,0,0,0⟩ 1 _ _,.bool true])=>frA [w,b] h 60 args fun Bs a=>match Bs,a with
   | [.flat [.nslice ⟨1,0,0,0,0⟩ 1 N M,.bool true],.ints .u8 xs],[.ptr (some ⟨0,0,0,0,0⟩),.vrows 32 n f m]=>∃L,Z7N L n f m/\Z1I xs N M/\K (.ret (.int .i64 0)) ⟨h.next+1,(w,.flat [.nslice ⟨h.next,0,0,0,0⟩ 1 (xs++Wr L).length (xs++Wr L).length,.bool true])::(h.next,.ints .u8 (xs++Wr L))::Zy (Zy h.bs w) b⟩
   | _,_=>False
  | _=>False
 | _=>False
theorem ZiM (args:List AV) (h:Z7) (K:KO) (hl:whL args h K):Zi PP 51 args h K:=by
 unfold whL at hl
 split at hl
 ·split at hl
  ·refine Spec.fsumm hl fun Bs a hlen hK0=> ?_
   split at hK0
   ·obtain ⟨L,⟨rfl,rfl,hb,hf⟩,⟨h1,rfl,h2⟩,hK⟩:=hK0
    exact ⟨_,_,_,_,_,(Spec.evM (ZgD L _) (Zmj L _ _ _ _ _ hb rfl h1 h2 rfl rfl)).conv fun E r hr=>hr.head (fun _ hc=>hc) fun _ hc=>hc.head (fun _ hc=>hc.rowsC hf) fun _ hc=>hc,by simp,.ret _ _ rfl,.cons _ _ _ _ _ _ rfl (.flat _ _ rfl) (.cons _ _ _ _ _ _ rfl (.ints _ _) .nil),hK⟩
   ·exact hK0.elim
  ·exact hl.elim
 ·exact hl.elim
structure XF (x:Int):Prop where
 h:0<=x/\x<=4611686018427387904
def wnL (W:Int->LI):ZS:=fun args h K=>match args with
 | [.ptr (some ⟨w,0,0,0,0⟩),_]=>match h.get w with
  |some (.flat [.nslice ⟨b,0,0,0,0⟩ 1 _ _,.bool true])=>frA [w,b] h 20 args fun Bs a=>match Bs,a with
   | [.flat [.nslice ⟨1,0,0,0,0⟩ 1 N M,.bool true],.ints .u8 xs],[.ptr (some ⟨0,0,0,0,0⟩),.vints .i64 [x] 1]=>Z1I xs N M/\XF x/\K (.ret (.int .i64 0)) ⟨h.next+1,(w,.flat [.nslice ⟨h.next,0,0,0,0⟩ 1 (xs++W x).length (xs++W x).length,.bool true])::(h.next,.ints .u8 (xs++W x))::Zy (Zy h.bs w) b⟩
   | [.flat [.nslice ⟨1,0,0,0,0⟩ 1 N M,.bool true],.ints .u8 xs],[.ptr (some ⟨0,0,0,0,0⟩),.vints .i64 [x,y] 2]=>Z1I xs N M/\XF x/\XF y/\K (.ret (.int .i64 0)) ⟨h.next+1,(w,.flat [.nslice ⟨h.next,0,0,0,0⟩ 1 (xs++W x++W y).length (xs++W x++W y).length,.bool true])::(h.next,.ints .u8 (xs++W x++W y))::Zy (Zy h.bs w) b⟩
   | _,_=>False
  | some (.flat [.nilslice,.bool true])=>frA [w] h 20 args fun Bs a=>match Bs,a with
   | [.flat [.nilslice,.bool true]],[.ptr (some ⟨0,0,0,0,0⟩),.vints .i64 [x] 1]=>XF x/\K (.ret (.int .i64 0)) ⟨h.next+1,(w,.flat [.nslice ⟨h.next,0,0,0,0⟩ 1 (W x).length (W x).length,.bool true])::(h.next,.ints .u8 (W x))::Zy h.bs w⟩
   | _,_=>False
  | _=>False
 | _=>False
theorem ZiN (args:List AV) (h:Z7) (K:KO) (hl:wnL ZC args h K):Zi PP 50 args h K:=by
 unfold wnL at hl
 split at hl
 ·split at hl
  ·refine Spec.fsumm hl fun Bs a hlen hK0=> ?_
   split at hK0
   ·obtain ⟨⟨h1,rfl,h2⟩,⟨h3⟩,hK⟩:=hK0
    exact ⟨_,_,_,_,_,.evM Z2A (Zie _ _ _ _ _ _ _ _ rfl h1 (by omega) h3 rfl rfl),by simp,.ret _ _ rfl,.cons _ _ _ _ _ _ rfl (.flat _ _ rfl) (.cons _ _ _ _ _ _ rfl (.ints _ _) .nil),hK⟩
   ·obtain ⟨⟨h1,rfl,h2⟩,⟨h3⟩,⟨h4⟩,hK⟩:=hK0
    exact ⟨_,_,_,_,_,.evM Z2A (Zif _ _ _ _ _ _ _ _ _ rfl rfl h1 h2 h3 h4 rfl rfl),by simp,.ret _ _ rfl,.cons _ _ _ _ _ _ rfl (.flat _ _ rfl) (.cons _ _ _ _ _ _ rfl (.ints _ _) .nil),hK⟩
   ·exact hK0.elim
  ·refine Spec.fsumm hl fun Bs a hlen hK0=> ?_
   split at hK0
   ·obtain ⟨⟨h3⟩,hK⟩:=hK0
    exact ⟨_,_,_,_,_,.evM Z2A (Zmi _ _ _ _ _ rfl rfl h3 rfl rfl),by simp,.ret _ _ rfl,.cons _ _ _ _ _ _ rfl (.flat _ _ rfl) (.cons _ _ _ _ _ _ rfl (.ints _ _) .nil),hK⟩
   ·exact hK0.elim
  ·exact hl.elim
 ·exact hl.elim
noncomputable def ZbN (W:Int->LI) (X D:Zb):Zf:=((((G0.withF 50 (wnL W)).withF 51 whL).withF 59 (riS X.T D.T)).withF 92 (ZiK X.S D.S)).withF 53 (ZiL X.Q D.Q)
theorem Zas (X D:Zb):(ZbN ZC X D).Ok:=Zf.withF_ok (Zf.withF_ok (Zf.withF_ok (Zf.withF_ok (Zf.withF_ok Zt ZiN) ZiM) (Ze8 X.T D.T)) (Zgy X.S D.S)) (ZgC X.Q D.Q)
noncomputable def Q5:Code:=rfA PP 10 0
noncomputable def Q6:Code:=rfB PP 10 0
def Z4D (W:Int->LI) (x:Zk):LI:=x.inn.v++W x.inID++x.out.v++W x.outID
def Z4E (W:Int->LI) (q:Zs):LI:=q.hash.v++q.key.v++W q.amount++W q.least++q.secret.v
noncomputable def raB (X:Zb) (ys:LI):List (Nat×Blk):=(12,.loop ⟨.ready,none,10,101,[(3,pt 6),(0,pt 0)],[21],Q5,Q6,11⟩)::(11,.defd)::(6,.flat [pt 5])::(5,.flat [.nslice ⟨13,0,0,0,0⟩ 1 ys.length ys.length,.bool true])::(13,.ints .u8 ys)::tbO Zh X
noncomputable def raS (X:Zb) (T:List Zk) (ys:LI) (i:Nat):St:=⟨16,[(7,.int .i64 i),(6,.int .i64 T.length),(5,.nslice ⟨9,0,66,0,0⟩ 66 T.length T.length),(0,.yield 12)],⟨14,(10,.flat [.nslice ⟨9,0,66,0,0⟩ 66 T.length T.length])::(9,.rows 66 T.length (tiR T))::raB X ys⟩,[]⟩
noncomputable def raE (X:Zb) (ys:LI):St:=⟨16,[(0,.yield 12)],⟨14,raB X ys⟩,[]⟩
def raN:St:=⟨16,[],⟨0,[]⟩,[]⟩
theorem Z4g (x:H32):Wr [x]=x.v:=by simp [Wr]
theorem Zen (x y:H32):Wr [x,y]=x.v++y.v:=by simp [Wr]
theorem Z9j (x:H32):Z7N [x] 1 (XM [AV.arr .u8 32 x.v] 0 32) 1:=⟨rfl,rfl,by show 1<=64;decide,fun i hi=>by
 have e:i=0:=by simp at hi;omega
 subst e
 rfl⟩
theorem Zmk (W:Int->LI) (X D:Zb) (T:List Zk) (ys ys':LI) (i:Nat) (go ex:Prop) (hT:T.length<=48) (hi:i<=T.length) (hl:ys.length<10000) (hW:∀n,(W n).length<=10) (hk:i<T.length->XF (T.getD i Zq).inID/\XF (T.getD i Zq).outID) (hy:i<T.length->ys'=ys++Z4D W (T.getD i Zq)) (hg:i<T.length->go) (hx:i=T.length->ex):
  ZF (ZbN W X D) 40 63 0 13 (raS X T ys i) (rdM 13 0 9 (raS X T ys' (i+1)) (raE X ys) raN raN go ex False False):=by
 refine @Eq.mpr _ (let b:=T.length;let n:=(↑b:Int);let I:=0+Int.toNat (↑i:Int);let f:=List.getD T I Zq;let c:=ys.length;let G:=f.inID;let B:=f.outID;let t:=decide (b=b);let A:=decide (b<=b);let e:=[(13,23)];let M:=LoopState.ready=LoopState.ready/\(none:Option Code)=none/\(10:FuncId)=10/\(101:Nat)=101/\[(21:Nat)]=[(21:Nat)]/\Q5=Q5/\Q6=Q6;let s:=X.T;let d:=s.length;let r:=decide (d=d);let q:=tkO s;let a:=tiV s;let p:=tkI s;let z:=X.S;let o:=z.length;let K:=decide (o=o);let m:=skV Zh z;let l:=seV z;let y:=X.Q;let k:=y.length;let J:=decide (k=k);let j:=qkV y;let h:=quV y;let g:=[(13,13)];
 Z6 (decide ((↑i:Int)<n)) (Z5 (0<=(↑i:Int)/\(↑i:Int)<n) (Z5 (I<b) (∃(L:List H32),
 let x:=ys++Wr L;let H:=x.length;let w:=x++W G;let F:=w.length;
 Z7N L 1 (XM [AV.arr u8 32 f.inn.v] 0 32) 1/\
 Z1I ys c c/\
 Z1I x H H/\
 XF G/\
 ∃(L:List H32),
 let u:=w++Wr L;let E:=u.length;let D:=u++W B;let C:=D.length;
 Z7N L 1 (XM [AV.arr u8 32 f.out.v] 0 32) 1/\Z1I w F F/\Z1I u E E/\XF B/\Z5 (wrap i64 ((↑i:Int)+1)=(↑(i+1):Int)) (Z5 (n=n) (Z4 t (Z4 A (Z4 t (Z4 A (Z4 t (Z9 13 e b (tiR T) (tiR T)/\M/\Z5 (C=ys'.length) (Z5 (ys'.length<=C) (D=ys'/\Z4 r (Z8 13 e d q a q a/\Z4 r (Z8 13 e d p a p a/\Z4 K (Z8 13 e o m l m l/\Z4 J (Z8 13 e k j h j h/\go)))))))))))))))) (M/\Z5 (c=c) (Z5 (c<=c) (ys=ys/\Z4 r (Z8 13 g d q a q a/\Z4 r (Z8 13 g d p a p a/\Z4 K (Z8 13 g o m l m l/\Z4 J (Z8 13 g k j h j h/\ex)))))))) (by kernel_rfl) ?_
 conv=>zeta
 try simp only [vcA]
 try simp only [vcB]
 try simp only [vcC]
 refine ⟨fun hlt=> ?_,fun hge=> ?_⟩
 ·have hlt':i<T.length:=by omega
  obtain ⟨k1,k2⟩:=hk hlt'
  have e:=hy hlt'
  generalize T.getD i Zq=x at*
  have w1:=hW x.inID
  have w2:=hW x.outID
  have l1:=x.inn.l
  have l2:=x.out.l
  obtain ⟨m1,m2,m3,m4⟩:=Xr Zh X 13 [(13,23)]
  refine ⟨⟨by omega,hlt⟩,hlt',[x.inn],Z9j _, ?_⟩
  rw [Z4g]
  refine ⟨⟨rfl,rfl,by omega⟩,⟨rfl,rfl,by simp only [J3];omega⟩,k1,[x.out],Z9j _, ?_⟩
  rw [Z4g]
  have e':ys++x.inn.v++W x.inID++x.out.v++W x.outID=ys':=by rw [e,Z4D];simp only [Jv]
  refine ⟨⟨rfl,rfl,by simp only [J3];omega⟩,⟨rfl,rfl,by simp only [J3];omega⟩,k2,by rw [w64 (by omega)];omega,Zj ZX fun _ _=>rfl, ?_⟩
  rw [e']
  exact ⟨rfl,J2 _,rfl,m1,m2,m3,m4,hg hlt'⟩
 ·obtain ⟨m1,m2,m3,m4⟩:=Xr Zh X 13 [(13,13)]
  exact ⟨m1,m2,m3,m4,hx (by omega)⟩
def Z0m (W:Int->LI) (n:Nat) (T:List Zk) (i:Nat):LI:=W n++(T.take i).flatMap (Z4D W)
theorem ZbO {n:Nat} {T:List Zk} {i:Nat} (h:i<T.length):Z0m W n T (i+1)=Z0m W n T i++Z4D W (T.getD i Zq):=by
 unfold Z0m
 rw [X6 Zq h,List.flatMap_append,Jv]
 simp
theorem Zeo (hW:∀n,(W n).length<=10) (x:Zk):(Z4D W x).length<=84:=by
 unfold Z4D
 have:=hW x.inID
 have:=hW x.outID
 have:=x.inn.l
 have:=x.out.l
 simp only [J3]
 omega
theorem Z4h {α:Type} {g:α->LI} {b:Nat} (hg:∀x,(g x).length<=b):∀l:List α,(l.flatMap g).length<=b*l.length
 | []=>by simp
 | a::l=>by
  have:=hg a
  have:=Z4h hg l
  rw [List.flatMap_cons,J3,Ju,Nat.mul_succ]
  omega
theorem Z4i (hW:∀n,(W n).length<=10) (n:Nat) (T:List Zk) (i:Nat):(Z0m W n T i).length<=10+84*i:=by
 unfold Z0m
 have:=hW n
 have h1:=Z4h (Zeo hW) (T.take i)
 have h2:(T.take i).length<=i:=List.length_take_le i T
 rw [J3]
 omega
theorem ZbP {x:Zk} (h:Wd x=true):XF x.inID/\XF x.outID:=by
 unfold Wd at h
 simp only [J1,decide_eq_true_eq] at h
 exact ⟨⟨by omega⟩,⟨by omega⟩⟩
noncomputable def Zep (W:Int->LI) (X D:Zb):Zf:=(ZbN W X D).withL 63 0 (goM 13 (raS X D.T (Z0m W X.T.length D.T 0) 0) (D.T.length<=48/\∀x∈D.T,Wd x=true) (Yx 0 D.T.length 9 (fun i=>i<D.T.length) (fun i=>i=D.T.length) (fun _=>False) (fun _=>False) (fun i=>raE X (Z0m W X.T.length D.T i)) (fun _=>raN) (fun _=>raN)))
theorem Zeq (X D:Zb) (hW:∀n,(ZC n).length<=10):(Zep ZC X D).Ok:=
 Zf.withGoM (N:=40) (k:=13) (n:=D.T.length) (l:=9) (S:=fun i=>raS X D.T (Z0m ZC X.T.length D.T i) i) (Zas X D) (by kernel_rfl) fun hC=>⟨rfl,fun i hi _=>Zmk ZC X D D.T _ _ i _ _ hC.1 hi (by
  have:=Z4i hW X.T.length D.T i
  omega) hW (fun h=>by
   rw [getD_at h]
   exact ZbP (hC.2 _ (JO h))) (fun h=>ZbO h) (fun h=>⟨h,h⟩) fun h=>h⟩
def ZkG (X:Zb) (ys:LI):List (Nat×Blk):=(9,.defd)::(6,.flat [pt 5])::(5,.flat [.nslice ⟨8,0,0,0,0⟩ 1 ys.length ys.length,.bool true])::(8,.ints .u8 ys)::tbO Zh X
def ZgE (X:Zb) (Q:List Zs) (ys:LI) (i:Nat):St:=⟨101,[(71,.int .i64 i),(70,.int .i64 Q.length),(69,.nslice ⟨7,0,98,0,0⟩ 98 Q.length Q.length),(3,pt 6)],⟨10,(7,.rows 98 Q.length (quR Q))::ZkG X ys⟩,[.mark 9]⟩
def ZkH (X:Zb) (ys:LI):St:=⟨101,[(3,pt 6)],⟨10,ZkG X ys⟩,[.mark 9]⟩
def ZgF:St:=⟨101,[],⟨0,[]⟩,[]⟩
theorem ZgG (x y:H32):Z7N [x,y] 2 (XM [AV.arr .u8 32 x.v,AV.arr .u8 32 y.v] 0 32) 2:=⟨rfl,rfl,by show 2<=64;decide,fun i hi=>by
 have e:i=0\/i=1:=by simp at hi;omega
 rcases e with rfl|rfl<;>rfl⟩
theorem Zml (W:Int->LI) (X D:Zb) (Q:List Zs) (ys ys':LI) (i:Nat) (go ex:Prop) (hT:Q.length<=16) (hi:i<=Q.length) (hl:ys.length<20000) (hW:∀n,(W n).length<=10) (hk:i<Q.length->XF (Q.getD i ZH).amount/\XF (Q.getD i ZH).least) (hy:i<Q.length->ys'=ys++Z4E W (Q.getD i ZH)) (hg:i<Q.length->go) (hx:i=Q.length->ex):
  ZF (ZbN W X D) 40 10 2 5 (ZgE X Q ys i) (rdM 5 2 9 (ZgE X Q ys' (i+1)) (ZkH X ys) ZgF ZgF go ex False False):=by
 refine @Eq.mpr _ (let b:=Q.length;let m:=(↑b:Int);let F:=0+Int.toNat (↑i:Int);let f:=List.getD Q F ZH;let c:=ys.length;let C:=f.amount;let z:=f.least;let y:=decide (b=b);let e:=[(8,16),(5,5),(9,9),(6,6),(7,7)];let s:=X.T;let d:=s.length;let r:=decide (d=d);let q:=tkO s;let a:=tiV s;let p:=tkI s;let x:=X.S;let o:=x.length;let H:=decide (o=o);let n:=skV Zh x;let l:=seV x;let w:=X.Q;let k:=w.length;let G:=decide (k=k);let j:=qkV w;let h:=quV w;let g:=[(8,8),(5,5),(9,9),(6,6)];
 Z6 (decide ((↑i:Int)<m)) (Z5 (0<=(↑i:Int)/\(↑i:Int)<m) (Z5 (F<b) (∃(L:List H32),
 let u:=ys++Wr L;let E:=u.length;let t:=u++W C++W z;let D:=t.length;
 Z7N L 2 (XM [AV.arr u8 32 f.hash.v,AV.arr u8 32 f.key.v] 0 32) 2/\
 Z1I ys c c/\
 Z1I u E E/\
 XF C/\
 XF z/\
 ∃(L:List H32),
 let B:=t++Wr L;let A:=B.length;
 Z7N L 1 (XM [AV.arr u8 32 f.secret.v] 0 32) 1/\Z1I t D D/\Z5 (wrap i64 ((↑i:Int)+1)=(↑(i+1):Int)) (Z5 (m=m) (Z4 y (Z5 (b<=b) (Z4 y (Z9 5 e b (quR Q) (quR Q)/\Z5 (A=ys'.length) (Z5 (ys'.length<=A) (B=ys'/\Z4 r (Z8 5 e d q a q a/\Z4 r (Z8 5 e d p a p a/\Z4 H (Z8 5 e o n l n l/\Z4 G (Z8 5 e k j h j h/\go)))))))))))))) (Z5 (c=c) (Z5 (c<=c) (ys=ys/\Z4 r (Z8 5 g d q a q a/\Z4 r (Z8 5 g d p a p a/\Z4 H (Z8 5 g o n l n l/\Z4 G (Z8 5 g k j h j h/\ex)))))))) (by kernel_rfl) ?_
 conv=>zeta
 try simp only [vcA]
 try simp only [vcB]
 try simp only [vcC]
 refine ⟨fun hlt=> ?_,fun hge=> ?_⟩
 ·have hlt':i<Q.length:=by omega
  obtain ⟨k1,k2⟩:=hk hlt'
  have e:=hy hlt'
  generalize Q.getD i ZH=x at*
  have w1:=hW x.amount
  have w2:=hW x.least
  have l1:=x.hash.l
  have l2:=x.key.l
  have l3:=x.secret.l
  obtain ⟨m1,m2,m3,m4⟩:=Xr Zh X 5 [(8,16),(5,5),(9,9),(6,6),(7,7)]
  refine ⟨⟨by omega,hlt⟩,hlt',[x.hash,x.key],ZgG _ _, ?_⟩
  rw [Zen]
  refine ⟨⟨rfl,rfl,by omega⟩,⟨rfl,rfl,by simp only [J3];omega⟩,k1,k2,[x.secret],Z9j _, ?_⟩
  rw [Z4g]
  have e':ys++(x.hash.v++x.key.v)++W x.amount++W x.least++x.secret.v=ys':=by rw [e,Z4E];simp only [Jv]
  refine ⟨⟨rfl,rfl,by simp only [J3];omega⟩,by rw [w64 (by omega)];omega,Zj Y8 fun _ _=>rfl, ?_⟩
  rw [e']
  exact ⟨rfl,J2 _,rfl,m1,m2,m3,m4,hg hlt'⟩
 ·obtain ⟨m1,m2,m3,m4⟩:=Xr Zh X 5 [(8,8),(5,5),(9,9),(6,6)]
  exact ⟨m1,m2,m3,m4,hx (by omega)⟩
def tsB (W:Int->LI) (X D:Zb):LI:=Z0m W X.T.length D.T D.T.length++W X.S.length++Wr D.S++W X.Q.length
def Q7 (W:Int->LI) (X D:Zb) (i:Nat):LI:=tsB W X D++(D.Q.take i).flatMap (Z4E W)
theorem ZbQ {D:Zb} {i:Nat} (h:i<D.Q.length):Q7 W X D (i+1)=Q7 W X D i++Z4E W (D.Q.getD i ZH):=by
 unfold Q7
 rw [X6 ZH h,List.flatMap_append,Jv]
 simp
theorem Zer (hW:∀n,(W n).length<=10) (x:Zs):(Z4E W x).length<=116:=by
 unfold Z4E
 have:=hW x.amount
 have:=hW x.least
 have:=x.hash.l
 have:=x.key.l
 have:=x.secret.l
 simp only [J3]
 omega
theorem Z4j (hW:∀n,(W n).length<=10) {D:Zb} (hD:ZP D) (i:Nat):(Q7 W X D i).length<=8200+116*i:=by
 unfold Q7 tsB
 have h0:=Z4i hW X.T.length D.T D.T.length
 have h1:=Z4h (Zer hW) (D.Q.take i)
 have h2:(D.Q.take i).length<=i:=List.length_take_le i D.Q
 have h3:=Z4f D.S
 have:=hW X.S.length
 have:=hW X.Q.length
 have:=hD.t
 have:=hD.s
 simp only [J3]
 omega
theorem ZbR {x:Zs} (h:XK H x=true):XF x.amount/\XF x.least:=by
 unfold XK at h
 simp only [J1,decide_eq_true_eq] at h
 exact ⟨⟨by omega⟩,⟨by omega⟩⟩
structure Z5z (X D:Zb):Prop where
 t:TR X.T D.T
 s:SRb 64 ltS X.S D.S
 q:SRb 16 ltQ X.Q D.Q
 tok:∀x∈D.T,Wd x=true
 qok:∀x∈D.Q,XK Zh x=true
theorem Z5z.lim {D:Zb} (h:Z5z X D):ZP D:=⟨by rw [h.t.perm.length_eq];exact h.t.len,by rw [h.s.perm.length_eq];exact h.s.len,by rw [h.q.perm.length_eq];exact h.q.len⟩
noncomputable def ZkI (W:Int->LI) (X D:Zb):Zf:=((Zep W X D).withF 82 Z2z).withL 10 2 (goM 5 (ZgE X D.Q (Q7 W X D 0) 0) (Z5z X D) (Yx 2 D.Q.length 9 (fun i=>i<D.Q.length) (fun i=>i=D.Q.length) (fun _=>False) (fun _=>False) (fun i=>ZkH X (Q7 W X D i)) (fun _=>ZgF) (fun _=>ZgF)))
theorem Z0n (n:Int):(ZC n).length<=10:=by
 have:=Z3N n
 omega
theorem ZgH (X D:Zb):(ZkI ZC X D).Ok:=
 Zf.withL_join (H:=ZbN ZC X D) (Zf.withF_ok (Zeq X D Z0n) Z0f) (by unfold Zep ZbN;simp only [VZ,ZbA]) (Zf.withGoM (N:=40) (k:=5) (n:=D.Q.length) (l:=9) (S:=fun i=>ZgE X D.Q (Q7 ZC X D i) i) (Zas X D) (by kernel_rfl) fun hC=>⟨rfl,fun i hi _=>Zml ZC X D D.Q _ _ i _ _ hC.lim.q hi (by
  have:=Z4j Z0n (X:=X) hC.lim i
  have:=hC.lim.q
  omega) Z0n (fun h=>by
   rw [Uk h]
   exact ZbR (hC.qok _ (JO h))) (fun h=>ZbQ h) (fun h=>⟨h,h⟩) fun h=>h⟩)
theorem Zmm (W:Int->LI) (X D:Zb) (ys:LI) (N:Nat) (hO:Z5z X D) (hW:W=ZC) (hy:ys=Q7 W X D D.Q.length) (hN:N=ys.length):
  evF (ZkI W X D) 40 10 [pt 0] ⟨5,tbO Zh X⟩ (Yd 5 (.ret (.nslice ⟨5,0,0,0,0⟩ 1 N N)) 6 ((5,.ints .u8 ys)::tbO Zh X)):=by
 refine @Eq.mpr _ (let u:=X.T;let b:=u.length;let q3:=(↑b:Int);let C:=true=true/\true=true;let g:=tkO u;let a:=tiV u;let o:=D.T;let c:=o.length;let P:=(↑c:Int);let I:=decide (c=c);let a9:=decide (c<=c);let t:=[(13,8)];let a8:=tiR o;let a7:=W q3;let a6:=a7.length;let a5:=Z0m W b o 0;let a4:=a5.length;let q:=decide (b=b);let p:=tkI u;let y:=X.S;let f:=y.length;let H:=decide (f=f);let m:=skV Zh y;let l:=seV y;let w:=X.Q;let e:=w.length;let G:=decide (e=e);let k:=qkV w;let h:=quV w;let a3:=(↑f:Int);let F:=D.S;let s:=F.length;let a2:=(↑e:Int);let E:=D.Q;let d:=E.length;let a1:=(↑d:Int);let a0:=decide (d=d);let r:=[(8,19),(5,5),(9,11),(6,6),(7,20)];let Z:=quR E;let Y:=Q7 W X D 0;let V:=Y.length;let v:=[(5,10)];let U:=(False->False)/\(False->False);
 XF q3/\
 (∀(i:Nat),i<b->C)/\
 (b=b/\g=g/\a=a)/\
 TR u o/\
 Z5 (P=P) (Z4 I (Z4 a9 (Z4 I (Z4 a9 (Z4 I (Z9 13 t c a8 a8/\
 (LoopState.ready=LoopState.ready/\(none:Option Code)=none/\(10:FuncId)=10/\(101:Nat)=101/\[(21:Nat)]=[(21:Nat)]/\Q5=Q5/\Q6=Q6)/\
 Z5 (a6=a4) (Z5 (a4<=a6) (a7=a5/\
 Z4 q (Z8 13 t b g a g a/\
 Z4 q (Z8 13 t b p a p a/\
 Z4 H (Z8 13 t f m l m l/\
 Z4 G (Z8 13 t e k h k h/\
 (c<=48/\∀(x:Zk),List.Mem x o->Wd x=true)/\
 ∀(i:Nat),
 let B:=Z0m W b o i;let R:=B.length;let A:=B++W a3;let O:=A.length;
 i<=c->
 (∀(j:Nat),j<i->(fun (i:Nat)=>i<c) j)->
 (i=c->
 Z1I B R R/\
 XF a3/\
 (∀(i:Nat),i<f->C)/\
 (f=f/\m=m/\l=l)/\
 SRb 64 ltS y F/\
 Z5 (0+s<=s) ((∀(i:Nat),i<s->true=true)/\
 ∃(L:List H32),
 let z:=A++Wr L;let M:=z.length;let K:=z++W a2;let J:=K.length;
 Z7N L s (ZL 0 (seR F)) s/\
 Z1I A O O/\
 Z1I z M M/\
 XF a2/\
 (∀(i:Nat),i<e->C)/\
 (e=e/\k=k/\h=h)/\
 SRb 16 ltQ w E/\
 Z5 (a1=a1) (Z4 a0 (Z5 (d<=d) (Z4 a0 (Z9 5 r d Z Z/\
 Z5 (J=V) (Z5 (V<=J) (K=Y/\
 Z4 q (Z8 5 r b g a g a/\
 Z4 q (Z8 5 r b p a p a/\
 Z4 H (Z8 5 r f m l m l/\
 Z4 G (Z8 5 r e k h k h/\
 Z5z X D/\
 ∀(i:Nat),
 let b1:=Q7 W X D i;let n:=b1.length;let b0:=List.take n (Yi 0 b1);
 i<=d->(∀(j:Nat),j<i->(fun (i:Nat)=>i<d) j)->(i=d->Z5 (0+n<=n) (Z5 (b0.length=n/\n<90000000000000) (Z5 (n=N) (Z5 (N<=n) (b0=ys/\Z4 q (Z8 5 v b g a g a/\Z4 q (Z8 5 v b p a p a/\Z4 H (Z8 5 v f m l m l/\Z4 G (Z8 5 v e k h k h/\True)))))))))/\U))))))))))))/\
 U))))))))))))) (by kernel_rfl) ?_
 conv=>zeta
 try simp only [vcA]
 try simp only [vcB]
 try simp only [vcC]
 subst hW
 have hL:=hO.lim
 have tr:∀{n:Nat} (i:Nat),i<n->True:=fun _ _=>trivial
 have lt:=hO.t.perm.length_eq
 have ls:=hO.s.perm.length_eq
 have lq:=hO.q.perm.length_eq
 have ht:=hL.t
 have hs:=hL.s
 have hq:=hL.q
 have e0:ZC X.T.length=Z0m ZC X.T.length D.T 0:=by simp [Z0m]
 have bT:=Z4i Z0n X.T.length D.T D.T.length
 have bS:=Z0n X.S.length
 have bC:=Z4f D.S
 obtain ⟨m1,m2,m3,m4⟩:=Xr Zh X 13 [(13,8)]
 refine ⟨⟨by omega⟩,tr,hO.t,Zj ZX fun _ _=>rfl,by rw [e0],by rw [e0];exact J2 _,e0,m1,m2,m3,m4,⟨ht,hO.tok⟩,fun i hi _=>⟨fun e=> ?_,fun h=>h,fun h=>h⟩⟩
 subst e
 refine ⟨⟨rfl,rfl,by omega⟩,⟨by omega⟩,tr,hO.s,tr,D.S,⟨rfl,rfl,hs,fun _ _=>rfl⟩,⟨rfl,rfl,by simp only [J3];omega⟩,⟨rfl,rfl,by simp only [J3];omega⟩,⟨by omega⟩,tr,hO.q,Zj Y8 fun _ _=>rfl, ?_⟩
 have eT:Z0m ZC X.T.length D.T D.T.length++ZC X.S.length++Wr D.S++ZC X.Q.length=Q7 ZC X D 0:=by simp [Q7,tsB]
 rw [eT]
 obtain ⟨m1,m2,m3,m4⟩:=Xr Zh X 5 [(8,19),(5,5),(9,11),(6,6),(7,20)]
 refine ⟨rfl,J2 _,rfl,m1,m2,m3,m4,hO,fun i hi _=>⟨fun e=> ?_,fun h=>h,fun h=>h⟩⟩
 subst e
 have bR:=Z4j Z0n (X:=X) hL D.Q.length
 obtain ⟨m1,m2,m3,m4⟩:=Xr Zh X 5 [(5,10)]
 rw [ZZ,Kj,Jp,<-hy,<-hN]
 rw [<-hy,<-hN] at bR
 exact ⟨⟨rfl,by omega⟩,rfl,J2 _,rfl,m1,m2,m3,m4⟩
theorem Zb.Inv.raw (h:X.Inv Zh):Z5z X (Yg X):=⟨h.tr,⟨srS _,h.lim.s⟩,⟨h.sq,h.lim.q⟩,fun x hx=>h.tok x (Y5.mem_iff.1 hx),fun x hx=>h.qok x (Y5.mem_iff.1 hx)⟩
def Yf (X:Zb):LI:=Q7 ZC X (Yg X) (Yg X).Q.length
def Zes:ZS:=fun args h K=>Z10 Zh h args fun X t o i s a az=>match az with
 | [.ptr (some ⟨0,0,0,0,0⟩)]=>X.Inv Zh/\K (.ret (.nslice ⟨h.next,0,0,0,0⟩ 1 (Yf X).length (Yf X).length)) ⟨h.next+1,(h.next,.ints .u8 (Yf X))::Uq Zh X h t o i s a⟩
 | _=>False
theorem Z6s (args:List AV) (h:Z7) (K:KO) (hl:Zes args h K):Zi PP 10 args h K:=by
 unfold Zes Z10 at hl
 split at hl
 ·split at hl
  ·refine Spec.fsumm hl fun Bs a hlen hK0=> ?_
   split at hK0
   ·obtain ⟨X,⟨rfl,⟨rfl,rfl,rfl⟩,⟨rfl,rfl,rfl⟩,⟨rfl,rfl,rfl⟩,⟨rfl,rfl,rfl⟩,hL⟩,hK0⟩:=hK0
    split at hK0
    ·obtain ⟨hI,hK⟩:=hK0
     have q:=Qs Zh X
     exact ⟨_,_,_,_,_,.evM (ZgH X (Yg X)) (Zmm ZC X (Yg X) _ _ hI.raw rfl rfl rfl),by simp,.ret _ _ rfl,.cons _ _ _ _ _ _ rfl (.ints _ _) (.cons _ _ _ _ _ _ rfl (.flat _ _ rfl) (.cons _ _ _ _ _ _ rfl (.fmap _ _ _ (fun i _=>(q i).1)) (.cons _ _ _ _ _ _ rfl (.fmap _ _ _ (fun i _=>⟨(q i).2.1,(q i).1.2⟩)) (.cons _ _ _ _ _ _ rfl (.fmap _ _ _ (fun i _=>(q i).2.2.1)) (.cons _ _ _ _ _ _ rfl (.fmap _ _ _ (fun i _=>(q i).2.2.2)) .nil))))),hK⟩
    ·exact hK0.elim
   ·exact hK0.elim
  ·exact hl.elim
 ·exact hl.elim
noncomputable def E23 (F:LI->Int×Int):Zf:=G0.withP 143 (Zd8 F)
theorem Zet:(E23 (ZB ZC)).Ok:=Zf.withP_ok Zt Zbi
theorem Zmn (xs:LI) (o n:Nat) (h2:n=0):
  evF G0 20 46 [.ptr (some ⟨0,0,0,0,0⟩)] ⟨2,[(0,.flat [.nslice ⟨1,0,0,0,o⟩ 1 n n,.bool true,.bool false]),(1,.ints .u8 xs)]⟩ (Yd 2 (.ret (.int .i64 0)) 2 [(0,.flat [.nslice ⟨1,0,0,0,o⟩ 1 n n,.bool true,.bool false]),(1,.ints .u8 xs)]):=by
 refine @Eq.mpr _ (Z6 (!(↑n:Int)==0) False (Z5 (o=o) (Z5 (n=n) (Z5 (n<=n) (xs=xs/\True))))) (by kernel_rfl) ?_
 try simp only [vcA]
 try simp only [vcB]
 try simp only [vcC]
 subst h2
 simp
theorem Zmo (xs:LI) (o n:Nat) (h2:n≠0):
  evF G0 20 46 [.ptr (some ⟨0,0,0,0,0⟩)] ⟨2,[(0,.flat [.nslice ⟨1,0,0,0,o⟩ 1 n n,.bool true,.bool false]),(1,.ints .u8 xs)]⟩ (Yd 2 (.ret (.int .i64 140)) 2 [(0,.flat [.nslice ⟨1,0,0,0,o⟩ 1 n n,.bool true,.bool true]),(1,.ints .u8 xs)]):=by
 refine @Eq.mpr _ (Z4 (!(↑n:Int)==0) (Z5 (o=o) (Z5 (n=n) (Z5 (n<=n) (xs=xs/\True))))) (by kernel_rfl) ?_
 try simp only [vcA]
 try simp only [vcB]
 try simp only [vcC]
 simp
 omega
theorem Z5A (W:Int->LI) (xs:LI):(ZB W xs).2<=xs.length:=by
 by_cases h0:xs.length=0
 ·rw [Z3O h0];omega
 by_cases hm:X7 (xs.getD 0 0)=0
 ·rw [Z0g h0 hm];omega
 by_cases hl:xs.length<=X7 (xs.getD 0 0)
 all_goals grind [Vi,VS]
def rdN (F:LI->Int×Int) (xs:LI) (o:Nat) (most:Int):Option (Int×Nat):=
 if 0<(F (xs.drop o)).2/\(F (xs.drop o)).1<=most then some ((F (xs.drop o)).1,o+(F (xs.drop o)).2.toNat) else none
def rdH (xs:LI) (o:Nat):Option (LI×Nat):=if o+32<=xs.length then some ((xs.drop o).take 32,o+32) else none
def Zeu:ZS:=fun args h K=>match args with
 | [.ptr (some ⟨r,0,0,0,0⟩)]=>match h.get r with
  |some (.flat [.nslice ⟨b,0,0,0,_⟩ 1 _ _,.bool true,.bool false])=>frA [r,b] h 20 args fun Bs a=>match Bs,a with
   | [.flat [.nslice ⟨1,0,0,0,o⟩ 1 n n2,.bool true,.bool false],.ints .u8 xs],[.ptr (some ⟨0,0,0,0,0⟩)]=>
    Z5 (n2=n) (Z6 (decide (n=0))
     (K (.ret (.int .i64 0)) ⟨h.next,(r,.flat [.nslice ⟨b,0,0,0,o⟩ 1 n n,.bool true,.bool false])::(b,.ints .u8 xs)::Zy (Zy h.bs r) b⟩)
     (K (.ret (.int .i64 140)) ⟨h.next,(r,.flat [.nslice ⟨b,0,0,0,o⟩ 1 n n,.bool true,.bool true])::(b,.ints .u8 xs)::Zy (Zy h.bs r) b⟩))
   | _,_=>False
  | _=>False
 | _=>False
theorem Zev (args:List AV) (h:Z7) (K:KO) (hl:Zeu args h K):Zi PP 46 args h K:=by
 unfold Zeu at hl
 split at hl
 ·split at hl
  ·refine Spec.fsumm hl fun Bs a hlen hK0=> ?_
   split at hK0
   ·rename_i o n n2 xs
    obtain ⟨rfl,hK⟩:=Zg hK0
    rw [Z2y] at hK
    by_cases hc:n2=0
    ·exact ⟨_,_,_,_,_,.evM Zt (Zmn xs o _ hc),by simp,.ret _ _ rfl,.cons _ _ _ _ _ _ rfl (.flat _ _ rfl) (.cons _ _ _ _ _ _ rfl (.ints _ _) .nil),hK.1 hc⟩
    ·exact ⟨_,_,_,_,_,.evM Zt (Zmo xs o _ hc),by simp,.ret _ _ rfl,.cons _ _ _ _ _ _ rfl (.flat _ _ rfl) (.cons _ _ _ _ _ _ rfl (.ints _ _) .nil),hK.2 hc⟩
   simp_all
  simp_all
 simp_all
theorem ZkJ (F:LI->Int×Int) (xs:LI) (o n o' n':Nat) (most v:Int) (hn:o+n=xs.length) (hm:0<=most) (h2:0<(F (xs.drop o)).2/\(F (xs.drop o)).2<=n) (h1:(F (xs.drop o)).1<=most) (hv:(F (xs.drop o)).1=v) (ho:o'=o+(F (xs.drop o)).2.toNat) (hn':n'=n-(F (xs.drop o)).2.toNat):
  evF (E23 F) 20 83 [.ptr (some ⟨0,0,0,0,0⟩),.int .i64 most] ⟨2,[(0,.flat [.nslice ⟨1,0,0,0,o⟩ 1 n n,.bool true,.bool false]),(1,.ints .u8 xs)]⟩ (Yd 2 (.ret (.tuple [.int .i64 v,.int .i64 0])) 2 [(0,.flat [.nslice ⟨1,0,0,0,o'⟩ 1 n' n',.bool true,.bool false]),(1,.ints .u8 xs)]):=by
 refine @Eq.mpr _ (let b:=Z6 (decide (0=v)) False False;let i:=ZD.tot (ZD.mk 1 0 0 0 o);let h:=List.take n (Yi i xs);let g:=F h;let a:=g.snd;let f:=g.fst;let e:=decide (n<=n);let d:=decide (0<=a/\a<= ↑n);let c:=some (Int.toNat a);let j:=Ur n c;
 Z6 (decide (most<0)) b (Z5 (i+n<=xs.length) (Z5 (h.length=n) (Z6 (decide (a>0)) (Z6 (!decide (f<=most)) b (Z6 (!decide (a<= ↑n)) b (Z4 e (Z4 d (Z4 e (Z4 d (Z5 (f=v) (Z5 (o+ZT c=o') (Z5 (j=n') (Z5 (n'<=j) (xs=xs/\True))))))))))) b)))) (by kernel_rfl) ?_
 conv=>zeta
 try simp only [vcA]
 try simp only [vcB]
 try simp only [vcC]
 have ht:(ZD.mk 1 0 0 0 o).tot=o:=by simp [ZD.tot]
 have hd:List.take n (Yi o xs)=xs.drop o:=by rw [ZZ,JY (by rw [Ja];omega)]
 have hl:(xs.drop o).length=n:=by rw [Ja];omega
 simp only [ht,hd,hl]
 subst hv ho hn'
 generalize F (xs.drop o)=p at*
 have e1:(!decide (p.1<=most))=false:=by simp [h1]
 have e2:(!decide (p.2<=(n:Int)))=false:=by simp [h2.2]
 have e3:ZT (some p.2.toNat)=p.2.toNat:=rfl
 have e4:Ur n (some p.2.toNat)=n-p.2.toNat:=rfl
 simp only [e1,e2,e3,e4]
 repeat' (first|(refine JH ?_ ?_)|intro _)
 all_goals first|omega|rfl|trivial|(exfalso;omega)|(rename_i h;simp at h;done)|(rename_i h;simp at h;omega)|(rename_i h _;simp at h;omega)
theorem ZkK (F:LI->Int×Int) (xs:LI) (o n:Nat) (most:Int) (hn:o+n=xs.length) (hm:0<=most) (h2:0<(F (xs.drop o)).2->most<(F (xs.drop o)).1):
  evF (E23 F) 20 83 [.ptr (some ⟨0,0,0,0,0⟩),.int .i64 most] ⟨2,[(0,.flat [.nslice ⟨1,0,0,0,o⟩ 1 n n,.bool true,.bool false]),(1,.ints .u8 xs)]⟩ (Yd 2 (.ret (.tuple [.int .i64 0,.int .i64 140])) 2 [(0,.flat [.nslice ⟨1,0,0,0,o⟩ 1 n n,.bool true,.bool true]),(1,.ints .u8 xs)]):=by
 refine @Eq.mpr _ (let h:=ZD.tot (ZD.mk 1 0 0 0 o);let g:=List.take n (Yi h xs);let f:=F g;let a:=f.snd;let e:=f.fst;let c:=decide (n<=n);let b:=Z5 (o=o) (Z5 (n=n) (Z4 c (xs=xs/\True)));let d:=decide (0<=a/\a<= ↑n);
 Z6 (decide (most<0)) False (Z5 (h+n<=xs.length) (Z5 (g.length=n) (Z6 (decide (a>0)) (Z6 (!decide (e<=most)) b (Z6 (!decide (a<= ↑n)) b (Z4 c (Z4 d (Z4 c (Z4 d (Z6 (decide (e=0)) False False))))))) b)))) (by kernel_rfl) ?_
 conv=>zeta
 try simp only [vcA]
 try simp only [vcB]
 try simp only [vcC]
 have ht:(ZD.mk 1 0 0 0 o).tot=o:=by simp [ZD.tot]
 have hd:List.take n (Yi o xs)=xs.drop o:=by rw [ZZ,JY (by rw [Ja];omega)]
 have hl:(xs.drop o).length=n:=by rw [Ja];omega
 simp only [ht,hd,hl]
 generalize F (xs.drop o)=p at*
 repeat' (first|(refine JH ?_ ?_)|intro _)
 all_goals first|omega|rfl|trivial|(exfalso;omega)|(rename_i h;simp at h;done)|(rename_i h;simp at h;omega)|(rename_i h _;simp at h;omega)
theorem ZkL (xs hh:LI) (o n o' n':Nat) (hn:o+n=xs.length) (h2:32<=n) (hh':hh=(xs.drop o).take 32) (ho:o'=o+32) (hn':n'=n-32):
  evF G0 20 84 [.ptr (some ⟨0,0,0,0,0⟩)] ⟨2,[(0,.flat [.nslice ⟨1,0,0,0,o⟩ 1 n n,.bool true,.bool false]),(1,.ints .u8 xs)]⟩ (Yd 2 (.ret (.tuple [.agg [.arr .u8 32 hh],.int .i64 0])) 2 [(0,.flat [.nslice ⟨1,0,0,0,o'⟩ 1 n' n',.bool true,.bool false]),(1,.ints .u8 xs)]):=by
 refine @Eq.mpr _ (let d:=decide (n<=n);let c:=decide ((0:Int)<=32/\32<=(↑n:Int));let b:=ZD.tot (ZD.mk 1 0 0 0 (o+0));let a:=Ur n (some 32);
 Z6 (!decide (32<=(↑n:Int))) (Ze=hh/\False) (Z4 d (Z4 c (Z4 d (Z4 c (Z5 (u8=u8/\b+32<=xs.length) (spl Ze 0 (List.take 32 (List.take 32 (Yi b xs)))=hh/\Z5 (o+32=o') (Z5 (a=n') (Z5 (n'<=a) (xs=xs/\True)))))))))) (by kernel_rfl) ?_
 conv=>zeta
 try simp only [vcA]
 try simp only [vcB]
 try simp only [vcC]
 have ht:(ZD.mk 1 0 0 0 (o+0)).tot=o:=by simp [ZD.tot]
 have e4:Ur n (some 32)=n-32:=rfl
 have hl:((xs.drop o).take 32).length=32:=by rw [Jd,Ja];omega
 have hd:List.take 32 (List.take 32 (Yi o xs))=(xs.drop o).take 32:=by rw [ZZ,List.take_take];rfl
 have hs:spl Ze 0 ((xs.drop o).take 32)=(xs.drop o).take 32:=by
  unfold spl
  rw [List.take_zero,List.nil_append,hl]
  simp [Ze]
 simp only [ht,e4,hd,hs]
 subst hh' ho hn'
 repeat' (first|(refine JH ?_ ?_)|intro _)
 all_goals first|omega|rfl|trivial|(exfalso;omega)|(rename_i h;simp at h;done)|(rename_i h;simp at h;omega)|(rename_i h _;simp at h;omega)
theorem ZkM (xs:LI) (o n:Nat) (hn:o+n=xs.length) (h2:n<32):
  evF G0 20 84 [.ptr (some ⟨0,0,0,0,0⟩)] ⟨2,[(0,.flat [.nslice ⟨1,0,0,0,o⟩ 1 n n,.bool true,.bool false]),(1,.ints .u8 xs)]⟩ (Yd 2 (.ret (.tuple [.agg [.arr .u8 32 Ze],.int .i64 140])) 2 [(0,.flat [.nslice ⟨1,0,0,0,o⟩ 1 n n,.bool true,.bool true]),(1,.ints .u8 xs)]):=by
 refine @Eq.mpr _ (let a:=decide (n<=n);let c:=decide ((0:Int)<=32/\32<=(↑n:Int));let b:=ZD.tot (ZD.mk 1 0 0 0 (o+0));
 Z6 (!decide (32<=(↑n:Int))) (Ze=Ze/\Z5 (o=o) (Z5 (n=n) (Z4 a (xs=xs/\True)))) (Z4 a (Z4 c (Z4 a (Z4 c (Z5 (u8=u8/\b+32<=xs.length) (spl Ze 0 (List.take 32 (List.take 32 (Yi b xs)))=Ze/\False))))))) (by kernel_rfl) ?_
 conv=>zeta
 try simp only [vcA]
 try simp only [vcB]
 try simp only [vcC]
 refine ⟨fun _=>trivial,fun h=> ?_⟩
 simp at h
 omega
def Zew (F:LI->Int×Int):ZS:=fun args h K=>match args with
 | [.ptr (some ⟨r,0,0,0,0⟩),.int .i64 _]=>match h.get r with
  |some (.flat [.nslice ⟨b,0,0,0,_⟩ 1 _ _,.bool true,.bool false])=>frA [r,b] h 20 args fun Bs a=>match Bs,a with
   | [.flat [.nslice ⟨1,0,0,0,o⟩ 1 n n2,.bool true,.bool false],.ints .u8 xs],[.ptr (some ⟨0,0,0,0,0⟩),.int .i64 most]=>
    Z5 (n=xs.length-o/\o<=xs.length/\n2=xs.length-o/\0<=most) ((∀v o',rdN F xs o most=some (v,o')->(o<=o'/\o'<=xs.length/\v<=most)->
     K (.ret (.tuple [.int .i64 v,.int .i64 0])) ⟨h.next,(r,.flat [.nslice ⟨b,0,0,0,o'⟩ 1 (xs.length-o') (xs.length-o'),.bool true,.bool false])::(b,.ints .u8 xs)::Zy (Zy h.bs r) b⟩)/\
     (rdN F xs o most=none->K (.ret (.tuple [.int .i64 0,.int .i64 140])) ⟨h.next,(r,.flat [.nslice ⟨b,0,0,0,o⟩ 1 (xs.length-o) (xs.length-o),.bool true,.bool true])::(b,.ints .u8 xs)::Zy (Zy h.bs r) b⟩))
   | _,_=>False
  | _=>False
 | _=>False
theorem Zex (args:List AV) (h:Z7) (K:KO) (hl:Zew (ZB ZC) args h K):Zi PP 83 args h K:=by
 unfold Zew at hl
 split at hl
 ·split at hl
  ·refine Spec.fsumm hl fun Bs a hlen hK0=> ?_
   split at hK0
   ·rename_i o n n2 xs most
    obtain ⟨⟨rfl,h1,rfl,h3⟩,hK,hK'⟩:=Zg hK0
    have hle:=Z5A ZC (xs.drop o)
    rw [Ja] at hle
    by_cases hc:0<(ZB ZC (xs.drop o)).2/\(ZB ZC (xs.drop o)).1<=most
    ·have f1:o<=o+(ZB ZC (xs.drop o)).2.toNat/\o+(ZB ZC (xs.drop o)).2.toNat<=xs.length/\(ZB ZC (xs.drop o)).1<=most:=⟨by omega,by omega,hc.2⟩
     exact ⟨_,_,_,_,_,.evM Zet (ZkJ _ xs o (xs.length-o) (o+(ZB ZC (xs.drop o)).2.toNat) (xs.length-(o+(ZB ZC (xs.drop o)).2.toNat)) most _ (by omega) h3 ⟨hc.1,by omega⟩ hc.2 rfl rfl (by omega)),by simp,.ret _ _ rfl,.cons _ _ _ _ _ _ rfl (.flat _ _ rfl) (.cons _ _ _ _ _ _ rfl (.ints _ _) .nil),hK _ _ (by unfold rdN;rw [if_pos hc]) f1⟩
    ·exact ⟨_,_,_,_,_,.evM Zet (ZkK _ xs o _ most (by omega) h3 (fun h=>by omega)),by simp,.ret _ _ rfl,.cons _ _ _ _ _ _ rfl (.flat _ _ rfl) (.cons _ _ _ _ _ _ rfl (.ints _ _) .nil),hK' (by unfold rdN;rw [if_neg hc])⟩
   simp_all
  simp_all
 simp_all
def Z9k:ZS:=fun args h K=>match args with
 | [.ptr (some ⟨r,0,0,0,0⟩)]=>match h.get r with
  |some (.flat [.nslice ⟨b,0,0,0,_⟩ 1 _ _,.bool true,.bool false])=>frA [r,b] h 20 args fun Bs a=>match Bs,a with
   | [.flat [.nslice ⟨1,0,0,0,o⟩ 1 n n2,.bool true,.bool false],.ints .u8 xs],[.ptr (some ⟨0,0,0,0,0⟩)]=>
    Z5 (n=xs.length-o/\o<=xs.length/\n2=xs.length-o) ((∀hh o',rdH xs o=some (hh,o')->(o<=o'/\o'<=xs.length/\hh.length=32)->
     K (.ret (.tuple [.agg [.arr .u8 32 hh],.int .i64 0])) ⟨h.next,(r,.flat [.nslice ⟨b,0,0,0,o'⟩ 1 (xs.length-o') (xs.length-o'),.bool true,.bool false])::(b,.ints .u8 xs)::Zy (Zy h.bs r) b⟩)/\
     (rdH xs o=none->K (.ret (.tuple [.agg [.arr .u8 32 Ze],.int .i64 140])) ⟨h.next,(r,.flat [.nslice ⟨b,0,0,0,o⟩ 1 (xs.length-o) (xs.length-o),.bool true,.bool true])::(b,.ints .u8 xs)::Zy (Zy h.bs r) b⟩))
   | _,_=>False
  | _=>False
 | _=>False
theorem ZbS (args:List AV) (h:Z7) (K:KO) (hl:Z9k args h K):Zi PP 84 args h K:=by
 unfold Z9k at hl
 split at hl
 ·split at hl
  ·refine Spec.fsumm hl fun Bs a hlen hK0=> ?_
   split at hK0
   ·rename_i o n n2 xs
    obtain ⟨⟨rfl,h1,rfl⟩,hK,hK'⟩:=Zg hK0
    by_cases hc:o+32<=xs.length
    ·have f1:o<=o+32/\o+32<=xs.length/\((xs.drop o).take 32).length=32:=⟨by omega,hc,by rw [Jd,Ja];omega⟩
     exact ⟨_,_,_,_,_,.evM Zt (ZkL xs _ o (xs.length-o) (o+32) (xs.length-(o+32)) (by omega) (by omega) rfl rfl (by omega)),by simp,.ret _ _ rfl,.cons _ _ _ _ _ _ rfl (.flat _ _ rfl) (.cons _ _ _ _ _ _ rfl (.ints _ _) .nil),hK _ _ (by unfold rdH;rw [if_pos hc]) f1⟩
    ·exact ⟨_,_,_,_,_,.evM Zt (ZkM xs o _ (by omega) (by omega)),by simp,.ret _ _ rfl,.cons _ _ _ _ _ _ rfl (.flat _ _ rfl) (.cons _ _ _ _ _ _ rfl (.ints _ _) .nil),hK' (by unfold rdH;rw [if_neg hc])⟩
   simp_all
  simp_all
 simp_all
noncomputable def Z2o (F:LI->Int×Int):Zf:=(((((((G0.withF 83 (Zew F)).withF 84 Z9k).withF 46 Zeu).withF 17 (Zis Zh)).withF 23 (Ziw Zh)).withF 25 (ZdG Zh)).withF 10 Zes).withF 82 Z2z
theorem Zat:(Z2o (ZB ZC)).Ok:=Zf.withF_ok (Zf.withF_ok (Zf.withF_ok (Zf.withF_ok (Zf.withF_ok (Zf.withF_ok (Zf.withF_ok (Zf.withF_ok Zt Zex) ZbS) Zev) (Zag Zh)) Zak) Z7A) Z6s) Z0f
noncomputable def YF (l:LI):H32:=open Classical in if h:l.length=32/\∀x∈l,0<=x/\x<=255 then ⟨l,h.1,h.2⟩ else h0
theorem Zey {l:LI} (h:l.length=32) (hb:∀x∈l,0<=x/\x<=255):(YF l).v=l:=by
 unfold YF
 rw [dif_pos ⟨h,hb⟩]
noncomputable def stT (F:LI->Int×Int) (xs:LI) (a:Zb×Nat):Option (Zb×Nat):=
 (rdH xs a.2).bind fun h=>(rdN F xs h.2 2147483647).bind fun i=>(rdH xs i.2).bind fun o=>(rdN F xs o.2 2147483647).bind fun j=>
 if XD a.1.T ⟨YF h.1,i.1,YF o.1,j.1⟩=0 then some (⟨Wn a.1.T ⟨YF h.1,i.1,YF o.1,j.1⟩,a.1.S,a.1.Q⟩,j.2) else none
noncomputable def stS (xs:LI) (a:Zb×Nat):Option (Zb×Nat):=
 (rdH xs a.2).bind fun h=>if Z47 Zh a.1.S (YF h.1)=0 then some (⟨a.1.T,Vz Zh a.1.S (YF h.1),a.1.Q⟩,h.2) else none
noncomputable def stQ (F:LI->Int×Int) (xs:LI) (a:Zb×Nat):Option (Zb×Nat):=
 (rdH xs a.2).bind fun h=>(rdH xs h.2).bind fun k=>(rdN F xs k.2 1125899906842624).bind fun m=>(rdN F xs m.2 1000).bind fun l=>(rdH xs l.2).bind fun z=>
 if Wo Zh a.1.Q ⟨YF h.1,YF k.1,m.1,l.1,YF z.1⟩=0 then some (⟨a.1.T,a.1.S,VA Zh a.1.Q ⟨YF h.1,YF k.1,m.1,l.1,YF z.1⟩⟩,z.2) else none
def pvK:AV:=.iface 46 (.int .i64 361)
def lkD:List X4:=[.call 41 [pt 0,pt 1]]
def lkB (xs:LI) (a:Zb×Nat):List (Nat×Blk):=(3,.flat [.nslice ⟨2,0,0,0,a.2⟩ 1 (xs.length-a.2) (xs.length-a.2),.bool true,.bool false])::(2,.ints .u8 xs)::(9,.flat [.map (some 5),.map (some 6),.map (some 7),.map (some 8)])::(8,.fmap a.1.Q.length (qkV a.1.Q) (quV a.1.Q))::(7,.fmap a.1.S.length (skV Zh a.1.S) (seV a.1.S))::(6,.fmap a.1.T.length (tkI a.1.T) (tiV a.1.T))::(5,.fmap a.1.T.length (tkO a.1.T) (tiV a.1.T))::(4,.flat [pt 3])::(1,.flat [.int .i64 0])::[(0,.flat [pt 9])]
def lkT (xs:LI):ZO:=[(4,pt 4),(3,pt 1),(2,pt 0),(0,.vints .u8 xs xs.length)]
def lkS (r c:Nat) (xs:LI) (v:Int) (a:Zb×Nat) (i:Nat):St:=⟨73,(r,.int .i64 i)::(c,.int .i64 v)::lkT xs,⟨10,lkB xs a⟩,lkD⟩
def lkE (xs:LI) (a:Zb×Nat):St:=⟨73,lkT xs,⟨10,lkB xs a⟩,lkD⟩
def lkP:St:=⟨73,[(2,pt 0),(3,pt 1)],⟨2,[(0,.flat [.top]),(1,.flat [.top])]⟩,lkD⟩
def lkN:St:=⟨73,[],⟨0,[]⟩,[]⟩
structure Byt (xs:LI):Prop where
 b:∀x∈xs,0<=x/\x<=255
theorem Z5B {h:LI} {o p:Nat} (hB:Byt xs) (he:rdH xs o=some (h,p)):(YF h).v=h:=by
 unfold rdH at he
 split at he
 ·simp only [JC,Prod.mk.injEq] at he
  obtain ⟨rfl,rfl⟩:=he
  refine Zey (by rw [Jd,Ja];omega) fun x hx=>hB.b x (List.mem_of_mem_drop (List.mem_of_mem_take hx))
 ·cases he
theorem Zmp (F:LI->Int×Int) (xs:LI) (a b:Zb×Nat) (v:Int) (i:Nat) (go ex pa:Prop) (hX:a.1.Lim) (hB:Byt xs) (ho:a.2<=xs.length) (hv':v<=48) (hg:(i:Int)<v->stT F xs a=some b->go) (hx:¬(i:Int)<v->ex) (hp:(i:Int)<v->stT F xs a=none->pa) (hb:(i:Int)<v->∀c,stT F xs a=some c->b=c):
  ZF (Z2o F) 40 9 0 0 (lkS 13 12 xs v a i) (rdP 0 0 9 pvK (lkS 13 12 xs v b (i+1)) (lkE xs a) lkN lkN lkP go ex False False pa):=by
 refine @Eq.mpr _ (let c:=xs.length;let f:=c-a.snd;let J:=rdH xs a.snd;let m:=a.fst.T;let d:=m.length;let l:=true=true/\true=true;let p:=a.fst.S;let h:=p.length;let o:=a.fst.Q;let j:=o.length;let D:=tkO m;let g:=tiV m;let C:=tkI m;let B:=skV Zh p;let A:=seV p;let z:=qkV o;let y:=quV o;let P:=decide (c=c);let O:=c-b.snd;let w:=b.fst.Q;let N:=w.length;let e:=[(8,8),(7,7),(6,6),(5,5),(2,2),(9,9),(3,3),(0,0),(1,1),(4,4)];let u:=b.fst.S;let M:=u.length;let n:=b.fst.T;let t:=n.length;let L:=tiV n;let K:=decide (d=d);
 Z6 (decide (↑i<v)) (Z5 (f=f/\a.snd<=c/\f=f) ((∀(hh:LI) (o':Nat),
 let I:=rdN F xs o' 2147483647;
 J=some (hh,o')->
 a.snd<=o'/\o'<=c/\hh.length=32->
 Z5 (c-o'=c-o'/\o'<=c/\c-o'=c-o'/\(0:Int)<=2147483647) ((∀(v_1:Int) (o'_1:Nat),
 I=some (v_1,o'_1)->
 o'<=o'_1/\o'_1<=c/\v_1<=2147483647->
 Z5 (c-o'_1=c-o'_1/\o'_1<=c/\c-o'_1=c-o'_1) ((∀(hh_1:LI) (o':Nat),
 let H:=rdN F xs o' 2147483647;
 rdH xs o'_1=some (hh_1,o')->
 o'_1<=o'/\o'<=c/\hh_1.length=32->
 Z5 (c-o'=c-o'/\o'<=c/\c-o'=c-o'/\(0:Int)<=2147483647) ((∀(v_2:Int) (o'_2:Nat),
 H=some (v_2,o'_2)->
 o'<=o'_2/\o'_2<=c/\v_2<=2147483647->
 (∀(i:Nat),i<d->l)/\
 (∀(i:Nat),i<d->l)/\
 (∀(i:Nat),i<h->l)/\
 (∀(i:Nat),i<j->l)/\
 ∃(X:Zb),
 YN Zh X [AV.map (some 1),AV.map (some 2),AV.map (some 3),AV.map (some 4)] d D g d C g h B A j z y/\
 ∃(x:Zk),
 let s:=Zb.mk (Wn X.T x) X.S X.Q;let r:=s.Q;let q:=s.S;let k:=s.T;let G:=decide (k.length=t);let E:=tiV k;
 Z7y [AV.arr u8 32 hh,AV.int i64 v_1,AV.arr u8 32 hh_1,AV.int i64 v_2] x/\Z6 (!XD X.T x==0) pa (Z5 (wrap i64 (↑i+1)=↑(i+1)) (Z5 (v=v) (xs=xs/\Z4 P (Z5 (o'_2=b.snd) (Z5 (c-o'_2=O) (Z5 (O<=c-o'_2) (xs=xs/\Z5 (r.length=N) (Z8 0 e N (qkV w) (quV w) (qkV r) (quV r)/\Z5 (q.length=M) (Z8 0 e M (skV Zh u) (seV u) (skV Zh q) (seV q)/\Z4 G (Z8 0 e t (tkI n) L (tkI k) E/\Z4 G (Z8 0 e t (tkO n) L (tkO k) E/\go))))))))))))/\
 (H=none->pa)))/\
 (rdH xs o'_1=none->pa)))/\
 (I=none->pa)))/\
 (J=none->pa))) (xs=xs/\Z4 P (Z5 (a.snd=a.snd) (Z5 (f=f) (Z5 (f<=f) (xs=xs/\Z5 (j=j) (Z8 0 e j z y z y/\Z5 (h=h) (Z8 0 e h B A B A/\Z4 K (Z8 0 e d C g C g/\Z4 K (Z8 0 e d D g D g/\ex)))))))))) (by kernel_rfl) ?_
 conv=>zeta
 try simp only [vcA]
 try simp only [vcB]
 try simp only [vcC]
 have tr:∀{n:Nat} (i:Nat),i<n->True:=fun _ _=>trivial
 refine ⟨fun hlt=>⟨ho,fun hh o1 e1 l1=>⟨⟨l1.2.1,by decide⟩,fun v1 o2 e2 l2=>⟨l2.2.1,fun hh2 o3 e3 l3=>⟨⟨l3.2.1,by decide⟩,fun v2 o4 e4 l4=> ?_,fun e4=>hp hlt ?_⟩,fun e3=>hp hlt ?_⟩,fun e2=>hp hlt ?_⟩,fun e1=>hp hlt ?_⟩,fun hge=> ?_⟩
 ·have q1:=Z5B hB e1
  have q2:=Z5B hB e3
  have es:stT F xs a=if XD a.1.T ⟨YF hh,v1,YF hh2,v2⟩=0 then some (⟨Wn a.1.T ⟨YF hh,v1,YF hh2,v2⟩,a.1.S,a.1.Q⟩,o4) else none:=by simp only [stT,e1,e2,e3,e4,Jg]
  refine ⟨tr,tr,tr,tr,a.1,Wf Zh hX,⟨YF hh,v1,YF hh2,v2⟩,⟨by simp only [Zk.c,q1,q2]⟩,fun k=>hp hlt ?_,fun k=> ?_⟩
  ·rw [es,if_neg (by simpa using k)]
  ·rw [if_pos (by simpa using k)] at es
   have hc:=hb hlt _ es
   have hgo:=hg hlt (by rw [es,hc])
   subst hc
   obtain ⟨m1,m2,m3,m4⟩:=Xr Zh ⟨Wn a.1.T ⟨YF hh,v1,YF hh2,v2⟩,a.1.S,a.1.Q⟩ 0 [(8,8),(7,7),(6,6),(5,5),(2,2),(9,9),(3,3),(0,0),(1,1),(4,4)]
   exact ⟨by rw [w64 (by omega)];omega,rfl,rfl,J2 _,rfl,m4,rfl,m3,rfl,m2,rfl,m1,hgo⟩
 ·simp only [stT,e1,e2,e3,e4,Jg,JS]
 ·simp only [stT,e1,e2,e3,Jg,JS]
 ·simp only [stT,e1,e2,Jg,JS]
 ·simp only [stT,e1,JS]
 ·obtain ⟨m1,m2,m3,m4⟩:=Xr Zh a.1 0 [(8,8),(7,7),(6,6),(5,5),(2,2),(9,9),(3,3),(0,0),(1,1),(4,4)]
  exact ⟨m4,m3,m2,m1,hx hge⟩
theorem Zmq (F:LI->Int×Int) (xs:LI) (a b:Zb×Nat) (v:Int) (i:Nat) (go ex pa:Prop) (hX:a.1.Lim) (hB:Byt xs) (ho:a.2<=xs.length) (hv':v<=64) (hg:(i:Int)<v->stS xs a=some b->go) (hx:¬(i:Int)<v->ex) (hp:(i:Int)<v->stS xs a=none->pa) (hb:(i:Int)<v->∀c,stS xs a=some c->b=c):
  ZF (Z2o F) 40 9 2 0 (lkS 31 30 xs v a i) (rdP 0 2 9 pvK (lkS 31 30 xs v b (i+1)) (lkE xs a) lkN lkN lkP go ex False False pa):=by
 refine @Eq.mpr _ (let f:=xs.length;let e:=f-a.snd;let G:=rdH xs a.snd;let m:=a.fst.T;let c:=m.length;let l:=true=true/\true=true;let p:=a.fst.S;let h:=p.length;let o:=a.fst.Q;let j:=o.length;let D:=tkO m;let g:=tiV m;let C:=tkI m;let B:=skV Zh p;let A:=seV p;let z:=qkV o;let y:=quV o;let M:=decide (f=f);let L:=f-b.snd;let w:=b.fst.Q;let K:=w.length;let d:=[(8,8),(7,7),(6,6),(5,5),(2,2),(9,9),(3,3),(0,0),(1,1),(4,4)];let u:=b.fst.S;let J:=u.length;let n:=b.fst.T;let t:=n.length;let I:=tiV n;let H:=decide (c=c);
 Z6 (decide (↑i<v)) (Z5 (e=e/\a.snd<=f/\e=e) ((∀(hh:LI) (o':Nat),
 G=some (hh,o')->
 a.snd<=o'/\o'<=f/\hh.length=32->
 (∀(i:Nat),i<c->l)/\
 (∀(i:Nat),i<c->l)/\
 (∀(i:Nat),i<h->l)/\
 (∀(i:Nat),i<j->l)/\
 ∃(X:Zb),
 YN Zh X [AV.map (some 1),AV.map (some 2),AV.map (some 3),AV.map (some 4)] c D g c C g h B A j z y/\
 ∃(x:H32),
 let s:=Zb.mk X.T (Vz Zh X.S x) X.Q;let r:=s.Q;let q:=s.S;let k:=s.T;let F:=decide (k.length=t);let E:=tiV k;
 hh=x.v/\Z6 (!Z47 Zh X.S x==0) pa (Z5 (wrap i64 (↑i+1)=↑(i+1)) (Z5 (v=v) (xs=xs/\Z4 M (Z5 (o'=b.snd) (Z5 (f-o'=L) (Z5 (L<=f-o') (xs=xs/\Z5 (r.length=K) (Z8 0 d K (qkV w) (quV w) (qkV r) (quV r)/\Z5 (q.length=J) (Z8 0 d J (skV Zh u) (seV u) (skV Zh q) (seV q)/\Z4 F (Z8 0 d t (tkI n) I (tkI k) E/\Z4 F (Z8 0 d t (tkO n) I (tkO k) E/\go))))))))))))/\
 (G=none->pa))) (xs=xs/\Z4 M (Z5 (a.snd=a.snd) (Z5 (e=e) (Z5 (e<=e) (xs=xs/\Z5 (j=j) (Z8 0 d j z y z y/\Z5 (h=h) (Z8 0 d h B A B A/\Z4 H (Z8 0 d c C g C g/\Z4 H (Z8 0 d c D g D g/\ex)))))))))) (by kernel_rfl) ?_
 conv=>zeta
 try simp only [vcA]
 try simp only [vcB]
 try simp only [vcC]
 have tr:∀{n:Nat} (i:Nat),i<n->True:=fun _ _=>trivial
 refine ⟨fun hlt=>⟨ho,fun hh o1 e1 l1=> ?_,fun e1=>hp hlt ?_⟩,fun hge=> ?_⟩
 ·have q1:=Z5B hB e1
  have es:stS xs a=if Z47 Zh a.1.S (YF hh)=0 then some (⟨a.1.T,Vz Zh a.1.S (YF hh),a.1.Q⟩,o1) else none:=by simp only [stS,e1,Jg]
  refine ⟨tr,tr,tr,tr,a.1,Wf Zh hX,YF hh,q1.symm,fun k=>hp hlt ?_,fun k=> ?_⟩
  ·rw [es,if_neg (by simpa using k)]
  ·rw [if_pos (by simpa using k)] at es
   have hc:=hb hlt _ es
   have hgo:=hg hlt (by rw [es,hc])
   subst hc
   obtain ⟨m1,m2,m3,m4⟩:=Xr Zh ⟨a.1.T,Vz Zh a.1.S (YF hh),a.1.Q⟩ 0 [(8,8),(7,7),(6,6),(5,5),(2,2),(9,9),(3,3),(0,0),(1,1),(4,4)]
   exact ⟨by rw [w64 (by omega)];omega,rfl,rfl,J2 _,rfl,m4,rfl,m3,rfl,m2,rfl,m1,hgo⟩
 ·simp only [stS,e1,JS]
 ·obtain ⟨m1,m2,m3,m4⟩:=Xr Zh a.1 0 [(8,8),(7,7),(6,6),(5,5),(2,2),(9,9),(3,3),(0,0),(1,1),(4,4)]
  exact ⟨m4,m3,m2,m1,hx hge⟩
theorem Zmr (F:LI->Int×Int) (xs:LI) (a b:Zb×Nat) (v:Int) (i:Nat) (go ex pa:Prop) (hX:a.1.Lim) (hB:Byt xs) (ho:a.2<=xs.length) (hv':v<=16) (hg:(i:Int)<v->stQ F xs a=some b->go) (hx:¬(i:Int)<v->ex) (hp:(i:Int)<v->stQ F xs a=none->pa) (hb:(i:Int)<v->∀c,stQ F xs a=some c->b=c):
  ZF (Z2o F) 40 9 4 0 (lkS 42 41 xs v a i) (rdP 0 4 9 pvK (lkS 42 41 xs v b (i+1)) (lkE xs a) lkN lkN lkP go ex False False pa):=by
 refine @Eq.mpr _ (let c:=xs.length;let f:=c-a.snd;let J:=rdH xs a.snd;let m:=a.fst.T;let d:=m.length;let l:=true=true/\true=true;let p:=a.fst.S;let h:=p.length;let o:=a.fst.Q;let j:=o.length;let D:=tkO m;let g:=tiV m;let C:=tkI m;let B:=skV Zh p;let A:=seV p;let z:=qkV o;let y:=quV o;let P:=decide (c=c);let O:=c-b.snd;let x:=b.fst.Q;let N:=x.length;let e:=[(8,8),(7,7),(6,6),(5,5),(2,2),(9,9),(3,3),(0,0),(1,1),(4,4)];let w:=b.fst.S;let M:=w.length;let n:=b.fst.T;let u:=n.length;let L:=tiV n;let K:=decide (d=d);
 Z6 (decide (↑i<v)) (Z5 (f=f/\a.snd<=c/\f=f) ((∀(hh:LI) (o':Nat),
 J=some (hh,o')->
 a.snd<=o'/\o'<=c/\hh.length=32->
 Z5 (c-o'=c-o'/\o'<=c/\c-o'=c-o') ((∀(hh_1:LI) (o'_1:Nat),
 let I:=rdN F xs o'_1 1125899906842624;
 rdH xs o'=some (hh_1,o'_1)->
 o'<=o'_1/\o'_1<=c/\hh_1.length=32->
 Z5 (c-o'_1=c-o'_1/\o'_1<=c/\c-o'_1=c-o'_1/\(0:Int)<=1125899906842624) ((∀(v_1:Int) (o':Nat),
 let H:=rdN F xs o' 1000;
 I=some (v_1,o')->
 o'_1<=o'/\o'<=c/\v_1<=1125899906842624->
 Z5 (c-o'=c-o'/\o'<=c/\c-o'=c-o'/\(0:Int)<=1000) ((∀(v_2:Int) (o'_2:Nat),
 H=some (v_2,o'_2)->
 o'<=o'_2/\o'_2<=c/\v_2<=1000->
 Z5 (c-o'_2=c-o'_2/\o'_2<=c/\c-o'_2=c-o'_2) ((∀(hh_2:LI) (o':Nat),
 rdH xs o'_2=some (hh_2,o')->
 o'_2<=o'/\o'<=c/\hh_2.length=32->
 hh=hh/\
 hh_1=hh_1/\
 Z5 (v_1=v_1) (Z5 (v_2=v_2) ((∀(i:Nat),i<d->l)/\
 (∀(i:Nat),i<d->l)/\
 (∀(i:Nat),i<h->l)/\
 (∀(i:Nat),i<j->l)/\
 ∃(X:Zb),
 YN Zh X [AV.map (some 1),AV.map (some 2),AV.map (some 3),AV.map (some 4)] d D g d C g h B A j z y/\
 ∃(q:Zs),
 let t:=Zb.mk X.T X.S (VA Zh X.Q q);let s:=t.Q;let r:=t.S;let k:=t.T;let G:=decide (k.length=u);let E:=tiV k;
 ([AV.arr u8 32 hh,AV.arr u8 32 hh_1,AV.int i64 v_1,AV.int i64 v_2]=Zs.ic q/\hh_2=q.secret.v)/\Z6 (!Wo Zh X.Q q==0) pa (Z5 (wrap i64 (↑i+1)=↑(i+1)) (Z5 (v=v) (xs=xs/\Z4 P (Z5 (o'=b.snd) (Z5 (c-o'=O) (Z5 (O<=c-o') (xs=xs/\Z5 (s.length=N) (Z8 0 e N (qkV x) (quV x) (qkV s) (quV s)/\Z5 (r.length=M) (Z8 0 e M (skV Zh w) (seV w) (skV Zh r) (seV r)/\Z4 G (Z8 0 e u (tkI n) L (tkI k) E/\Z4 G (Z8 0 e u (tkO n) L (tkO k) E/\go))))))))))))))/\
 (rdH xs o'_2=none->pa)))/\
 (H=none->pa)))/\
 (I=none->pa)))/\
 (rdH xs o'=none->pa)))/\
 (J=none->pa))) (xs=xs/\Z4 P (Z5 (a.snd=a.snd) (Z5 (f=f) (Z5 (f<=f) (xs=xs/\Z5 (j=j) (Z8 0 e j z y z y/\Z5 (h=h) (Z8 0 e h B A B A/\Z4 K (Z8 0 e d C g C g/\Z4 K (Z8 0 e d D g D g/\ex)))))))))) (by kernel_rfl) ?_
 conv=>zeta
 try simp only [vcA]
 try simp only [vcB]
 try simp only [vcC]
 have tr:∀{n:Nat} (i:Nat),i<n->True:=fun _ _=>trivial
 refine ⟨fun hlt=>⟨ho,fun hh o1 e1 l1=>⟨l1.2.1,fun hk o2 e2 l2=>⟨⟨l2.2.1,by decide⟩,fun v1 o3 e3 l3=>⟨⟨l3.2.1,by decide⟩,fun v2 o4 e4 l4=>⟨l4.2.1,fun hz o5 e5 l5=> ?_,fun e5=>hp hlt ?_⟩,fun e4=>hp hlt ?_⟩,fun e3=>hp hlt ?_⟩,fun e2=>hp hlt ?_⟩,fun e1=>hp hlt ?_⟩,fun hge=> ?_⟩
 ·have q1:=Z5B hB e1
  have q2:=Z5B hB e2
  have q3:=Z5B hB e5
  have es:stQ F xs a=if Wo Zh a.1.Q ⟨YF hh,YF hk,v1,v2,YF hz⟩=0 then some (⟨a.1.T,a.1.S,VA Zh a.1.Q ⟨YF hh,YF hk,v1,v2,YF hz⟩⟩,o5) else none:=by simp only [stQ,e1,e2,e3,e4,e5,Jg]
  refine ⟨tr,tr,tr,tr,a.1,Wf Zh hX,⟨YF hh,YF hk,v1,v2,YF hz⟩,⟨by simp only [Zs.ic,q1,q2],q3.symm⟩,fun k=>hp hlt ?_,fun k=> ?_⟩
  ·rw [es,if_neg (by simpa using k)]
  ·rw [if_pos (by simpa using k)] at es
   have hc:=hb hlt _ es
   have hgo:=hg hlt (by rw [es,hc])
   subst hc
   obtain ⟨m1,m2,m3,m4⟩:=Xr Zh ⟨a.1.T,a.1.S,VA Zh a.1.Q ⟨YF hh,YF hk,v1,v2,YF hz⟩⟩ 0 [(8,8),(7,7),(6,6),(5,5),(2,2),(9,9),(3,3),(0,0),(1,1),(4,4)]
   exact ⟨by rw [w64 (by omega)];omega,rfl,rfl,J2 _,rfl,m4,rfl,m3,rfl,m2,rfl,m1,hgo⟩
 ·simp only [stQ,e1,e2,e3,e4,e5,Jg,JS]
 ·simp only [stQ,e1,e2,e3,e4,Jg,JS]
 ·simp only [stQ,e1,e2,e3,Jg,JS]
 ·simp only [stQ,e1,e2,Jg,JS]
 ·simp only [stQ,e1,JS]
 ·obtain ⟨m1,m2,m3,m4⟩:=Xr Zh a.1 0 [(8,8),(7,7),(6,6),(5,5),(2,2),(9,9),(3,3),(0,0),(1,1),(4,4)]
  exact ⟨m4,m3,m2,m1,hx hge⟩
def itO {σ:Type} (st:σ->Option σ) (a:σ):Nat->Option σ
 | 0=>some a
 | n+1=>(itO st a n).bind st
def itG {σ:Type} (st:σ->Option σ) (a:σ):Nat->σ
 | 0=>a
 | n+1=>(st (itG st a n)).getD (itG st a n)
theorem Vn {σ:Type} {st:σ->Option σ} {P:σ->Prop} (hP:∀a b,P a->st a=some b->P b) {a:σ} (h:P a):∀n,P (itG st a n)
 | 0=>h
 | n+1=>by
  have ih:=Vn hP h n
  unfold itG
  cases hs:st (itG st a n) with
  | none=>exact ih
  | some b=>exact hP _ _ ih hs
theorem Q8 {σ:Type} {st:σ->Option σ} {a:σ}:∀{n:Nat},(∀j,j<n->(st (itG st a j)).isSome=true)->itO st a n=some (itG st a n)
 | 0,_=>rfl
 | n+1,h=>by
  have hn:=h n (K9 _)
  unfold itO itG
  rw [Q8 fun j hj=>h j (by omega),Jg]
  cases hs:st (itG st a n) with
  | none=>rw [hs] at hn;cases hn
  | some b=>rfl
theorem Z7O {σ:Type} {st:σ->Option σ} {a:σ} {n:Nat} (h:itO st a n=none):∀{m:Nat},n<=m->itO st a m=none
 | 0,hm=>by
  have e:n=0:=by omega
  subst e
  exact h
 | m+1,hm=>by
  by_cases e:n=m+1
  ·subst e;exact h
  ·unfold itO
   rw [Z7O h (show n<=m by omega)]
   rfl
theorem Z1J {σ:Type} {st:σ->Option σ} {a:σ} {n m:Nat} (h:∀j,j<n->(st (itG st a j)).isSome=true) (hn:st (itG st a n)=none) (hm:n<m):itO st a m=none:=by
 refine Z7O (n:=n+1) ?_ hm
 unfold itO
 rw [Q8 h,Jg,hn]
def LkI (xs:LI) (a:Zb×Nat):Prop:=a.1.Inv Zh/\a.2<=xs.length
theorem Z1K {h:LI} {o p:Nat} (he:rdH xs o=some (h,p)):p<=xs.length:=by
 unfold rdH at he
 split at he
 ·simp only [JC,Prod.mk.injEq] at he
  omega
 ·cases he
theorem Q9 {o p:Nat} {v:Int} (ho:o<=xs.length) (h:rdN (ZB ZC) xs o most=some (v,p)):p<=xs.length/\v<=most:=by
 unfold rdN at h
 split at h
 ·rename_i hc
  simp only [JC,Prod.mk.injEq] at h
  have hle:=Z5A ZC (xs.drop o)
  rw [Ja] at hle
  omega
 ·cases h
theorem Z2H (a b:Zb×Nat) (h:LkI xs a) (hs:stT (ZB ZC) xs a=some b):LkI xs b:=by
 unfold stT at hs
 simp only [Jk] at hs
 obtain ⟨h1,e1,h2,e2,h3,e3,h4,e4,hs⟩:=hs
 split at hs
 ·simp only [JC] at hs
  subst hs
  exact ⟨h.1.tie _,(Q9 (Z1K e3) e4).1⟩
 ·cases hs
theorem Z2I (a b:Zb×Nat) (h:LkI xs a) (hs:stS xs a=some b):LkI xs b:=by
 unfold stS at hs
 simp only [Jk] at hs
 obtain ⟨h1,e1,hs⟩:=hs
 split at hs
 ·simp only [JC] at hs
  subst hs
  exact ⟨h.1.lrn _,Z1K e1⟩
 ·cases hs
theorem Z2J (a b:Zb×Nat) (h:LkI xs a) (hs:stQ (ZB ZC) xs a=some b):LkI xs b:=by
 unfold stQ at hs
 simp only [Jk] at hs
 obtain ⟨h1,e1,h2,e2,h3,e3,h4,e4,h5,e5,hs⟩:=hs
 split at hs
 ·simp only [JC] at hs
  subst hs
  exact ⟨h.1.ask _,Z1K e5⟩
 ·cases hs
structure LkC (xs:LI) (a:Zb×Nat) (v mx:Int):Prop where
 i:LkI xs a
 b:Byt xs
 v:v<=mx
def lkL (id r c:Nat) (st:LI->Zb×Nat->Option (Zb×Nat)) (mx:Int):Nat->St->KE->Prop:=fun k s X=>∃p:LI×(Zb×Nat)×Int,goM 0 (lkS r c p.1 p.2.2 p.2.1 0) (LkC p.1 p.2.1 p.2.2 mx) (Zhi id p.2.2.toNat 9 pvK (fun i=>(st p.1 (itG (st p.1) p.2.1 i)).isSome=true) (fun i=>¬(i:Int)<p.2.2) (fun _=>False) (fun _=>False) (fun i=>(i:Int)<p.2.2/\st p.1 (itG (st p.1) p.2.1 i)=none) (fun i=>lkE p.1 (itG (st p.1) p.2.1 i)) (fun _=>lkN) (fun _=>lkN) (fun _=>lkP)) k s X
theorem Z9l {id r c:Nat} {st:LI->Zb×Nat->Option (Zb×Nat)} {mx:Int} (h1:Xy PP 9 id=true) (hi:∀xs a b,LkI xs a->st xs a=some b->LkI xs b)
  (hr:∀(xs:LI) (a b:Zb×Nat) (v:Int) (i:Nat) (go ex pa:Prop),a.1.Lim->Byt xs->a.2<=xs.length->v<=mx->((i:Int)<v->st xs a=some b->go)->(¬(i:Int)<v->ex)->((i:Int)<v->st xs a=none->pa)->((i:Int)<v->∀c,st xs a=some c->b=c)->ZF (Z2o (ZB ZC)) 40 9 id 0 (lkS r c xs v a i) (rdP 0 id 9 pvK (lkS r c xs v b (i+1)) (lkE xs a) lkN lkN lkP go ex False False pa)):
  ((Z2o (ZB ZC)).withL 9 id (lkL id r c st mx)).Ok:=by
 refine Zf.withL_ex Zat fun p=> ?_
 obtain ⟨xs,a,v⟩:=p
 refine Zf.withGoP (N:=40) (k:=0) (n:=v.toNat) (l:=9) (pv:=pvK) (S:=fun i=>lkS r c xs v (itG (st xs) a i) i) Zat rfl h1 fun hC=>⟨rfl,fun i hi' _=> ?_⟩
 have hI:LkI xs (itG (st xs) a i):=Vn (hi xs) hC.i i
 have hv:v<=mx:=hC.v
 have hi':i<=v.toNat:=hi'
 refine hr xs _ _ v i _ _ _ hI.1.lim hC.b hI.2 hv (fun hlt he=>⟨?_,by omega⟩) (fun h=>h) (fun hlt hn=>⟨hlt,hn⟩) fun hlt c hc=> ?_
 ·show (st xs (itG (st xs) a i)).isSome=true
  rw [he]
  rfl
 ·show (st xs (itG (st xs) a i)).getD (itG (st xs) a i)=c
  rw [hc]
  rfl
noncomputable def rdX (F:LI->Int×Int) (xs:LI):Option Zb:=
 (rdN F xs 0 48).bind fun n=>(itO (stT F xs) (⟨[],[],[]⟩,n.2) n.1.toNat).bind fun a=>(rdN F xs a.2 64).bind fun m=>(itO (stS xs) (a.1,m.2) m.1.toNat).bind fun b=>(rdN F xs b.2 16).bind fun l=>(itO (stQ F xs) (b.1,l.2) l.1.toNat).bind fun c=>if c.2=xs.length/\((strOf (Yf c.1)).toList==(strOf xs).toList)=true then some c.1 else none
noncomputable def ZiO (F:LI->Int×Int):Zf:=(((Z2o F).withL 9 0 (lkL 0 13 12 (stT F) 48)).withL 9 2 (lkL 2 31 30 stS 64)).withL 9 4 (lkL 4 42 41 (stQ F) 16)
theorem Zms (F:LI->Int×Int) (xs:LI) (X:Zb) (hB:Byt xs) (hT:∀a b,LkI xs a->stT F xs a=some b->LkI xs b) (hQ:∀a b,LkI xs a->stQ F xs a=some b->LkI xs b) (hl:xs.length<80000000000000) (hX:rdX F xs=some X):
  evF (ZiO F) 40 9 [.vints .u8 xs xs.length] ⟨0,[]⟩ (Yd 0 (.ret (.tuple [pt 0,.int .i64 0])) 5 (tbO Zh X)):=by
 refine @Eq.mpr _ (let b:=xs.length;let q2:=rdN F xs 0 48;let a:=[(8,8),(7,7),(6,6),(5,5),(2,2),(9,9),(3,3),(0,0),(1,1),(4,4)];let u:=true=true/\true=true;let t:=X.T;let P:=t.length;let o:=[(4,8),(3,7),(2,6),(1,5),(0,9)];let q8:=tiV t;let I:=X.S;let e7:=I.length;let b4:=X.Q;let e4:=b4.length;
 Z5 (b=b/\b<90000000000000) (Z5 (b=b-0/\0<=b/\b=b-0/\(0:Int)<=48) ((∀(v:Int) (o':Nat),
 q2=some (v,o')->
 0<=o'/\o'<=b/\v<=48->
 ∃(p:LI×(Zb×Nat)×Int),
 let h:=p.snd.snd;let d:=p.fst.length;let g:=p.snd.fst;let d1:=g.snd;let d0:=d-d1;let Z:=g.fst;let Y:=Z.Q;let c9:=Y.length;let W:=Z.S;let c8:=W.length;let x:=Z.T;let V:=x.length;let c7:=decide (0=V);let c6:=tiV x;let w:=stT F p.fst;
 Z5 (v=h) (xs=p.fst/\
 Z5 (b=d) (Z5 (o'=d1) (Z5 (b-o'=d0) (Z5 (d0<=b-o') (xs=p.fst/\
 Z5 (0=c9) ((Z8 0 a c9 (qkV Y) (quV Y) (fun (i:Nat)=>AV.top) fun (i:Nat)=>AV.top)/\
 Z5 (0=c8) ((Z8 0 a c8 (skV Zh W) (seV W) (fun (i:Nat)=>AV.top) fun (i:Nat)=>AV.top)/\
 Z4 c7 ((Z8 0 a V (tkI x) c6 (fun (i:Nat)=>AV.top) fun (i:Nat)=>AV.top)/\
 Z4 c7 ((Z8 0 a V (tkO x) c6 (fun (i:Nat)=>AV.top) fun (i:Nat)=>AV.top)/\
 LkC p.fst g h 48/\
 ∀(i:Nat),
 let U:=itG w g i;let s:=U.snd;let r:=d-s;let c5:=rdN F p.fst s 64;let R:=U.fst;let O:=R.Q;let N:=R.S;let q:=R.T;let c4:=tiV q;
 i<=Int.toNat h->
 (∀(j:Nat),j<i->(fun (i:Nat)=>Option.isSome (w (itG w g i))=true) j)->
 (¬↑i<h->
 Z5 (r=r/\s<=d/\r=r/\(0:Int)<=64) ((∀(v:Int) (o':Nat),
 c5=some (v,o')->
 s<=o'/\o'<=d/\v<=64->
 ∃(p_1:LI×(Zb×Nat)×Int),
 let f:=p_1.snd.snd;let c3:=p.fst=p_1.fst;let c:=p_1.fst.length;let e:=p_1.snd.fst;let c2:=e.snd;let c1:=c-c2;let M:=e.fst;let L:=M.Q;let c0:=L.length;let K:=M.S;let b9:=K.length;let n:=M.T;let J:=n.length;let b8:=decide (q.length=J);let b7:=tiV n;let m:=stS p_1.fst;
 Z5 (v=f) (c3/\
 Z5 (d=c) (Z5 (o'=c2) (Z5 (d-o'=c1) (Z5 (c1<=d-o') (c3/\
 Z5 (O.length=c0) (Z8 0 a c0 (qkV L) (quV L) (qkV O) (quV O)/\
 Z5 (N.length=b9) (Z8 0 a b9 (skV Zh K) (seV K) (skV Zh N) (seV N)/\
 Z4 b8 (Z8 0 a J (tkI n) b7 (tkI q) c4/\
 Z4 b8 (Z8 0 a J (tkO n) b7 (tkO q) c4/\
 LkC p_1.fst e f 64/\
 ∀(i:Nat),
 let b6:=itG m e i;let H:=b6.snd;let G:=c-H;let e6:=rdN F p_1.fst H 16;let b5:=b6.fst;let b3:=b5.Q;let b2:=b5.S;let E:=b5.T;let e5:=tiV E;
 i<=Int.toNat f->
 (∀(j:Nat),j<i->(fun (i:Nat)=>Option.isSome (m (itG m e i))=true) j)->
 (¬↑i<f->
 Z5 (G=G/\H<=c/\G=G/\(0:Int)<=16) ((∀(v:Int) (o':Nat),
 e6=some (v,o')->
 H<=o'/\o'<=c/\v<=16->
 ∃(p:LI×(Zb×Nat)×Int),
 let l:=p.snd.snd;let e3:=p_1.fst=p.fst;let D:=p.fst.length;let k:=p.snd.fst;let e2:=k.snd;let e1:=D-e2;let b1:=k.fst;let b0:=b1.Q;let e0:=b0.length;let a9:=b1.S;let d9:=a9.length;let C:=b1.T;let a8:=C.length;let d8:=decide (E.length=a8);let d7:=tiV C;let B:=stQ F p.fst;
 Z5 (v=l) (e3/\
 Z5 (c=D) (Z5 (o'=e2) (Z5 (c-o'=e1) (Z5 (e1<=c-o') (e3/\
 Z5 (b3.length=e0) (Z8 0 a e0 (qkV b0) (quV b0) (qkV b3) (quV b3)/\
 Z5 (b2.length=d9) (Z8 0 a d9 (skV Zh a9) (seV a9) (skV Zh b2) (seV b2)/\
 Z4 d8 (Z8 0 a a8 (tkI C) d7 (tkI E) e5/\
 Z4 d8 (Z8 0 a a8 (tkO C) d7 (tkO E) e5/\
 LkC p.fst k l 16/\
 ∀(i:Nat),
 let a7:=itG B k i;let a6:=D-a7.snd;let a5:=a7.fst;let A:=a5.T;let z:=A.length;let a4:=a5.S;let d6:=a4.length;let a3:=a5.Q;let d5:=a3.length;let d4:=tiV A;
 i<=Int.toNat l->
 (∀(j:Nat),j<i->(fun (i:Nat)=>Option.isSome (B (itG B k i))=true) j)->
 (¬↑i<l->
 Z5 (a6=a6) (Z5 (a6=0) ((∀(i:Nat),i<z->u)/\
 (∀(i:Nat),i<z->u)/\
 (∀(i:Nat),i<d6->u)/\
 (∀(i:Nat),i<d5->u)/\
 ∃(X:Zb),
 let a2:=List.length (Yf X);let y:=X.T;let d3:=decide (y.length=P);let d2:=tiV y;let a1:=X.S;let a0:=X.Q;
 YN Zh X [AV.map (some 1),AV.map (some 2),AV.map (some 3),AV.map (some 4)] z (tkO A) d4 z (tkI A) d4 d6 (skV Zh a4) (seV a4) d5 (qkV a3) (quV a3)/\Zb.Inv Zh X/\Z5 (u8=u8/\0+a2<=a2) (Z6 (!ByteArray.toList (strOf (List.take a2 (Yi 0 (Yf X))))==ByteArray.toList (strOf (List.take D p.fst))) False (Z4 d3 (Z8 0 o P (tkO t) q8 (tkO y) d2/\Z4 d3 (Z8 0 o P (tkI t) q8 (tkI y) d2/\Z5 (a1.length=e7) (Z8 0 o e7 (skV Zh I) (seV I) (skV Zh a1) (seV a1)/\Z5 (a0.length=e4) (Z8 0 o e4 (qkV b4) (quV b4) (qkV a0) (quV a0)/\True)))))))))/\
 (False->False)/\(False->False)/\(↑i<l/\B a7=none->False)))))))))))/\
 (e6=none->False)))/\
 (False->False)/\(False->False)/\(↑i<f/\m b6=none->False)))))))))))/\
 (c5=none->False)))/\
 (False->False)/\(False->False)/\(↑i<h/\w U=none->False)))))))))))/\
 (q2=none->False)))) (by kernel_rfl) ?_
 conv=>zeta
 try simp only [vcA]
 try simp only [vcB]
 try simp only [vcC]
 have m0:∀{τ:Ren} {kf vf kf' vf':Nat->AV},Z8 0 τ 0 kf vf kf' vf':=⟨fun i hi=>absurd hi (Js i)⟩
 have ms:=fun (X:Zb) (τ:Ren)=>Xr Zh X 0 τ
 refine ⟨by omega,⟨by omega,by omega,by omega,by decide⟩,fun v o1 e1 l1=>⟨(xs,(⟨[],[],[]⟩,o1),v),rfl,rfl,rfl,rfl,rfl,J2 _,rfl,rfl,m0,rfl,m0,rfl,m0,rfl,m0,⟨⟨.nil,l1.2.1⟩,hB,l1.2.2⟩,fun i hi hgo=>⟨fun ei=> ?_,fun h=>h,fun h=>h,fun hn=> ?_⟩⟩,fun e1=> ?_⟩
 ·have s1:itO (stT F xs) (⟨[],[],[]⟩,o1) v.toNat=some (itG (stT F xs) (⟨[],[],[]⟩,o1) i):=by
   have:i=v.toNat:=by have:¬(i:Int)<v:=ei;have:i<=v.toNat:=hi;omega
   rw [<-this]
   exact Q8 hgo
  have I1:LkI xs (itG (stT F xs) (⟨[],[],[]⟩,o1) i):=Vn (P:=LkI xs) (a:=(⟨[],[],[]⟩,o1)) hT ⟨.nil,l1.2.1⟩ i
  simp only []
  generalize itG (stT F xs) (⟨[],[],[]⟩,o1) i=a at*
  refine ⟨⟨I1.2,by decide⟩,fun v2 o2 e2 l2=>⟨(xs,(a.1,o2),v2),rfl,rfl,rfl,rfl,rfl,J2 _,rfl,rfl,(ms a.1 _).2.2.2,rfl,(ms a.1 _).2.2.1,rfl,(ms a.1 _).2.1,rfl,(ms a.1 _).1,⟨⟨I1.1,l2.2.1⟩,hB,l2.2.2⟩,fun i2 hi2 hgo2=>⟨fun ei2=> ?_,fun h=>h,fun h=>h,fun hn=> ?_⟩⟩,fun e2=> ?_⟩
  ·have s2:itO (stS xs) (a.1,o2) v2.toNat=some (itG (stS xs) (a.1,o2) i2):=by
    have:i2=v2.toNat:=by have:¬(i2:Int)<v2:=ei2;have:i2<=v2.toNat:=hi2;omega
    rw [<-this]
    exact Q8 hgo2
   have I2:LkI xs (itG (stS xs) (a.1,o2) i2):=Vn (P:=LkI xs) (a:=(a.1,o2)) Z2I ⟨I1.1,l2.2.1⟩ i2
   simp only []
   generalize itG (stS xs) (a.1,o2) i2=b at*
   refine ⟨⟨I2.2,by decide⟩,fun v3 o3 e3 l3=>⟨(xs,(b.1,o3),v3),rfl,rfl,rfl,rfl,rfl,J2 _,rfl,rfl,(ms b.1 _).2.2.2,rfl,(ms b.1 _).2.2.1,rfl,(ms b.1 _).2.1,rfl,(ms b.1 _).1,⟨⟨I2.1,l3.2.1⟩,hB,l3.2.2⟩,fun i3 hi3 hgo3=>⟨fun ei3=> ?_,fun h=>h,fun h=>h,fun hn=> ?_⟩⟩,fun e3=> ?_⟩
   ·have s3:itO (stQ F xs) (b.1,o3) v3.toNat=some (itG (stQ F xs) (b.1,o3) i3):=by
     have:i3=v3.toNat:=by have:¬(i3:Int)<v3:=ei3;have:i3<=v3.toNat:=hi3;omega
     rw [<-this]
     exact Q8 hgo3
    have I3:LkI xs (itG (stQ F xs) (b.1,o3) i3):=Vn (P:=LkI xs) (a:=(b.1,o3)) hQ ⟨I2.1,l3.2.1⟩ i3
    simp only []
    generalize itG (stQ F xs) (b.1,o3) i3=c at*
    have tr:∀{n:Nat} (i:Nat),i<n->True:=fun _ _=>trivial
    have e4:List.take (Yf c.1).length (Yi 0 (Yf c.1))=Yf c.1:=by rw [ZZ,Kj,Jp]
    simp only [rdX,e1,Jg,s1,e2,s2,e3,s3] at hX
    split at hX
    ·rename_i hc
     simp only [JC] at hX
     subst hX
     exact ⟨by omega,tr,tr,tr,tr,c.1,Wf Zh I3.1.lim,I3.1,by rw [e4,Jp,hc.2];rfl,rfl,(ms _ _).1,rfl,(ms _ _).2.1,rfl,(ms _ _).2.2.1,rfl,(ms _ _).2.2.2⟩
    ·cases hX
   ·have:=Z1J hgo3 hn.2 (m:=v3.toNat) (by have:(i3:Int)<v3:=hn.1;omega)
    simp [rdX,e1,s1,e2,s2,e3,this] at hX
   ·simp [rdX,e1,s1,e2,s2,e3] at hX
  ·have:=Z1J hgo2 hn.2 (m:=v2.toNat) (by have:(i2:Int)<v2:=hn.1;omega)
   simp [rdX,e1,s1,e2,this] at hX
  ·simp [rdX,e1,s1,e2] at hX
 ·have:=Z1J hgo hn.2 (m:=v.toNat) (by have:(i:Int)<v:=hn.1;omega)
  simp [rdX,e1,this] at hX
 ·simp [rdX,e1] at hX
theorem Zmt (F:LI->Int×Int) (xs:LI) (hB:Byt xs) (hT:∀a b,LkI xs a->stT F xs a=some b->LkI xs b) (hQ:∀a b,LkI xs a->stQ F xs a=some b->LkI xs b) (hl:xs.length<80000000000000) (hX:rdX F xs=none):
  evF (ZiO F) 40 9 [.vints .u8 xs xs.length] ⟨0,[]⟩ (Yd 0 (.ret (.tuple [.ptr none,.int .i64 361])) 0 []):=by
 refine @Eq.mpr _ (let b:=xs.length;let q2:=rdN F xs 0 48;let a:=[(8,8),(7,7),(6,6),(5,5),(2,2),(9,9),(3,3),(0,0),(1,1),(4,4)];let w:=true=true/\true=true;
 Z5 (b=b/\b<90000000000000) (Z5 (b=b-0/\0<=b/\b=b-0/\(0:Int)<=48) ((∀(v:Int) (o':Nat),
 q2=some (v,o')->
 0<=o'/\o'<=b/\v<=48->
 ∃(p:LI×(Zb×Nat)×Int),
 let e:=p.snd.snd;let d:=p.fst.length;let k:=p.snd.fst;let d0:=k.snd;let c7:=d-d0;let a3:=k.fst;let Y:=a3.Q;let c3:=Y.length;let V:=a3.S;let c2:=V.length;let y:=a3.T;let U:=y.length;let c1:=decide (0=U);let c0:=tiV y;let x:=stT F p.fst;
 Z5 (v=e) (xs=p.fst/\
 Z5 (b=d) (Z5 (o'=d0) (Z5 (b-o'=c7) (Z5 (c7<=b-o') (xs=p.fst/\
 Z5 (0=c3) ((Z8 0 a c3 (qkV Y) (quV Y) (fun (i:Nat)=>AV.top) fun (i:Nat)=>AV.top)/\
 Z5 (0=c2) ((Z8 0 a c2 (skV Zh V) (seV V) (fun (i:Nat)=>AV.top) fun (i:Nat)=>AV.top)/\
 Z4 c1 ((Z8 0 a U (tkI y) c0 (fun (i:Nat)=>AV.top) fun (i:Nat)=>AV.top)/\
 Z4 c1 ((Z8 0 a U (tkO y) c0 (fun (i:Nat)=>AV.top) fun (i:Nat)=>AV.top)/\
 LkC p.fst k e 48/\
 ∀(i:Nat),
 let R:=itG x k i;let u:=R.snd;let t:=d-u;let b9:=rdN F p.fst u 64;let P:=R.fst;let O:=P.Q;let N:=P.S;let s:=P.T;let b8:=tiV s;
 i<=Int.toNat e->
 (∀(j:Nat),j<i->(fun (i:Nat)=>Option.isSome (x (itG x k i))=true) j)->
 (¬↑i<e->
 Z5 (t=t/\u<=d/\t=t/\(0:Int)<=64) ((∀(v:Int) (o':Nat),
 b9=some (v,o')->
 u<=o'/\o'<=d/\v<=64->
 ∃(p_1:LI×(Zb×Nat)×Int),
 let g:=p_1.snd.snd;let b7:=p.fst=p_1.fst;let c:=p_1.fst.length;let f:=p_1.snd.fst;let b6:=f.snd;let b5:=c-b6;let M:=f.fst;let L:=M.Q;let b4:=L.length;let K:=M.S;let b3:=K.length;let r:=M.T;let J:=r.length;let b2:=decide (s.length=J);let b1:=tiV r;let q:=stS p_1.fst;
 Z5 (v=g) (b7/\
 Z5 (d=c) (Z5 (o'=b6) (Z5 (d-o'=b5) (Z5 (b5<=d-o') (b7/\
 Z5 (O.length=b4) (Z8 0 a b4 (qkV L) (quV L) (qkV O) (quV O)/\
 Z5 (N.length=b3) (Z8 0 a b3 (skV Zh K) (seV K) (skV Zh N) (seV N)/\
 Z4 b2 (Z8 0 a J (tkI r) b1 (tkI s) b8/\
 Z4 b2 (Z8 0 a J (tkO r) b1 (tkO s) b8/\
 LkC p_1.fst f g 64/\
 ∀(i:Nat),
 let I:=itG q f i;let o:=I.snd;let n:=c-o;let b0:=rdN F p_1.fst o 16;let H:=I.fst;let G:=H.Q;let E:=H.S;let m:=H.T;let a9:=tiV m;
 i<=Int.toNat g->
 (∀(j:Nat),j<i->(fun (i:Nat)=>Option.isSome (q (itG q f i))=true) j)->
 (¬↑i<g->
 Z5 (n=n/\o<=c/\n=n/\(0:Int)<=16) ((∀(v:Int) (o':Nat),
 b0=some (v,o')->
 o<=o'/\o'<=c/\v<=16->
 ∃(p:LI×(Zb×Nat)×Int),
 let l:=p.snd.snd;let d5:=p_1.fst=p.fst;let D:=p.fst.length;let h:=p.snd.fst;let d4:=h.snd;let d3:=D-d4;let a8:=h.fst;let a7:=a8.Q;let d2:=a7.length;let a6:=a8.S;let d1:=a6.length;let C:=a8.T;let a5:=C.length;let c9:=decide (m.length=a5);let c8:=tiV C;let B:=stQ F p.fst;
 Z5 (v=l) (d5/\
 Z5 (c=D) (Z5 (o'=d4) (Z5 (c-o'=d3) (Z5 (d3<=c-o') (d5/\
 Z5 (G.length=d2) (Z8 0 a d2 (qkV a7) (quV a7) (qkV G) (quV G)/\
 Z5 (E.length=d1) (Z8 0 a d1 (skV Zh a6) (seV a6) (skV Zh E) (seV E)/\
 Z4 c9 (Z8 0 a a5 (tkI C) c8 (tkI m) a9/\
 Z4 c9 (Z8 0 a a5 (tkO C) c8 (tkO m) a9/\
 LkC p.fst h l 16/\
 ∀(i:Nat),
 let a4:=itG B h i;let a2:=D-a4.snd;let a1:=a4.fst;let A:=a1.T;let z:=A.length;let a0:=a1.S;let c6:=a0.length;let Z:=a1.Q;let c5:=Z.length;let c4:=tiV A;
 i<=Int.toNat l->
 (∀(j:Nat),j<i->(fun (i:Nat)=>Option.isSome (B (itG B h i))=true) j)->
 (¬↑i<l->
 Z5 (a2=a2) (Z6 (decide (a2=0)) ((∀(i:Nat),i<z->w)/\
 (∀(i:Nat),i<z->w)/\
 (∀(i:Nat),i<c6->w)/\
 (∀(i:Nat),i<c5->w)/\
 ∃(X:Zb),
 let W:=List.length (Yf X);
 YN Zh X [AV.map (some 1),AV.map (some 2),AV.map (some 3),AV.map (some 4)] z (tkO A) c4 z (tkI A) c4 c6 (skV Zh a0) (seV a0) c5 (qkV Z) (quV Z)/\Zb.Inv Zh X/\Z5 (u8=u8/\0+W<=W) (Z4 (!ByteArray.toList (strOf (List.take W (Yi 0 (Yf X))))==ByteArray.toList (strOf (List.take D p.fst))) True)) True))/\
 (False->False)/\(False->False)/\(↑i<l/\B a4=none->True)))))))))))/\
 (b0=none->True)))/\
 (False->False)/\(False->False)/\(↑i<g/\q I=none->True)))))))))))/\
 (b9=none->True)))/\
 (False->False)/\(False->False)/\(↑i<e/\x R=none->True)))))))))))/\
 (q2=none->True)))) (by kernel_rfl) ?_
 conv=>zeta
 try simp only [vcA]
 try simp only [vcB]
 try simp only [vcC]
 have m0:∀{τ:Ren} {kf vf kf' vf':Nat->AV},Z8 0 τ 0 kf vf kf' vf':=⟨fun i hi=>absurd hi (Js i)⟩
 have ms:=fun (X:Zb) (τ:Ren)=>Xr Zh X 0 τ
 refine ⟨by omega,⟨by omega,by omega,by omega,by decide⟩,fun v o1 e1 l1=>⟨(xs,(⟨[],[],[]⟩,o1),v),rfl,rfl,rfl,rfl,rfl,J2 _,rfl,rfl,m0,rfl,m0,rfl,m0,rfl,m0,⟨⟨.nil,l1.2.1⟩,hB,l1.2.2⟩,fun i hi hgo=>⟨fun ei=> ?_,fun h=>h,fun h=>h,fun hn=> ?_⟩⟩,fun e1=> ?_⟩
 ·have s1:itO (stT F xs) (⟨[],[],[]⟩,o1) v.toNat=some (itG (stT F xs) (⟨[],[],[]⟩,o1) i):=by
   have:i=v.toNat:=by have:¬(i:Int)<v:=ei;have:i<=v.toNat:=hi;omega
   rw [<-this]
   exact Q8 hgo
  have I1:LkI xs (itG (stT F xs) (⟨[],[],[]⟩,o1) i):=Vn (P:=LkI xs) (a:=(⟨[],[],[]⟩,o1)) hT ⟨.nil,l1.2.1⟩ i
  simp only []
  generalize itG (stT F xs) (⟨[],[],[]⟩,o1) i=a at*
  refine ⟨⟨I1.2,by decide⟩,fun v2 o2 e2 l2=>⟨(xs,(a.1,o2),v2),rfl,rfl,rfl,rfl,rfl,J2 _,rfl,rfl,(ms a.1 _).2.2.2,rfl,(ms a.1 _).2.2.1,rfl,(ms a.1 _).2.1,rfl,(ms a.1 _).1,⟨⟨I1.1,l2.2.1⟩,hB,l2.2.2⟩,fun i2 hi2 hgo2=>⟨fun ei2=> ?_,fun h=>h,fun h=>h,fun hn=> ?_⟩⟩,fun e2=> ?_⟩
  ·have s2:itO (stS xs) (a.1,o2) v2.toNat=some (itG (stS xs) (a.1,o2) i2):=by
    have:i2=v2.toNat:=by have:¬(i2:Int)<v2:=ei2;have:i2<=v2.toNat:=hi2;omega
    rw [<-this]
    exact Q8 hgo2
   have I2:LkI xs (itG (stS xs) (a.1,o2) i2):=Vn (P:=LkI xs) (a:=(a.1,o2)) Z2I ⟨I1.1,l2.2.1⟩ i2
   simp only []
   generalize itG (stS xs) (a.1,o2) i2=b at*
   refine ⟨⟨I2.2,by decide⟩,fun v3 o3 e3 l3=>⟨(xs,(b.1,o3),v3),rfl,rfl,rfl,rfl,rfl,J2 _,rfl,rfl,(ms b.1 _).2.2.2,rfl,(ms b.1 _).2.2.1,rfl,(ms b.1 _).2.1,rfl,(ms b.1 _).1,⟨⟨I2.1,l3.2.1⟩,hB,l3.2.2⟩,fun i3 hi3 hgo3=>⟨fun ei3=> ?_,fun h=>h,fun h=>h,fun hn=> ?_⟩⟩,fun e3=> ?_⟩
   ·have s3:itO (stQ F xs) (b.1,o3) v3.toNat=some (itG (stQ F xs) (b.1,o3) i3):=by
     have:i3=v3.toNat:=by have:¬(i3:Int)<v3:=ei3;have:i3<=v3.toNat:=hi3;omega
     rw [<-this]
     exact Q8 hgo3
    have I3:LkI xs (itG (stQ F xs) (b.1,o3) i3):=Vn (P:=LkI xs) (a:=(b.1,o3)) hQ ⟨I2.1,l3.2.1⟩ i3
    simp only []
    generalize itG (stQ F xs) (b.1,o3) i3=c at*
    have tr:∀{n:Nat} (i:Nat),i<n->True:=fun _ _=>trivial
    have e4:List.take (Yf c.1).length (Yi 0 (Yf c.1))=Yf c.1:=by rw [ZZ,Kj,Jp]
    simp only [rdX,e1,Jg,s1,e2,s2,e3,s3] at hX
    split at hX
    ·cases hX
    ·rename_i hc
     have I3':=I3.2
     refine ⟨fun h0=>⟨tr,tr,tr,tr,c.1,Wf Zh I3.1.lim,I3.1, ?_⟩,fun _=>trivial⟩
     rw [e4,Jp]
     cases hq:((strOf (Yf c.1)).toList==(strOf xs).toList) with
     | true=>exact absurd ⟨by omega,hq⟩ hc
     | false=>rfl
   ·have:=Z1J hgo3 hn.2 (m:=v3.toNat) (by have:(i3:Int)<v3:=hn.1;omega)
    trivial
   ·trivial
  ·have:=Z1J hgo2 hn.2 (m:=v2.toNat) (by have:(i2:Int)<v2:=hn.1;omega)
   trivial
  ·trivial
 ·have:=Z1J hgo hn.2 (m:=v.toNat) (by have:(i:Int)<v:=hn.1;omega)
  trivial
 ·trivial
theorem ZiP:((Z2o (ZB ZC)).withL 9 0 (lkL 0 13 12 (stT (ZB ZC)) 48)).Ok:=Z9l (by kernel_rfl) (fun _=>Z2H) fun xs a b v i go ex pa h1 h2 h3 h4 h5 h6 h7 h8=>Zmp _ xs a b v i go ex pa h1 h2 h3 h4 h5 h6 h7 h8
theorem ZiQ:((Z2o (ZB ZC)).withL 9 2 (lkL 2 31 30 stS 64)).Ok:=Z9l (by kernel_rfl) (fun _=>Z2I) fun xs a b v i go ex pa h1 h2 h3 h4 h5 h6 h7 h8=>Zmq _ xs a b v i go ex pa h1 h2 h3 h4 h5 h6 h7 h8
theorem ZiR:((Z2o (ZB ZC)).withL 9 4 (lkL 4 42 41 (stQ (ZB ZC)) 16)).Ok:=Z9l (by kernel_rfl) (fun _=>Z2J) fun xs a b v i go ex pa h1 h2 h3 h4 h5 h6 h7 h8=>Zmr _ xs a b v i go ex pa h1 h2 h3 h4 h5 h6 h7 h8
theorem Zau:(ZiO (ZB ZC)).Ok:=
 Zf.withL_join (H:=Z2o (ZB ZC)) (Zf.withL_join (H:=Z2o (ZB ZC)) ZiP (VZ _ _ _ _) ZiQ) ((VZ _ _ _ _).trans (VZ _ _ _ _)) ZiR
structure ZgI (xs:LI) (X:Zb):Prop where
 i:X.Inv Zh
 e:((strOf (Yf X)).toList==(strOf xs).toList)=true
theorem ZiS (h:rdX (ZB ZC) xs=some X):ZgI xs X:=by
 unfold rdX at h
 simp only [Jk] at h
 obtain ⟨n,e1,a,s1,m,e2,b,s2,l,e3,c,s3,h⟩:=h
 have go:∀{st:Zb×Nat->Option (Zb×Nat)},(∀a b,LkI xs a->st a=some b->LkI xs b)->∀{n:Nat} {a b:Zb×Nat},LkI xs a->itO st a n=some b->LkI xs b:=by
  intro st hst n
  induction n with
  | zero=>intro a b hi hs;cases hs;exact hi
  | succ n ih=>
   intro a b hi hs
   unfold itO at hs
   obtain ⟨c,h1,h2⟩:=Jk.1 hs
   exact hst _ _ (ih hi h1) h2
 have I1:LkI xs a:=go (a:=(⟨[],[],[]⟩,n.2)) Z2H ⟨.nil,(Q9 (JN _) e1).1⟩ s1
 have I2:LkI xs b:=go (a:=(a.1,m.2)) Z2I ⟨I1.1,(Q9 I1.2 e2).1⟩ s2
 have I3:LkI xs c:=go (a:=(b.1,l.2)) Z2J ⟨I2.1,(Q9 I2.2 e3).1⟩ s3
 split at h
 ·rename_i hc
  simp only [JC] at h
  subst h
  exact ⟨I3.1,hc.2⟩
 ·cases h
structure Zez (xs:LI) (n:Nat):Prop where
 n:n=xs.length
 l:xs.length<80000000000000
 b:Byt xs
def ZeA (X:Zb) (n:Nat):List (Nat×Blk):=[(n,.flat [.map (some (n+1)),.map (some (n+2)),.map (some (n+3)),.map (some (n+4))]),(n+1,.fmap X.T.length (tkO X.T) (tiV X.T)),(n+2,.fmap X.T.length (tkI X.T) (tiV X.T)),(n+3,.fmap X.S.length (skV Zh X.S) (seV X.S)),(n+4,.fmap X.Q.length (qkV X.Q) (quV X.Q))]
def Z9m (R:LI->Option Zb):ZS:=fun args h K=>frA [] h 20 args fun Bs az=>match Bs,az with
 | [],[.vints .u8 xs n]=>Zez xs n/\(∀X,R xs=some X->ZgI xs X->K (.ret (.tuple [pt h.next,.int .i64 0])) ⟨h.next+5,ZeA X h.next++h.bs⟩)/\(R xs=none->K (.ret (.tuple [.ptr none,.int .i64 361])) ⟨h.next,h.bs⟩)
 | _,_=>False
theorem ZbT (args:List AV) (h:Z7) (K:KO) (hl:Z9m (rdX (ZB ZC)) args h K):Zi PP 9 args h K:=by
 unfold Z9m at hl
 refine Spec.fsumm hl fun Bs a hlen hK0=> ?_
 split at hK0
 ·rename_i xs n
  obtain ⟨⟨rfl,hl,hB⟩,h1,h2⟩:=hK0
  cases hr:rdX (ZB ZC) xs with
  | none=>exact ⟨_,_,_,_,_,.evM Zau (Zmt _ xs hB (fun _ _=>Z2H _ _) (fun _ _=>Z2J _ _) hl hr),by simp,.ret _ _ rfl,.nil,h2 hr⟩
  | some X=>
   have q:=Qs Zh X
   exact ⟨_,_,_,_,_,.evM Zau (Zms _ xs X hB (fun _ _=>Z2H _ _) (fun _ _=>Z2J _ _) hl hr),by simp,.ret _ _ rfl,.cons _ _ _ _ _ _ rfl (.flat _ _ rfl) (.cons _ _ _ _ _ _ rfl (.fmap _ _ _ (fun i _=>(q i).1)) (.cons _ _ _ _ _ _ rfl (.fmap _ _ _ (fun i _=>⟨(q i).2.1,(q i).1.2⟩)) (.cons _ _ _ _ _ _ rfl (.fmap _ _ _ (fun i _=>(q i).2.2.1)) (.cons _ _ _ _ _ _ rfl (.fmap _ _ _ (fun i _=>(q i).2.2.2)) .nil)))),h1 X hr (ZiS hr)⟩
 ·exact hK0.elim
noncomputable def ZkN:Zf:=G0.withF 10 Zes
theorem ZgJ:ZkN.Ok:=Zf.withF_ok Zt Z6s
def saB (X Y:Zb):List (Nat×Blk):=ZeA X 0++ZeA Y 5
theorem Zmu (X Y:Zb) (b:Bool) (hX:X.Inv Zh) (hY:Y.Inv Zh) (hb:b=((strOf (Yf X)).toList==(strOf (Yf Y)).toList)):
  evF ZkN 40 13 [pt 0,pt 5] ⟨10,saB X Y⟩ (Yd 10 (.ret (.bool b)) 10 (saB X Y)):=by
 refine @Eq.mpr _ (let o:=X.T;let c:=o.length;let a:=true=true/\true=true;let w:=X.S;let h:=w.length;let u:=X.Q;let f:=u.length;let A:=[AV.map (some 1),AV.map (some 2),AV.map (some 3),AV.map (some 4)];let z:=tkO o;let n:=tiV o;let P:=tkI o;let O:=skV Zh w;let N:=seV w;let M:=qkV u;let L:=quV u;let m:=Y.T;let d:=m.length;let y:=Y.S;let l:=y.length;let x:=Y.Q;let k:=x.length;let K:=tkO m;let j:=tiV m;let J:=tkI m;let I:=skV Zh y;let H:=seV y;let G:=qkV x;let F:=quV x;
 (∀(i:Nat),i<c->a)/\
 (∀(i:Nat),i<c->a)/\
 (∀(i:Nat),i<h->a)/\
 (∀(i:Nat),i<f->a)/\
 ∃(X_1:Zb),
 let v:=List.length (Yf X_1);let g:=X_1.T;let E:=decide (g.length=c);let D:=tiV g;let t:=X_1.S;let s:=X_1.Q;
 YN Zh X_1 A c z n c P n h O N f M L/\
 Zb.Inv Zh X_1/\
 (∀(i:Nat),i<d->a)/\
 (∀(i:Nat),i<d->a)/\
 (∀(i:Nat),i<l->a)/\
 (∀(i:Nat),i<k->a)/\
 ∃(X_2:Zb),
 let r:=List.length (Yf X_2);let e:=X_2.T;let C:=decide (e.length=d);let B:=tiV e;let q:=X_2.S;let p:=X_2.Q;
 YN Zh X_2 A d K j d J j l I H k G F/\Zb.Inv Zh X_2/\Z5 (u8=u8/\0+v<=v) (Z5 (u8=u8/\0+r<=r) (Z5 ((ByteArray.toList (strOf (List.take v (Yi 0 (Yf X_1))))==ByteArray.toList (strOf (List.take r (Yi 0 (Yf X_2)))))=b) (Z4 E (Z8 10 [] c z n (tkO g) D/\Z4 E (Z8 10 [] c P n (tkI g) D/\Z5 (t.length=h) (Z8 10 [] h O N (skV Zh t) (seV t)/\Z5 (s.length=f) (Z8 10 [] f M L (qkV s) (quV s)/\Z4 C (Z8 10 [] d K j (tkO e) B/\Z4 C (Z8 10 [] d J j (tkI e) B/\Z5 (q.length=l) (Z8 10 [] l I H (skV Zh q) (seV q)/\Z5 (p.length=k) (Z8 10 [] k G F (qkV p) (quV p)/\True)))))))))))) (by kernel_rfl) ?_
 conv=>zeta
 try simp only [vcA]
 try simp only [vcB]
 try simp only [vcC]
 have tr:∀{n:Nat} (i:Nat),i<n->True:=fun _ _=>trivial
 have e:∀Z:Zb,List.take (Yf Z).length (Yi 0 (Yf Z))=Yf Z:=fun Z=>by rw [ZZ,Kj,Jp]
 obtain ⟨m1,m2,m3,m4⟩:=Xr Zh X 10 []
 obtain ⟨n1,n2,n3,n4⟩:=Xr Zh Y 10 []
 exact ⟨tr,tr,tr,tr,X,Wf Zh hX.lim,hX,tr,tr,tr,tr,Y,Wf Zh hY.lim,hY,by rw [e,e,hb],rfl,m1,rfl,m2,rfl,m3,rfl,m4,rfl,n1,rfl,n2,rfl,n3,rfl,n4⟩
def ZkO (X Y:Zb) (t o i s a t' o' i' s' a':Nat) (r:List (Nat×Blk)):List (Nat×Blk):=(t,.flat [.map (some o),.map (some i),.map (some s),.map (some a)])::(o,.fmap X.T.length (tkO X.T) (tiV X.T))::(i,.fmap X.T.length (tkI X.T) (tiV X.T))::(s,.fmap X.S.length (skV Zh X.S) (seV X.S))::(a,.fmap X.Q.length (qkV X.Q) (quV X.Q))::(t',.flat [.map (some o'),.map (some i'),.map (some s'),.map (some a')])::(o',.fmap Y.T.length (tkO Y.T) (tiV Y.T))::(i',.fmap Y.T.length (tkI Y.T) (tiV Y.T))::(s',.fmap Y.S.length (skV Zh Y.S) (seV Y.S))::(a',.fmap Y.Q.length (qkV Y.Q) (quV Y.Q))::r
structure ZgK (X:Zb) (k:Nat) (cs:List AV) (n1:Nat) (k1 v1:Nat->AV) (n2:Nat) (k2 v2:Nat->AV) (n3:Nat) (k3 v3:Nat->AV) (n4:Nat) (k4 v4:Nat->AV):Prop where
 c:cs=[.map (some (k+1)),.map (some (k+2)),.map (some (k+3)),.map (some (k+4))]
 o:n1=X.T.length/\k1=tkO X.T/\v1=tiV X.T
 i:n2=X.T.length/\k2=tkI X.T/\v2=tiV X.T
 s:n3=X.S.length/\k3=skV Zh X.S/\v3=seV X.S
 q:n4=X.Q.length/\k4=qkV X.Q/\v4=quV X.Q
 inv:X.Inv Zh
def ZiT:ZS:=fun args h K=>match args with
 | [.ptr (some ⟨t,0,0,0,0⟩),.ptr (some ⟨t',0,0,0,0⟩)]=>match h.get t,h.get t' with
  |some (.flat [.map (some o),.map (some i),.map (some s),.map (some a)]),some (.flat [.map (some o'),.map (some i'),.map (some s'),.map (some a')])=>frA [t,o,i,s,a,t',o',i',s',a'] h 60 args fun Bs az=>match Bs,az with
   | [.flat cs,.fmap n1 k1 v1,.fmap n2 k2 v2,.fmap n3 k3 v3,.fmap n4 k4 v4,.flat ds,.fmap m1 l1 w1,.fmap m2 l2 w2,.fmap m3 l3 w3,.fmap m4 l4 w4],[.ptr (some ⟨0,0,0,0,0⟩),.ptr (some ⟨5,0,0,0,0⟩)]=>∃X Y,ZgK X 0 cs n1 k1 v1 n2 k2 v2 n3 k3 v3 n4 k4 v4/\ZgK Y 5 ds m1 l1 w1 m2 l2 w2 m3 l3 w3 m4 l4 w4/\K (.ret (.bool ((strOf (Yf X)).toList==(strOf (Yf Y)).toList))) ⟨h.next,ZkO X Y t o i s a t' o' i' s' a' (Zy (Zy (Zy (Zy (Zy (Zy (Zy (Zy (Zy (Zy h.bs t) o) i) s) a) t') o') i') s') a')⟩
   | _,_=>False
  | _,_=>False
 | _=>False
theorem ZgL (args:List AV) (h:Z7) (K:KO) (hl:ZiT args h K):Zi PP 13 args h K:=by
 unfold ZiT at hl
 split at hl
 ·split at hl
  ·refine Spec.fsumm hl fun Bs az hlen hK0=> ?_
   split at hK0
   ·obtain ⟨X,Y,⟨rfl,⟨rfl,rfl,rfl⟩,⟨rfl,rfl,rfl⟩,⟨rfl,rfl,rfl⟩,⟨rfl,rfl,rfl⟩,hX⟩,⟨rfl,⟨rfl,rfl,rfl⟩,⟨rfl,rfl,rfl⟩,⟨rfl,rfl,rfl⟩,⟨rfl,rfl,rfl⟩,hY⟩,hK⟩:=hK0
    have q:=Qs Zh X
    have p:=Qs Zh Y
    exact ⟨_,_,_,_,_,.evM ZgJ (Zmu X Y _ hX hY rfl),by simp,.ret _ _ rfl,.cons _ _ _ _ _ _ rfl (.flat _ _ rfl) (.cons _ _ _ _ _ _ rfl (.fmap _ _ _ (fun i _=>(q i).1)) (.cons _ _ _ _ _ _ rfl (.fmap _ _ _ (fun i _=>⟨(q i).2.1,(q i).1.2⟩)) (.cons _ _ _ _ _ _ rfl (.fmap _ _ _ (fun i _=>(q i).2.2.1)) (.cons _ _ _ _ _ _ rfl (.fmap _ _ _ (fun i _=>(q i).2.2.2)) (.cons _ _ _ _ _ _ rfl (.flat _ _ rfl) (.cons _ _ _ _ _ _ rfl (.fmap _ _ _ (fun i _=>(p i).1)) (.cons _ _ _ _ _ _ rfl (.fmap _ _ _ (fun i _=>⟨(p i).2.1,(p i).1.2⟩)) (.cons _ _ _ _ _ _ rfl (.fmap _ _ _ (fun i _=>(p i).2.2.1)) (.cons _ _ _ _ _ _ rfl (.fmap _ _ _ (fun i _=>(p i).2.2.2)) .nil))))))))),hK⟩
   ·exact hK0.elim
  ·exact hl.elim
 ·exact hl.elim
theorem ZiU {lt:α->α->Bool} (wo:WO lt) {l:List α} (ho:Ut lt l) (hu:∀a∈l,∀b∈l,lt a b=false->lt b a=false->a=b):srt lt l=l:=
 Vk Y5 (Z17 wo) ho fun a ha b hb h1 h2=>hu a (Y5.mem_iff.1 ha) b (Y5.mem_iff.1 hb) h1 h2
theorem SR.idem {lt:α->α->Bool} (wo:WO lt) {L:List α} (h:SR lt L (srt lt L)):srt lt (srt lt L)=srt lt L:=
 ZiU wo h.ord fun a ha b hb=>h.tot a (Y5.mem_iff.1 ha) b (Y5.mem_iff.1 hb)
theorem TR.idem {T:List Zk} (h:TR T (srt ltT T)):srt ltT (srt ltT T)=srt ltT T:=
 h.sorted (Y5.trans Y5) (Z17 Z9b)
theorem ZbU (h:X.Inv H):Yg (Yg X)=Yg X:=by
 show (⟨srt ltT (srt ltT X.T),srt ltS (srt ltS X.S),srt ltQ (srt ltQ X.Q)⟩:Zb)=⟨srt ltT X.T,srt ltS X.S,srt ltQ X.Q⟩
 rw [h.tr.idem,(srS X.S).idem Zec,h.sq.idem Zed]
theorem Z7P (a b:Zk):XH b.inn.v b.inID a=XH a.inn.v a.inID b:=by
 unfold XH
 rw [JE,J1,J1,beq_iff_eq,beq_iff_eq,beq_iff_eq,beq_iff_eq]
 exact ⟨fun h=>⟨h.1.symm,h.2.symm⟩,fun h=>⟨h.1.symm,h.2.symm⟩⟩
theorem Zb.Inv.sorted (h:X.Inv H):(Yg X).Inv H where
 lim:=⟨by show (srt ltT X.T).length<=48;rw [W1];exact h.lim.t,by show (srt ltS X.S).length<=64;rw [W1];exact h.lim.s,by show (srt ltQ X.Q).length<=16;rw [W1];exact h.lim.q,h.tr.dOuts,Y5.pairwise_iff (fun {a b} hab=>by rw [Z7P];exact hab)|>.2 h.lim.ki⟩
 tok x hx:=h.tok x (Y5.mem_iff.1 hx)
 sk:=Y5.pairwise_iff (fun {a b} hab=>Ne.symm hab)|>.2 h.sk
 qk:=Y5.pairwise_iff (fun {a b} hab=>Ne.symm hab)|>.2 h.qk
 qok x hx:=h.qok x (Y5.mem_iff.1 hx)
theorem ZeB {T:List Zk} (ko:T.Pairwise fun a b=>Y9 b.out.v b.outID a=false) (ki:T.Pairwise fun a b=>XH b.inn.v b.inID a=false) (tok:∀x∈T,Wd x=true) (hl:T.length<=48) {i:Nat} (hi:i<T.length):XD (T.take i) (T.getD i Zq)=0:=by
 rw [getD_at hi]
 have hc:clash (T.take i) T[i]=false:=by
  unfold clash
  refine Kt.2 fun y hy=> ?_
  obtain ⟨j,hj,rfl⟩:=Jr hy
  rw [Jd] at hj
  have h1:=Ji.1 ki j i (by omega) hi (by omega)
  have h2:=Ji.1 ko j i (by omega) hi (by omega)
  rw [List.getElem_take,h1,h2]
  decide
 unfold XD
 rw [if_pos (tok _ (JO hi)),hc,if_neg (by decide),if_neg (by rw [Jd];omega)]
theorem ZeC {S:List H32} (sk:S.Pairwise fun a b=>H a.v≠H b.v) (hl:S.length<=64) {i:Nat} (hi:i<S.length):Z47 H (S.take i) (S.getD i h0)=0/\Vz H (S.take i) (S.getD i h0)=S.take (i+1):=by
 have hn:We H (S.take i) (H (S.getD i h0).v)=(S.take i).length:=by
  unfold We
  refine Xm fun j hj=> ?_
  rw [Jd] at hj
  have h1:=Ji.1 sk j i (by omega) hi (by omega)
  rw [Z18 hi,Z18 (by rw [Jd];omega),List.getElem_take,beq_eq_false_iff_ne]
  exact h1.symm
 have ht:(S.take i).length=i:=by rw [Jd];omega
 unfold Z47 Vz
 rw [hn,if_neg (by omega),if_neg (by omega),if_neg (by omega),if_neg (by omega)]
 exact ⟨rfl,(X6 h0 hi).symm⟩
theorem ZeD {Q:List Zs} (qk:Q.Pairwise fun a b=>a.hash.v≠b.hash.v) (qok:∀q∈Q,XK H q=true) (hl:Q.length<=16) {i:Nat} (hi:i<Q.length):Wo H (Q.take i) (Q.getD i ZH)=0:=by
 have hn:atQ (Q.take i) (Q.getD i ZH).hash.v=(Q.take i).length:=by
  unfold atQ
  refine Xm fun j hj=> ?_
  rw [Jd] at hj
  have h1:=Ji.1 qk j i (by omega) hi (by omega)
  rw [Uk hi,Uk (by rw [Jd];omega),List.getElem_take,beq_eq_false_iff_ne]
  exact h1.symm
 have ht:(Q.take i).length=i:=by rw [Jd];omega
 unfold Wo
 rw [hn,if_pos (by rw [Uk hi];exact qok _ (JO hi)),if_neg (by omega),if_neg (by omega)]
theorem ZeE {n c:Int} (h0:0<=n) (h1:n<36028797018963968) (h2:0<=c) (h3:c<=255):Z25 n c=256*n+c:=by
 unfold Z25 bOr Zx
 have e1:(n*2^(min (8:Int).toNat i64.bits))=n*256:=by simp [IntKind.bits]
 rw [e1,w64 (x:=n*256) (by omega)]
 obtain ⟨a,rfl⟩:=Int.eq_ofNat_of_zero_le h0
 obtain ⟨b,rfl⟩:=Int.eq_ofNat_of_zero_le h2
 have e2:((BitVec.ofInt i64.bits ((a:Int)*256))|||(BitVec.ofInt i64.bits (b:Int))).toNat=256*a+b:=by
  have ea:BitVec.ofInt 64 ((a:Int)*256)=BitVec.ofNat 64 (a*256):=by
   rfl
  have eb:BitVec.ofInt 64 (b:Int)=BitVec.ofNat 64 b:=JL 64 b
  show (BitVec.ofInt 64 ((a:Int)*256)|||BitVec.ofInt 64 (b:Int)).toNat=_
  rw [ea,eb,BitVec.toNat_or,JM,JM,Jx (by omega),Jx (by omega)]
  have:=Nat.shiftLeft_add_eq_or_of_lt (a:=a) (b:=b) (i:=8) (by omega)
  rw [Nat.shiftLeft_eq] at this
  rw [<-this];omega
 rw [e2,w64 (by omega)]
 omega
theorem Z9n {c:Int} (h2:0<=c) (h3:c<=255):Z25 36028797018963968 c<0:=by
 have h:∀b:Fin 256,Z25 36028797018963968 (b.val:Int)<0:=by decide+kernel
 have:=h ⟨c.toNat,by omega⟩
 have e:((c.toNat:Nat):Int)=c:=Int.toNat_of_nonneg h2
 rw [show ((⟨c.toNat,by omega⟩:Fin 256).val:Int)=c from e] at this
 exact this
theorem Zav:∀(m:Nat) (xs:LI) (k:Nat) (n:Int),Bytes xs->0<=n->n*256^m<=Qx m xs k n
 | 0,xs,k,n,hb,hn=>by simp [Qx]
 | m+1,xs,k,n,hb,hn=>by
  have hc:=hb.h k
  have:=Zav m xs (k+1) (256*n+xs.getD k 0) hb (by omega)
  refine Int.le_trans ?_ this
  rw [Int.pow_succ,Int.mul_comm (256^m) 256,<-Int.mul_assoc]
  exact Int.mul_le_mul_of_nonneg_right (by omega) (Int.le_of_lt (Int.pow_pos (by decide)))
theorem ZeF {a b:Nat} (h:a<=b):(256:Int)^a<=256^b:=by
 have h1:=Nat.pow_le_pow_right (n:=256) (by decide) h
 have h2:((256^a:Nat):Int)<=((256^b:Nat):Int):=Int.ofNat_le.2 h1
 exact h2
theorem ZkP (m:Nat):(1:Int)<=256^m:=Int.pow_pos (by decide)
theorem Zaw:∀(m:Nat) (xs:LI) (k:Nat) (n:Int),Bytes xs->0<=n->m<=8->n<256^(8-m)->
  (goN m xs k n=none/\Qx m xs k n>4611686018427387904)\/(∃v,goN m xs k n=some v/\((v=Qx m xs k n/\0<=v)\/(v<0/\Qx m xs k n>4611686018427387904)))
 | 0,xs,k,n,hb,hn,hm,hl=>.inr ⟨n,rfl,.inl ⟨rfl,hn⟩⟩
 | m+1,xs,k,n,hb,hn,hm,hl=>by
  have hc:=hb.h k
  have hge:=Zav (m+1) xs k n hb hn
  by_cases h1:n>36028797018963968
  ·left
   refine ⟨by unfold goN;rw [if_pos h1], ?_⟩
   have:=ZkP m
   rw [Int.pow_succ] at hge
   have h2:n*(1*256)<=n*(256^m*256):=Int.mul_le_mul_of_nonneg_left (Int.mul_le_mul_of_nonneg_right this (by decide)) hn
   omega
  ·unfold goN Qx
   rw [if_neg h1]
   have hw:i64.wrap (xs.getD k 0)=xs.getD k 0:=w64 (by omega)
   rw [hw]
   by_cases h2:n=36028797018963968
   ·subst h2
    have hm0:m=0:=by
     rcases JF m with h|h
     ·exact h
     ·have hle:(256:Int)^(8-(m+1))<=256^6:=ZeF (by omega)
      omega
    subst hm0
    right
    refine ⟨_,rfl,.inr ⟨Z9n hc.1 hc.2, ?_⟩⟩
    show 256*36028797018963968+xs.getD k 0>_
    omega
   ·rw [ZeE hn (by omega) hc.1 hc.2]
    refine Zaw m xs (k+1) _ hb (by omega) (by omega) ?_
    have e:8-m=(8-(m+1))+1:=by omega
    rw [e,Int.pow_succ]
    omega
theorem Z1L (hb:Bytes xs) {m:Nat} (h:xs.length≠0) (hm:X7 (xs.getD 0 0)=m) (hm0:m≠0) (h8:m<=8) (hl:m<xs.length):
  ZB ZC xs=if Qx m xs 1 0>4611686018427387904 then ((0:Int),(-1:Int)) else if (ZC (Qx m xs 1 0)).length=1+m then (Qx m xs 1 0,1+(m:Int)) else ((0:Int),(-1:Int)):=by
 rw [VS h hm hm0 hl]
 have hv:∀(m k:Nat) (n:Int),Qx m (xs.drop 1) k n=Qx m xs (k+1) n:=by
  intro m
  induction m with
  | zero=>intro k n;rfl
  | succ m ih=>
   intro k n
   unfold Qx
   rw [ih]
   congr 2
   rw [J5,J5,JJ,Nat.add_comm]
 rcases Zaw m (xs.drop 1) 0 0 (hb.drop 1) (by decide) h8 (ZkP _) with ⟨h1,h2⟩|⟨v,h1,h2⟩
 all_goals grind [Za3]
theorem ZkQ (x:Int):u8.wrap x=x%256:=by
 simp_all [wrap,IntKind.signed,IntKind.bits]
theorem Vo {n:Int} {k:Nat} (hk:k<=56):b8 n k=(n/2^k)%256:=by
 unfold b8 Zm
 grind [IntKind.bits,ZkQ]
theorem Z7Q {n:Int} (h0:0<=n) (h1:n<=4611686018427387904) (hb:Bytes (ZC n++ys)):ZB ZC (ZC n++ys)=(n,((ZC n).length:Int)):=by
 by_cases c1:n<253
 ·have e:=Za3 c1
  grind [ZkQ,Zhh,Z0g,w64]
 by_cases c2:n<65536
 ·have e:=ZcY c1 c2
  have hl:=(congrArg List.length e)
  rw [e] at hb⊢
  have hm:X7 (([253,b8 n 8,b8 n 0]++ys).getD 0 0)=2:=Zd5 rfl
  have hv:Qx 2 ([253,b8 n 8,b8 n 0]++ys) 1 0=n:=by
   show 256*(256*0+b8 n 8)+b8 n 0=n
   rw [show b8 n 8=(n/2^8)%256 from Vo (k:=8) (by decide),show b8 n 0=(n/2^0)%256 from Vo (k:=0) (by decide)]
   omega
  rw [Z1L hb (by simp) hm (by decide) (by decide) (by simp),hv,if_neg (by omega),if_pos (by rw [hl];rfl)]
  rfl
 by_cases c3:n<4294967296
 ·have e:=ZcZ c1 c2 c3
  have hl:=(congrArg List.length e)
  rw [e] at hb⊢
  have hm:X7 (([254,b8 n 24,b8 n 16,b8 n 8,b8 n 0]++ys).getD 0 0)=4:=Zd6 (by simp_all) rfl
  have hv:Qx 4 ([254,b8 n 24,b8 n 16,b8 n 8,b8 n 0]++ys) 1 0=n:=by
   show 256*(256*(256*(256*0+b8 n 24)+b8 n 16)+b8 n 8)+b8 n 0=n
   rw [show b8 n 24=(n/2^24)%256 from Vo (k:=24) (by decide),show b8 n 16=(n/2^16)%256 from Vo (k:=16) (by decide),show b8 n 8=(n/2^8)%256 from Vo (k:=8) (by decide),show b8 n 0=(n/2^0)%256 from Vo (k:=0) (by decide)]
   omega
  rw [Z1L hb (by simp) hm (by decide) (by decide) (by simp),hv,if_neg (by omega),if_pos (by rw [hl];rfl)]
  rfl
 ·have e:=Zd0 c1 c2 c3
  have hl:=(congrArg List.length e)
  rw [e] at hb⊢
  have hm:X7 (([255,b8 n 56,b8 n 48,b8 n 40,b8 n 32,b8 n 24,b8 n 16,b8 n 8,b8 n 0]++ys).getD 0 0)=8:=Zd7 (by simp_all) (by simp_all) rfl
  have hv:Qx 8 ([255,b8 n 56,b8 n 48,b8 n 40,b8 n 32,b8 n 24,b8 n 16,b8 n 8,b8 n 0]++ys) 1 0=n:=by
   show 256*(256*(256*(256*(256*(256*(256*(256*0+b8 n 56)+b8 n 48)+b8 n 40)+b8 n 32)+b8 n 24)+b8 n 16)+b8 n 8)+b8 n 0=n
   rw [show b8 n 56=(n/2^56)%256 from Vo (k:=56) (by decide),show b8 n 48=(n/2^48)%256 from Vo (k:=48) (by decide),show b8 n 40=(n/2^40)%256 from Vo (k:=40) (by decide),show b8 n 32=(n/2^32)%256 from Vo (k:=32) (by decide),show b8 n 24=(n/2^24)%256 from Vo (k:=24) (by decide),show b8 n 16=(n/2^16)%256 from Vo (k:=16) (by decide),show b8 n 8=(n/2^8)%256 from Vo (k:=8) (by decide),show b8 n 0=(n/2^0)%256 from Vo (k:=0) (by decide)]
   omega
  rw [Z1L hb (by simp) hm (by decide) (by decide) (by simp),hv,if_neg (by omega),if_pos (by rw [hl];rfl)]
  rfl
theorem V0 {n:Int} {o:Nat} (hb:Bytes xs) (hd:xs.drop o=ZC n++ys) (h0:0<=n) (hm:n<=most) (h1:n<=4611686018427387904):rdN (ZB ZC) xs o most=some (n,o+(ZC n).length)/\xs.drop (o+(ZC n).length)=ys:=by
 have hb2:Bytes (ZC n++ys):=by rw [<-hd];exact hb.drop o
 have hf:=Z7Q h0 h1 hb2
 have hl:=(Z3N n).1
 refine ⟨?_,by rw [<-List.drop_drop,hd,List.drop_left]⟩
 unfold rdN
 rw [hd,hf]
 rw [if_pos ⟨by omega,hm⟩]
 rw [JT]
theorem U7 {hh:LI} {o:Nat} (hl:hh.length=32) (hd:xs.drop o=hh++ys):rdH xs o=some (hh,o+32)/\xs.drop (o+32)=ys:=by
 have hx:o+32<=xs.length:=by
  have:=congrArg List.length hd
  rw [Ja,J3,hl] at this
  omega
 refine ⟨?_,by rw [<-List.drop_drop,hd,<-hl,List.drop_left]⟩
 unfold rdH
 rw [if_pos hx,hd,<-hl,List.take_left,hl]
theorem ZgM (n:Int):∀x∈ZC n,0<=x/\x<=255:=fun x hx=>by
 unfold ZC at hx
 repeat' split at hx
 all_goals
  simp only [J7,JB] at hx
  repeat' rcases hx with rfl|hx
  all_goals first|exact Zlm _|(constructor<;>decide)
theorem Byt.bytes (h:Byt xs):Bytes xs:=⟨fun i=>by
 have:=h.b
 grind [JO]⟩
theorem Byt.app {a b:LI} (ha:Byt a) (hb:Byt b):Byt (a++b):=⟨fun x hx=>(K3.1 hx).elim (ha.b x) (hb.b x)⟩
theorem Byt.num (n:Int):Byt (ZC n):=⟨ZgM n⟩
theorem Byt.h (x:H32):Byt x.v:=⟨x.b⟩
theorem Byt.flat {g:α->LI} (hg:∀x,Byt (g x)) (l:List α):Byt (l.flatMap g):=⟨fun x hx=>by
 obtain ⟨y,_,hy⟩:=List.mem_flatMap.1 hx
 exact (hg y).b x hy⟩
theorem ZgN (x:Zk):Byt (Z4D ZC x):=(((Byt.h _).app (.num _)).app (.h _)).app (.num _)
theorem ZgO (x:Zs):Byt (Z4E ZC x):=((((Byt.h _).app (.h _)).app (.num _)).app (.num _)).app (.h _)
theorem Zax (X:Zb):Byt (Yf X):=((((((Byt.num _).app (.flat ZgN _)).app (.num _)).app (.flat Byt.h _)).app (.num _))).app (.flat ZgO _)
theorem Z9o (x:H32):YF x.v=x:=H32.ext (Zey x.l x.b)
theorem drop_at (d:α) {L:List α} {i:Nat} (h:i<L.length):L.drop i=L.getD i d::L.drop (i+1):=by
 rw [List.drop_eq_getElem_cons h,J5,J8 h]
 rfl
theorem ZiV (hb:Bytes xs) {x:Zk} {o:Nat} (hd:xs.drop o=Z4D ZC x++ys) (hx:Wd x=true) (he:XD X.T x=0):∃p,stT (ZB ZC) xs (X,o)=some (⟨Wn X.T x,X.S,X.Q⟩,p)/\xs.drop p=ys/\p<=xs.length:=by
 unfold Wd at hx
 simp only [J1,decide_eq_true_eq] at hx
 unfold Z4D at hd
 simp only [Jv] at hd
 obtain ⟨a1,a2⟩:=U7 x.inn.l hd
 obtain ⟨b1,b2⟩:=V0 (most:=2147483647) hb a2 (by omega) (by omega) (by omega)
 obtain ⟨c1,c2⟩:=U7 x.out.l b2
 obtain ⟨d1,d2⟩:=V0 (most:=2147483647) hb c2 (by omega) (by omega) (by omega)
 refine ⟨_, ?_,d2,(Q9 (Z1K c1) d1).1⟩
 simp only [stT,a1,b1,c1,d1,Jg,Z9o]
 have e:(⟨x.inn,x.inID,x.out,x.outID⟩:Zk)=x:=rfl
 rw [e,if_pos he]
theorem ZiW {x:H32} {o:Nat} (hd:xs.drop o=x.v++ys) (he:Z47 Zh X.S x=0):∃p,stS xs (X,o)=some (⟨X.T,Vz Zh X.S x,X.Q⟩,p)/\xs.drop p=ys/\p<=xs.length:=by
 obtain ⟨a1,a2⟩:=U7 x.l hd
 refine ⟨_, ?_,a2,Z1K a1⟩
 simp only [stS,a1,Jg,Z9o]
 rw [if_pos he]
theorem ZiX (hb:Bytes xs) {x:Zs} {o:Nat} (hd:xs.drop o=Z4E ZC x++ys) (hx:XK Zh x=true) (he:Wo Zh X.Q x=0):∃p,stQ (ZB ZC) xs (X,o)=some (⟨X.T,X.S,VA Zh X.Q x⟩,p)/\xs.drop p=ys/\p<=xs.length:=by
 unfold XK at hx
 simp only [J1,decide_eq_true_eq] at hx
 unfold Z4E at hd
 simp only [Jv] at hd
 obtain ⟨a1,a2⟩:=U7 x.hash.l hd
 obtain ⟨b1,b2⟩:=U7 x.key.l a2
 obtain ⟨c1,c2⟩:=V0 (most:=1125899906842624) hb b2 (by omega) (by omega) (by omega)
 obtain ⟨d1,d2⟩:=V0 (most:=1000) hb c2 (by omega) (by omega) (by omega)
 obtain ⟨e1,e2⟩:=U7 x.secret.l d2
 refine ⟨_, ?_,e2,Z1K e1⟩
 simp only [stQ,a1,b1,c1,d1,e1,Jg,Z9o]
 have e:(⟨x.hash,x.key,x.amount,x.least,x.secret⟩:Zs)=x:=rfl
 rw [e,if_pos he]
theorem Zay {α:Type} (d:α) {st:Zb×Nat->Option (Zb×Nat)} {xs ys:LI} {L:List α} {g:α->LI} {mk:Nat->Zb} (hs:∀i o zs,i<L.length->xs.drop o=g (L.getD i d)++zs->∃p,st (mk i,o)=some (mk (i+1),p)/\xs.drop p=zs/\p<=xs.length) {o:Nat} (ho:o<=xs.length) (hd:xs.drop o=L.flatMap g++ys):∀i,i<=L.length->∃p,itO st (mk 0,o) i=some (mk i,p)/\xs.drop p=(L.drop i).flatMap g++ys/\p<=xs.length
 | 0,_=>⟨o,rfl,hd,ho⟩
 | i+1,h=>by
  obtain ⟨p,h1,h2,h3⟩:=Zay d hs ho hd i (by omega)
  rw [drop_at d (by omega),List.flatMap_cons,Jv] at h2
  obtain ⟨q,g1,g2,g3⟩:=hs i p _ (by omega) h2
  refine ⟨q, ?_,g2,g3⟩
  unfold itO
  rw [h1,Jg,g1]
theorem Z6t (d:α) {st:Zb×Nat->Option (Zb×Nat)} {L:List α} {g:α->LI} {mk:Nat->Zb} (hs:∀i o zs,i<L.length->xs.drop o=g (L.getD i d)++zs->∃p,st (mk i,o)=some (mk (i+1),p)/\xs.drop p=zs/\p<=xs.length) {o:Nat} (ho:o<=xs.length) (hd:xs.drop o=L.flatMap g++ys):∃p,itO st (mk 0,o) L.length=some (mk L.length,p)/\xs.drop p=ys/\p<=xs.length:=by
 obtain ⟨p,h1,h2,h3⟩:=Zay d hs ho hd L.length (J2 _)
 rw [List.drop_length] at h2
 exact ⟨p,h1,h2,h3⟩
theorem Z7R (h:X.Inv Zh):Yf (Yg X)=Yf X:=by
 have e1:(Yg X).T.length=X.T.length:=W1
 have e2:(Yg X).S.length=X.S.length:=W1
 have e3:(Yg X).Q.length=X.Q.length:=W1
 unfold Yf
 rw [ZbU h]
 unfold Q7 tsB
 rw [e1,e2,e3]
theorem ZgP (h:X.Inv Zh):rdX (ZB ZC) (Yf X)=some (Yg X):=by
 have hb:Bytes (Yf X):=(Zax X).bytes
 have hI:=h.sorted
 have e1:(Yg X).T.length=X.T.length:=W1
 have e2:(Yg X).S.length=X.S.length:=W1
 have e3:(Yg X).Q.length=X.Q.length:=W1
 have eR:Yf X=ZC X.T.length++((Yg X).T.flatMap (Z4D ZC)++(ZC X.S.length++((Yg X).S.flatMap (fun x=>x.v)++(ZC X.Q.length++((Yg X).Q.flatMap (Z4E ZC)++[]))))):=by
  unfold Yf Q7 tsB Z0m Wr
  simp only [Jp,Jv,JG]
 have l1:=h.lim.t
 have l2:=h.lim.s
 have l3:=h.lim.q
 obtain ⟨a1,a2⟩:=V0 (most:=48) hb (o:=0) (by rw [Kj];exact eR) (by omega) (by omega) (by omega)
 obtain ⟨p1,b1,b2,b3⟩:=Z6t Zq (st:=stT (ZB ZC) (Yf X)) (L:=(Yg X).T) (mk:=fun i=>⟨(Yg X).T.take i,[],[]⟩) (fun i o zs hi hd=>by
  have he:=ZeB hI.lim.ko hI.lim.ki hI.tok hI.lim.t hi
  have:=ZiV hb (X:=⟨(Yg X).T.take i,[],[]⟩) hd (by rw [getD_at hi];exact hI.tok _ (JO hi)) he
  have e:Wn ((Yg X).T.take i) ((Yg X).T.getD i Zq)=(Yg X).T.take (i+1):=by
   unfold Wn
   rw [if_pos he]
   exact (X6 Zq hi).symm
  rwa [e] at this) (Q9 (JN _) a1).1 a2
 obtain ⟨c1,c2⟩:=V0 (most:=64) hb b2 (by omega) (by omega) (by omega)
 obtain ⟨p2,d1,d2,d3⟩:=Z6t h0 (st:=stS (Yf X)) (L:=(Yg X).S) (mk:=fun i=>⟨(Yg X).T,(Yg X).S.take i,[]⟩) (fun i o zs hi hd=>by
  obtain ⟨he,hp⟩:=ZeC hI.sk hI.lim.s hi
  have:=ZiW (X:=⟨(Yg X).T,(Yg X).S.take i,[]⟩) hd he
  rwa [hp] at this) (Q9 b3 c1).1 c2
 obtain ⟨f1,f2⟩:=V0 (most:=16) hb d2 (by omega) (by omega) (by omega)
 obtain ⟨p3,g1,g2,g3⟩:=Z6t ZH (st:=stQ (ZB ZC) (Yf X)) (L:=(Yg X).Q) (mk:=fun i=>⟨(Yg X).T,(Yg X).S,(Yg X).Q.take i⟩) (fun i o zs hi hd=>by
  have he:=ZeD hI.qk hI.qok hI.lim.q hi
  have:=ZiX hb (X:=⟨(Yg X).T,(Yg X).S,(Yg X).Q.take i⟩) hd (by rw [Uk hi];exact hI.qok _ (JO hi)) he
  have e:VA Zh ((Yg X).Q.take i) ((Yg X).Q.getD i ZH)=(Yg X).Q.take (i+1):=by
   unfold VA
   rw [if_pos he]
   exact (X6 ZH hi).symm
  rwa [e] at this) (Q9 d3 f1).1 f2
 have hp:p3=(Yf X).length:=by
  have:=congrArg List.length g2
  rw [Ja] at this
  simp at this
  omega
 rw [e1] at b1
 rw [e2] at d1
 rw [e3] at g1
 have t1:∀n:Nat,((n:Int)).toNat=n:=fun n=>JT n
 simp only [<-e1,<-e2,<-e3,Jp,List.take_zero] at b1 d1 g1
 simp only [e1,e2,e3] at b1 d1 g1
 have z1:(⟨(Yg X).T,(Yg X).S,(Yg X).Q⟩:Zb)=Yg X:=rfl
 unfold rdX
 rw [a1,Jg]
 simp only [t1]
 rw [b1,Jg]
 simp only []
 rw [c1,Jg]
 simp only [t1]
 rw [d1,Jg]
 simp only []
 rw [f1,Jg]
 simp only [t1]
 rw [g1,Jg,z1,Z7R h]
 rw [if_pos ⟨hp,by simp⟩]
theorem ZeG (h:X.Inv Zh):((strOf (Yf (Yg X))).toList==(strOf (Yf X)).toList)=true:=by
 rw [Z7R h]
 simp
theorem Vp (x:Int):u64.wrap x=x%18446744073709551616:=by
 unfold wrap
 simp [IntKind.bits,IntKind.signed]
theorem Z9p {x:Int} (h0: -9223372036854775808<=x) (h1:x<9223372036854775808):i64.wrap x=x:=by
 unfold wrap
 simp [IntKind.bits,IntKind.signed]
 omega
theorem ZkR (x n:Nat) (hn:n<=64):Zm .u64 x n=((x/2^n:Nat):Int):=by
 unfold Zm
 have:min (n:Int).toNat u64.bits=n:=by simp [IntKind.bits];omega
 rw [this,Int.fdiv_eq_ediv_of_nonneg _ (Int.le_of_lt (Int.pow_pos (by decide)))]
 simp
theorem Zmv (x n:Nat) (hn:n<=64):Zx .u64 x n=((x*2^n%18446744073709551616:Nat):Int):=by
 unfold Zx
 have:min (n:Int).toNat u64.bits=n:=by simp [IntKind.bits];omega
 rw [this,Vp,show (x:Int)*2^n=((x*2^n:Nat):Int) by push_cast;rfl]
 omega
theorem Zmw (x y:Nat) (hx:x<18446744073709551616) (hy:y<18446744073709551616):Xt .u64 x y=((x&&&y:Nat):Int):=by
 unfold Xt
 rw [Vp]
 show (((BitVec.ofInt 64 (x:Int)&&&BitVec.ofInt 64 (y:Int)).toNat:Nat):Int)%_=_
 rw [BitVec.toNat_and,JL,JL,JM,JM,Jx hx,Jx hy]
 have:x&&&y<=x:=Kf
 omega
theorem orU (x y:Nat) (hx:x<18446744073709551616) (hy:y<18446744073709551616):bOr .u64 x y=((x|||y:Nat):Int):=by
 unfold bOr
 rw [Vp]
 show (((BitVec.ofInt 64 (x:Int)|||BitVec.ofInt 64 (y:Int)).toNat:Nat):Int)%_=_
 rw [BitVec.toNat_or,JL,JL,JM,JM,Jx hx,Jx hy]
 have:x|||y<2^64:=Nat.or_lt_two_pow (n:=64) (by omega) (by omega)
 omega
theorem ZeH (x:Nat) (hx:x<18446744073709551616):Xt .u64 x 4294967295=((x%4294967296:Nat):Int):=by
 have:=Zmw x 4294967295 hx (by omega)
 rw [show ((4294967295:Nat):Int)=4294967295 from rfl] at this
 rw [this,show (4294967295:Nat)=2^32-1 from rfl,Nat.and_two_pow_sub_one_eq_mod]
theorem Z1M (x:Nat):Zm .u64 x 32=((x/4294967296:Nat):Int):=by
 have:=ZkR x 32 (by omega)
 rw [show ((32:Nat):Int)=32 from rfl] at this
 exact this
def Z4k (x y:Int):Int:=
 let w:=u64.wrap (u64.wrap (Zm .u64 x 32*Xt .u64 y 4294967295)+Zm .u64 (u64.wrap (Xt .u64 x 4294967295*Xt .u64 y 4294967295)) 32)
 u64.wrap (u64.wrap (u64.wrap (Zm .u64 x 32*Zm .u64 y 32)+Zm .u64 w 32)+Zm .u64 (u64.wrap (Xt .u64 w 4294967295+u64.wrap (Xt .u64 x 4294967295*Zm .u64 y 32))) 32)
theorem ZeI (x y:Nat) (hx:x<=1125899906842624) (hy:y<=1000000):Z4k x y=((x*y/18446744073709551616:Nat):Int):=by
 unfold Z4k
 have hP:x/4294967296*y<=262144*1000000:=Nat.mul_le_mul (by omega) hy
 have hQ:x%4294967296*y<=4294967295*1000000:=Nat.mul_le_mul (by omega) hy
 have hxy:x*y=x/4294967296*y*4294967296+x%4294967296*y:=by
  conv=>lhs;rw [<-Nat.div_add_mod x 4294967296]
  rw [K2,Nat.mul_comm 4294967296,Km]
 rw [hxy]
 rw [Z1M x,Z1M y,ZeH x (by omega),ZeH y (by omega),Nat.div_eq_of_lt (show y<4294967296 by omega),Jx (show y<4294967296 by omega)]
 simp only [<-Int.natCast_mul,Nat.mul_zero,Vp]
 generalize x/4294967296*y=p at*
 generalize x%4294967296*y=q at*
 have e1:((q:Nat):Int)%18446744073709551616=q:=by omega
 have e2:((p:Nat):Int)%18446744073709551616=p:=by omega
 rw [e1,e2,Z1M q]
 have e3:(((p:Nat):Int)+((q/4294967296:Nat):Int))%18446744073709551616=((p+q/4294967296:Nat):Int):=by omega
 rw [e3,Z1M,ZeH _ (by omega)]
 have e4:(((p+q/4294967296)%4294967296:Nat):Int)+((0:Nat):Int)%18446744073709551616=(((p+q/4294967296)%4294967296:Nat):Int):=by omega
 rw [e4]
 have e5:(((p+q/4294967296)%4294967296:Nat):Int)%18446744073709551616=(((p+q/4294967296)%4294967296:Nat):Int):=by omega
 rw [e5,Z1M]
 omega
structure DvE (x y c q4 q7 q8 q9 q10 q16 q11 q13 q14 q26 q17 q18:Int):Prop where
 ha:c=1000000
 hb:q4=44
 hd:q7=Zx .u64 c q4
 he:q8=Zm .u64 q7 32
 hf:q9=bOr .u64 (Zx .u64 x q4) (Zm .u64 y (u64.wrap (64-q4)))
 hg:q10=u64.wrap (Int.tdiv q9 q8)
 hh:q11=Zx .u64 y q4
 hi:q13=Zm .u64 q11 32
 hj:q14=Xt .u64 q11 4294967295
 hk:q16=u64.wrap (q9-u64.wrap (q10*q8))
 hl:q17=u64.wrap (u64.wrap (u64.wrap (q9*4294967296)+q13)-u64.wrap (q10*q7))
 hm:q18=u64.wrap (Int.tdiv q17 q8)
 hn:q26=u64.wrap (q17-u64.wrap (q18*q8))
theorem ZeJ (x:Nat):Zx .u64 x 44=((x*17592186044416%18446744073709551616:Nat):Int):=by
 have:=Zmv x 44 (by omega)
 simpa using this
theorem ZiY (x:Nat):Zm .u64 x 20=((x/1048576:Nat):Int):=by
 have:=ZkR x 20 (by omega)
 simpa using this
theorem Zmx (x y:Nat) (hx:x<1000000) (hy:y<17592186044416):bOr .u64 ((x*17592186044416:Nat):Int) (y:Int)=((x*17592186044416+y:Nat):Int):=by
 rw [orU _ _ (by omega) (by omega)]
 have h:x<<<44+y=x<<<44|||y:=Nat.shiftLeft_add_eq_or_of_lt (by simpa using hy) x
 rw [Nat.shiftLeft_eq] at h
 have e:(2:Nat)^44=17592186044416:=by decide
 rw [e] at h
 rw [h]
theorem ZkS (n m A:Nat) (hn:n<1000000) (hm:m<18446744073709551616) (hA:A=n*17592186044416+m/1048576):A<18446744073709551616/\A/4096000000<4294967296:=by
 constructor<;>omega
theorem ZkT (A u:Nat) (hu:u<1048576):(A%4096000000*4294967296+u*4096)/4096000000<4294967296:=by omega
theorem Zmy (n m A u:Nat) (hA:A=n*17592186044416+m/1048576) (hu:u=m%1048576):
  A/4096000000*4294967296+(A%4096000000*4294967296+u*4096)/4096000000=(n*18446744073709551616+m)/1000000:=by
 subst hA hu
 omega
theorem ZhI:Zx .u64 1000000 44=17592186044416000000:=by decide
theorem ZkU:Zm .u64 17592186044416000000 32=4096000000:=by decide
theorem ZkV:u64.wrap (64-44)=20:=by decide
theorem Zmz (n m A:Nat) (q9:Int) (hn:n<1000000) (hm:m<18446744073709551616) (hA:A=n*17592186044416+m/1048576) (hf:q9=bOr .u64 (Zx .u64 n 44) (Zm .u64 m 20)):q9=(A:Int):=by
 have h1:n*17592186044416%18446744073709551616=n*17592186044416:=Jx (by omega)
 rw [hf,ZeJ n,ZiY m,h1,Zmx n _ hn (by omega),hA]
theorem ZmA (m u:Nat) (q11 q13:Int) (hu:u=m%1048576) (hh:q11=Zx .u64 m 44) (hi:q13=Zm .u64 q11 32):q13=((u*4096:Nat):Int):=by
 rw [hi,hh,ZeJ m,Z1M,hu]
 omega
theorem ZkW (A:Nat) (q10:Int) (d:A/4096000000<4294967296) (hg:q10=u64.wrap (Int.tdiv (A:Int) 4096000000)):q10=((A/4096000000:Nat):Int):=by
 rw [JZ (by omega),Vp] at hg
 omega
theorem ZmB (A u:Nat) (q17:Int) (hu:u<1048576) (hl:q17=u64.wrap (u64.wrap (u64.wrap ((A:Int)*4294967296)+((u*4096:Nat):Int))-u64.wrap (((A/4096000000:Nat):Int)*17592186044416000000))):q17=((A%4096000000*4294967296+u*4096:Nat):Int):=by
 simp only [Vp] at hl
 omega
theorem DvE.vals {x y c q4 q7 q8 q9 q16 q11 q13 q14 q26 q17:Int} (D:DvE x y c q4 q7 q8 q9 q10 q16 q11 q13 q14 q26 q17 q18) {n m:Nat} (hx:x=n) (hy:y=m) (hn:n<1000000) (hm:m<18446744073709551616)
  (hAe:A=n*17592186044416+m/1048576) (hue:u=m%1048576):
  q8=4096000000/\q10=((A/4096000000:Nat):Int)/\q18=(((A%4096000000*4294967296+u*4096)/4096000000:Nat):Int):=by
 obtain ⟨hD,d1⟩:=ZkS n m A hn hm hAe
 have hu1:u<1048576:=by omega
 have d2:=ZkT A u hu1
 obtain ⟨hc,h4,hd,he,hf,hg,hh,hi,_,_,hl,hm',_⟩:=D
 have e7:q7=17592186044416000000:=by rw [hd,hc,h4];exact ZhI
 have e8:q8=4096000000:=by rw [he,e7];exact ZkU
 have e9:q9=(A:Int):=Zmz n m A q9 hn hm hAe (by rw [hf,h4,hx,hy,ZkV])
 have e13:=ZmA m u q11 q13 hue (by rw [hh,h4,hy]) hi
 have e10:q10=((A/4096000000:Nat):Int):=ZkW A q10 d1 (by rw [hg,e9,e8])
 have e17:=ZmB A u q17 hu1 (by rw [hl,e9,e13,e10,e7])
 exact ⟨e8,e10,ZkW _ q18 d2 (by rw [hm',e17,e8])⟩
theorem ZmC {n m:Nat} (hn:n<1000000) (hm:m<18446744073709551616) (hAe:A=n*17592186044416+m/1048576) (hue:u=m%1048576) (h1:q10=((A/4096000000:Nat):Int)) (h2:q18=(((A%4096000000*4294967296+u*4096)/4096000000:Nat):Int)):
  q10<4294967296/\q18<4294967296/\u64.wrap (u64.wrap (q10*4294967296)+q18)=(((n*18446744073709551616+m)/1000000:Nat):Int)%18446744073709551616:=by
 obtain ⟨_,d1⟩:=ZkS n m A hn hm hAe
 have d2:=ZkT A u (by omega)
 have d3:=Zmy n m A u hAe hue
 rw [<-d3]
 clear d3 hAe hue
 subst h1 h2
 simp only [Vp]
 generalize A/4096000000=a at*
 generalize (A%4096000000*4294967296+u*4096)/4096000000=b at*
 refine ⟨by omega,by omega,by omega⟩
theorem ZmD (u:Unit) :
  evF G0 40 183 [.int .u64 1000000] ⟨0,[]⟩ (XA (fun v=>v=.int .i64 44)):=by
 refine @Eq.mpr _ (AV.int i64 44=AV.int i64 44) (by kernel_rfl) ?_
 trivial
theorem ZkX (x y z:Int) (hz:z=Z4k x y):
  evF G0 40 155 [.int .u64 x,.int .u64 y] ⟨0,[]⟩ (XA (fun v=>v=.tuple [.int .u64 z,.int .u64 (u64.wrap (x*y))])):=by
 refine @Eq.mpr _ (let b:=wrap u64 (wrap u64 (Zm u64 x 32*Xt u64 y 4294967295)+Zm u64 (wrap u64 (Xt u64 x 4294967295*Xt u64 y 4294967295)) 32);let a:=[AV.int u64 (wrap u64 (x*y))];
 AV.tuple (AV.int u64 (wrap u64 (wrap u64 (wrap u64 (Zm u64 x 32*Zm u64 y 32)+Zm u64 b 32)+Zm u64 (wrap u64 (Xt u64 b 4294967295+wrap u64 (Xt u64 x 4294967295*Zm u64 y 32))) 32))::a)=AV.tuple (AV.int u64 z::a)) (by kernel_rfl) ?_
 conv=>zeta
 subst hz
 rfl
def lzX (s:Int):Yk:=fun args h K=>match args with
 | [.int .u64 n]=>n=1000000/\K (.int .i64 s)
 | _=>False
theorem ZiZ (args:List AV) (h:Z7) (K:AV->Prop) (hl:lzX 44 args h K):Zi PP 183 args h fun o h'=>∃v,o=.ret v/\h'=h/\K v:=by
 unfold lzX at hl
 split at hl
 ·obtain ⟨rfl,hK⟩:=hl
  exact X5 Zt rfl (ZmD ()) fun u hu=>hu▸hK
 ·exact hl.elim
def ZeK (q4 q7 q8 q9 q10 q16 q11 q13 q14:Int):St:=⟨135,[(15,.int .u64 q10),(10,.int .u64 0),(16,.int .u64 q16),(13,.int .u64 q13),(9,.int .u64 q8),(11,.int .u64 q9),(2,.int .u64 q7),(14,.int .u64 q14),(8,.int .u64 q4)],⟨0,[]⟩,[]⟩
def ZeL (q4 q7 q8 q10 q16 q17 q18 q14:Int):St:=⟨135,[(18,.int .u64 q18),(10,.int .u64 0),(16,.int .u64 q16),(14,.int .u64 q14),(9,.int .u64 q8),(15,.int .u64 q10),(17,.int .u64 q17),(2,.int .u64 q7),(8,.int .u64 q4)],⟨0,[]⟩,[]⟩
def dvN:St:=⟨135,[],⟨0,[]⟩,[]⟩
theorem ZeM (G:Zf) (f:FuncId) (id:Nat) (S:Nat->St->KE->Prop):(G.withL f id S).P=G.P:=rfl
theorem ZeN {x a b:Int} (h:u64.wrap (x*0)>u64.wrap (a+b)):False:=by
 simp only [Int.mul_zero,Vp] at h
 omega
theorem ZkY (q4 q7 q8 q9 q10 q16 q11 q13 q14:Int) (Z0 Z:Prop) (h:q10<4294967296) (hz:Z):
  ZF G0 20 156 0 0 (ZeK q4 q7 q8 q9 q10 q16 q11 q13 q14) (rdM 0 0 9 dvN (ZeK q4 q7 q8 q9 q10 q16 q11 q13 q14) dvN dvN Z0 Z False False):=by
 refine @Eq.mpr _ (let c:=wrap u64 (q16+q8);let b:=Z5 (q13=q13) (Z5 (q8=q8) (Z5 (q9=q9) (Z5 (q7=q7) (Z5 (q14=q14) (Z5 (q4=q4) Z)))));let a:=Z6 (decide (c>=4294967296)) (Z5 (wrap u64 (q10-1)=q10) (Z5 (c=q16) b)) Z0;
 Z6 (decide (q10>=4294967296)) a (Z6 (decide (wrap u64 (q10*0)>wrap u64 (wrap u64 (4294967296*q16)+q13))) a (Z5 (q10=q10) (Z5 (q16=q16) b)))) (by kernel_rfl) ?_
 conv=>zeta
 try simp only [vcA]
 try simp only [vcB]
 try simp only [vcC]
 exact ⟨fun hc=>absurd h (by omega),fun _=>⟨fun hc=>(ZeN hc).elim,fun _=>by simpa using hz⟩⟩
theorem ZkZ (q4 q7 q8 q10 q16 q17 q18 q14:Int) (Z0 Z:Prop) (h:q18<4294967296) (hz:Z):
  ZF G0 20 156 2 0 (ZeL q4 q7 q8 q10 q16 q17 q18 q14) (rdM 0 2 9 dvN (ZeL q4 q7 q8 q10 q16 q17 q18 q14) dvN dvN Z0 Z False False):=by
 refine @Eq.mpr _ (let c:=wrap u64 (q16+q8);let b:=Z5 (q14=q14) (Z5 (q8=q8) (Z5 (q10=q10) (Z5 (q17=q17) (Z5 (q7=q7) (Z5 (q4=q4) Z)))));let a:=Z6 (decide (c>=4294967296)) (Z5 (wrap u64 (q18-1)=q18) (Z5 (c=q16) b)) Z0;
 Z6 (decide (q18>=4294967296)) a (Z6 (decide (wrap u64 (q18*0)>wrap u64 (wrap u64 (4294967296*q16)+q14))) a (Z5 (q18=q18) (Z5 (q16=q16) b)))) (by kernel_rfl) ?_
 conv=>zeta
 try simp only [vcA]
 try simp only [vcB]
 try simp only [vcC]
 exact ⟨fun hc=>absurd h (by omega),fun _=>⟨fun hc=>(ZeN hc).elim,fun _=>by simpa using hz⟩⟩
noncomputable def ZeO (q4 q7 q8 q9 q10 q16 q11 q13 q14:Int):Zf:=G0.withL 156 0 (goM 0 (ZeK q4 q7 q8 q9 q10 q16 q11 q13 q14) (q10<4294967296) (Yx 0 0 9 (fun _=>False) (fun _=>True) (fun _=>False) (fun _=>False) (fun _=>ZeK q4 q7 q8 q9 q10 q16 q11 q13 q14) (fun _=>dvN) (fun _=>dvN)))
def dvT (A:St):Nat->St
 | 0=>A
 | _=>dvN
theorem ZeP (q4 q7 q8 q9 q10 q16 q11 q13 q14:Int):(ZeO q4 q7 q8 q9 q10 q16 q11 q13 q14).Ok:=
 Zf.withGoM (N:=20) (S:=dvT (ZeK q4 q7 q8 q9 q10 q16 q11 q13 q14)) Zt (by kernel_rfl) fun hC=>⟨rfl,fun i hi hg=>by
  obtain rfl:i=0:=by omega
  exact ZkY q4 q7 q8 q9 q10 q16 q11 q13 q14 _ True hC trivial⟩
noncomputable def ZhJ (q4 q7 q8 q9 q10 q16 q11 q13 q14 q26 q17 q18:Int):Zf:=(ZeO q4 q7 q8 q9 q10 q16 q11 q13 q14).withL 156 2 (goM 0 (ZeL q4 q7 q8 q10 q26 q17 q18 q14) (q18<4294967296) (Yx 2 0 9 (fun _=>False) (fun _=>True) (fun _=>False) (fun _=>False) (fun _=>ZeL q4 q7 q8 q10 q26 q17 q18 q14) (fun _=>dvN) (fun _=>dvN)))
theorem ZeQ (q4 q7 q8 q9 q10 q16 q11 q13 q14 q26 q17 q18:Int):(ZhJ q4 q7 q8 q9 q10 q16 q11 q13 q14 q26 q17 q18).Ok:=
 Zf.withL_join (H:=G0) (ZeP _ _ _ _ _ _ _ _ _) (by unfold ZeO;simp only [ZeM]) (Zf.withGoM (N:=20) (k:=0) (n:=0) (l:=9) (S:=dvT (ZeL q4 q7 q8 q10 q26 q17 q18 q14)) Zt (by kernel_rfl) fun hC=>⟨rfl,fun i hi hg=>by
  obtain rfl:i=0:=by omega
  exact ZkZ q4 q7 q8 q10 q26 q17 q18 q14 _ True hC trivial⟩)
noncomputable def Zl0 (s q4 q7 q8 q9 q10 q16 q11 q13 q14 q26 q17 q18:Int):Zf:=(ZhJ q4 q7 q8 q9 q10 q16 q11 q13 q14 q26 q17 q18).withP 183 (lzX s)
theorem ZgQ (q4 q7 q8 q9 q10 q16 q11 q13 q14 q26 q17 q18:Int):(Zl0 44 q4 q7 q8 q9 q10 q16 q11 q13 q14 q26 q17 q18).Ok:=Zf.withP_ok (ZeQ _ _ _ _ _ _ _ _ _ _ _ _) ZiZ
theorem ZmE (s x y c q4 q7 q8 q9 q10 q16 q11 q13 q14 q26 q17 q18 z r:Int) (n m:Nat) (D:DvE x y c q4 q7 q8 q9 q10 q16 q11 q13 q14 q26 q17 q18) (hs:s=44) (hx:x=n) (hy:y=m) (hn:n<1000000) (hm:m<18446744073709551616) (hz:z=(((n*18446744073709551616+m)/1000000:Nat):Int)%18446744073709551616) (hr:r=if x=0 then Int.tmod y c else Zm .u64 (u64.wrap (u64.wrap (u64.wrap (q17*4294967296)+q14)-u64.wrap (q18*q7))) q4):
  evF (Zl0 s q4 q7 q8 q9 q10 q16 q11 q13 q14 q26 q17 q18) 40 156 [.int .u64 x,.int .u64 y,.int .u64 c] ⟨0,[]⟩ (XA (fun v=>v=.tuple [.int .u64 z,.int .u64 r])):=by
 refine @Eq.mpr _ (let p:=decide (c≠0);let o:=AV.tuple [AV.int u64 z,AV.int u64 r];let a:=wrap u64 s;let d:=decide (0<=a);let h:=wrap u64 (64-a);let g:=Zx u64 c a;let b:=Zm u64 g 32;let f:=bOr u64 (Zx u64 x a) (Zm u64 y h);let n:=wrap u64 (Int.tdiv f b);let m:=Zx u64 y a;let e:=wrap u64 (wrap u64 (wrap u64 (q9*4294967296)+q13)-wrap u64 (q10*q7));let l:=wrap u64 (Int.tdiv e q8);let k:=(False->False)/\(False->False);
 Z6 (c==0) False
 (Z6 (decide (c<=x)) False
 (Z6 (x==0) (Z6 p (Z6 p (AV.tuple [AV.int u64 (wrap u64 (Int.tdiv y c)),AV.int u64 (Int.tmod y c)]=o) False) False)
 (c=1000000/\
 Z6 d
 (Z6 d
 (Z6 (decide (0<=h))
 (Z6 d
 (Z6 (decide (b≠0))
 (Z6 (decide (n=q10))
 (Z6 (decide (Xt u64 g 4294967295=0))
 (Z6 (decide (wrap u64 (f-wrap u64 (n*b))=q16))
 (Z6 (decide (Zm u64 m 32=q13))
 (Z6 (decide (b=q8))
 (Z6 (decide (f=q9))
 (Z6 (decide (g=q7))
 (Z6 (decide (Xt u64 m 4294967295=q14)) (Z6 (decide (a=q4)) (q10<4294967296/\∀(i:Nat),i<=0->(∀(j:Nat),j<i->(fun (x:Nat)=>False) j)->(True->Z6 (decide (q8≠0)) (Z6 (decide (l=q18)) (Z6 (decide (wrap u64 (e-wrap u64 (l*q8))=q26)) (Z6 (decide (q14=q14)) (Z6 (decide (q8=q8)) (Z6 (decide (q10=q10)) (Z6 (decide (e=q17)) (Z6 (decide (q7=q7)) (Z6 (decide (q4=q4)) (q18<4294967296/\∀(i:Nat),i<=0->(∀(j:Nat),j<i->(fun (x:Nat)=>False) j)->(True->Z6 (decide (0<=q4)) (AV.tuple [AV.int u64 (wrap u64 (wrap u64 (q10*4294967296)+q18)),AV.int u64 (Zm u64 (wrap u64 (wrap u64 (wrap u64 (q17*4294967296)+q14)-wrap u64 (q18*q7))) q4)]=o) False)/\k) False) False) False) False) False) False) False) False) False)/\k) False)
 False)
 False)
 False)
 False)
 False)
 False)
 False)
 False)
 False)
 False)
 False)
 False)
 False)))) (by kernel_rfl) ?_
 conv=>zeta
 obtain ⟨v1,v2,v3⟩:=D.vals hx hy hn hm rfl rfl
 obtain ⟨w1,w2,w3⟩:=ZmC hn hm rfl rfl v2 v3
 rw [<-hz] at w3
 obtain ⟨ha,hb,hd,he,hf,hg,hh,hi,hj,hk,hl,hm',hn'⟩:=D
 have hw:u64.wrap s=q4:=by rw [hs,hb];decide
 rw [hw]
 try simp only [Vh]
 try simp only [Z9Y]
 try simp only [Z2y]
 try simp only [Z6e]
 try simp only [Z9Z]
 try simp only [Za0]
 try simp only [Y_s]
 simp only [<-hd,<-he,<-hf,<-hh,<-hi,<-hj,<-hg,<-hk,<-hl,<-hm',<-hn',w3]
 have hc0:(c==0)=false:=by rw [ha];rfl
 have hq:q8≠0:=by rw [v1];decide
 have hmask:Xt .u64 q7 4294967295=0:=by rw [hd,ha,hb,ZhI];decide
 have hx0:0<=q4:=by rw [hb];decide
 refine ⟨hc0,by omega,fun hz0=> ?_,fun hz0=> ?_⟩
 ·have hz0:x=0:=by simpa using hz0
  obtain rfl:n=0:=by omega
  rw [if_pos hz0] at hr
  refine ⟨by omega,by omega, ?_⟩
  rw [hr,hz,ha,hy,JZ (by omega),Vp]
  simp only [Nat.zero_mul,Jo]
  rfl
 ·have hz0:x≠0:=by simpa using hz0
  rw [if_neg hz0] at hr
  simp only [true_and,forall_const,false_implies,implies_true,and_true]
  rw [hr]
  have hq6:0<=u64.wrap (64-q4):=by rw [Vp];omega
  simp [ha,hx0,hq,hmask,w1,w2,hq6]
theorem Y6.evV5 (hG:G.Ok) {n:Nat} {f:FuncId} {v:AV} (h:evF G n f args ⟨0,[]⟩ (XA fun u=>u=v)):Y6 G.P f args v 0 []:=by
 intro E w rs he hr
 refine (Z01 hG h E w rs he hr).mono ?_
 rintro e w' ⟨E₁,o,h',hK0,hev,hor⟩
 cases hor with
 | panic u r hr=>exact hK0.elim
 | ret u r hr=>
  unfold XA at hK0
  simp only at hK0
  split at hK0
  ·rename_i hu
   subst hK0
   refine ⟨E,r,rfl,⟨.refl E,⟨he.fresh,fun x B hx=>by simp [Z7.get,Zr] at hx,fun x B hx=>by simp [Z7.get,Zr] at hx,fun x y B B' b N N' hx=>by simp [Z7.get,Zr] at hx,fun a c hi=>hev.emb.imm a c (hev.le.imm a c hi),fun a c x B N _ hx=>by simp [Z7.get,Zr] at hx⟩,hev.size,hev.os,hev.tape,hev.output,hev.keep,fun b hb=> ?_,fun _ _ h=>h⟩,Zd.vplain (E:=E₁) (E':=E) (fun a c hi=>hev.imm a c hi) _ _ hu hr⟩
   obtain ⟨x,B,N,hx,_⟩:=hb
   simp [Z7.get,Zr] at hx
  ·exact hK0.elim
@[irreducible] def YE (a r:Int):Int:=((a.toNat*r.toNat/1000000:Nat):Int)
def Zj0 (M:Int->Int->Int):Yk:=fun args h K=>match args with
 | [.int .u64 x,.int .u64 y]=>K (.tuple [.int .u64 (M x y),.int .u64 (u64.wrap (x*y))])
 | _=>False
theorem ZgR (args:List AV) (h:Z7) (K:AV->Prop) (hl:Zj0 Z4k args h K):Zi PP 155 args h fun o h'=>∃v,o=.ret v/\h'=h/\K v:=by
 unfold Zj0 at hl
 split at hl
 ·exact X5 Zt rfl (ZkX _ _ _ rfl) fun u hu=>hu▸hl
 ·exact hl.elim
structure ZeR (x y z:Int) (n:Nat):Prop where
 hn:n<1000000*18446744073709551616
 hx:x=((n/18446744073709551616:Nat):Int)
 hy:y=((n%18446744073709551616:Nat):Int)
 hz:z=((n/1000000:Nat):Int)%18446744073709551616
def Zj1 (B:Int):Yk:=fun args h K=>match args with
 | [.int .u64 x,.int .u64 y,.int .u64 c]=>∃z n,c=B/\ZeR x y z n/\∀r,K (.tuple [.int .u64 z,.int .u64 r])
 | _=>False
theorem ZgS (args:List AV) (h:Z7) (K:AV->Prop) (hl:Zj1 1000000 args h K):Zi PP 156 args h fun o h'=>∃v,o=.ret v/\h'=h/\K v:=by
 unfold Zj1 at hl
 split at hl
 ·obtain ⟨z,n,rfl,⟨hn,rfl,rfl,hz⟩,hK⟩:=hl
  exact X5 (ZgQ _ _ _ _ _ _ _ _ _ _ _ _) rfl (ZmE 44 _ _ _ _ _ _ _ _ _ _ _ _ _ _ _ z _ _ _ ⟨rfl,rfl,rfl,rfl,rfl,rfl,rfl,rfl,rfl,rfl,rfl,rfl,rfl⟩ rfl rfl rfl (Nat.div_lt_of_lt_mul (by omega)) (Nat.mod_lt _ (by omega)) (by rw [hz];congr 3;omega) rfl) fun u hu=>hu▸hK _
 ·exact hl.elim
noncomputable def Zl1 (M:Int->Int->Int) (B:Int):Zf:=(G0.withP 155 (Zj0 M)).withP 156 (Zj1 B)
theorem ZgT:(Zl1 Z4k 1000000).Ok:=Zf.withP_ok (Zf.withP_ok Zt ZgR) ZgS
theorem ZmF (M:Int->Int->Int) (B a r z:Int) (c:Int) (hM:M=Z4k) (hc:c=B) (ha:0<=a/\a<=1125899906842624) (hr:0<=r/\r<=1000000) (hz:z=YE a r):
  evF (Zl1 M B) 40 154 [.int .u64 (u64.wrap r),.int .u64 c,.pview [.int .i64 a] 0] ⟨0,[]⟩ (XA (fun v=>v=.int .i64 z)):=by
 refine @Eq.mpr _ (let d:=wrap u64 a;let b:=wrap u64 r;
 ∃(z_1:Int),∃(n:Nat),c=B/\ZeR (M d b) (wrap u64 (d*b)) z_1 n/\∀(r:Int),AV.int i64 (wrap i64 z_1)=AV.int i64 z) (by kernel_rfl) ?_
 conv=>zeta
 try simp only [vcA]
 try simp only [vcB]
 try simp only [vcC]
 subst hM hc
 have e1:u64.wrap a=((a.toNat:Nat):Int):=by rw [Vp];omega
 have e2:u64.wrap r=((r.toNat:Nat):Int):=by rw [Vp];omega
 have hP:a.toNat*r.toNat<=1125899906842624*1000000:=Nat.mul_le_mul (by omega) (by omega)
 refine ⟨_,a.toNat*r.toNat,rfl,⟨by omega, ?_, ?_,rfl⟩,fun _=> ?_⟩
 ·rw [e1,e2]
  exact ZeI _ _ (by omega) (by omega)
 ·rw [e1,e2,Vp,<-Int.natCast_mul]
  omega
 ·rw [hz]
  unfold YE
  rw [Z9p (by omega) (by omega)]
  congr 1
  omega
structure AmR (a r:Int):Prop where
 ha:0<=a/\a<=1125899906842624
 hr:0<=r/\r<=1000000
def Zl2 (S:Int->Int->Int) (B:Int):Yk:=fun args h K=>X1 none h true 20 args fun x=>match x with
 | [.int .u64 r',.int .u64 c,.pview [.int .i64 a] 0]=>∃r,r'=u64.wrap r/\c=B/\AmR a r/\K (.int .i64 (S a r))
 | _=>False
theorem ZgU (args:List AV) (h:Z7) (K:AV->Prop) (hl:Zl2 YE 1000000 args h K):Zi PP 154 args h fun o h'=>∃v,o=.ret v/\h'=h/\K v:=by
 refine Y6.psumm (d:=20) (YB _ _ _ _ _ hl fun a ha=> ?_)
 split at ha
 ·obtain ⟨r,rfl,rfl,h1,hK⟩:=ha
  exact ⟨_,Y6.evV5 ZgT (ZmF Z4k 1000000 _ r _ _ rfl rfl h1.ha h1.hr rfl),fun _=>rfl,hK⟩
 ·exact ha.elim
noncomputable def ZhK (S:Int->Int->Int) (B:Int):Zf:=G0.withP 154 (Zl2 S B)
theorem ZeS:(ZhK YE 1000000).Ok:=Zf.withP_ok Zt ZgU
def Vq (S:Int->Int->Int) (b r a:Int):Int×Int:=
 if (0<=b/\b<=1125899906842624)/\(0<=r/\r<=1000000)/\0<=a/\a<=1125899906842624 then (if b+S a r>1125899906842624 then (0,150) else (b+S a r,0)) else (0,2)
theorem Z1N {a r:Int} (h:AmR a r):0<=YE a r/\YE a r<=1125899906842624:=by
 obtain ⟨h1,h2⟩:=h
 have hP:a.toNat*r.toNat<=1125899906842624*1000000:=Nat.mul_le_mul (by omega) (by omega)
 unfold YE
 omega
theorem Zj2 (S:Int->Int->Int) (B b r a v e:Int) (hB:B=1000000) (hS:∀a r,AmR a r->0<=S a r/\S a r<=1125899906842624) (hv:(v,e)=Vq S b r a):
  evF (ZhK S B) 40 66 [.agg [.int .i64 b,.int .i64 r],.int .i64 a] ⟨0,[]⟩ (XA (fun u=>u=.tuple [.int .i64 v,.int .i64 e])):=by
 refine @Eq.mpr _ (let f:=AV.int i64 0;let d:=AV.tuple [AV.int i64 v,AV.int i64 e];let c:=AV.tuple [f,AV.int i64 2]=d;let h:=wrap i64 (0+b);let g:=AV.tuple [f,AV.int i64 150]=d;
 Z6 (decide (b<0)) c (Z6 (decide (b>1125899906842624)) c (Z6 (decide (r<0)) c (Z6 (decide (r>1000000)) c (Z6 (decide (a<0)) c (Z6 (decide (a>1125899906842624)) c (Z6 (decide (r<0)) c (Z6 (decide (r>1000000)) c (∃(r_1:Int),
 let i:=wrap i64 (h+S a r_1);
 wrap u64 r=wrap u64 r_1/\1000000=B/\AmR a r_1/\Z6 (decide (b<0)) c (Z6 (decide (b>1125899906842624)) c (Z6 (decide (S a r_1<0)) c (Z6 (decide (S a r_1>1125899906842624)) c (Z6 (decide (h>1125899906842624)) g (Z6 (decide (i>1125899906842624)) g (AV.tuple [AV.int i64 i,f]=d))))))))))))))) (by kernel_rfl) ?_
 conv=>zeta
 try simp only [vcA]
 try simp only [vcB]
 try simp only [vcC]
 have key:∀w e',(v,e)=(w,e')->AV.tuple [.int .i64 w,.int .i64 e']=AV.tuple [.int .i64 v,.int .i64 e]:=fun w e' h=>by
  obtain ⟨rfl,rfl⟩:=Prod.mk.inj h
  rfl
 have bad:¬((0<=b/\b<=1125899906842624)/\(0<=r/\r<=1000000)/\0<=a/\a<=1125899906842624)->(v,e)=(0,2):=fun h=>by rw [hv];unfold Vq;rw [if_neg h]
 refine ⟨fun h=>key _ _ (bad (by omega)),fun h1=>⟨fun h=>key _ _ (bad (by omega)),fun h2=>⟨fun h=>key _ _ (bad (by omega)),fun h3=>⟨fun h=>key _ _ (bad (by omega)),fun h4=>⟨fun h=>key _ _ (bad (by omega)),fun h5=>⟨fun h=>key _ _ (bad (by omega)),fun h6=>⟨fun h=>key _ _ (bad (by omega)),fun h7=>⟨fun h=>key _ _ (bad (by omega)),fun h8=> ?_⟩⟩⟩⟩⟩⟩⟩⟩
 have hA:AmR a r:=⟨⟨by omega,by omega⟩,⟨by omega,by omega⟩⟩
 obtain ⟨s1,s2⟩:=hS a r hA
 have hc:(0<=b/\b<=1125899906842624)/\(0<=r/\r<=1000000)/\0<=a/\a<=1125899906842624:=by omega
 unfold Vq at hv
 rw [if_pos hc] at hv
 have e0:i64.wrap (0+b)=b:=by rw [Z9p (by omega) (by omega)];omega
 have e1:i64.wrap (b+S a r)=b+S a r:=Z9p (by omega) (by omega)
 refine ⟨r,rfl,hB.symm,hA,fun h=>by omega,fun _=>⟨fun h=>by omega,fun _=>⟨fun h=>by omega,fun _=>⟨fun h=>by omega,fun _=> ?_⟩⟩⟩⟩
 rw [e0,e1]
 refine ⟨fun h=>by omega,fun _=>⟨fun h=>key _ _ ?_,fun h=>key _ _ ?_⟩⟩
 ·rw [hv,if_pos h]
 ·rw [hv,if_neg h]
def ZgV (T:Int->Int->Int->Int×Int):Yk:=fun args h K=>match args with
 | [.agg [.int .i64 b,.int .i64 r],.int .i64 a]=>K (.tuple [.int .i64 (T b r a).1,.int .i64 (T b r a).2])
 | _=>False
theorem Zaz (args:List AV) (h:Z7) (K:AV->Prop) (hl:ZgV (Vq YE) args h K):Zi PP 66 args h fun o h'=>∃v,o=.ret v/\h'=h/\K v:=by
 unfold ZgV at hl
 split at hl
 ·exact X5 ZeS rfl (Zj2 YE 1000000 _ _ _ _ _ rfl (fun _ _=>Z1N) rfl) fun u hu=>hu▸hl
 ·exact hl.elim
structure I64 (x:Int):Prop where
 lo: -9223372036854775808<=x
 hi:x<9223372036854775808
structure AbR (a c b:Int):Prop where
 ha:I64 a
 hb:I64 b
 hc:0<=c/\c<=1125899906842624
def abV (a c b:Int):Bool:=decide (b+c<=a)
theorem ZmG (a c b:Int) (z:Bool) (h:AbR a c b) (hz:z=abV a c b):
  evF G0 40 67 [.int .i64 a,.int .i64 c,.int .i64 b] ⟨0,[]⟩ (XA (fun u=>u=.bool z)):=by
 refine @Eq.mpr _ (Z6 (decide (a>=b)) (AV.bool (decide (wrap u64 (wrap u64 a-wrap u64 b)>=wrap u64 c))=AV.bool z) (AV.bool false=AV.bool z)) (by kernel_rfl) ?_
 try simp only [vcA]
 try simp only [vcB]
 try simp only [vcC]
 obtain ⟨⟨h1,h2⟩,⟨h3,h4⟩,h5,h6⟩:=h
 subst hz
 unfold abV
 simp only [Vp]
 refine ⟨fun h=> ?_,fun h=> ?_⟩
 ·congr 1
  rw [JE,decide_eq_true_iff,decide_eq_true_iff]
  omega
 ·congr 1
  rw [eq_comm,decide_eq_false_iff_not]
  omega
def abS (A:Int->Int->Int->Bool):Yk:=fun args h K=>match args with
 | [.int .i64 a,.int .i64 c,.int .i64 b]=>AbR a c b/\K (.bool (A a c b))
 | _=>False
theorem Zj3 (args:List AV) (h:Z7) (K:AV->Prop) (hl:abS abV args h K):Zi PP 67 args h fun o h'=>∃v,o=.ret v/\h'=h/\K v:=by
 unfold abS at hl
 split at hl
 ·exact X5 Zt rfl (ZmG _ _ _ _ hl.1 rfl) fun u hu=>hu▸hl.2
 ·exact hl.elim
structure WG where
 base:Int
 rate:Int
 delta:Int
 soon:Int
 far:Int
def WG.c (p:WG):List AV:=[.int .i64 p.base,.int .i64 p.rate,.int .i64 p.delta,.int .i64 p.soon,.int .i64 p.far]
structure WG.Ok (p:WG):Prop where
 base:0<=p.base/\p.base<=1125899906842624
 rate:0<=p.rate/\p.rate<=1000000
 delta:0<=p.delta/\p.delta<=1000
 soon:0<=p.soon/\p.soon<=1000
 far:0<=p.far/\p.far<=1000
def Z1O (p:WG):Bool:=decide ((0<=p.base/\p.base<=1125899906842624)/\(0<=p.rate/\p.rate<=1000000)/\(0<=p.delta/\p.delta<=1000)/\(0<=p.soon/\p.soon<=1000)/\0<=p.far/\p.far<=1000)
theorem Z19 {p:WG}:Z1O p=true↔p.Ok:=by
 unfold Z1O
 rw [decide_eq_true_iff]
 exact ⟨fun ⟨a,b,c,d,e⟩=>⟨a,b,c,d,e⟩,fun ⟨a,b,c,d,e⟩=>⟨a,b,c,d,e⟩⟩
theorem ZgW {p:WG}:Z1O p=false↔¬p.Ok:=by rw [<-Z19,Bool.not_eq_true]
def Z7S (b:Bool):Int:=match b with|true=>0|false=>2
noncomputable def ZhL (T:Int->Int->Int->Int×Int):Zf:=G0.withP 66 (ZgV T)
theorem ZeT:(ZhL (Vq YE)).Ok:=Zf.withP_ok Zt Zaz
theorem Zl3 {S:Int->Int->Int} {b r:Int} (hS:S 0 r=0):(Vq S b r 0).2=0↔(0<=b/\b<=1125899906842624)/\(0<=r/\r<=1000000):=by
 unfold Vq
 rw [hS]
 split
 ·rename_i h
  rw [if_neg (by omega)]
  simp [h]
 ·rename_i h
  simp only [false_iff,show ((0:Int),(2:Int)).2=2 from rfl]
  omega
theorem Zj4 (r:Int):YE 0 r=0:=by unfold YE;simp
theorem Zl4 (T:Int->Int->Int->Int×Int) (p:WG) (z:Int) (hT:T=Vq YE) (hz:z=Z7S (Z1O p)):
  evF (ZhL T) 40 16 [.agg p.c] ⟨0,[]⟩ (XA (fun u=>u=.int .i64 z)):=by
 refine @Eq.mpr _ (let a:=AV.int i64 2=AV.int i64 z;
 Z6 ((T p.base p.rate 0).snd !=0) a (Z6 (decide (0<=p.delta)) (Z6 (!decide (p.delta<=1000)) a (Z6 (decide (0<=p.soon)) (Z6 (!decide (p.soon<=1000)) a (Z6 (decide (0<=p.far)) (Z6 (!decide (p.far<=1000)) a (AV.int i64 0=AV.int i64 z)) a)) a)) a)) (by kernel_rfl) ?_
 conv=>zeta
 try simp only [vcA]
 try simp only [vcB]
 try simp only [vcC]
 subst hT hz
 have yes:p.Ok->AV.int .i64 0=AV.int .i64 (Z7S (Z1O p)):=fun h=>by rw [Z19.2 h];rfl
 have no:¬p.Ok->AV.int .i64 2=AV.int .i64 (Z7S (Z1O p)):=fun h=>by rw [ZgW.2 h];rfl
 have nt:∀{x y:Int},(!decide (x<=y))=true->¬x<=y:=fun h=>by simpa using h
 have nf:∀{x y:Int},(!decide (x<=y))=false->x<=y:=fun h=>by simpa using h
 have t0:=Zl3 (S:=YE) (b:=p.base) (r:=p.rate) (Zj4 _)
 refine ⟨fun h=>no fun ho=> ?_,fun h=> ?_⟩
 ·have:=t0.2 ⟨ho.base,ho.rate⟩
  rw [this] at h
  cases h
 ·have h0:(Vq YE p.base p.rate 0).2=0:=by simpa using h
  obtain ⟨b1,b2⟩:=t0.1 h0
  refine ⟨fun h1=>⟨fun h=>no fun ho=>nt h ho.delta.2,fun h2=>⟨fun h3=>⟨fun h=>no fun ho=>nt h ho.soon.2,fun h4=>⟨fun h5=>⟨fun h=>no fun ho=>nt h ho.far.2,fun h6=>yes ⟨b1,b2,⟨h1,nf h2⟩,⟨h3,nf h4⟩,⟨h5,nf h6⟩⟩⟩,fun h=>no fun ho=>h ho.far.1⟩⟩,fun h=>no fun ho=>h ho.soon.1⟩⟩,fun h=>no fun ho=>h ho.delta.1⟩
def ZgX (Pb:WG->Bool):Yk:=fun args h K=>match args with
 | [.agg [.int .i64 a,.int .i64 b,.int .i64 c,.int .i64 d,.int .i64 e]]=>K (.int .i64 (Z7S (Pb ⟨a,b,c,d,e⟩)))
 | _=>False
theorem ZaA (args:List AV) (h:Z7) (K:AV->Prop) (hl:ZgX Z1O args h K):Zi PP 16 args h fun o h'=>∃v,o=.ret v/\h'=h/\K v:=by
 unfold ZgX at hl
 split at hl
 ·exact X5 ZeT rfl (Zl4 _ ⟨_,_,_,_,_⟩ _ rfl rfl) fun u hu=>hu▸hl
 ·exact hl.elim
structure WH where
 p:WG
 own:Bool
 id:Int
 amount:Int
 hash:LI
 expiry:Int
 stage:Int
 fin:Int
 secret:LI
 key:LI
 next:LI
 ham:Int
 hex:Int
 height:Int
def WH.hc (g:WH):List AV:=[.bool g.own,.int .i64 g.id,.int .i64 g.amount,.arr .u8 32 g.hash,.int .i64 g.expiry,.int .i64 g.stage,.int .i64 g.fin,.arr .u8 32 g.secret]
def WH.oc (g:WH):List AV:=[.arr .u8 32 g.key,.arr .u8 32 g.next,.int .i64 g.ham,.int .i64 g.hex]
structure WH.I (g:WH):Prop where
 a:I64 g.amount
 b:I64 g.expiry
 c:I64 g.ham
 d:I64 g.hex
 e:I64 g.height
def Z29 (T:Int->Int->Int->Int×Int) (Pb:WG->Bool) (A:Int->Int->Int->Bool) (g:WH):Int:=
 if ¬(Pb g.p=true/\(T g.p.base g.p.rate g.ham).2=0/\A g.amount (T g.p.base g.p.rate g.ham).1 g.ham=true) then 21 else if A g.expiry g.p.delta g.hex=false then 22 else if A g.hex (g.p.soon+1) g.height=false then 23 else if A g.expiry (g.p.far+1) g.height=true then 24 else 0
structure Z9q (T:Int->Int->Int->Int×Int):Prop where
 h:∀b r a,(T b r a).2=0->0<=(T b r a).1/\(T b r a).1<=1125899906842624
noncomputable def Zl5 (T:Int->Int->Int->Int×Int) (Pb:WG->Bool) (A:Int->Int->Int->Bool):Zf:=((G0.withP 66 (ZgV T)).withP 16 (ZgX Pb)).withP 67 (abS A)
theorem ZgY:(Zl5 (Vq YE) Z1O abV).Ok:=Zf.withP_ok (Zf.withP_ok (Zf.withP_ok Zt Zaz) ZaA) Zj3
theorem Zj5 {T:Int->Int->Int->Int×Int} {Pb:WG->Bool} {A:Int->Int->Int->Bool} {g:WH} {z:Int} (hT:Z9q T) (hP:∀p,Pb p=true->p.Ok) (hI:g.I) (hz:z=Z29 T Pb A g) (hp:Pb g.p=true):
  (((T g.p.base g.p.rate g.ham).snd !=0)=true->AV.int .i64 21=AV.int .i64 z)/\
    (((T g.p.base g.p.rate g.ham).snd !=0)=false->
     AbR g.amount (T g.p.base g.p.rate g.ham).fst g.ham/\
      ((!A g.amount (T g.p.base g.p.rate g.ham).fst g.ham)=true->AV.int .i64 21=AV.int .i64 z)/\
       ((!A g.amount (T g.p.base g.p.rate g.ham).fst g.ham)=false->
        AbR g.expiry g.p.delta g.hex/\
         ((!A g.expiry g.p.delta g.hex)=true->AV.int .i64 22=AV.int .i64 z)/\
          ((!A g.expiry g.p.delta g.hex)=false->
           AbR g.hex (i64.wrap (g.p.soon+1)) g.height/\
            ((!A g.hex (i64.wrap (g.p.soon+1)) g.height)=true->AV.int .i64 23=AV.int .i64 z)/\
             ((!A g.hex (i64.wrap (g.p.soon+1)) g.height)=false->
              AbR g.expiry (i64.wrap (g.p.far+1)) g.height/\
               (A g.expiry (i64.wrap (g.p.far+1)) g.height=true->AV.int .i64 24=AV.int .i64 z)/\
                (A g.expiry (i64.wrap (g.p.far+1)) g.height=false->AV.int .i64 0=AV.int .i64 z))))):=by
 have hO:=hP _ hp
 have o1:=hO.delta
 have o2:=hO.soon
 have o3:=hO.far
 have e1:i64.wrap (g.p.soon+1)=g.p.soon+1:=Z9p (by omega) (by omega)
 have e2:i64.wrap (g.p.far+1)=g.p.far+1:=Z9p (by omega) (by omega)
 rw [e1,e2]
 refine ⟨fun h=> ?_,fun h=> ?_⟩
 ·have h0:¬(T g.p.base g.p.rate g.ham).2=0:=by simpa using h
  rw [hz]
  unfold Z29
  rw [if_pos fun hh=>h0 hh.2.1]
 ·have h0:(T g.p.base g.p.rate g.ham).2=0:=by simpa using h
  refine ⟨⟨hI.a,hI.c,hT.h _ _ _ h0⟩,fun h1=> ?_,fun h1=> ?_⟩
  ·rw [hz]
   unfold Z29
   rw [if_pos fun hh=>by rw [hh.2.2] at h1;cases h1]
  ·have g1:A g.amount (T g.p.base g.p.rate g.ham).1 g.ham=true:=by simpa using h1
   have n1:¬ ¬(Pb g.p=true/\(T g.p.base g.p.rate g.ham).2=0/\A g.amount (T g.p.base g.p.rate g.ham).1 g.ham=true):=fun h=>h ⟨hp,h0,g1⟩
   rw [hz]
   unfold Z29
   rw [if_neg n1]
   refine ⟨⟨hI.b,hI.d,by omega,by omega⟩,fun h2=> ?_,fun h2=>⟨⟨hI.d,hI.e,by omega,by omega⟩,fun h3=> ?_,fun h3=>⟨⟨hI.b,hI.e,by omega,by omega⟩,fun h4=> ?_,fun h4=> ?_⟩⟩⟩
   all_goals simp_all
theorem Zl6 (T:Int->Int->Int->Int×Int) (Pb:WG->Bool) (A:Int->Int->Int->Bool) (g:WH) (z:Int) (hT:Z9q T) (hP:∀p,Pb p=true->p.Ok) (hI:g.I) (hz:z=Z29 T Pb A g):
  evF (Zl5 T Pb A) 40 15 [.agg g.p.c,.agg g.hc,.agg g.oc,.int .i64 g.height] ⟨0,[]⟩ (XA (fun u=>u=.int .i64 z)):=by
 refine @Eq.mpr _ (let b:=g.p;let m:=b.base;let l:=b.rate;let i:=b.delta;let k:=b.soon;let j:=b.far;let a:=AV.int i64 z;let h:=AV.int i64 21=a;let f:=g.ham;let r:=T m l f;let q:=r.fst;let e:=g.expiry;let d:=g.hex;let o:=wrap i64 (k+1);let c:=g.height;let n:=wrap i64 (j+1);
 Z6 (Z7S (Pb (WG.mk m l i k j)) !=0) h (Z6 (r.snd !=0) h (AbR g.amount q f/\Z6 (!A g.amount q f) h (AbR e i d/\Z6 (!A e i d) (AV.int i64 22=a) (AbR d o c/\Z6 (!A d o c) (AV.int i64 23=a) (AbR e n c/\Z6 (A e n c) (AV.int i64 24=a) (AV.int i64 0=a))))))) (by kernel_rfl) ?_
 conv=>zeta
 try simp only [vcA]
 try simp only [vcB]
 try simp only [vcC]
 refine ⟨fun h=> ?_,fun h=> ?_⟩
 ·have hp:¬Pb g.p=true:=fun hp=>by
   rw [show (⟨g.p.base,g.p.rate,g.p.delta,g.p.soon,g.p.far⟩:WG)=g.p from rfl,hp] at h
   cases h
  rw [hz]
  unfold Z29
  rw [if_pos fun hh=>hp hh.1]
 ·have hp:Pb g.p=true:=by
   cases hb:Pb g.p with
   | true=>rfl
   | false=>
    rw [show (⟨g.p.base,g.p.rate,g.p.delta,g.p.soon,g.p.far⟩:WG)=g.p from rfl,hb] at h
    cases h
  exact Zj5 hT hP hI hz hp
theorem Zj6:Z9q (Vq YE) where
 h b r a h:=by
  unfold Vq at h⊢
  split at h
  ·rename_i hc
   have:=Z1N (a:=a) (r:=r) ⟨hc.2.2,hc.2.1⟩
   rw [if_pos hc]
   split at h
   ·cases h
   ·rename_i hh
    rw [if_neg hh]
    show 0<=b+YE a r/\b+YE a r<=_
    omega
  ·cases h
def goF (V:WH->Int):Yk:=fun args h K=>match args with
 | [.agg [.int .i64 a,.int .i64 b,.int .i64 c,.int .i64 d,.int .i64 e],.agg [.bool o,.int .i64 i,.int .i64 am,.arr .u8 32 ha,.int .i64 ex,.int .i64 st,.int .i64 fi,.arr .u8 32 se],.agg [.arr .u8 32 ke,.arr .u8 32 ne,.int .i64 hm,.int .i64 hx],.int .i64 he]=>
  (⟨⟨a,b,c,d,e⟩,o,i,am,ha,ex,st,fi,se,ke,ne,hm,hx,he⟩:WH).I/\K (.int .i64 (V ⟨⟨a,b,c,d,e⟩,o,i,am,ha,ex,st,fi,se,ke,ne,hm,hx,he⟩))
 | _=>False
def goZ:WH->Int:=Z29 (Vq YE) Z1O abV
theorem Zj7 (args:List AV) (h:Z7) (K:AV->Prop) (hl:goF goZ args h K):Zi PP 15 args h fun o h'=>∃v,o=.ret v/\h'=h/\K v:=by
 unfold goF at hl
 split at hl
 ·exact X5 ZgY rfl (Zl6 _ _ _ ⟨⟨_,_,_,_,_⟩,_,_,_,_,_,_,_,_,_,_,_,_,_⟩ _ Zj6 (fun _ h=>Z19.1 h) hl.1 rfl) fun u hu=>hu▸hl.2
 ·exact hl.elim
structure ZeU (g:WH):Prop where
 a:g.ham<=g.amount
 b:g.p.base<=g.amount-g.ham
 c:g.hex<=g.expiry
 d:g.p.delta<=g.expiry-g.hex
 e:g.height<g.hex
theorem Zj8 {g:WH} (h:goZ g=0) (hp:Z1O g.p=true):ZeU g:=by
 have hO:=Z19.1 hp
 have o1:=hO.delta
 have o2:=hO.soon
 unfold goZ Z29 at h
 split at h
 ·cases h
 ·rename_i h1
  have h1:=Classical.not_not.1 h1
  split at h
  ·cases h
  ·rename_i h2
   split at h
   ·cases h
   ·rename_i h3
    have h2:abV g.expiry g.p.delta g.hex=true:=by simpa using h2
    have h3:abV g.hex (g.p.soon+1) g.height=true:=by simpa using h3
    have h4:=h1.2.2
    have ht:=h1.2.1
    unfold Vq at h4 ht
    split at ht
    ·rename_i hc
     rw [if_pos hc] at h4
     have hs:=Z1N (a:=g.ham) (r:=g.p.rate) ⟨hc.2.2,hc.2.1⟩
     split at ht
     ·cases ht
     ·rename_i hn
      rw [if_neg hn] at h4
      unfold abV at h2 h3 h4
      simp only [decide_eq_true_eq] at h2 h3 h4
      exact ⟨by omega,by omega,by omega,by omega,by omega⟩
    ·cases ht
def tlB (r:Nat->Nat):Nat->List (Nat×Blk)
 | 0=>[]
 | n+1=>(r n,.defd)::tlB r n
def tlD (r:Nat->Nat):Nat->List X4
 | 0=>[]
 | n+1=>.mark (r n)::tlD r n
def YS (j:Nat):Nat:=100+j
def tlV (b:Bool) (F:List (Nat×Blk)) (D:List X4) (s:St):St:=⟨s.n,s.t,⟨s.h.next,s.h.bs++F⟩,match b with|true=>D|false=>s.d⟩
def tlS (b:Bool) (i:Nat) (s:St):St:=tlV b (tlB YS i) (tlD YS i) s
structure Wv (k:Nat) (τ:Ren) (r:Nat->Nat) (i nx:Nat) (bs bs₂:List (Nat×Blk)) (od:Option (List X4)):Prop where
 d:∀l,od=some l->l=tlD r i
 g:∀j,j<i->Zr bs (r j)=some .defd
 lt:100+i<=nx
 inj:∀a b,a<i->b<i->r a=r b->a=b
 key:∀p∈τ,∀j,j<i->p.1≠100+j/\p.2≠r j
 low:∀j,j<i->(100+j<k->r j=100+j)/\(r j<k->r j=100+j)
 nf:∀p∈bs₂,∀j,j<i->p.1≠100+j
def Zl7 (k:Nat) (b:Bool) (r:Nat->Nat) (i:Nat) (τ:Ren) (s₂ s:St) (Z:Prop):Prop:=
 match Nat.ble k s₂.h.next&&ltB s₂.h.next s₂.h.bs&&ltR s₂.h.next τ&&Z7b k τ s₂.h.bs&&Nat.beq s.n s₂.n with
 | true=>Z79.eqT k τ s.t (eqH k τ s.h (match b with
  | true=>Wv k τ r i s₂.h.next s.h.bs s₂.h.bs (some s.d)/\Z
  | false=>eqD k τ (Wv k τ r i s₂.h.next s.h.bs s₂.h.bs none/\Z) s₂.d s.d) s₂.h.bs) s₂.t
 | false=>False
def wkT (k:Nat) (b:Bool) (r:Nat->Nat) (i:Nat) (s₂ s:St) (Z:Prop):Prop:=Zl7 k b r i (Zic k s₂ s) s₂ s Z
theorem Z4l {a b:List (Nat×Blk)} {y:Nat} {B:Blk} (h:Zr (a++b) y=some B):Zr a y=some B\/(Zr a y=none/\Zr b y=some B):=by
 induction a with
 | nil=>exact .inr ⟨rfl,h⟩
 | cons p l ih=>
  obtain ⟨z,C⟩:=p
  rw [List.cons_append,Zr] at h
  rw [Zr]
  split at h
  ·exact .inl h
  ·exact ih h
theorem Z2K {r:Nat->Nat} {y:Nat} {B:Blk}:∀{i:Nat},Zr (tlB r i) y=some B->∃j,j<i/\y=r j/\B=.defd
 | 0,h=>by cases h
 | i+1,h=>by
  rw [tlB,Zr] at h
  split at h
  ·rename_i hb
   cases h
   exact ⟨i,K9 _,(J0 hb).symm,rfl⟩
  ·obtain ⟨j,h1,h2,h3⟩:=Z2K h
   exact ⟨j,by omega,h2,h3⟩
theorem Z6u {r:Nat->Nat}:∀{i j:Nat},j<i->Zr (tlB r i) (r j)=some .defd
 | i+1,j,h=>by
  rw [tlB,Zr]
  split
  ·rfl
  ·rename_i hb
   have hne:j≠i:=fun e=>by subst e;simp at hb
   exact Z6u (by omega)
theorem Z7T {y x:Nat} (h:Z4v τ y=some x):(y,x)∈τ:=by
 induction τ with
 | nil=>cases h
 | cons p l ih=>
  obtain ⟨z,u⟩:=p
  rw [Z4v] at h
  split at h
  ·rename_i hb
   cases h
   rw [J0 hb]
   exact Jy
  ·exact Jh _ (ih h)
def tlE (E:Env) (k:Nat) (τ:Ren) (r:Nat->Nat) (i:Nat):Env:=⟨fun y=>if 100<=y/\y<100+i then E.blk (r (y-100)) else (E.ren k τ).blk y,E.imm⟩
theorem Z6v {k:Nat} {r:Nat->Nat} {i j:Nat} (h:j<i):(tlE E k τ r i).blk (100+j)=E.blk (r j):=by
 show (if 100<=100+j/\100+j<100+i then E.blk (r (100+j-100)) else _)=_
 rw [if_pos ⟨by omega,by omega⟩]
 congr 2
 omega
theorem Z2L {k:Nat} {r:Nat->Nat} {i y:Nat} (h:∀j,j<i->y≠100+j):(tlE E k τ r i).blk y=(E.ren k τ).blk y:=by
 show (if 100<=y/\y<100+i then _ else _)=_
 rw [if_neg]
 intro hh
 exact h (y-100) (by omega) (by omega)
theorem Z6w {k:Nat} {r:Nat->Nat} {i nx:Nat} {bs bs₂:List (Nat×Blk)} {od:Option (List X4)} (hT:Wv k τ r i nx bs bs₂ od):(E.ren k τ).le (tlE E k τ r i):=by
 refine ⟨fun y q hy=> ?_,fun a c h=>h⟩
 by_cases hj:∀j,j<i->y≠100+j
 ·rw [Z2L hj];exact hy
 ·have:∃j,j<i/\y=100+j:=Classical.byContradiction fun hn=>hj fun j h e=>hn ⟨j,h,e⟩
  obtain ⟨j,h,rfl⟩:=this
  rw [Z6v h]
  cases hr:rn k τ (100+j) with
  | none=>rw [Env.ren_none hr] at hy;cases hy
  | some x=>
   rw [Env.ren_some hr] at hy
   unfold rn at hr
   split at hr
   ·rename_i hb
    cases hr
    rw [(hT.low j h).1 (J9 hb)]
    exact hy
   ·exact absurd rfl (hT.key _ (Z7T hr) j h).1
theorem ZaB {E:Env} {k:Nat} {τ:Ren} {r:Nat->Nat} {i:Nat}:∀{n:Nat},n<=i->∀{rd:List Deferred},WR E (tlD r n) rd->WR (tlE E k τ r i) (tlD YS n) rd
 | 0,_,_,h=>by cases h;exact .nil
 | n+1,hn,_,h=>by
  cases h with
  | mark x b N ds rd hb t=>exact .mark _ b N _ _ ((Z6v (by omega)).trans hb) (ZaB (by omega) t)
theorem Z9r {k:Nat} {b:Bool} {r:Nat->Nat} {i:Nat} {s₂ s:St} {Z:Prop} (hl:wkT k b r i s₂ s Z):Z/\V2 k s (tlS b i s₂):=by
 unfold wkT at hl
 generalize Zic k s₂ s=τ at hl
 unfold Zl7 at hl
 split at hl
 case h_2=>exact hl.elim
 rename_i hb
 simp only [J1] at hb
 obtain ⟨⟨⟨⟨b1,b2⟩,b3⟩,b4⟩,b5⟩:=hb
 have b1:k<=s₂.h.next:=J9 b1
 have b5:s.n=s₂.n:=J0 b5
 obtain ⟨hl,hT⟩:=Z3E _ hl
 obtain ⟨hl,hH⟩:=Z67 _ hl
 have hDT:(∃od,Wv k τ r i s₂.h.next s.h.bs s₂.h.bs od)/\Z/\∀(E:Env) (rd:List Deferred),WR E s.d rd->WR (tlE E k τ r i) (tlS b i s₂).d rd:=by
  cases b with
  | true=>
   obtain ⟨hc,hz⟩:=hl
   refine ⟨⟨_,hc⟩,hz,fun E rd h=> ?_⟩
   rw [hc.d _ rfl] at h
   exact ZaB (J2 _) h
  | false=>
   obtain ⟨⟨hc,hz⟩,hd⟩:=Z68 _ _ hl
   exact ⟨⟨_,hc⟩,hz,fun E rd h=>(hd E rd h).mono (Z6w hc)⟩
 obtain ⟨⟨od,hC⟩,hz,hD⟩:=hDT
 refine ⟨hz,fun E0 h0 w0 E a w hk hs hev=> ?_⟩
 have he:=hs.emb
 have hnt:∀{y:Nat} {B:Blk},Zr s₂.h.bs y=some B->∀j,j<i->y≠100+j:=fun {y B} hy j hj=>by
  obtain ⟨B',hm⟩:=WW hy
  exact hC.nf _ hm j hj
 have hfr0:∀y,s₂.h.next<=y->(E.ren k τ).blk y=none:=fun y hy=>by
  refine Env.ren_none ?_
  unfold rn
  have:Nat.blt y k=false:=by
   cases hq:Nat.blt y k with
   | false=>rfl
   | true=>have:y<k:=J9 hq;omega
  rw [this]
  cases hg:Z4v τ y with
  | none=>rfl
  | some x=>have:=Z8N b3 y x hg;omega
 have hlt2:∀{y:Nat} {B:Blk},Zr s₂.h.bs y=some B->y<s₂.h.next:=fun {y B} hy=>by
  obtain ⟨B',hm⟩:=WW hy
  exact Z8M b2 y B' hm
 -- a name of the new state, and where it is from
 have hgo:∀{y:Nat} {B:Blk} {c M:Nat},Zr (s₂.h.bs++tlB YS i) y=some B->(tlE E k τ r i).blk y=some (c,M)->(∃x C,Zr s₂.h.bs y=some B/\rn k τ y=some x/\s.h.get x=some C/\E.blk x=some (c,M))\/∃j,j<i/\y=100+j/\s.h.get (r j)=some .defd/\E.blk (r j)=some (c,M):=by
  intro y B c M hy hb
  rcases Z4l hy with hy'|⟨_,hy'⟩
  ·rw [Z2L (hnt hy')] at hb
   rcases hH y B hy' with ⟨hn,_⟩|⟨x,C,hx,hC',_⟩
   ·rw [Env.ren_none hn] at hb;cases hb
   ·exact .inl ⟨x,C,hy',hx,hC',by rw [<-Env.ren_some hx];exact hb⟩
  ·obtain ⟨j,hj,rfl,rfl⟩:=Z2K hy'
   rw [show YS j=100+j from rfl,Z6v hj] at hb
   exact .inr ⟨j,hj,rfl,hC.g j hj,hb⟩
 have hmix:∀{y x j:Nat} {B:Blk},Zr s₂.h.bs y=some B->rn k τ y=some x->j<i->x≠r j:=by
  intro y x j B hy hx hj e
  unfold rn at hx
  split at hx
  ·rename_i hb
   cases hx
   have hyk:y<k:=J9 hb
   have:=(hC.low j hj).2 (e▸hyk)
   exact hnt hy j hj (e.trans this)
  ·exact (hC.key _ (Z7T hx) j hj).2 e
 have hemb:Emb (tlE E k τ r i) (tlS b i s₂).h w:=by
  refine ⟨?_, ?_, ?_, ?_,he.imm, ?_⟩
  ·intro y hy
   have hy:s₂.h.next<=y:=hy
   have:=hC.lt
   rw [Z2L fun j hj=>by omega]
   exact hfr0 y hy
  ·intro y B hy
   rcases Z4l hy with hy'|⟨_,hy'⟩
   ·exact hlt2 hy'
   ·obtain ⟨j,hj,rfl,_⟩:=Z2K hy'
    have:=hC.lt
    show 100+j<s₂.h.next
    omega
  ·intro y B hy
   rcases Z4l hy with hy'|⟨_,hy'⟩
   ·have eo:=Z2L (E:=E) (k:=k) (τ:=τ) (r:=r) (hnt hy')
    rcases hH y B hy' with ⟨hn,h1⟩|⟨x,C,hx,hC',h1⟩
    ·exact h1 _ w (by rw [eo];exact Env.ren_none hn)
    ·exact (h1 E w (he.own x C hC')).mono (Z6w hC) fun h=>by rw [eo];exact h
   ·obtain ⟨j,hj,rfl,rfl⟩:=Z2K hy'
    cases he.own _ _ (hC.g j hj) with
    | defd b' hb' hw=>exact .defd b' ((Z6v hj).trans hb') hw
  ·intro y z B C c M M' hy hz hby hbz
   rcases hgo hy hby with ⟨x,D,hy1,hx,hD',hbx⟩|⟨j,hj,rfl,hD',hbx⟩<;>rcases hgo hz hbz with ⟨x',D'',hz1,hx',hD'',hbx'⟩|⟨j',hj',rfl,hD'',hbx'⟩
   ·have:=he.disj x x' D D'' c M M' hD' hD'' hbx hbx'
    subst this
    obtain ⟨B',hm⟩:=WW hy1
    obtain ⟨C',hm'⟩:=WW hz1
    exact Z3F b4 y z B' C' x hm hm' hx hx'
   ·exact absurd (he.disj _ _ _ _ c M M' hD' hD'' hbx hbx') (hmix hy1 hx hj')
   ·exact absurd (he.disj _ _ _ _ c M' M hD'' hD' hbx' hbx) (hmix hz1 hx' hj)
   ·rw [hC.inj j j' hj hj' (he.disj _ _ _ _ c M M' hD' hD'' hbx hbx')]
  ·intro ad c y B M hi hy hb
   rcases hgo hy hb with ⟨x,D,_,hx,hD',hbx⟩|⟨j,hj,rfl,hD',hbx⟩
   ·exact he.sep ad c x D M hi hD' hbx
   ·exact he.sep ad c _ _ M hi hD' hbx
 refine ⟨tlE E k τ r i,⟨hemb,b5▸(hT E _ _ hs.tmps).mono (Z6w hC),hD E _ hs.defs⟩,⟨fun x q hx=> ?_,hev.le.imm⟩,hemb,hev.size,hev.os,hev.tape,hev.output,hev.keep,fun c ho=> ?_,hev.imm⟩
 ·have hlt:x<k:=by
   grind
  have hrx:rn k τ x=some x:=by
   unfold rn
   have:Nat.blt x k=true:=JV hlt
   rw [this]
  exact (Z6w hC).blk x q (by rw [Env.ren_some hrx];exact hev.le.blk x q hx)
 ·obtain ⟨y,B,M,hy,hb⟩:=ho
  rcases hgo hy hb with ⟨x,D,_,hx,hD',hbx⟩|⟨j,hj,rfl,hD',hbx⟩
  ·exact hev.own c ⟨x,D,M,hD',hbx⟩
  ·exact hev.own c ⟨_,_,M,hD',hbx⟩
def rdW (k id l:Nat) (S1 En Rn Jn:St) (go ex re jm:Prop):KE:=fun e s=>match e with
 | .normal=>go/\V2 k s S1
 | .exit x=>x=id/\ex/\V2 k s En
 | .ret=>re/\V2 k s Rn
 | .goto x=>x=l/\jm/\V2 k s Jn
 | .panic _=>False
theorem Zf.withGoW (hG:G.Ok) {f:FuncId} {id k N n l:Nat} {S En Rn Jn:Nat->St} {go ex re jm:Nat->Prop} {L:Nat->St->KE->Prop} (h1:Xy G.P f id=true)
  (hL:∀k' s X,L k' s X->k'=k/\(C/\Yx id n l go ex re jm En Rn Jn X)/\V2 k s (S 0))
  (hC:C->∀i,i<=n->(∀j,j<i->go j)->∃Y,ZF G N f id k (S i) Y/\∀e s,Y e s->rdW k id l (S (i+1)) (En i) (Rn i) (Jn i) (go i/\i<n) (ex i) (re i) (jm i) e s):
  (G.withL f id L).Ok:=by
 refine Zf.withL_ok hG h1 ?_
 intro k' s X hl
 obtain ⟨rfl,⟨hc,hX⟩,hw⟩:=hL k' s X hl
 refine ⟨{ t:Nat//t<=n/\∀j,j<t->go j},fun t=>n-t.1,fun t=>S t.1,⟨0,JN _,fun j hj=>by omega⟩,N,hw, ?_⟩
 rintro ⟨t,ht,hgo⟩
 obtain ⟨Y,hr,hY⟩:=hC hc t ht hgo
 refine ⟨Y,hr,fun e s' hys=> ?_⟩
 have h:=hY e s' hys
 cases e with
 | normal=>
  obtain ⟨⟨hg,hlt⟩,hw'⟩:=h
  refine ⟨⟨t+1,hlt,fun j hj=> ?_⟩,by show n-(t+1)<n-t;omega,hw'⟩
  by_cases e:j=t
  ·subst e;exact hg
  ·exact hgo j (by omega)
 | exit x=>
  obtain ⟨rfl,hex,hw'⟩:=h
  exact ⟨_,hw',(hX t ht hgo).1 hex⟩
 | ret=>exact ⟨_,h.2,(hX t ht hgo).2.1 h.1⟩
 | goto x=>
  obtain ⟨rfl,hjm,hw'⟩:=h
  exact ⟨_,hw',(hX t ht hgo).2.2 hjm⟩
 | panic v=>exact h.elim
def rdT (k id:Nat) (b:Bool) (r r0:Nat->Nat) (i i':Nat) (S1 En:St) (go ex:Prop):KE:=fun e s=>match e with
 | .normal=>wkT k b r i' S1 s go
 | .exit x=>(match Nat.beq x id with|true=>wkT k b r0 i En s ex|false=>False)
 | _=>False
theorem ZhM {k id l:Nat} {b:Bool} {r r0:Nat->Nat} {i i':Nat} {S1 En Rn Jn:St} {go ex re jm:Prop} {e:Ex} {s:St} (h:rdT k id b r r0 i i' S1 En go ex e s):rdW k id l (tlS b i' S1) (tlS b i En) Rn Jn go ex re jm e s:=by
 unfold rdT at h
 split at h
 ·exact Z9r h
 ·split at h
  ·rename_i hi
   exact ⟨J0 hi,Z9r h⟩
  ·exact h.elim
 ·exact h.elim
def goT (k:Nat) (b:Bool) (r:Nat->Nat) (i:Nat) (S0:St) (C:Prop) (ends:KE->Prop):Nat->St->KE->Prop:=fun k' s X=>match Nat.beq k' k with
 | true=>wkT k b r i S0 s (C/\ends X)
 | false=>False
theorem Zl8 {k:Nat} {b:Bool} {r:Nat->Nat} {i:Nat} {s:St} {X:KE} (h:goT k b r i S0 C ends k' s X):k'=k/\(C/\ends X)/\V2 k s (tlS b i S0):=by
 unfold goT at h
 split at h
 ·rename_i hk
  exact ⟨J0 hk,Z9r h⟩
 ·exact h.elim
theorem Zl9 {k:Nat} {s:St} {X:KE} (h:goM k S0 C ends k' s X):k'=k/\(C/\ends X)/\V2 k s S0:=by
 unfold goM at h
 split at h
 ·rename_i hk
  exact ⟨J0 hk,Yp h⟩
 ·exact h.elim
structure ZbV (bs:List (Nat×Blk)) (d:List X4):Prop where
 h:∃i,d=tlD YS i/\∀j,j<i->Zr bs (100+j)=some .defd
theorem U9 {p x y:Prop} [Decidable p] (h:Z5 p x) (hxy:x->y):Z5 p y:=by
 unfold Z5 at h⊢
 rw [Vh] at h⊢
 exact ⟨h.1,hxy h.2⟩
theorem Z7U {s:Nat} {inn:Nat} (h:QQ s cs inn K) (hk:∀v,K v->K' v):QQ s cs inn K':=by
 unfold QQ at h⊢
 repeat' split at h
 all_goals first|exact h.elim|exact hk _ h|exact U9 h (hk _)
theorem Z4m {P:Program} {t:TypeId} {inn:Nat} (h:Z1P P t cs inn K) (hk:∀v,K v->K' v):Z1P P t cs inn K':=by
 unfold Z1P at h⊢
 repeat' split at h
 all_goals first|exact h.elim|exact hk _ h|exact U9 h (hk _)|exact Z7U h hk
theorem Z9s {P:Program} {h:Z7} {t:TypeId} {x:AV} (hl:QA P h t x K) (hk:∀v,K v->K' v):QA P h t x K':=by
 unfold QA at hl⊢
 repeat' split at hl
 all_goals first
  | exact hl.elim
  | exact Z4m hl hk
  | exact U9 hl (hk _)
  | exact U9 hl fun hl=>Z4m hl hk
  | exact U9 hl fun hl=>hl.elim
theorem ZbW {P:Program} {h:Z7} {t:TypeId} {x:AV} {y:Nat} (hy:h.get y=some .defd) (hl:QA P h t x K):QA P (h.del y) t x K:=by
 unfold QA at hl⊢
 split at hl
 ·exact hl
 ·rename_i p
  by_cases e:p.blk=y
  ·rw [e,hy] at hl
   exact hl.elim
  ·rw [Z7.get_del_other h y p.blk (Ne.symm e)]
   exact hl
 ·exact hl.elim
theorem Z4n {P:Program} {s:St} {h:Z7} {y:Nat} (hy:h.get y=some .defd):∀{l:List ResultVar} {K:List AV->Prop},Z4t P { s with h:=h} l K->Z4t P { s with h:=h.del y} l K
 | [],_,h=>h
 | .tmp t::r,K,h=>by
  simp only [Z4t] at h⊢
  split at h
  ·exact Z4n hy h
  ·exact h.elim
 | .cell a T::r,K,hh=>by
  simp only [Z4t] at hh⊢
  split at hh
  ·refine ZbW hy (Z9s hh fun v hv=>Z4n hy hv)
  ·exact hh.elim
theorem Z7V {P:Program} {ev:FuncId->Code->St->KE->Prop} {fn:Func} {s:St} {K:AV->Prop} {nx:Nat}:∀{i:Nat} {bs:List (Nat×Blk)},(∀j,j<i->Zr bs (100+j)=some .defd)->Zfk P fn { s with h:=⟨nx,bs⟩} K->Vv P ev fn s (tlD YS i) .none ⟨nx,bs⟩ fun o _=>match o with|.ret v=>K v|.panic _=>False
 | 0,_,_,hK=>hK
 | i+1,bs,h,hK=>by
  have hg:(Z7.get ⟨nx,bs⟩ (YS i))=some .defd:=h i (K9 _)
  simp only [tlD,Vv,hg]
  refine Z7V (fun j hj=> ?_) (Z4n hg hK)
  have:=h j (by omega)
  have hne:YS i≠100+j:=by unfold YS;omega
  rw [<-YX bs _ _ hne] at this
  exact this
@[irreducible] def evX (G:Zf) (n:Nat) (f:FuncId) (args:List AV) (h:Z7) (K:AV->Prop):Prop:=match G.P.funcs[f]? with
 | some fn=>match fn.body,Nat.ble args.length fn.ntmps with
  | some c,true=>evC G (Z4u G n f none) h.next c ⟨fn.ntmps,Z0F 0 args,h,[]⟩ fun e s=>match e with
   | .ret=>Zfk G.P fn s K/\ZbV s.h.bs s.d
   | _=>False
  | _,_=>False
 | none=>False
theorem Zj9 (hG:G.Ok) {n:Nat} {f:FuncId} {h:Z7} (hl:evX G n f args h K):Zi G.P f args h fun o _=>match o with|.ret v=>K v|.panic _=>False:=by
 unfold evX at hl
 split at hl
 ·rename_i fn hf
  split at hl
  ·rename_i c hb hn
   intro E w rs he ha
   refine (callsIn_wide (n:=0)).1 ?_
   refine callsIn_of_wp_marks hf hb trivial ?_ rfl
   have hent:=Z1g (N:=fn.ntmps) ha (WL hn)
   have hmk:=Qi hG n
   have hcode:Yl G.P h.next none c _ _:=Z1i hG (hmk f none).1 (ro:=none) (fun _=>rfl) (fun _=>rfl) (fun _=>⟨fn,c,by rw [(hmk f none).2.1];exact hf,hb,fun _ hb=>hb⟩) hl
   refine wpIn_mono (hcode E h w E { tmps:=rs.toArray++Array.replicate (fn.ntmps-rs.toArray.size) undef,defers:=[]} w 0 he.fresh ⟨he,hent,.nil⟩ (.refl he)) ?_
   rintro e a' w' ⟨E',x,s',hx,hev,hs',hxe⟩
   cases hxe with
   | ret=>
    obtain ⟨hK,⟨i,hd,hg⟩⟩:=hx
    refine Qh (K:=fun o _=>match o with|.ret v=>K v|.panic _=>False) (s:=s') (ev:=fun _ _ _ _=>False) (fun g fn id ops rest _ _ s X h=>h.elim) s'.d a'.defers .none .returning s'.h E' w' ?_ hs'.emb hs'.tmps hev hs'.defs .none (by simp)
    rw [hd]
    exact Z7V hg hK
   | normal=>exact hx.elim
   | panic v r hv=>exact hx.elim
   | exit id=>exact hx.elim
   | goto l=>exact hx.elim
  ·exact hl.elim
 ·exact hl.elim
theorem ZaC {x:ZQ} (h:X.Inv Zh):(acX Zh Yj hhD x X).Inv Zh:=by
 unfold acX
 repeat' split
 ·exact h.tie _
 ·exact h.untie _ _
 ·exact h.lrn _
 ·exact h.ask _
 ·exact h.pay _
 ·exact h.fgt _
 ·exact h
def riE:ZS:=fun args h K=>∃T D,riS T D args h K
theorem Zja (args:List AV) (h:Z7) (K:KO) (hl:riE args h K):Zi PP 59 args h K:=by
 obtain ⟨T,D,hl⟩:=hl
 exact Ze8 T D args h K hl
noncomputable def Zjb (R:LI->Option Zb):Zf:=(((((G0.withF 8 ZiI).withF 59 riE).withF 10 Zes).withF 9 (Z9m R)).withF 13 ZiT).withP 6 Zea
theorem ZaD:(Zjb (rdX (ZB ZC))).Ok:=Zf.withP_ok (Zf.withF_ok (Zf.withF_ok (Zf.withF_ok (Zf.withF_ok (Zf.withF_ok Zt Zgr) Zja) Z6s) ZbT) ZgL) Zeb
noncomputable def ZhN (R:LI->Option Zb) (V:WH->Int) (Pb:WG->Bool):Zf:=((Zjb R).withP 15 (goF V)).withP 16 (ZgX Pb)
theorem ZeV:(ZhN (rdX (ZB ZC)) goZ Z1O).Ok:=Zf.withP_ok (Zf.withP_ok ZaD Zj7) ZaA
def Z2a:ZQ:=⟨0,Zq,h0,ZH,false,⟨false,0,0,h0,0,0,0,h0⟩,⟨h0,h0,0,0⟩,0⟩
def haR (A:List ZQ):Nat->List AV:=Vl Z2a ZQ.c A
def ZgZ (A:List ZQ):Nat->Zb
 | 0=>⟨[],[],[]⟩
 | i+1=>acX Zh Yj hhD (A.getD i Z2a) (ZgZ A i)
def Zh0 (A:List ZQ):Nat->Zb
 | 0=>⟨[],[],[]⟩
 | i+1=>acD Yj hhD (A.getD i Z2a) (Zh0 A i)
theorem Z7W (A:List ZQ):∀i,(ZgZ A i).Inv Zh
 | 0=>.nil
 | i+1=>ZaC (Z7W A i)
theorem Z7X (A:List ZQ):∀i,ZP (Zh0 A i)
 | 0=>⟨JN _,JN _,JN _⟩
 | i+1=>Zaq (Z7X A i)
def hoB (X D:Zb):List (Nat×Blk):=[(12,.rows 98 D.Q.length (quR D.Q)),(11,.rows 32 D.S.length (seR D.S)),(10,.rows 66 D.T.length (tiR D.T)),(9,.flat [.nslice ⟨10,0,66,0,0⟩ 66 D.T.length D.T.length,.nslice ⟨11,0,32,0,0⟩ 32 D.S.length D.S.length,.nslice ⟨12,0,98,0,0⟩ 98 D.Q.length D.Q.length]),(8,.flat [.map (some 4),.map (some 5),.map (some 6),.map (some 7)]),(7,.fmap X.Q.length (qkV X.Q) (quV X.Q)),(6,.fmap X.S.length (skV Zh X.S) (seV X.S)),(5,.fmap X.T.length (tkI X.T) (tiV X.T)),(4,.fmap X.T.length (tkO X.T) (tiV X.T)),(3,.flat [.bool false])]
def hoT (A:List ZQ) (n:Nat):ZO:=[(4,.vrows 303 n (haR A) n),(15,pt 8),(16,pt 9),(12,pt 3)]
def hoS (X D:Zb) (A:List ZQ) (n i:Nat):St:=⟨190,(17,.int .i64 i)::hoT A n,⟨200,hoB X D⟩,[]⟩
def hoE:St:=⟨190,[(12,pt 3)],⟨200,[(3,.flat [.bool false])]⟩,[]⟩
end Go.Tk
end
