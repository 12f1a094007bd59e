/- F: part 6 of an engine (a symbolic evaluator, proved against the model) and of the walk by it. -/
import Derived.Test.YthnfcmaoiebelaaGreatF5
import Derived.Test.YthnfcmaoiebelaaGreatRows
import Derived.ChangeOld
set_option linter.unusedVariables false
set_option linter.unusedSimpArgs false
set_option maxRecDepth 100000
set_option maxHeartbeats 0
section
namespace Go.Tk
open IntKind (i64 u8 u32 u64 wrap)
variable {α:Type} {j lo:Nat} {D X:Za} {W:Int->LI} {H:LI->LI} {xs ys:LI} {most:Int}
structure SRb {α:Type} (n:Nat) (lt:α->α->Bool) (L D:List α):Prop where
 s:SR lt L D
 len:L.length<=n
theorem SRb.perm {n:Nat} {lt:α->α->Bool} {L D:List α} (h:SRb n lt L D):D.Perm L:=h.s.perm
theorem SRb.sorted {n:Nat} {lt:α->α->Bool} {L D M:List α} (h:SRb n lt L D) (hm:M.Perm L) (ho:Uc lt M):M=D:=h.s.sorted hm ho
theorem Zfo:Go.Sort.SWO (Go.Proofs.ltOf cfS):=⟨Z0K,U3,V5⟩
theorem Zfp:Go.Sort.SWO (Go.Proofs.ltOf cfQ):=⟨fun x=>Z0K x.hash,fun x y z=>U3 x.hash y.hash z.hash,fun x y z=>V5 x.hash y.hash z.hash⟩
theorem Zlw (x y:H32) (r:Int) (hr:r=cfS x y):
  evF G0 40 55 [.agg (VF x),.agg (VF y)] ⟨0,[]⟩ (Vz (fun v=>v=.int .i64 r)):=by
 refine @Eq.mpr _ (Z4 (u8=u8/\x.v.length=32) (Z4 (u8=u8/\y.v.length=32) (AV.int i64 (cmpI x.v y.v)=AV.int i64 r))) (by kernel_rfl) ?_
 try simp only [vcA]
 try simp only [vcB]
 try simp only [vcC]
 exact ⟨x.l,y.l,by rw [hr,H32.cmpI];rfl⟩
theorem Zlx (x y:Zq) (r:Int) (hr:r=cfQ x y):
  evF G0 40 54 [.agg x.c,.agg y.c] ⟨0,[]⟩ (Vz (fun v=>v=.int .i64 r)):=by
 refine @Eq.mpr _ (let b:=x.hash.v;let a:=y.hash.v;
 Z4 (u8=u8/\b.length=32) (Z4 (u8=u8/\a.length=32) (AV.int i64 (cmpI b a)=AV.int i64 r))) (by kernel_rfl) ?_
 conv=>zeta
 try simp only [vcA]
 try simp only [vcB]
 try simp only [vcC]
 exact ⟨x.hash.l,y.hash.l,by rw [hr,H32.cmpI];rfl⟩
noncomputable def VL:Code:=rfA PP 163 0
noncomputable def VM:Code:=rfB PP 163 0
def Wv (T:List H32) (js:List Nat):List H32:=js.reverse.map fun j=>T.getD j h0
theorem Z4S (T:List H32) (j:Nat) (js:List Nat):Wv T (j::js)=Wv T js++[T.getD j h0]:=by simp [Wv]
theorem Zdm (T:List H32) (js:List Nat):(Wv T js).length=js.length:=by simp [Wv]
def vFS:AV:=.func (.func 146) [] [pt 1]
noncomputable def Zj4 (L:List H32) (m:Blk):List (Nat×Blk):=(7,.rows 32 L.length (seR L))::(4,.loop (Z3Y.mk .ready none 163 13 [(6,vFS),(4,.nilslice),(2,pt 2),(0,.nilslice),(1,vFS)] [7] VL VM 3))::(3,.defd)::(2,.flat [.nslice ⟨7,0,32,0,0⟩ 32 L.length L.length])::(1,.flat [.map (some 0)])::[(0,m)]
noncomputable def Zfq (T:List H32) (js:List Nat):St:=⟨15,[(6,.ptr (some ⟨6,0,0,0,0⟩)),(0,.yield 4)],⟨8,(6,.git 0 5 js)::Zj4 (Wv T js) (.froz (.fmap T.length ((skV Zf) T) (seV T)) 5)⟩,[]⟩
noncomputable def Zj5 (T:List H32) (js:List Nat):St:=⟨15,[(0,.yield 4)],⟨8,Zj4 (Wv T js) (.fmap T.length ((skV Zf) T) (seV T))⟩,[]⟩
theorem Zj6 (T:List H32) (js:List Nat) (go:Nat->Prop) (ex:Prop) (hn:T.length<=64) (hs:Yi T.length js) (hg:∀j,j<T.length->j∉js->go j) (hx:(∀j,j<T.length->j∈js)->ex):
  ZA G0 40 146 0 5 (Zfq T js) (rdS 5 0 6 (Zfq T) (Zj5 T) js go ex):=by
 refine @Eq.mpr _ (let b:=T.length;let a:=List.length (Wv T js);let g:=decide (a=a);let f:=a+1;let m:=[(7,11),(5,5),(6,6)];let e:=seR (Wv T js);let l:=LoopState.ready=LoopState.ready/\(none:Option Code)=none/\(163:FuncId)=163/\(13:Nat)=13/\[(7:Nat)]=[(7:Nat)]/\VL=VL/\VM=VM;let k:=decide (b=b);let c:=skV Zf T;let d:=seV T;let p:=[(7,7)];
 (∀(j:Nat),
 let i:=j::js;let o:=Wv T i;let h:=o.length;let n:=decide (f=h);
 j<b->¬List.Mem j js->Z0 g (Z4 (f*32<=140737488355328) (Z3S i i/\Z0 n (Z5 5 m h (seR o) (X8 a e (XD [AV.arr u8 32 (List.getD T j h0).v] 0 32))/\l/\Z0 n (Z4 (h<=f) (Z0 k (Z7 5 m b c d c d/\js=js/\go j)))))))/\
 ((∀(j:Nat),j<b->j∈js)->Z0 g (Z5 5 p a e e/\l/\Z0 g (Z4 (a<=a) (Z0 k (Z7 5 p b c d c d/\ex)))))) (by kernel_rfl) ?_
 conv=>zeta
 try simp only [vcA]
 try simp only [vcB]
 try simp only [vcC]
 have hM:∀τ,Z7 5 τ T.length ((skV Zf) T) (seV T) ((skV Zf) T) (seV T):=fun τ=>ZT (Z0B Zf _) fun _ _=>⟨rfl,rfl⟩
 have hl:=Zdm T js
 have hjl:=hs.len
 refine ⟨fun j hj hm=> ?_,fun hall=>⟨Zi Yh fun _ _=>rfl,hM _,hx hall⟩⟩
 have el:(Wv T js).length+1=(Wv T (j::js)).length:=by rw [Z4S,J3];rfl
 exact ⟨by omega,.refl _,el,Zi Yh fun i hi=>by
  have hi':i<(Wv T js).length+1:=by omega
  rw [Z4S]
  exact Y9 (x:=T.getD j h0) rfl hi',el,Jp el.symm,hM _,hg j hj hm⟩
theorem Z4T {T:List H32} {js:List Nat} (h:Yi T.length js) (ha:∀j,j<T.length->j∈js):(Wv T js).Perm T:=by
 have h1:(js.reverse).Perm (List.range T.length):=(List.reverse_perm js).trans (h.perm ha)
 have h2:=h1.map fun j=>T.getD j h0
 have h3:(List.range T.length).map (fun j=>T.getD j h0)=T:=by
  apply List.ext_getElem
  ·simp
  ·intro i h1 h2
   simp only [List.getElem_map,List.getElem_range]
   rw [Qc h2]
 rw [h3] at h2
 exact h2
noncomputable def Zgt (T:List H32):Zg:=G0.withL 146 0 (goM 5 (Zfq T []) (T.length<=64) (Z9F 0 (Yi T.length) (fun js=>∀j,j<T.length->j∈js) (Zj5 T)))
theorem Zdn (T:List H32):(Zgt T).Ok:=
 Zg.withGoS (N:=40) (g:=6) (n:=T.length) (S:=Zfq T) Zv (by kernel_rfl) fun hC=>⟨rfl,Yi.nil _,fun js hs=>⟨hs.len,Zj6 T js _ _ hC hs (fun j hj hm=>hs.cons hj hm) fun h=>h⟩⟩
def encS (h:H32):List Value:=intCells .u8 32 h.v++[]
theorem Z1j (E:Env) (h:H32):Zm E (VF h) (encS h):=.arr _ _ _ _ _ .nil
theorem Zdo (E:Env) (h:H32) (vs:List Value) (hc:Zm E (VF h) vs):vs=encS h:=by
 unfold VF at hc
 obtain ⟨w0,rfl,k0⟩:=hc.cons_arr
 cases k0
 rfl
theorem ZaV (h:H32):(encS h).length=32:=by
 obtain ⟨E,_⟩:=VK
 have:=(Z1j E h).length
 simpa [VF,csz] using this
theorem ZaW (h:H32):∀v∈encS h,v.oneCell'=true:=by
 obtain ⟨E,_⟩:=VK
 exact (Z1j E h).all_one
theorem Zj7 (f:Nat->List AV) (lo:Nat) :
  evF G0 60 145 [.nslice ⟨0,0,32,0,0⟩ 32 0 lo,.func (.func 55) [] []] ⟨1,[(0,.rows 32 0 f)]⟩ (Y4 1 (.ret (.tuple [])) 1 [(0,.rows 32 0 f)]):=by
 refine @Eq.mpr _ (Z5 1 [] 0 f f/\True) (by kernel_rfl) ?_
 try simp only [vcA]
 try simp only [vcB]
 try simp only [vcC]
 exact Qa (fun i hi=>absurd hi (JC i)) (fun i hi=>absurd hi (JC i)) fun i hi=>absurd hi (JC i)
theorem Zfr {T D M:List H32} {n:Nat} {f:Nat->List AV} (hM:M.Perm T) (hn:M.length=n) (h0:0<n) (hf:∀i,i<n->f i=seR M i) (h:SRb 64 ltS T D):Spec PP 145 [.nslice ⟨0,0,32,0,0⟩ 32 n lo,.func (.func 55) [] []] ⟨1,[(0,.rows 32 n f)]⟩ (.ret (.tuple [])) 1 [(0,.rows 32 n (seR D))]:=
 Z1h (L:=Zj2) (k:=32) Go.Proofs.Tryz.isAgg31 Go.Proofs.Tryz.sizeOf31 (c:=VF) ZaV (by decide) ZaW Zdo Z1j Zfo (g:=55)
  (fun _ _=>Go.Proofs.enters_of Go.Proofs.Tryz.func55 (by kernel_rfl) rfl _ _) (fun x y=>Y8.evW6 Zv (Zlw x y _ rfl)) hn h0 (by have:=h.len;have:=hM.length_eq;omega) hf (fun _ _=>rfl)
  (fun l' hp ho=>h.sorted (hp.trans hM) ho)
theorem QZ (L:List H32) (i:Nat):YA (seR L i)=true:=Yh.p _
def Z5T (T D:List H32):ZJ:=fun args h K=>match args with
 | [.nslice ⟨b,0,32,0,0⟩ 32 _ _,_]=>frA [b] h 20 args fun Bs a=>match Bs,a with
  | [.rows 32 n f],[.nslice ⟨0,0,32,0,0⟩ 32 n' _,.func (.func 55) [] []]=>∃M,(n'=n/\M.length=n/\f=seR M)/\M.Perm T/\SRb 64 ltS T D/\K (.ret (.tuple [])) ⟨h.next,(b,.rows 32 n (seR D))::ZK h.bs b⟩
  | _,_=>False
 | _=>False
theorem Z8A (T D:List H32) (args:List AV) (h:Z6) (K:KO) (hl:Z5T T D args h K):Zh PP 145 args h K:=by
 unfold Z5T at hl
 split at hl
 ·refine Spec.fsumm hl fun Bs a hlen hK0=> ?_
  split at hK0
  ·rename_i n f n' lo
   obtain ⟨M,⟨rfl,hn,rfl⟩,hM,hT,hK⟩:=hK0
   rcases JD n' with h0|h0
   ·subst h0
    have hMn:M=[]:=Jm hn
    have hDn:D=[]:=by
     have:=hT.perm.length_eq
     have:=hM.length_eq
     exact Jm (by omega)
    subst hMn hDn
    exact ⟨_,_,_,_,_,.evM Zv (Zj7 (seR []) lo),by simp,.ret _ _ rfl,.cons _ _ _ _ _ _ rfl (.rows _ _ _ (fun i _=>QZ [] i)) .nil,hK⟩
   ·exact ⟨_,_,_,_,_,Zfr hM hn h0 (fun _ _=>rfl) hT,by simp,.ret _ _ rfl,.cons _ _ _ _ _ _ rfl (.rows _ _ _ (fun i _=>QZ D i)) .nil,hK⟩
  ·exact hK0.elim
 ·exact hl.elim
noncomputable def Zdp (T D:List H32):Zg:=(Zgt T).withF 145 (Z5T T D)
theorem ZaX (T D:List H32):(Zdp T D).Ok:=Zg.withF_ok (Zdn T) (Z8A T D)
theorem Zj8 (T D:List H32) (n:Nat) (h:SRb 64 ltS T D) (hn:n=D.length):
  evF (Zdp T D) 40 92 [.map (some 0),.func (.func 55) [] []] ⟨1,[(0,.fmap T.length ((skV Zf) T) (seV T))]⟩ (Y4 1 (.ret (.nslice ⟨1,0,32,0,0⟩ 32 n n)) 2 [(0,.fmap T.length ((skV Zf) T) (seV T)),(1,.rows 32 n (seR D))]):=by
 refine @Eq.mpr _ (Z3S [] []/\
 (LoopState.ready=LoopState.ready/\(none:Option Code)=none/\(163:Nat)=(163:FuncId)/\(13:Nat)=(13:Nat)/\[(7:Nat)]=[(7:Nat)]/\VL=VL/\VM=VM)/\
 Z4 (T.length=T.length) (Z7 (5:Nat) [((5:Nat),(5:Nat)),((6:Nat),(6:Nat))] (T.length) (skV Zf T) (seV T) (skV Zf T) (seV T)/\T.length<=(64:Nat)/\∀(js:List Nat),Yi (T.length) js->(∀(j:Nat),j<T.length->j∈js)->(∀(i:Nat),i<List.length (Wv T js)->true=true)/\∃(M:List H32),(List.length (Wv T js)=List.length (Wv T js)/\M.length=List.length (Wv T js)/\seR (Wv T js)=seR M)/\List.Perm M T/\SRb (64:Nat) ltS T D/\Z4 (List.length (Wv T js)=n) (Z4 (n<=List.length (Wv T js)) (Z4 (T.length=T.length) (Z7 (1:Nat) [((1:Nat),(7:Nat))] (T.length) (skV Zf T) (seV T) (skV Zf T) (seV T)/\Z4 (List.length (Wv T js)=n) (Z5 (1:Nat) [((1:Nat),(7:Nat))] n (seR D) (seR D)/\True)))))) (by kernel_rfl) ?_
 try simp only [vcA]
 try simp only [vcB]
 try simp only [vcC]
 have hM:∀k τ,Z7 k τ T.length ((skV Zf) T) (seV T) ((skV Zf) T) (seV T):=fun k τ=>ZT (Z0B Zf _) fun _ _=>⟨rfl,rfl⟩
 refine ⟨.refl _,hM _ _,h.len,fun js hs ha=>⟨fun _ _=>trivial,Wv T js,⟨rfl,rfl⟩,Z4T hs ha,h, ?_⟩⟩
 have el:(Wv T js).length=n:=by rw [hn,(Z4T hs ha).length_eq,h.perm.length_eq]
 exact ⟨el,Jp el.symm,hM _ _,el,Zi Yh fun _ _=>rfl⟩
def Zfs (T D:List H32):ZJ:=fun args h K=>match args with
 | [.map (some o),_]=>frA [o] h 20 args fun Bs a=>match Bs,a with
  | [.fmap n kf vf],[.map (some 0),.func (.func 55) [] []]=>(n=T.length/\kf=(skV Zf) T/\vf=seV T)/\SRb 64 ltS T D/\K (.ret (.nslice ⟨h.next,0,32,0,0⟩ 32 D.length D.length)) ⟨h.next+1,(o,.fmap T.length ((skV Zf) T) (seV T))::(h.next,.rows 32 D.length (seR D))::ZK h.bs o⟩
  | _,_=>False
 | _=>False
theorem Z9G (T D:List H32) (args:List AV) (h:Z6) (K:KO) (hl:Zfs T D args h K):Zh PP 92 args h K:=by
 unfold Zfs at hl
 split at hl
 ·refine Spec.fsumm hl fun Bs a hlen hK0=> ?_
  split at hK0
  ·obtain ⟨⟨rfl,rfl,rfl⟩,hT,hK⟩:=hK0
   exact ⟨_,_,_,_,_,.evM (ZaX T D) (Zj8 T D _ hT rfl),by simp,.ret _ _ rfl,.cons _ _ _ _ _ _ rfl (.fmap _ _ _ (fun i _=>⟨rfl,rfl⟩)) (.cons _ _ _ _ _ _ rfl (.rows _ _ _ (fun i _=>QZ D i)) .nil),hK⟩
  ·exact hK0.elim
 ·exact hl.elim
noncomputable def VN:Code:=rfA PP 147 0
noncomputable def VO:Code:=rfB PP 147 0
def Ww (T:List Zq) (js:List Nat):List Zq:=js.reverse.map fun j=>T.getD j ZB
theorem Z4U (T:List Zq) (j:Nat) (js:List Nat):Ww T (j::js)=Ww T js++[T.getD j ZB]:=by simp [Ww]
theorem Zdq (T:List Zq) (js:List Nat):(Ww T js).length=js.length:=by simp [Ww]
def vFQ:AV:=.func (.func 125) [] [pt 1]
noncomputable def Zj9 (L:List Zq) (m:Blk):List (Nat×Blk):=(7,.rows 98 L.length (quR L))::(4,.loop (Z3Y.mk .ready none 147 13 [(6,vFQ),(4,.nilslice),(2,pt 2),(0,.nilslice),(1,vFQ)] [7] VN VO 3))::(3,.defd)::(2,.flat [.nslice ⟨7,0,98,0,0⟩ 98 L.length L.length])::(1,.flat [.map (some 0)])::[(0,m)]
noncomputable def Zft (T:List Zq) (js:List Nat):St:=⟨15,[(6,.ptr (some ⟨6,0,0,0,0⟩)),(0,.yield 4)],⟨8,(6,.git 0 5 js)::Zj9 (Ww T js) (.froz (.fmap T.length (qkV T) (quV T)) 5)⟩,[]⟩
noncomputable def Zja (T:List Zq) (js:List Nat):St:=⟨15,[(0,.yield 4)],⟨8,Zj9 (Ww T js) (.fmap T.length (qkV T) (quV T))⟩,[]⟩
theorem Zjb (T:List Zq) (js:List Nat) (go:Nat->Prop) (ex:Prop) (hn:T.length<=16) (hs:Yi T.length js) (hg:∀j,j<T.length->j∉js->go j) (hx:(∀j,j<T.length->j∈js)->ex):
  ZA G0 40 125 0 5 (Zft T js) (rdS 5 0 6 (Zft T) (Zja T) js go ex):=by
 refine @Eq.mpr _ (let b:=T.length;let a:=List.length (Ww T js);let h:=decide (a=a);let g:=a+1;let n:=[(7,11),(5,5),(6,6)];let f:=quR (Ww T js);let m:=LoopState.ready=LoopState.ready/\(none:Option Code)=none/\(147:FuncId)=147/\(13:Nat)=13/\[(7:Nat)]=[(7:Nat)]/\VN=VN/\VO=VO;let l:=decide (b=b);let d:=qkV T;let e:=quV T;let q:=[(7,7)];
 (∀(j:Nat),
 let k:=j::js;let p:=Ww T k;let i:=p.length;let o:=decide (g=i);let c:=List.getD T j ZB;
 j<b->¬List.Mem j js->Z0 h (Z4 (g*112<=140737488355328) (Z3S k k/\Z0 o (Z5 5 n i (quR p) (X8 a f (XD [AV.arr u8 32 c.hash.v,AV.arr u8 32 c.key.v,AV.int i64 c.amount,AV.int i64 c.least,AV.arr u8 32 c.secret.v] 0 98))/\m/\Z0 o (Z4 (i<=g) (Z0 l (Z7 5 n b d e d e/\js=js/\go j)))))))/\
 ((∀(j:Nat),j<b->j∈js)->Z0 h (Z5 5 q a f f/\m/\Z0 h (Z4 (a<=a) (Z0 l (Z7 5 q b d e d e/\ex)))))) (by kernel_rfl) ?_
 conv=>zeta
 try simp only [vcA]
 try simp only [vcB]
 try simp only [vcC]
 have hM:∀τ,Z7 5 τ T.length (qkV T) (quV T) (qkV T) (quV T):=fun τ=>ZT (Z1K _) fun _ _=>⟨rfl,rfl⟩
 have hl:=Zdq T js
 have hjl:=hs.len
 refine ⟨fun j hj hm=> ?_,fun hall=>⟨Zi Yc fun _ _=>rfl,hM _,hx hall⟩⟩
 have el:(Ww T js).length+1=(Ww T (j::js)).length:=by rw [Z4U,J3];rfl
 exact ⟨by omega,.refl _,el,Zi Yc fun i hi=>by
  have hi':i<(Ww T js).length+1:=by omega
  rw [Z4U]
  exact Y9 (x:=T.getD j ZB) rfl hi',el,Jp el.symm,hM _,hg j hj hm⟩
theorem Z4V {T:List Zq} {js:List Nat} (h:Yi T.length js) (ha:∀j,j<T.length->j∈js):(Ww T js).Perm T:=by
 have h1:(js.reverse).Perm (List.range T.length):=(List.reverse_perm js).trans (h.perm ha)
 have h2:=h1.map fun j=>T.getD j ZB
 have h3:(List.range T.length).map (fun j=>T.getD j ZB)=T:=by
  apply List.ext_getElem
  ·simp
  ·intro i h1 h2
   simp only [List.getElem_map,List.getElem_range]
   rw [XU h2]
 rw [h3] at h2
 exact h2
noncomputable def Zgu (T:List Zq):Zg:=G0.withL 125 0 (goM 5 (Zft T []) (T.length<=16) (Z9F 0 (Yi T.length) (fun js=>∀j,j<T.length->j∈js) (Zja T)))
theorem Zdr (T:List Zq):(Zgu T).Ok:=
 Zg.withGoS (N:=40) (g:=6) (n:=T.length) (S:=Zft T) Zv (by kernel_rfl) fun hC=>⟨rfl,Yi.nil _,fun js hs=>⟨hs.len,Zjb T js _ _ hC hs (fun j hj hm=>hs.cons hj hm) fun h=>h⟩⟩
def Zfu (h:Zq):List Value:=intCells .u8 32 h.hash.v++(intCells .u8 32 h.key.v++(.int .i64 h.amount::.int .i64 h.least::(intCells .u8 32 h.secret.v++[])))
theorem Z1k (E:Env) (h:Zq):Zm E h.c (Zfu h):=
 .arr _ _ _ _ _ (.arr _ _ _ _ _ (.one _ _ _ _ rfl rfl (.int _ _) (.one _ _ _ _ rfl rfl (.int _ _) (.arr _ _ _ _ _ .nil))))
theorem Zds (E:Env) (h:Zq) (vs:List Value) (hc:Zm E h.c vs):vs=Zfu h:=by
 unfold Zq.c at hc
 obtain ⟨w0,rfl,k0⟩:=hc.cons_arr
 obtain ⟨w1,rfl,k1⟩:=k0.cons_arr
 obtain ⟨c2,w2,rfl,_,_,h2,k2⟩:=k1.cons_cell (by intros;simp)
 obtain ⟨c3,w3,rfl,_,_,h3,k3⟩:=k2.cons_cell (by intros;simp)
 obtain ⟨w4,rfl,k4⟩:=k3.cons_arr
 cases k4
 cases h2;cases h3
 rfl
theorem ZaY (h:Zq):(Zfu h).length=98:=by
 obtain ⟨E,_⟩:=VK
 have:=(Z1k E h).length
 simpa [Zq.c,csz] using this
theorem ZaZ (h:Zq):∀v∈Zfu h,v.oneCell'=true:=by
 obtain ⟨E,_⟩:=VK
 exact (Z1k E h).all_one
theorem Zjc (f:Nat->List AV) (lo:Nat) :
  evF G0 60 124 [.nslice ⟨0,0,98,0,0⟩ 98 0 lo,.func (.func 54) [] []] ⟨1,[(0,.rows 98 0 f)]⟩ (Y4 1 (.ret (.tuple [])) 1 [(0,.rows 98 0 f)]):=by
 refine @Eq.mpr _ (Z5 1 [] 0 f f/\True) (by kernel_rfl) ?_
 try simp only [vcA]
 try simp only [vcB]
 try simp only [vcC]
 exact Qa (fun i hi=>absurd hi (JC i)) (fun i hi=>absurd hi (JC i)) fun i hi=>absurd hi (JC i)
theorem Zfv {T D M:List Zq} {n:Nat} {f:Nat->List AV} (hM:M.Perm T) (hn:M.length=n) (h0:0<n) (hf:∀i,i<n->f i=quR M i) (h:SRb 16 ltQ T D):Spec PP 124 [.nslice ⟨0,0,98,0,0⟩ 98 n lo,.func (.func 54) [] []] ⟨1,[(0,.rows 98 n f)]⟩ (.ret (.tuple [])) 1 [(0,.rows 98 n (quR D))]:=
 Z1h (L:=Zj3) (k:=98) Go.Proofs.Tryz.isAgg116 Go.Proofs.Tryz.sizeOf116 (c:=Zq.c) ZaY (by decide) ZaZ Zds Z1k Zfp (g:=54)
  (fun _ _=>Go.Proofs.enters_of Go.Proofs.Tryz.func54 (by kernel_rfl) rfl _ _) (fun x y=>Y8.evW6 Zv (Zlx x y _ rfl)) hn h0 (by have:=h.len;have:=hM.length_eq;omega) hf (fun _ _=>rfl)
  (fun l' hp ho=>h.sorted (hp.trans hM) ho)
theorem Z00 (L:List Zq) (i:Nat):YA (quR L i)=true:=Yc.p _
def Z5U (T D:List Zq):ZJ:=fun args h K=>match args with
 | [.nslice ⟨b,0,98,0,0⟩ 98 _ _,_]=>frA [b] h 20 args fun Bs a=>match Bs,a with
  | [.rows 98 n f],[.nslice ⟨0,0,98,0,0⟩ 98 n' _,.func (.func 54) [] []]=>∃M,(n'=n/\M.length=n/\f=quR M)/\M.Perm T/\SRb 16 ltQ T D/\K (.ret (.tuple [])) ⟨h.next,(b,.rows 98 n (quR D))::ZK h.bs b⟩
  | _,_=>False
 | _=>False
theorem Z8B (T D:List Zq) (args:List AV) (h:Z6) (K:KO) (hl:Z5U T D args h K):Zh PP 124 args h K:=by
 unfold Z5U at hl
 split at hl
 ·refine Spec.fsumm hl fun Bs a hlen hK0=> ?_
  split at hK0
  ·rename_i n f n' lo
   obtain ⟨M,⟨rfl,hn,rfl⟩,hM,hT,hK⟩:=hK0
   rcases JD n' with h0|h0
   ·subst h0
    have hMn:M=[]:=Jm hn
    have hDn:D=[]:=by
     have:=hT.perm.length_eq
     have:=hM.length_eq
     exact Jm (by omega)
    subst hMn hDn
    exact ⟨_,_,_,_,_,.evM Zv (Zjc (quR []) lo),by simp,.ret _ _ rfl,.cons _ _ _ _ _ _ rfl (.rows _ _ _ (fun i _=>Z00 [] i)) .nil,hK⟩
   ·exact ⟨_,_,_,_,_,Zfv hM hn h0 (fun _ _=>rfl) hT,by simp,.ret _ _ rfl,.cons _ _ _ _ _ _ rfl (.rows _ _ _ (fun i _=>Z00 D i)) .nil,hK⟩
  ·exact hK0.elim
 ·exact hl.elim
noncomputable def Zdt (T D:List Zq):Zg:=(Zgu T).withF 124 (Z5U T D)
theorem Zb0 (T D:List Zq):(Zdt T D).Ok:=Zg.withF_ok (Zdr T) (Z8B T D)
theorem Zjd (T D:List Zq) (n:Nat) (h:SRb 16 ltQ T D) (hn:n=D.length):
  evF (Zdt T D) 40 53 [.map (some 0),.func (.func 54) [] []] ⟨1,[(0,.fmap T.length (qkV T) (quV T))]⟩ (Y4 1 (.ret (.nslice ⟨1,0,98,0,0⟩ 98 n n)) 2 [(0,.fmap T.length (qkV T) (quV T)),(1,.rows 98 n (quR D))]):=by
 refine @Eq.mpr _ (Z3S [] []/\
 (LoopState.ready=LoopState.ready/\(none:Option Code)=none/\(147:Nat)=(147:FuncId)/\(13:Nat)=(13:Nat)/\[(7:Nat)]=[(7:Nat)]/\VN=VN/\VO=VO)/\
 Z4 (T.length=T.length) (Z7 (5:Nat) [((5:Nat),(5:Nat)),((6:Nat),(6:Nat))] (T.length) (qkV T) (quV T) (qkV T) (quV T)/\T.length<=(16:Nat)/\∀(js:List Nat),Yi (T.length) js->(∀(j:Nat),j<T.length->j∈js)->(∀(i:Nat),i<List.length (Ww T js)->true=true)/\∃(M:List Zq),(List.length (Ww T js)=List.length (Ww T js)/\M.length=List.length (Ww T js)/\quR (Ww T js)=quR M)/\List.Perm M T/\SRb (16:Nat) ltQ T D/\Z4 (List.length (Ww T js)=n) (Z4 (n<=List.length (Ww T js)) (Z4 (T.length=T.length) (Z7 (1:Nat) [((1:Nat),(7:Nat))] (T.length) (qkV T) (quV T) (qkV T) (quV T)/\Z4 (List.length (Ww T js)=n) (Z5 (1:Nat) [((1:Nat),(7:Nat))] n (quR D) (quR D)/\True)))))) (by kernel_rfl) ?_
 try simp only [vcA]
 try simp only [vcB]
 try simp only [vcC]
 have hM:∀k τ,Z7 k τ T.length (qkV T) (quV T) (qkV T) (quV T):=fun k τ=>ZT (Z1K _) fun _ _=>⟨rfl,rfl⟩
 refine ⟨.refl _,hM _ _,h.len,fun js hs ha=>⟨fun _ _=>trivial,Ww T js,⟨rfl,rfl⟩,Z4V hs ha,h, ?_⟩⟩
 have el:(Ww T js).length=n:=by rw [hn,(Z4V hs ha).length_eq,h.perm.length_eq]
 exact ⟨el,Jp el.symm,hM _ _,el,Zi Yc fun _ _=>rfl⟩
def Zhq (T D:List Zq):ZJ:=fun args h K=>match args with
 | [.map (some o),_]=>frA [o] h 20 args fun Bs a=>match Bs,a with
  | [.fmap n kf vf],[.map (some 0),.func (.func 54) [] []]=>(n=T.length/\kf=qkV T/\vf=quV T)/\SRb 16 ltQ T D/\K (.ret (.nslice ⟨h.next,0,98,0,0⟩ 98 D.length D.length)) ⟨h.next+1,(o,.fmap T.length (qkV T) (quV T))::(h.next,.rows 98 D.length (quR D))::ZK h.bs o⟩
  | _,_=>False
 | _=>False
theorem Zfw (T D:List Zq) (args:List AV) (h:Z6) (K:KO) (hl:Zhq T D args h K):Zh PP 53 args h K:=by
 unfold Zhq at hl
 split at hl
 ·refine Spec.fsumm hl fun Bs a hlen hK0=> ?_
  split at hK0
  ·obtain ⟨⟨rfl,rfl,rfl⟩,hT,hK⟩:=hK0
   exact ⟨_,_,_,_,_,.evM (Zb0 T D) (Zjd T D _ hT rfl),by simp,.ret _ _ rfl,.cons _ _ _ _ _ _ rfl (.fmap _ _ _ (fun i _=>⟨rfl,rfl⟩)) (.cons _ _ _ _ _ _ rfl (.rows _ _ _ (fun i _=>Z00 D i)) .nil),hK⟩
  ·exact hK0.elim
 ·exact hl.elim
def XQ (L:List H32):LI:=L.flatMap fun x=>x.v
theorem Z4W {L:List H32} {i:Nat} (h:i<L.length):XQ (L.take (i+1))=XQ (L.take i)++(L.getD i h0).v:=by
 unfold XQ
 rw [YZ h0 h,List.flatMap_append]
 simp
theorem Z0M (L:List H32):(XQ L).length=32*L.length:=by
 unfold XQ
 induction L with
 | nil=>rfl
 | cons a L ih=>rw [List.flatMap_cons,J3,ih,a.l,Jt];omega
def hwB (ys:LI):List (Nat×Blk):=[(0,.flat [.nslice ⟨2,0,0,0,0⟩ 1 ys.length ys.length,.bool true]),(2,.ints .u8 ys)]
def hwS (L:List H32) (ys:LI) (i:Nat):St:=⟨25,[(11,.int .i64 i),(10,.int .i64 L.length),(9,.vrows 32 L.length (seR L) L.length),(0,pt 0)],⟨3,hwB ys⟩,[]⟩
def hwE (ys:LI):St:=⟨25,[],⟨3,hwB ys⟩,[]⟩
def hwN:St:=⟨25,[],⟨0,[]⟩,[]⟩
theorem Zly (L:List H32) (ys ys':LI) (i:Nat) (go ex:Prop) (hl:ys.length<80000000000000+4096) (hL:L.length<=64) (hi:i<=L.length) (hy:i<L.length->ys'=ys++(L.getD i h0).v) (hg:i<L.length->go) (hx:i=L.length->ex):
  ZA G0 20 51 0 2 (hwS L ys i) (rdM 2 0 9 (hwS L ys' (i+1)) (hwE ys) hwN hwN go ex False False):=by
 refine @Eq.mpr _ (let d:=L.length;let b:=(↑d:Int);let g:=(List.getD L (Int.toNat (↑i:Int)) h0).v;let a:=ys.length;let f:=ys++g;let c:=f.length;let e:=decide (d=d);
 Z8 (decide ((↑i:Int)<b)) (Z4 (0<=(↑i:Int)/\(↑i:Int)<b) (Z4 (u8=u8/\g.length=32) (Z4 (u8=u8/\a=a) (Z4 (c*1<=140737488355328) (Z4 (wrap i64 ((↑i:Int)+1)=(↑(i+1):Int)) (Z4 (b=b) (Z0 e (seR L=seR L/\Z0 e (Z4 (c=ys'.length) (Z4 (ys'.length<=c) (f=ys'/\go))))))))))) (Z4 (a=a) (Z4 (a<=a) (ys=ys/\ex)))) (by kernel_rfl) ?_
 conv=>zeta
 try simp only [vcA]
 try simp only [vcB]
 try simp only [vcC]
 refine ⟨fun hlt=> ?_,fun h=>hx (by omega)⟩
 have hlt':i<L.length:=by omega
 have e:=hy hlt'
 have l2:(L.getD i h0).v.length=32:=(L.getD i h0).l
 have l3:ys'.length=ys.length+32:=by rw [e,J3,l2]
 rw [<-e]
 exact ⟨⟨by omega,hlt⟩,l2,by omega,by rw [w64 (by omega)];omega,rfl,J1 _,rfl,hg hlt'⟩
theorem Zlz (W:Int->LI) (T:Int) (ys:LI) (L:Nat) (n:Int) (hT:T=4611686018427387904) (hW:W=Zp) (hn:0<=n/\n<=T) (hy:ys=W n) (hL:L=ys.length):
  evF (Zcd W) 20 50 [.ptr (some ⟨0,0,0,0,0⟩),.vints .i64 [n] 1] ⟨1,[(0,.flat [.nilslice,.bool true])]⟩ (Y4 1 (.ret (.int .i64 0)) 2 [(0,.flat [.nslice ⟨1,0,0,0,0⟩ 1 L L,.bool true]),(1,.ints .u8 ys)]):=by
 refine @Eq.mpr _ (Z8 (decide (n<0)) False (Z8 (decide (n>4611686018427387904)) False (Z4 (List.length (W n)=L) (Z4 (L<=List.length (W n)) (W n=ys/\True))))) (by kernel_rfl) ?_
 try simp only [vcA]
 try simp only [vcB]
 try simp only [vcC]
 subst hT hy hL
 exact ⟨by omega,by omega,rfl,J1 _,rfl⟩
noncomputable def Zje (L:List H32) (xs:LI):Zg:=G0.withL 51 0 (goM 2 (hwS L xs 0) (xs.length<80000000000000/\L.length<=64) (Yn 0 L.length 9 (fun i=>i<L.length) (fun i=>i=L.length) (fun _=>False) (fun _=>False) (fun i=>hwE (xs++XQ (L.take i))) (fun _=>hwN) (fun _=>hwN)))
theorem Zfx (L:List H32) (xs:LI):(Zje L xs).Ok:=
 Zg.withGoM (N:=20) (k:=2) (n:=L.length) (l:=9) (S:=fun i=>hwS L (xs++XQ (L.take i)) i) Zv (by kernel_rfl) fun hC=>⟨by simp [XQ],fun i hi _=>Zly L _ _ i _ _ (by
  have:=Z0M (L.take i)
  have:=List.length_take_le i L
  rw [J3]
  omega) hC.2 hi (fun h=>by rw [Z4W h,Jl]) (fun h=>⟨h,h⟩) fun h=>h⟩
theorem ZlA (L:List H32) (xs ys:LI) (N M n:Nat) (hL:L.length<=64) (hn:n=L.length) (hN:xs.length=N) (hB:N<80000000000000) (hy:ys=xs++XQ L) (hM:M=ys.length):
  evF (Zje L xs) 20 51 [.ptr (some ⟨0,0,0,0,0⟩),.vrows 32 n (seR L) n] ⟨2,[(0,.flat [.nslice ⟨1,0,0,0,0⟩ 1 N N,.bool true]),(1,.ints .u8 xs)]⟩ (Y4 2 (.ret (.int .i64 0)) 3 [(0,.flat [.nslice ⟨2,0,0,0,0⟩ 1 M M,.bool true]),(2,.ints .u8 ys)]):=by
 refine @Eq.mpr _ (let a:=L.length;let e:=decide (n=a);let b:=xs.length;
 Z4 ((↑n:Int)=(↑a:Int)) (Z0 e (seR L=seR L/\
 Z0 e (Z4 (N=b) (Z4 (b<=N) (xs=xs/\
 (b<80000000000000/\a<=64)/\
 ∀(i:Nat),
 let d:=xs++XQ (List.take i L);let c:=d.length;
 i<=a->(∀(j:Nat),j<i->(fun (i:Nat)=>i<a) j)->(i=a->Z4 (c=M) (Z4 (M<=c) (d=ys/\True)))/\(False->False)/\(False->False))))))) (by kernel_rfl) ?_
 conv=>zeta
 try simp only [vcA]
 try simp only [vcB]
 try simp only [vcC]
 subst hn hN
 refine ⟨rfl,rfl,rfl,rfl,J1 _,⟨hB,hL⟩,fun i hi _=>⟨fun e=> ?_,fun h=>h,fun h=>h⟩⟩
 rw [e,Jr,<-hy]
 exact ⟨hM.symm,Jp hM,rfl⟩
structure Z76 (L:List H32) (n:Nat) (f:Nat->List AV) (m:Nat):Prop where
 n:n=L.length
 m:m=L.length
 b:L.length<=64
 f:∀i,i<L.length->f i=seR L i
structure Z1l (xs:LI) (N M:Nat):Prop where
 n:xs.length=N
 m:M=N
 b:N<80000000000000
def whL:ZJ:=fun args h K=>match args with
 | [.ptr (some ⟨w,0,0,0,0⟩),_]=>match h.get w with
  |some (.flat [.nslice ⟨b,0,0,0,0⟩ 1 _ _,.bool true])=>frA [w,b] h 60 args fun Bs a=>match Bs,a with
   | [.flat [.nslice ⟨1,0,0,0,0⟩ 1 N M,.bool true],.ints .u8 xs],[.ptr (some ⟨0,0,0,0,0⟩),.vrows 32 n f m]=>∃L,Z76 L n f m/\Z1l xs N M/\K (.ret (.int .i64 0)) ⟨h.next+1,(w,.flat [.nslice ⟨h.next,0,0,0,0⟩ 1 (xs++XQ L).length (xs++XQ L).length,.bool true])::(h.next,.ints .u8 (xs++XQ L))::ZK (ZK h.bs w) b⟩
   | _,_=>False
  | _=>False
 | _=>False
theorem Zhr (args:List AV) (h:Z6) (K:KO) (hl:whL args h K):Zh PP 51 args h K:=by
 unfold whL at hl
 split at hl
 ·split at hl
  ·refine Spec.fsumm hl fun Bs a hlen hK0=> ?_
   split at hK0
   ·obtain ⟨L,⟨rfl,rfl,hb,hf⟩,⟨h1,rfl,h2⟩,hK⟩:=hK0
    exact ⟨_,_,_,_,_,(Spec.evM (Zfx L _) (ZlA L _ _ _ _ _ hb rfl h1 h2 rfl rfl)).conv fun E r hr=>hr.head (fun _ hc=>hc) fun _ hc=>hc.head (fun _ hc=>hc.rowsC hf) fun _ hc=>hc,by simp,.ret _ _ rfl,.cons _ _ _ _ _ _ rfl (.flat _ _ rfl) (.cons _ _ _ _ _ _ rfl (.ints _ _) .nil),hK⟩
   ·exact hK0.elim
  ·exact hl.elim
 ·exact hl.elim
structure YC (x:Int):Prop where
 h:0<=x/\x<=4611686018427387904
def wnL (W:Int->LI):ZJ:=fun args h K=>match args with
 | [.ptr (some ⟨w,0,0,0,0⟩),_]=>match h.get w with
  |some (.flat [.nslice ⟨b,0,0,0,0⟩ 1 _ _,.bool true])=>frA [w,b] h 20 args fun Bs a=>match Bs,a with
   | [.flat [.nslice ⟨1,0,0,0,0⟩ 1 N M,.bool true],.ints .u8 xs],[.ptr (some ⟨0,0,0,0,0⟩),.vints .i64 [x] 1]=>Z1l xs N M/\YC x/\K (.ret (.int .i64 0)) ⟨h.next+1,(w,.flat [.nslice ⟨h.next,0,0,0,0⟩ 1 (xs++W x).length (xs++W x).length,.bool true])::(h.next,.ints .u8 (xs++W x))::ZK (ZK h.bs w) b⟩
   | [.flat [.nslice ⟨1,0,0,0,0⟩ 1 N M,.bool true],.ints .u8 xs],[.ptr (some ⟨0,0,0,0,0⟩),.vints .i64 [x,y] 2]=>Z1l xs N M/\YC x/\YC y/\K (.ret (.int .i64 0)) ⟨h.next+1,(w,.flat [.nslice ⟨h.next,0,0,0,0⟩ 1 (xs++W x++W y).length (xs++W x++W y).length,.bool true])::(h.next,.ints .u8 (xs++W x++W y))::ZK (ZK h.bs w) b⟩
   | _,_=>False
  | some (.flat [.nilslice,.bool true])=>frA [w] h 20 args fun Bs a=>match Bs,a with
   | [.flat [.nilslice,.bool true]],[.ptr (some ⟨0,0,0,0,0⟩),.vints .i64 [x] 1]=>YC x/\K (.ret (.int .i64 0)) ⟨h.next+1,(w,.flat [.nslice ⟨h.next,0,0,0,0⟩ 1 (W x).length (W x).length,.bool true])::(h.next,.ints .u8 (W x))::ZK h.bs w⟩
   | _,_=>False
  | _=>False
 | _=>False
theorem Zhs (args:List AV) (h:Z6) (K:KO) (hl:wnL Zp args h K):Zh PP 50 args h K:=by
 unfold wnL at hl
 split at hl
 ·split at hl
  ·refine Spec.fsumm hl fun Bs a hlen hK0=> ?_
   split at hK0
   ·obtain ⟨⟨h1,rfl,h2⟩,⟨h3⟩,hK⟩:=hK0
    exact ⟨_,_,_,_,_,.evM Z2b (ZgV _ _ _ _ _ _ _ _ rfl h1 (by omega) h3 rfl rfl),by simp,.ret _ _ rfl,.cons _ _ _ _ _ _ rfl (.flat _ _ rfl) (.cons _ _ _ _ _ _ rfl (.ints _ _) .nil),hK⟩
   ·obtain ⟨⟨h1,rfl,h2⟩,⟨h3⟩,⟨h4⟩,hK⟩:=hK0
    exact ⟨_,_,_,_,_,.evM Z2b (ZgW _ _ _ _ _ _ _ _ _ rfl rfl h1 h2 h3 h4 rfl rfl),by simp,.ret _ _ rfl,.cons _ _ _ _ _ _ rfl (.flat _ _ rfl) (.cons _ _ _ _ _ _ rfl (.ints _ _) .nil),hK⟩
   ·exact hK0.elim
  ·refine Spec.fsumm hl fun Bs a hlen hK0=> ?_
   split at hK0
   ·obtain ⟨⟨h3⟩,hK⟩:=hK0
    exact ⟨_,_,_,_,_,.evM Z2b (Zlz _ _ _ _ _ rfl rfl h3 rfl rfl),by simp,.ret _ _ rfl,.cons _ _ _ _ _ _ rfl (.flat _ _ rfl) (.cons _ _ _ _ _ _ rfl (.ints _ _) .nil),hK⟩
   ·exact hK0.elim
  ·exact hl.elim
 ·exact hl.elim
noncomputable def Zb1 (W:Int->LI) (X D:Za):Zg:=((((G0.withF 50 (wnL W)).withF 51 whL).withF 59 (riS X.T D.T)).withF 92 (Zfs X.S D.S)).withF 53 (Zhq X.Q D.Q)
theorem Z9H (X D:Za):(Zb1 Zp X D).Ok:=Zg.withF_ok (Zg.withF_ok (Zg.withF_ok (Zg.withF_ok (Zg.withF_ok Zv Zhs) Zhr) (Zdh X.T D.T)) (Z9G X.S D.S)) (Zfw X.Q D.Q)
noncomputable def UQ:Code:=rfA PP 10 0
noncomputable def UR:Code:=rfB PP 10 0
def Z1Y (W:Int->LI) (x:Zl):LI:=x.inn.v++W x.inID++x.out.v++W x.outID
def Z1Z (W:Int->LI) (q:Zq):LI:=q.hash.v++q.key.v++W q.amount++W q.least++q.secret.v
noncomputable def raB (X:Za) (ys:LI):List (Nat×Blk):=(12,.loop ⟨.ready,none,10,101,[(3,pt 6),(0,pt 0)],[21],UQ,UR,11⟩)::(11,.defd)::(6,.flat [pt 5])::(5,.flat [.nslice ⟨13,0,0,0,0⟩ 1 ys.length ys.length,.bool true])::(13,.ints .u8 ys)::tbO Zf X
noncomputable def raS (X:Za) (T:List Zl) (ys:LI) (i:Nat):St:=⟨16,[(7,.int .i64 i),(6,.int .i64 T.length),(5,.nslice ⟨9,0,66,0,0⟩ 66 T.length T.length),(0,.yield 12)],⟨14,(10,.flat [.nslice ⟨9,0,66,0,0⟩ 66 T.length T.length])::(9,.rows 66 T.length (tiR T))::raB X ys⟩,[]⟩
noncomputable def raE (X:Za) (ys:LI):St:=⟨16,[(0,.yield 12)],⟨14,raB X ys⟩,[]⟩
def raN:St:=⟨16,[],⟨0,[]⟩,[]⟩
theorem Z3J (x:H32):XQ [x]=x.v:=by simp [XQ]
theorem Zdu (x y:H32):XQ [x,y]=x.v++y.v:=by simp [XQ]
theorem Z8C (x:H32):Z76 [x] 1 (XD [AV.arr .u8 32 x.v] 0 32) 1:=⟨rfl,rfl,by show 1<=64;decide,fun i hi=>by
 have e:i=0:=by simp at hi;omega
 subst e
 rfl⟩
theorem ZlB (W:Int->LI) (X D:Za) (T:List Zl) (ys ys':LI) (i:Nat) (go ex:Prop) (hT:T.length<=48) (hi:i<=T.length) (hl:ys.length<10000) (hW:∀n,(W n).length<=10) (hk:i<T.length->YC (T.getD i Zr).inID/\YC (T.getD i Zr).outID) (hy:i<T.length->ys'=ys++Z1Y W (T.getD i Zr)) (hg:i<T.length->go) (hx:i=T.length->ex):
  ZA (Zb1 W X D) 40 63 0 13 (raS X T ys i) (rdM 13 0 9 (raS X T ys' (i+1)) (raE X ys) raN raN go ex False False):=by
 refine @Eq.mpr _ (let b:=T.length;let n:=(↑b:Int);let I:=0+Int.toNat (↑i:Int);let f:=List.getD T I Zr;let c:=ys.length;let G:=f.inID;let B:=f.outID;let t:=decide (b=b);let A:=decide (b<=b);let e:=[(13,23)];let M:=LoopState.ready=LoopState.ready/\(none:Option Code)=none/\(10:FuncId)=10/\(101:Nat)=101/\[(21:Nat)]=[(21:Nat)]/\UQ=UQ/\UR=UR;let s:=X.T;let d:=s.length;let r:=decide (d=d);let q:=tkO s;let a:=tiV s;let p:=tkI s;let z:=X.S;let o:=z.length;let K:=decide (o=o);let m:=skV Zf z;let l:=seV z;let y:=X.Q;let k:=y.length;let J:=decide (k=k);let j:=qkV y;let h:=quV y;let g:=[(13,13)];
 Z8 (decide ((↑i:Int)<n)) (Z4 (0<=(↑i:Int)/\(↑i:Int)<n) (Z4 (I<b) (∃(L:List H32),
 let x:=ys++XQ L;let H:=x.length;let w:=x++W G;let F:=w.length;
 Z76 L 1 (XD [AV.arr u8 32 f.inn.v] 0 32) 1/\
 Z1l ys c c/\
 Z1l x H H/\
 YC G/\
 ∃(L:List H32),
 let u:=w++XQ L;let E:=u.length;let D:=u++W B;let C:=D.length;
 Z76 L 1 (XD [AV.arr u8 32 f.out.v] 0 32) 1/\Z1l w F F/\Z1l u E E/\YC B/\Z4 (wrap i64 ((↑i:Int)+1)=(↑(i+1):Int)) (Z4 (n=n) (Z0 t (Z0 A (Z0 t (Z0 A (Z0 t (Z5 13 e b (tiR T) (tiR T)/\M/\Z4 (C=ys'.length) (Z4 (ys'.length<=C) (D=ys'/\Z0 r (Z7 13 e d q a q a/\Z0 r (Z7 13 e d p a p a/\Z0 K (Z7 13 e o m l m l/\Z0 J (Z7 13 e k j h j h/\go)))))))))))))))) (M/\Z4 (c=c) (Z4 (c<=c) (ys=ys/\Z0 r (Z7 13 g d q a q a/\Z0 r (Z7 13 g d p a p a/\Z0 K (Z7 13 g o m l m l/\Z0 J (Z7 13 g k j h j h/\ex)))))))) (by kernel_rfl) ?_
 conv=>zeta
 try simp only [vcA]
 try simp only [vcB]
 try simp only [vcC]
 refine ⟨fun hlt=> ?_,fun hge=> ?_⟩
 ·have hlt':i<T.length:=by omega
  obtain ⟨k1,k2⟩:=hk hlt'
  have e:=hy hlt'
  generalize T.getD i Zr=x at*
  have w1:=hW x.inID
  have w2:=hW x.outID
  have l1:=x.inn.l
  have l2:=x.out.l
  obtain ⟨m1,m2,m3,m4⟩:=Xb Zf X 13 [(13,23)]
  refine ⟨⟨by omega,hlt⟩,hlt',[x.inn],Z8C _, ?_⟩
  rw [Z3J]
  refine ⟨⟨rfl,rfl,by omega⟩,⟨rfl,rfl,by simp only [J3];omega⟩,k1,[x.out],Z8C _, ?_⟩
  rw [Z3J]
  have e':ys++x.inn.v++W x.inID++x.out.v++W x.outID=ys':=by rw [e,Z1Y];simp only [Jl]
  refine ⟨⟨rfl,rfl,by simp only [J3];omega⟩,⟨rfl,rfl,by simp only [J3];omega⟩,k2,by rw [w64 (by omega)];omega,Zi Yb fun _ _=>rfl, ?_⟩
  rw [e']
  exact ⟨rfl,J1 _,rfl,m1,m2,m3,m4,hg hlt'⟩
 ·obtain ⟨m1,m2,m3,m4⟩:=Xb Zf X 13 [(13,13)]
  exact ⟨m1,m2,m3,m4,hx (by omega)⟩
def XR (W:Int->LI) (n:Nat) (T:List Zl) (i:Nat):LI:=W n++(T.take i).flatMap (Z1Y W)
theorem Z4X {n:Nat} {T:List Zl} {i:Nat} (h:i<T.length):XR W n T (i+1)=XR W n T i++Z1Y W (T.getD i Zr):=by
 unfold XR
 rw [YZ Zr h,List.flatMap_append,Jl]
 simp
theorem Zdv (hW:∀n,(W n).length<=10) (x:Zl):(Z1Y W x).length<=84:=by
 unfold Z1Y
 have:=hW x.inID
 have:=hW x.outID
 have:=x.inn.l
 have:=x.out.l
 simp only [J3]
 omega
theorem Z3K {α:Type} {g:α->LI} {b:Nat} (hg:∀x,(g x).length<=b):∀l:List α,(l.flatMap g).length<=b*l.length
 | []=>by simp
 | a::l=>by
  have:=hg a
  have:=Z3K hg l
  rw [List.flatMap_cons,J3,Jt,Nat.mul_succ]
  omega
theorem VP (hW:∀n,(W n).length<=10) (n:Nat) (T:List Zl) (i:Nat):(XR W n T i).length<=10+84*i:=by
 unfold XR
 have:=hW n
 have h1:=Z3K (Zdv hW) (T.take i)
 have h2:(T.take i).length<=i:=List.length_take_le i T
 rw [J3]
 omega
theorem Z4Y {x:Zl} (h:W5 x=true):YC x.inID/\YC x.outID:=by
 unfold W5 at h
 simp only [J2,decide_eq_true_eq] at h
 exact ⟨⟨by omega⟩,⟨by omega⟩⟩
noncomputable def Zdw (W:Int->LI) (X D:Za):Zg:=(Zb1 W X D).withL 63 0 (goM 13 (raS X D.T (XR W X.T.length D.T 0) 0) (D.T.length<=48/\∀x∈D.T,W5 x=true) (Yn 0 D.T.length 9 (fun i=>i<D.T.length) (fun i=>i=D.T.length) (fun _=>False) (fun _=>False) (fun i=>raE X (XR W X.T.length D.T i)) (fun _=>raN) (fun _=>raN)))
theorem Zdx (X D:Za) (hW:∀n,(Zp n).length<=10):(Zdw Zp X D).Ok:=
 Zg.withGoM (N:=40) (k:=13) (n:=D.T.length) (l:=9) (S:=fun i=>raS X D.T (XR Zp X.T.length D.T i) i) (Z9H X D) (by kernel_rfl) fun hC=>⟨rfl,fun i hi _=>ZlB Zp X D D.T _ _ i _ _ hC.1 hi (by
  have:=VP hW X.T.length D.T i
  omega) hW (fun h=>by
   rw [getD_at h]
   exact Z4Y (hC.2 _ (Jx h))) (fun h=>Z4X h) (fun h=>⟨h,h⟩) fun h=>h⟩
def Zjf (X:Za) (ys:LI):List (Nat×Blk):=(9,.defd)::(6,.flat [pt 5])::(5,.flat [.nslice ⟨8,0,0,0,0⟩ 1 ys.length ys.length,.bool true])::(8,.ints .u8 ys)::tbO Zf X
def Zfy (X:Za) (Q:List Zq) (ys:LI) (i:Nat):St:=⟨101,[(71,.int .i64 i),(70,.int .i64 Q.length),(69,.nslice ⟨7,0,98,0,0⟩ 98 Q.length Q.length),(3,pt 6)],⟨10,(7,.rows 98 Q.length (quR Q))::Zjf X ys⟩,[.mark 9]⟩
def Zjg (X:Za) (ys:LI):St:=⟨101,[(3,pt 6)],⟨10,Zjf X ys⟩,[.mark 9]⟩
def Zfz:St:=⟨101,[],⟨0,[]⟩,[]⟩
theorem ZfA (x y:H32):Z76 [x,y] 2 (XD [AV.arr .u8 32 x.v,AV.arr .u8 32 y.v] 0 32) 2:=⟨rfl,rfl,by show 2<=64;decide,fun i hi=>by
 have e:i=0\/i=1:=by simp at hi;omega
 rcases e with rfl|rfl<;>rfl⟩
theorem ZlC (W:Int->LI) (X D:Za) (Q:List Zq) (ys ys':LI) (i:Nat) (go ex:Prop) (hT:Q.length<=16) (hi:i<=Q.length) (hl:ys.length<20000) (hW:∀n,(W n).length<=10) (hk:i<Q.length->YC (Q.getD i ZB).amount/\YC (Q.getD i ZB).least) (hy:i<Q.length->ys'=ys++Z1Z W (Q.getD i ZB)) (hg:i<Q.length->go) (hx:i=Q.length->ex):
  ZA (Zb1 W X D) 40 10 2 5 (Zfy X Q ys i) (rdM 5 2 9 (Zfy X Q ys' (i+1)) (Zjg X ys) Zfz Zfz go ex False False):=by
 refine @Eq.mpr _ (let b:=Q.length;let m:=(↑b:Int);let F:=0+Int.toNat (↑i:Int);let f:=List.getD Q F ZB;let c:=ys.length;let C:=f.amount;let z:=f.least;let y:=decide (b=b);let e:=[(8,16),(5,5),(9,9),(6,6),(7,7)];let s:=X.T;let d:=s.length;let r:=decide (d=d);let q:=tkO s;let a:=tiV s;let p:=tkI s;let x:=X.S;let o:=x.length;let H:=decide (o=o);let n:=skV Zf x;let l:=seV x;let w:=X.Q;let k:=w.length;let G:=decide (k=k);let j:=qkV w;let h:=quV w;let g:=[(8,8),(5,5),(9,9),(6,6)];
 Z8 (decide ((↑i:Int)<m)) (Z4 (0<=(↑i:Int)/\(↑i:Int)<m) (Z4 (F<b) (∃(L:List H32),
 let u:=ys++XQ L;let E:=u.length;let t:=u++W C++W z;let D:=t.length;
 Z76 L 2 (XD [AV.arr u8 32 f.hash.v,AV.arr u8 32 f.key.v] 0 32) 2/\
 Z1l ys c c/\
 Z1l u E E/\
 YC C/\
 YC z/\
 ∃(L:List H32),
 let B:=t++XQ L;let A:=B.length;
 Z76 L 1 (XD [AV.arr u8 32 f.secret.v] 0 32) 1/\Z1l t D D/\Z4 (wrap i64 ((↑i:Int)+1)=(↑(i+1):Int)) (Z4 (m=m) (Z0 y (Z4 (b<=b) (Z0 y (Z5 5 e b (quR Q) (quR Q)/\Z4 (A=ys'.length) (Z4 (ys'.length<=A) (B=ys'/\Z0 r (Z7 5 e d q a q a/\Z0 r (Z7 5 e d p a p a/\Z0 H (Z7 5 e o n l n l/\Z0 G (Z7 5 e k j h j h/\go)))))))))))))) (Z4 (c=c) (Z4 (c<=c) (ys=ys/\Z0 r (Z7 5 g d q a q a/\Z0 r (Z7 5 g d p a p a/\Z0 H (Z7 5 g o n l n l/\Z0 G (Z7 5 g k j h j h/\ex)))))))) (by kernel_rfl) ?_
 conv=>zeta
 try simp only [vcA]
 try simp only [vcB]
 try simp only [vcC]
 refine ⟨fun hlt=> ?_,fun hge=> ?_⟩
 ·have hlt':i<Q.length:=by omega
  obtain ⟨k1,k2⟩:=hk hlt'
  have e:=hy hlt'
  generalize Q.getD i ZB=x at*
  have w1:=hW x.amount
  have w2:=hW x.least
  have l1:=x.hash.l
  have l2:=x.key.l
  have l3:=x.secret.l
  obtain ⟨m1,m2,m3,m4⟩:=Xb Zf X 5 [(8,16),(5,5),(9,9),(6,6),(7,7)]
  refine ⟨⟨by omega,hlt⟩,hlt',[x.hash,x.key],ZfA _ _, ?_⟩
  rw [Zdu]
  refine ⟨⟨rfl,rfl,by omega⟩,⟨rfl,rfl,by simp only [J3];omega⟩,k1,k2,[x.secret],Z8C _, ?_⟩
  rw [Z3J]
  have e':ys++(x.hash.v++x.key.v)++W x.amount++W x.least++x.secret.v=ys':=by rw [e,Z1Z];simp only [Jl]
  refine ⟨⟨rfl,rfl,by simp only [J3];omega⟩,by rw [w64 (by omega)];omega,Zi Yc fun _ _=>rfl, ?_⟩
  rw [e']
  exact ⟨rfl,J1 _,rfl,m1,m2,m3,m4,hg hlt'⟩
 ·obtain ⟨m1,m2,m3,m4⟩:=Xb Zf X 5 [(8,8),(5,5),(9,9),(6,6)]
  exact ⟨m1,m2,m3,m4,hx (by omega)⟩
def tsB (W:Int->LI) (X D:Za):LI:=XR W X.T.length D.T D.T.length++W X.S.length++XQ D.S++W X.Q.length
def X0 (W:Int->LI) (X D:Za) (i:Nat):LI:=tsB W X D++(D.Q.take i).flatMap (Z1Z W)
theorem Z4Z {i:Nat} (h:i<D.Q.length):X0 W X D (i+1)=X0 W X D i++Z1Z W (D.Q.getD i ZB):=by
 unfold X0
 rw [YZ ZB h,List.flatMap_append,Jl]
 simp
theorem Zdy (hW:∀n,(W n).length<=10) (x:Zq):(Z1Z W x).length<=116:=by
 unfold Z1Z
 have:=hW x.amount
 have:=hW x.least
 have:=x.hash.l
 have:=x.key.l
 have:=x.secret.l
 simp only [J3]
 omega
theorem Z0N (hW:∀n,(W n).length<=10) (hD:ZO D) (i:Nat):(X0 W X D i).length<=8200+116*i:=by
 unfold X0 tsB
 have h0:=VP hW X.T.length D.T D.T.length
 have h1:=Z3K (Zdy hW) (D.Q.take i)
 have h2:(D.Q.take i).length<=i:=List.length_take_le i D.Q
 have h3:=Z0M D.S
 have:=hW X.S.length
 have:=hW X.Q.length
 have:=hD.t
 have:=hD.s
 simp only [J3]
 omega
theorem Z50 {x:Zq} (h:Xa H x=true):YC x.amount/\YC x.least:=by
 unfold Xa at h
 simp only [J2,decide_eq_true_eq] at h
 exact ⟨⟨by omega⟩,⟨by omega⟩⟩
structure Z3L (X D:Za):Prop where
 t:TR X.T D.T
 s:SRb 64 ltS X.S D.S
 q:SRb 16 ltQ X.Q D.Q
 tok:∀x∈D.T,W5 x=true
 qok:∀x∈D.Q,Xa Zf x=true
theorem Z3L.lim (h:Z3L X D):ZO D:=⟨by rw [h.t.perm.length_eq];exact h.t.len,by rw [h.s.perm.length_eq];exact h.s.len,by rw [h.q.perm.length_eq];exact h.q.len⟩
noncomputable def Zjh (W:Int->LI) (X D:Za):Zg:=((Zdw W X D).withF 82 Z2a).withL 10 2 (goM 5 (Zfy X D.Q (X0 W X D 0) 0) (Z3L X D) (Yn 2 D.Q.length 9 (fun i=>i<D.Q.length) (fun i=>i=D.Q.length) (fun _=>False) (fun _=>False) (fun i=>Zjg X (X0 W X D i)) (fun _=>Zfz) (fun _=>Zfz)))
theorem Xw (n:Int):(Zp n).length<=10:=by
 have:=UG n
 omega
theorem ZfB (X D:Za):(Zjh Zp X D).Ok:=
 Zg.withL_join (H:=Zb1 Zp X D) (Zg.withF_ok (Zdx X D Xw) QV) (by unfold Zdw Zb1;simp only [Xm,ZaP]) (Zg.withGoM (N:=40) (k:=5) (n:=D.Q.length) (l:=9) (S:=fun i=>Zfy X D.Q (X0 Zp X D i) i) (Z9H X D) (by kernel_rfl) fun hC=>⟨rfl,fun i hi _=>ZlC Zp X D D.Q _ _ i _ _ hC.lim.q hi (by
  have:=Z0N Xw (X:=X) hC.lim i
  have:=hC.lim.q
  omega) Xw (fun h=>by
   rw [XU h]
   exact Z50 (hC.qok _ (Jx h))) (fun h=>Z4Z h) (fun h=>⟨h,h⟩) fun h=>h⟩)
theorem ZlD (W:Int->LI) (X D:Za) (ys:LI) (N:Nat) (hO:Z3L X D) (hW:W=Zp) (hy:ys=X0 W X D D.Q.length) (hN:N=ys.length):
  evF (Zjh W X D) 40 10 [pt 0] ⟨5,tbO Zf X⟩ (Y4 5 (.ret (.nslice ⟨5,0,0,0,0⟩ 1 N N)) 6 ((5,.ints .u8 ys)::tbO Zf X)):=by
 refine @Eq.mpr _ (let u:=X.T;let b:=u.length;let q3:=(↑b:Int);let C:=true=true/\true=true;let g:=tkO u;let a:=tiV u;let o:=D.T;let c:=o.length;let P:=(↑c:Int);let I:=decide (c=c);let a9:=decide (c<=c);let t:=[(13,8)];let a8:=tiR o;let a7:=W q3;let a6:=a7.length;let a5:=XR W b o 0;let a4:=a5.length;let q:=decide (b=b);let p:=tkI u;let y:=X.S;let f:=y.length;let H:=decide (f=f);let m:=skV Zf y;let l:=seV y;let w:=X.Q;let e:=w.length;let G:=decide (e=e);let k:=qkV w;let h:=quV w;let a3:=(↑f:Int);let F:=D.S;let s:=F.length;let a2:=(↑e:Int);let E:=D.Q;let d:=E.length;let a1:=(↑d:Int);let a0:=decide (d=d);let r:=[(8,19),(5,5),(9,11),(6,6),(7,20)];let Z:=quR E;let Y:=X0 W X D 0;let V:=Y.length;let v:=[(5,10)];let U:=(False->False)/\(False->False);
 YC q3/\
 (∀(i:Nat),i<b->C)/\
 (b=b/\g=g/\a=a)/\
 TR u o/\
 Z4 (P=P) (Z0 I (Z0 a9 (Z0 I (Z0 a9 (Z0 I (Z5 13 t c a8 a8/\
 (LoopState.ready=LoopState.ready/\(none:Option Code)=none/\(10:FuncId)=10/\(101:Nat)=101/\[(21:Nat)]=[(21:Nat)]/\UQ=UQ/\UR=UR)/\
 Z4 (a6=a4) (Z4 (a4<=a6) (a7=a5/\
 Z0 q (Z7 13 t b g a g a/\
 Z0 q (Z7 13 t b p a p a/\
 Z0 H (Z7 13 t f m l m l/\
 Z0 G (Z7 13 t e k h k h/\
 (c<=48/\∀(x:Zl),List.Mem x o->W5 x=true)/\
 ∀(i:Nat),
 let B:=XR W b o i;let R:=B.length;let A:=B++W a3;let O:=A.length;
 i<=c->
 (∀(j:Nat),j<i->(fun (i:Nat)=>i<c) j)->
 (i=c->
 Z1l B R R/\
 YC a3/\
 (∀(i:Nat),i<f->C)/\
 (f=f/\m=m/\l=l)/\
 SRb 64 ltS y F/\
 Z4 (0+s<=s) ((∀(i:Nat),i<s->true=true)/\
 ∃(L:List H32),
 let z:=A++XQ L;let M:=z.length;let K:=z++W a2;let J:=K.length;
 Z76 L s (Yk 0 (seR F)) s/\
 Z1l A O O/\
 Z1l z M M/\
 YC a2/\
 (∀(i:Nat),i<e->C)/\
 (e=e/\k=k/\h=h)/\
 SRb 16 ltQ w E/\
 Z4 (a1=a1) (Z0 a0 (Z4 (d<=d) (Z0 a0 (Z5 5 r d Z Z/\
 Z4 (J=V) (Z4 (V<=J) (K=Y/\
 Z0 q (Z7 5 r b g a g a/\
 Z0 q (Z7 5 r b p a p a/\
 Z0 H (Z7 5 r f m l m l/\
 Z0 G (Z7 5 r e k h k h/\
 Z3L X D/\
 ∀(i:Nat),
 let b1:=X0 W X D i;let n:=b1.length;let b0:=List.take n (Y2 0 b1);
 i<=d->(∀(j:Nat),j<i->(fun (i:Nat)=>i<d) j)->(i=d->Z4 (0+n<=n) (Z4 (b0.length=n/\n<90000000000000) (Z4 (n=N) (Z4 (N<=n) (b0=ys/\Z0 q (Z7 5 v b g a g a/\Z0 q (Z7 5 v b p a p a/\Z0 H (Z7 5 v f m l m l/\Z0 G (Z7 5 v e k h k h/\True)))))))))/\U))))))))))))/\
 U))))))))))))) (by kernel_rfl) ?_
 conv=>zeta
 try simp only [vcA]
 try simp only [vcB]
 try simp only [vcC]
 subst hW
 have hL:=hO.lim
 have tr:∀{n:Nat} (i:Nat),i<n->True:=fun _ _=>trivial
 have lt:=hO.t.perm.length_eq
 have ls:=hO.s.perm.length_eq
 have lq:=hO.q.perm.length_eq
 have ht:=hL.t
 have hs:=hL.s
 have hq:=hL.q
 have e0:Zp X.T.length=XR Zp X.T.length D.T 0:=by simp [XR]
 have bT:=VP Xw X.T.length D.T D.T.length
 have bS:=Xw X.S.length
 have bC:=Z0M D.S
 obtain ⟨m1,m2,m3,m4⟩:=Xb Zf X 13 [(13,8)]
 refine ⟨⟨by omega⟩,tr,hO.t,Zi Yb fun _ _=>rfl,by rw [e0],by rw [e0];exact J1 _,e0,m1,m2,m3,m4,⟨ht,hO.tok⟩,fun i hi _=>⟨fun e=> ?_,fun h=>h,fun h=>h⟩⟩
 subst e
 refine ⟨⟨rfl,rfl,by omega⟩,⟨by omega⟩,tr,hO.s,tr,D.S,⟨rfl,rfl,hs,fun _ _=>rfl⟩,⟨rfl,rfl,by simp only [J3];omega⟩,⟨rfl,rfl,by simp only [J3];omega⟩,⟨by omega⟩,tr,hO.q,Zi Yc fun _ _=>rfl, ?_⟩
 have eT:XR Zp X.T.length D.T D.T.length++Zp X.S.length++XQ D.S++Zp X.Q.length=X0 Zp X D 0:=by simp [X0,tsB]
 rw [eT]
 obtain ⟨m1,m2,m3,m4⟩:=Xb Zf X 5 [(8,19),(5,5),(9,11),(6,6),(7,20)]
 refine ⟨rfl,J1 _,rfl,m1,m2,m3,m4,hO,fun i hi _=>⟨fun e=> ?_,fun h=>h,fun h=>h⟩⟩
 subst e
 have bR:=Z0N Xw (X:=X) hL D.Q.length
 obtain ⟨m1,m2,m3,m4⟩:=Xb Zf X 5 [(5,10)]
 rw [ZU,K6,Jr,<-hy,<-hN]
 rw [<-hy,<-hN] at bR
 exact ⟨⟨rfl,by omega⟩,rfl,J1 _,rfl,m1,m2,m3,m4⟩
theorem Za.Inv.raw (h:X.Inv Zf):Z3L X (Yd X):=⟨h.tr,⟨srS _,h.lim.s⟩,⟨h.sq,h.lim.q⟩,fun x hx=>h.tok x (Y5.mem_iff.1 hx),fun x hx=>h.qok x (Y5.mem_iff.1 hx)⟩
def Ya (X:Za):LI:=X0 Zp X (Yd X) (Yd X).Q.length
def Zb2:ZJ:=fun args h K=>Z0D Zf h args fun X t o i s a az=>match az with
 | [.ptr (some ⟨0,0,0,0,0⟩)]=>X.Inv Zf/\K (.ret (.nslice ⟨h.next,0,0,0,0⟩ 1 (Ya X).length (Ya X).length)) ⟨h.next+1,(h.next,.ints .u8 (Ya X))::U6 Zf X h t o i s a⟩
 | _=>False
theorem Z2j (args:List AV) (h:Z6) (K:KO) (hl:Zb2 args h K):Zh PP 10 args h K:=by
 unfold Zb2 Z0D at hl
 split at hl
 ·split at hl
  ·refine Spec.fsumm hl fun Bs a hlen hK0=> ?_
   split at hK0
   ·obtain ⟨X,⟨rfl,⟨rfl,rfl,rfl⟩,⟨rfl,rfl,rfl⟩,⟨rfl,rfl,rfl⟩,⟨rfl,rfl,rfl⟩,hL⟩,hK0⟩:=hK0
    split at hK0
    ·obtain ⟨hI,hK⟩:=hK0
     have q:=U1 Zf X
     exact ⟨_,_,_,_,_,.evM (ZfB X (Yd X)) (ZlD Zp X (Yd X) _ _ hI.raw rfl rfl rfl),by simp,.ret _ _ rfl,.cons _ _ _ _ _ _ rfl (.ints _ _) (.cons _ _ _ _ _ _ rfl (.flat _ _ rfl) (.cons _ _ _ _ _ _ rfl (.fmap _ _ _ (fun i _=>(q i).1)) (.cons _ _ _ _ _ _ rfl (.fmap _ _ _ (fun i _=>⟨(q i).2.1,(q i).1.2⟩)) (.cons _ _ _ _ _ _ rfl (.fmap _ _ _ (fun i _=>(q i).2.2.1)) (.cons _ _ _ _ _ _ rfl (.fmap _ _ _ (fun i _=>(q i).2.2.2)) .nil))))),hK⟩
    ·exact hK0.elim
   ·exact hK0.elim
  ·exact hl.elim
 ·exact hl.elim
noncomputable def E23 (F:LI->Int×Int):Zg:=G0.withP 143 (Zch F)
theorem Zdz:(E23 (Zy Zp)).Ok:=Zg.withP_ok Zv Zaw
theorem ZlE (xs:LI) (o n:Nat) (h2:n=0):
  evF G0 20 46 [.ptr (some ⟨0,0,0,0,0⟩)] ⟨2,[(0,.flat [.nslice ⟨1,0,0,0,o⟩ 1 n n,.bool true,.bool false]),(1,.ints .u8 xs)]⟩ (Y4 2 (.ret (.int .i64 0)) 2 [(0,.flat [.nslice ⟨1,0,0,0,o⟩ 1 n n,.bool true,.bool false]),(1,.ints .u8 xs)]):=by
 refine @Eq.mpr _ (Z8 (!(↑n:Int)==0) False (Z4 (o=o) (Z4 (n=n) (Z4 (n<=n) (xs=xs/\True))))) (by kernel_rfl) ?_
 try simp only [vcA]
 try simp only [vcB]
 try simp only [vcC]
 subst h2
 simp
theorem ZlF (xs:LI) (o n:Nat) (h2:n≠0):
  evF G0 20 46 [.ptr (some ⟨0,0,0,0,0⟩)] ⟨2,[(0,.flat [.nslice ⟨1,0,0,0,o⟩ 1 n n,.bool true,.bool false]),(1,.ints .u8 xs)]⟩ (Y4 2 (.ret (.int .i64 140)) 2 [(0,.flat [.nslice ⟨1,0,0,0,o⟩ 1 n n,.bool true,.bool true]),(1,.ints .u8 xs)]):=by
 refine @Eq.mpr _ (Z0 (!(↑n:Int)==0) (Z4 (o=o) (Z4 (n=n) (Z4 (n<=n) (xs=xs/\True))))) (by kernel_rfl) ?_
 try simp only [vcA]
 try simp only [vcB]
 try simp only [vcC]
 simp
 omega
theorem Z51 (W:Int->LI) (xs:LI):(Zy W xs).2<=xs.length:=by
 by_cases h0:xs.length=0
 ·rw [Z3n h0];omega
 by_cases hm:X2 (xs.getD 0 0)=0
 ·rw [QW h0 hm];omega
 by_cases hl:xs.length<=X2 (xs.getD 0 0)
 all_goals grind [V0,Vy]
def rdN (F:LI->Int×Int) (xs:LI) (o:Nat) (most:Int):Option (Int×Nat):=
 if 0<(F (xs.drop o)).2/\(F (xs.drop o)).1<=most then some ((F (xs.drop o)).1,o+(F (xs.drop o)).2.toNat) else none
def rdH (xs:LI) (o:Nat):Option (LI×Nat):=if o+32<=xs.length then some ((xs.drop o).take 32,o+32) else none
def ZdA:ZJ:=fun args h K=>match args with
 | [.ptr (some ⟨r,0,0,0,0⟩)]=>match h.get r with
  |some (.flat [.nslice ⟨b,0,0,0,_⟩ 1 _ _,.bool true,.bool false])=>frA [r,b] h 20 args fun Bs a=>match Bs,a with
   | [.flat [.nslice ⟨1,0,0,0,o⟩ 1 n n2,.bool true,.bool false],.ints .u8 xs],[.ptr (some ⟨0,0,0,0,0⟩)]=>
    Z4 (n2=n) (Z8 (decide (n=0))
     (K (.ret (.int .i64 0)) ⟨h.next,(r,.flat [.nslice ⟨b,0,0,0,o⟩ 1 n n,.bool true,.bool false])::(b,.ints .u8 xs)::ZK (ZK h.bs r) b⟩)
     (K (.ret (.int .i64 140)) ⟨h.next,(r,.flat [.nslice ⟨b,0,0,0,o⟩ 1 n n,.bool true,.bool true])::(b,.ints .u8 xs)::ZK (ZK h.bs r) b⟩))
   | _,_=>False
  | _=>False
 | _=>False
theorem ZdB (args:List AV) (h:Z6) (K:KO) (hl:ZdA args h K):Zh PP 46 args h K:=by
 unfold ZdA at hl
 split at hl
 ·split at hl
  ·refine Spec.fsumm hl fun Bs a hlen hK0=> ?_
   split at hK0
   ·rename_i o n n2 xs
    obtain ⟨rfl,hK⟩:=Zd hK0
    rw [Z5G] at hK
    by_cases hc:n2=0
    ·exact ⟨_,_,_,_,_,.evM Zv (ZlE xs o _ hc),by simp,.ret _ _ rfl,.cons _ _ _ _ _ _ rfl (.flat _ _ rfl) (.cons _ _ _ _ _ _ rfl (.ints _ _) .nil),hK.1 hc⟩
    ·exact ⟨_,_,_,_,_,.evM Zv (ZlF xs o _ hc),by simp,.ret _ _ rfl,.cons _ _ _ _ _ _ rfl (.flat _ _ rfl) (.cons _ _ _ _ _ _ rfl (.ints _ _) .nil),hK.2 hc⟩
   simp_all
  simp_all
 simp_all
theorem Zji (F:LI->Int×Int) (xs:LI) (o n o' n':Nat) (most v:Int) (hn:o+n=xs.length) (hm:0<=most) (h2:0<(F (xs.drop o)).2/\(F (xs.drop o)).2<=n) (h1:(F (xs.drop o)).1<=most) (hv:(F (xs.drop o)).1=v) (ho:o'=o+(F (xs.drop o)).2.toNat) (hn':n'=n-(F (xs.drop o)).2.toNat):
  evF (E23 F) 20 83 [.ptr (some ⟨0,0,0,0,0⟩),.int .i64 most] ⟨2,[(0,.flat [.nslice ⟨1,0,0,0,o⟩ 1 n n,.bool true,.bool false]),(1,.ints .u8 xs)]⟩ (Y4 2 (.ret (.tuple [.int .i64 v,.int .i64 0])) 2 [(0,.flat [.nslice ⟨1,0,0,0,o'⟩ 1 n' n',.bool true,.bool false]),(1,.ints .u8 xs)]):=by
 refine @Eq.mpr _ (let b:=Z8 (decide (0=v)) False False;let i:=ZI.tot (ZI.mk 1 0 0 0 o);let h:=List.take n (Y2 i xs);let g:=F h;let a:=g.snd;let f:=g.fst;let e:=decide (n<=n);let d:=decide (0<=a/\a<= ↑n);let c:=some (Int.toNat a);let j:=U9 n c;
 Z8 (decide (most<0)) b (Z4 (i+n<=xs.length) (Z4 (h.length=n) (Z8 (decide (a>0)) (Z8 (!decide (f<=most)) b (Z8 (!decide (a<= ↑n)) b (Z0 e (Z0 d (Z0 e (Z0 d (Z4 (f=v) (Z4 (o+ZP c=o') (Z4 (j=n') (Z4 (n'<=j) (xs=xs/\True))))))))))) b)))) (by kernel_rfl) ?_
 conv=>zeta
 try simp only [vcA]
 try simp only [vcB]
 try simp only [vcC]
 have ht:(ZI.mk 1 0 0 0 o).tot=o:=by simp [ZI.tot]
 have hd:List.take n (Y2 o xs)=xs.drop o:=by rw [ZU,JW (by rw [J9];omega)]
 have hl:(xs.drop o).length=n:=by rw [J9];omega
 simp only [ht,hd,hl]
 subst hv ho hn'
 generalize F (xs.drop o)=p at*
 have e1:(!decide (p.1<=most))=false:=by simp [h1]
 have e2:(!decide (p.2<=(n:Int)))=false:=by simp [h2.2]
 have e3:ZP (some p.2.toNat)=p.2.toNat:=rfl
 have e4:U9 n (some p.2.toNat)=n-p.2.toNat:=rfl
 simp only [e1,e2,e3,e4]
 repeat' (first|(refine JG ?_ ?_)|intro _)
 all_goals first|omega|rfl|trivial|(exfalso;omega)|(rename_i h;simp at h;done)|(rename_i h;simp at h;omega)|(rename_i h _;simp at h;omega)
theorem Zjj (F:LI->Int×Int) (xs:LI) (o n:Nat) (most:Int) (hn:o+n=xs.length) (hm:0<=most) (h2:0<(F (xs.drop o)).2->most<(F (xs.drop o)).1):
  evF (E23 F) 20 83 [.ptr (some ⟨0,0,0,0,0⟩),.int .i64 most] ⟨2,[(0,.flat [.nslice ⟨1,0,0,0,o⟩ 1 n n,.bool true,.bool false]),(1,.ints .u8 xs)]⟩ (Y4 2 (.ret (.tuple [.int .i64 0,.int .i64 140])) 2 [(0,.flat [.nslice ⟨1,0,0,0,o⟩ 1 n n,.bool true,.bool true]),(1,.ints .u8 xs)]):=by
 refine @Eq.mpr _ (let h:=ZI.tot (ZI.mk 1 0 0 0 o);let g:=List.take n (Y2 h xs);let f:=F g;let a:=f.snd;let e:=f.fst;let c:=decide (n<=n);let b:=Z4 (o=o) (Z4 (n=n) (Z0 c (xs=xs/\True)));let d:=decide (0<=a/\a<= ↑n);
 Z8 (decide (most<0)) False (Z4 (h+n<=xs.length) (Z4 (g.length=n) (Z8 (decide (a>0)) (Z8 (!decide (e<=most)) b (Z8 (!decide (a<= ↑n)) b (Z0 c (Z0 d (Z0 c (Z0 d (Z8 (decide (e=0)) False False))))))) b)))) (by kernel_rfl) ?_
 conv=>zeta
 try simp only [vcA]
 try simp only [vcB]
 try simp only [vcC]
 have ht:(ZI.mk 1 0 0 0 o).tot=o:=by simp [ZI.tot]
 have hd:List.take n (Y2 o xs)=xs.drop o:=by rw [ZU,JW (by rw [J9];omega)]
 have hl:(xs.drop o).length=n:=by rw [J9];omega
 simp only [ht,hd,hl]
 generalize F (xs.drop o)=p at*
 repeat' (first|(refine JG ?_ ?_)|intro _)
 all_goals first|omega|rfl|trivial|(exfalso;omega)|(rename_i h;simp at h;done)|(rename_i h;simp at h;omega)|(rename_i h _;simp at h;omega)
theorem Zjk (xs hh:LI) (o n o' n':Nat) (hn:o+n=xs.length) (h2:32<=n) (hh':hh=(xs.drop o).take 32) (ho:o'=o+32) (hn':n'=n-32):
  evF G0 20 84 [.ptr (some ⟨0,0,0,0,0⟩)] ⟨2,[(0,.flat [.nslice ⟨1,0,0,0,o⟩ 1 n n,.bool true,.bool false]),(1,.ints .u8 xs)]⟩ (Y4 2 (.ret (.tuple [.agg [.arr .u8 32 hh],.int .i64 0])) 2 [(0,.flat [.nslice ⟨1,0,0,0,o'⟩ 1 n' n',.bool true,.bool false]),(1,.ints .u8 xs)]):=by
 refine @Eq.mpr _ (let d:=decide (n<=n);let c:=decide ((0:Int)<=32/\32<=(↑n:Int));let b:=ZI.tot (ZI.mk 1 0 0 0 (o+0));let a:=U9 n (some 32);
 Z8 (!decide (32<=(↑n:Int))) (Ze=hh/\False) (Z0 d (Z0 c (Z0 d (Z0 c (Z4 (u8=u8/\b+32<=xs.length) (spl Ze 0 (List.take 32 (List.take 32 (Y2 b xs)))=hh/\Z4 (o+32=o') (Z4 (a=n') (Z4 (n'<=a) (xs=xs/\True)))))))))) (by kernel_rfl) ?_
 conv=>zeta
 try simp only [vcA]
 try simp only [vcB]
 try simp only [vcC]
 have ht:(ZI.mk 1 0 0 0 (o+0)).tot=o:=by simp [ZI.tot]
 have e4:U9 n (some 32)=n-32:=rfl
 have hl:((xs.drop o).take 32).length=32:=by rw [Jc,J9];omega
 have hd:List.take 32 (List.take 32 (Y2 o xs))=(xs.drop o).take 32:=by rw [ZU,List.take_take];rfl
 have hs:spl Ze 0 ((xs.drop o).take 32)=(xs.drop o).take 32:=by
  unfold spl
  rw [List.take_zero,Kl,hl]
  simp [Ze]
 simp only [ht,e4,hd,hs]
 subst hh' ho hn'
 repeat' (first|(refine JG ?_ ?_)|intro _)
 all_goals first|omega|rfl|trivial|(exfalso;omega)|(rename_i h;simp at h;done)|(rename_i h;simp at h;omega)|(rename_i h _;simp at h;omega)
theorem Zjl (xs:LI) (o n:Nat) (hn:o+n=xs.length) (h2:n<32):
  evF G0 20 84 [.ptr (some ⟨0,0,0,0,0⟩)] ⟨2,[(0,.flat [.nslice ⟨1,0,0,0,o⟩ 1 n n,.bool true,.bool false]),(1,.ints .u8 xs)]⟩ (Y4 2 (.ret (.tuple [.agg [.arr .u8 32 Ze],.int .i64 140])) 2 [(0,.flat [.nslice ⟨1,0,0,0,o⟩ 1 n n,.bool true,.bool true]),(1,.ints .u8 xs)]):=by
 refine @Eq.mpr _ (let a:=decide (n<=n);let c:=decide ((0:Int)<=32/\32<=(↑n:Int));let b:=ZI.tot (ZI.mk 1 0 0 0 (o+0));
 Z8 (!decide (32<=(↑n:Int))) (Ze=Ze/\Z4 (o=o) (Z4 (n=n) (Z0 a (xs=xs/\True)))) (Z0 a (Z0 c (Z0 a (Z0 c (Z4 (u8=u8/\b+32<=xs.length) (spl Ze 0 (List.take 32 (List.take 32 (Y2 b xs)))=Ze/\False))))))) (by kernel_rfl) ?_
 conv=>zeta
 try simp only [vcA]
 try simp only [vcB]
 try simp only [vcC]
 refine ⟨fun _=>trivial,fun h=> ?_⟩
 simp at h
 omega
def ZdC (F:LI->Int×Int):ZJ:=fun args h K=>match args with
 | [.ptr (some ⟨r,0,0,0,0⟩),.int .i64 _]=>match h.get r with
  |some (.flat [.nslice ⟨b,0,0,0,_⟩ 1 _ _,.bool true,.bool false])=>frA [r,b] h 20 args fun Bs a=>match Bs,a with
   | [.flat [.nslice ⟨1,0,0,0,o⟩ 1 n n2,.bool true,.bool false],.ints .u8 xs],[.ptr (some ⟨0,0,0,0,0⟩),.int .i64 most]=>
    Z4 (n=xs.length-o/\o<=xs.length/\n2=xs.length-o/\0<=most) ((∀v o',rdN F xs o most=some (v,o')->(o<=o'/\o'<=xs.length/\v<=most)->
     K (.ret (.tuple [.int .i64 v,.int .i64 0])) ⟨h.next,(r,.flat [.nslice ⟨b,0,0,0,o'⟩ 1 (xs.length-o') (xs.length-o'),.bool true,.bool false])::(b,.ints .u8 xs)::ZK (ZK h.bs r) b⟩)/\
     (rdN F xs o most=none->K (.ret (.tuple [.int .i64 0,.int .i64 140])) ⟨h.next,(r,.flat [.nslice ⟨b,0,0,0,o⟩ 1 (xs.length-o) (xs.length-o),.bool true,.bool true])::(b,.ints .u8 xs)::ZK (ZK h.bs r) b⟩))
   | _,_=>False
  | _=>False
 | _=>False
theorem ZdD (args:List AV) (h:Z6) (K:KO) (hl:ZdC (Zy Zp) args h K):Zh PP 83 args h K:=by
 unfold ZdC at hl
 split at hl
 ·split at hl
  ·refine Spec.fsumm hl fun Bs a hlen hK0=> ?_
   split at hK0
   ·rename_i o n n2 xs most
    obtain ⟨⟨rfl,h1,rfl,h3⟩,hK,hK'⟩:=Zd hK0
    have hle:=Z51 Zp (xs.drop o)
    rw [J9] at hle
    by_cases hc:0<(Zy Zp (xs.drop o)).2/\(Zy Zp (xs.drop o)).1<=most
    ·have f1:o<=o+(Zy Zp (xs.drop o)).2.toNat/\o+(Zy Zp (xs.drop o)).2.toNat<=xs.length/\(Zy Zp (xs.drop o)).1<=most:=⟨by omega,by omega,hc.2⟩
     exact ⟨_,_,_,_,_,.evM Zdz (Zji _ xs o (xs.length-o) (o+(Zy Zp (xs.drop o)).2.toNat) (xs.length-(o+(Zy Zp (xs.drop o)).2.toNat)) most _ (by omega) h3 ⟨hc.1,by omega⟩ hc.2 rfl rfl (by omega)),by simp,.ret _ _ rfl,.cons _ _ _ _ _ _ rfl (.flat _ _ rfl) (.cons _ _ _ _ _ _ rfl (.ints _ _) .nil),hK _ _ (by unfold rdN;rw [if_pos hc]) f1⟩
    ·exact ⟨_,_,_,_,_,.evM Zdz (Zjj _ xs o _ most (by omega) h3 (fun h=>by omega)),by simp,.ret _ _ rfl,.cons _ _ _ _ _ _ rfl (.flat _ _ rfl) (.cons _ _ _ _ _ _ rfl (.ints _ _) .nil),hK' (by unfold rdN;rw [if_neg hc])⟩
   simp_all
  simp_all
 simp_all
def Z8D:ZJ:=fun args h K=>match args with
 | [.ptr (some ⟨r,0,0,0,0⟩)]=>match h.get r with
  |some (.flat [.nslice ⟨b,0,0,0,_⟩ 1 _ _,.bool true,.bool false])=>frA [r,b] h 20 args fun Bs a=>match Bs,a with
   | [.flat [.nslice ⟨1,0,0,0,o⟩ 1 n n2,.bool true,.bool false],.ints .u8 xs],[.ptr (some ⟨0,0,0,0,0⟩)]=>
    Z4 (n=xs.length-o/\o<=xs.length/\n2=xs.length-o) ((∀hh o',rdH xs o=some (hh,o')->(o<=o'/\o'<=xs.length/\hh.length=32)->
     K (.ret (.tuple [.agg [.arr .u8 32 hh],.int .i64 0])) ⟨h.next,(r,.flat [.nslice ⟨b,0,0,0,o'⟩ 1 (xs.length-o') (xs.length-o'),.bool true,.bool false])::(b,.ints .u8 xs)::ZK (ZK h.bs r) b⟩)/\
     (rdH xs o=none->K (.ret (.tuple [.agg [.arr .u8 32 Ze],.int .i64 140])) ⟨h.next,(r,.flat [.nslice ⟨b,0,0,0,o⟩ 1 (xs.length-o) (xs.length-o),.bool true,.bool true])::(b,.ints .u8 xs)::ZK (ZK h.bs r) b⟩))
   | _,_=>False
  | _=>False
 | _=>False
theorem Zb3 (args:List AV) (h:Z6) (K:KO) (hl:Z8D args h K):Zh PP 84 args h K:=by
 unfold Z8D at hl
 split at hl
 ·split at hl
  ·refine Spec.fsumm hl fun Bs a hlen hK0=> ?_
   split at hK0
   ·rename_i o n n2 xs
    obtain ⟨⟨rfl,h1,rfl⟩,hK,hK'⟩:=Zd hK0
    by_cases hc:o+32<=xs.length
    ·have f1:o<=o+32/\o+32<=xs.length/\((xs.drop o).take 32).length=32:=⟨by omega,hc,by rw [Jc,J9];omega⟩
     exact ⟨_,_,_,_,_,.evM Zv (Zjk xs _ o (xs.length-o) (o+32) (xs.length-(o+32)) (by omega) (by omega) rfl rfl (by omega)),by simp,.ret _ _ rfl,.cons _ _ _ _ _ _ rfl (.flat _ _ rfl) (.cons _ _ _ _ _ _ rfl (.ints _ _) .nil),hK _ _ (by unfold rdH;rw [if_pos hc]) f1⟩
    ·exact ⟨_,_,_,_,_,.evM Zv (Zjl xs o _ (by omega) (by omega)),by simp,.ret _ _ rfl,.cons _ _ _ _ _ _ rfl (.flat _ _ rfl) (.cons _ _ _ _ _ _ rfl (.ints _ _) .nil),hK' (by unfold rdH;rw [if_neg hc])⟩
   simp_all
  simp_all
 simp_all
noncomputable def Z20 (F:LI->Int×Int):Zg:=(((((((G0.withF 83 (ZdC F)).withF 84 Z8D).withF 46 ZdA).withF 17 (Zhb Zf)).withF 23 (Zhf Zf)).withF 25 (ZcN Zf)).withF 10 Zb2).withF 82 Z2a
theorem Z9I:(Z20 (Zy Zp)).Ok:=Zg.withF_ok (Zg.withF_ok (Zg.withF_ok (Zg.withF_ok (Zg.withF_ok (Zg.withF_ok (Zg.withF_ok (Zg.withF_ok Zv ZdD) Zb3) ZdB) (Z9z Zf)) Z9D) Z6X) Z2j) QV
noncomputable def YD (l:LI):H32:=open Classical in if h:l.length=32/\∀x∈l,0<=x/\x<=255 then ⟨l,h.1,h.2⟩ else h0
theorem ZdE {l:LI} (h:l.length=32) (hb:∀x∈l,0<=x/\x<=255):(YD l).v=l:=by
 unfold YD
 rw [dif_pos ⟨h,hb⟩]
noncomputable def stT (F:LI->Int×Int) (xs:LI) (a:Za×Nat):Option (Za×Nat):=
 (rdH xs a.2).bind fun h=>(rdN F xs h.2 2147483647).bind fun i=>(rdH xs i.2).bind fun o=>(rdN F xs o.2 2147483647).bind fun j=>
 if YQ a.1.T ⟨YD h.1,i.1,YD o.1,j.1⟩=0 then some (⟨W6 a.1.T ⟨YD h.1,i.1,YD o.1,j.1⟩,a.1.S,a.1.Q⟩,j.2) else none
noncomputable def stS (xs:LI) (a:Za×Nat):Option (Za×Nat):=
 (rdH xs a.2).bind fun h=>if Qj Zf a.1.S (YD h.1)=0 then some (⟨a.1.T,Xz Zf a.1.S (YD h.1),a.1.Q⟩,h.2) else none
noncomputable def stQ (F:LI->Int×Int) (xs:LI) (a:Za×Nat):Option (Za×Nat):=
 (rdH xs a.2).bind fun h=>(rdH xs h.2).bind fun k=>(rdN F xs k.2 1125899906842624).bind fun m=>(rdN F xs m.2 1000).bind fun l=>(rdH xs l.2).bind fun z=>
 if YS Zf a.1.Q ⟨YD h.1,YD k.1,m.1,l.1,YD z.1⟩=0 then some (⟨a.1.T,a.1.S,Wh Zf a.1.Q ⟨YD h.1,YD k.1,m.1,l.1,YD z.1⟩⟩,z.2) else none
def pvK:AV:=.iface 46 (.int .i64 361)
def lkD:List Ua:=[.call 41 [pt 0,pt 1]]
def lkB (xs:LI) (a:Za×Nat):List (Nat×Blk):=(3,.flat [.nslice ⟨2,0,0,0,a.2⟩ 1 (xs.length-a.2) (xs.length-a.2),.bool true,.bool false])::(2,.ints .u8 xs)::(9,.flat [.map (some 5),.map (some 6),.map (some 7),.map (some 8)])::(8,.fmap a.1.Q.length (qkV a.1.Q) (quV a.1.Q))::(7,.fmap a.1.S.length (skV Zf a.1.S) (seV a.1.S))::(6,.fmap a.1.T.length (tkI a.1.T) (tiV a.1.T))::(5,.fmap a.1.T.length (tkO a.1.T) (tiV a.1.T))::(4,.flat [pt 3])::(1,.flat [.int .i64 0])::[(0,.flat [pt 9])]
def lkT (xs:LI):ZM:=[(4,pt 4),(3,pt 1),(2,pt 0),(0,.vints .u8 xs xs.length)]
def lkS (r c:Nat) (xs:LI) (v:Int) (a:Za×Nat) (i:Nat):St:=⟨73,(r,.int .i64 i)::(c,.int .i64 v)::lkT xs,⟨10,lkB xs a⟩,lkD⟩
def lkE (xs:LI) (a:Za×Nat):St:=⟨73,lkT xs,⟨10,lkB xs a⟩,lkD⟩
def lkP:St:=⟨73,[(2,pt 0),(3,pt 1)],⟨2,[(0,.flat [.top]),(1,.flat [.top])]⟩,lkD⟩
def lkN:St:=⟨73,[],⟨0,[]⟩,[]⟩
structure Byt (xs:LI):Prop where
 b:∀x∈xs,0<=x/\x<=255
theorem Z52 {h:LI} {o p:Nat} (hB:Byt xs) (he:rdH xs o=some (h,p)):(YD h).v=h:=by
 unfold rdH at he
 split at he
 ·simp only [JA,Prod.mk.injEq] at he
  obtain ⟨rfl,rfl⟩:=he
  refine ZdE (by rw [Jc,J9];omega) fun x hx=>hB.b x (List.mem_of_mem_drop (List.mem_of_mem_take hx))
 ·cases he
theorem ZlG (F:LI->Int×Int) (xs:LI) (a b:Za×Nat) (v:Int) (i:Nat) (go ex pa:Prop) (hX:a.1.Lim) (hB:Byt xs) (ho:a.2<=xs.length) (hv':v<=48) (hg:(i:Int)<v->stT F xs a=some b->go) (hx:¬(i:Int)<v->ex) (hp:(i:Int)<v->stT F xs a=none->pa) (hb:(i:Int)<v->∀c,stT F xs a=some c->b=c):
  ZA (Z20 F) 40 9 0 0 (lkS 13 12 xs v a i) (rdP 0 0 9 pvK (lkS 13 12 xs v b (i+1)) (lkE xs a) lkN lkN lkP go ex False False pa):=by
 refine @Eq.mpr _ (let c:=xs.length;let f:=c-a.snd;let J:=rdH xs a.snd;let m:=a.fst.T;let d:=m.length;let l:=true=true/\true=true;let p:=a.fst.S;let h:=p.length;let o:=a.fst.Q;let j:=o.length;let D:=tkO m;let g:=tiV m;let C:=tkI m;let B:=skV Zf p;let A:=seV p;let z:=qkV o;let y:=quV o;let P:=decide (c=c);let O:=c-b.snd;let w:=b.fst.Q;let N:=w.length;let e:=[(8,8),(7,7),(6,6),(5,5),(2,2),(9,9),(3,3),(0,0),(1,1),(4,4)];let u:=b.fst.S;let M:=u.length;let n:=b.fst.T;let t:=n.length;let L:=tiV n;let K:=decide (d=d);
 Z8 (decide (↑i<v)) (Z4 (f=f/\a.snd<=c/\f=f) ((∀(hh:LI) (o':Nat),
 let I:=rdN F xs o' 2147483647;
 J=some (hh,o')->
 a.snd<=o'/\o'<=c/\hh.length=32->
 Z4 (c-o'=c-o'/\o'<=c/\c-o'=c-o'/\(0:Int)<=2147483647) ((∀(v_1:Int) (o'_1:Nat),
 I=some (v_1,o'_1)->
 o'<=o'_1/\o'_1<=c/\v_1<=2147483647->
 Z4 (c-o'_1=c-o'_1/\o'_1<=c/\c-o'_1=c-o'_1) ((∀(hh_1:LI) (o':Nat),
 let H:=rdN F xs o' 2147483647;
 rdH xs o'_1=some (hh_1,o')->
 o'_1<=o'/\o'<=c/\hh_1.length=32->
 Z4 (c-o'=c-o'/\o'<=c/\c-o'=c-o'/\(0:Int)<=2147483647) ((∀(v_2:Int) (o'_2:Nat),
 H=some (v_2,o'_2)->
 o'<=o'_2/\o'_2<=c/\v_2<=2147483647->
 (∀(i:Nat),i<d->l)/\
 (∀(i:Nat),i<d->l)/\
 (∀(i:Nat),i<h->l)/\
 (∀(i:Nat),i<j->l)/\
 ∃(X:Za),
 Xc Zf X [AV.map (some 1),AV.map (some 2),AV.map (some 3),AV.map (some 4)] d D g d C g h B A j z y/\
 ∃(x:Zl),
 let s:=Za.mk (W6 X.T x) X.S X.Q;let r:=s.Q;let q:=s.S;let k:=s.T;let G:=decide (k.length=t);let E:=tiV k;
 Z6W [AV.arr u8 32 hh,AV.int i64 v_1,AV.arr u8 32 hh_1,AV.int i64 v_2] x/\Z8 (!YQ X.T x==0) pa (Z4 (wrap i64 (↑i+1)=↑(i+1)) (Z4 (v=v) (xs=xs/\Z0 P (Z4 (o'_2=b.snd) (Z4 (c-o'_2=O) (Z4 (O<=c-o'_2) (xs=xs/\Z4 (r.length=N) (Z7 0 e N (qkV w) (quV w) (qkV r) (quV r)/\Z4 (q.length=M) (Z7 0 e M (skV Zf u) (seV u) (skV Zf q) (seV q)/\Z0 G (Z7 0 e t (tkI n) L (tkI k) E/\Z0 G (Z7 0 e t (tkO n) L (tkO k) E/\go))))))))))))/\
 (H=none->pa)))/\
 (rdH xs o'_1=none->pa)))/\
 (I=none->pa)))/\
 (J=none->pa))) (xs=xs/\Z0 P (Z4 (a.snd=a.snd) (Z4 (f=f) (Z4 (f<=f) (xs=xs/\Z4 (j=j) (Z7 0 e j z y z y/\Z4 (h=h) (Z7 0 e h B A B A/\Z0 K (Z7 0 e d C g C g/\Z0 K (Z7 0 e d D g D g/\ex)))))))))) (by kernel_rfl) ?_
 conv=>zeta
 try simp only [vcA]
 try simp only [vcB]
 try simp only [vcC]
 have tr:∀{n:Nat} (i:Nat),i<n->True:=fun _ _=>trivial
 refine ⟨fun hlt=>⟨ho,fun hh o1 e1 l1=>⟨⟨l1.2.1,by decide⟩,fun v1 o2 e2 l2=>⟨l2.2.1,fun hh2 o3 e3 l3=>⟨⟨l3.2.1,by decide⟩,fun v2 o4 e4 l4=> ?_,fun e4=>hp hlt ?_⟩,fun e3=>hp hlt ?_⟩,fun e2=>hp hlt ?_⟩,fun e1=>hp hlt ?_⟩,fun hge=> ?_⟩
 ·have q1:=Z52 hB e1
  have q2:=Z52 hB e3
  have es:stT F xs a=if YQ a.1.T ⟨YD hh,v1,YD hh2,v2⟩=0 then some (⟨W6 a.1.T ⟨YD hh,v1,YD hh2,v2⟩,a.1.S,a.1.Q⟩,o4) else none:=by simp only [stT,e1,e2,e3,e4,Jg]
  refine ⟨tr,tr,tr,tr,a.1,Wl Zf hX,⟨YD hh,v1,YD hh2,v2⟩,⟨by simp only [Zl.c,q1,q2]⟩,fun k=>hp hlt ?_,fun k=> ?_⟩
  ·rw [es,if_neg (by simpa using k)]
  ·rw [if_pos (by simpa using k)] at es
   have hc:=hb hlt _ es
   have hgo:=hg hlt (by rw [es,hc])
   subst hc
   obtain ⟨m1,m2,m3,m4⟩:=Xb Zf ⟨W6 a.1.T ⟨YD hh,v1,YD hh2,v2⟩,a.1.S,a.1.Q⟩ 0 [(8,8),(7,7),(6,6),(5,5),(2,2),(9,9),(3,3),(0,0),(1,1),(4,4)]
   exact ⟨by rw [w64 (by omega)];omega,rfl,rfl,J1 _,rfl,m4,rfl,m3,rfl,m2,rfl,m1,hgo⟩
 ·simp only [stT,e1,e2,e3,e4,Jg,JQ]
 ·simp only [stT,e1,e2,e3,Jg,JQ]
 ·simp only [stT,e1,e2,Jg,JQ]
 ·simp only [stT,e1,JQ]
 ·obtain ⟨m1,m2,m3,m4⟩:=Xb Zf a.1 0 [(8,8),(7,7),(6,6),(5,5),(2,2),(9,9),(3,3),(0,0),(1,1),(4,4)]
  exact ⟨m4,m3,m2,m1,hx hge⟩
theorem ZlH (F:LI->Int×Int) (xs:LI) (a b:Za×Nat) (v:Int) (i:Nat) (go ex pa:Prop) (hX:a.1.Lim) (hB:Byt xs) (ho:a.2<=xs.length) (hv':v<=64) (hg:(i:Int)<v->stS xs a=some b->go) (hx:¬(i:Int)<v->ex) (hp:(i:Int)<v->stS xs a=none->pa) (hb:(i:Int)<v->∀c,stS xs a=some c->b=c):
  ZA (Z20 F) 40 9 2 0 (lkS 31 30 xs v a i) (rdP 0 2 9 pvK (lkS 31 30 xs v b (i+1)) (lkE xs a) lkN lkN lkP go ex False False pa):=by
 refine @Eq.mpr _ (let f:=xs.length;let e:=f-a.snd;let G:=rdH xs a.snd;let m:=a.fst.T;let c:=m.length;let l:=true=true/\true=true;let p:=a.fst.S;let h:=p.length;let o:=a.fst.Q;let j:=o.length;let D:=tkO m;let g:=tiV m;let C:=tkI m;let B:=skV Zf p;let A:=seV p;let z:=qkV o;let y:=quV o;let M:=decide (f=f);let L:=f-b.snd;let w:=b.fst.Q;let K:=w.length;let d:=[(8,8),(7,7),(6,6),(5,5),(2,2),(9,9),(3,3),(0,0),(1,1),(4,4)];let u:=b.fst.S;let J:=u.length;let n:=b.fst.T;let t:=n.length;let I:=tiV n;let H:=decide (c=c);
 Z8 (decide (↑i<v)) (Z4 (e=e/\a.snd<=f/\e=e) ((∀(hh:LI) (o':Nat),
 G=some (hh,o')->
 a.snd<=o'/\o'<=f/\hh.length=32->
 (∀(i:Nat),i<c->l)/\
 (∀(i:Nat),i<c->l)/\
 (∀(i:Nat),i<h->l)/\
 (∀(i:Nat),i<j->l)/\
 ∃(X:Za),
 Xc Zf X [AV.map (some 1),AV.map (some 2),AV.map (some 3),AV.map (some 4)] c D g c C g h B A j z y/\
 ∃(x:H32),
 let s:=Za.mk X.T (Xz Zf X.S x) X.Q;let r:=s.Q;let q:=s.S;let k:=s.T;let F:=decide (k.length=t);let E:=tiV k;
 hh=x.v/\Z8 (!Qj Zf X.S x==0) pa (Z4 (wrap i64 (↑i+1)=↑(i+1)) (Z4 (v=v) (xs=xs/\Z0 M (Z4 (o'=b.snd) (Z4 (f-o'=L) (Z4 (L<=f-o') (xs=xs/\Z4 (r.length=K) (Z7 0 d K (qkV w) (quV w) (qkV r) (quV r)/\Z4 (q.length=J) (Z7 0 d J (skV Zf u) (seV u) (skV Zf q) (seV q)/\Z0 F (Z7 0 d t (tkI n) I (tkI k) E/\Z0 F (Z7 0 d t (tkO n) I (tkO k) E/\go))))))))))))/\
 (G=none->pa))) (xs=xs/\Z0 M (Z4 (a.snd=a.snd) (Z4 (e=e) (Z4 (e<=e) (xs=xs/\Z4 (j=j) (Z7 0 d j z y z y/\Z4 (h=h) (Z7 0 d h B A B A/\Z0 H (Z7 0 d c C g C g/\Z0 H (Z7 0 d c D g D g/\ex)))))))))) (by kernel_rfl) ?_
 conv=>zeta
 try simp only [vcA]
 try simp only [vcB]
 try simp only [vcC]
 have tr:∀{n:Nat} (i:Nat),i<n->True:=fun _ _=>trivial
 refine ⟨fun hlt=>⟨ho,fun hh o1 e1 l1=> ?_,fun e1=>hp hlt ?_⟩,fun hge=> ?_⟩
 ·have q1:=Z52 hB e1
  have es:stS xs a=if Qj Zf a.1.S (YD hh)=0 then some (⟨a.1.T,Xz Zf a.1.S (YD hh),a.1.Q⟩,o1) else none:=by simp only [stS,e1,Jg]
  refine ⟨tr,tr,tr,tr,a.1,Wl Zf hX,YD hh,q1.symm,fun k=>hp hlt ?_,fun k=> ?_⟩
  ·rw [es,if_neg (by simpa using k)]
  ·rw [if_pos (by simpa using k)] at es
   have hc:=hb hlt _ es
   have hgo:=hg hlt (by rw [es,hc])
   subst hc
   obtain ⟨m1,m2,m3,m4⟩:=Xb Zf ⟨a.1.T,Xz Zf a.1.S (YD hh),a.1.Q⟩ 0 [(8,8),(7,7),(6,6),(5,5),(2,2),(9,9),(3,3),(0,0),(1,1),(4,4)]
   exact ⟨by rw [w64 (by omega)];omega,rfl,rfl,J1 _,rfl,m4,rfl,m3,rfl,m2,rfl,m1,hgo⟩
 ·simp only [stS,e1,JQ]
 ·obtain ⟨m1,m2,m3,m4⟩:=Xb Zf a.1 0 [(8,8),(7,7),(6,6),(5,5),(2,2),(9,9),(3,3),(0,0),(1,1),(4,4)]
  exact ⟨m4,m3,m2,m1,hx hge⟩
theorem ZlI (F:LI->Int×Int) (xs:LI) (a b:Za×Nat) (v:Int) (i:Nat) (go ex pa:Prop) (hX:a.1.Lim) (hB:Byt xs) (ho:a.2<=xs.length) (hv':v<=16) (hg:(i:Int)<v->stQ F xs a=some b->go) (hx:¬(i:Int)<v->ex) (hp:(i:Int)<v->stQ F xs a=none->pa) (hb:(i:Int)<v->∀c,stQ F xs a=some c->b=c):
  ZA (Z20 F) 40 9 4 0 (lkS 42 41 xs v a i) (rdP 0 4 9 pvK (lkS 42 41 xs v b (i+1)) (lkE xs a) lkN lkN lkP go ex False False pa):=by
 refine @Eq.mpr _ (let c:=xs.length;let f:=c-a.snd;let J:=rdH xs a.snd;let m:=a.fst.T;let d:=m.length;let l:=true=true/\true=true;let p:=a.fst.S;let h:=p.length;let o:=a.fst.Q;let j:=o.length;let D:=tkO m;let g:=tiV m;let C:=tkI m;let B:=skV Zf p;let A:=seV p;let z:=qkV o;let y:=quV o;let P:=decide (c=c);let O:=c-b.snd;let x:=b.fst.Q;let N:=x.length;let e:=[(8,8),(7,7),(6,6),(5,5),(2,2),(9,9),(3,3),(0,0),(1,1),(4,4)];let w:=b.fst.S;let M:=w.length;let n:=b.fst.T;let u:=n.length;let L:=tiV n;let K:=decide (d=d);
 Z8 (decide (↑i<v)) (Z4 (f=f/\a.snd<=c/\f=f) ((∀(hh:LI) (o':Nat),
 J=some (hh,o')->
 a.snd<=o'/\o'<=c/\hh.length=32->
 Z4 (c-o'=c-o'/\o'<=c/\c-o'=c-o') ((∀(hh_1:LI) (o'_1:Nat),
 let I:=rdN F xs o'_1 1125899906842624;
 rdH xs o'=some (hh_1,o'_1)->
 o'<=o'_1/\o'_1<=c/\hh_1.length=32->
 Z4 (c-o'_1=c-o'_1/\o'_1<=c/\c-o'_1=c-o'_1/\(0:Int)<=1125899906842624) ((∀(v_1:Int) (o':Nat),
 let H:=rdN F xs o' 1000;
 I=some (v_1,o')->
 o'_1<=o'/\o'<=c/\v_1<=1125899906842624->
 Z4 (c-o'=c-o'/\o'<=c/\c-o'=c-o'/\(0:Int)<=1000) ((∀(v_2:Int) (o'_2:Nat),
 H=some (v_2,o'_2)->
 o'<=o'_2/\o'_2<=c/\v_2<=1000->
 Z4 (c-o'_2=c-o'_2/\o'_2<=c/\c-o'_2=c-o'_2) ((∀(hh_2:LI) (o':Nat),
 rdH xs o'_2=some (hh_2,o')->
 o'_2<=o'/\o'<=c/\hh_2.length=32->
 hh=hh/\
 hh_1=hh_1/\
 Z4 (v_1=v_1) (Z4 (v_2=v_2) ((∀(i:Nat),i<d->l)/\
 (∀(i:Nat),i<d->l)/\
 (∀(i:Nat),i<h->l)/\
 (∀(i:Nat),i<j->l)/\
 ∃(X:Za),
 Xc Zf X [AV.map (some 1),AV.map (some 2),AV.map (some 3),AV.map (some 4)] d D g d C g h B A j z y/\
 ∃(q:Zq),
 let t:=Za.mk X.T X.S (Wh Zf X.Q q);let s:=t.Q;let r:=t.S;let k:=t.T;let G:=decide (k.length=u);let E:=tiV k;
 ([AV.arr u8 32 hh,AV.arr u8 32 hh_1,AV.int i64 v_1,AV.int i64 v_2]=Zq.ic q/\hh_2=q.secret.v)/\Z8 (!YS Zf X.Q q==0) pa (Z4 (wrap i64 (↑i+1)=↑(i+1)) (Z4 (v=v) (xs=xs/\Z0 P (Z4 (o'=b.snd) (Z4 (c-o'=O) (Z4 (O<=c-o') (xs=xs/\Z4 (s.length=N) (Z7 0 e N (qkV x) (quV x) (qkV s) (quV s)/\Z4 (r.length=M) (Z7 0 e M (skV Zf w) (seV w) (skV Zf r) (seV r)/\Z0 G (Z7 0 e u (tkI n) L (tkI k) E/\Z0 G (Z7 0 e u (tkO n) L (tkO k) E/\go))))))))))))))/\
 (rdH xs o'_2=none->pa)))/\
 (H=none->pa)))/\
 (I=none->pa)))/\
 (rdH xs o'=none->pa)))/\
 (J=none->pa))) (xs=xs/\Z0 P (Z4 (a.snd=a.snd) (Z4 (f=f) (Z4 (f<=f) (xs=xs/\Z4 (j=j) (Z7 0 e j z y z y/\Z4 (h=h) (Z7 0 e h B A B A/\Z0 K (Z7 0 e d C g C g/\Z0 K (Z7 0 e d D g D g/\ex)))))))))) (by kernel_rfl) ?_
 conv=>zeta
 try simp only [vcA]
 try simp only [vcB]
 try simp only [vcC]
 have tr:∀{n:Nat} (i:Nat),i<n->True:=fun _ _=>trivial
 refine ⟨fun hlt=>⟨ho,fun hh o1 e1 l1=>⟨l1.2.1,fun hk o2 e2 l2=>⟨⟨l2.2.1,by decide⟩,fun v1 o3 e3 l3=>⟨⟨l3.2.1,by decide⟩,fun v2 o4 e4 l4=>⟨l4.2.1,fun hz o5 e5 l5=> ?_,fun e5=>hp hlt ?_⟩,fun e4=>hp hlt ?_⟩,fun e3=>hp hlt ?_⟩,fun e2=>hp hlt ?_⟩,fun e1=>hp hlt ?_⟩,fun hge=> ?_⟩
 ·have q1:=Z52 hB e1
  have q2:=Z52 hB e2
  have q3:=Z52 hB e5
  have es:stQ F xs a=if YS Zf a.1.Q ⟨YD hh,YD hk,v1,v2,YD hz⟩=0 then some (⟨a.1.T,a.1.S,Wh Zf a.1.Q ⟨YD hh,YD hk,v1,v2,YD hz⟩⟩,o5) else none:=by simp only [stQ,e1,e2,e3,e4,e5,Jg]
  refine ⟨tr,tr,tr,tr,a.1,Wl Zf hX,⟨YD hh,YD hk,v1,v2,YD hz⟩,⟨by simp only [Zq.ic,q1,q2],q3.symm⟩,fun k=>hp hlt ?_,fun k=> ?_⟩
  ·rw [es,if_neg (by simpa using k)]
  ·rw [if_pos (by simpa using k)] at es
   have hc:=hb hlt _ es
   have hgo:=hg hlt (by rw [es,hc])
   subst hc
   obtain ⟨m1,m2,m3,m4⟩:=Xb Zf ⟨a.1.T,a.1.S,Wh Zf a.1.Q ⟨YD hh,YD hk,v1,v2,YD hz⟩⟩ 0 [(8,8),(7,7),(6,6),(5,5),(2,2),(9,9),(3,3),(0,0),(1,1),(4,4)]
   exact ⟨by rw [w64 (by omega)];omega,rfl,rfl,J1 _,rfl,m4,rfl,m3,rfl,m2,rfl,m1,hgo⟩
 ·simp only [stQ,e1,e2,e3,e4,e5,Jg,JQ]
 ·simp only [stQ,e1,e2,e3,e4,Jg,JQ]
 ·simp only [stQ,e1,e2,e3,Jg,JQ]
 ·simp only [stQ,e1,e2,Jg,JQ]
 ·simp only [stQ,e1,JQ]
 ·obtain ⟨m1,m2,m3,m4⟩:=Xb Zf a.1 0 [(8,8),(7,7),(6,6),(5,5),(2,2),(9,9),(3,3),(0,0),(1,1),(4,4)]
  exact ⟨m4,m3,m2,m1,hx hge⟩
def itO {σ:Type} (st:σ->Option σ) (a:σ):Nat->Option σ
 | 0=>some a
 | n+1=>(itO st a n).bind st
def itG {σ:Type} (st:σ->Option σ) (a:σ):Nat->σ
 | 0=>a
 | n+1=>(st (itG st a n)).getD (itG st a n)
theorem V6 {σ:Type} {st:σ->Option σ} {P:σ->Prop} (hP:∀a b,P a->st a=some b->P b) {a:σ} (h:P a):∀n,P (itG st a n)
 | 0=>h
 | n+1=>by
  have ih:=V6 hP h n
  unfold itG
  cases hs:st (itG st a n) with
  | none=>exact ih
  | some b=>exact hP _ _ ih hs
theorem US {σ:Type} {st:σ->Option σ} {a:σ}:∀{n:Nat},(∀j,j<n->(st (itG st a j)).isSome=true)->itO st a n=some (itG st a n)
 | 0,_=>rfl
 | n+1,h=>by
  have hn:=h n (Kr _)
  unfold itO itG
  rw [US fun j hj=>h j (by omega),Jg]
  cases hs:st (itG st a n) with
  | none=>rw [hs] at hn;cases hn
  | some b=>rfl
theorem Z77 {σ:Type} {st:σ->Option σ} {a:σ} {n:Nat} (h:itO st a n=none):∀{m:Nat},n<=m->itO st a m=none
 | 0,hm=>by
  have e:n=0:=by omega
  subst e
  exact h
 | m+1,hm=>by
  by_cases e:n=m+1
  ·subst e;exact h
  ·unfold itO
   rw [Z77 h (show n<=m by omega)]
   rfl
theorem Z1m {σ:Type} {st:σ->Option σ} {a:σ} {n m:Nat} (h:∀j,j<n->(st (itG st a j)).isSome=true) (hn:st (itG st a n)=none) (hm:n<m):itO st a m=none:=by
 refine Z77 (n:=n+1) ?_ hm
 unfold itO
 rw [US h,Jg,hn]
def LkI (xs:LI) (a:Za×Nat):Prop:=a.1.Inv Zf/\a.2<=xs.length
theorem Z1n {h:LI} {o p:Nat} (he:rdH xs o=some (h,p)):p<=xs.length:=by
 unfold rdH at he
 split at he
 ·simp only [JA,Prod.mk.injEq] at he
  omega
 ·cases he
theorem UT {o p:Nat} {v:Int} (ho:o<=xs.length) (h:rdN (Zy Zp) xs o most=some (v,p)):p<=xs.length/\v<=most:=by
 unfold rdN at h
 split at h
 ·rename_i hc
  simp only [JA,Prod.mk.injEq] at h
  have hle:=Z51 Zp (xs.drop o)
  rw [J9] at hle
  omega
 ·cases h
theorem Z2k (a b:Za×Nat) (h:LkI xs a) (hs:stT (Zy Zp) xs a=some b):LkI xs b:=by
 unfold stT at hs
 simp only [Ji] at hs
 obtain ⟨h1,e1,h2,e2,h3,e3,h4,e4,hs⟩:=hs
 split at hs
 ·simp only [JA] at hs
  subst hs
  exact ⟨h.1.tie _,(UT (Z1n e3) e4).1⟩
 ·cases hs
theorem Z2l (a b:Za×Nat) (h:LkI xs a) (hs:stS xs a=some b):LkI xs b:=by
 unfold stS at hs
 simp only [Ji] at hs
 obtain ⟨h1,e1,hs⟩:=hs
 split at hs
 ·simp only [JA] at hs
  subst hs
  exact ⟨h.1.lrn _,Z1n e1⟩
 ·cases hs
theorem Z2m (a b:Za×Nat) (h:LkI xs a) (hs:stQ (Zy Zp) xs a=some b):LkI xs b:=by
 unfold stQ at hs
 simp only [Ji] at hs
 obtain ⟨h1,e1,h2,e2,h3,e3,h4,e4,h5,e5,hs⟩:=hs
 split at hs
 ·simp only [JA] at hs
  subst hs
  exact ⟨h.1.ask _,Z1n e5⟩
 ·cases hs
structure LkC (xs:LI) (a:Za×Nat) (v mx:Int):Prop where
 i:LkI xs a
 b:Byt xs
 v:v<=mx
def lkL (id r c:Nat) (st:LI->Za×Nat->Option (Za×Nat)) (mx:Int):Nat->St->KE->Prop:=fun k s X=>∃p:LI×(Za×Nat)×Int,goM 0 (lkS r c p.1 p.2.2 p.2.1 0) (LkC p.1 p.2.1 p.2.2 mx) (Zg3 id p.2.2.toNat 9 pvK (fun i=>(st p.1 (itG (st p.1) p.2.1 i)).isSome=true) (fun i=>¬(i:Int)<p.2.2) (fun _=>False) (fun _=>False) (fun i=>(i:Int)<p.2.2/\st p.1 (itG (st p.1) p.2.1 i)=none) (fun i=>lkE p.1 (itG (st p.1) p.2.1 i)) (fun _=>lkN) (fun _=>lkN) (fun _=>lkP)) k s X
theorem Z8E {id r c:Nat} {st:LI->Za×Nat->Option (Za×Nat)} {mx:Int} (h1:W2 PP 9 id=true) (hi:∀xs a b,LkI xs a->st xs a=some b->LkI xs b)
  (hr:∀(xs:LI) (a b:Za×Nat) (v:Int) (i:Nat) (go ex pa:Prop),a.1.Lim->Byt xs->a.2<=xs.length->v<=mx->((i:Int)<v->st xs a=some b->go)->(¬(i:Int)<v->ex)->((i:Int)<v->st xs a=none->pa)->((i:Int)<v->∀c,st xs a=some c->b=c)->ZA (Z20 (Zy Zp)) 40 9 id 0 (lkS r c xs v a i) (rdP 0 id 9 pvK (lkS r c xs v b (i+1)) (lkE xs a) lkN lkN lkP go ex False False pa)):
  ((Z20 (Zy Zp)).withL 9 id (lkL id r c st mx)).Ok:=by
 refine Zg.withL_ex Z9I fun p=> ?_
 obtain ⟨xs,a,v⟩:=p
 refine Zg.withGoP (N:=40) (k:=0) (n:=v.toNat) (l:=9) (pv:=pvK) (S:=fun i=>lkS r c xs v (itG (st xs) a i) i) Z9I rfl h1 fun hC=>⟨rfl,fun i hi' _=> ?_⟩
 have hI:LkI xs (itG (st xs) a i):=V6 (hi xs) hC.i i
 have hv:v<=mx:=hC.v
 have hi':i<=v.toNat:=hi'
 refine hr xs _ _ v i _ _ _ hI.1.lim hC.b hI.2 hv (fun hlt he=>⟨?_,by omega⟩) (fun h=>h) (fun hlt hn=>⟨hlt,hn⟩) fun hlt c hc=> ?_
 ·show (st xs (itG (st xs) a i)).isSome=true
  rw [he]
  rfl
 ·show (st xs (itG (st xs) a i)).getD (itG (st xs) a i)=c
  rw [hc]
  rfl
noncomputable def rdX (F:LI->Int×Int) (xs:LI):Option Za:=
 (rdN F xs 0 48).bind fun n=>(itO (stT F xs) (⟨[],[],[]⟩,n.2) n.1.toNat).bind fun a=>(rdN F xs a.2 64).bind fun m=>(itO (stS xs) (a.1,m.2) m.1.toNat).bind fun b=>(rdN F xs b.2 16).bind fun l=>(itO (stQ F xs) (b.1,l.2) l.1.toNat).bind fun c=>if c.2=xs.length/\((strOf (Ya c.1)).toList==(strOf xs).toList)=true then some c.1 else none
noncomputable def Zht (F:LI->Int×Int):Zg:=(((Z20 F).withL 9 0 (lkL 0 13 12 (stT F) 48)).withL 9 2 (lkL 2 31 30 stS 64)).withL 9 4 (lkL 4 42 41 (stQ F) 16)
theorem ZlJ (F:LI->Int×Int) (xs:LI) (X:Za) (hB:Byt xs) (hT:∀a b,LkI xs a->stT F xs a=some b->LkI xs b) (hQ:∀a b,LkI xs a->stQ F xs a=some b->LkI xs b) (hl:xs.length<80000000000000) (hX:rdX F xs=some X):
  evF (Zht F) 40 9 [.vints .u8 xs xs.length] ⟨0,[]⟩ (Y4 0 (.ret (.tuple [pt 0,.int .i64 0])) 5 (tbO Zf X)):=by
 refine @Eq.mpr _ (let b:=xs.length;let q2:=rdN F xs 0 48;let a:=[(8,8),(7,7),(6,6),(5,5),(2,2),(9,9),(3,3),(0,0),(1,1),(4,4)];let u:=true=true/\true=true;let t:=X.T;let P:=t.length;let o:=[(4,8),(3,7),(2,6),(1,5),(0,9)];let q8:=tiV t;let I:=X.S;let e7:=I.length;let b4:=X.Q;let e4:=b4.length;
 Z4 (b=b/\b<90000000000000) (Z4 (b=b-0/\0<=b/\b=b-0/\(0:Int)<=48) ((∀(v:Int) (o':Nat),
 q2=some (v,o')->
 0<=o'/\o'<=b/\v<=48->
 ∃(p:LI×(Za×Nat)×Int),
 let h:=p.snd.snd;let d:=p.fst.length;let g:=p.snd.fst;let d1:=g.snd;let d0:=d-d1;let Z:=g.fst;let Y:=Z.Q;let c9:=Y.length;let W:=Z.S;let c8:=W.length;let x:=Z.T;let V:=x.length;let c7:=decide (0=V);let c6:=tiV x;let w:=stT F p.fst;
 Z4 (v=h) (xs=p.fst/\
 Z4 (b=d) (Z4 (o'=d1) (Z4 (b-o'=d0) (Z4 (d0<=b-o') (xs=p.fst/\
 Z4 (0=c9) ((Z7 0 a c9 (qkV Y) (quV Y) (fun (i:Nat)=>AV.top) fun (i:Nat)=>AV.top)/\
 Z4 (0=c8) ((Z7 0 a c8 (skV Zf W) (seV W) (fun (i:Nat)=>AV.top) fun (i:Nat)=>AV.top)/\
 Z0 c7 ((Z7 0 a V (tkI x) c6 (fun (i:Nat)=>AV.top) fun (i:Nat)=>AV.top)/\
 Z0 c7 ((Z7 0 a V (tkO x) c6 (fun (i:Nat)=>AV.top) fun (i:Nat)=>AV.top)/\
 LkC p.fst g h 48/\
 ∀(i:Nat),
 let U:=itG w g i;let s:=U.snd;let r:=d-s;let c5:=rdN F p.fst s 64;let R:=U.fst;let O:=R.Q;let N:=R.S;let q:=R.T;let c4:=tiV q;
 i<=Int.toNat h->
 (∀(j:Nat),j<i->(fun (i:Nat)=>Option.isSome (w (itG w g i))=true) j)->
 (¬↑i<h->
 Z4 (r=r/\s<=d/\r=r/\(0:Int)<=64) ((∀(v:Int) (o':Nat),
 c5=some (v,o')->
 s<=o'/\o'<=d/\v<=64->
 ∃(p_1:LI×(Za×Nat)×Int),
 let f:=p_1.snd.snd;let c3:=p.fst=p_1.fst;let c:=p_1.fst.length;let e:=p_1.snd.fst;let c2:=e.snd;let c1:=c-c2;let M:=e.fst;let L:=M.Q;let c0:=L.length;let K:=M.S;let b9:=K.length;let n:=M.T;let J:=n.length;let b8:=decide (q.length=J);let b7:=tiV n;let m:=stS p_1.fst;
 Z4 (v=f) (c3/\
 Z4 (d=c) (Z4 (o'=c2) (Z4 (d-o'=c1) (Z4 (c1<=d-o') (c3/\
 Z4 (O.length=c0) (Z7 0 a c0 (qkV L) (quV L) (qkV O) (quV O)/\
 Z4 (N.length=b9) (Z7 0 a b9 (skV Zf K) (seV K) (skV Zf N) (seV N)/\
 Z0 b8 (Z7 0 a J (tkI n) b7 (tkI q) c4/\
 Z0 b8 (Z7 0 a J (tkO n) b7 (tkO q) c4/\
 LkC p_1.fst e f 64/\
 ∀(i:Nat),
 let b6:=itG m e i;let H:=b6.snd;let G:=c-H;let e6:=rdN F p_1.fst H 16;let b5:=b6.fst;let b3:=b5.Q;let b2:=b5.S;let E:=b5.T;let e5:=tiV E;
 i<=Int.toNat f->
 (∀(j:Nat),j<i->(fun (i:Nat)=>Option.isSome (m (itG m e i))=true) j)->
 (¬↑i<f->
 Z4 (G=G/\H<=c/\G=G/\(0:Int)<=16) ((∀(v:Int) (o':Nat),
 e6=some (v,o')->
 H<=o'/\o'<=c/\v<=16->
 ∃(p:LI×(Za×Nat)×Int),
 let l:=p.snd.snd;let e3:=p_1.fst=p.fst;let D:=p.fst.length;let k:=p.snd.fst;let e2:=k.snd;let e1:=D-e2;let b1:=k.fst;let b0:=b1.Q;let e0:=b0.length;let a9:=b1.S;let d9:=a9.length;let C:=b1.T;let a8:=C.length;let d8:=decide (E.length=a8);let d7:=tiV C;let B:=stQ F p.fst;
 Z4 (v=l) (e3/\
 Z4 (c=D) (Z4 (o'=e2) (Z4 (c-o'=e1) (Z4 (e1<=c-o') (e3/\
 Z4 (b3.length=e0) (Z7 0 a e0 (qkV b0) (quV b0) (qkV b3) (quV b3)/\
 Z4 (b2.length=d9) (Z7 0 a d9 (skV Zf a9) (seV a9) (skV Zf b2) (seV b2)/\
 Z0 d8 (Z7 0 a a8 (tkI C) d7 (tkI E) e5/\
 Z0 d8 (Z7 0 a a8 (tkO C) d7 (tkO E) e5/\
 LkC p.fst k l 16/\
 ∀(i:Nat),
 let a7:=itG B k i;let a6:=D-a7.snd;let a5:=a7.fst;let A:=a5.T;let z:=A.length;let a4:=a5.S;let d6:=a4.length;let a3:=a5.Q;let d5:=a3.length;let d4:=tiV A;
 i<=Int.toNat l->
 (∀(j:Nat),j<i->(fun (i:Nat)=>Option.isSome (B (itG B k i))=true) j)->
 (¬↑i<l->
 Z4 (a6=a6) (Z4 (a6=0) ((∀(i:Nat),i<z->u)/\
 (∀(i:Nat),i<z->u)/\
 (∀(i:Nat),i<d6->u)/\
 (∀(i:Nat),i<d5->u)/\
 ∃(X:Za),
 let a2:=List.length (Ya X);let y:=X.T;let d3:=decide (y.length=P);let d2:=tiV y;let a1:=X.S;let a0:=X.Q;
 Xc Zf X [AV.map (some 1),AV.map (some 2),AV.map (some 3),AV.map (some 4)] z (tkO A) d4 z (tkI A) d4 d6 (skV Zf a4) (seV a4) d5 (qkV a3) (quV a3)/\Za.Inv Zf X/\Z4 (u8=u8/\0+a2<=a2) (Z8 (!ByteArray.toList (strOf (List.take a2 (Y2 0 (Ya X))))==ByteArray.toList (strOf (List.take D p.fst))) False (Z0 d3 (Z7 0 o P (tkO t) q8 (tkO y) d2/\Z0 d3 (Z7 0 o P (tkI t) q8 (tkI y) d2/\Z4 (a1.length=e7) (Z7 0 o e7 (skV Zf I) (seV I) (skV Zf a1) (seV a1)/\Z4 (a0.length=e4) (Z7 0 o e4 (qkV b4) (quV b4) (qkV a0) (quV a0)/\True)))))))))/\
 (False->False)/\(False->False)/\(↑i<l/\B a7=none->False)))))))))))/\
 (e6=none->False)))/\
 (False->False)/\(False->False)/\(↑i<f/\m b6=none->False)))))))))))/\
 (c5=none->False)))/\
 (False->False)/\(False->False)/\(↑i<h/\w U=none->False)))))))))))/\
 (q2=none->False)))) (by kernel_rfl) ?_
 conv=>zeta
 try simp only [vcA]
 try simp only [vcB]
 try simp only [vcC]
 have m0:∀{τ:Ren} {kf vf kf' vf':Nat->AV},Z7 0 τ 0 kf vf kf' vf':=⟨fun i hi=>absurd hi (JC i)⟩
 have ms:=fun (X:Za) (τ:Ren)=>Xb Zf X 0 τ
 refine ⟨by omega,⟨by omega,by omega,by omega,by decide⟩,fun v o1 e1 l1=>⟨(xs,(⟨[],[],[]⟩,o1),v),rfl,rfl,rfl,rfl,rfl,J1 _,rfl,rfl,m0,rfl,m0,rfl,m0,rfl,m0,⟨⟨.nil,l1.2.1⟩,hB,l1.2.2⟩,fun i hi hgo=>⟨fun ei=> ?_,fun h=>h,fun h=>h,fun hn=> ?_⟩⟩,fun e1=> ?_⟩
 ·have s1:itO (stT F xs) (⟨[],[],[]⟩,o1) v.toNat=some (itG (stT F xs) (⟨[],[],[]⟩,o1) i):=by
   have:i=v.toNat:=by have:¬(i:Int)<v:=ei;have:i<=v.toNat:=hi;omega
   rw [<-this]
   exact US hgo
  have I1:LkI xs (itG (stT F xs) (⟨[],[],[]⟩,o1) i):=V6 (P:=LkI xs) (a:=(⟨[],[],[]⟩,o1)) hT ⟨.nil,l1.2.1⟩ i
  simp only []
  generalize itG (stT F xs) (⟨[],[],[]⟩,o1) i=a at*
  refine ⟨⟨I1.2,by decide⟩,fun v2 o2 e2 l2=>⟨(xs,(a.1,o2),v2),rfl,rfl,rfl,rfl,rfl,J1 _,rfl,rfl,(ms a.1 _).2.2.2,rfl,(ms a.1 _).2.2.1,rfl,(ms a.1 _).2.1,rfl,(ms a.1 _).1,⟨⟨I1.1,l2.2.1⟩,hB,l2.2.2⟩,fun i2 hi2 hgo2=>⟨fun ei2=> ?_,fun h=>h,fun h=>h,fun hn=> ?_⟩⟩,fun e2=> ?_⟩
  ·have s2:itO (stS xs) (a.1,o2) v2.toNat=some (itG (stS xs) (a.1,o2) i2):=by
    have:i2=v2.toNat:=by have:¬(i2:Int)<v2:=ei2;have:i2<=v2.toNat:=hi2;omega
    rw [<-this]
    exact US hgo2
   have I2:LkI xs (itG (stS xs) (a.1,o2) i2):=V6 (P:=LkI xs) (a:=(a.1,o2)) Z2l ⟨I1.1,l2.2.1⟩ i2
   simp only []
   generalize itG (stS xs) (a.1,o2) i2=b at*
   refine ⟨⟨I2.2,by decide⟩,fun v3 o3 e3 l3=>⟨(xs,(b.1,o3),v3),rfl,rfl,rfl,rfl,rfl,J1 _,rfl,rfl,(ms b.1 _).2.2.2,rfl,(ms b.1 _).2.2.1,rfl,(ms b.1 _).2.1,rfl,(ms b.1 _).1,⟨⟨I2.1,l3.2.1⟩,hB,l3.2.2⟩,fun i3 hi3 hgo3=>⟨fun ei3=> ?_,fun h=>h,fun h=>h,fun hn=> ?_⟩⟩,fun e3=> ?_⟩
   ·have s3:itO (stQ F xs) (b.1,o3) v3.toNat=some (itG (stQ F xs) (b.1,o3) i3):=by
     have:i3=v3.toNat:=by have:¬(i3:Int)<v3:=ei3;have:i3<=v3.toNat:=hi3;omega
     rw [<-this]
     exact US hgo3
    have I3:LkI xs (itG (stQ F xs) (b.1,o3) i3):=V6 (P:=LkI xs) (a:=(b.1,o3)) hQ ⟨I2.1,l3.2.1⟩ i3
    simp only []
    generalize itG (stQ F xs) (b.1,o3) i3=c at*
    have tr:∀{n:Nat} (i:Nat),i<n->True:=fun _ _=>trivial
    have e4:List.take (Ya c.1).length (Y2 0 (Ya c.1))=Ya c.1:=by rw [ZU,K6,Jr]
    simp only [rdX,e1,Jg,s1,e2,s2,e3,s3] at hX
    split at hX
    ·rename_i hc
     simp only [JA] at hX
     subst hX
     exact ⟨by omega,tr,tr,tr,tr,c.1,Wl Zf I3.1.lim,I3.1,by rw [e4,Jr,hc.2];rfl,rfl,(ms _ _).1,rfl,(ms _ _).2.1,rfl,(ms _ _).2.2.1,rfl,(ms _ _).2.2.2⟩
    ·cases hX
   ·have:=Z1m hgo3 hn.2 (m:=v3.toNat) (by have:(i3:Int)<v3:=hn.1;omega)
    simp [rdX,e1,s1,e2,s2,e3,this] at hX
   ·simp [rdX,e1,s1,e2,s2,e3] at hX
  ·have:=Z1m hgo2 hn.2 (m:=v2.toNat) (by have:(i2:Int)<v2:=hn.1;omega)
   simp [rdX,e1,s1,e2,this] at hX
  ·simp [rdX,e1,s1,e2] at hX
 ·have:=Z1m hgo hn.2 (m:=v.toNat) (by have:(i:Int)<v:=hn.1;omega)
  simp [rdX,e1,this] at hX
 ·simp [rdX,e1] at hX
theorem ZlK (F:LI->Int×Int) (xs:LI) (hB:Byt xs) (hT:∀a b,LkI xs a->stT F xs a=some b->LkI xs b) (hQ:∀a b,LkI xs a->stQ F xs a=some b->LkI xs b) (hl:xs.length<80000000000000) (hX:rdX F xs=none):
  evF (Zht F) 40 9 [.vints .u8 xs xs.length] ⟨0,[]⟩ (Y4 0 (.ret (.tuple [.ptr none,.int .i64 361])) 0 []):=by
 refine @Eq.mpr _ (let b:=xs.length;let q2:=rdN F xs 0 48;let a:=[(8,8),(7,7),(6,6),(5,5),(2,2),(9,9),(3,3),(0,0),(1,1),(4,4)];let w:=true=true/\true=true;
 Z4 (b=b/\b<90000000000000) (Z4 (b=b-0/\0<=b/\b=b-0/\(0:Int)<=48) ((∀(v:Int) (o':Nat),
 q2=some (v,o')->
 0<=o'/\o'<=b/\v<=48->
 ∃(p:LI×(Za×Nat)×Int),
 let e:=p.snd.snd;let d:=p.fst.length;let k:=p.snd.fst;let d0:=k.snd;let c7:=d-d0;let a3:=k.fst;let Y:=a3.Q;let c3:=Y.length;let V:=a3.S;let c2:=V.length;let y:=a3.T;let U:=y.length;let c1:=decide (0=U);let c0:=tiV y;let x:=stT F p.fst;
 Z4 (v=e) (xs=p.fst/\
 Z4 (b=d) (Z4 (o'=d0) (Z4 (b-o'=c7) (Z4 (c7<=b-o') (xs=p.fst/\
 Z4 (0=c3) ((Z7 0 a c3 (qkV Y) (quV Y) (fun (i:Nat)=>AV.top) fun (i:Nat)=>AV.top)/\
 Z4 (0=c2) ((Z7 0 a c2 (skV Zf V) (seV V) (fun (i:Nat)=>AV.top) fun (i:Nat)=>AV.top)/\
 Z0 c1 ((Z7 0 a U (tkI y) c0 (fun (i:Nat)=>AV.top) fun (i:Nat)=>AV.top)/\
 Z0 c1 ((Z7 0 a U (tkO y) c0 (fun (i:Nat)=>AV.top) fun (i:Nat)=>AV.top)/\
 LkC p.fst k e 48/\
 ∀(i:Nat),
 let R:=itG x k i;let u:=R.snd;let t:=d-u;let b9:=rdN F p.fst u 64;let P:=R.fst;let O:=P.Q;let N:=P.S;let s:=P.T;let b8:=tiV s;
 i<=Int.toNat e->
 (∀(j:Nat),j<i->(fun (i:Nat)=>Option.isSome (x (itG x k i))=true) j)->
 (¬↑i<e->
 Z4 (t=t/\u<=d/\t=t/\(0:Int)<=64) ((∀(v:Int) (o':Nat),
 b9=some (v,o')->
 u<=o'/\o'<=d/\v<=64->
 ∃(p_1:LI×(Za×Nat)×Int),
 let g:=p_1.snd.snd;let b7:=p.fst=p_1.fst;let c:=p_1.fst.length;let f:=p_1.snd.fst;let b6:=f.snd;let b5:=c-b6;let M:=f.fst;let L:=M.Q;let b4:=L.length;let K:=M.S;let b3:=K.length;let r:=M.T;let J:=r.length;let b2:=decide (s.length=J);let b1:=tiV r;let q:=stS p_1.fst;
 Z4 (v=g) (b7/\
 Z4 (d=c) (Z4 (o'=b6) (Z4 (d-o'=b5) (Z4 (b5<=d-o') (b7/\
 Z4 (O.length=b4) (Z7 0 a b4 (qkV L) (quV L) (qkV O) (quV O)/\
 Z4 (N.length=b3) (Z7 0 a b3 (skV Zf K) (seV K) (skV Zf N) (seV N)/\
 Z0 b2 (Z7 0 a J (tkI r) b1 (tkI s) b8/\
 Z0 b2 (Z7 0 a J (tkO r) b1 (tkO s) b8/\
 LkC p_1.fst f g 64/\
 ∀(i:Nat),
 let I:=itG q f i;let o:=I.snd;let n:=c-o;let b0:=rdN F p_1.fst o 16;let H:=I.fst;let G:=H.Q;let E:=H.S;let m:=H.T;let a9:=tiV m;
 i<=Int.toNat g->
 (∀(j:Nat),j<i->(fun (i:Nat)=>Option.isSome (q (itG q f i))=true) j)->
 (¬↑i<g->
 Z4 (n=n/\o<=c/\n=n/\(0:Int)<=16) ((∀(v:Int) (o':Nat),
 b0=some (v,o')->
 o<=o'/\o'<=c/\v<=16->
 ∃(p:LI×(Za×Nat)×Int),
 let l:=p.snd.snd;let d5:=p_1.fst=p.fst;let D:=p.fst.length;let h:=p.snd.fst;let d4:=h.snd;let d3:=D-d4;let a8:=h.fst;let a7:=a8.Q;let d2:=a7.length;let a6:=a8.S;let d1:=a6.length;let C:=a8.T;let a5:=C.length;let c9:=decide (m.length=a5);let c8:=tiV C;let B:=stQ F p.fst;
 Z4 (v=l) (d5/\
 Z4 (c=D) (Z4 (o'=d4) (Z4 (c-o'=d3) (Z4 (d3<=c-o') (d5/\
 Z4 (G.length=d2) (Z7 0 a d2 (qkV a7) (quV a7) (qkV G) (quV G)/\
 Z4 (E.length=d1) (Z7 0 a d1 (skV Zf a6) (seV a6) (skV Zf E) (seV E)/\
 Z0 c9 (Z7 0 a a5 (tkI C) c8 (tkI m) a9/\
 Z0 c9 (Z7 0 a a5 (tkO C) c8 (tkO m) a9/\
 LkC p.fst h l 16/\
 ∀(i:Nat),
 let a4:=itG B h i;let a2:=D-a4.snd;let a1:=a4.fst;let A:=a1.T;let z:=A.length;let a0:=a1.S;let c6:=a0.length;let Z:=a1.Q;let c5:=Z.length;let c4:=tiV A;
 i<=Int.toNat l->
 (∀(j:Nat),j<i->(fun (i:Nat)=>Option.isSome (B (itG B h i))=true) j)->
 (¬↑i<l->
 Z4 (a2=a2) (Z8 (decide (a2=0)) ((∀(i:Nat),i<z->w)/\
 (∀(i:Nat),i<z->w)/\
 (∀(i:Nat),i<c6->w)/\
 (∀(i:Nat),i<c5->w)/\
 ∃(X:Za),
 let W:=List.length (Ya X);
 Xc Zf X [AV.map (some 1),AV.map (some 2),AV.map (some 3),AV.map (some 4)] z (tkO A) c4 z (tkI A) c4 c6 (skV Zf a0) (seV a0) c5 (qkV Z) (quV Z)/\Za.Inv Zf X/\Z4 (u8=u8/\0+W<=W) (Z0 (!ByteArray.toList (strOf (List.take W (Y2 0 (Ya X))))==ByteArray.toList (strOf (List.take D p.fst))) True)) True))/\
 (False->False)/\(False->False)/\(↑i<l/\B a4=none->True)))))))))))/\
 (b0=none->True)))/\
 (False->False)/\(False->False)/\(↑i<g/\q I=none->True)))))))))))/\
 (b9=none->True)))/\
 (False->False)/\(False->False)/\(↑i<e/\x R=none->True)))))))))))/\
 (q2=none->True)))) (by kernel_rfl) ?_
 conv=>zeta
 try simp only [vcA]
 try simp only [vcB]
 try simp only [vcC]
 have m0:∀{τ:Ren} {kf vf kf' vf':Nat->AV},Z7 0 τ 0 kf vf kf' vf':=⟨fun i hi=>absurd hi (JC i)⟩
 have ms:=fun (X:Za) (τ:Ren)=>Xb Zf X 0 τ
 refine ⟨by omega,⟨by omega,by omega,by omega,by decide⟩,fun v o1 e1 l1=>⟨(xs,(⟨[],[],[]⟩,o1),v),rfl,rfl,rfl,rfl,rfl,J1 _,rfl,rfl,m0,rfl,m0,rfl,m0,rfl,m0,⟨⟨.nil,l1.2.1⟩,hB,l1.2.2⟩,fun i hi hgo=>⟨fun ei=> ?_,fun h=>h,fun h=>h,fun hn=> ?_⟩⟩,fun e1=> ?_⟩
 ·have s1:itO (stT F xs) (⟨[],[],[]⟩,o1) v.toNat=some (itG (stT F xs) (⟨[],[],[]⟩,o1) i):=by
   have:i=v.toNat:=by have:¬(i:Int)<v:=ei;have:i<=v.toNat:=hi;omega
   rw [<-this]
   exact US hgo
  have I1:LkI xs (itG (stT F xs) (⟨[],[],[]⟩,o1) i):=V6 (P:=LkI xs) (a:=(⟨[],[],[]⟩,o1)) hT ⟨.nil,l1.2.1⟩ i
  simp only []
  generalize itG (stT F xs) (⟨[],[],[]⟩,o1) i=a at*
  refine ⟨⟨I1.2,by decide⟩,fun v2 o2 e2 l2=>⟨(xs,(a.1,o2),v2),rfl,rfl,rfl,rfl,rfl,J1 _,rfl,rfl,(ms a.1 _).2.2.2,rfl,(ms a.1 _).2.2.1,rfl,(ms a.1 _).2.1,rfl,(ms a.1 _).1,⟨⟨I1.1,l2.2.1⟩,hB,l2.2.2⟩,fun i2 hi2 hgo2=>⟨fun ei2=> ?_,fun h=>h,fun h=>h,fun hn=> ?_⟩⟩,fun e2=> ?_⟩
  ·have s2:itO (stS xs) (a.1,o2) v2.toNat=some (itG (stS xs) (a.1,o2) i2):=by
    have:i2=v2.toNat:=by have:¬(i2:Int)<v2:=ei2;have:i2<=v2.toNat:=hi2;omega
    rw [<-this]
    exact US hgo2
   have I2:LkI xs (itG (stS xs) (a.1,o2) i2):=V6 (P:=LkI xs) (a:=(a.1,o2)) Z2l ⟨I1.1,l2.2.1⟩ i2
   simp only []
   generalize itG (stS xs) (a.1,o2) i2=b at*
   refine ⟨⟨I2.2,by decide⟩,fun v3 o3 e3 l3=>⟨(xs,(b.1,o3),v3),rfl,rfl,rfl,rfl,rfl,J1 _,rfl,rfl,(ms b.1 _).2.2.2,rfl,(ms b.1 _).2.2.1,rfl,(ms b.1 _).2.1,rfl,(ms b.1 _).1,⟨⟨I2.1,l3.2.1⟩,hB,l3.2.2⟩,fun i3 hi3 hgo3=>⟨fun ei3=> ?_,fun h=>h,fun h=>h,fun hn=> ?_⟩⟩,fun e3=> ?_⟩
   ·have s3:itO (stQ F xs) (b.1,o3) v3.toNat=some (itG (stQ F xs) (b.1,o3) i3):=by
     have:i3=v3.toNat:=by have:¬(i3:Int)<v3:=ei3;have:i3<=v3.toNat:=hi3;omega
     rw [<-this]
     exact US hgo3
    have I3:LkI xs (itG (stQ F xs) (b.1,o3) i3):=V6 (P:=LkI xs) (a:=(b.1,o3)) hQ ⟨I2.1,l3.2.1⟩ i3
    simp only []
    generalize itG (stQ F xs) (b.1,o3) i3=c at*
    have tr:∀{n:Nat} (i:Nat),i<n->True:=fun _ _=>trivial
    have e4:List.take (Ya c.1).length (Y2 0 (Ya c.1))=Ya c.1:=by rw [ZU,K6,Jr]
    simp only [rdX,e1,Jg,s1,e2,s2,e3,s3] at hX
    split at hX
    ·cases hX
    ·rename_i hc
     have I3':=I3.2
     refine ⟨fun h0=>⟨tr,tr,tr,tr,c.1,Wl Zf I3.1.lim,I3.1, ?_⟩,fun _=>trivial⟩
     rw [e4,Jr]
     cases hq:((strOf (Ya c.1)).toList==(strOf xs).toList) with
     | true=>exact absurd ⟨by omega,hq⟩ hc
     | false=>rfl
   ·have:=Z1m hgo3 hn.2 (m:=v3.toNat) (by have:(i3:Int)<v3:=hn.1;omega)
    trivial
   ·trivial
  ·have:=Z1m hgo2 hn.2 (m:=v2.toNat) (by have:(i2:Int)<v2:=hn.1;omega)
   trivial
  ·trivial
 ·have:=Z1m hgo hn.2 (m:=v.toNat) (by have:(i:Int)<v:=hn.1;omega)
  trivial
 ·trivial
theorem Zhu:((Z20 (Zy Zp)).withL 9 0 (lkL 0 13 12 (stT (Zy Zp)) 48)).Ok:=Z8E (by kernel_rfl) (fun _=>Z2k) fun xs a b v i go ex pa h1 h2 h3 h4 h5 h6 h7 h8=>ZlG _ xs a b v i go ex pa h1 h2 h3 h4 h5 h6 h7 h8
theorem Zhv:((Z20 (Zy Zp)).withL 9 2 (lkL 2 31 30 stS 64)).Ok:=Z8E (by kernel_rfl) (fun _=>Z2l) fun xs a b v i go ex pa h1 h2 h3 h4 h5 h6 h7 h8=>ZlH _ xs a b v i go ex pa h1 h2 h3 h4 h5 h6 h7 h8
theorem Zhw:((Z20 (Zy Zp)).withL 9 4 (lkL 4 42 41 (stQ (Zy Zp)) 16)).Ok:=Z8E (by kernel_rfl) (fun _=>Z2m) fun xs a b v i go ex pa h1 h2 h3 h4 h5 h6 h7 h8=>ZlI _ xs a b v i go ex pa h1 h2 h3 h4 h5 h6 h7 h8
theorem Z9J:(Zht (Zy Zp)).Ok:=
 Zg.withL_join (H:=Z20 (Zy Zp)) (Zg.withL_join (H:=Z20 (Zy Zp)) Zhu (Xm _ _ _ _) Zhv) ((Xm _ _ _ _).trans (Xm _ _ _ _)) Zhw
structure Zhx (xs:LI) (X:Za):Prop where
 i:X.Inv Zf
 e:((strOf (Ya X)).toList==(strOf xs).toList)=true
theorem Zhy (h:rdX (Zy Zp) xs=some X):Zhx xs X:=by
 unfold rdX at h
 simp only [Ji] at h
 obtain ⟨n,e1,a,s1,m,e2,b,s2,l,e3,c,s3,h⟩:=h
 have go:∀{st:Za×Nat->Option (Za×Nat)},(∀a b,LkI xs a->st a=some b->LkI xs b)->∀{n:Nat} {a b:Za×Nat},LkI xs a->itO st a n=some b->LkI xs b:=by
  intro st hst n
  induction n with
  | zero=>intro a b hi hs;cases hs;exact hi
  | succ n ih=>
   intro a b hi hs
   unfold itO at hs
   obtain ⟨c,h1,h2⟩:=Ji.1 hs
   exact hst _ _ (ih hi h1) h2
 have I1:LkI xs a:=go (a:=(⟨[],[],[]⟩,n.2)) Z2k ⟨.nil,(UT (JI _) e1).1⟩ s1
 have I2:LkI xs b:=go (a:=(a.1,m.2)) Z2l ⟨I1.1,(UT I1.2 e2).1⟩ s2
 have I3:LkI xs c:=go (a:=(b.1,l.2)) Z2m ⟨I2.1,(UT I2.2 e3).1⟩ s3
 split at h
 ·rename_i hc
  simp only [JA] at h
  subst h
  exact ⟨I3.1,hc.2⟩
 ·cases h
structure Zjm (xs:LI) (n:Nat):Prop where
 n:n=xs.length
 l:xs.length<80000000000000
 b:Byt xs
def ZdF (X:Za) (n:Nat):List (Nat×Blk):=[(n,.flat [.map (some (n+1)),.map (some (n+2)),.map (some (n+3)),.map (some (n+4))]),(n+1,.fmap X.T.length (tkO X.T) (tiV X.T)),(n+2,.fmap X.T.length (tkI X.T) (tiV X.T)),(n+3,.fmap X.S.length (skV Zf X.S) (seV X.S)),(n+4,.fmap X.Q.length (qkV X.Q) (quV X.Q))]
def Z8F (R:LI->Option Za):ZJ:=fun args h K=>frA [] h 20 args fun Bs az=>match Bs,az with
 | [],[.vints .u8 xs n]=>Zjm xs n/\(∀X,R xs=some X->Zhx xs X->K (.ret (.tuple [pt h.next,.int .i64 0])) ⟨h.next+5,ZdF X h.next++h.bs⟩)/\(R xs=none->K (.ret (.tuple [.ptr none,.int .i64 361])) ⟨h.next,h.bs⟩)
 | _,_=>False
theorem Zb4 (args:List AV) (h:Z6) (K:KO) (hl:Z8F (rdX (Zy Zp)) args h K):Zh PP 9 args h K:=by
 unfold Z8F at hl
 refine Spec.fsumm hl fun Bs a hlen hK0=> ?_
 split at hK0
 ·rename_i xs n
  obtain ⟨⟨rfl,hl,hB⟩,h1,h2⟩:=hK0
  cases hr:rdX (Zy Zp) xs with
  | none=>exact ⟨_,_,_,_,_,.evM Z9J (ZlK _ xs hB (fun _ _=>Z2k _ _) (fun _ _=>Z2m _ _) hl hr),by simp,.ret _ _ rfl,.nil,h2 hr⟩
  | some X=>
   have q:=U1 Zf X
   exact ⟨_,_,_,_,_,.evM Z9J (ZlJ _ xs X hB (fun _ _=>Z2k _ _) (fun _ _=>Z2m _ _) hl hr),by simp,.ret _ _ rfl,.cons _ _ _ _ _ _ rfl (.flat _ _ rfl) (.cons _ _ _ _ _ _ rfl (.fmap _ _ _ (fun i _=>(q i).1)) (.cons _ _ _ _ _ _ rfl (.fmap _ _ _ (fun i _=>⟨(q i).2.1,(q i).1.2⟩)) (.cons _ _ _ _ _ _ rfl (.fmap _ _ _ (fun i _=>(q i).2.2.1)) (.cons _ _ _ _ _ _ rfl (.fmap _ _ _ (fun i _=>(q i).2.2.2)) .nil)))),h1 X hr (Zhy hr)⟩
 ·exact hK0.elim
noncomputable def Zjn:Zg:=G0.withF 10 Zb2
theorem ZfC:Zjn.Ok:=Zg.withF_ok Zv Z2j
def saB (X Y:Za):List (Nat×Blk):=ZdF X 0++ZdF Y 5
theorem ZlL (X Y:Za) (b:Bool) (hX:X.Inv Zf) (hY:Y.Inv Zf) (hb:b=((strOf (Ya X)).toList==(strOf (Ya Y)).toList)):
  evF Zjn 40 13 [pt 0,pt 5] ⟨10,saB X Y⟩ (Y4 10 (.ret (.bool b)) 10 (saB X Y)):=by
 refine @Eq.mpr _ (let o:=X.T;let c:=o.length;let a:=true=true/\true=true;let w:=X.S;let h:=w.length;let u:=X.Q;let f:=u.length;let A:=[AV.map (some 1),AV.map (some 2),AV.map (some 3),AV.map (some 4)];let z:=tkO o;let n:=tiV o;let P:=tkI o;let O:=skV Zf w;let N:=seV w;let M:=qkV u;let L:=quV u;let m:=Y.T;let d:=m.length;let y:=Y.S;let l:=y.length;let x:=Y.Q;let k:=x.length;let K:=tkO m;let j:=tiV m;let J:=tkI m;let I:=skV Zf y;let H:=seV y;let G:=qkV x;let F:=quV x;
 (∀(i:Nat),i<c->a)/\
 (∀(i:Nat),i<c->a)/\
 (∀(i:Nat),i<h->a)/\
 (∀(i:Nat),i<f->a)/\
 ∃(X_1:Za),
 let v:=List.length (Ya X_1);let g:=X_1.T;let E:=decide (g.length=c);let D:=tiV g;let t:=X_1.S;let s:=X_1.Q;
 Xc Zf X_1 A c z n c P n h O N f M L/\
 Za.Inv Zf X_1/\
 (∀(i:Nat),i<d->a)/\
 (∀(i:Nat),i<d->a)/\
 (∀(i:Nat),i<l->a)/\
 (∀(i:Nat),i<k->a)/\
 ∃(X_2:Za),
 let r:=List.length (Ya X_2);let e:=X_2.T;let C:=decide (e.length=d);let B:=tiV e;let q:=X_2.S;let p:=X_2.Q;
 Xc Zf X_2 A d K j d J j l I H k G F/\Za.Inv Zf X_2/\Z4 (u8=u8/\0+v<=v) (Z4 (u8=u8/\0+r<=r) (Z4 ((ByteArray.toList (strOf (List.take v (Y2 0 (Ya X_1))))==ByteArray.toList (strOf (List.take r (Y2 0 (Ya X_2)))))=b) (Z0 E (Z7 10 [] c z n (tkO g) D/\Z0 E (Z7 10 [] c P n (tkI g) D/\Z4 (t.length=h) (Z7 10 [] h O N (skV Zf t) (seV t)/\Z4 (s.length=f) (Z7 10 [] f M L (qkV s) (quV s)/\Z0 C (Z7 10 [] d K j (tkO e) B/\Z0 C (Z7 10 [] d J j (tkI e) B/\Z4 (q.length=l) (Z7 10 [] l I H (skV Zf q) (seV q)/\Z4 (p.length=k) (Z7 10 [] k G F (qkV p) (quV p)/\True)))))))))))) (by kernel_rfl) ?_
 conv=>zeta
 try simp only [vcA]
 try simp only [vcB]
 try simp only [vcC]
 have tr:∀{n:Nat} (i:Nat),i<n->True:=fun _ _=>trivial
 have e:∀Z:Za,List.take (Ya Z).length (Y2 0 (Ya Z))=Ya Z:=fun Z=>by rw [ZU,K6,Jr]
 obtain ⟨m1,m2,m3,m4⟩:=Xb Zf X 10 []
 obtain ⟨n1,n2,n3,n4⟩:=Xb Zf Y 10 []
 exact ⟨tr,tr,tr,tr,X,Wl Zf hX.lim,hX,tr,tr,tr,tr,Y,Wl Zf hY.lim,hY,by rw [e,e,hb],rfl,m1,rfl,m2,rfl,m3,rfl,m4,rfl,n1,rfl,n2,rfl,n3,rfl,n4⟩
def Zjo (X Y:Za) (t o i s a t' o' i' s' a':Nat) (r:List (Nat×Blk)):List (Nat×Blk):=(t,.flat [.map (some o),.map (some i),.map (some s),.map (some a)])::(o,.fmap X.T.length (tkO X.T) (tiV X.T))::(i,.fmap X.T.length (tkI X.T) (tiV X.T))::(s,.fmap X.S.length (skV Zf X.S) (seV X.S))::(a,.fmap X.Q.length (qkV X.Q) (quV X.Q))::(t',.flat [.map (some o'),.map (some i'),.map (some s'),.map (some a')])::(o',.fmap Y.T.length (tkO Y.T) (tiV Y.T))::(i',.fmap Y.T.length (tkI Y.T) (tiV Y.T))::(s',.fmap Y.S.length (skV Zf Y.S) (seV Y.S))::(a',.fmap Y.Q.length (qkV Y.Q) (quV Y.Q))::r
structure ZfD (X:Za) (k:Nat) (cs:List AV) (n1:Nat) (k1 v1:Nat->AV) (n2:Nat) (k2 v2:Nat->AV) (n3:Nat) (k3 v3:Nat->AV) (n4:Nat) (k4 v4:Nat->AV):Prop where
 c:cs=[.map (some (k+1)),.map (some (k+2)),.map (some (k+3)),.map (some (k+4))]
 o:n1=X.T.length/\k1=tkO X.T/\v1=tiV X.T
 i:n2=X.T.length/\k2=tkI X.T/\v2=tiV X.T
 s:n3=X.S.length/\k3=skV Zf X.S/\v3=seV X.S
 q:n4=X.Q.length/\k4=qkV X.Q/\v4=quV X.Q
 inv:X.Inv Zf
def Zhz:ZJ:=fun args h K=>match args with
 | [.ptr (some ⟨t,0,0,0,0⟩),.ptr (some ⟨t',0,0,0,0⟩)]=>match h.get t,h.get t' with
  |some (.flat [.map (some o),.map (some i),.map (some s),.map (some a)]),some (.flat [.map (some o'),.map (some i'),.map (some s'),.map (some a')])=>frA [t,o,i,s,a,t',o',i',s',a'] h 60 args fun Bs az=>match Bs,az with
   | [.flat cs,.fmap n1 k1 v1,.fmap n2 k2 v2,.fmap n3 k3 v3,.fmap n4 k4 v4,.flat ds,.fmap m1 l1 w1,.fmap m2 l2 w2,.fmap m3 l3 w3,.fmap m4 l4 w4],[.ptr (some ⟨0,0,0,0,0⟩),.ptr (some ⟨5,0,0,0,0⟩)]=>∃X Y,ZfD X 0 cs n1 k1 v1 n2 k2 v2 n3 k3 v3 n4 k4 v4/\ZfD Y 5 ds m1 l1 w1 m2 l2 w2 m3 l3 w3 m4 l4 w4/\K (.ret (.bool ((strOf (Ya X)).toList==(strOf (Ya Y)).toList))) ⟨h.next,Zjo X Y t o i s a t' o' i' s' a' (ZK (ZK (ZK (ZK (ZK (ZK (ZK (ZK (ZK (ZK h.bs t) o) i) s) a) t') o') i') s') a')⟩
   | _,_=>False
  | _,_=>False
 | _=>False
theorem ZfE (args:List AV) (h:Z6) (K:KO) (hl:Zhz args h K):Zh PP 13 args h K:=by
 unfold Zhz at hl
 split at hl
 ·split at hl
  ·refine Spec.fsumm hl fun Bs az hlen hK0=> ?_
   split at hK0
   ·obtain ⟨X,Y,⟨rfl,⟨rfl,rfl,rfl⟩,⟨rfl,rfl,rfl⟩,⟨rfl,rfl,rfl⟩,⟨rfl,rfl,rfl⟩,hX⟩,⟨rfl,⟨rfl,rfl,rfl⟩,⟨rfl,rfl,rfl⟩,⟨rfl,rfl,rfl⟩,⟨rfl,rfl,rfl⟩,hY⟩,hK⟩:=hK0
    have q:=U1 Zf X
    have p:=U1 Zf Y
    exact ⟨_,_,_,_,_,.evM ZfC (ZlL X Y _ hX hY rfl),by simp,.ret _ _ rfl,.cons _ _ _ _ _ _ rfl (.flat _ _ rfl) (.cons _ _ _ _ _ _ rfl (.fmap _ _ _ (fun i _=>(q i).1)) (.cons _ _ _ _ _ _ rfl (.fmap _ _ _ (fun i _=>⟨(q i).2.1,(q i).1.2⟩)) (.cons _ _ _ _ _ _ rfl (.fmap _ _ _ (fun i _=>(q i).2.2.1)) (.cons _ _ _ _ _ _ rfl (.fmap _ _ _ (fun i _=>(q i).2.2.2)) (.cons _ _ _ _ _ _ rfl (.flat _ _ rfl) (.cons _ _ _ _ _ _ rfl (.fmap _ _ _ (fun i _=>(p i).1)) (.cons _ _ _ _ _ _ rfl (.fmap _ _ _ (fun i _=>⟨(p i).2.1,(p i).1.2⟩)) (.cons _ _ _ _ _ _ rfl (.fmap _ _ _ (fun i _=>(p i).2.2.1)) (.cons _ _ _ _ _ _ rfl (.fmap _ _ _ (fun i _=>(p i).2.2.2)) .nil))))))))),hK⟩
   ·exact hK0.elim
  ·exact hl.elim
 ·exact hl.elim
theorem ZhA {lt:α->α->Bool} (wo:WO lt) {l:List α} (ho:Uc lt l) (hu:∀a∈l,∀b∈l,lt a b=false->lt b a=false->a=b):srt lt l=l:=
 V3 Y5 (Z0L wo) ho fun a ha b hb h1 h2=>hu a (Y5.mem_iff.1 ha) b (Y5.mem_iff.1 hb) h1 h2
theorem SR.idem {lt:α->α->Bool} (wo:WO lt) {L:List α} (h:SR lt L (srt lt L)):srt lt (srt lt L)=srt lt L:=
 ZhA wo h.ord fun a ha b hb=>h.tot a (Y5.mem_iff.1 ha) b (Y5.mem_iff.1 hb)
theorem TR.idem {T:List Zl} (h:TR T (srt ltT T)):srt ltT (srt ltT T)=srt ltT T:=
 h.sorted (Y5.trans Y5) (Z0L Z8s)
theorem Zb5 (h:X.Inv H):Yd (Yd X)=Yd X:=by
 show (⟨srt ltT (srt ltT X.T),srt ltS (srt ltS X.S),srt ltQ (srt ltQ X.Q)⟩:Za)=⟨srt ltT X.T,srt ltS X.S,srt ltQ X.Q⟩
 rw [h.tr.idem,(srS X.S).idem Z8y,h.sq.idem Z8z]
theorem ZdG (a b:Zl):Wg b.inn.v b.inID a=Wg a.inn.v a.inID b:=by
 unfold Wg
 rw [JK,J2,J2,beq_iff_eq,beq_iff_eq,beq_iff_eq,beq_iff_eq]
 exact ⟨fun h=>⟨h.1.symm,h.2.symm⟩,fun h=>⟨h.1.symm,h.2.symm⟩⟩
theorem Za.Inv.sorted (h:X.Inv H):(Yd X).Inv H where
 lim:=⟨by show (srt ltT X.T).length<=48;rw [Wu];exact h.lim.t,by show (srt ltS X.S).length<=64;rw [Wu];exact h.lim.s,by show (srt ltQ X.Q).length<=16;rw [Wu];exact h.lim.q,h.tr.dOuts,Y5.pairwise_iff (fun {a b} hab=>by rw [ZdG];exact hab)|>.2 h.lim.ki⟩
 tok x hx:=h.tok x (Y5.mem_iff.1 hx)
 sk:=Y5.pairwise_iff (fun {a b} hab=>Ne.symm hab)|>.2 h.sk
 qk:=Y5.pairwise_iff (fun {a b} hab=>Ne.symm hab)|>.2 h.qk
 qok x hx:=h.qok x (Y5.mem_iff.1 hx)
theorem ZdH {T:List Zl} (ko:T.Pairwise fun a b=>Yf b.out.v b.outID a=false) (ki:T.Pairwise fun a b=>Wg b.inn.v b.inID a=false) (tok:∀x∈T,W5 x=true) (hl:T.length<=48) {i:Nat} (hi:i<T.length):YQ (T.take i) (T.getD i Zr)=0:=by
 rw [getD_at hi]
 have hc:clash (T.take i) T[i]=false:=by
  unfold clash
  refine Ke.2 fun y hy=> ?_
  obtain ⟨j,hj,rfl⟩:=Ju hy
  rw [Jc] at hj
  have h1:=Jk.1 ki j i (by omega) hi (by omega)
  have h2:=Jk.1 ko j i (by omega) hi (by omega)
  rw [List.getElem_take,h1,h2]
  decide
 unfold YQ
 rw [if_pos (tok _ (Jx hi)),hc,if_neg (by decide),if_neg (by rw [Jc];omega)]
theorem ZdI {S:List H32} (sk:S.Pairwise fun a b=>H a.v≠H b.v) (hl:S.length<=64) {i:Nat} (hi:i<S.length):Qj H (S.take i) (S.getD i h0)=0/\Xz H (S.take i) (S.getD i h0)=S.take (i+1):=by
 have hn:XO H (S.take i) (H (S.getD i h0).v)=(S.take i).length:=by
  unfold XO
  refine W0 fun j hj=> ?_
  rw [Jc] at hj
  have h1:=Jk.1 sk j i (by omega) hi (by omega)
  rw [Qc hi,Qc (by rw [Jc];omega),List.getElem_take,beq_eq_false_iff_ne]
  exact h1.symm
 have ht:(S.take i).length=i:=by rw [Jc];omega
 unfold Qj Xz
 rw [hn,if_neg (by omega),if_neg (by omega),if_neg (by omega),if_neg (by omega)]
 exact ⟨rfl,(YZ h0 hi).symm⟩
theorem ZdJ {Q:List Zq} (qk:Q.Pairwise fun a b=>a.hash.v≠b.hash.v) (qok:∀q∈Q,Xa H q=true) (hl:Q.length<=16) {i:Nat} (hi:i<Q.length):YS H (Q.take i) (Q.getD i ZB)=0:=by
 have hn:atQ (Q.take i) (Q.getD i ZB).hash.v=(Q.take i).length:=by
  unfold atQ
  refine W0 fun j hj=> ?_
  rw [Jc] at hj
  have h1:=Jk.1 qk j i (by omega) hi (by omega)
  rw [XU hi,XU (by rw [Jc];omega),List.getElem_take,beq_eq_false_iff_ne]
  exact h1.symm
 have ht:(Q.take i).length=i:=by rw [Jc];omega
 unfold YS
 rw [hn,if_pos (by rw [XU hi];exact qok _ (Jx hi)),if_neg (by omega),if_neg (by omega)]
theorem ZdK {n c:Int} (h0:0<=n) (h1:n<36028797018963968) (h2:0<=c) (h3:c<=255):Z1F n c=256*n+c:=by
 unfold Z1F bOr Zx
 have e1:(n*2^(min (8:Int).toNat i64.bits))=n*256:=by simp [IntKind.bits]
 rw [e1,w64 (x:=n*256) (by omega)]
 obtain ⟨a,rfl⟩:=Int.eq_ofNat_of_zero_le h0
 obtain ⟨b,rfl⟩:=Int.eq_ofNat_of_zero_le h2
 have e2:((BitVec.ofInt i64.bits ((a:Int)*256))|||(BitVec.ofInt i64.bits (b:Int))).toNat=256*a+b:=by
  have ea:BitVec.ofInt 64 ((a:Int)*256)=BitVec.ofNat 64 (a*256):=by
   rfl
  have eb:BitVec.ofInt 64 (b:Int)=BitVec.ofNat 64 b:=Kf 64 b
  show (BitVec.ofInt 64 ((a:Int)*256)|||BitVec.ofInt 64 (b:Int)).toNat=_
  rw [ea,eb,BitVec.toNat_or,Kb,Kb,JP (by omega),JP (by omega)]
  have:=Nat.shiftLeft_add_eq_or_of_lt (a:=a) (b:=b) (i:=8) (by omega)
  rw [Nat.shiftLeft_eq] at this
  rw [<-this];omega
 rw [e2,w64 (by omega)]
 omega
theorem Z8G {c:Int} (h2:0<=c) (h3:c<=255):Z1F 36028797018963968 c<0:=by
 have h:∀b:Fin 256,Z1F 36028797018963968 (b.val:Int)<0:=by decide+kernel
 have:=h ⟨c.toNat,by omega⟩
 have e:((c.toNat:Nat):Int)=c:=Int.toNat_of_nonneg h2
 rw [show ((⟨c.toNat,by omega⟩:Fin 256).val:Int)=c from e] at this
 exact this
theorem Z9K:∀(m:Nat) (xs:LI) (k:Nat) (n:Int),Bytes xs->0<=n->n*256^m<=Qg m xs k n
 | 0,xs,k,n,hb,hn=>by simp [Qg]
 | m+1,xs,k,n,hb,hn=>by
  have hc:=hb.h k
  have:=Z9K m xs (k+1) (256*n+xs.getD k 0) hb (by omega)
  refine Int.le_trans ?_ this
  rw [Int.pow_succ,Int.mul_comm (256^m) 256,<-Int.mul_assoc]
  exact Int.mul_le_mul_of_nonneg_right (by omega) (Int.le_of_lt (Int.pow_pos (by decide)))
theorem ZdL {a b:Nat} (h:a<=b):(256:Int)^a<=256^b:=by
 have h1:=Nat.pow_le_pow_right (n:=256) (by decide) h
 have h2:((256^a:Nat):Int)<=((256^b:Nat):Int):=Int.ofNat_le.2 h1
 exact h2
theorem Zjp (m:Nat):(1:Int)<=256^m:=Int.pow_pos (by decide)
theorem Z9L:∀(m:Nat) (xs:LI) (k:Nat) (n:Int),Bytes xs->0<=n->m<=8->n<256^(8-m)->
  (goN m xs k n=none/\Qg m xs k n>4611686018427387904)\/(∃v,goN m xs k n=some v/\((v=Qg m xs k n/\0<=v)\/(v<0/\Qg m xs k n>4611686018427387904)))
 | 0,xs,k,n,hb,hn,hm,hl=>.inr ⟨n,rfl,.inl ⟨rfl,hn⟩⟩
 | m+1,xs,k,n,hb,hn,hm,hl=>by
  have hc:=hb.h k
  have hge:=Z9K (m+1) xs k n hb hn
  by_cases h1:n>36028797018963968
  ·left
   refine ⟨by unfold goN;rw [if_pos h1], ?_⟩
   have:=Zjp m
   rw [Int.pow_succ] at hge
   have h2:n*(1*256)<=n*(256^m*256):=Int.mul_le_mul_of_nonneg_left (Int.mul_le_mul_of_nonneg_right this (by decide)) hn
   omega
  ·unfold goN Qg
   rw [if_neg h1]
   have hw:i64.wrap (xs.getD k 0)=xs.getD k 0:=w64 (by omega)
   rw [hw]
   by_cases h2:n=36028797018963968
   ·subst h2
    have hm0:m=0:=by
     rcases JD m with h|h
     ·exact h
     ·have hle:(256:Int)^(8-(m+1))<=256^6:=ZdL (by omega)
      omega
    subst hm0
    right
    refine ⟨_,rfl,.inr ⟨Z8G hc.1 hc.2, ?_⟩⟩
    show 256*36028797018963968+xs.getD k 0>_
    omega
   ·rw [ZdK hn (by omega) hc.1 hc.2]
    refine Z9L m xs (k+1) _ hb (by omega) (by omega) ?_
    have e:8-m=(8-(m+1))+1:=by omega
    rw [e,Int.pow_succ]
    omega
theorem Z1o (hb:Bytes xs) {m:Nat} (h:xs.length≠0) (hm:X2 (xs.getD 0 0)=m) (hm0:m≠0) (h8:m<=8) (hl:m<xs.length):
  Zy Zp xs=if Qg m xs 1 0>4611686018427387904 then ((0:Int),(-1:Int)) else if (Zp (Qg m xs 1 0)).length=1+m then (Qg m xs 1 0,1+(m:Int)) else ((0:Int),(-1:Int)):=by
 rw [Vy h hm hm0 hl]
 have hv:∀(m k:Nat) (n:Int),Qg m (xs.drop 1) k n=Qg m xs (k+1) n:=by
  intro m
  induction m with
  | zero=>intro k n;rfl
  | succ m ih=>
   intro k n
   unfold Qg
   rw [ih]
   congr 2
   rw [J5,J5,JF,Nat.add_comm]
 rcases Z9L m (xs.drop 1) 0 0 (hb.drop 1) (by decide) h8 (Zjp _) with ⟨h1,h2⟩|⟨v,h1,h2⟩
 all_goals grind [Z6F]
theorem Zjq (x:Int):u8.wrap x=x%256:=by
 simp_all [wrap,IntKind.signed,IntKind.bits]
theorem V7 {n:Int} {k:Nat} (hk:k<=56):b8 n k=(n/2^k)%256:=by
 unfold b8 Zo
 grind [IntKind.bits,Zjq]
theorem Z78 {n:Int} (h0:0<=n) (h1:n<=4611686018427387904) (hb:Bytes (Zp n++ys)):Zy Zp (Zp n++ys)=(n,((Zp n).length:Int)):=by
 by_cases c1:n<253
 ·have e:=Z6F c1
  grind [Zjq,Zg2,QW,w64]
 by_cases c2:n<65536
 ·have e:=Z9h c1 c2
  have hl:=(congrArg List.length e)
  rw [e] at hb⊢
  have hm:X2 (([253,b8 n 8,b8 n 0]++ys).getD 0 0)=2:=Zce rfl
  have hv:Qg 2 ([253,b8 n 8,b8 n 0]++ys) 1 0=n:=by
   show 256*(256*0+b8 n 8)+b8 n 0=n
   rw [show b8 n 8=(n/2^8)%256 from V7 (k:=8) (by decide),show b8 n 0=(n/2^0)%256 from V7 (k:=0) (by decide)]
   omega
  rw [Z1o hb (by simp) hm (by decide) (by decide) (by simp),hv,if_neg (by omega),if_pos (by rw [hl];rfl)]
  rfl
 by_cases c3:n<4294967296
 ·have e:=Z9i c1 c2 c3
  have hl:=(congrArg List.length e)
  rw [e] at hb⊢
  have hm:X2 (([254,b8 n 24,b8 n 16,b8 n 8,b8 n 0]++ys).getD 0 0)=4:=Zcf (by simp_all) rfl
  have hv:Qg 4 ([254,b8 n 24,b8 n 16,b8 n 8,b8 n 0]++ys) 1 0=n:=by
   show 256*(256*(256*(256*0+b8 n 24)+b8 n 16)+b8 n 8)+b8 n 0=n
   rw [show b8 n 24=(n/2^24)%256 from V7 (k:=24) (by decide),show b8 n 16=(n/2^16)%256 from V7 (k:=16) (by decide),show b8 n 8=(n/2^8)%256 from V7 (k:=8) (by decide),show b8 n 0=(n/2^0)%256 from V7 (k:=0) (by decide)]
   omega
  rw [Z1o hb (by simp) hm (by decide) (by decide) (by simp),hv,if_neg (by omega),if_pos (by rw [hl];rfl)]
  rfl
 ·have e:=Z9j c1 c2 c3
  have hl:=(congrArg List.length e)
  rw [e] at hb⊢
  have hm:X2 (([255,b8 n 56,b8 n 48,b8 n 40,b8 n 32,b8 n 24,b8 n 16,b8 n 8,b8 n 0]++ys).getD 0 0)=8:=Zcg (by simp_all) (by simp_all) rfl
  have hv:Qg 8 ([255,b8 n 56,b8 n 48,b8 n 40,b8 n 32,b8 n 24,b8 n 16,b8 n 8,b8 n 0]++ys) 1 0=n:=by
   show 256*(256*(256*(256*(256*(256*(256*(256*0+b8 n 56)+b8 n 48)+b8 n 40)+b8 n 32)+b8 n 24)+b8 n 16)+b8 n 8)+b8 n 0=n
   rw [show b8 n 56=(n/2^56)%256 from V7 (k:=56) (by decide),show b8 n 48=(n/2^48)%256 from V7 (k:=48) (by decide),show b8 n 40=(n/2^40)%256 from V7 (k:=40) (by decide),show b8 n 32=(n/2^32)%256 from V7 (k:=32) (by decide),show b8 n 24=(n/2^24)%256 from V7 (k:=24) (by decide),show b8 n 16=(n/2^16)%256 from V7 (k:=16) (by decide),show b8 n 8=(n/2^8)%256 from V7 (k:=8) (by decide),show b8 n 0=(n/2^0)%256 from V7 (k:=0) (by decide)]
   omega
  rw [Z1o hb (by simp) hm (by decide) (by decide) (by simp),hv,if_neg (by omega),if_pos (by rw [hl];rfl)]
  rfl
theorem WM {n:Int} {o:Nat} (hb:Bytes xs) (hd:xs.drop o=Zp n++ys) (h0:0<=n) (hm:n<=most) (h1:n<=4611686018427387904):rdN (Zy Zp) xs o most=some (n,o+(Zp n).length)/\xs.drop (o+(Zp n).length)=ys:=by
 have hb2:Bytes (Zp n++ys):=by rw [<-hd];exact hb.drop o
 have hf:=Z78 h0 h1 hb2
 have hl:=(UG n).1
 refine ⟨?_,by rw [<-List.drop_drop,hd,List.drop_left]⟩
 unfold rdN
 rw [hd,hf]
 rw [if_pos ⟨by omega,hm⟩]
 rw [JR]
theorem VQ {hh:LI} {o:Nat} (hl:hh.length=32) (hd:xs.drop o=hh++ys):rdH xs o=some (hh,o+32)/\xs.drop (o+32)=ys:=by
 have hx:o+32<=xs.length:=by
  have:=congrArg List.length hd
  rw [J9,J3,hl] at this
  omega
 refine ⟨?_,by rw [<-List.drop_drop,hd,<-hl,List.drop_left]⟩
 unfold rdH
 rw [if_pos hx,hd,<-hl,List.take_left,hl]
theorem ZfF (n:Int):∀x∈Zp n,0<=x/\x<=255:=fun x hx=>by
 unfold Zp at hx
 repeat' split at hx
 all_goals
  simp only [J7,JH] at hx
  repeat' rcases hx with rfl|hx
  all_goals first|exact Zh0 _|(constructor<;>decide)
theorem Byt.bytes (h:Byt xs):Bytes xs:=⟨fun i=>by
 have:=h.b
 grind [Jx]⟩
theorem Byt.app {a b:LI} (ha:Byt a) (hb:Byt b):Byt (a++b):=⟨fun x hx=>(JV.1 hx).elim (ha.b x) (hb.b x)⟩
theorem Byt.num (n:Int):Byt (Zp n):=⟨ZfF n⟩
theorem Byt.h (x:H32):Byt x.v:=⟨x.b⟩
theorem Byt.flat {g:α->LI} (hg:∀x,Byt (g x)) (l:List α):Byt (l.flatMap g):=⟨fun x hx=>by
 obtain ⟨y,_,hy⟩:=List.mem_flatMap.1 hx
 exact (hg y).b x hy⟩
theorem ZfG (x:Zl):Byt (Z1Y Zp x):=(((Byt.h _).app (.num _)).app (.h _)).app (.num _)
theorem ZfH (x:Zq):Byt (Z1Z Zp x):=((((Byt.h _).app (.h _)).app (.num _)).app (.num _)).app (.h _)
theorem Z9M (X:Za):Byt (Ya X):=((((((Byt.num _).app (.flat ZfG _)).app (.num _)).app (.flat Byt.h _)).app (.num _))).app (.flat ZfH _)
theorem Z8H (x:H32):YD x.v=x:=H32.ext (ZdE x.l x.b)
theorem drop_at (d:α) {L:List α} {i:Nat} (h:i<L.length):L.drop i=L.getD i d::L.drop (i+1):=by
 rw [List.drop_eq_getElem_cons h,J5,J8 h]
 rfl
theorem ZhB (hb:Bytes xs) {x:Zl} {o:Nat} (hd:xs.drop o=Z1Y Zp x++ys) (hx:W5 x=true) (he:YQ X.T x=0):∃p,stT (Zy Zp) xs (X,o)=some (⟨W6 X.T x,X.S,X.Q⟩,p)/\xs.drop p=ys/\p<=xs.length:=by
 unfold W5 at hx
 simp only [J2,decide_eq_true_eq] at hx
 unfold Z1Y at hd
 simp only [Jl] at hd
 obtain ⟨a1,a2⟩:=VQ x.inn.l hd
 obtain ⟨b1,b2⟩:=WM (most:=2147483647) hb a2 (by omega) (by omega) (by omega)
 obtain ⟨c1,c2⟩:=VQ x.out.l b2
 obtain ⟨d1,d2⟩:=WM (most:=2147483647) hb c2 (by omega) (by omega) (by omega)
 refine ⟨_, ?_,d2,(UT (Z1n c1) d1).1⟩
 simp only [stT,a1,b1,c1,d1,Jg,Z8H]
 have e:(⟨x.inn,x.inID,x.out,x.outID⟩:Zl)=x:=rfl
 rw [e,if_pos he]
theorem ZhC {x:H32} {o:Nat} (hd:xs.drop o=x.v++ys) (he:Qj Zf X.S x=0):∃p,stS xs (X,o)=some (⟨X.T,Xz Zf X.S x,X.Q⟩,p)/\xs.drop p=ys/\p<=xs.length:=by
 obtain ⟨a1,a2⟩:=VQ x.l hd
 refine ⟨_, ?_,a2,Z1n a1⟩
 simp only [stS,a1,Jg,Z8H]
 rw [if_pos he]
theorem ZhD (hb:Bytes xs) {x:Zq} {o:Nat} (hd:xs.drop o=Z1Z Zp x++ys) (hx:Xa Zf x=true) (he:YS Zf X.Q x=0):∃p,stQ (Zy Zp) xs (X,o)=some (⟨X.T,X.S,Wh Zf X.Q x⟩,p)/\xs.drop p=ys/\p<=xs.length:=by
 unfold Xa at hx
 simp only [J2,decide_eq_true_eq] at hx
 unfold Z1Z at hd
 simp only [Jl] at hd
 obtain ⟨a1,a2⟩:=VQ x.hash.l hd
 obtain ⟨b1,b2⟩:=VQ x.key.l a2
 obtain ⟨c1,c2⟩:=WM (most:=1125899906842624) hb b2 (by omega) (by omega) (by omega)
 obtain ⟨d1,d2⟩:=WM (most:=1000) hb c2 (by omega) (by omega) (by omega)
 obtain ⟨e1,e2⟩:=VQ x.secret.l d2
 refine ⟨_, ?_,e2,Z1n e1⟩
 simp only [stQ,a1,b1,c1,d1,e1,Jg,Z8H]
 have e:(⟨x.hash,x.key,x.amount,x.least,x.secret⟩:Zq)=x:=rfl
 rw [e,if_pos he]
theorem Z9N {α:Type} (d:α) {st:Za×Nat->Option (Za×Nat)} {xs ys:LI} {L:List α} {g:α->LI} {mk:Nat->Za} (hs:∀i o zs,i<L.length->xs.drop o=g (L.getD i d)++zs->∃p,st (mk i,o)=some (mk (i+1),p)/\xs.drop p=zs/\p<=xs.length) {o:Nat} (ho:o<=xs.length) (hd:xs.drop o=L.flatMap g++ys):∀i,i<=L.length->∃p,itO st (mk 0,o) i=some (mk i,p)/\xs.drop p=(L.drop i).flatMap g++ys/\p<=xs.length
 | 0,_=>⟨o,rfl,hd,ho⟩
 | i+1,h=>by
  obtain ⟨p,h1,h2,h3⟩:=Z9N d hs ho hd i (by omega)
  rw [drop_at d (by omega),List.flatMap_cons,Jl] at h2
  obtain ⟨q,g1,g2,g3⟩:=hs i p _ (by omega) h2
  refine ⟨q, ?_,g2,g3⟩
  unfold itO
  rw [h1,Jg,g1]
theorem Z5V (d:α) {st:Za×Nat->Option (Za×Nat)} {L:List α} {g:α->LI} {mk:Nat->Za} (hs:∀i o zs,i<L.length->xs.drop o=g (L.getD i d)++zs->∃p,st (mk i,o)=some (mk (i+1),p)/\xs.drop p=zs/\p<=xs.length) {o:Nat} (ho:o<=xs.length) (hd:xs.drop o=L.flatMap g++ys):∃p,itO st (mk 0,o) L.length=some (mk L.length,p)/\xs.drop p=ys/\p<=xs.length:=by
 obtain ⟨p,h1,h2,h3⟩:=Z9N d hs ho hd L.length (J1 _)
 rw [List.drop_length] at h2
 exact ⟨p,h1,h2,h3⟩
theorem Z79 (h:X.Inv Zf):Ya (Yd X)=Ya X:=by
 have e1:(Yd X).T.length=X.T.length:=Wu
 have e2:(Yd X).S.length=X.S.length:=Wu
 have e3:(Yd X).Q.length=X.Q.length:=Wu
 unfold Ya
 rw [Zb5 h]
 unfold X0 tsB
 rw [e1,e2,e3]
theorem Z9O (h:X.Inv Zf):rdX (Zy Zp) (Ya X)=some (Yd X):=by
 have hb:Bytes (Ya X):=(Z9M X).bytes
 have hI:=h.sorted
 have e1:(Yd X).T.length=X.T.length:=Wu
 have e2:(Yd X).S.length=X.S.length:=Wu
 have e3:(Yd X).Q.length=X.Q.length:=Wu
 have eR:Ya X=Zp X.T.length++((Yd X).T.flatMap (Z1Y Zp)++(Zp X.S.length++((Yd X).S.flatMap (fun x=>x.v)++(Zp X.Q.length++((Yd X).Q.flatMap (Z1Z Zp)++[]))))):=by
  unfold Ya X0 tsB XR XQ
  simp only [Jr,Jl,JE]
 have l1:=h.lim.t
 have l2:=h.lim.s
 have l3:=h.lim.q
 obtain ⟨a1,a2⟩:=WM (most:=48) hb (o:=0) (by rw [K6];exact eR) (by omega) (by omega) (by omega)
 obtain ⟨p1,b1,b2,b3⟩:=Z5V Zr (st:=stT (Zy Zp) (Ya X)) (L:=(Yd X).T) (mk:=fun i=>⟨(Yd X).T.take i,[],[]⟩) (fun i o zs hi hd=>by
  have he:=ZdH hI.lim.ko hI.lim.ki hI.tok hI.lim.t hi
  have:=ZhB hb (X:=⟨(Yd X).T.take i,[],[]⟩) hd (by rw [getD_at hi];exact hI.tok _ (Jx hi)) he
  have e:W6 ((Yd X).T.take i) ((Yd X).T.getD i Zr)=(Yd X).T.take (i+1):=by
   unfold W6
   rw [if_pos he]
   exact (YZ Zr hi).symm
  rwa [e] at this) (UT (JI _) a1).1 a2
 obtain ⟨c1,c2⟩:=WM (most:=64) hb b2 (by omega) (by omega) (by omega)
 obtain ⟨p2,d1,d2,d3⟩:=Z5V h0 (st:=stS (Ya X)) (L:=(Yd X).S) (mk:=fun i=>⟨(Yd X).T,(Yd X).S.take i,[]⟩) (fun i o zs hi hd=>by
  obtain ⟨he,hp⟩:=ZdI hI.sk hI.lim.s hi
  have:=ZhC (X:=⟨(Yd X).T,(Yd X).S.take i,[]⟩) hd he
  rwa [hp] at this) (UT b3 c1).1 c2
 obtain ⟨f1,f2⟩:=WM (most:=16) hb d2 (by omega) (by omega) (by omega)
 obtain ⟨p3,g1,g2,g3⟩:=Z5V ZB (st:=stQ (Zy Zp) (Ya X)) (L:=(Yd X).Q) (mk:=fun i=>⟨(Yd X).T,(Yd X).S,(Yd X).Q.take i⟩) (fun i o zs hi hd=>by
  have he:=ZdJ hI.qk hI.qok hI.lim.q hi
  have:=ZhD hb (X:=⟨(Yd X).T,(Yd X).S,(Yd X).Q.take i⟩) hd (by rw [XU hi];exact hI.qok _ (Jx hi)) he
  have e:Wh Zf ((Yd X).Q.take i) ((Yd X).Q.getD i ZB)=(Yd X).Q.take (i+1):=by
   unfold Wh
   rw [if_pos he]
   exact (YZ ZB hi).symm
  rwa [e] at this) (UT d3 f1).1 f2
 have hp:p3=(Ya X).length:=by
  have:=congrArg List.length g2
  rw [J9] at this
  simp at this
  omega
 rw [e1] at b1
 rw [e2] at d1
 rw [e3] at g1
 have t1:∀n:Nat,((n:Int)).toNat=n:=fun n=>JR n
 simp only [<-e1,<-e2,<-e3,Jr,List.take_zero] at b1 d1 g1
 simp only [e1,e2,e3] at b1 d1 g1
 have z1:(⟨(Yd X).T,(Yd X).S,(Yd X).Q⟩:Za)=Yd X:=rfl
 unfold rdX
 rw [a1,Jg]
 simp only [t1]
 rw [b1,Jg]
 simp only []
 rw [c1,Jg]
 simp only [t1]
 rw [d1,Jg]
 simp only []
 rw [f1,Jg]
 simp only [t1]
 rw [g1,Jg,z1,Z79 h]
 rw [if_pos ⟨hp,by simp⟩]
theorem ZdM (h:X.Inv Zf):((strOf (Ya (Yd X))).toList==(strOf (Ya X)).toList)=true:=by
 rw [Z79 h]
 simp
def slB (b n:Nat):AV:=.nslice ⟨b,0,0,0,0⟩ 1 n n
noncomputable def ZhE (W:Int->LI):Zg:=G0.withF 127 (Zcl W)
theorem Z9P:(ZhE Zp).Ok:=Zg.withF_ok Zv Zcm
theorem Zjr (W:Int->LI) (xs ys:LI) (N L:Nat) (n:Int) (hN:xs.length=N) (hB:N<80000000000000) (hW:W=Zp) (hn:0<=n) (hy:ys=xs++W n) (hL:L=ys.length):
  evF (ZhE W) 20 96 [slB 0 N,.int .i64 n] ⟨1,[(0,.ints .u8 xs)]⟩ (Y4 1 (.ret (slB 1 L)) 2 [(1,.ints .u8 ys)]):=by
 refine @Eq.mpr _ (let b:=List.length (W n);let c:=xs++List.take b (Y2 0 (W n));let a:=c.length;
 Z4 (0<=n) (Z4 (u8=u8/\0+b<=b) (Z4 (u8=u8/\xs.length=N) (Z4 (a*1<=140737488355328) (Z4 (a=L) (Z4 (L<=a) (c=ys/\True))))))) (by kernel_rfl) ?_
 conv=>zeta
 try simp only [vcA]
 try simp only [vcB]
 try simp only [vcC]
 subst hW hN hy hL
 have e:List.take (Zp n).length (Y2 0 (Zp n))=Zp n:=by rw [ZU,K6,Jr]
 have:=UG n
 rw [e]
 simp only [J3]
 repeat' apply JG
 all_goals first|trivial|omega|rfl
theorem Zjs (W:Int->LI) (ys:LI) (L:Nat) (n:Int) (hW:W=Zp) (hn:0<=n) (hy:ys=W n) (hL:L=ys.length):
  evF (ZhE W) 20 96 [.nilslice,.int .i64 n] ⟨0,[]⟩ (Y4 0 (.ret (slB 0 L)) 1 [(0,.ints .u8 ys)]):=by
 refine @Eq.mpr _ (let b:=List.length (W n);let c:=[]++List.take b (Y2 0 (W n));let a:=c.length;
 Z4 (0<=n) (Z4 (u8=u8/\0+b<=b) (Z4 (a*1<=140737488355328) (Z4 (a=L) (Z4 (L<=a) (c=ys/\True)))))) (by kernel_rfl) ?_
 conv=>zeta
 try simp only [vcA]
 try simp only [vcB]
 try simp only [vcC]
 subst hW hy hL
 have e:List.take (Zp n).length (Y2 0 (Zp n))=Zp n:=by rw [ZU,K6,Jr]
 have:=UG n
 rw [e]
 simp only [Kl]
 repeat' apply JG
 all_goals first|trivial|omega|rfl
theorem Zjt (xs hh ys:LI) (N L:Nat) (hN:xs.length=N) (hB:N<80000000000000) (hl:hh.length=32) (hy:ys=xs++hh) (hL:L=ys.length):
  evF G0 20 97 [slB 0 N,.agg [.arr .u8 32 hh]] ⟨1,[(0,.ints .u8 xs)]⟩ (Y4 1 (.ret (slB 1 L)) 2 [(1,.ints .u8 ys)]):=by
 refine @Eq.mpr _ (let b:=xs++hh;let a:=b.length;
 Z4 (u8=u8/\hh.length=32) (Z4 (u8=u8/\xs.length=N) (Z4 (a*1<=140737488355328) (Z4 (a=L) (Z4 (L<=a) (b=ys/\True)))))) (by kernel_rfl) ?_
 conv=>zeta
 try simp only [vcA]
 try simp only [vcB]
 try simp only [vcC]
 subst hN hy hL
 simp only [J3]
 repeat' apply JG
 all_goals first|trivial|omega|rfl
def Zju (h:Z6) (b:Nat) (ys:LI):Z6:=⟨h.next+1,(h.next,.ints .u8 ys)::ZK h.bs b⟩
def ZhF (W:Int->LI) (B:Nat):ZJ:=fun args h K=>match args with
 | [.nilslice,_]=>frA [] h 20 args fun Bs a=>match Bs,a with
  | [],[.nilslice,.int .i64 n]=>Z4 (0<=n) (K (.ret (slB h.next (W n).length)) ⟨h.next+1,(h.next,.ints .u8 (W n))::h.bs⟩)
  | _,_=>False
 | [.nslice ⟨b,0,0,0,0⟩ 1 _ _,_]=>frA [b] h 20 args fun Bs a=>match Bs,a with
  | [.ints .u8 xs],[.nslice ⟨0,0,0,0,0⟩ 1 N M,.int .i64 n]=>Z4 (xs.length=N/\M=N/\N<B/\0<=n) (K (.ret (slB h.next (xs++W n).length)) (Zju h b (xs++W n)))
  | _,_=>False
 | _=>False
theorem ZfI (args:List AV) (h:Z6) (K:KO) (hl:ZhF Zp 80000000000000 args h K):Zh PP 96 args h K:=by
 unfold ZhF at hl
 split at hl
 ·refine Spec.fsumm hl fun Bs a hlen hK0=> ?_
  split at hK0
  ·obtain ⟨h3,hK⟩:=Zd hK0
   exact ⟨_,_,_,_,_,.evM Z9P (Zjs _ _ _ _ rfl h3 rfl rfl),JI _,.ret _ _ rfl,.cons _ _ _ _ _ _ rfl (.ints _ _) .nil,hK⟩
  ·exact hK0.elim
 ·refine Spec.fsumm hl fun Bs a hlen hK0=> ?_
  split at hK0
  ·obtain ⟨⟨h1,rfl,h2,h3⟩,hK⟩:=Zd hK0
   exact ⟨_,_,_,_,_,.evM Z9P (Zjr _ _ _ _ _ _ h1 h2 rfl h3 rfl rfl),by simp,.ret _ _ rfl,.cons _ _ _ _ _ _ rfl (.ints _ _) .nil,hK⟩
  ·exact hK0.elim
 ·exact hl.elim
def ZdN (B:Nat):ZJ:=fun args h K=>match args with
 | [.nslice ⟨b,0,0,0,0⟩ 1 _ _,_]=>frA [b] h 20 args fun Bs a=>match Bs,a with
  | [.ints .u8 xs],[.nslice ⟨0,0,0,0,0⟩ 1 N M,.agg [.arr .u8 32 hh]]=>Z4 (xs.length=N/\M=N/\N<B/\hh.length=32) (K (.ret (slB h.next (xs++hh).length)) (Zju h b (xs++hh)))
  | _,_=>False
 | _=>False
theorem ZdO (args:List AV) (h:Z6) (K:KO) (hl:ZdN 80000000000000 args h K):Zh PP 97 args h K:=by
 unfold ZdN at hl
 split at hl
 ·refine Spec.fsumm hl fun Bs a hlen hK0=> ?_
  split at hK0
  ·obtain ⟨⟨h1,rfl,h2,h3⟩,hK⟩:=Zd hK0
   exact ⟨_,_,_,_,_,.evM Zv (Zjt _ _ _ _ _ h1 h2 h3 rfl rfl),by simp,.ret _ _ rfl,.cons _ _ _ _ _ _ rfl (.ints _ _) .nil,hK⟩
  ·exact hK0.elim
 ·exact hl.elim
noncomputable def Qx (W:Int->LI) (B:Nat):Zg:=(G0.withF 96 (ZhF W B)).withF 97 (ZdN B)
theorem Z3M:(Qx Zp 80000000000000).Ok:=Zg.withF_ok (Zg.withF_ok Zv ZfI) ZdO
def drB (D:Za) (ys:LI):List (Nat×Blk):=(4,.ints .u8 ys)::(3,.flat (dcC D))::dcB D
def drS (t:Nat) (D:Za) (i:Nat) (ys:LI) (N:Nat):St:=⟨95,[(t,.int .i64 i),(3,slB 4 N),(1,pt 3)],⟨5,drB D ys⟩,[]⟩
def drE (D:Za) (ys:LI) (N:Nat):St:=⟨95,[(3,slB 4 N),(1,pt 3)],⟨5,drB D ys⟩,[]⟩
def drN:St:=⟨95,[],⟨0,[]⟩,[]⟩
theorem ZlM (W:Int->LI) (B:Nat) (D:Za) (i N N1:Nat) (ys ys':LI) (Z1 Z2:Prop) (hL:D.T.length<=48) (hi:i<=D.T.length) (hN:ys.length=N) (hb:N<20000) (hB:B=80000000000000) (hW:∀n,(W n).length<=10) (hk:i<D.T.length->YC (D.T.getD i Zr).inID/\YC (D.T.getD i Zr).outID) (hy:i<D.T.length->ys'=ys++Z1Y W (D.T.getD i Zr)) (hN1:N1=ys'.length) (hg:i<D.T.length->Z1) (hx:i=D.T.length->Z2):
  ZA (Qx W B) 40 57 0 3 (drS 4 D i ys N) (rdM 3 0 9 (drS 4 D (i+1) ys' N1) (drE D ys N) drN drN Z1 Z2 False False):=by
 refine @Eq.mpr _ (let u:=D.T;let a:=u.length;let y:=0+Int.toNat (↑i:Int);let j:=List.getD u y Zr;let x:=j.inn.v;let h:=j.outID;let r:=decide (h=h);let g:=j.out.v;let w:=g=g;let q:=j.inID;let I:=ys++x;let f:=I.length;let H:=I++W q;let e:=H.length;let G:=H++g;let d:=G.length;let F:=G++W h;let E:=F.length;let p:=decide (a=a);let C:=decide (a<=a);let c:=D.S.length;let o:=decide (c=c);let A:=decide (c<=c);let b:=D.Q.length;let n:=decide (b=b);let z:=decide (b<=b);let t:=[(3,3),(4,9)];let m:=tiR u;let l:=seR D.S;let k:=quR D.Q;let s:=[(3,3),(4,4)];
 Z8 (decide ((↑i:Int)<(↑a:Int))) (Z4 (0<=(↑i:Int)/\(↑i:Int)<(↑a:Int)) (Z4 (y<a) (Z4 (ys.length=N/\N=N/\N<B/\x.length=32) (Z0 r (w/\Z4 (q=q) (Z4 (f=f/\f=f/\f<B/\0<=q) (Z0 r (w/\Z4 (e=e/\e=e/\e<B/\g.length=32) (Z0 r (Z4 (d=d/\d=d/\d<B/\0<=h) (Z4 (wrap i64 ((↑i:Int)+1)=(↑(i+1):Int)) (Z4 (E=N1) (Z4 (N1<=E) (F=ys'/\Z0 p (Z0 C (Z0 o (Z0 A (Z0 n (Z0 z (Z0 p (Z5 3 t a m m/\Z0 o (Z5 3 t c l l/\Z0 n (Z5 3 t b k k/\Z1))))))))))))))))))))))) (Z4 (N=N) (Z4 (N<=N) (ys=ys/\Z0 p (Z0 C (Z0 o (Z0 A (Z0 n (Z0 z (Z0 p (Z5 3 s a m m/\Z0 o (Z5 3 s c l l/\Z0 n (Z5 3 s b k k/\Z2))))))))))))) (by kernel_rfl) ?_
 conv=>zeta
 try simp only [vcA]
 try simp only [vcB]
 try simp only [vcC]
 have hq:∀k τ,Z5 k τ D.T.length (tiR D.T) (tiR D.T)/\Z5 k τ D.S.length (seR D.S) (seR D.S)/\Z5 k τ D.Q.length (quR D.Q) (quR D.Q):=Vg D
 refine ⟨fun hlt=> ?_,fun hge=>⟨(hq _ _).1,(hq _ _).2.1,(hq _ _).2.2,hx (by omega)⟩⟩
 have hlt':i<D.T.length:=by omega
 obtain ⟨⟨k1⟩,⟨k2⟩⟩:=hk hlt'
 have e:=hy hlt'
 generalize D.T.getD i Zr=x at*
 have w1:=hW x.inID
 have w2:=hW x.outID
 have l1:=x.inn.l
 have l2:=x.out.l
 have hw:i64.wrap ((i:Int)+1)=((i+1:Nat):Int):=by rw [w64 (by omega)];omega
 have e':ys++x.inn.v++W x.inID++x.out.v++W x.outID=ys':=by rw [e,Z1Y];simp only [Jl]
 refine ⟨⟨by omega,hlt⟩,hlt',⟨hN,by omega,l1⟩,⟨by simp only [J3];omega,k1.1⟩,⟨by simp only [J3];omega,l2⟩,⟨by simp only [J3];omega,k2.1⟩,hw, ?_⟩
 rw [e']
 exact ⟨hN1.symm,Jp hN1,rfl,(hq _ _).1,(hq _ _).2.1,(hq _ _).2.2,hg hlt'⟩
theorem ZlN (W:Int->LI) (B:Nat) (D:Za) (i N N1:Nat) (ys ys':LI) (Z1 Z2:Prop) (hL:D.S.length<=64) (hi:i<=D.S.length) (hN:ys.length=N) (hb:N<20000) (hB:B=80000000000000) (hW:∀n,(W n).length<=10) (hy:i<D.S.length->ys'=ys++(D.S.getD i h0).v) (hN1:N1=ys'.length) (hg:i<D.S.length->Z1) (hx:i=D.S.length->Z2):
  ZA (Qx W B) 40 57 2 3 (drS 6 D i ys N) (rdM 3 2 9 (drS 6 D (i+1) ys' N1) (drE D ys N) drN drN Z1 Z2 False False):=by
 refine @Eq.mpr _ (let m:=D.S;let a:=m.length;let r:=0+Int.toNat (↑i:Int);let q:=(List.getD m r h0).v;let p:=ys++q;let o:=p.length;let b:=D.T.length;let d:=decide (b=b);let n:=decide (b<=b);let j:=decide (a=a);let t:=decide (a<=a);let c:=D.Q.length;let h:=decide (c=c);let s:=decide (c<=c);let l:=[(3,3),(4,5)];let g:=tiR D.T;let f:=seR m;let e:=quR D.Q;let k:=[(3,3),(4,4)];
 Z8 (decide ((↑i:Int)<(↑a:Int))) (Z4 (0<=(↑i:Int)/\(↑i:Int)<(↑a:Int)) (Z4 (r<a) (Z4 (ys.length=N/\N=N/\N<B/\q.length=32) (Z4 (wrap i64 ((↑i:Int)+1)=(↑(i+1):Int)) (Z4 (o=N1) (Z4 (N1<=o) (p=ys'/\Z0 d (Z0 n (Z0 j (Z0 t (Z0 h (Z0 s (Z0 d (Z5 3 l b g g/\Z0 j (Z5 3 l a f f/\Z0 h (Z5 3 l c e e/\Z1)))))))))))))))) (Z4 (N=N) (Z4 (N<=N) (ys=ys/\Z0 d (Z0 n (Z0 j (Z0 t (Z0 h (Z0 s (Z0 d (Z5 3 k b g g/\Z0 j (Z5 3 k a f f/\Z0 h (Z5 3 k c e e/\Z2))))))))))))) (by kernel_rfl) ?_
 conv=>zeta
 try simp only [vcA]
 try simp only [vcB]
 try simp only [vcC]
 have hq:∀k τ,Z5 k τ D.T.length (tiR D.T) (tiR D.T)/\Z5 k τ D.S.length (seR D.S) (seR D.S)/\Z5 k τ D.Q.length (quR D.Q) (quR D.Q):=Vg D
 refine ⟨fun hlt=> ?_,fun hge=>⟨(hq _ _).1,(hq _ _).2.1,(hq _ _).2.2,hx (by omega)⟩⟩
 have hlt':i<D.S.length:=by omega
 have e:=hy hlt'
 generalize D.S.getD i h0=x at*
 have l1:=x.l
 have hw:i64.wrap ((i:Int)+1)=((i+1:Nat):Int):=by rw [w64 (by omega)];omega
 have e':ys++x.v=ys':=by rw [e]
 refine ⟨⟨by omega,hlt⟩,hlt',⟨hN,by omega,l1⟩,hw, ?_⟩
 rw [e']
 exact ⟨hN1.symm,Jp hN1,rfl,(hq _ _).1,(hq _ _).2.1,(hq _ _).2.2,hg hlt'⟩
theorem ZlO (W:Int->LI) (B:Nat) (D:Za) (i N N1:Nat) (ys ys':LI) (Z1 Z2:Prop) (hL:D.Q.length<=16) (hi:i<=D.Q.length) (hN:ys.length=N) (hb:N<20000) (hB:B=80000000000000) (hW:∀n,(W n).length<=10) (hk:i<D.Q.length->YC (D.Q.getD i ZB).amount/\YC (D.Q.getD i ZB).least) (hy:i<D.Q.length->ys'=ys++Z1Z W (D.Q.getD i ZB)) (hN1:N1=ys'.length) (hg:i<D.Q.length->Z1) (hx:i=D.Q.length->Z2):
  ZA (Qx W B) 40 57 4 3 (drS 7 D i ys N) (rdM 3 4 9 (drS 7 D (i+1) ys' N1) (drE D ys N) drN drN Z1 Z2 False False):=by
 refine @Eq.mpr _ (let y:=D.Q;let a:=y.length;let C:=0+Int.toNat (↑i:Int);let d:=List.getD y C ZB;let z:=d.hash.v;let l:=d.secret.v;let k:=l=l;let j:=d.least;let u:=decide (j=j);let t:=d.amount;let M:=decide (t=t);let s:=d.key.v;let L:=ys++z;let h:=L.length;let K:=L++s;let g:=K.length;let J:=K++W t;let f:=J.length;let I:=J++W j;let e:=I.length;let H:=I++l;let G:=H.length;let c:=D.T.length;let r:=decide (c=c);let F:=decide (c<=c);let b:=D.S.length;let q:=decide (b=b);let E:=decide (b<=b);let p:=decide (a=a);let A:=decide (a<=a);let x:=[(3,3),(4,10)];let o:=tiR D.T;let n:=seR D.S;let m:=quR y;let w:=[(3,3),(4,4)];
 Z8 (decide ((↑i:Int)<(↑a:Int))) (Z4 (0<=(↑i:Int)/\(↑i:Int)<(↑a:Int)) (Z4 (C<a) (Z4 (ys.length=N/\N=N/\N<B/\z.length=32) (k/\Z0 u (Z0 M (s=s/\Z4 (h=h/\h=h/\h<B/\s.length=32) (k/\Z0 u (Z0 M (Z4 (g=g/\g=g/\g<B/\0<=t) (k/\Z0 u (Z4 (f=f/\f=f/\f<B/\0<=j) (k/\Z4 (e=e/\e=e/\e<B/\l.length=32) (Z4 (wrap i64 ((↑i:Int)+1)=(↑(i+1):Int)) (Z4 (G=N1) (Z4 (N1<=G) (H=ys'/\Z0 r (Z0 F (Z0 q (Z0 E (Z0 p (Z0 A (Z0 r (Z5 3 x c o o/\Z0 q (Z5 3 x b n n/\Z0 p (Z5 3 x a m m/\Z1))))))))))))))))))))))))) (Z4 (N=N) (Z4 (N<=N) (ys=ys/\Z0 r (Z0 F (Z0 q (Z0 E (Z0 p (Z0 A (Z0 r (Z5 3 w c o o/\Z0 q (Z5 3 w b n n/\Z0 p (Z5 3 w a m m/\Z2))))))))))))) (by kernel_rfl) ?_
 conv=>zeta
 try simp only [vcA]
 try simp only [vcB]
 try simp only [vcC]
 have hq:∀k τ,Z5 k τ D.T.length (tiR D.T) (tiR D.T)/\Z5 k τ D.S.length (seR D.S) (seR D.S)/\Z5 k τ D.Q.length (quR D.Q) (quR D.Q):=Vg D
 refine ⟨fun hlt=> ?_,fun hge=>⟨(hq _ _).1,(hq _ _).2.1,(hq _ _).2.2,hx (by omega)⟩⟩
 have hlt':i<D.Q.length:=by omega
 obtain ⟨⟨k1⟩,⟨k2⟩⟩:=hk hlt'
 have e:=hy hlt'
 generalize D.Q.getD i ZB=x at*
 have w1:=hW x.amount
 have w2:=hW x.least
 have l1:=x.hash.l
 have l2:=x.key.l
 have l3:=x.secret.l
 have hw:i64.wrap ((i:Int)+1)=((i+1:Nat):Int):=by rw [w64 (by omega)];omega
 have e':ys++x.hash.v++x.key.v++W x.amount++W x.least++x.secret.v=ys':=by rw [e,Z1Z];simp only [Jl]
 refine ⟨⟨by omega,hlt⟩,hlt',⟨hN,by omega,l1⟩,⟨by simp only [J3];omega,l2⟩,⟨by simp only [J3];omega,k1.1⟩,⟨by simp only [J3];omega,k2.1⟩,⟨by simp only [J3];omega,l3⟩,hw, ?_⟩
 rw [e']
 exact ⟨hN1.symm,Jp hN1,rfl,(hq _ _).1,(hq _ _).2.1,(hq _ _).2.2,hg hlt'⟩
structure Z7a (D:Za):Prop where
 l:ZO D
 t:∀x∈D.T,YC x.inID/\YC x.outID
 q:∀x∈D.Q,YC x.amount/\YC x.least
def drA (W:Int->LI) (D:Za) (i:Nat):LI:=XR W D.T.length D.T D.T.length++W D.S.length++XQ (D.S.take i)
theorem ZdP {i:Nat} (h:i<D.S.length):drA W D (i+1)=drA W D i++(D.S.getD i h0).v:=by
 unfold drA
 rw [Z4W h]
 simp only [Jl]
theorem Z9Q (hW:∀n,(W n).length<=10) (hD:ZO D) (i:Nat):(drA W D i).length<=7000:=by
 unfold drA
 have h0:=VP hW D.T.length D.T D.T.length
 have h1:=hW D.S.length
 have h2:=Z0M (D.S.take i)
 have h3:(D.S.take i).length<=D.S.length:=by rw [Jc];omega
 have:=hD.t
 have:=hD.s
 simp only [J3]
 omega
noncomputable def dlT (W:Int->LI) (D:Za):Nat->St->KE->Prop:=goM 3 (drS 4 D 0 (XR W D.T.length D.T 0) (XR W D.T.length D.T 0).length) (Z7a D) (Yn 0 D.T.length 9 (fun i=>i<D.T.length) (fun i=>i=D.T.length) (fun _=>False) (fun _=>False) (fun i=>drE D (XR W D.T.length D.T i) (XR W D.T.length D.T i).length) (fun _=>drN) (fun _=>drN))
noncomputable def dlS (W:Int->LI) (D:Za):Nat->St->KE->Prop:=goM 3 (drS 6 D 0 (drA W D 0) (drA W D 0).length) (Z7a D) (Yn 2 D.S.length 9 (fun i=>i<D.S.length) (fun i=>i=D.S.length) (fun _=>False) (fun _=>False) (fun i=>drE D (drA W D i) (drA W D i).length) (fun _=>drN) (fun _=>drN))
noncomputable def dlQ (W:Int->LI) (D:Za):Nat->St->KE->Prop:=goM 3 (drS 7 D 0 (X0 W D D 0) (X0 W D D 0).length) (Z7a D) (Yn 4 D.Q.length 9 (fun i=>i<D.Q.length) (fun i=>i=D.Q.length) (fun _=>False) (fun _=>False) (fun i=>drE D (X0 W D D i) (X0 W D D i).length) (fun _=>drN) (fun _=>drN))
noncomputable def Zjv (W:Int->LI) (B:Nat) (D:Za):Zg:=(((Qx W B).withL 57 0 (dlT W D)).withL 57 2 (dlS W D)).withL 57 4 (dlQ W D)
theorem ZhG (D:Za):((Qx Zp 80000000000000).withL 57 0 (dlT Zp D)).Ok:=
 Zg.withGoM (N:=40) (k:=3) (n:=D.T.length) (l:=9) (S:=fun i=>drS 4 D i (XR Zp D.T.length D.T i) (XR Zp D.T.length D.T i).length) Z3M (by kernel_rfl) fun hC=>⟨rfl,fun i hi _=>ZlM Zp _ D i _ _ _ _ _ _ hC.l.t hi rfl (by
  have:=VP Xw D.T.length D.T i
  have:=hC.l.t
  omega) rfl Xw (fun h=>by
   rw [getD_at h]
   exact hC.t _ (Jx h)) (fun h=>Z4X h) rfl (fun h=>⟨h,h⟩) fun h=>h⟩
theorem ZhH (D:Za):((Qx Zp 80000000000000).withL 57 2 (dlS Zp D)).Ok:=
 Zg.withGoM (N:=40) (k:=3) (n:=D.S.length) (l:=9) (S:=fun i=>drS 6 D i (drA Zp D i) (drA Zp D i).length) Z3M (by kernel_rfl) fun hC=>⟨rfl,fun i hi _=>ZlN Zp _ D i _ _ _ _ _ _ hC.l.s hi rfl (by
  have:=Z9Q Xw hC.l i
  omega) rfl Xw (fun h=>ZdP h) rfl (fun h=>⟨h,h⟩) fun h=>h⟩
theorem ZhI (D:Za):((Qx Zp 80000000000000).withL 57 4 (dlQ Zp D)).Ok:=
 Zg.withGoM (N:=40) (k:=3) (n:=D.Q.length) (l:=9) (S:=fun i=>drS 7 D i (X0 Zp D D i) (X0 Zp D D i).length) Z3M (by kernel_rfl) fun hC=>⟨rfl,fun i hi _=>ZlO Zp _ D i _ _ _ _ _ _ hC.l.q hi rfl (by
  have:=Z0N Xw (X:=D) hC.l i
  have:=hC.l.q
  omega) rfl Xw (fun h=>by
   rw [XU h]
   exact hC.q _ (Jx h)) (fun h=>Z4Z h) rfl (fun h=>⟨h,h⟩) fun h=>h⟩
theorem ZfJ (D:Za):(Zjv Zp 80000000000000 D).Ok:=
 Zg.withL_join (H:=Qx Zp 80000000000000) (Zg.withL_join (H:=Qx Zp 80000000000000) (ZhG D) (Xm _ _ _ _) (ZhH D)) ((Xm _ _ _ _).trans (Xm _ _ _ _)) (ZhI D)
theorem ZlP (W:Int->LI) (B:Nat) (D:Za) (ys:LI) (N:Nat) (hO:Z7a D) (hB:B=80000000000000) (hW:∀n,(W n).length<=10) (hy:ys=X0 W D D D.Q.length) (hN:N=ys.length):
  evF (Zjv W B D) 40 57 [.agg (dcC D)] ⟨3,dcB D⟩ (Y4 3 (.ret (slB 3 N)) 4 ((3,.ints .u8 ys)::dcB D)):=by
 refine @Eq.mpr _ (let n:=D.T;let a:=n.length;let I:=W ↑a;let H:=I.length;let G:=XR W a n 0;let F:=G.length;let d:=decide (a=a);let o:=decide (a<=a);let b:=D.S.length;let f:=decide (b=b);let v:=decide (b<=b);let c:=D.Q.length;let e:=decide (c=c);let u:=decide (c<=c);let t:=[(3,3),(4,4)];let k:=tiR n;let h:=seR D.S;let g:=quR D.Q;let s:=Z7a D;let U:=↑b;let R:=List.length (drA W D 0);let r:=[(3,3),(4,5)];let P:=Z5 3 r a k k;let O:=Z5 3 r b h h;let M:=Z5 3 r c g g;let L:=↑c;let K:=X0 W D D 0;let J:=K.length;let q:=[(3,4)];let p:=(False->False)/\(False->False);
 Z4 (H=F) (Z4 (F<=H) (I=G/\
 Z0 d (Z0 o (Z0 f (Z0 v (Z0 e (Z0 u (Z0 d (Z5 3 t a k k/\
 Z0 f (Z5 3 t b h h/\
 Z0 e (Z5 3 t c g g/\
 s/\
 ∀(i:Nat),
 let E:=XR W a n i;let m:=E.length;let C:=E++W U;let A:=C.length;
 i<=a->
 (∀(j:Nat),j<i->(fun (i:Nat)=>i<a) j)->
 (i=a->
 Z4 (m=m/\m=m/\m<B/\0<=U) (Z4 (A=R) (Z4 (R<=A) (C=drA W D 0/\
 Z0 d (Z0 o (Z0 f (Z0 v (Z0 e (Z0 u (Z0 d (P/\
 Z0 f (O/\
 Z0 e (M/\
 s/\
 ∀(i:Nat),
 let l:=List.length (drA W D i);let z:=drA W D i++W L;let y:=z.length;
 i<=b->
 (∀(j:Nat),j<i->(fun (i:Nat)=>i<b) j)->
 (i=b->
 Z4 (l=l/\l=l/\l<B/\0<=L) (Z4 (y=J) (Z4 (J<=y) (z=K/\
 Z0 d (Z0 o (Z0 f (Z0 v (Z0 e (Z0 u (Z0 d (P/\
 Z0 f (O/\
 Z0 e (M/\
 s/\
 ∀(i:Nat),
 let x:=X0 W D D i;let w:=x.length;
 i<=c->(∀(j:Nat),j<i->(fun (i:Nat)=>i<c) j)->(i=c->Z4 (w=N) (Z4 (N<=w) (x=ys/\Z0 d (Z5 3 q a k k/\Z0 f (Z5 3 q b h h/\Z0 e (Z5 3 q c g g/\True))))))/\p)))))))))))))/\
 p)))))))))))))/\
 p)))))))))))) (by kernel_rfl) ?_
 conv=>zeta
 try simp only [vcA]
 try simp only [vcB]
 try simp only [vcC]
 have hq:∀k τ,Z5 k τ D.T.length (tiR D.T) (tiR D.T)/\Z5 k τ D.S.length (seR D.S) (seR D.S)/\Z5 k τ D.Q.length (quR D.Q) (quR D.Q):=Vg D
 have e0:W D.T.length=XR W D.T.length D.T 0:=by simp [XR]
 have e1:XR W D.T.length D.T D.T.length++W D.S.length=drA W D 0:=by simp [drA,XQ]
 have e2:drA W D D.S.length++W D.Q.length=X0 W D D 0:=by simp [drA,X0,tsB]
 have b1:=VP hW D.T.length D.T D.T.length
 have b2:=Z9Q hW hO.l D.S.length
 have:=hO.l.t
 refine ⟨by rw [e0],by rw [e0];exact J1 _,e0,(hq _ _).1,(hq _ _).2.1,(hq _ _).2.2,hO,fun i hi _=>⟨fun e=> ?_,fun h=>h,fun h=>h⟩⟩
 subst e
 rw [e1]
 refine ⟨⟨by omega,by omega⟩,rfl,J1 _,rfl,(hq _ _).1,(hq _ _).2.1,(hq _ _).2.2,hO,fun i hi _=>⟨fun e=> ?_,fun h=>h,fun h=>h⟩⟩
 subst e
 rw [e2]
 refine ⟨⟨by omega,by omega⟩,rfl,J1 _,rfl,(hq _ _).1,(hq _ _).2.1,(hq _ _).2.2,hO,fun i hi _=>⟨fun e=> ?_,fun h=>h,fun h=>h⟩⟩
 subst e
 rw [<-hy]
 exact ⟨hN.symm,Jp hN,rfl,(hq _ _).1,(hq _ _).2.1,(hq _ _).2.2⟩
def ZdQ:ZJ:=fun args h K=>match args with
 | [.agg [.nslice ⟨a,0,66,0,0⟩ 66 _ _,.nslice ⟨b,0,32,0,0⟩ 32 _ _,.nslice ⟨c,0,98,0,0⟩ 98 _ _]]=>frA [a,b,c] h 60 args fun Bs az=>match Bs,az with
  | [.rows 66 n1 f1,.rows 32 n2 f2,.rows 98 n3 f3],[.agg [.nslice ⟨0,0,66,0,0⟩ 66 m1 m2,.nslice ⟨1,0,32,0,0⟩ 32 m3 m4,.nslice ⟨2,0,98,0,0⟩ 98 m5 m6]]=>∃D,V4 D n1 f1 n2 f2 n3 f3/\Z0J D m1 m2 m3 m4 m5 m6/\Z7a D/\K (.ret (slB h.next (X0 Zp D D D.Q.length).length)) ⟨h.next+1,(h.next,.ints .u8 (X0 Zp D D D.Q.length))::(a,.rows 66 D.T.length (tiR D.T))::(b,.rows 32 D.S.length (seR D.S))::(c,.rows 98 D.Q.length (quR D.Q))::ZK (ZK (ZK h.bs a) b) c⟩
  | _,_=>False
 | _=>False
theorem ZdR (args:List AV) (h:Z6) (K:KO) (hl:ZdQ args h K):Zh PP 57 args h K:=by
 unfold ZdQ at hl
 split at hl
 ·refine Spec.fsumm hl fun Bs az hlen hK0=> ?_
  split at hK0
  ·obtain ⟨D,⟨⟨rfl,rfl⟩,⟨rfl,rfl⟩,⟨rfl,rfl⟩,hD⟩,⟨rfl,rfl,rfl,rfl,rfl,rfl⟩,hO,hK⟩:=hK0
   exact ⟨_,_,_,_,_,.evM (ZfJ D) (ZlP Zp _ D _ _ hO rfl Xw rfl rfl),by simp,.ret _ _ rfl,.cons _ _ _ _ _ _ rfl (.ints _ _) (.cons _ _ _ _ _ _ rfl (.rows _ _ _ (fun i _=>Yb.p _)) (.cons _ _ _ _ _ _ rfl (.rows _ _ _ (fun i _=>Yh.p _)) (.cons _ _ _ _ _ _ rfl (.rows _ _ _ (fun i _=>Yc.p _)) .nil))),hK⟩
  ·exact hK0.elim
 ·exact hl.elim
def sfV (w i:Int):LI:=[u8.wrap i,u8.wrap w,0,0,0,0,0,0,0,0,0,0,0,0,0,0,0,0,0,0,0,0,0,0,0,0,0,0,0,0,0,0]
def hd2 (l:LI):Nat:=match l with
 | a::b::_=>a.toNat*256+b.toNat
 | _=>0
def hdT (i n:Nat):Bool:=Nat.beq (hd2 (Zf (sfV 1 (i:Int)))) n
def hdL:List Nat:=[13861,24344,50890,58630,55583,62711,57163,32590,62985,46063,52833,22040,14292,2504,228,19297,15321,53464,12204,8716,55804,44926,15495,18850,14774,51058,53734,36962,29136,11134,59192,52163,27730,37074,24807,53174,2960,42750,14560,39866,47143,20486,60165,6635,41821,59436,40637,19613,53348,4790,52018,43370,58520,41254,45565,58113,55254,28452,18422,43992,35199,37049,61184,30342,18029,63649,13953,47101,13800,40320]
theorem ZlQ:hdT 0 13861=true:=by kernel_rfl
theorem ZlR:hdT 1 24344=true:=by kernel_rfl
theorem ZlS:hdT 2 50890=true:=by kernel_rfl
theorem ZlT:hdT 3 58630=true:=by kernel_rfl
theorem ZlU:hdT 4 55583=true:=by kernel_rfl
theorem ZlV:hdT 5 62711=true:=by kernel_rfl
theorem ZlW:hdT 6 57163=true:=by kernel_rfl
theorem ZlX:hdT 7 32590=true:=by kernel_rfl
theorem ZlY:hdT 8 62985=true:=by kernel_rfl
theorem ZlZ:hdT 9 46063=true:=by kernel_rfl
theorem Zjw:hdT 10 52833=true:=by kernel_rfl
theorem Zjx:hdT 11 22040=true:=by kernel_rfl
theorem Zjy:hdT 12 14292=true:=by kernel_rfl
theorem Zjz:hdT 13 2504=true:=by kernel_rfl
theorem ZjA:hdT 14 228=true:=by kernel_rfl
theorem ZjB:hdT 15 19297=true:=by kernel_rfl
theorem ZjC:hdT 16 15321=true:=by kernel_rfl
theorem ZjD:hdT 17 53464=true:=by kernel_rfl
theorem ZjE:hdT 18 12204=true:=by kernel_rfl
theorem ZjF:hdT 19 8716=true:=by kernel_rfl
theorem ZjG:hdT 20 55804=true:=by kernel_rfl
theorem ZjH:hdT 21 44926=true:=by kernel_rfl
theorem ZjI:hdT 22 15495=true:=by kernel_rfl
theorem ZjJ:hdT 23 18850=true:=by kernel_rfl
theorem ZjK:hdT 24 14774=true:=by kernel_rfl
theorem ZjL:hdT 25 51058=true:=by kernel_rfl
theorem ZjM:hdT 26 53734=true:=by kernel_rfl
theorem ZjN:hdT 27 36962=true:=by kernel_rfl
theorem ZjO:hdT 28 29136=true:=by kernel_rfl
theorem ZjP:hdT 29 11134=true:=by kernel_rfl
theorem ZjQ:hdT 30 59192=true:=by kernel_rfl
theorem ZjR:hdT 31 52163=true:=by kernel_rfl
theorem ZjS:hdT 32 27730=true:=by kernel_rfl
theorem ZjT:hdT 33 37074=true:=by kernel_rfl
theorem ZjU:hdT 34 24807=true:=by kernel_rfl
theorem ZjV:hdT 35 53174=true:=by kernel_rfl
theorem ZjW:hdT 36 2960=true:=by kernel_rfl
theorem ZjX:hdT 37 42750=true:=by kernel_rfl
theorem ZjY:hdT 38 14560=true:=by kernel_rfl
theorem ZjZ:hdT 39 39866=true:=by kernel_rfl
theorem Zk0:hdT 40 47143=true:=by kernel_rfl
theorem Zk1:hdT 41 20486=true:=by kernel_rfl
theorem Zk2:hdT 42 60165=true:=by kernel_rfl
theorem Zk3:hdT 43 6635=true:=by kernel_rfl
theorem Zk4:hdT 44 41821=true:=by kernel_rfl
theorem Zk5:hdT 45 59436=true:=by kernel_rfl
theorem Zk6:hdT 46 40637=true:=by kernel_rfl
theorem Zk7:hdT 47 19613=true:=by kernel_rfl
theorem Zk8:hdT 48 53348=true:=by kernel_rfl
theorem Zk9:hdT 49 4790=true:=by kernel_rfl
theorem Zka:hdT 50 52018=true:=by kernel_rfl
theorem Zkb:hdT 51 43370=true:=by kernel_rfl
theorem Zkc:hdT 52 58520=true:=by kernel_rfl
theorem Zkd:hdT 53 41254=true:=by kernel_rfl
theorem Zke:hdT 54 45565=true:=by kernel_rfl
theorem Zkf:hdT 55 58113=true:=by kernel_rfl
theorem Zkg:hdT 56 55254=true:=by kernel_rfl
theorem Zkh:hdT 57 28452=true:=by kernel_rfl
theorem Zki:hdT 58 18422=true:=by kernel_rfl
theorem Zkj:hdT 59 43992=true:=by kernel_rfl
theorem Zkk:hdT 60 35199=true:=by kernel_rfl
theorem Zkl:hdT 61 37049=true:=by kernel_rfl
theorem Zkm:hdT 62 61184=true:=by kernel_rfl
theorem Zkn:hdT 63 30342=true:=by kernel_rfl
theorem Zko:hdT 64 18029=true:=by kernel_rfl
theorem Zkp:hdT 65 63649=true:=by kernel_rfl
theorem Zkq:hdT 66 13953=true:=by kernel_rfl
theorem Zkr:hdT 67 47101=true:=by kernel_rfl
theorem Zks:hdT 68 13800=true:=by kernel_rfl
theorem Zkt:hdT 69 40320=true:=by kernel_rfl
theorem ZdS:∀i,i<70->hdT i (hdL.getD i 0)=true
 | 0,_=>ZlQ
 | 1,_=>ZlR
 | 2,_=>ZlS
 | 3,_=>ZlT
 | 4,_=>ZlU
 | 5,_=>ZlV
 | 6,_=>ZlW
 | 7,_=>ZlX
 | 8,_=>ZlY
 | 9,_=>ZlZ
 | 10,_=>Zjw
 | 11,_=>Zjx
 | 12,_=>Zjy
 | 13,_=>Zjz
 | 14,_=>ZjA
 | 15,_=>ZjB
 | 16,_=>ZjC
 | 17,_=>ZjD
 | 18,_=>ZjE
 | 19,_=>ZjF
 | 20,_=>ZjG
 | 21,_=>ZjH
 | 22,_=>ZjI
 | 23,_=>ZjJ
 | 24,_=>ZjK
 | 25,_=>ZjL
 | 26,_=>ZjM
 | 27,_=>ZjN
 | 28,_=>ZjO
 | 29,_=>ZjP
 | 30,_=>ZjQ
 | 31,_=>ZjR
 | 32,_=>ZjS
 | 33,_=>ZjT
 | 34,_=>ZjU
 | 35,_=>ZjV
 | 36,_=>ZjW
 | 37,_=>ZjX
 | 38,_=>ZjY
 | 39,_=>ZjZ
 | 40,_=>Zk0
 | 41,_=>Zk1
 | 42,_=>Zk2
 | 43,_=>Zk3
 | 44,_=>Zk4
 | 45,_=>Zk5
 | 46,_=>Zk6
 | 47,_=>Zk7
 | 48,_=>Zk8
 | 49,_=>Zk9
 | 50,_=>Zka
 | 51,_=>Zkb
 | 52,_=>Zkc
 | 53,_=>Zkd
 | 54,_=>Zke
 | 55,_=>Zkf
 | 56,_=>Zkg
 | 57,_=>Zkh
 | 58,_=>Zki
 | 59,_=>Zkj
 | 60,_=>Zkk
 | 61,_=>Zkl
 | 62,_=>Zkm
 | 63,_=>Zkn
 | 64,_=>Zko
 | 65,_=>Zkp
 | 66,_=>Zkq
 | 67,_=>Zkr
 | 68,_=>Zks
 | 69,_=>Zkt
 | n+70,h=>absurd h (by omega)
theorem ZdT:((List.range 70).all fun i=>(List.range 70).all fun j=>Nat.beq i j|| !Nat.beq (hdL.getD i 0) (hdL.getD j 0))=true:=by kernel_rfl
theorem ZdU {i:Nat} (hi:i<70) (hj:j<70) (h:i≠j):Zf (sfV 1 i)≠Zf (sfV 1 j):=fun e=>by
 have h1:=ZdS i hi
 have h2:=ZdS j hj
 have h3:=List.all_eq_true.1 (List.all_eq_true.1 ZdT i (JU.2 hi)) j (JU.2 hj)
 unfold hdT at h1 h2
 rw [e] at h1
 have h1:=J0 h1
 have h2:=J0 h2
 rw [JJ] at h3
 rcases h3 with h3|h3
 ·exact h (J0 h3)
 ·rw [<-h1,<-h2] at h3
  simp at h3
theorem Zku (w i:Int):∀x∈sfV w i,0<=x/\x<=255:=fun x hx=>by
 rcases J7.1 hx with rfl|hx
 ·exact Zh0 _
 rcases J7.1 hx with rfl|hx
 ·exact Zh0 _
 have:x=0:=by simpa using hx
 omega
def sF (w i:Int):H32:=⟨sfV w i,rfl,Zku w i⟩
def ZhJ:YB:=⟨0,Zr,h0,ZB,false,⟨false,0,0,h0,0,0,0,h0⟩,⟨h0,h0,0,0⟩,0⟩
def fa0 (w i:Int):YB:={ ZhJ with what:=0,tie:=⟨sF w i,0,sF w i,0⟩}
def fa1 (w i:Int):YB:={ ZhJ with what:=2,secret:=sF w i}
def fa2 (w i:Int):YB:={ ZhJ with what:=3,secret:=sF w i,own:=true,i:=⟨h0,h0,1,1,h0⟩}
structure Ful (X D:Za):Prop where
 inv:X.Inv Zf
 lim:ZO D
 t:TR X.T D.T
 s:SR ltS X.S D.S
 q:SR ltQ X.Q D.Q
theorem Ful.nil:Ful ⟨[],[],[]⟩ ⟨[],[],[]⟩:=⟨.nil,⟨JI _,JI _,JI _⟩,.nil,⟨.refl _,.nil,nofun⟩,⟨.refl _,.nil,nofun⟩⟩
theorem Ful.raw (h:Ful X D):Z3L X D:=⟨h.t,⟨h.s,h.inv.lim.s⟩,⟨h.q,h.inv.lim.q⟩,fun x hx=>h.inv.tok x (h.t.perm.mem_iff.1 hx),fun x hx=>h.inv.qok x (h.q.perm.mem_iff.1 hx)⟩
theorem Ful.eqS (h:Ful X D):D=Yd X:=by
 have e1:D.T=srt ltT X.T:=h.inv.tr.sorted h.t.perm h.t.ord
 have e2:D.S=srt ltS X.S:=(srS X.S).sorted h.s.perm h.s.ord
 have e3:D.Q=srt ltQ X.Q:=h.inv.sq.sorted h.q.perm h.q.ord
 show D=⟨srt ltT X.T,srt ltS X.S,srt ltQ X.Q⟩
 rw [<-e1,<-e2,<-e3]
theorem ZdV {Q:List Zq} {h:LI}:atQ Q h<Q.length↔∃y∈Q,y.hash.v=h:=by
 unfold atQ
 rcases Yt (fun j=>h==(Q.getD j ZB).hash.v) Q.length with ⟨h1,h2⟩|⟨h1,h2,h3⟩
 ·rw [h1]
  refine ⟨fun h=>absurd h (Nat.lt_irrefl _),fun ⟨y,hy,e⟩=> ?_⟩
  obtain ⟨j,hj,rfl⟩:=Ju hy
  have:=h2 j hj
  rw [XU hj,e] at this
  simp at this
 ·refine ⟨fun _=>⟨_,Jx h1, ?_⟩,fun _=>h1⟩
  rw [XU h1,beq_iff_eq] at h2
  exact h2.symm
theorem ZfK {q:Zq}:Xa ZR q=Xa Zf q:=by
 unfold Xa
 rw [Z9v q.secret.u8 (by rw [q.secret.l];decide)]
theorem Zb6 {Q D:List Zq} (h:D.Perm Q) (q:Zq):YS ZR D q=YS Zf Q q:=by
 unfold YS
 rw [ZfK,h.length_eq]
 have:(atQ D q.hash.v<Q.length)↔(atQ Q q.hash.v<Q.length):=by
  rw [<-h.length_eq,ZdV,h.length_eq,ZdV]
  exact ⟨fun ⟨y,hy,e⟩=>⟨y,h.mem_iff.1 hy,e⟩,fun ⟨y,hy,e⟩=>⟨y,h.mem_iff.2 hy,e⟩⟩
 by_cases hc:atQ D q.hash.v<Q.length
 ·rw [if_pos hc,if_pos (this.1 hc)]
 ·rw [if_neg hc,if_neg fun h=>hc (this.2 h)]
theorem Ful.tie (h:Ful X D) (x:Zl):YQ X.T x=YQ D.T x/\Ful ⟨W6 X.T x,X.S,X.Q⟩ ⟨Qi D.T x,D.S,D.Q⟩:=
 ⟨(Z4N h.t.perm x).symm,h.inv.tie x,⟨Zdi h.lim.t,h.lim.s,h.lim.q⟩,h.t.tie x,h.s,h.q⟩
theorem Ful.ask (h:Ful X D) (q:Zq):YS Zf X.Q q=YS ZR D.Q q/\Ful ⟨X.T,X.S,Wh Zf X.Q q⟩ ⟨D.T,D.S,Ud ZR D.Q q⟩:=by
 have he:=Zb6 h.q.perm q
 have hi:=h.inv.ask q
 refine ⟨he.symm,hi,⟨h.lim.t,h.lim.s,ZcG h.lim.q⟩,h.t,h.s, ?_⟩
 show SR ltQ (Wh Zf X.Q q) (Ud ZR D.Q q)
 refine ⟨?_, ?_,hi.sq.tot⟩
 ·unfold Wh Ud
  rw [he]
  split
  ·exact VD.trans ((List.Perm.cons q h.q.perm).trans (List.perm_append_singleton q X.Q).symm)
  ·exact h.q.perm
 ·unfold Ud
  split
  ·exact UK Z8z h.q.ord
  ·exact h.q.ord
theorem Ful.lrn (h:Ful X D) {s:H32} (hn:∀y∈X.S,Zf y.v≠Zf s.v):Qj Zf X.S s=Z3V D.S s/\Ful ⟨X.T,Xz Zf X.S s,X.Q⟩ ⟨D.T,U0 D.S s,D.Q⟩:=by
 have ha:XO Zf X.S (Zf s.v)=X.S.length:=by
  unfold XO
  refine W0 fun j hj=> ?_
  rw [Qc hj,beq_eq_false_iff_ne]
  exact fun e=>hn _ (Jx hj) e.symm
 have hd:(D.S.any fun y=>decide (ZQ s.v y.v=0))=false:=by
  refine Ke.2 fun y hy hc=> ?_
  have:s=y:=H32.cmp (of_decide_eq_true hc)
  exact hn y (h.s.perm.mem_iff.1 hy) (by rw [this])
 have hl:=h.s.perm.length_eq
 have hi:=h.inv.lrn s
 have e1:Xz Zf X.S s=if 64<=X.S.length then X.S else X.S++[s]:=by
  unfold Xz
  rw [ha,if_neg (Nat.lt_irrefl _)]
 have e2:U0 D.S s=if 64<=X.S.length then D.S else Xy ltS s D.S:=by
  unfold U0
  rw [hd,if_neg (by decide),hl]
 refine ⟨?_,hi,⟨h.lim.t,ZcD h.lim.s,h.lim.q⟩,h.t, ?_,h.q⟩
 ·unfold Qj Z3V
  rw [ha,if_neg (Nat.lt_irrefl _),hd,if_neg (show ¬false=true by decide),hl]
 ·show SR ltS (Xz Zf X.S s) (U0 D.S s)
  refine ⟨?_, ?_,fun _ _ _ _ h1 h2=>Z5S h1 h2⟩
  ·rw [e1,e2]
   split
   ·exact h.s.perm
   ·exact VD.trans ((List.Perm.cons s h.s.perm).trans (List.perm_append_singleton s X.S).symm)
  ·rw [e2]
   split
   ·exact h.s.ord
   ·exact UK Z8y h.s.ord
theorem hash_ne {i:Nat} (hi:i<70) (hj:j<70) (h:i≠j):Zf (sF 1 i).v≠Zf (sF 1 j).v:=ZdU hi hj h
def FX (a:Nat->YB):Nat->Za
 | 0=>⟨[],[],[]⟩
 | i+1=>acX Zf ZR hhD (a i) (FX a i)
def FD (a:Nat->YB):Nat->Za
 | 0=>⟨[],[],[]⟩
 | i+1=>acD ZR hhD (a i) (FD a i)
structure Z8I (X D:Za) (x:YB):Prop where
 t:x.what=0->YQ X.T x.tie=YQ D.T x.tie
 l:x.what=2->Qj Zf X.S x.secret=Z3V D.S x.secret
 q:x.what=3->YS Zf X.Q (VJ hhD x)=YS ZR D.Q (VJ hhD x)
theorem Zkv (h:Ful X D) {x:YB} (hx:x.what=0):Z8I X D x/\Ful (acX Zf ZR hhD x X) (acD ZR hhD x D):=by
 obtain ⟨h1,h2⟩:=h.tie x.tie
 refine ⟨⟨fun _=>h1,fun e=>by omega,fun e=>by omega⟩, ?_⟩
 unfold acX acD
 rw [if_pos hx,if_pos hx]
 exact h2
theorem Zkw (h:Ful X D) {x:YB} (hx:x.what=3):Z8I X D x/\Ful (acX Zf ZR hhD x X) (acD ZR hhD x D):=by
 obtain ⟨h1,h2⟩:=h.ask (VJ hhD x)
 refine ⟨⟨fun e=>by omega,fun e=>by omega,fun _=>h1⟩, ?_⟩
 have e1:acX Zf ZR hhD x X=⟨X.T,X.S,Wh Zf X.Q (VJ hhD x)⟩:=by
  unfold acX
  rw [if_neg (by omega),if_neg (by omega),if_neg (by omega),if_pos hx]
 have e2:acD ZR hhD x D=⟨D.T,D.S,Ud ZR D.Q (VJ hhD x)⟩:=by
  unfold acD
  rw [if_neg (by omega),if_neg (by omega),if_neg (by omega),if_pos hx]
 rw [e1,e2]
 exact h2
theorem Zkx (h:Ful X D) {x:YB} (hx:x.what=2) (hn:∀y∈X.S,Zf y.v≠Zf x.secret.v):Z8I X D x/\Ful (acX Zf ZR hhD x X) (acD ZR hhD x D):=by
 obtain ⟨h1,h2⟩:=h.lrn hn
 refine ⟨⟨fun e=>by omega,fun _=>h1,fun e=>by omega⟩, ?_⟩
 have e1:acX Zf ZR hhD x X=⟨X.T,Xz Zf X.S x.secret,X.Q⟩:=by
  unfold acX
  rw [if_neg (by omega),if_neg (by omega),if_pos hx]
 have e2:acD ZR hhD x D=⟨D.T,U0 D.S x.secret,D.Q⟩:=by
  unfold acD
  rw [if_neg (by omega),if_neg (by omega),if_pos hx]
 rw [e1,e2]
 exact h2
def fA (w:Int) (i:Nat):YB:=if w=1 then fa1 w i else if w=2 then fa2 w i else fa0 w i
theorem Zgv:∀i,∀y∈(FX (fA 1) i).S,∃j,j<i/\y=sF 1 j
 | 0,y,h=>by cases h
 | i+1,y,h=>by
  have e:(FX (fA 1) (i+1)).S=Xz Zf (FX (fA 1) i).S (sF 1 i):=rfl
  rw [e] at h
  unfold Xz at h
  have old:y∈(FX (fA 1) i).S->∃j,j<i+1/\y=sF 1 j:=fun h=>by
   obtain ⟨j,hj,e⟩:=Zgv i y h
   exact ⟨j,by omega,e⟩
  split at h
  ·rcases List.mem_or_eq_of_mem_set h with h|h
   ·exact old h
   ·exact ⟨i,by omega,h⟩
  ·split at h
   ·exact old h
   ·rcases JV.1 h with h|h
    ·exact old h
    ·exact ⟨i,by omega,JL.1 h⟩
theorem Z7b {w:Int} {i:Nat} (hi:i<70) (h:Ful (FX (fA w) i) (FD (fA w) i)):Z8I (FX (fA w) i) (FD (fA w) i) (fA w i)/\Ful (FX (fA w) (i+1)) (FD (fA w) (i+1)):=by
 show _/\Ful (acX Zf ZR hhD (fA w i) (FX (fA w) i)) (acD ZR hhD (fA w i) (FD (fA w) i))
 by_cases h1:w=1
 ·subst h1
  refine Zkx h rfl fun y hy=> ?_
  obtain ⟨j,hj,rfl⟩:=Zgv i y hy
  exact hash_ne (by omega) hi (by omega)
 ·by_cases h2:w=2
  ·subst h2
   exact Zkw h rfl
  ·exact Zkv h (by unfold fA;rw [if_neg h1,if_neg h2];rfl)
theorem Z5W (w:Int):∀i,i<=70->Ful (FX (fA w) i) (FD (fA w) i)
 | 0,_=>.nil
 | i+1,h=>(Z7b (by omega) (Z5W w i (by omega))).2
noncomputable def Zky (X D:Za):Zg:=(((G0.withF 59 (riS X.T D.T)).withF 92 (Zfs X.S D.S)).withF 10 Zb2).withF 57 ZdQ
theorem ZfL (X D:Za):(Zky X D).Ok:=Zg.withF_ok (Zg.withF_ok (Zg.withF_ok (Zg.withF_ok Zv (Zdh X.T D.T)) (Z9G X.S D.S)) Z2j) ZdR
noncomputable def Z0O:Code:=rfA PP 11 0
noncomputable def Z0P:Code:=rfB PP 11 0
def yxT:ZM:=[(5,pt 10),(4,pt 9),(3,pt 8),(0,pt 0)]
def yxM (X D:Za) (n:Int):List (Nat×Blk):=(10,.flat [.int .i64 n])::(9,.flat [.bool false])::(8,.flat (acC D))::acB Zf X D
noncomputable def yxB (X D:Za) (j:Nat):List (Nat×Blk):=(16,.loop ⟨.ready,none,11,69,yxT,[14],Z0O,Z0P,15⟩)::(15,.defd)::(13,.rows 66 D.T.length (tiR D.T))::yxM X D j
noncomputable def yxS (X D:Za) (j:Nat):St:=⟨16,[(7,.int .i64 j),(6,.int .i64 D.T.length),(5,.nslice ⟨13,0,66,0,0⟩ 66 D.T.length D.T.length),(0,.yield 16)],⟨17,yxB X D j⟩,[]⟩
noncomputable def yxE (X D:Za) (j:Nat):St:=⟨16,[(0,.yield 16)],⟨17,yxB X D j⟩,[]⟩
theorem Zm0 (X D:Za) (j:Nat) (Z1 Z2:Prop) (hL:D.T.length<=48) (hj:j<=D.T.length) (hg:j<D.T.length->Z1) (hx:j=D.T.length->Z2):
  ZA G0 40 63 0 17 (yxS X D j) (rdM 17 0 9 (yxS X D (j+1)) (yxE X D j) dtN dtN Z1 Z2 False False):=by
 refine @Eq.mpr _ (let x:=D.T;let a:=x.length;let c:=(↑a:Int);let I:=decide (0<=(↑j:Int)/\(↑j:Int)<c);let q:=0+Int.toNat (↑j:Int);let z:=(11:FuncId)=11/\(69:Nat)=69/\[(14:Nat)]=[(14:Nat)]/\Z0O=Z0O/\Z0P=Z0P;let b:=decide (a=a);let y:=tiR x;let f:=Z5 17 [] a y y;let w:=decide (a<=a);let e:=D.S.length;let p:=decide (e=e);let a3:=decide (e<=e);let d:=D.Q.length;let o:=decide (d=d);let a2:=decide (d<=d);let n:=X.T;let m:=n.length;let l:=decide (m=m);let a1:=tkO n;let k:=tiV n;let a0:=Z7 17 [] m a1 k a1 k;let Z:=tkI n;let Y:=Z7 17 [] m Z k Z k;let u:=X.S;let t:=u.length;let W:=decide (t=t);let V:=skV Zf u;let U:=seV u;let R:=Z7 17 [] t V U V U;let s:=X.Q;let r:=s.length;let P:=decide (r=r);let O:=qkV s;let N:=quV s;let M:=Z7 17 [] r O N O N;let L:=seR D.S;let K:=Z5 17 [] e L L;let J:=quR D.Q;let H:=Z5 17 [] d J J;let G:=Z0 b (f/\Z4 ((↑j:Int)=(↑j:Int)) (Z0 b (Z0 w (Z0 p (Z0 a3 (Z0 o (Z0 a2 (Z0 l (a0/\Z0 l (Y/\Z0 W (R/\Z0 P (M/\Z0 b (f/\Z0 p (K/\Z0 o (H/\Z2)))))))))))))));let F:=(LoopState.done=LoopState.ready/\some Code.ret=none/\z)/\G;let i:=List.getD x q Zr;let h:=i.inn.v;let g:=i.out.v;let E:=i.inID;let C:=i.outID;let B:=decide (wrap i64 ((↑j:Int)+1)=(↑(j+1):Int));let A:=LoopState.ready=LoopState.ready/\(none:Option Code)=none/\z;
 Z8 (decide ((↑j:Int)<c)) (Z0 I (Z4 (q<a) (Z8 (decide ((↑j:Int)>=c)) F (Z0 I (Z4 (q<a) (Z4 (h.length=32/\h.length=32) (Z4 (g.length=32/\g.length=32) (Z8 (!(h==h&&(E==E&&(g==g&&C==C)))) F (Z0 B (Z4 (c=c) (Z0 b (Z0 w (A/\Z0 b (f/\Z0 B (Z0 b (Z0 w (Z0 p (Z0 a3 (Z0 o (Z0 a2 (Z0 l (a0/\Z0 l (Y/\Z0 W (R/\Z0 P (M/\Z0 b (f/\Z0 p (K/\Z0 o (H/\Z1)))))))))))))))))))))))))))) (A/\G)) (by kernel_rfl) ?_
 conv=>zeta
 try simp only [vcA]
 try simp only [vcB]
 try simp only [vcC]
 obtain ⟨⟨m1,m2,m3,m4⟩,d1,d2,d3⟩:=JG (Xb Zf X 17 []) (Vg D 17 [])
 refine ⟨fun hlt=> ?_,fun hge=> ?_⟩
 ·have hlt':j<D.T.length:=by omega
  have hw:i64.wrap ((j:Int)+1)=((j+1:Nat):Int):=by rw [w64 (by omega)];omega
  have l1:=(D.T.getD j Zr).inn.l
  have l2:=(D.T.getD j Zr).out.l
  exact ⟨⟨by omega,hlt⟩,hlt',fun h=>absurd h (by omega),fun _=>⟨⟨by omega,hlt⟩,hlt',⟨l1,l1⟩,⟨l2,l2⟩,fun h=>by simp at h,fun _=>⟨hw,d1,hw,m1,m2,m3,m4,d1,d2,d3,hg hlt'⟩⟩⟩
 ·exact ⟨d1,m1,m2,m3,m4,d1,d2,d3,hx (by omega)⟩
noncomputable def yxL (X D:Za):Nat->St->KE->Prop:=goM 17 (yxS X D 0) (ZO D) (Yn 0 D.T.length 9 (fun i=>i<D.T.length) (fun i=>i=D.T.length) (fun _=>False) (fun _=>False) (fun i=>yxE X D i) (fun _=>dtN) (fun _=>dtN))
theorem ZhK (X D:Za):(G0.withL 63 0 (yxL X D)).Ok:=
 Zg.withGoM (N:=40) (k:=17) (n:=D.T.length) (l:=9) (S:=fun i=>yxS X D i) Zv (by kernel_rfl) fun hC=>⟨rfl,fun i hi _=>Zm0 X D i _ _ hC.t hi (fun h=>⟨h,h⟩) fun h=>h⟩
noncomputable def Zgw (X D:Za):Zg:=(Zky X D).withL 63 0 (yxL X D)
theorem ZdW (X D:Za):(Zgw X D).Ok:=Zg.withL_join (H:=G0) (ZfL X D) rfl (ZhK X D)
def yzM (X D:Za):List (Nat×Blk):=(15,.defd)::(9,.flat [.bool false])::(8,.flat (acC D))::acB Zf X D
def yzS (X D:Za) (i:Nat):St:=⟨69,[(8,.int .i64 i),(7,.nslice ⟨17,0,32,0,0⟩ 32 D.S.length D.S.length),(3,pt 8),(4,pt 9),(0,pt 0)],⟨18,(17,.rows 32 D.S.length (seR D.S))::yzM X D⟩,[.mark 15]⟩
def yzE (X D:Za):St:=⟨69,[(3,pt 8),(4,pt 9),(0,pt 0)],⟨18,yzM X D⟩,[.mark 15]⟩
def yzN:St:=⟨69,[],⟨0,[]⟩,[]⟩
theorem Zm1 (X D:Za) (j:Nat) (Z1 Z2:Prop) (hL:D.S.length<=64) (hj:j<=D.S.length) (hg:j<D.S.length->Z1) (hx:j=D.S.length->Z2):
  ZA G0 40 11 2 8 (yzS X D j) (rdM 8 2 9 (yzS X D (j+1)) (yzE X D) yzN yzN Z1 Z2 False False):=by
 refine @Eq.mpr _ (let F:=D.S;let a:=F.length;let H:=decide (0<=(↑j:Int)/\(↑j:Int)<(↑a:Int));let B:=0+Int.toNat (↑j:Int);let k:=(List.getD F B h0).v;let e:=decide (a=a);let A:=decide (a<=a);let c:=[(15,15),(9,9),(8,8),(17,17)];let i:=seR F;let L:=Z5 8 c a i i;let h:=D.T.length;let z:=decide (h=h);let K:=decide (h<=h);let g:=D.Q.length;let y:=decide (g=g);let J:=decide (g<=g);let x:=X.T;let f:=x.length;let w:=decide (f=f);let u:=tkO x;let b:=tiV x;let t:=tkI x;let E:=X.S;let s:=E.length;let I:=decide (s=s);let r:=skV Zf E;let q:=seV E;let C:=X.Q;let p:=C.length;let G:=decide (p=p);let o:=qkV C;let n:=quV C;let m:=tiR D.T;let l:=quR D.Q;let d:=[(15,15),(9,9),(8,8)];
 Z8 (decide ((↑j:Int)<(↑a:Int))) (Z0 H (Z4 (B<a) (Z0 H (Z4 (B<a) (Z4 (k.length=32/\k.length=32) (Z8 (!k==k) False (Z4 (wrap i64 ((↑j:Int)+1)=(↑(j+1):Int)) (Z0 e (Z0 A (Z0 e (L/\Z0 z (Z0 K (Z0 e (Z0 A (Z0 y (Z0 J (Z0 w (Z7 8 c f u b u b/\Z0 w (Z7 8 c f t b t b/\Z0 I (Z7 8 c s r q r q/\Z0 G (Z7 8 c p o n o n/\Z0 z (Z5 8 c h m m/\Z0 e (L/\Z0 y (Z5 8 c g l l/\Z1)))))))))))))))))))))))) (Z0 z (Z0 K (Z0 e (Z0 A (Z0 y (Z0 J (Z0 w (Z7 8 d f u b u b/\Z0 w (Z7 8 d f t b t b/\Z0 I (Z7 8 d s r q r q/\Z0 G (Z7 8 d p o n o n/\Z0 z (Z5 8 d h m m/\Z0 e (Z5 8 d a i i/\Z0 y (Z5 8 d g l l/\Z2))))))))))))))) (by kernel_rfl) ?_
 conv=>zeta
 try simp only [vcA]
 try simp only [vcB]
 try simp only [vcC]
 have m:=fun τ=>Xb Zf X 8 τ
 have d:=fun τ=>Vg D 8 τ
 refine ⟨fun hlt=> ?_,fun hge=>⟨(m _).1,(m _).2.1,(m _).2.2.1,(m _).2.2.2,(d _).1,(d _).2.1,(d _).2.2,hx (by omega)⟩⟩
 have hlt':j<D.S.length:=by omega
 have hw:i64.wrap ((j:Int)+1)=((j+1:Nat):Int):=by rw [w64 (by omega)];omega
 have l1:=(D.S.getD j h0).l
 exact ⟨⟨by omega,hlt⟩,hlt',⟨by omega,hlt⟩,hlt',⟨l1,l1⟩,by simp,hw,(d _).2.1,(m _).1,(m _).2.1,(m _).2.2.1,(m _).2.2.2,(d _).1,(d _).2.1,(d _).2.2,hg hlt'⟩
noncomputable def yzL (X D:Za):Nat->St->KE->Prop:=goM 8 (yzS X D 0) (ZO D) (Yn 2 D.S.length 9 (fun i=>i<D.S.length) (fun i=>i=D.S.length) (fun _=>False) (fun _=>False) (fun _=>yzE X D) (fun _=>yzN) (fun _=>yzN))
theorem ZhL (X D:Za):(G0.withL 11 2 (yzL X D)).Ok:=
 Zg.withGoM (N:=40) (k:=8) (n:=D.S.length) (l:=9) (S:=fun i=>yzS X D i) Zv (by kernel_rfl) fun hC=>⟨rfl,fun i hi _=>Zm1 X D i _ _ hC.s hi (fun h=>⟨h,h⟩) fun h=>h⟩
noncomputable def Zkz (X D:Za):Zg:=(Zgw X D).withL 11 2 (yzL X D)
theorem ZfM (X D:Za):(Zkz X D).Ok:=Zg.withL_join (H:=G0) (ZdW X D) rfl (ZhL X D)
theorem Ful.raws (h:Ful X D):X0 Zp D D D.Q.length=Ya X:=by
 have e1:D.T.length=X.T.length:=h.t.perm.length_eq
 have e2:D.S.length=X.S.length:=h.s.len
 have e3:D.Q.length=X.Q.length:=h.q.len
 have:Ya X=X0 Zp X D D.Q.length:=by unfold Ya;rw [<-h.eqS]
 rw [this]
 unfold X0 tsB
 rw [e1,e2,e3]
theorem Ful.dr (h:Ful X D):Z7a D:=⟨h.lim,fun x hx=>Z4Y (h.raw.tok x hx),fun x hx=>Z50 (h.raw.qok x hx)⟩
theorem ZkA (X D:Za) (hF:Ful X D):
  evF (Zkz X D) 40 11 [pt 0,.agg (acC D)] ⟨8,acB Zf X D⟩ (Y4 8 (.ret (.bool true)) 8 (acB Zf X D)):=by
 refine @Eq.mpr _ (let x:=X.T;let a:=x.length;let p:=true=true/\true=true;let g:=tkO x;let d:=tiV x;let W:=a=a/\g=g/\d=d;let H:=D.T;let V:=TR x H;let b:=H.length;let M:=(↑b:Int);let n:=decide (b=b);let L:=decide (b<=b);let w:=tiR H;let a4:=Z5 17 [] b w w;let K:=D.S;let c:=K.length;let m:=decide (c=c);let J:=decide (c<=c);let e:=D.Q.length;let v:=decide (e=e);let a3:=decide (e<=e);let A:=decide (a=a);let u:=tkI x;let z:=X.S;let f:=z.length;let a2:=decide (f=f);let l:=skV Zf z;let k:=seV z;let I:=X.Q;let h:=I.length;let a1:=decide (h=h);let t:=qkV I;let s:=quV I;let r:=seR K;let q:=quR D.Q;let a0:=(↑c:Int);let o:=[(15,15),(9,9),(8,8),(17,17)];let Z:=Z5 8 o c r r;let Y:=(False->False)/\(False->False);
 (∀(i:Nat),i<a->p)/\
 W/\
 V/\
 (∀(i:Nat),i<a->p)/\
 W/\
 V/\
 Z4 (M=M) (Z0 n (Z0 L ((LoopState.ready=LoopState.ready/\(none:Option Code)=none/\(11:FuncId)=11/\(69:Nat)=69/\[(14:Nat)]=[(14:Nat)]/\Z0O=Z0O/\Z0P=Z0P)/\
 Z0 n (a4/\
 Z0 n (Z0 L (Z0 m (Z0 J (Z0 v (Z0 a3 (Z0 A (Z7 17 [] a g d g d/\
 Z0 A (Z7 17 [] a u d u d/\
 Z0 a2 (Z7 17 [] f l k l k/\
 Z0 a1 (Z7 17 [] h t s t s/\
 Z0 n (a4/\
 Z0 m (Z5 17 [] c r r/\
 Z0 v (Z5 17 [] e q q/\
 ZO D/\
 ∀(i:Nat),
 i<=b->
 (∀(j:Nat),j<i->(fun (i:Nat)=>i<b) j)->
 (i=b->
 (∀(i:Nat),i<f->p)/\
 (f=f/\l=l/\k=k)/\
 SRb 64 ltS z K/\
 Z8 ((↑i:Int) !=M) False (Z8 (a0 !=a0) False (Z0 m (Z0 J (Z0 m (Z/\
 Z0 n (Z0 L (Z0 m (Z0 J (Z0 v (Z0 a3 (Z0 A (Z7 8 o a g d g d/\
 Z0 A (Z7 8 o a u d u d/\
 Z0 a2 (Z7 8 o f l k l k/\
 Z0 a1 (Z7 8 o h t s t s/\
 Z0 n (Z5 8 o b w w/\
 Z0 m (Z/\
 Z0 v (Z5 8 o e q q/\
 ZO D/\
 ∀(i:Nat),
 i<=c->
 (∀(j:Nat),j<i->(fun (i:Nat)=>i<c) j)->
 (i=c->
 (∀(i:Nat),i<a->p)/\
 (∀(i:Nat),i<a->p)/\
 (∀(i:Nat),i<f->p)/\
 (∀(i:Nat),i<h->p)/\
 ∃(X_1:Za),
 let G:=List.length (Ya X_1);let U:=decide (u8=u8/\0+G<=G);let F:=strOf (List.take G (Y2 0 (Ya X_1)));let y:=X_1.T;let R:=decide (y.length=a);let P:=tiV y;let E:=X_1.S;let C:=X_1.Q;
 Xc Zf X_1 [AV.map (some 1),AV.map (some 2),AV.map (some 3),AV.map (some 4)] a g d a u d f l k h t s/\
 Za.Inv Zf X_1/\
 Z0 n (Z0 n (Z0 m (Z0 m (Z0 v (Z0 v (Z0 U ((∀(i:Nat),i<b->true=true)/\
 (∀(i:Nat),i<c->true=true)/\
 (∀(i:Nat),i<e->true=true)/\
 ∃(D_1:Za),
 let O:=D_1.Q.length;let N:=X0 Zp D_1 D_1 O;let B:=N.length;
 V4 D_1 b w c r e q/\Z0J D_1 b b c c e e/\Z7a D_1/\Z0 U (F=F/\Z4 (u8=u8/\0+B<=B) (Z4 ((ByteArray.toList F==ByteArray.toList (strOf (List.take B (Y2 0 N))))=true) (Z0 R (Z7 8 [] a g d (tkO y) P/\Z0 R (Z7 8 [] a u d (tkI y) P/\Z4 (E.length=f) (Z7 8 [] f l k (skV Zf E) (seV E)/\Z4 (C.length=h) (Z7 8 [] h t s (qkV C) (quV C)/\Z4 (D_1.T.length=b) (Z5 8 [] b w (tiR D_1.T)/\Z4 (D_1.S.length=c) (Z5 8 [] c r (seR D_1.S)/\Z4 (O=e) (Z5 8 [] e q (quR D_1.Q)/\True))))))))))))))))))/\
 Y)))))))))))))))))))/\
 Y)))))))))))))))))) (by kernel_rfl) ?_
 conv=>zeta
 try simp only [vcA]
 try simp only [vcB]
 try simp only [vcC]
 have tr:∀{n:Nat} (i:Nat),i<n->True:=fun _ _=>trivial
 have m:=fun k τ=>Xb Zf X k τ
 have d:=fun k τ=>Vg D k τ
 have hl:=hF.lim
 have hR:=hF.raw
 refine ⟨tr,hF.t,tr,hF.t,(d _ _).1,(m _ _).1,(m _ _).2.1,(m _ _).2.2.1,(m _ _).2.2.2,(d _ _).1,(d _ _).2.1,(d _ _).2.2,hl,fun i hi _=>⟨fun e=> ?_,fun h=>h,fun h=>h⟩⟩
 subst e
 refine ⟨tr,hR.s,by simp,by simp,(d _ _).2.1,(m _ _).1,(m _ _).2.1,(m _ _).2.2.1,(m _ _).2.2.2,(d _ _).1,(d _ _).2.1,(d _ _).2.2,hl,fun i hi _=>⟨fun e=> ?_,fun h=>h,fun h=>h⟩⟩
 subst e
 refine ⟨tr,tr,tr,tr,X,Wl Zf hF.inv.lim,hF.inv,tr,tr,tr,D,Z1M hl,⟨rfl,rfl,rfl,rfl,rfl,rfl⟩,hF.dr, ?_⟩
 rw [hF.raws]
 exact ⟨by simp,rfl,(m _ _).1,rfl,(m _ _).2.1,rfl,(m _ _).2.2.1,rfl,(m _ _).2.2.2,rfl,(d _ _).1,rfl,(d _ _).2.1,rfl,(d _ _).2.2⟩
def ZhM:ZJ:=fun args h K=>match args with
 | [.ptr (some ⟨t,0,0,0,0⟩),.agg [.nslice ⟨wa,0,66,0,0⟩ 66 _ _,.nslice ⟨wb,0,32,0,0⟩ 32 _ _,.nslice ⟨wc,0,98,0,0⟩ 98 _ _]]=>match h.get t with
  |some (.flat [.map (some o),.map (some i),.map (some s),.map (some a)])=>frA [t,o,i,s,a,wa,wb,wc] h 60 args fun Bs az=>match Bs,az with
   | [.flat cs,.fmap n1 k1 v1,.fmap n2 k2 v2,.fmap n3 k3 v3,.fmap n4 k4 v4,.rows 66 n5 f5,.rows 32 n6 f6,.rows 98 n7 f7],[.ptr (some ⟨0,0,0,0,0⟩),.agg [.nslice ⟨5,0,66,0,0⟩ 66 m1 m2,.nslice ⟨6,0,32,0,0⟩ 32 m3 m4,.nslice ⟨7,0,98,0,0⟩ 98 m5 m6]]=>∃X D,Xc Zf X cs n1 k1 v1 n2 k2 v2 n3 k3 v3 n4 k4 v4/\V4 D n5 f5 n6 f6 n7 f7/\Z0J D m1 m2 m3 m4 m5 m6/\Ful X D/\K (.ret (.bool true)) ⟨h.next,Zgr X D t o i s a wa wb wc (ZiX h.bs t o i s a wa wb wc)⟩
   | _,_=>False
  | _=>False
 | _=>False
theorem ZfN (args:List AV) (h:Z6) (K:KO) (hl:ZhM args h K):Zh PP 11 args h K:=by
 unfold ZhM at hl
 split at hl
 ·split at hl
  ·refine Spec.fsumm hl fun Bs az hlen hK0=> ?_
   split at hK0
   ·obtain ⟨X,D,⟨rfl,⟨rfl,rfl,rfl⟩,⟨rfl,rfl,rfl⟩,⟨rfl,rfl,rfl⟩,⟨rfl,rfl,rfl⟩,hX⟩,⟨⟨rfl,rfl⟩,⟨rfl,rfl⟩,⟨rfl,rfl⟩,hD⟩,⟨rfl,rfl,rfl,rfl,rfl,rfl⟩,hF,hK⟩:=hK0
    have q:=U1 Zf X
    exact ⟨_,_,_,_,_,.evM (ZfM X D) (ZkA X D hF),by simp,.ret _ _ rfl,.cons _ _ _ _ _ _ rfl (.flat _ _ rfl) (.cons _ _ _ _ _ _ rfl (.fmap _ _ _ (fun i _=>(q i).1)) (.cons _ _ _ _ _ _ rfl (.fmap _ _ _ (fun i _=>⟨(q i).2.1,(q i).1.2⟩)) (.cons _ _ _ _ _ _ rfl (.fmap _ _ _ (fun i _=>(q i).2.2.1)) (.cons _ _ _ _ _ _ rfl (.fmap _ _ _ (fun i _=>(q i).2.2.2)) (.cons _ _ _ _ _ _ rfl (.rows _ _ _ (fun i _=>Yb.p _)) (.cons _ _ _ _ _ _ rfl (.rows _ _ _ (fun i _=>Yh.p _)) (.cons _ _ _ _ _ _ rfl (.rows _ _ _ (fun i _=>Yc.p _)) .nil))))))),hK⟩
   ·exact hK0.elim
  ·exact hl.elim
 ·exact hl.elim
def atR (D:Za):AV:=.tuple [.agg [.nslice ⟨8,0,66,0,0⟩ 66 D.T.length D.T.length,.nslice ⟨9,0,32,0,0⟩ 32 D.S.length D.S.length,.nslice ⟨10,0,98,0,0⟩ 98 D.Q.length D.Q.length],.bool true]
theorem Zm2 (H H2:LI->LI) (B:Nat) (HH:H32->H32) (X D:Za) (x:YB) (hB:B=100000) (hH:∀x,(H2 x).length=32) (hX:X.Lim) (hD:ZO D) (he:YQ X.T x.tie=YQ D.T x.tie):
  evF (Zfg H H2 B HH) 40 8 [pt 0,.agg (acC D),.agg (({ x with what:=0}:YB).c)] ⟨8,acB H X D⟩ (Y4 8 (.ret (atR ⟨Qi D.T x.tie,D.S,D.Q⟩)) 11 (acO H ⟨W6 X.T x.tie,X.S,X.Q⟩ ⟨Qi D.T x.tie,D.S,D.Q⟩)):=by
 refine @Eq.mpr _ (let V:=x.tie;let b:=YB.mk 0 V x.secret x.i x.own x.p x.q x.ht;let m:=b.tie;let q4:=AV.arr u8 32 m.inn.v;let q5:=AV.int i64 m.inID;let q6:=AV.arr u8 32 m.out.v;let q7:=AV.int i64 m.outID;let k:=b.i;let a:=b.p;let y:=b.q;let R:=D.T;let N:=R.length;let M:=D.S;let L:=M.length;let K:=D.Q;let J:=K.length;let f:=X.T;let s:=f.length;let r:=true=true/\true=true;let o:=X.S;let b0:=o.length;let n:=X.Q;let a9:=n.length;let a8:=tiV f;let I:=Za.mk (Qi R V) M K;let a7:=I.T;let G:=a7.length;let a6:=I.S;let F:=a6.length;let a5:=I.Q;let E:=a5.length;let C:=Za.mk (W6 f V) o n;let l:=C.T;let B:=l.length;let c:=[(10,7),(9,6),(8,12)];let a4:=tiV l;let A:=C.S;let a3:=A.length;let z:=C.Q;let a2:=z.length;
 ∃(x:YB),
 Z1L [AV.int i64 b.what,q4,q5,q6,q7,AV.arr u8 32 b.secret.v,AV.arr u8 32 k.hash.v,AV.arr u8 32 k.key.v,AV.int i64 k.amount,AV.int i64 k.least,AV.bool b.own,AV.bool a.own,AV.int i64 a.id,AV.int i64 a.amount,AV.arr u8 32 a.hash.v,AV.int i64 a.expiry,AV.int i64 a.stage,AV.int i64 a.fin,AV.arr u8 32 a.secret.v,AV.arr u8 32 y.key.v,AV.arr u8 32 y.next.v,AV.int i64 y.amount,AV.int i64 y.expiry,AV.int i64 b.ht] x/\
 (∀(i:Nat),i<N->true=true)/\
 (∀(i:Nat),i<L->true=true)/\
 (∀(i:Nat),i<J->true=true)/\
 ∃(D:Za),
 let j:=D.T;let a1:=N=j.length;let e:=D.S.length;let a0:=L=e;let d:=D.Q.length;let Z:=J=d;let h:=decide (e=e);let g:=decide (d=d);let Y:=decide (e=F);let W:=decide (d=E);
 V4 D N (tiR R) L (seR M) J (quR K)/\
 ∃(x:Zl),
 let b4:=[q4,q5,q6,q7];let w:=List.length (Qi j x);let u:=decide (w=w);let b3:=decide (w=G);
 (a1/\a1/\a0/\a0/\Z/\Z)/\
 Z6W b4 x/\
 (∀(i:Nat),i<s->r)/\
 (∀(i:Nat),i<s->r)/\
 (∀(i:Nat),i<b0->r)/\
 (∀(i:Nat),i<a9->r)/\
 ∃(X:Za),
 Xc H X [AV.map (some 1),AV.map (some 2),AV.map (some 3),AV.map (some 4)] s (tkO f) a8 s (tkI f) a8 b0 (skV H o) (seV o) a9 (qkV n) (quV n)/\
 ∃(x_1:Zl),
 let U:=Za.mk (W6 X.T x_1) X.S X.Q;let t:=U.T;let b2:=decide (t.length=B);let b1:=tiV t;let P:=U.S;let O:=U.Q;
 Z6W b4 x_1/\Z0 u (Z0 u (Z0 h (Z0 h (Z0 g (Z0 g (Z0 u (Z0 u (Z0 h (Z0 h (Z0 g (Z0 g (Z0 b3 (Z4 (G<=w) (Z0 Y (Z4 (F<=e) (Z0 W (Z4 (E<=d) (Z4 ((YQ X.T x_1==YQ j x)=true) (Z0 b2 (Z7 8 c B (tkO l) a4 (tkO t) b1/\Z0 b2 (Z7 8 c B (tkI l) a4 (tkI t) b1/\Z4 (P.length=a3) (Z7 8 c a3 (skV H A) (seV A) (skV H P) (seV P)/\Z4 (O.length=a2) (Z7 8 c a2 (qkV z) (quV z) (qkV O) (quV O)/\Z0 b3 (Z5 8 c G (tiR a7) (tiR (Qi j x))/\Z0 Y (Z5 8 c F (seR a6) (seR D.S)/\Z0 W (Z5 8 c E (quR a5) (quR D.Q)/\True))))))))))))))))))))))))))) (by kernel_rfl) ?_
 conv=>zeta
 try simp only [vcA]
 try simp only [vcB]
 try simp only [vcC]
 have tr:∀{n:Nat} (i:Nat),i<n->True:=fun _ _=>trivial
 refine ⟨{ x with what:=0},⟨rfl⟩,tr,tr,tr,D,Z1M hD, ?_⟩
 refine ⟨x.tie,⟨rfl,rfl,rfl,rfl,rfl,rfl⟩,⟨rfl⟩,tr,tr,tr,tr,X,Wl H hX,x.tie,⟨rfl⟩, ?_⟩
 repeat' first|apply JG|intro _
 all_goals first
  | exact he
  | (rw [he];simp)
  | rfl
  | exact J1 _
  | exact H32.l _
  | exact ZT (Z1J _) fun _ _=>⟨rfl,rfl⟩
  | exact ZT (Z4Q _) fun _ _=>⟨rfl,rfl⟩
  | exact ZT (Z0B H _) fun _ _=>⟨rfl,rfl⟩
  | exact ZT (Z1K _) fun _ _=>⟨rfl,rfl⟩
  | exact Zi Yb fun _ _=>rfl
  | exact Zi Yh fun _ _=>rfl
  | exact Zi Yc fun _ _=>rfl
theorem Zm3 (H H2:LI->LI) (B:Nat) (HH:H32->H32) (X D:Za) (x:YB) (hB:B=100000) (hH:∀x,(H2 x).length=32) (hX:X.Lim) (hD:ZO D) (he:Qj H X.S x.secret=Z3V D.S x.secret):
  evF (Zfg H H2 B HH) 40 8 [pt 0,.agg (acC D),.agg (({ x with what:=2}:YB).c)] ⟨8,acB H X D⟩ (Y4 8 (.ret (atR ⟨D.T,U0 D.S x.secret,D.Q⟩)) 11 (acO H ⟨X.T,Xz H X.S x.secret,X.Q⟩ ⟨D.T,U0 D.S x.secret,D.Q⟩)):=by
 refine @Eq.mpr _ (let W:=x.secret;let b:=YB.mk 2 x.tie W x.i x.own x.p x.q x.ht;let r:=b.tie;let B:=b.secret.v;let n:=b.i;let a:=b.p;let m:=b.q;let A:=D.T;let z:=A.length;let V:=D.S;let O:=V.length;let N:=D.Q;let M:=N.length;let f:=X.T;let w:=f.length;let u:=true=true/\true=true;let t:=X.S;let b2:=t.length;let s:=X.Q;let b1:=s.length;let b0:=tiV f;let L:=Za.mk A (U0 V W) N;let a9:=L.T;let K:=a9.length;let a8:=L.S;let J:=a8.length;let a7:=L.Q;let I:=a7.length;let G:=Za.mk f (Xz H t W) s;let o:=G.T;let F:=o.length;let c:=[(10,7),(9,12),(8,5)];let a6:=tiV o;let E:=G.S;let a5:=E.length;let C:=G.Q;let a4:=C.length;
 ∃(x:YB),
 Z1L [AV.int i64 b.what,AV.arr u8 32 r.inn.v,AV.int i64 r.inID,AV.arr u8 32 r.out.v,AV.int i64 r.outID,AV.arr u8 32 B,AV.arr u8 32 n.hash.v,AV.arr u8 32 n.key.v,AV.int i64 n.amount,AV.int i64 n.least,AV.bool b.own,AV.bool a.own,AV.int i64 a.id,AV.int i64 a.amount,AV.arr u8 32 a.hash.v,AV.int i64 a.expiry,AV.int i64 a.stage,AV.int i64 a.fin,AV.arr u8 32 a.secret.v,AV.arr u8 32 m.key.v,AV.arr u8 32 m.next.v,AV.int i64 m.amount,AV.int i64 m.expiry,AV.int i64 b.ht] x/\
 (∀(i:Nat),i<z->true=true)/\
 (∀(i:Nat),i<O->true=true)/\
 (∀(i:Nat),i<M->true=true)/\
 ∃(D:Za),
 let e:=D.T.length;let a3:=z=e;let l:=D.S;let a2:=O=l.length;let d:=D.Q.length;let a1:=M=d;let k:=decide (e=e);let j:=decide (d=d);let a0:=decide (e=K);let Z:=decide (d=I);
 V4 D z (tiR A) O (seR V) M (quR N)/\
 ∃(x:H32),
 let h:=List.length (U0 l x);let g:=decide (h=h);let Y:=decide (h=J);
 (a3/\a3/\a2/\a2/\a1/\a1)/\
 B=x.v/\
 (∀(i:Nat),i<w->u)/\
 (∀(i:Nat),i<w->u)/\
 (∀(i:Nat),i<b2->u)/\
 (∀(i:Nat),i<b1->u)/\
 ∃(X:Za),
 Xc H X [AV.map (some 1),AV.map (some 2),AV.map (some 3),AV.map (some 4)] w (tkO f) b0 w (tkI f) b0 b2 (skV H t) (seV t) b1 (qkV s) (quV s)/\
 ∃(x_1:H32),
 let U:=Za.mk X.T (Xz H X.S x_1) X.Q;let y:=U.T;let b4:=decide (y.length=F);let b3:=tiV y;let R:=U.S;let P:=U.Q;
 B=x_1.v/\Z0 k (Z0 k (Z0 g (Z0 g (Z0 j (Z0 j (Z0 k (Z0 k (Z0 g (Z0 g (Z0 j (Z0 j (Z0 a0 (Z4 (K<=e) (Z0 Y (Z4 (J<=h) (Z0 Z (Z4 (I<=d) (Z4 ((Qj H X.S x_1==Z3V l x)=true) (Z0 b4 (Z7 8 c F (tkO o) a6 (tkO y) b3/\Z0 b4 (Z7 8 c F (tkI o) a6 (tkI y) b3/\Z4 (R.length=a5) (Z7 8 c a5 (skV H E) (seV E) (skV H R) (seV R)/\Z4 (P.length=a4) (Z7 8 c a4 (qkV C) (quV C) (qkV P) (quV P)/\Z0 a0 (Z5 8 c K (tiR a9) (tiR D.T)/\Z0 Y (Z5 8 c J (seR a8) (seR (U0 l x))/\Z0 Z (Z5 8 c I (quR a7) (quR D.Q)/\True))))))))))))))))))))))))))) (by kernel_rfl) ?_
 conv=>zeta
 try simp only [vcA]
 try simp only [vcB]
 try simp only [vcC]
 have tr:∀{n:Nat} (i:Nat),i<n->True:=fun _ _=>trivial
 refine ⟨{ x with what:=2},⟨rfl⟩,tr,tr,tr,D,Z1M hD, ?_⟩
 refine ⟨x.secret,⟨rfl,rfl,rfl,rfl,rfl,rfl⟩,rfl,tr,tr,tr,tr,X,Wl H hX,x.secret,rfl, ?_⟩
 repeat' first|apply JG|intro _
 all_goals first
  | exact he
  | (rw [he];simp)
  | rfl
  | exact J1 _
  | exact H32.l _
  | exact ZT (Z1J _) fun _ _=>⟨rfl,rfl⟩
  | exact ZT (Z4Q _) fun _ _=>⟨rfl,rfl⟩
  | exact ZT (Z0B H _) fun _ _=>⟨rfl,rfl⟩
  | exact ZT (Z1K _) fun _ _=>⟨rfl,rfl⟩
  | exact Zi Yb fun _ _=>rfl
  | exact Zi Yh fun _ _=>rfl
  | exact Zi Yc fun _ _=>rfl
theorem Zm4 (H H2:LI->LI) (B:Nat) (HH:H32->H32) (X D:Za) (x:YB) (hB:B=100000) (hH:∀x,(H2 x).length=32) (hX:X.Lim) (hD:ZO D) (he:YS H X.Q (VJ HH x)=YS H2 D.Q (VJ HH x)):
  evF (Zfg H H2 B HH) 40 8 [pt 0,.agg (acC D),.agg (({ x with what:=3}:YB).c)] ⟨8,acB H X D⟩ (Y4 8 (.ret (atR ⟨D.T,D.S,Ud H2 D.Q (VJ HH x)⟩)) 11 (acO H ⟨X.T,X.S,Wh H X.Q (VJ HH x)⟩ ⟨D.T,D.S,Ud H2 D.Q (VJ HH x)⟩)):=by
 refine @Eq.mpr _ (let b:=YB.mk 3 x.tie x.secret x.i x.own x.p x.q x.ht;let s:=b.tie;let I:=b.secret.v;let o:=b.i;let a:=b.p;let n:=b.q;let C:=D.T;let B:=C.length;let A:=D.S;let W:=A.length;let P:=D.Q;let O:=P.length;let f:=X.T;let y:=f.length;let w:=true=true/\true=true;let u:=X.S;let b3:=u.length;let t:=X.Q;let b2:=t.length;let b1:=tiV f;let N:=Za.mk C A (Ud H2 P (VJ HH x));let b0:=N.T;let M:=b0.length;let a9:=N.S;let L:=a9.length;let a8:=N.Q;let K:=a8.length;let J:=Za.mk f u (Wh H t (VJ HH x));let r:=J.T;let G:=r.length;let c:=[(10,12),(9,6),(8,5)];let a7:=tiV r;let F:=J.S;let a6:=F.length;let E:=J.Q;let a5:=E.length;
 ∃(x:YB),
 let m:=VJ HH x;
 Z1L [AV.int i64 b.what,AV.arr u8 32 s.inn.v,AV.int i64 s.inID,AV.arr u8 32 s.out.v,AV.int i64 s.outID,AV.arr u8 32 I,AV.arr u8 32 o.hash.v,AV.arr u8 32 o.key.v,AV.int i64 o.amount,AV.int i64 o.least,AV.bool b.own,AV.bool a.own,AV.int i64 a.id,AV.int i64 a.amount,AV.arr u8 32 a.hash.v,AV.int i64 a.expiry,AV.int i64 a.stage,AV.int i64 a.fin,AV.arr u8 32 a.secret.v,AV.arr u8 32 n.key.v,AV.arr u8 32 n.next.v,AV.int i64 n.amount,AV.int i64 n.expiry,AV.int i64 b.ht] x/\
 (∀(i:Nat),i<B->true=true)/\
 (∀(i:Nat),i<W->true=true)/\
 (∀(i:Nat),i<O->true=true)/\
 ∃(D:Za),
 let e:=D.T.length;let a4:=B=e;let d:=D.S.length;let a3:=W=d;let l:=D.Q;let a2:=O=l.length;let k:=decide (e=e);let j:=decide (d=d);let a1:=decide (e=M);let a0:=decide (d=L);
 V4 D B (tiR C) W (seR A) O (quR P)/\
 ∃(x:Zq),
 let Z:=[AV.arr u8 32 m.hash.v,AV.arr u8 32 m.key.v,AV.int i64 m.amount,AV.int i64 m.least];let h:=List.length (Ud H2 l x);let g:=decide (h=h);let Y:=decide (h=K);
 (a4/\a4/\a3/\a3/\a2/\a2)/\
 (Z=Zq.ic x/\I=x.secret.v)/\
 (∀(i:Nat),i<y->w)/\
 (∀(i:Nat),i<y->w)/\
 (∀(i:Nat),i<b3->w)/\
 (∀(i:Nat),i<b2->w)/\
 ∃(X:Za),
 Xc H X [AV.map (some 1),AV.map (some 2),AV.map (some 3),AV.map (some 4)] y (tkO f) b1 y (tkI f) b1 b3 (skV H u) (seV u) b2 (qkV t) (quV t)/\
 ∃(q:Zq),
 let V:=Za.mk X.T X.S (Wh H X.Q q);let z:=V.T;let b5:=decide (z.length=G);let b4:=tiV z;let U:=V.S;let R:=V.Q;
 (Z=Zq.ic q/\I=q.secret.v)/\Z0 k (Z0 k (Z0 j (Z0 j (Z0 g (Z0 g (Z0 k (Z0 k (Z0 j (Z0 j (Z0 g (Z0 g (Z0 a1 (Z4 (M<=e) (Z0 a0 (Z4 (L<=d) (Z0 Y (Z4 (K<=h) (Z4 ((YS H X.Q q==YS H2 l x)=true) (Z0 b5 (Z7 8 c G (tkO r) a7 (tkO z) b4/\Z0 b5 (Z7 8 c G (tkI r) a7 (tkI z) b4/\Z4 (U.length=a6) (Z7 8 c a6 (skV H F) (seV F) (skV H U) (seV U)/\Z4 (R.length=a5) (Z7 8 c a5 (qkV E) (quV E) (qkV R) (quV R)/\Z0 a1 (Z5 8 c M (tiR b0) (tiR D.T)/\Z0 a0 (Z5 8 c L (seR a9) (seR D.S)/\Z0 Y (Z5 8 c K (quR a8) (quR (Ud H2 l x))/\True))))))))))))))))))))))))))) (by kernel_rfl) ?_
 conv=>zeta
 try simp only [vcA]
 try simp only [vcB]
 try simp only [vcC]
 have tr:∀{n:Nat} (i:Nat),i<n->True:=fun _ _=>trivial
 refine ⟨{ x with what:=3},⟨rfl⟩,tr,tr,tr,D,Z1M hD, ?_⟩
 refine ⟨VJ HH x,⟨rfl,rfl,rfl,rfl,rfl,rfl⟩,⟨rfl,rfl⟩,tr,tr,tr,tr,X,Wl H hX,VJ HH x,⟨rfl,rfl⟩, ?_⟩
 repeat' first|apply JG|intro _
 all_goals first
  | exact he
  | (rw [he];simp)
  | rfl
  | exact J1 _
  | exact H32.l _
  | exact ZT (Z1J _) fun _ _=>⟨rfl,rfl⟩
  | exact ZT (Z4Q _) fun _ _=>⟨rfl,rfl⟩
  | exact ZT (Z0B H _) fun _ _=>⟨rfl,rfl⟩
  | exact ZT (Z1K _) fun _ _=>⟨rfl,rfl⟩
  | exact Zi Yb fun _ _=>rfl
  | exact Zi Yh fun _ _=>rfl
  | exact Zi Yc fun _ _=>rfl
theorem ZfO (X D:Za) (x:YB) (hX:X.Lim) (hD:ZO D) (hw:x.what=0\/x.what=2\/x.what=3) (hk:Z8I X D x):Spec PP 8 [pt 0,.agg (acC D),.agg x.c] ⟨8,acB Zf X D⟩ (.ret (atR (acD ZR hhD x D))) 11 (acO Zf (acX Zf ZR hhD x X) (acD ZR hhD x D)):=by
 obtain ⟨w,t,s,i,own,p,q,ht⟩:=x
 rcases hw with h0|h0|h0
 ·have h0:w=0:=h0
  subst h0;exact .evM Z5R (Zm2 Zf ZR 100000 hhD X D ⟨0,t,s,i,own,p,q,ht⟩ rfl VC hX hD (hk.t rfl))
 ·have h0:w=2:=h0
  subst h0;exact .evM Z5R (Zm3 Zf ZR 100000 hhD X D ⟨2,t,s,i,own,p,q,ht⟩ rfl VC hX hD (hk.l rfl))
 ·have h0:w=3:=h0
  subst h0;exact .evM Z5R (Zm4 Zf ZR 100000 hhD X D ⟨3,t,s,i,own,p,q,ht⟩ rfl VC hX hD (hk.q rfl))
structure AcW (X D:Za) (x:YB):Prop where
 w:x.what=0\/x.what=2\/x.what=3
 k:Z8I X D x
def ZhN:ZJ:=fun args h K=>ZiY h args fun X D x t o i s a wa wb wc=>AcW X D x/\K (.ret (.tuple [.agg [.nslice ⟨h.next,0,66,0,0⟩ 66 (acD ZR hhD x D).T.length (acD ZR hhD x D).T.length,.nslice ⟨h.next+1,0,32,0,0⟩ 32 (acD ZR hhD x D).S.length (acD ZR hhD x D).S.length,.nslice ⟨h.next+2,0,98,0,0⟩ 98 (acD ZR hhD x D).Q.length (acD ZR hhD x D).Q.length],.bool true])) ⟨h.next+3,Zgr (acX Zf ZR hhD x X) (acD ZR hhD x D) t o i s a h.next (h.next+1) (h.next+2) (ZiX h.bs t o i s a wa wb wc)⟩
theorem ZfP (args:List AV) (h:Z6) (K:KO) (hl:ZhN args h K):Zh PP 8 args h K:=by
 unfold ZhN ZiY at hl
 split at hl
 ·split at hl
  ·refine Spec.fsumm hl fun Bs az hlen hK0=> ?_
   split at hK0
   ·obtain ⟨X,D,x,⟨rfl,⟨rfl,rfl,rfl⟩,⟨rfl,rfl,rfl⟩,⟨rfl,rfl,rfl⟩,⟨rfl,rfl,rfl⟩,hX⟩,⟨⟨rfl,rfl⟩,⟨rfl,rfl⟩,⟨rfl,rfl⟩,hD⟩,⟨rfl,rfl,rfl,rfl,rfl,rfl⟩,⟨rfl⟩,⟨hw,hk⟩,hK⟩:=hK0
    have q:=U1 Zf (acX Zf ZR hhD x X)
    exact ⟨_,_,_,_,_,ZfO X D x hX hD hw hk,by simp,.ret _ _ rfl,.cons _ _ _ _ _ _ rfl (.flat _ _ rfl) (.cons _ _ _ _ _ _ rfl (.fmap _ _ _ (fun i _=>(q i).1)) (.cons _ _ _ _ _ _ rfl (.fmap _ _ _ (fun i _=>⟨(q i).2.1,(q i).1.2⟩)) (.cons _ _ _ _ _ _ rfl (.fmap _ _ _ (fun i _=>(q i).2.2.1)) (.cons _ _ _ _ _ _ rfl (.fmap _ _ _ (fun i _=>(q i).2.2.2)) (.cons _ _ _ _ _ _ rfl (.rows _ _ _ (fun i _=>Yb.p _)) (.cons _ _ _ _ _ _ rfl (.rows _ _ _ (fun i _=>Yh.p _)) (.cons _ _ _ _ _ _ rfl (.rows _ _ _ (fun i _=>Yc.p _)) .nil))))))),hK⟩
   ·exact hK0.elim
  ·exact hl.elim
 ·exact hl.elim
noncomputable def ZfQ (R:LI->Option Za):Zg:=(((((G0.withF 8 ZhN).withF 11 ZhM).withF 10 Zb2).withF 9 (Z8F R)).withF 13 Zhz).withP 6 Zdj
theorem ZfR:(ZfQ (rdX (Zy Zp))).Ok:=Zg.withP_ok (Zg.withF_ok (Zg.withF_ok (Zg.withF_ok (Zg.withF_ok (Zg.withF_ok Zv ZfP) ZfN) Z2j) Zb4) ZfE) Zdk
def fuB (X D:Za):List (Nat×Blk):=[(12,.rows 98 D.Q.length (quR D.Q)),(11,.rows 32 D.S.length (seR D.S)),(10,.rows 66 D.T.length (tiR D.T)),(9,.flat [.nslice ⟨10,0,66,0,0⟩ 66 D.T.length D.T.length,.nslice ⟨11,0,32,0,0⟩ 32 D.S.length D.S.length,.nslice ⟨12,0,98,0,0⟩ 98 D.Q.length D.Q.length]),(8,.flat [.map (some 4),.map (some 5),.map (some 6),.map (some 7)]),(7,.fmap X.Q.length (qkV X.Q) (quV X.Q)),(6,.fmap X.S.length (skV Zf X.S) (seV X.S)),(5,.fmap X.T.length (tkI X.T) (tiV X.T)),(4,.fmap X.T.length (tkO X.T) (tiV X.T))]
def fuT (w m:Int):ZM:=[(0,.int .i64 w),(1,.int .i64 m),(5,pt 8),(6,pt 9)]
def fuS (X D:Za) (w m:Int) (i:Nat):St:=⟨78,(7,.int .i64 i)::fuT w m,⟨13,fuB X D⟩,[]⟩
def fuE (X D:Za):St:=⟨78,[(5,pt 8),(6,pt 9)],⟨13,fuB X D⟩,[]⟩
def fuN:St:=⟨78,[],⟨0,[]⟩,[]⟩
theorem Zm5 (R:LI->Option Za) (X D X' D' XE DE:Za) (w m:Int) (i:Nat) (go ex:Prop) (hm:m<=70) (hX:X.Lim) (hD:ZO D) (eX:X'=acX Zf ZR hhD (fA w i) X) (eD:D'=acD ZR hhD (fA w i) D) (hk:(i:Int)<m->Z8I X D (fA w i)) (hg:(i:Int)<m->go) (hx:¬(i:Int)<m->(XE=X/\DE=D)/\ex):
  ZA (ZfQ R) 40 3 0 0 (fuS X D w m i) (rdM 0 0 9 (fuS X' D' w m (i+1)) (fuE XE DE) fuN fuN go ex False False):=by
 refine @Eq.mpr _ (let q1:=X.T;let h:=q1.length;let j:=true=true/\true=true;let q4:=X.S;let K:=q4.length;let q6:=X.Q;let J:=q6.length;let d:=D.T.length;let c:=D.S.length;let f:=D.Q.length;let a5:=tkO q1;let v:=tiV q1;let a4:=tkI q1;let a3:=skV Zf q4;let a2:=seV q4;let a1:=qkV q6;let a0:=quV q6;let Z:=tiR D.T;let Y:=seR D.S;let W:=quR D.Q;let g:=AV.arr u8 32 Ze;let b:=AV.int i64 0;let V:=AV.arr u8 32 [wrap u8 ↑i,wrap u8 w,(0:Int),0,0,0,0,0,0,0,0,0,0,0,0,0,0,0,0,0,0,0,0,0,0,0,0,0,0,0,0,0];let c1:=[AV.bool false,b,b,g,b,b,b,g,g,g,b,b,b];let c0:=g::g::b::b::AV.bool false::c1;let s:=D'.Q.length;let b9:=[(9,9),(8,8)];let a:=(7,7)::(6,6)::(5,5)::(4,4)::(12,17)::(11,16)::(10,15)::b9;let r:=D'.S.length;let q:=D'.T.length;let N:=X'.Q;let R:=N.length;let M:=X'.S;let P:=M.length;let t:=X'.T;let p:=t.length;let O:=tiV t;let b1:=DE.Q.length;let b8:=decide (f=b1);let L:=(7,7)::(6,6)::(5,5)::(4,4)::(12,12)::(11,11)::(10,10)::b9;let b0:=DE.S.length;let b7:=decide (c=b0);let a9:=DE.T.length;let b6:=decide (d=a9);let a8:=XE.Q;let b5:=a8.length;let a7:=XE.S;let b4:=a7.length;let U:=XE.T;let a6:=U.length;let b3:=decide (h=a6);let b2:=tiV U;
 Z8 (decide (↑i<m)) (Z8 (w==1) ((∀(i:Nat),i<h->j)/\
 (∀(i:Nat),i<h->j)/\
 (∀(i:Nat),i<K->j)/\
 (∀(i:Nat),i<J->j)/\
 (∀(i:Nat),i<d->true=true)/\
 (∀(i:Nat),i<c->true=true)/\
 (∀(i:Nat),i<f->true=true)/\
 ∃(X:Za),
 ∃(D:Za),
 ∃(x:YB),
 let o:=acD ZR hhD x D;let I:=o.Q;let H:=I.length;let G:=decide (H=s);let F:=o.S;let E:=F.length;let C:=decide (E=r);let B:=o.T;let A:=B.length;let z:=decide (A=q);let n:=acX Zf ZR hhD x X;let l:=n.Q;let k:=n.S;let e:=n.T;let y:=decide (e.length=p);let u:=tiV e;
 Xc Zf X [AV.map (some 1),AV.map (some 2),AV.map (some 3),AV.map (some 4)] h a5 v h a4 v K a3 a2 J a1 a0/\
 V4 D d Z c Y f W/\Z0J D d d c c f f/\Z1L (AV.int i64 2::g::b::g::b::V::c0) x/\AcW X D x/\Z4 (wrap i64 (↑i+1)=↑(i+1)) (Z4 (w=w) (Z4 (m=m) (Z0 G (Z5 0 a s (quR D'.Q) (quR I)/\Z0 C (Z5 0 a r (seR D'.S) (seR F)/\Z0 z (Z5 0 a q (tiR D'.T) (tiR B)/\Z0 z (Z4 (q<=A) (Z0 C (Z4 (r<=E) (Z0 G (Z4 (s<=H) (Z4 (l.length=R) (Z7 0 a R (qkV N) (quV N) (qkV l) (quV l)/\Z4 (k.length=P) (Z7 0 a P (skV Zf M) (seV M) (skV Zf k) (seV k)/\Z0 y (Z7 0 a p (tkI t) O (tkI e) u/\Z0 y (Z7 0 a p (tkO t) O (tkO e) u/\go))))))))))))))))) (Z8 (w==2) ((∀(i:Nat),i<h->j)/\
 (∀(i:Nat),i<h->j)/\
 (∀(i:Nat),i<K->j)/\
 (∀(i:Nat),i<J->j)/\
 (∀(i:Nat),i<d->true=true)/\
 (∀(i:Nat),i<c->true=true)/\
 (∀(i:Nat),i<f->true=true)/\
 ∃(X:Za),
 ∃(D:Za),
 ∃(x:YB),
 let o:=acD ZR hhD x D;let I:=o.Q;let H:=I.length;let G:=decide (H=s);let F:=o.S;let E:=F.length;let C:=decide (E=r);let B:=o.T;let A:=B.length;let z:=decide (A=q);let n:=acX Zf ZR hhD x X;let l:=n.Q;let k:=n.S;let e:=n.T;let y:=decide (e.length=p);let u:=tiV e;
 Xc Zf X [AV.map (some 1),AV.map (some 2),AV.map (some 3),AV.map (some 4)] h a5 v h a4 v K a3 a2 J a1 a0/\
 V4 D d Z c Y f W/\
 Z0J D d d c c f f/\
 Z1L (AV.int i64 3::g::b::g::b::V::g::g::AV.int i64 1::AV.int i64 1::AV.bool true::c1) x/\AcW X D x/\Z4 (wrap i64 (↑i+1)=↑(i+1)) (Z4 (w=w) (Z4 (m=m) (Z0 G (Z5 0 a s (quR D'.Q) (quR I)/\Z0 C (Z5 0 a r (seR D'.S) (seR F)/\Z0 z (Z5 0 a q (tiR D'.T) (tiR B)/\Z0 z (Z4 (q<=A) (Z0 C (Z4 (r<=E) (Z0 G (Z4 (s<=H) (Z4 (l.length=R) (Z7 0 a R (qkV N) (quV N) (qkV l) (quV l)/\Z4 (k.length=P) (Z7 0 a P (skV Zf M) (seV M) (skV Zf k) (seV k)/\Z0 y (Z7 0 a p (tkI t) O (tkI e) u/\Z0 y (Z7 0 a p (tkO t) O (tkO e) u/\go))))))))))))))))) ((∀(i:Nat),i<h->j)/\
 (∀(i:Nat),i<h->j)/\
 (∀(i:Nat),i<K->j)/\
 (∀(i:Nat),i<J->j)/\
 (∀(i:Nat),i<d->true=true)/\
 (∀(i:Nat),i<c->true=true)/\
 (∀(i:Nat),i<f->true=true)/\
 ∃(X:Za),
 ∃(D:Za),
 ∃(x:YB),
 let o:=acD ZR hhD x D;let I:=o.Q;let H:=I.length;let G:=decide (H=s);let F:=o.S;let E:=F.length;let C:=decide (E=r);let B:=o.T;let A:=B.length;let z:=decide (A=q);let n:=acX Zf ZR hhD x X;let l:=n.Q;let k:=n.S;let e:=n.T;let y:=decide (e.length=p);let u:=tiV e;
 Xc Zf X [AV.map (some 1),AV.map (some 2),AV.map (some 3),AV.map (some 4)] h a5 v h a4 v K a3 a2 J a1 a0/\
 V4 D d Z c Y f W/\Z0J D d d c c f f/\Z1L (b::V::b::V::b::g::c0) x/\AcW X D x/\Z4 (wrap i64 (↑i+1)=↑(i+1)) (Z4 (w=w) (Z4 (m=m) (Z0 G (Z5 0 a s (quR D'.Q) (quR I)/\Z0 C (Z5 0 a r (seR D'.S) (seR F)/\Z0 z (Z5 0 a q (tiR D'.T) (tiR B)/\Z0 z (Z4 (q<=A) (Z0 C (Z4 (r<=E) (Z0 G (Z4 (s<=H) (Z4 (l.length=R) (Z7 0 a R (qkV N) (quV N) (qkV l) (quV l)/\Z4 (k.length=P) (Z7 0 a P (skV Zf M) (seV M) (skV Zf k) (seV k)/\Z0 y (Z7 0 a p (tkI t) O (tkI e) u/\Z0 y (Z7 0 a p (tkO t) O (tkO e) u/\go))))))))))))))))))) (Z0 b8 (Z5 0 L b1 (quR DE.Q) W/\Z0 b7 (Z5 0 L b0 (seR DE.S) Y/\Z0 b6 (Z5 0 L a9 (tiR DE.T) Z/\Z0 b6 (Z4 (a9<=d) (Z0 b7 (Z4 (b0<=c) (Z0 b8 (Z4 (b1<=f) (Z4 (J=b5) (Z7 0 L b5 (qkV a8) (quV a8) a1 a0/\Z4 (K=b4) (Z7 0 L b4 (skV Zf a7) (seV a7) a3 a2/\Z0 b3 (Z7 0 L a6 (tkI U) b2 a4 v/\Z0 b3 (Z7 0 L a6 (tkO U) b2 a5 v/\ex))))))))))))))) (by kernel_rfl) ?_
 conv=>zeta
 try simp only [vcA]
 try simp only [vcB]
 try simp only [vcC]
 have tr:∀{n:Nat} (i:Nat),i<n->True:=fun _ _=>trivial
 have m0:=fun (X:Za) (τ:Ren)=>Xb Zf X 0 τ
 have d0:=fun (D:Za) (τ:Ren)=>Vg D 0 τ
 refine ⟨fun hlt=> ?_,fun hge=> ?_⟩
 ·have hk:=hk hlt
  have hw:i64.wrap ((i:Int)+1)=((i+1:Nat):Int):=by rw [w64 (by omega)];omega
  refine ⟨fun hc=> ?_,fun hc=>⟨fun hd=> ?_,fun hd=> ?_⟩⟩
  ·have e:fA w i=fa1 w i:=if_pos (eq_of_beq hc)
   refine ⟨tr,tr,tr,tr,tr,tr,tr,X,D,fa1 w i,Wl Zf hX,Z1M hD,⟨rfl,rfl,rfl,rfl,rfl,rfl⟩,⟨rfl⟩,⟨.inr (.inl rfl),e▸hk⟩,hw, ?_⟩
   rw [<-e,<-eX,<-eD]
   exact ⟨rfl,(d0 _ _).2.2,rfl,(d0 _ _).2.1,rfl,(d0 _ _).1,rfl,J1 _,rfl,J1 _,rfl,J1 _,rfl,(m0 _ _).2.2.2,rfl,(m0 _ _).2.2.1,rfl,(m0 _ _).2.1,rfl,(m0 _ _).1,hg hlt⟩
  ·have e:fA w i=fa2 w i:=by
    unfold fA
    rw [if_neg (by simpa using hc),if_pos (eq_of_beq hd)]
   refine ⟨tr,tr,tr,tr,tr,tr,tr,X,D,fa2 w i,Wl Zf hX,Z1M hD,⟨rfl,rfl,rfl,rfl,rfl,rfl⟩,⟨rfl⟩,⟨.inr (.inr rfl),e▸hk⟩,hw, ?_⟩
   rw [<-e,<-eX,<-eD]
   exact ⟨rfl,(d0 _ _).2.2,rfl,(d0 _ _).2.1,rfl,(d0 _ _).1,rfl,J1 _,rfl,J1 _,rfl,J1 _,rfl,(m0 _ _).2.2.2,rfl,(m0 _ _).2.2.1,rfl,(m0 _ _).2.1,rfl,(m0 _ _).1,hg hlt⟩
  ·have e:fA w i=fa0 w i:=by
    unfold fA
    rw [if_neg (by simpa using hc),if_neg (by simpa using hd)]
   refine ⟨tr,tr,tr,tr,tr,tr,tr,X,D,fa0 w i,Wl Zf hX,Z1M hD,⟨rfl,rfl,rfl,rfl,rfl,rfl⟩,⟨rfl⟩,⟨.inl rfl,e▸hk⟩,hw, ?_⟩
   rw [<-e,<-eX,<-eD]
   exact ⟨rfl,(d0 _ _).2.2,rfl,(d0 _ _).2.1,rfl,(d0 _ _).1,rfl,J1 _,rfl,J1 _,rfl,J1 _,rfl,(m0 _ _).2.2.2,rfl,(m0 _ _).2.2.1,rfl,(m0 _ _).2.1,rfl,(m0 _ _).1,hg hlt⟩
 ·obtain ⟨⟨rfl,rfl⟩,hz⟩:=hx hge
  exact ⟨rfl,(d0 _ _).2.2,rfl,(d0 _ _).2.1,rfl,(d0 _ _).1,rfl,J1 _,rfl,J1 _,rfl,J1 _,rfl,(m0 _ _).2.2.2,rfl,(m0 _ _).2.2.1,rfl,(m0 _ _).2.1,rfl,(m0 _ _).1,hz⟩
structure FuC (X D:Za) (w m:Int) (n:Nat):Prop where
 m:(n:Int)=m
 le:n<=70
 x:X=FX (fA w) n
 d:D=FD (fA w) n
noncomputable def fuL (X D:Za) (w m:Int) (n:Nat):Nat->St->KE->Prop:=goM 0 (fuS ⟨[],[],[]⟩ ⟨[],[],[]⟩ w m 0) (FuC X D w m n) (Yn 0 n 9 (fun i=>i<n) (fun i=>i=n) (fun _=>False) (fun _=>False) (fun _=>fuE X D) (fun _=>fuN) (fun _=>fuN))
theorem ZhO (X D:Za) (w m:Int) (n:Nat):((ZfQ (rdX (Zy Zp))).withL 3 0 (fuL X D w m n)).Ok:=by
 unfold fuL
 refine Zg.withGoM (N:=40) (S:=fun i=>fuS (FX (fA w) i) (FD (fA w) i) w m i) (En:=fun _=>fuE X D) ZfR (by kernel_rfl) fun hC=>⟨rfl,fun i hi _=> ?_⟩
 obtain ⟨hm,hn,hX,hD⟩:=hC
 have hf:=Z5W w i (by omega)
 exact Zm5 (rdX (Zy Zp)) (FX (fA w) i) (FD (fA w) i) _ _ X D w m i (i<n/\i<n) (i=n) (by omega) hf.inv.lim hf.lim rfl rfl (fun h=>(Z7b (by omega) hf).1) (fun h=>⟨by omega,by omega⟩) fun h=>by
  have e:i=n:=by have:i<=n:=hi;omega
  subst e
  exact ⟨⟨hX,hD⟩,rfl⟩
noncomputable def ZkB (R:LI->Option Za) (X D:Za) (w m:Int) (n:Nat):Zg:=(ZfQ R).withL 3 0 (fuL X D w m n)
theorem Z9R (X D:Za) (w m:Int) (n:Nat):(ZkB (rdX (Zy Zp)) X D w m n).Ok:=ZhO X D w m n
theorem Zb7 (h:X.Inv Zf):(Ya X).length<80000000000000:=by
 have h1:=Z0N Xw (X:=X) h.raw.lim (Yd X).Q.length
 have h2:=h.raw.lim.q
 show (X0 Zp X (Yd X) (Yd X).Q.length).length<_
 omega
theorem ZkC (R:LI->Option Za) (X D:Za) (w m:Int) (n:Nat) (hF:Ful X D) (hC:0<=m->m<=70->FuC X D w m n) (hR:∀Z:Za,Z.Inv Zf->R (Ya Z)=some (Yd Z)):
  evF (ZkB R X D w m n) 40 3 [.int .i64 w,.int .i64 m] ⟨0,[]⟩ (Vz (fun v=>v=.bool true)):=by
 refine @Eq.mpr _ (let K:=AV.bool true;let H:=K=K;let v:=[(7,3),(6,2),(5,1),(4,0),(9,5),(8,4)];let G:=Za.mk [] [] [];let Z:=G.Q;let W:=G.S;let B:=G.T;let O:=tiV B;let k:=X.T;let y:=k.length;let a:=true=true/\true=true;let J:=X.S;let a4:=J.length;let I:=X.Q;let a3:=I.length;let x:=[AV.map (some 1),AV.map (some 2),AV.map (some 3),AV.map (some 4)];let a2:=tiV k;let e:=D.T.length;let d:=D.S.length;let c:=D.Q.length;let a1:=AV.bool false=K;
 Z8 (decide (m<0)) H (Z8 (decide (m>70)) H (Z4 (w=w) (Z4 (m=m) ((Z7 0 v 0 (qkV Z) (quV Z) (fun (i:Nat)=>AV.top) fun (i:Nat)=>AV.top)/\
 (Z7 0 v 0 (skV Zf W) (seV W) (fun (i:Nat)=>AV.top) fun (i:Nat)=>AV.top)/\
 (Z7 0 v 0 (tkI B) O (fun (i:Nat)=>AV.top) fun (i:Nat)=>AV.top)/\
 (Z7 0 v 0 (tkO B) O (fun (i:Nat)=>AV.top) fun (i:Nat)=>AV.top)/\
 FuC X D w m n/\
 ∀(i:Nat),
 i<=n->
 (∀(j:Nat),j<i->(fun (i:Nat)=>i<n) j)->
 (i=n->
 (∀(i:Nat),i<y->a)/\
 (∀(i:Nat),i<y->a)/\
 (∀(i:Nat),i<a4->a)/\
 (∀(i:Nat),i<a3->a)/\
 ∃(X_1:Za),
 let u:=List.length (Ya X_1);let F:=List.take u (Y2 0 (Ya X_1));let a0:=R F;let f:=X_1.T;let b:=f.length;let h:=X_1.S;let t:=h.length;let g:=X_1.Q;let s:=g.length;let r:=tiV f;
 Xc Zf X_1 x y (tkO k) a2 y (tkI k) a2 a4 (skV Zf J) (seV J) a3 (qkV I) (quV I)/\
 Za.Inv Zf X_1/\
 Z4 (0+u<=u) (Zjm F u/\
 (∀(X:Za),
 let q:=X.T;let p:=q.length;let E:=X.S;let V:=E.length;let C:=X.Q;let U:=C.length;let P:=tiV q;
 a0=some X->
 Zhx F X->
 (∀(i:Nat),i<b->a)/\
 (∀(i:Nat),i<b->a)/\
 (∀(i:Nat),i<t->a)/\
 (∀(i:Nat),i<s->a)/\
 (∀(i:Nat),i<e->true=true)/\
 (∀(i:Nat),i<d->true=true)/\
 (∀(i:Nat),i<c->true=true)/\
 ∃(X:Za),
 let o:=X.T;let l:=o.length;let A:=X.S;let N:=A.length;let z:=X.Q;let M:=z.length;let L:=tiV o;
 ∃(D_1:Za),Xc Zf X x b (tkO f) r b (tkI f) r t (skV Zf h) (seV h) s (qkV g) (quV g)/\V4 D_1 e (tiR D.T) d (seR D.S) c (quR D.Q)/\Z0J D_1 e e d d c c/\Ful X D_1/\(∀(i:Nat),i<p->a)/\(∀(i:Nat),i<p->a)/\(∀(i:Nat),i<V->a)/\(∀(i:Nat),i<U->a)/\(∀(i:Nat),i<l->a)/\(∀(i:Nat),i<l->a)/\(∀(i:Nat),i<N->a)/\(∀(i:Nat),i<M->a)/\∃(X:Za),∃(Y:Za),ZfD X 0 x p (tkO q) P p (tkI q) P V (skV Zf E) (seV E) U (qkV C) (quV C)/\ZfD Y 5 [AV.map (some 6),AV.map (some 7),AV.map (some 8),AV.map (some 9)] l (tkO o) L l (tkI o) L N (skV Zf A) (seV A) M (qkV z) (quV z)/\Z8 (ByteArray.toList (strOf (Ya X))==ByteArray.toList (strOf (Ya Y))) H a1)/\
 (a0=none->(∀(i:Nat),i<b->a)/\(∀(i:Nat),i<b->a)/\(∀(i:Nat),i<t->a)/\(∀(i:Nat),i<s->a)/\(∀(i:Nat),i<e->true=true)/\(∀(i:Nat),i<d->true=true)/\(∀(i:Nat),i<c->true=true)/\∃(X:Za),∃(D_1:Za),Xc Zf X x b (tkO f) r b (tkI f) r t (skV Zf h) (seV h) s (qkV g) (quV g)/\V4 D_1 e (tiR D.T) d (seR D.S) c (quR D.Q)/\Z0J D_1 e e d d c c/\Ful X D_1/\a1)))/\
 (False->False)/\(False->False)))))) (by kernel_rfl) ?_
 conv=>zeta
 try simp only [vcA]
 try simp only [vcB]
 try simp only [vcC]
 have tr:∀{n:Nat} (i:Nat),i<n->True:=fun _ _=>trivial
 have m0:∀{τ:Ren} {kf vf kf' vf':Nat->AV},Z7 0 τ 0 kf vf kf' vf':=⟨fun i hi=>absurd hi (JC i)⟩
 have e4:List.take (Ya X).length (Y2 0 (Ya X))=Ya X:=by rw [ZU,K6,Jr]
 refine ⟨fun _=>trivial,fun h1=>⟨fun _=>trivial,fun h2=>⟨m0,m0,m0,m0,hC (by omega) (by omega),fun i hi _=>⟨fun _=> ?_,fun h=>h,fun h=>h⟩⟩⟩⟩
 refine ⟨tr,tr,tr,tr,X,Wl Zf hF.inv.lim,hF.inv, ?_⟩
 rw [e4,hR X hF.inv]
 refine ⟨⟨rfl,Zb7 hF.inv,Z9M X⟩,fun Z hZ hok=> ?_,fun h=>by cases h⟩
 obtain rfl:Yd X=Z:=Option.some.inj hZ
 refine ⟨tr,tr,tr,tr,tr,tr,tr,X,D,Wl Zf hF.inv.lim,Z1M hF.lim,⟨rfl,rfl,rfl,rfl,rfl,rfl⟩,hF,tr,tr,tr,tr,tr,tr,tr,tr,Yd X,X,⟨rfl,⟨rfl,rfl,rfl⟩,⟨rfl,rfl,rfl⟩,⟨rfl,rfl,rfl⟩,⟨rfl,rfl,rfl⟩,hF.inv.sorted⟩,⟨rfl,⟨rfl,rfl,rfl⟩,⟨rfl,rfl,rfl⟩,⟨rfl,rfl,rfl⟩,⟨rfl,rfl,rfl⟩,hF.inv⟩, ?_⟩
 exact ⟨fun _=>trivial,fun h=>by rw [ZdM hF.inv] at h;cases h⟩
end Go.Tk
end
section
namespace Go.Tk
open IntKind (i64 u8 u32 u64 wrap)
theorem Z53 {a:AV} (h:Z6I false [.int .i64] a):∃n:Int,a=.int .i64 n:=by
 cases h with|one _ _ h=>
 cases h
 exact ⟨_,rfl⟩
theorem linksfull_walk {us:List AV} (h:Z4z [(false,[.int .i64]),(false,[.int .i64])] us):Zh PP 3 us ⟨0,[]⟩ fun o h'=>∃v,o=.ret v/\h'=⟨0,[]⟩/\v=.bool true:=by
 cases h with|cons _ _ a _ _ h1 h=>
 cases h with|cons _ _ b _ _ h2 h=>
 cases h
 obtain ⟨w,rfl⟩:=Z53 h1
 obtain ⟨m,rfl⟩:=Z53 h2
 by_cases hm:0<=m/\m<=70
 ·exact V1 (h:=⟨0,[]⟩) (Z9R _ _ w m m.toNat) rfl (ZkC _ _ _ w m m.toNat (Z5W w m.toNat (by omega)) (fun _ _=>⟨by omega,by omega,rfl,rfl⟩) fun Z hZ=>Z9O hZ) fun u hu=>hu
 ·exact V1 (h:=⟨0,[]⟩) (Z9R ⟨[],[],[]⟩ ⟨[],[],[]⟩ w m 0) rfl (ZkC _ _ _ w m 0 .nil (fun h1 h2=>absurd ⟨h1,h2⟩ hm) fun Z hZ=>Z9O hZ) fun u hu=>hu
end Go.Tk
namespace Go.Proofs.YthnfcmaoiebelaaGreat.linksFull
open Go.ChangeShapes Go.WideShapes Go.ChangeAt Go.RowKit
theorem own:ownKnob Tryz.prog.godebug=none:=by kernel_rfl
theorem laidOut:laidOutB Tryz.prog=true:=by kernel_rfl
theorem lifted (os:Os) (started:os.Started) (H:Type) (enc:TypeId×Value->H):
  ReturnsInHanded {} Tryz.checked os 3 .any (Rows.linksFullSpec.pre6 enc Tryz.prog Tryz.f3 Rows.linksFullRow.domain false) (Rows.linksFullSpec.post enc Tryz.prog Tryz.f3 false true false false):=
 Go.Tk.lifted_gen (C:=Tryz.checked) (m:=8) (τs:=[(false,[.int .i64]),(false,[.int .i64])]) own laidOut started (by kernel_rfl) Tryz.func3
  (ChangeSpec.witness6 (enc:=enc) (C:=Tryz.checked) false ⟨#[], #[.int .i64 0,.int .i64 0],[]⟩ 8 (by kernel_rfl) (by kernel_rfl) (by kernel_rfl) (by kernel_rfl))
  rfl (tb:=4) rfl Tryz.underlying4 (by kernel_rfl) (by kernel_rfl) (fun ds h=>by
   match ds,h with
   | [a,b],_=>rfl) fun us h=>Go.Tk.linksfull_walk h
theorem ZhP:Tryz.pinned.checked.prog.funcNamed Rows.linksFullRow.func=some 3:=by kernel_rfl
theorem closed:joinedFacts Tryz.pinned.checked.prog 3 Tryz.f3 Rows.linksFullSpec Rows.linksFullRow=true:=by
 unfold joinedFacts
 repeat' with_reducible refine Go.Tk.and_mk ?_ ?_
 all_goals as_aux_lemma=>kernel_rfl
theorem over:Rows.linksFullRow.holds Tryz.pinned (OpenSpec.ofChange Rows.linksFullSpec):=
 OpenClaim.holds_of_wide 3 Tryz.f3 rfl rfl rfl rfl rfl rfl rfl ⟨rfl,rfl,rfl,rfl,rfl⟩ rfl rfl rfl rfl rfl ZhP Tryz.func3 closed
  (of_decide_eq_true (by kernel_rfl)) (by unfold Func.isWrapper;first|(rw [if_pos (by decide+kernel)];kernel_rfl)|(rw [if_neg (by decide+kernel)];exact ⟨rfl,rfl⟩))
  (fun os started H enc _=>lifted os started H enc)
theorem proved:Rows.LinksFullSaid:=over
end Go.Proofs.YthnfcmaoiebelaaGreat.linksFull
end
