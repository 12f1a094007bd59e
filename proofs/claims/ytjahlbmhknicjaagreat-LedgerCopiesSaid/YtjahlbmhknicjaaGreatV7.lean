/- V: part 7 of an engine (a symbolic evaluator, proved against the model) and of the walk by it. -/
import Derived.Test.YtjahlbmhknicjaaGreatV6
import Derived.Test.YtjahlbmhknicjaaGreatRows
import Derived.ChangeOld
set_option linter.unusedVariables false
set_option linter.unusedSimpArgs false
set_option maxRecDepth 100000
set_option maxHeartbeats 0
section
namespace Go.Tk
open IntKind (i64 u8 u32 u64 wrap)
noncomputable def ZjA:Zf:=G0.withP 93 Z7C
theorem Zft:ZjA.Ok:=Zf.withP_ok Zr Z9Y
theorem Z0A {H:List Int→List Int} {t:Yz} {side res a b:Int}:Yp H (X8 t side res a b)=true↔XM t=true∧(0≤side∧side≤1)∧(0≤res∧res≤t.cap/10)∧(0≤a∧a≤t.cap)∧b=t.cap-a∧0≤a-res-t.fee:=by
 rw [Ql,Z0o]
 have o:∀s,ZQ (X8 t side res a b).side s (X8 t side res a b).L=[]:=fun _=>rfl
 have e:Y1 (X8 t side res a b) 0=a-res-t.fee:=by
  rw [Xg,Qm (o 0),if_pos rfl]
  show a-0-res-t.fee=_
  omega
 rw [o,o,e]
 constructor
 ·rintro ⟨⟨h1,h2,h3,h4,h5,_⟩,_,h6,_⟩
  exact ⟨h1,h2,h3,h4,h5,h6⟩
 ·rintro ⟨h1,h2,h3,h4,h5,h6⟩
  exact ⟨⟨h1,h2,h3,h4,h5,⟨Int.le_refl 0,show (0:Int)≤2147483648 by decide⟩,⟨Int.le_refl 0,show (0:Int)≤2147483648 by decide⟩,Nat.zero_le _,Nat.zero_le _⟩,fun i hi=>absurd hi (Nat.not_lt_zero _),h6,.inl rfl⟩
theorem ZjB (t:Yz) (side res a b:Int) (X Y:Z6) (e:Int) (H1:List Int→List Int) (ht:t.Ok) (hX:X=X8 t side res a b) (hY:Y=cond (Yp H1 X) X Yl) (he:e=cond (Yp H1 X) 0 2):
  evF ZjA 20 10 [.agg t.c,.int .i64 side,.int .i64 res,.agg [.arr .i64 2 [a,b]]] ⟨0,[]⟩ (Y8 fun v=>v=.tuple [.agg (Y.c .nilslice),.int .i64 e]):=by
 refine @Eq.mpr _ (let q1:=t.cap;
 let q2:=t.fee;
 let q3:=Yz.mk t.fund t.index q1 t.dust q2 t.delay t.k0 t.k1;
 let q4:=AV.arr u8 32 Zd;
 let q5:=AV.int i64 0;
 let q6:=AV.arr i64 2 [(0:Int),0];
 let q7:=[q6,AV.nilslice];
 let q8:=AV.tuple [AV.agg (Z6.c Y AV.nilslice),AV.int i64 e];
 let q9:=AV.tuple [AV.agg (q4::q5::q5::q5::q5::q5::q4::q4::q5::q5::q6::q7),AV.int i64 2]=q8;
 let q10:=decide (res<0);
 let q11:=decide (res>wrap i64 (Int.tdiv q1 10));
 let q12:=decide (a≥0);
 let q13:= !decide (a≤1125899906842624);
 let q14:=decide (b≥0);
 let q15:= !decide (b≤1125899906842624);
 let q16:=wrap i64 (a+b) !=q1;
 let q17:=AV.tuple [AV.agg (AV.arr u8 32 t.fund::AV.int i64 t.index::AV.int i64 q1::AV.int i64 t.dust::AV.int i64 q2::AV.int i64 t.delay::AV.arr u8 32 t.k0::AV.arr u8 32 t.k1::AV.int i64 side::AV.int i64 res::AV.arr i64 2 [a,b]::q7),q5]=q8;
 Yz.Ok q3∧Z0 (!XM q3) q9 (Z0 (side !=0) (Z0 (side !=1) q9 (Z0 q10 q9 (Z0 q11 q9 (Z0 q12 (Z0 q13 q9 (Z0 q14 (Z0 q15 q9 (Z0 q16 q9 (Z0 (decide (wrap i64 (wrap i64 (wrap i64 (a-0)-res)-q2)≥0)) q17 q9))) q9)) q9)))) (Z0 q10 q9 (Z0 q11 q9 (Z0 q12 (Z0 q13 q9 (Z0 q14 (Z0 q15 q9 (Z0 q16 q9 (Z0 (decide (wrap i64 (wrap i64 (wrap i64 (a-0)-res)-q2)≥0)) q17 q9))) q9)) q9))))) (by kernel_rfl) ?_
 conv=>zeta
 try simp only [Zg]
 try simp only [Zi]
 try simp only [Zh]
 try simp only [Zj]
 try simp only [Zk]
 try simp only [Ze]
 try simp only [Int.toNat_natCast,Nat.zero_add,true_and,and_true,Nat.le_refl]
 have e0:Yz.mk t.fund t.index t.cap t.dust t.fee t.delay t.k0 t.k1=t:=rfl
 rw [e0]
 have hr:=Z0A (H:=H1) (t:=t) (side:=side) (res:=res) (a:=a) (b:=b)
 rw [←hX] at hr
 have bad:¬(Yp H1 X=true)→AV.tuple [.agg (Yl.c .nilslice),.int .i64 2]=AV.tuple [.agg (Y.c .nilslice),.int .i64 e]:=fun h=>by rw [hY,he,Bool.eq_false_iff.2 h];rfl
 have good:Yp H1 X=true→AV.tuple [.agg (X.c .nilslice),.int .i64 0]=AV.tuple [.agg (Y.c .nilslice),.int .i64 e]:=fun h=>by rw [hY,he,h];rfl
 refine ⟨ht,fun k=>bad fun h=> ?_,fun k1=> ?_⟩
 ·rw [(hr.1 h).1] at k;simp at k
 have k1:XM t=true:=by simpa using k1
 have tb:=ZZ k1
 have td:i64.wrap (Int.tdiv t.cap 10)=t.cap/10:=by rw [Int.tdiv_eq_ediv_of_nonneg (by omega),w64 (by omega)]
 rw [td]
 have main:(0≤side∧side≤1)→(res<0→AV.tuple [.agg (Yl.c .nilslice),.int .i64 2]=AV.tuple [.agg (Y.c .nilslice),.int .i64 e])∧(¬res<0→(res>t.cap/10→AV.tuple [.agg (Yl.c .nilslice),.int .i64 2]=AV.tuple [.agg (Y.c .nilslice),.int .i64 e])∧(¬res>t.cap/10→(a≥0→((!decide (a≤1125899906842624))=true→AV.tuple [.agg (Yl.c .nilslice),.int .i64 2]=AV.tuple [.agg (Y.c .nilslice),.int .i64 e])∧((!decide (a≤1125899906842624))=false→(b≥0→((!decide (b≤1125899906842624))=true→AV.tuple [.agg (Yl.c .nilslice),.int .i64 2]=AV.tuple [.agg (Y.c .nilslice),.int .i64 e])∧((!decide (b≤1125899906842624))=false→((i64.wrap (a+b) !=t.cap)=true→AV.tuple [.agg (Yl.c .nilslice),.int .i64 2]=AV.tuple [.agg (Y.c .nilslice),.int .i64 e])∧((i64.wrap (a+b) !=t.cap)=false→(i64.wrap (i64.wrap (i64.wrap (a-0)-res)-t.fee)≥0→AV.tuple [.agg (X.c .nilslice),.int .i64 0]=AV.tuple [.agg (Y.c .nilslice),.int .i64 e])∧(¬i64.wrap (i64.wrap (i64.wrap (a-0)-res)-t.fee)≥0→AV.tuple [.agg (Yl.c .nilslice),.int .i64 2]=AV.tuple [.agg (Y.c .nilslice),.int .i64 e]))))∧(¬b≥0→AV.tuple [.agg (Yl.c .nilslice),.int .i64 2]=AV.tuple [.agg (Y.c .nilslice),.int .i64 e])))∧(¬a≥0→AV.tuple [.agg (Yl.c .nilslice),.int .i64 2]=AV.tuple [.agg (Y.c .nilslice),.int .i64 e]))):=fun hs=>by
  refine ⟨fun k=>bad fun h=> ?_,fun k2=>⟨fun k=>bad fun h=> ?_,fun k3=>⟨fun k4=>⟨fun k=>bad fun h=> ?_,fun k5=>⟨fun k6=>⟨fun k=>bad fun h=> ?_,fun k7=>⟨fun k=>bad fun h=> ?_,fun k8=> ?_⟩⟩,fun k=>bad fun h=> ?_⟩⟩,fun k=>bad fun h=> ?_⟩⟩⟩
  ·have:=(hr.1 h).2.2.1;omega
  ·have:=(hr.1 h).2.2.1;omega
  ·have:=(hr.1 h).2.2.2.1
   have:¬a≤1125899906842624:=by simpa using k
   omega
  ·have:=(hr.1 h).2.2.2
   have:¬b≤1125899906842624:=by simpa using k
   omega
  ·have q:=(hr.1 h).2.2.2
   have:¬i64.wrap (a+b)=t.cap:=by simpa using k
   rw [w64 (by omega)] at this
   omega
  ·have k5:a≤1125899906842624:=by simpa using k5
   have k7:b≤1125899906842624:=by simpa using k7
   have k8:i64.wrap (a+b)=t.cap:=by simpa using k8
   rw [w64 (by omega)] at k8
   rw [w64 (x:=a-0) (by omega),w64 (x:=a-0-res) (by omega),w64 (by omega)]
   refine ⟨fun k9=>good (hr.2 ⟨k1,hs,by omega,by omega,by omega,by omega⟩),fun k9=>bad fun h=> ?_⟩
   have q:=(hr.1 h).2.2.2.2.2
   omega
  ·have:=(hr.1 h).2.2.2;omega
  ·have:=(hr.1 h).2.2.2;omega
 rw [hX] at main
 refine ⟨fun h0=>⟨fun h1=>bad fun h=> ?_,fun h1=>main ?_⟩,fun h0=>main ?_⟩
 ·have:=(hr.1 h).2.1
  have h0:¬side=0:=by simpa using h0
  have h1:¬side=1:=by simpa using h1
  omega
 ·have h1:side=1:=by simpa using h1
  omega
 ·have h0:side=0:=by simpa using h0
  omega
def Zgl (H:List Int→List Int):ZN:=fun args h K=>ZO none h true 20 args fun v=>match v with
 | [.agg [.arr .u8 32 fu,.int .i64 ix,.int .i64 ca,.int .i64 du,.int .i64 fe,.int .i64 de,.arr .u8 32 k0,.arr .u8 32 k1],.int .i64 sd,.int .i64 rs,.agg [.arr .i64 2 [a,b]]]=>
  Yz.Ok ⟨fu,ix,ca,du,fe,de,k0,k1⟩∧Z0 (Yp H (X8 ⟨fu,ix,ca,du,fe,de,k0,k1⟩ sd rs a b)) (K (.tuple [.agg ((X8 ⟨fu,ix,ca,du,fe,de,k0,k1⟩ sd rs a b).c .nilslice),.int .i64 0])) (K (.tuple [.agg (Yl.c .nilslice),.int .i64 2]))
 | _=>False
theorem Zdd {H:List Int→List Int} (args:List AV) (h:Z9) (K:AV→Prop) (hl:Zgl H args h K):Zm PP 10 args h fun o h'=>∃v,o=.ret v∧h'=h∧K v:=by
 refine Zw.psumm (d:=20) (Zq _ _ _ _ _ hl fun a ha=> ?_)
 split at ha
 ·rename_i fu ix ca du fe de k0 k1 sd rs a b
  obtain ⟨ht,hK⟩:=ha
  refine ⟨_,Zw.evV Zft (ZjB ⟨fu,ix,ca,du,fe,de,k0,k1⟩ sd rs a b _ _ _ H ht rfl rfl rfl),fun _=> ?_, ?_⟩
  ·cases Yp H (X8 ⟨fu,ix,ca,du,fe,de,k0,k1⟩ sd rs a b)<;>rfl
  ·cases hb:Yp H (X8 ⟨fu,ix,ca,du,fe,de,k0,k1⟩ sd rs a b)<;>rw [hb] at hK<;>exact hK
 ·exact ha.elim
def ZhC:ZN:=fun args _ K=>match args with
 | []=>K (.bool true)
 | _=>False
def Z6r:Y0:=⟨0,false,0,0,0,Zd,0,0,false,0⟩
def Z0W (A:List Y0) (i:Nat):List AV:=(A.getD i Z6r).c
end Go.Tk
end
section
namespace Go.Tk
open IntKind (i64 u8 u32 u64 wrap)
def lpX (X:Z6) (A:List Y0) (i:Nat):Z6:=(A.take i).foldl actX X
theorem Z37 {X:Z6} {A:List Y0} {i:Nat} (hi:i<A.length):lpX X A (i+1)=actX (lpX X A i) (A.getD i Z6r):=UE actX Z6r hi X
theorem Z1v {X:Z6} (hI:X.Inv Zo) {A:List Y0} (hA:∀a∈A,a.Ok):∀i,i≤A.length→(lpX X A i).Inv Zo∧(lpX X A i).t=X.t
 | 0,_=>⟨hI,rfl⟩
 | i+1,hi=>by
  obtain ⟨h1,h2⟩:=Z1v hI hA i (by omega)
  have ha:(A.getD i Z6r).Ok:=hA _ (by rw [List.getD_eq_getElem?_getD,List.getElem?_eq_getElem hi];exact List.getElem_mem hi)
  rw [Z37 hi]
  exact ⟨h1.actX ha,(Zdc _ _).trans h2⟩
def ZjC (X:Z6) (A:List Y0) (n:Nat):Prop:=n≤60∧A.length=n∧X.Inv Zo∧X.t.fund.length=32∧∀a∈A,a.Ok
end Go.Tk
end
section
namespace Go.Tk
open IntKind (i64 u8 u32 u64 wrap)
theorem Zap {x:Z5}:Z7F ltH [x]:=by simp [Z7F]
def Z80:Ye:=fun args h K=>match args with
 | [.nslice ⟨b,0,70,0,0⟩ 70 _ _,_]=>frA [b] h 20 args fun Bs a=>match Bs,a with
  | [.rows 70 1 f],[.nslice ⟨0,0,70,0,0⟩ 70 1 _,.func (.func 85) [] []]=>match f 0 with
   | [.bool ow,.int .i64 id,.int .i64 am,.arr .u8 32 ha,.int .i64 ex,.int .i64 st,.int .i64 fi,.arr .u8 32 se]=>K (.ret (.tuple [])) ⟨h.next,(b,.rows 70 1 (Z4 [⟨ow,id,am,ha,ex,st,fi,se⟩]))::Yw h.bs b⟩
   | _=>False
  | _,_=>False
 | _=>False
theorem Zaq (args:List AV) (h:Z9) (K:KO) (hl:Z80 args h K):Zm PP 84 args h K:=by
 unfold Z80 at hl
 split at hl
 ·refine Spec.fsumm hl fun Bs a hlen hK0=> ?_
  split at hK0
  ·split at hK0
   ·rename_i f _ _ ow id am ha ex st fi se hf
    have hs:Xw [⟨ow,id,am,ha,ex,st,fi,se⟩] [⟨ow,id,am,ha,ex,st,fi,se⟩] 1:=⟨rfl,by decide,by decide,.refl _,Zap,fun a ha b hb _ _=>by
     simp only [List.mem_cons,List.not_mem_nil,or_false] at ha hb
     rw [ha,hb]⟩
    exact ⟨_,_,_,_,_,Zca (fun i hi=>by
     have:i=0:=by omega
     subst this;rw [hf];rfl) hs,Nat.le_refl _,.ret _ _ rfl,.cons _ _ _ _ _ _ rfl (.rows _ _ _ (fun i _=>Xf _ i)) .nil,hK0⟩
   ·exact hK0.elim
  ·exact hK0.elim
 ·exact hl.elim
noncomputable def ZjD:Zf:=G0.withF 84 Z80
theorem Zfu:ZjD.Ok:=Zf.withF_ok Zr Zaq
theorem ZjE (u:Unit) :
  evF ZjD 40 7 [] ⟨0,[]⟩ (Y8 fun v=>v=.bool true):=by
 refine @Eq.mpr _ (let q1:=[(0:Int),0,0,0,0,0,0,0,0,0,0,0,0,0,0,0,0,0,0,0,0,0,0,0,0,0,0,0,0,0,0];
 let q2:=(2:Int)::q1;
 let q3:=q2=q2;
 let q4:=(1:Int)::q1;
 let q5:=q4=q4;
 let q6:=AV.bool true;
 let q7:=AV.arr u8 32 Zd;
 let q8:=[(600:Int),400];
 let q9:=q8=q8;
 let q10:=(∀(i:Nat),i<1→Yn (ZW 0 (fun (x:Nat)=>[]) (YC [q6,AV.int i64 0,AV.int i64 545,q7,AV.int i64 9,AV.int i64 1,AV.int i64 0,q7] 0 70) i)=true)∧q9∧Zd=Zd∧q9∧Zd=Zd∧q6=q6;
 q3∧q5∧q3∧q5∧q3∧q5∧q3∧q5∧q3∧q5∧(Zd=Zd∧Zd=Zd∧q10)∧q10) (by kernel_rfl) ?_
 conv=>zeta
 trivial
end Go.Tk
end
section
namespace Go.Tk
open IntKind (i64 u8 u32 u64 wrap)
def actTy:List Ty:=[.int .i64,.bool,.int .i64,.int .i64,.int .i64,.arr .u8 32,.int .i64,.int .i64,.bool,.int .i64]
theorem Z6s {l:List AV} (h:Fits actTy l):∃x:Y0,l=x.c∧x.Ok:=by
 unfold actTy at h
 cases h with|cons _ a1 _ u h1 h=>
 cases h with|cons _ a2 _ u h2 h=>
 cases h with|cons _ a3 _ u h3 h=>
 cases h with|cons _ a4 _ u h4 h=>
 cases h with|cons _ a5 _ u h5 h=>
 cases h with|cons _ a6 _ u h6 h=>
 cases h with|cons _ a7 _ u h7 h=>
 cases h with|cons _ a8 _ u h8 h=>
 cases h with|cons _ a9 _ u h9 h=>
 cases h with|cons _ a10 _ u h10 h=>
 cases h;cases h1;cases h2;cases h3;cases h4;cases h5;cases h6;cases h7;cases h8;cases h9;cases h10
 rename_i x1 w1 x2 x3 w3 x4 w4 x5 w5 x6 l6 w6 x7 w7 x8 w8 x9 x10 w10
 exact ⟨⟨x1,x2,x3,x4,x5,x6,x7,x8,x9,x10⟩,rfl,⟨l6,Zbz l6 w6⟩⟩
theorem Zfv {n:Nat} {p:Nat→Y0→Prop} (h:∀i,i<n→∃a,p i a):∃f:Nat→Y0,∀i,i<n→p i (f i):=
 ⟨fun i=>if hi:i<n then Classical.choose (h i hi) else Z6r,fun i hi=>by
  simp only [hi,dite_true]
  exact Classical.choose_spec (h i hi)⟩
theorem Zar {a:AV} (h:Z3P false [.rows 41 actTy] a):∃(n:Nat) (A:List Y0),A.length=n∧(∀m∈A,m.Ok)∧∀(E:Env) (r:Value),Zl E a r→Zl E (.vrows 41 n (Z0W A) n) r:=by
 cases h with|one _ _ h=>
 cases h with|rows esz ts n f hm h=>
 obtain ⟨g,hg⟩:=Zfv fun i hi=>Z6s (h i hi)
 refine ⟨n,(List.range n).map g,by simp,fun m hm=> ?_,fun E r hr=>hr.rowsC fun i hi=> ?_⟩
 ·obtain ⟨i,hi,rfl⟩:=List.mem_map.1 hm
  exact (hg i (List.mem_range.1 hi)).2
 ·unfold Z0W
  rw [(hg i hi).1,List.getD_eq_getElem?_getD,List.getElem?_map,List.getElem?_range hi]
  rfl
theorem Zfw (args:List AV) (h:Z9) (K:AV→Prop) (hl:ZhC args h K):Zm PP 7 args h fun o h'=>∃v,o=.ret v∧h'=h∧K v:=by
 unfold ZhC at hl
 split at hl
 ·exact Yc Zfu rfl (ZjE ()) (fun u hu=>hu▸hl)
 ·exact hl.elim
def ZjF (n:Int):List Int:=n::List.replicate 31 0
def tW:Yz:=⟨Zd,0,1000,10,5,3,ZjF 1,ZjF 2⟩
theorem Zde:tW.Ok:=⟨rfl,rfl,Z0z (by decide),Z0z (by decide)⟩
theorem Zdf (H:List Int→List Int):Yp H (X8 tW 0 50 600 400)=true:=Z0A.2 ⟨by decide,by decide,by decide,by decide,by decide,by decide⟩
theorem Z6t {a:AV} (h:Z3P true actTy a):∃y:Y0,a=.agg y.c∧y.Ok:=by
 cases h with|agg _ u h=>
 obtain ⟨y,rfl,hy⟩:=Z6s h
 exact ⟨y,rfl,hy⟩
end Go.Tk
end
section
namespace Go.Tk
open IntKind (i64 u8 u32 u64 wrap)
theorem Zdg {a b:Z5}:a=b↔a.own=b.own∧a.id=b.id∧a.amount=b.amount∧a.hash=b.hash∧a.expiry=b.expiry∧a.stage=b.stage∧a.fin=b.fin∧a.secret=b.secret:=by
 cases a;cases b;simp
theorem QY {a b:Z5}:(a.own==b.own&&(a.id==b.id&&(a.amount==b.amount&&(a.hash==b.hash&&(a.expiry==b.expiry&&(a.stage==b.stage&&(a.fin==b.fin&&a.secret==b.secret)))))))=true↔a=b:=by
 rw [Zdg];simp only [Bool.and_eq_true,beq_iff_eq]
theorem Z6u {A B:List Z5} (h:A.length=B.length) (hg:∀i,i<A.length→A.getD i Z7=B.getD i Z7):A=B:=List.ext_getElem h fun i h1 h2=>by
 have:=hg i h1
 rwa [List.getD_eq_getElem?_getD,List.getD_eq_getElem?_getD,List.getElem?_eq_getElem h1,List.getElem?_eq_getElem h2] at this
open Classical in
noncomputable def Vq (A B:List Z5):Bool:=decide (A=B)
open Classical in
noncomputable def VG (X Y:Z6):Bool:=decide (X=Y)
theorem Z81 {A B:List Z5} (h:A=B):Vq A B=true:=by unfold Vq;simp [h]
theorem Z38 {A B:List Z5} (h:A≠B):Vq A B=false:=by unfold Vq;simp [h]
theorem Zdh {X Y:Z6} (h:X=Y):VG X Y=true:=by unfold VG;simp [h]
theorem Z39 {X Y:Z6} (h:X≠Y):VG X Y=false:=by unfold VG;simp [h]
theorem Zdi (X Y:Z6):VG X Y=VG Y X:=by
 by_cases h:X=Y
 ·rw [h]
 ·rw [Z39 h,Z39 fun e=>h e.symm]
def Z6v:St:=⟨26,[(4,.bool false)],⟨0,[]⟩,[]⟩
def Zfx (A B:List Z5) (i:Nat):St:=⟨26,[(13,.int .i64 i),(12,.int .i64 A.length),(0,.vrows 70 A.length (Z4 A) A.length),(1,.vrows 70 B.length (Z4 B) B.length)],⟨0,[]⟩,[]⟩
theorem ZjG (A B:List Z5) (n i:Nat) (Z1 Z2 Z3:Prop) (hn:n<1000) (hA:A.length=n) (hB:B.length=n) (hi:i≤n) (hOk:∀h∈A,h.Ok) (hOk':∀h∈B,h.Ok) (h1:i<n→A.getD i Z7=B.getD i Z7→Z1) (h2:i=n→Z2) (h3:i<n→A.getD i Z7≠B.getD i Z7→Z3):
  ZI G0 20 40 0 0 (Z6o A B i) (rdM 0 0 9 (Z6o A B (i+1)) Z3l Z6v Z6v Z1 Z2 Z3 False):=by
 refine @Eq.mpr _ (let q1:=List.length A;
 let q2:=List.length B;
 let q3:=List.getD A (Int.toNat (↑i:Int)) Z7;
 let q4:=q3.hash;
 let q5:=List.getD B (Int.toNat (↑i:Int)) Z7;
 let q6:=q5.hash;
 let q7:=q3.secret;
 let q8:=q5.secret;
 let q9:=decide (q1=q1);
 let q10:=decide (q2=q2);
 Z0 (decide ((↑i:Int)<(↑q1:Int))) (Z0 (decide (0≤(↑i:Int)∧(↑i:Int)<(↑q1:Int))) (Z0 (decide (0≤(↑i:Int)∧(↑i:Int)<(↑q2:Int))) (Z0 (decide (List.length q4=32∧List.length q6=32)) (Z0 (decide (List.length q7=32∧List.length q8=32)) (Z0 (!(q3.own==q5.own&&(q3.id==q5.id&&(q3.amount==q5.amount&&(q4==q6&&(q3.expiry==q5.expiry&&(q3.stage==q5.stage&&(q3.fin==q5.fin&&q7==q8)))))))) Z3 (Z0 (decide (wrap i64 ((↑i:Int)+1)=(↑(i+1):Int))) (Z0 q9 (Z4 A=Z4 A∧Z0 q9 (Z0 q10 (Z4 B=Z4 B∧Z0 q10 Z1 False) False) False) False) False)) False) False) False) False) Z2) (by kernel_rfl) ?_
 conv=>zeta
 try simp only [Zg]
 try simp only [Zi]
 try simp only [Zh]
 try simp only [Zj]
 try simp only [Zk]
 try simp only [Ze]
 try simp only [Int.toNat_natCast,Nat.zero_add,true_and,and_true,Nat.le_refl]
 refine ⟨fun hc=> ?_,fun hc=>h2 (by omega)⟩
 have hlt:i<n:=by omega
 have hwr:i64.wrap ((i:Int)+1)=((i+1:Nat):Int):=by rw [w64 (by omega)];omega
 have hx:=hOk _ (Zz (by omega:i<A.length))
 have hy:=hOk' _ (Zz (by omega:i<B.length))
 have hR:∀{Q:List Z5},Z4 Q=Z4 Q:=rfl
 refine ⟨by omega,by omega,⟨hx.hash,hy.hash⟩,⟨hx.secret,hy.secret⟩,fun hm=>h3 hlt fun he=> ?_,fun hm=> ?_⟩
 ·rw [QY.2 he] at hm;cases hm
 ·have h1:=h1 hlt (QY.1 (by revert hm;cases (_&&_:Bool)<;>simp))
  simp only [hwr,h1,and_self]
theorem ZjH (A B:List Z5) (n i:Nat) (Z1 Z2 Z3:Prop) (hn:n<1000) (hA:A.length=n) (hB:B.length=n) (hi:i≤n) (hOk:∀h∈A,h.Ok) (hOk':∀h∈B,h.Ok) (h1:i<n→A.getD i Z7=B.getD i Z7→Z1) (h2:i=n→Z2) (h3:i<n→A.getD i Z7≠B.getD i Z7→Z3):
  ZI G0 20 46 0 0 (Zfx A B i) (rdM 0 0 9 (Zfx A B (i+1)) Z3l Z6v Z6v Z1 Z2 Z3 False):=by
 refine @Eq.mpr _ (let q1:=List.length A;
 let q2:=(↑q1:Int);
 let q3:=List.length B;
 let q4:=List.getD A (Int.toNat (↑i:Int)) Z7;
 let q5:=q4.hash;
 let q6:=List.getD B (Int.toNat (↑i:Int)) Z7;
 let q7:=q6.hash;
 let q8:=q4.secret;
 let q9:=q6.secret;
 let q10:=decide (q1=q1);
 let q11:=decide (q3=q3);
 Z0 (decide ((↑i:Int)<q2)) (Z0 (decide (0≤(↑i:Int)∧(↑i:Int)<q2)) (Z0 (decide (0≤(↑i:Int)∧(↑i:Int)<(↑q3:Int))) (Z0 (decide (List.length q5=32∧List.length q7=32)) (Z0 (decide (List.length q8=32∧List.length q9=32)) (Z0 (!(q4.own==q6.own&&(q4.id==q6.id&&(q4.amount==q6.amount&&(q5==q7&&(q4.expiry==q6.expiry&&(q4.stage==q6.stage&&(q4.fin==q6.fin&&q8==q9)))))))) Z3 (Z0 (decide (wrap i64 ((↑i:Int)+1)=(↑(i+1):Int))) (Z0 (decide (q2=q2)) (Z0 q10 (Z4 A=Z4 A∧Z0 q10 (Z0 q11 (Z4 B=Z4 B∧Z0 q11 Z1 False) False) False) False) False) False)) False) False) False) False) Z2) (by kernel_rfl) ?_
 conv=>zeta
 try simp only [Zg]
 try simp only [Zi]
 try simp only [Zh]
 try simp only [Zj]
 try simp only [Zk]
 try simp only [Ze]
 try simp only [Int.toNat_natCast,Nat.zero_add,true_and,and_true,Nat.le_refl]
 refine ⟨fun hc=> ?_,fun hc=>h2 (by omega)⟩
 have hlt:i<n:=by omega
 have hwr:i64.wrap ((i:Int)+1)=((i+1:Nat):Int):=by rw [w64 (by omega)];omega
 have hx:=hOk _ (Zz (by omega:i<A.length))
 have hy:=hOk' _ (Zz (by omega:i<B.length))
 have hR:∀{Q:List Z5},Z4 Q=Z4 Q:=rfl
 refine ⟨by omega,by omega,⟨hx.hash,hy.hash⟩,⟨hx.secret,hy.secret⟩,fun hm=>h3 hlt fun he=> ?_,fun hm=> ?_⟩
 ·rw [QY.2 he] at hm;cases hm
 ·have h1:=h1 hlt (QY.1 (by revert hm;cases (_&&_:Bool)<;>simp))
  simp only [hwr,h1,and_self]
noncomputable def ZhD (A B:List Z5) (n:Nat) (C:Prop):Zf:=(G0.withL 40 0 (goM 0 (Z6o A B 0) C (Ys 0 n 9 (fun i=>A.getD i Z7=B.getD i Z7∧i<n) (fun i=>i=n) (fun i=>i<n∧A.getD i Z7≠B.getD i Z7) (fun _=>False) (fun _=>Z3l) (fun _=>Z6v) (fun _=>Z6v)))).withL 46 0 (goM 0 (Zfx A B 0) C (Ys 0 n 9 (fun i=>A.getD i Z7=B.getD i Z7∧i<n) (fun i=>i=n) (fun i=>i<n∧A.getD i Z7≠B.getD i Z7) (fun _=>False) (fun _=>Z3l) (fun _=>Z6v) (fun _=>Z6v)))
def ZkV (A B:List Z5) (n:Nat):Prop:=n<1000∧A.length=n∧B.length=n∧(∀h∈A,h.Ok)∧∀h∈B,h.Ok
theorem Z9c (A B:List Z5) (n:Nat):(ZhD A B n (ZkV A B n)).Ok:=by
 refine Zf.withL_join (H:=G0) (Zf.withGoM (N:=20) (S:=fun i=>Z6o A B i) Zr (by kernel_rfl) fun hC=>⟨rfl,fun i hi _=> ?_⟩) rfl (Zf.withGoM (N:=20) (S:=fun i=>Zfx A B i) Zr (by kernel_rfl) fun hC=>⟨rfl,fun i hi _=> ?_⟩)
 ·exact ZjG A B n i _ _ _ hC.1 hC.2.1 hC.2.2.1 hi hC.2.2.2.1 hC.2.2.2.2 (fun h h'=>⟨⟨h',h⟩,h⟩) (fun h=>h) (fun h h'=>⟨h,h'⟩)
 ·exact ZjH A B n i _ _ _ hC.1 hC.2.1 hC.2.2.1 hi hC.2.2.2.1 hC.2.2.2.2 (fun h h'=>⟨⟨h',h⟩,h⟩) (fun h=>h) (fun h h'=>⟨h,h'⟩)
theorem ZjI (A B:List Z5) (n:Nat) (b:Bool) (C:Prop) (hA:A.length=n) (hC:B.length=n→C) (hb:b=Vq A B):
  evF (ZhD A B n C) 20 40 [.vrows 70 A.length (Z4 A) A.length,.vrows 70 B.length (Z4 B) B.length] ⟨0,[]⟩ (Y8 fun v=>v=.bool b):=by
 refine @Eq.mpr _ (let q1:=List.length A;
 let q2:=List.length B;
 let q3:=AV.bool false=AV.bool b;
 let q4:=decide (q1=q1);
 let q5:=decide (q2=q2);
 Z0 ((↑q1:Int) !=(↑q2:Int)) q3 (Z0 q4 (Z4 A=Z4 A∧Z0 q4 (Z0 q5 (Z4 B=Z4 B∧Z0 q5 (C∧∀(i:Nat),i≤n→(∀(j:Nat),j<i→(fun (i:Nat)=>List.getD A i Z7=List.getD B i Z7∧i<n) j)→(i=n→AV.bool true=AV.bool b)∧(i<n∧List.getD A i Z7≠List.getD B i Z7→q3)∧(False→False)) False) False) False) False)) (by kernel_rfl) ?_
 conv=>zeta
 try simp only [Zg]
 try simp only [Zi]
 try simp only [Zh]
 try simp only [Zj]
 try simp only [Zk]
 try simp only [Ze]
 try simp only [Int.toNat_natCast,Nat.zero_add,true_and,and_true,Nat.le_refl]
 subst hb
 have hne:A.length≠B.length→Vq A B=false:=fun h=>Z38 fun e=>h (by rw [e])
 refine ⟨fun h=> ?_,fun h=> ?_⟩
 ·rw [hne fun e=>by simp [e] at h]
 ·have hl:B.length=n:=by
   have:(A.length:Int)=(B.length:Int):=by simpa using h
   omega
  have hC:=hC hl
  have e1:(∀j,j<A.length→A.getD j Z7=B.getD j Z7)→AV.bool true=AV.bool (Vq A B):=fun hg=>by
   rw [show Vq A B=true from Z81 (Z6u (by omega) hg)]
  have e2:∀i,A.getD i Z7≠B.getD i Z7→AV.bool false=AV.bool (Vq A B):=fun i hi=>by
   rw [show Vq A B=false from Z38 fun e=>hi (by rw [e])]
  repeat' first
   | exact hC
   | apply And.intro
   | rfl
   | (intro i hi hg;exact ⟨fun he=>e1 fun j hj=>(hg j (by omega)).1,fun hx=>e2 i hx.2,fun h=>h⟩)
theorem ZjJ (A B:List Z5) (n:Nat) (b:Bool) (C:Prop) (hA:A.length=n) (hC:B.length=n→C) (hb:b=Vq A B):
  evF (ZhD A B n C) 20 46 [.vrows 70 A.length (Z4 A) A.length,.vrows 70 B.length (Z4 B) B.length] ⟨0,[]⟩ (Y8 fun v=>v=.bool b):=by
 refine @Eq.mpr _ (let q1:=List.length A;
 let q2:=(↑q1:Int);
 let q3:=List.length B;
 let q4:=AV.bool false=AV.bool b;
 let q5:=decide (q1=q1);
 let q6:=decide (q3=q3);
 Z0 (q2 !=(↑q3:Int)) q4 (Z0 (decide (q2=q2)) (Z0 q5 (Z4 A=Z4 A∧Z0 q5 (Z0 q6 (Z4 B=Z4 B∧Z0 q6 (C∧∀(i:Nat),i≤n→(∀(j:Nat),j<i→(fun (i:Nat)=>List.getD A i Z7=List.getD B i Z7∧i<n) j)→(i=n→AV.bool true=AV.bool b)∧(i<n∧List.getD A i Z7≠List.getD B i Z7→q4)∧(False→False)) False) False) False) False) False)) (by kernel_rfl) ?_
 conv=>zeta
 try simp only [Zg]
 try simp only [Zi]
 try simp only [Zh]
 try simp only [Zj]
 try simp only [Zk]
 try simp only [Ze]
 try simp only [Int.toNat_natCast,Nat.zero_add,true_and,and_true,Nat.le_refl]
 subst hb
 have hne:A.length≠B.length→Vq A B=false:=fun h=>Z38 fun e=>h (by rw [e])
 refine ⟨fun h=> ?_,fun h=> ?_⟩
 ·rw [hne fun e=>by simp [e] at h]
 ·have hl:B.length=n:=by
   have:(A.length:Int)=(B.length:Int):=by simpa using h
   omega
  have hC:=hC hl
  have e1:(∀j,j<A.length→A.getD j Z7=B.getD j Z7)→AV.bool true=AV.bool (Vq A B):=fun hg=>by
   rw [show Vq A B=true from Z81 (Z6u (by omega) hg)]
  have e2:∀i,A.getD i Z7≠B.getD i Z7→AV.bool false=AV.bool (Vq A B):=fun i hi=>by
   rw [show Vq A B=false from Z38 fun e=>hi (by rw [e])]
  repeat' first
   | exact hC
   | apply And.intro
   | rfl
   | (intro i hi hg;exact ⟨fun he=>e1 fun j hj=>(hg j (by omega)).1,fun hx=>e2 i hx.2,fun h=>h⟩)
def Z1w:ZN:=fun args h K=>ZO none h true 20 args fun a=>match a with
 | [.vrows 70 n f n',.vrows 70 m g m']=>∃A B,(n=A.length∧n'=n∧m=B.length∧m'=m)∧(f=Z4 A∧g=Z4 B)∧n<1000∧(∀h∈A,h.Ok)∧(∀h∈B,h.Ok)∧K (.bool (Vq A B))
 | _=>False
theorem Z82 (args:List AV) (h:Z9) (K:AV→Prop) (hl:Z1w args h K):Zm PP 40 args h fun o h'=>∃v,o=.ret v∧h'=h∧K v:=by
 refine Zw.psumm (d:=20) (Zq _ _ _ _ _ hl fun a ha=> ?_)
 split at ha
 ·obtain ⟨A,B,⟨rfl,rfl,rfl,rfl⟩,⟨rfl,rfl⟩,h1,h2,h3,hK⟩:=ha
  exact ⟨_,Zw.evV (Z9c A B _) (ZjI A B _ _ _ rfl (fun e=>⟨h1,rfl,e,h2,h3⟩) rfl),fun _=>rfl,hK⟩
 ·exact ha.elim
theorem Zfy (args:List AV) (h:Z9) (K:AV→Prop) (hl:Z1w args h K):Zm PP 46 args h fun o h'=>∃v,o=.ret v∧h'=h∧K v:=by
 refine Zw.psumm (d:=20) (Zq _ _ _ _ _ hl fun a ha=> ?_)
 split at ha
 ·obtain ⟨A,B,⟨rfl,rfl,rfl,rfl⟩,⟨rfl,rfl⟩,h1,h2,h3,hK⟩:=ha
  exact ⟨_,Zw.evV (Z9c A B _) (ZjJ A B _ _ _ rfl (fun e=>⟨h1,rfl,e,h2,h3⟩) rfl),fun _=>rfl,hK⟩
 ·exact ha.elim
theorem Z6w {X Y:Z6} (h1:(X.t.fund==Y.t.fund&&(X.t.index==Y.t.index&&(X.t.cap==Y.t.cap&&(X.t.dust==Y.t.dust&&(X.t.fee==Y.t.fee&&(X.t.delay==Y.t.delay&&(X.t.k0==Y.t.k0&&X.t.k1==Y.t.k1)))))))=true) (h2:(X.side==Y.side)=true) (h3:(X.res==Y.res)=true) (h4:([X.a0,X.a1]==[Y.a0,Y.a1])=true) (h5:([X.i0,X.i1]==[Y.i0,Y.i1])=true):AV.bool (Vq X.L Y.L)=AV.bool (VG X Y):=by
 rcases X with ⟨⟨x1,x2,x3,x4,x5,x6,x7,x8⟩,s,r,p,q,i,j,L⟩
 rcases Y with ⟨⟨y1,y2,y3,y4,y5,y6,y7,y8⟩,s',r',p',q',i',j',L'⟩
 simp only [Bool.and_eq_true,beq_iff_eq,List.cons.injEq,and_true] at h1 h2 h3 h4 h5
 obtain ⟨rfl,rfl,rfl,rfl,rfl,rfl,rfl,rfl⟩:=h1
 obtain ⟨rfl,rfl⟩:=h4
 obtain ⟨rfl,rfl⟩:=h5
 subst h2 h3
 by_cases h:L=L'
 ·subst h;rw [Z81 rfl,Zdh rfl]
 ·rw [Z38 h,Z39 fun e=>h (congrArg Z6.L e)]
theorem Z9d {X Y:Z6} {c:Bool} (h:c=false) (hs:X=Y→c=true):AV.bool false=AV.bool (VG X Y):=by
 rw [Z39 fun e=>by rw [hs e] at h;cases h]
noncomputable def Zdj:Zf:=((G0.withP 40 Z1w).withP 46 Z1w).withP 44 Z9a
theorem Z6x:Zdj.Ok:=Zf.withP_ok (Zf.withP_ok (Zf.withP_ok Zr Z82) Zfy) Z35
theorem ZjK (X Y:Z6) (b:Bool) (hX:X.Inv Zo) (hY:Y.Inv Zo) (fX:X.t.fund.length=32) (fY:Y.t.fund.length=32) (hb:b=VG X Y):
  evF Zdj 20 14 [XW X,XW Y] ⟨0,[]⟩ (Y8 fun v=>v=.bool b):=by
 refine @Eq.mpr _ (let q1:=List.length X.L;
 let q2:=Z4 X.L;
 let q3:=List.length Y.L;
 let q4:=Z4 Y.L;
 let q5:=X.t;
 let q6:=q5.fund;
 let q7:=Y.t;
 let q8:=q7.fund;
 let q9:=q5.k0;
 let q10:=q7.k0;
 let q11:=q5.k1;
 let q12:=q7.k1;
 let q13:=AV.bool false=AV.bool b;
 ∃(X_1:Z6),LV (Z6.c X (AV.vrows 70 q1 q2 q1)) X_1∧X_1.t.cap≠0∧∃(X_2:Z6),LV (Z6.c Y (AV.vrows 70 q3 q4 q3)) X_2∧X_2.t.cap≠0∧Z0 (decide (List.length q6=32∧List.length q8=32)) (Z0 (decide (List.length q9=32∧List.length q10=32)) (Z0 (decide (List.length q11=32∧List.length q12=32)) (Z0 (q6==q8&&(q5.index==q7.index&&(q5.cap==q7.cap&&(q5.dust==q7.dust&&(q5.fee==q7.fee&&(q5.delay==q7.delay&&(q9==q10&&q11==q12))))))) (Z0 (X.side==Y.side) (Z0 (X.res==Y.res) (Z0 ([X.a0,X.a1]==[Y.a0,Y.a1]) (Z0 ([X.i0,X.i1]==[Y.i0,Y.i1]) (∃(A:List Z5),∃(B:List Z5),(q1=List.length A∧q1=q1∧q3=List.length B∧q3=q3)∧(q2=Z4 A∧q4=Z4 B)∧q1<1000∧(∀(h:Z5),List.Mem h A→Z5.Ok h)∧(∀(h:Z5),List.Mem h B→Z5.Ok h)∧AV.bool (Vq A B)=AV.bool b) q13) q13) q13) q13) q13) False) False) False) (by kernel_rfl) ?_
 conv=>zeta
 try simp only [Zg]
 try simp only [Zi]
 try simp only [Zh]
 try simp only [Zj]
 try simp only [Zk]
 try simp only [Ze]
 try simp only [Int.toNat_natCast,Nat.zero_add,true_and,and_true,Nat.le_refl]
 subst hb
 have lx:=hX.len
 repeat' first
  | exact ⟨by first|exact fX|exact hX.tok.k0|exact hX.tok.k1,by first|exact fY|exact hY.tok.k0|exact hY.tok.k1⟩
  | (intro h;refine Z9d h fun e=> ?_;subst e;simp;done)
  | (refine Exists.intro X.L (Exists.intro Y.L ⟨⟨rfl,rfl⟩,⟨rfl,rfl⟩,by omega,hX.ok,hY.ok, ?_⟩);apply Z6w<;>assumption)
  | exact Yj hX.tb
  | exact Yj hY.tb
  | intro _
  | refine Exists.intro X (And.intro (.a rfl) ?_)
  | refine Exists.intro Y (And.intro (.a rfl) ?_)
  | apply And.intro
theorem ZhE (X Y:Z6) (b:Bool) (hX:X.Inv Zo) (hY:Y.Inv Zo) (fX:X.t.fund.length=32) (fY:Y.t.fund.length=32) (hb:b=VG X Y):
  evF Zdj 20 16 [Z0v X,Z0v Y] ⟨0,[]⟩ (Y8 fun v=>v=.bool b):=by
 refine @Eq.mpr _ (let q1:=X.t;
 let q2:=q1.fund;
 let q3:=Y.t;
 let q4:=q3.fund;
 let q5:=q1.k0;
 let q6:=q3.k0;
 let q7:=q1.k1;
 let q8:=q3.k1;
 let q9:=List.length X.L;
 let q10:=List.length Y.L;
 let q11:=AV.bool false=AV.bool b;
 Z0 (decide (List.length q2=32∧List.length q4=32)) (Z0 (decide (List.length q5=32∧List.length q6=32)) (Z0 (decide (List.length q7=32∧List.length q8=32)) (Z0 (q2==q4&&(q1.index==q3.index&&(q1.cap==q3.cap&&(q1.dust==q3.dust&&(q1.fee==q3.fee&&(q1.delay==q3.delay&&(q5==q6&&q7==q8))))))) (Z0 (X.side==Y.side) (Z0 (X.res==Y.res) (Z0 ([X.a0,X.a1]==[Y.a0,Y.a1]) (Z0 ([X.i0,X.i1]==[Y.i0,Y.i1]) (∃(A:List Z5),∃(B:List Z5),(q9=List.length A∧q9=q9∧q10=List.length B∧q10=q10)∧(Z4 X.L=Z4 A∧Z4 Y.L=Z4 B)∧q9<1000∧(∀(h:Z5),List.Mem h A→Z5.Ok h)∧(∀(h:Z5),List.Mem h B→Z5.Ok h)∧AV.bool (Vq A B)=AV.bool b) q11) q11) q11) q11) q11) False) False) False) (by kernel_rfl) ?_
 conv=>zeta
 try simp only [Zg]
 try simp only [Zi]
 try simp only [Zh]
 try simp only [Zj]
 try simp only [Zk]
 try simp only [Ze]
 try simp only [Int.toNat_natCast,Nat.zero_add,true_and,and_true,Nat.le_refl]
 subst hb
 have lx:=hX.len
 repeat' first
  | exact ⟨by first|exact fX|exact hX.tok.k0|exact hX.tok.k1,by first|exact fY|exact hY.tok.k0|exact hY.tok.k1⟩
  | (intro h;refine Z9d h fun e=> ?_;subst e;simp;done)
  | (refine Exists.intro X.L (Exists.intro Y.L ⟨⟨rfl,rfl⟩,⟨rfl,rfl⟩,by omega,hX.ok,hY.ok, ?_⟩);apply Z6w<;>assumption)
  | exact Yj hX.tb
  | exact Yj hY.tb
  | intro _
  | refine Exists.intro X (And.intro (.a rfl) ?_)
  | refine Exists.intro Y (And.intro (.a rfl) ?_)
  | apply And.intro
def Zgm (SB:Z6→Z6→Bool):ZN:=fun args h K=>ZO none h true 20 args fun a=>match a with
 | [.pview cs 0,.pview ws 0]=>∃X Y,LV cs X∧LV ws Y∧X.Inv Zo∧Y.Inv Zo∧X.t.fund.length=32∧Y.t.fund.length=32∧K (.bool (SB X Y))
 | _=>False
theorem Zdk (args:List AV) (h:Z9) (K:AV→Prop) (hl:Zgm VG args h K):Zm PP 14 args h fun o h'=>∃v,o=.ret v∧h'=h∧K v:=by
 refine Zw.psumm (d:=20) (Zq _ _ _ _ _ hl fun a ha=> ?_)
 split at ha
 ·obtain ⟨X,Y,hX,hY,h1,h2,h3,h4,hK⟩:=ha
  exact ⟨_,(Zw.evV Z6x (ZjK X Y _ h1 h2 h3 h4 rfl)).conv fun E r hr=>hr.head (fun _ hc=>Xr hX hc) fun _ hr=>hr.head (fun _ hc=>Xr hY hc) fun _ hc=>hc,fun _=>rfl,hK⟩
 ·exact ha.elim
def Zgn (SB:Z6→Z6→Bool):ZN:=fun args h K=>ZO none h true 20 args fun a=>match a with
 | [.agg cs,.agg ws]=>∃X Y,LV cs X∧LV ws Y∧X.Inv Zo∧Y.Inv Zo∧X.t.fund.length=32∧Y.t.fund.length=32∧K (.bool (SB X Y))
 | _=>False
theorem Zdl (args:List AV) (h:Z9) (K:AV→Prop) (hl:Zgn VG args h K):Zm PP 16 args h fun o h'=>∃v,o=.ret v∧h'=h∧K v:=by
 refine Zw.psumm (d:=20) (Zq _ _ _ _ _ hl fun a ha=> ?_)
 split at ha
 ·obtain ⟨X,Y,hX,hY,h1,h2,h3,h4,hK⟩:=ha
  exact ⟨_,(Zw.evV Z6x (ZhE X Y _ h1 h2 h3 h4 rfl)).conv fun E r hr=>hr.head (fun _ hc=>XX hX hc) fun _ hr=>hr.head (fun _ hc=>XX hY hc) fun _ hc=>hc,fun _=>rfl,hK⟩
 ·exact ha.elim
end Go.Tk
end
section
namespace Go.Tk
open IntKind (i64 u8 u32 u64 wrap)
noncomputable def ZjL:Zf:=(G0.withF 45 Za7).withP 44 Z9a
theorem Zfz:ZjL.Ok:=Zf.withP_ok (Zf.withF_ok Zr QS) Z35
theorem ZjM (X:Z6) (n:Nat) (hX:X.L.length=n) (hn:n<1000) (hc:X.t.cap≠0):
  evF ZjL 20 12 [.ptr (some ⟨0,0,0,0,0⟩)] (Z3j X n) (Y7 2 (.ret (.ptr (some ⟨2,0,0,0,0⟩))) 4 [(0,.flat (X.c (slH 1 n))),(1,.rows 70 n (Z4 X.L)),(2,.flat (X.c (slH 3 n))),(3,.rows 70 n (Z4 X.L))]):=by
 refine @Eq.mpr _ (let q1:=decide (0+n≤n);
 let q2:=X.t;
 let q3:=q2.fund;
 let q4:=q2.index;
 let q5:=q2.cap;
 let q6:=q2.dust;
 let q7:=q2.fee;
 let q8:=q2.delay;
 let q9:=q2.k0;
 let q10:=q2.k1;
 let q11:=X.side;
 let q12:=X.res;
 let q13:=[X.a0,X.a1];
 let q14:=[X.i0,X.i1];
 let q15:=Z4 X.L;
 let q16:=ZK 0 q15;
 let q17:=q3=q3;
 let q18:=decide (q4=q4);
 let q19:=decide (q5=q5);
 let q20:=decide (q6=q6);
 let q21:=decide (q7=q7);
 let q22:=decide (q8=q8);
 let q23:=q9=q9;
 let q24:=q10=q10;
 let q25:=decide (q11=q11);
 let q26:=decide (q12=q12);
 let q27:=q13=q13;
 let q28:=q14=q14;
 let q29:=decide (n=n);
 let q30:=decide (n≤n);
 let q31:=[(3,3),(2,2)];
 Z0 q1 ((∀(i:Nat),i<n→true=true)∧∃(X:Z6),LV [AV.arr u8 32 q3,AV.int i64 q4,AV.int i64 q5,AV.int i64 q6,AV.int i64 q7,AV.int i64 q8,AV.arr u8 32 q9,AV.arr u8 32 q10,AV.int i64 q11,AV.int i64 q12,AV.arr i64 2 q13,AV.arr i64 2 q14,AV.vrows 70 n q16 n] X∧X.t.cap≠0∧Z0 q1 ((∀(i:Nat),i<n→true=true)∧∃(L:List Z5),n=n∧q16=Z4 L∧n<1000000∧q17∧Z0 q18 (Z0 q19 (Z0 q20 (Z0 q21 (Z0 q22 (q23∧q24∧Z0 q25 (Z0 q26 (q27∧q28∧Z0 q29 (Z0 q30 (Z0 q29 (Za 2 q31 n q15 q15∧q17∧Z0 q18 (Z0 q19 (Z0 q20 (Z0 q21 (Z0 q22 (q23∧q24∧Z0 q25 (Z0 q26 (q27∧q28∧Z0 q29 (Z0 q30 (Z0 q29 (Za 2 q31 n q15 (Z4 L)∧True) False) False) False) False) False) False) False) False) False) False) False) False) False) False) False) False) False) False) False) False) False) False) (by kernel_rfl) ?_
 conv=>zeta
 try simp only [Zg]
 try simp only [Zi]
 try simp only [Zh]
 try simp only [Zj]
 try simp only [Zk]
 try simp only [Ze]
 try simp only [Int.toNat_natCast,Nat.zero_add,true_and,and_true,Nat.le_refl]
 subst hX
 repeat' first
  | exact hc
  | refine Exists.intro X (And.intro (.a rfl) ?_)
  | refine Exists.intro X.L (And.intro rfl ?_)
  | (intro _ _;trivial)
  | apply And.intro
  | rfl
  | omega
  | exact Zn fun _ _=>rfl
def Zdm:Ye:=fun args h K=>match args with
 | [.ptr (some ⟨l,0,0,0,0⟩)]=>match h.get l with
  |some (.flat [_,_,_,_,_,_,_,_,_,_,_,_,.nslice ⟨b,0,70,0,0⟩ 70 _ _])=>frA [l,b] h 20 args fun Bs a=>match Bs,a with
   | [.flat cs,.rows 70 n f],[.ptr (some ⟨0,0,0,0,0⟩)]=>
    ∃X,LB cs n f X∧X.L.length<1000∧X.t.cap≠0∧K (.ret (.ptr (some ⟨h.next,0,0,0,0⟩))) ⟨h.next+2,(l,.flat (X.c (slH b X.L.length)))::(b,.rows 70 X.L.length (Z4 X.L))::(h.next,.flat (X.c (slH (h.next+1) X.L.length)))::(h.next+1,.rows 70 X.L.length (Z4 X.L))::Yw (Yw h.bs l) b⟩
   | _,_=>False
  | _=>False
 | _=>False
theorem Zdn (args:List AV) (h:Z9) (K:KO) (hl:Zdm args h K):Zm PP 12 args h K:=by
 unfold Zdm at hl
 split at hl
 ·split at hl
  ·refine Spec.fsumm hl fun Bs a hlen hK0=> ?_
   split at hK0
   ·obtain ⟨X,⟨rfl,rfl,rfl⟩,hn,hc,hK⟩:=hK0
    exact ⟨_,_,_,_,_,.evM Zfz (ZjM X _ rfl hn hc),by simp,.ret _ _ rfl,.cons _ _ _ _ _ _ rfl (.flat _ _ rfl) (.cons _ _ _ _ _ _ rfl (.rows _ _ _ (fun _ _=>rfl)) (.cons _ _ _ _ _ _ rfl (.flat _ _ rfl) (.cons _ _ _ _ _ _ rfl (.rows _ _ _ (fun _ _=>rfl)) .nil))),hK⟩
   ·exact hK0.elim
  ·exact hl.elim
 ·exact hl.elim
end Go.Tk
end
section
namespace Go.Tk
open IntKind (i64 u8 u32 u64 wrap)
noncomputable def ZhF (H:List Int→List Int) (SB:Z6→Z6→Bool):Zf:=(((((((G0.withF 8 (ZfU H)).withP 10 (Zgl H)).withF 11 ZhB).withP 15 Zjo).withP 7 ZhC).withF 12 Zdm).withP 14 (Zgm SB)).withP 16 (Zgn SB)
theorem ZfA:(ZhF Zo VG).Ok:=Zf.withP_ok (Zf.withP_ok (Zf.withF_ok (Zf.withP_ok (Zf.withP_ok (Zf.withF_ok (Zf.withP_ok (Zf.withF_ok Zr Zc6) Zdd) Zfs) Zfo) Zfw) Zdn) Zdk) Zdl
def cpH (X O:Z6) (x y:Y0):Z9:=⟨8,[(0,.flat x.c),(1,.flat y.c),(2,.flat (X.c (slH 3 X.L.length))),(3,.rows 70 X.L.length (Z4 X.L)),(4,.flat (X.c (slH 5 X.L.length))),(5,.rows 70 X.L.length (Z4 X.L)),(6,.flat (O.c (slH 7 O.L.length))),(7,.rows 70 O.L.length (Z4 O.L))]⟩
def cpS (X O:Z6) (A:List Y0) (x y:Y0) (n i:Nat):St:=⟨130,[(13,.int .i64 i),(0,.vrows 41 n (Z0W A) n),(7,pt 2),(9,pt 4),(11,pt 6),(8,.int .i64 0),(12,.int .i64 0),(4,pt 0),(5,pt 1)],cpH X O x y,[]⟩
def cpE (X O:Z6) (x y:Y0):St:=⟨130,[(7,pt 2),(9,pt 4),(11,pt 6),(8,.int .i64 0),(12,.int .i64 0),(4,pt 0),(5,pt 1)],cpH X O x y,[]⟩
def cpN:St:=⟨130,[],⟨0,[]⟩,[]⟩
theorem ZkW (X Y O:Z6) (A:List Y0) (x y:Y0) (n i:Nat) (a:Y0) (H:List Int→List Int) (SB:Z6→Z6→Bool) (Z1 Z2:Prop) (hn:n≤60) (hL:A.length=n) (hi:i≤n) (hI:X.Inv Zo) (hx:i<n→A.getD i Z6r=a) (ha:i<n→a.Ok) (hY:i<n→Y=actX X a) (hZ1:i<n→Z1) (hZ2:i=n→Z2):
  ZI (ZhF H SB) 20 3 0 0 (cpS X O A x y n i) (rdM 0 0 9 (cpS Y O A x y n (i+1)) (cpE X O x y) cpN cpN Z1 Z2 False False):=by
 refine @Eq.mpr _ (let q1:=List.length X.L;
 let q2:=List.getD A (Int.toNat (↑i:Int)) Z6r;
 let q3:=X.t;
 let q4:=q3.fund;
 let q5:=AV.arr u8 32 q4;
 let q6:=q3.index;
 let q7:=AV.int i64 q6;
 let q8:=q3.cap;
 let q9:=AV.int i64 q8;
 let q10:=q3.dust;
 let q11:=AV.int i64 q10;
 let q12:=q3.fee;
 let q13:=AV.int i64 q12;
 let q14:=q3.delay;
 let q15:=AV.int i64 q14;
 let q16:=q3.k0;
 let q17:=AV.arr u8 32 q16;
 let q18:=q3.k1;
 let q19:=AV.arr u8 32 q18;
 let q20:=X.side;
 let q21:=AV.int i64 q20;
 let q22:=X.res;
 let q23:=AV.int i64 q22;
 let q24:=[X.a0,X.a1];
 let q25:=AV.arr i64 2 q24;
 let q26:=[X.i0,X.i1];
 let q27:=AV.arr i64 2 q26;
 let q28:=Z4 X.L;
 let q29:=decide (wrap i64 ((↑i:Int)+1)=(↑(i+1):Int));
 let q30:=decide (n=n);
 let q31:=Z0W A=Z0W A;
 let q32:=decide (x.what=x.what);
 let q33:=decide (x.own=x.own);
 let q34:=decide (x.off=x.off);
 let q35:=decide (x.amount=x.amount);
 let q36:=decide (x.expiry=x.expiry);
 let q37:=x.secret=x.secret;
 let q38:=decide (x.at'=x.at');
 let q39:=decide (x.move=x.move);
 let q40:=decide (x.ours=x.ours);
 let q41:=decide (x.number=x.number);
 let q42:=decide (y.what=y.what);
 let q43:=decide (y.own=y.own);
 let q44:=decide (y.off=y.off);
 let q45:=decide (y.amount=y.amount);
 let q46:=decide (y.expiry=y.expiry);
 let q47:=y.secret=y.secret;
 let q48:=decide (y.at'=y.at');
 let q49:=decide (y.move=y.move);
 let q50:=decide (y.ours=y.ours);
 let q51:=decide (y.number=y.number);
 let q52:=Y.t;
 let q53:=q52.fund;
 let q54:=q52.index;
 let q55:=q52.cap;
 let q56:=q52.dust;
 let q57:=q52.fee;
 let q58:=q52.delay;
 let q59:=q52.k0;
 let q60:=q52.k1;
 let q61:=[Y.a0,Y.a1];
 let q62:=[Y.i0,Y.i1];
 let q63:=List.length Y.L;
 let q64:=[(1,1),(0,0),(6,6),(4,4),(2,2)];
 let q65:=(7,7)::(5,5)::(3,3)::q64;
 let q66:=Z4 Y.L;
 let q67:=O.t;
 let q68:=q67.fund;
 let q69:=q68=q68;
 let q70:=q67.index;
 let q71:=decide (q70=q70);
 let q72:=q67.cap;
 let q73:=decide (q72=q72);
 let q74:=q67.dust;
 let q75:=decide (q74=q74);
 let q76:=q67.fee;
 let q77:=decide (q76=q76);
 let q78:=q67.delay;
 let q79:=decide (q78=q78);
 let q80:=q67.k0;
 let q81:=q80=q80;
 let q82:=q67.k1;
 let q83:=q82=q82;
 let q84:=decide (O.side=O.side);
 let q85:=decide (O.res=O.res);
 let q86:=[O.a0,O.a1];
 let q87:=q86=q86;
 let q88:=[O.i0,O.i1];
 let q89:=q88=q88;
 let q90:=List.length O.L;
 let q91:=decide (q90=q90);
 let q92:=decide (q90≤q90);
 let q93:=Z4 O.L;
 let q94:=Za 0 q65 q90 q93 q93;
 let q95:=(7,7)::(5,9)::(3,8)::q64;
 let q96:=q4=q4;
 let q97:=decide (q6=q6);
 let q98:=decide (q8=q8);
 let q99:=decide (q10=q10);
 let q100:=decide (q12=q12);
 let q101:=decide (q14=q14);
 let q102:=q16=q16;
 let q103:=q18=q18;
 let q104:=decide (q20=q20);
 let q105:=decide (q22=q22);
 let q106:=q24=q24;
 let q107:=q26=q26;
 let q108:=decide (q1=q1);
 let q109:=decide (q1≤q1);
 let q110:=Za 0 q65 q1 q28 q28;
 Z0 (decide ((↑i:Int)<(↑n:Int)))
 (Z0 (decide (0≤(↑i:Int)∧(↑i:Int)<(↑n:Int)))
 ((∀(i:Nat),i<q1→true=true)∧
 (∀(i:Nat),i<q1→true=true)∧
 ∃(X:Z6),
 let q221:=X.t;
 let q222:=q221.fund=q53;
 let q223:=decide (q221.index=q54);
 let q224:=decide (q221.cap=q55);
 let q225:=decide (q221.dust=q56);
 let q226:=decide (q221.fee=q57);
 let q227:=decide (q221.delay=q58);
 let q228:=q221.k0=q59;
 let q229:=q221.k1=q60;
 let q230:=decide (X.side=Y.side);
 let q231:=decide (X.res=Y.res);
 let q232:=[X.a0,X.a1]=q61;
 let q233:=[X.i0,X.i1]=q62;
 let q234:=List.length X.L;
 let q235:=decide (q234=q63);
 let q236:=decide (q63≤q234);
 let q237:=Za 0 q65 q63 q66 (Z4 X.L);
 ∃(a:Y0),
 let q255:=actX X a;
 let q256:=q255.t;
 let q257:=q256.fund=q53;
 let q258:=decide (q256.index=q54);
 let q259:=decide (q256.cap=q55);
 let q260:=decide (q256.dust=q56);
 let q261:=decide (q256.fee=q57);
 let q262:=decide (q256.delay=q58);
 let q263:=q256.k0=q59;
 let q264:=q256.k1=q60;
 let q265:=decide (q255.side=Y.side);
 let q266:=decide (q255.res=Y.res);
 let q267:=[q255.a0,q255.a1]=q61;
 let q268:=[q255.i0,q255.i1]=q62;
 let q269:=q255.L;
 let q270:=List.length q269;
 let q271:=decide (q270=q63);
 let q272:=decide (q63≤q270);
 let q273:=Za 0 q95 q63 q66 (Z4 q269);
 a=Y0.mk q2.what q2.own q2.off q2.amount q2.expiry q2.secret q2.at' q2.move q2.ours q2.number∧
 LA [q5,q7,q9,q11,q13,q15,q17,q19,q21,q23,q25,q27,AV.nslice (ZE.mk 1 0 70 0 0) 70 q1 q1] q1 q28 [q5,q7,q9,q11,q13,q15,q17,q19,q21,q23,q25,q27,AV.nslice (ZE.mk 2 0 70 0 0) 70 q1 q1] q1 q28 X∧
 Z6.Inv Zo X∧
 Y0.Ok a∧
 (We X a→
 Z0 q29
 (Z0 q30
 (q31∧Z0 q30 (Z0 q32 (Z0 q33 (Z0 q34 (Z0 q35 (Z0 q36 (q37∧Z0 q38 (Z0 q39 (Z0 q40 (Z0 q41 (Z0 q42 (Z0 q43 (Z0 q44 (Z0 q45 (Z0 q46 (q47∧Z0 q48 (Z0 q49 (Z0 q50 (Z0 q51 (q222∧Z0 q223 (Z0 q224 (Z0 q225 (Z0 q226 (Z0 q227 (q228∧q229∧Z0 q230 (Z0 q231 (q232∧q233∧Z0 q235 (Z0 q236 (Z0 q235 (q237∧q222∧Z0 q223 (Z0 q224 (Z0 q225 (Z0 q226 (Z0 q227 (q228∧q229∧Z0 q230 (Z0 q231 (q232∧q233∧Z0 q235 (Z0 q236 (Z0 q235 (q237∧q69∧Z0 q71 (Z0 q73 (Z0 q75 (Z0 q77 (Z0 q79 (q81∧q83∧Z0 q84 (Z0 q85 (q87∧q89∧Z0 q91 (Z0 q92 (Z0 q91 (q94∧Z1) False) False) False) False) False) False) False) False) False) False) False) False) False) False) False) False) False) False) False) False) False) False) False) False) False) False) False) False) False) False) False) False) False) False) False) False) False) False) False) False) False) False) False) False) False) False) False) False) False)
 False)
 False)∧
 (¬We X a→
 Z0 q29
 (Z0 q30
 (q31∧
 Z0 q30
 (Z0 q32 (Z0 q33 (Z0 q34 (Z0 q35 (Z0 q36 (q37∧Z0 q38 (Z0 q39 (Z0 q40 (Z0 q41 (Z0 q42 (Z0 q43 (Z0 q44 (Z0 q45 (Z0 q46 (q47∧Z0 q48 (Z0 q49 (Z0 q50 (Z0 q51 (q257∧Z0 q258 (Z0 q259 (Z0 q260 (Z0 q261 (Z0 q262 (q263∧q264∧Z0 q265 (Z0 q266 (q267∧q268∧Z0 q271 (Z0 q272 (Z0 q271 (q273∧q257∧Z0 q258 (Z0 q259 (Z0 q260 (Z0 q261 (Z0 q262 (q263∧q264∧Z0 q265 (Z0 q266 (q267∧q268∧Z0 q271 (Z0 q272 (Z0 q271 (q273∧q69∧Z0 q71 (Z0 q73 (Z0 q75 (Z0 q77 (Z0 q79 (q81∧q83∧Z0 q84 (Z0 q85 (q87∧q89∧Z0 q91 (Z0 q92 (Z0 q91 (Za 0 q95 q90 q93 q93∧Z1) False) False) False) False) False) False) False) False) False) False) False) False) False) False) False) False) False) False) False) False) False) False) False) False) False) False) False) False) False) False) False) False) False) False) False) False) False) False) False) False) False) False) False) False) False) False) False) False) False)
 False)
 False))
 False)
 (Z0 q32 (Z0 q33 (Z0 q34 (Z0 q35 (Z0 q36 (q37∧Z0 q38 (Z0 q39 (Z0 q40 (Z0 q41 (Z0 q42 (Z0 q43 (Z0 q44 (Z0 q45 (Z0 q46 (q47∧Z0 q48 (Z0 q49 (Z0 q50 (Z0 q51 (q96∧Z0 q97 (Z0 q98 (Z0 q99 (Z0 q100 (Z0 q101 (q102∧q103∧Z0 q104 (Z0 q105 (q106∧q107∧Z0 q108 (Z0 q109 (Z0 q108 (q110∧q96∧Z0 q97 (Z0 q98 (Z0 q99 (Z0 q100 (Z0 q101 (q102∧q103∧Z0 q104 (Z0 q105 (q106∧q107∧Z0 q108 (Z0 q109 (Z0 q108 (q110∧q69∧Z0 q71 (Z0 q73 (Z0 q75 (Z0 q77 (Z0 q79 (q81∧q83∧Z0 q84 (Z0 q85 (q87∧q89∧Z0 q91 (Z0 q92 (Z0 q91 (q94∧Z2) False) False) False) False) False) False) False) False) False) False) False) False) False) False) False) False) False) False) False) False) False) False) False) False) False) False) False) False) False) False) False) False) False) False) False) False) False) False) False) False) False) False) False) False) False) False) False) False)) (by kernel_rfl) ?_
 conv=>zeta
 try simp only [Zg]
 try simp only [Zi]
 try simp only [Zh]
 try simp only [Zj]
 try simp only [Zk]
 try simp only [Ze]
 try simp only [Int.toNat_natCast,Nat.zero_add,true_and,and_true,Nat.le_refl]
 refine ⟨fun hc=> ?_,fun hc=> ?_⟩
 ·have hlt:i<n:=by omega
  rw [hx hlt]
  have hwr:i64.wrap ((i:Int)+1)=((i+1:Nat):Int):=by rw [w64 (by omega)];omega
  have hY:=hY hlt
  refine ⟨by omega,fun _ _=>trivial,fun _ _=>trivial,X,a,rfl,⟨rfl,rfl,rfl,rfl,rfl,rfl⟩,hI,ha hlt,fun hk=> ?_,fun hk=> ?_⟩
  ·rw [Zdb hk] at hY
   subst hY
   repeat' first
    | exact hwr
    | exact hZ1 hlt
    | (intro _ _;trivial)
    | apply And.intro
    | rfl
    | omega
    | exact Zn fun _ _=>rfl
  ·rw [←hY]
   repeat' first
    | exact hwr
    | exact hZ1 hlt
    | (intro _ _;trivial)
    | apply And.intro
    | rfl
    | omega
    | exact Zn fun _ _=>rfl
 ·repeat' first
   | exact hZ2 (by omega)
   | apply And.intro
   | rfl
   | omega
   | exact Zn fun _ _=>rfl
noncomputable def Zgo (H:List Int→List Int) (SB:Z6→Z6→Bool) (X0 O:Z6) (A:List Y0) (x y:Y0) (n:Nat) (C:Prop) (E:Nat→St):Zf:=(ZhF H SB).withL 3 0 (goM 0 (cpS X0 O A x y n 0) C (Ys 0 n 9 (fun i=>i<n) (fun i=>i=n) (fun _=>False) (fun _=>False) E (fun _=>cpN) (fun _=>cpN)))
theorem Zdo (X0 O:Z6) (A:List Y0) (x y:Y0) (n:Nat):(Zgo Zo VG X0 O A x y n (ZjC X0 A n) (fun i=>cpE (lpX X0 A i) O x y)).Ok:=
 Zf.withGoM (N:=20) (S:=fun i=>cpS (lpX X0 A i) O A x y n i) ZfA (by kernel_rfl) fun hC=>⟨rfl,fun i hi _=>by
  obtain ⟨h1,h2,h3,h4,h5⟩:=hC
  have hk:=fun j hj=>Z1v h3 h5 j hj
  exact ZkW (lpX X0 A i) (lpX X0 A (i+1)) O A x y n i (A.getD i Z6r) Zo VG _ _ h1 h2 hi (hk i (by omega)).1 (fun _=>rfl) (fun h=>h5 _ (by rw [List.getD_eq_getElem?_getD,List.getElem?_eq_getElem (by omega)];exact List.getElem_mem (by omega))) (fun h=>Z37 (by omega)) (fun h=>⟨h,h⟩) (fun h=>h)⟩
theorem ZkX (H:List Int→List Int) (SB:Z6→Z6→Bool) (X0 O X:Z6) (A:List Y0) (x y:Y0) (n:Nat) (C:Prop) (LF:Nat→Z6) (t:Yz) (ht0:t=tW) (h0:X0=X8 tW 0 50 600 400) (hO:O=X8 tW 1 50 600 400) (hr:Yp H (X8 tW 0 50 600 400)=true) (hrO:Yp H (X8 tW 1 50 600 400)=true) (ht:tW.Ok) (hC:n≤30→C) (hX:X=LF n) (hI:n≤30→X.Inv Zo) (hIO:O.Inv Zo) (hft:n≤30→X.t.fund.length=32) (hx:x.Ok) (hy:y.Ok) (hS:SB=VG) (hne:n≤30→O≠X):
  evF (Zgo H SB X0 O A x y n C fun i=>cpE (LF i) O x y) 20 3 [.vrows 41 n (Z0W A) n,.agg x.c,.agg y.c] ⟨0,[]⟩ (Y8 fun v=>v=.bool true):=by
 refine @Eq.mpr _ (let q1:=AV.bool true;
 let q2:=q1=q1;
 let q3:=[(0:Int),0,0,0,0,0,0,0,0,0,0,0,0,0,0,0,0,0,0,0,0,0,0,0,0,0,0,0,0,0,0];
 let q4:=Yz.mk Zd 0 1000 10 5 3 ((1:Int)::q3) ((2:Int)::q3);
 let q5:=Yz.Ok q4;
 let q6:=decide (n=n);
 let q7:=x.what;
 let q8:=x.own;
 let q9:=x.off;
 let q10:=x.amount;
 let q11:=x.expiry;
 let q12:=x.secret;
 let q13:=x.at';
 let q14:=x.move;
 let q15:=x.ours;
 let q16:=x.number;
 let q17:=y.what;
 let q18:=y.own;
 let q19:=y.off;
 let q20:=y.amount;
 let q21:=y.expiry;
 let q22:=y.secret;
 let q23:=y.at';
 let q24:=y.move;
 let q25:=y.ours;
 let q26:=y.number;
 let q27:=X8 q4 0 50 600 400;
 let q28:=q27.t;
 let q29:=X0.t;
 let q30:=q28.fund=q29.fund;
 let q31:=decide (q28.index=q29.index);
 let q32:=decide (q28.cap=q29.cap);
 let q33:=decide (q28.dust=q29.dust);
 let q34:=decide (q28.fee=q29.fee);
 let q35:=decide (q28.delay=q29.delay);
 let q36:=q28.k0=q29.k0;
 let q37:=q28.k1=q29.k1;
 let q38:=decide (q27.side=X0.side);
 let q39:=decide (q27.res=X0.res);
 let q40:=[q27.a0,q27.a1]=[X0.a0,X0.a1];
 let q41:=[q27.i0,q27.i1]=[X0.i0,X0.i1];
 let q42:=List.length X0.L;
 let q43:=decide (0=q42);
 let q44:=[(7,9),(3,4),(1,1),(0,0),(6,8),(4,6),(2,3)];
 let q45:=decide (q42=0);
 let q46:=X8 q4 1 50 600 400;
 let q47:=q46.t;
 let q48:=O.t;
 let q49:=q48.fund;
 let q50:=q48.index;
 let q51:=q48.cap;
 let q52:=q48.dust;
 let q53:=q48.fee;
 let q54:=q48.delay;
 let q55:=q48.k0;
 let q56:=q48.k1;
 let q57:=[O.a0,O.a1];
 let q58:=[O.i0,O.i1];
 let q59:=List.length O.L;
 let q60:=decide (0=q59);
 let q61:=Z4 O.L;
 let q62:=ZE.mk 1 0 70 0 0;
 let q63:=AV.bool false=q1;
 let q64:=ZE.mk 2 0 70 0 0;
 Z0 (decide ((↑n:Int)>30)) q2
 (q5∧
 q5∧
 q5∧
 Z0 q6
 (Z0W A=Z0W A∧
 Z0 q6
 (Z0 (decide (q7=q7))
 (Z0 (decide (q8=q8))
 (Z0 (decide (q9=q9))
 (Z0 (decide (q10=q10))
 (Z0 (decide (q11=q11))
 (q12=q12∧
 Z0 (decide (q13=q13))
 (Z0 (decide (q14=q14))
 (Z0 (decide (q15=q15))
 (Z0 (decide (q16=q16))
 (Z0 (decide (q17=q17))
 (Z0 (decide (q18=q18))
 (Z0 (decide (q19=q19))
 (Z0 (decide (q20=q20))
 (Z0 (decide (q21=q21))
 (q22=q22∧
 Z0 (decide (q23=q23))
 (Z0 (decide (q24=q24))
 (Z0 (decide (q25=q25))
 (Z0 (decide (q26=q26))
 (q30∧
 Z0 q31
 (Z0 q32
 (Z0 q33
 (Z0 q34
 (Z0 q35
 (q36∧
 q37∧
 Z0 q38
 (Z0 q39
 (q40∧
 q41∧
 Z0 q43
 (Z0 (decide (q42≤0))
 (Z0 q43
 (Za 0 q44 q42 (Z4 X0.L) (Z4 [])∧
 q30∧
 Z0 q31
 (Z0 q32
 (Z0 q33
 (Z0 q34
 (Z0 q35
 (q36∧
 q37∧
 Z0 q38
 (Z0 q39
 (q40∧
 q41∧
 Z0 q45
 (Z0 q45
 (Z0 q45
 (q47.fund=q49∧
 Z0 (decide (q47.index=q50))
 (Z0 (decide (q47.cap=q51))
 (Z0 (decide (q47.dust=q52))
 (Z0 (decide (q47.fee=q53))
 (Z0 (decide (q47.delay=q54))
 (q47.k0=q55∧
 q47.k1=q56∧
 Z0 (decide (q46.side=O.side))
 (Z0 (decide (q46.res=O.res))
 ([q46.a0,q46.a1]=q57∧
 [q46.i0,q46.i1]=q58∧
 Z0 q60
 (Z0 (decide (q59≤0))
 (Z0 q60
 (Za 0 q44 q59 q61 (Z4 [])∧
 C∧
 ∀(i:Nat),
 let q129:=List.length (LF i).L;
 let q130:=(LF i).t;
 let q131:=AV.arr u8 32 q130.fund;
 let q132:=AV.int i64 q130.index;
 let q133:=AV.int i64 q130.cap;
 let q134:=AV.int i64 q130.dust;
 let q135:=AV.int i64 q130.fee;
 let q136:=AV.int i64 q130.delay;
 let q137:=AV.arr u8 32 q130.k0;
 let q138:=AV.arr u8 32 q130.k1;
 let q139:=AV.int i64 (LF i).side;
 let q140:=AV.int i64 (LF i).res;
 let q141:=AV.arr i64 2 [(LF i).a0,(LF i).a1];
 let q142:=AV.arr i64 2 [(LF i).i0,(LF i).i1];
 let q143:=Z4 (LF i).L;
 let q144:=0+q129;
 let q145:=[q131,q132,q133,q134,q135,q136,q137,q138,q139,q140,q141,q142,AV.nslice q64 70 q129 q129];
 i≤n→
 (∀(j:Nat),j<i→(fun (i:Nat)=>i<n) j)→
 (i=n→
 (∀(i:Nat),i<q129→true=true)∧
 ∃(X:Z6),
 let q163:=List.length X.L;
 let q164:=X.t;
 let q165:=q164.cap;
 let q166:=decide (0+q163≤q163);
 let q167:=decide (0+q163≤q163);
 let q168:=AV.arr u8 32 q164.fund;
 let q169:=AV.int i64 q164.index;
 let q170:=AV.int i64 q165;
 let q171:=AV.int i64 q164.dust;
 let q172:=AV.int i64 q164.fee;
 let q173:=AV.int i64 q164.delay;
 let q174:=AV.arr u8 32 q164.k0;
 let q175:=AV.arr u8 32 q164.k1;
 let q176:=AV.int i64 X.side;
 let q177:=AV.int i64 X.res;
 let q178:=AV.arr i64 2 [X.a0,X.a1];
 let q179:=AV.arr i64 2 [X.i0,X.i1];
 let q180:=Z4 X.L;
 let q181:=[q168,q169,q170,q171,q172,q173,q174,q175,q176,q177,q178,q179,AV.vrows 70 q163 (ZK 0 q180) q163];
 let q182:=[q168,q169,q170,q171,q172,q173,q174,q175,q176,q177,q178,q179,AV.nslice q62 70 q163 q163];
 LB [q131,q132,q133,q134,q135,q136,q137,q138,q139,q140,q141,q142,AV.nslice q62 70 q129 q129] q129 q143 X∧
 q163<1000∧
 q165≠0∧
 Z0 q166
 ((∀(i:Nat),i<q163→true=true)∧
 Z0 q167
 ((∀(i:Nat),i<q163→true=true)∧
 ∃(X_1:Z6),
 ∃(Y:Z6),
 LV q181 X_1∧
 LV q181 Y∧
 Z6.Inv Zo X_1∧
 Z6.Inv Zo Y∧
 List.length X_1.t.fund=32∧
 List.length Y.t.fund=32∧
 Z0 (!SB X_1 Y) q63
 (Z0 q167
 ((∀(i:Nat),i<q163→true=true)∧
 Z0 (decide (q144≤q129))
 ((∀(i:Nat),i<q129→true=true)∧
 ∃(X_2:Z6),
 LV q181 X_2∧
 LV [q131,q132,q133,q134,q135,q136,q137,q138,q139,q140,q141,q142,AV.vrows 70 q129 (ZK 0 q143) q129] X_2∧
 Z6.Inv Zo X_2∧
 List.length X_2.t.fund=32∧
 Z0 (decide (0+q59≤q59))
 ((∀(i:Nat),i<q59→true=true)∧
 Z0 q166
 ((∀(i:Nat),i<q163→true=true)∧
 ∃(X_3:Z6),
 ∃(Y_1:Z6),
 LV [AV.arr u8 32 q49,AV.int i64 q50,AV.int i64 q51,AV.int i64 q52,AV.int i64 q53,AV.int i64 q54,AV.arr u8 32 q55,AV.arr u8 32 q56,AV.int i64 O.side,AV.int i64 O.res,AV.arr i64 2 q57,AV.arr i64 2 q58,AV.vrows 70 q59 (ZK 0 q61) q59] X_3∧
 LV q181 Y_1∧
 Z6.Inv Zo X_3∧
 Z6.Inv Zo Y_1∧
 List.length X_3.t.fund=32∧
 List.length Y_1.t.fund=32∧
 Z0 (SB X_3 Y_1) q63
 ((∀(i:Nat),i<q163→true=true)∧
 (∀(i:Nat),i<q129→true=true)∧
 ∃(X_4:Z6),
 let q203:=List.length X_4.L;
 let q204:=0+q203;
 let q205:=decide (q144≤q203);
 let q206:=X_4.t;
 let q207:=AV.arr u8 32 q206.fund;
 let q208:=AV.int i64 q206.index;
 let q209:=AV.int i64 q206.cap;
 let q210:=AV.int i64 q206.dust;
 let q211:=AV.int i64 q206.fee;
 let q212:=AV.int i64 q206.delay;
 let q213:=AV.arr u8 32 q206.k0;
 let q214:=AV.arr u8 32 q206.k1;
 let q215:=AV.int i64 X_4.side;
 let q216:=AV.int i64 X_4.res;
 let q217:=AV.arr i64 2 [X_4.a0,X_4.a1];
 let q218:=AV.arr i64 2 [X_4.i0,X_4.i1];
 let q219:=Z4 X_4.L;
 let q220:=ZK 0 q219;
 let q221:=[q207,q208,q209,q210,q211,q212,q213,q214,q215,q216,q217,q218,AV.vrows 70 q203 q220 q203];
 let q222:=decide (q204≤q203);
 ∃(a:Y0),
 let q243:=actX X_4 a;
 let q244:=q243.L;
 let q245:=List.length q244;
 let q246:=decide (0+q245≤q245);
 let q247:=q243.t;
 let q248:=[AV.arr u8 32 q247.fund,AV.int i64 q247.index,AV.int i64 q247.cap,AV.int i64 q247.dust,AV.int i64 q247.fee,AV.int i64 q247.delay,AV.arr u8 32 q247.k0,AV.arr u8 32 q247.k1,AV.int i64 q243.side,AV.int i64 q243.res,AV.arr i64 2 [q243.a0,q243.a1],AV.arr i64 2 [q243.i0,q243.i1],AV.vrows 70 q245 (ZK 0 (Z4 q244)) q245];
 let q249:=decide (0+q245≤q245);
 a=Y0.mk q7 q8 q9 q10 q11 q12 q13 q14 q15 q16∧
 LA q182 q163 q180 q145 q129 q143 X_4∧
 Z6.Inv Zo X_4∧
 Y0.Ok a∧
 (We X_4 a→
 Z0 (decide (q204≤q203))
 ((∀(i:Nat),i<q203→true=true)∧
 Z0 q205
 ((∀(i:Nat),i<q129→true=true)∧
 ∃(X_5:Z6),
 ∃(Y_2:Z6),
 LV q221 X_5∧
 LV [q131,q132,q133,q134,q135,q136,q137,q138,q139,q140,q141,q142,AV.vrows 70 q129 q220 q129] Y_2∧
 Z6.Inv Zo X_5∧
 Z6.Inv Zo Y_2∧
 List.length X_5.t.fund=32∧
 List.length Y_2.t.fund=32∧
 Z0 q222
 ((∀(i:Nat),i<q203→true=true)∧
 Z0 q167
 ((∀(i:Nat),i<q163→true=true)∧
 ∃(X_6:Z6),
 ∃(Y_3:Z6),
 LV q221 X_6∧
 LV q181 Y_3∧
 Z6.Inv Zo X_6∧
 Z6.Inv Zo Y_3∧
 List.length X_6.t.fund=32∧
 List.length Y_3.t.fund=32∧
 Z0 (!SB X_6 Y_3==SB X_5 Y_2) q63
 (Z0 q167
 ((∀(i:Nat),i<q163→true=true)∧
 Z0 q222
 ((∀(i:Nat),i<q203→true=true)∧
 ∃(X_7:Z6),
 ∃(Y_4:Z6),
 LV q181 X_7∧
 LV q221 Y_4∧
 Z6.Inv Zo X_7∧
 Z6.Inv Zo Y_4∧
 List.length X_7.t.fund=32∧
 List.length Y_4.t.fund=32∧
 Z0 (!SB X_7 Y_4==SB X_5 Y_2) q63
 ((∀(i:Nat),i<q163→true=true)∧
 (∀(i:Nat),i<q203→true=true)∧
 ∃(X_8:Z6),
 let q257:=List.length X_8.L;
 let q258:=decide (q204≤q257);
 let q259:=ZK 0 (Z4 X_8.L);
 let q260:=X_8.t;
 ∃(a:Y0),
 let q265:=actX X_8 a;
 let q266:=q265.L;
 let q267:=List.length q266;
 let q268:=q265.t;
 a=Y0.mk q17 q18 q19 q20 q21 q22 q23 q24 q25 q26∧
 LA q182 q163 q180 q145 q203 q219 X_8∧
 Z6.Inv Zo X_8∧
 Y0.Ok a∧
 (We X_8 a→
 Z0 q222
 ((∀(i:Nat),i<q203→true=true)∧
 Z0 q258
 ((∀(i:Nat),i<q203→true=true)∧
 ∃(X:Z6),
 LV q221 X∧
 LV [q207,q208,q209,q210,q211,q212,q213,q214,q215,q216,q217,q218,AV.vrows 70 q203 q259 q203] X∧
 Z6.Inv Zo X∧
 List.length X.t.fund=32∧
 Z0 (decide (0+q257≤q257))
 ((∀(i:Nat),i<q257→true=true)∧
 Z0 (decide (0+q257≤q257))
 ((∀(i:Nat),i<q257→true=true)∧
 ∃(X:Z6),
 let q273:=LV [AV.arr u8 32 q260.fund,AV.int i64 q260.index,AV.int i64 q260.cap,AV.int i64 q260.dust,AV.int i64 q260.fee,AV.int i64 q260.delay,AV.arr u8 32 q260.k0,AV.arr u8 32 q260.k1,AV.int i64 X_8.side,AV.int i64 X_8.res,AV.arr i64 2 [X_8.a0,X_8.a1],AV.arr i64 2 [X_8.i0,X_8.i1],AV.vrows 70 q257 q259 q257] X;
 q273∧q273∧Z6.Inv Zo X∧List.length X.t.fund=32∧q2)
 False)
 False)
 False)
 False)∧
 (¬We X_8 a→
 Z0 q222
 ((∀(i:Nat),i<q203→true=true)∧
 Z0 q258
 ((∀(i:Nat),i<q203→true=true)∧
 ∃(X_9:Z6),
 LV q221 X_9∧
 LV [q207,q208,q209,q210,q211,q212,q213,q214,q215,q216,q217,q218,AV.vrows 70 q203 q259 q203] X_9∧
 Z6.Inv Zo X_9∧
 List.length X_9.t.fund=32∧
 Z0 (decide (0+q267≤q267))
 ((∀(i:Nat),i<q267→true=true)∧
 Z0 (decide (0+q267≤q267))
 ((∀(i:Nat),i<q267→true=true)∧
 ∃(X:Z6),
 let q273:=LV [AV.arr u8 32 q268.fund,AV.int i64 q268.index,AV.int i64 q268.cap,AV.int i64 q268.dust,AV.int i64 q268.fee,AV.int i64 q268.delay,AV.arr u8 32 q268.k0,AV.arr u8 32 q268.k1,AV.int i64 q265.side,AV.int i64 q265.res,AV.arr i64 2 [q265.a0,q265.a1],AV.arr i64 2 [q265.i0,q265.i1],AV.vrows 70 q267 (ZK 0 (Z4 q266)) q267] X;
 q273∧q273∧Z6.Inv Zo X∧List.length X.t.fund=32∧q2)
 False)
 False)
 False)
 False)))
 False)
 False))
 False)
 False)
 False)
 False)∧
 (¬We X_4 a→
 Z0 q246
 ((∀(i:Nat),i<q245→true=true)∧
 Z0 q205
 ((∀(i:Nat),i<q129→true=true)∧
 ∃(X_5:Z6),
 ∃(Y_2:Z6),
 LV q248 X_5∧
 LV [q131,q132,q133,q134,q135,q136,q137,q138,q139,q140,q141,q142,AV.vrows 70 q129 q220 q129] Y_2∧
 Z6.Inv Zo X_5∧
 Z6.Inv Zo Y_2∧
 List.length X_5.t.fund=32∧
 List.length Y_2.t.fund=32∧
 Z0 q249
 ((∀(i:Nat),i<q245→true=true)∧
 Z0 q167
 ((∀(i:Nat),i<q163→true=true)∧
 ∃(X_6:Z6),
 ∃(Y_3:Z6),
 LV q248 X_6∧
 LV q181 Y_3∧
 Z6.Inv Zo X_6∧
 Z6.Inv Zo Y_3∧
 List.length X_6.t.fund=32∧
 List.length Y_3.t.fund=32∧
 Z0 (!SB X_6 Y_3==SB X_5 Y_2) q63
 (Z0 q167
 ((∀(i:Nat),i<q163→true=true)∧
 Z0 q249
 ((∀(i:Nat),i<q245→true=true)∧
 ∃(X_7:Z6),
 ∃(Y_4:Z6),
 LV q181 X_7∧
 LV q248 Y_4∧
 Z6.Inv Zo X_7∧
 Z6.Inv Zo Y_4∧
 List.length X_7.t.fund=32∧
 List.length Y_4.t.fund=32∧
 Z0 (!SB X_7 Y_4==SB X_5 Y_2) q63
 ((∀(i:Nat),i<q163→true=true)∧
 (∀(i:Nat),i<q203→true=true)∧
 ∃(X_8:Z6),
 let q257:=List.length X_8.L;
 let q258:=X_8.t;
 ∃(a:Y0),
 let q261:=actX X_8 a;
 let q262:=q261.L;
 let q263:=List.length q262;
 let q264:=q261.t;
 a=Y0.mk q17 q18 q19 q20 q21 q22 q23 q24 q25 q26∧
 LA q182 q163 q180 q145 q203 q219 X_8∧
 Z6.Inv Zo X_8∧
 Y0.Ok a∧
 (We X_8 a→
 Z0 q249
 ((∀(i:Nat),i<q245→true=true)∧
 Z0 q246
 ((∀(i:Nat),i<q245→true=true)∧
 ∃(X:Z6),
 LV q248 X∧
 LV q248 X∧
 Z6.Inv Zo X∧
 List.length X.t.fund=32∧
 Z0 (decide (0+q257≤q257))
 ((∀(i:Nat),i<q257→true=true)∧
 Z0 (decide (0+q257≤q257))
 ((∀(i:Nat),i<q257→true=true)∧
 ∃(X:Z6),
 let q269:=LV [AV.arr u8 32 q258.fund,AV.int i64 q258.index,AV.int i64 q258.cap,AV.int i64 q258.dust,AV.int i64 q258.fee,AV.int i64 q258.delay,AV.arr u8 32 q258.k0,AV.arr u8 32 q258.k1,AV.int i64 X_8.side,AV.int i64 X_8.res,AV.arr i64 2 [X_8.a0,X_8.a1],AV.arr i64 2 [X_8.i0,X_8.i1],AV.vrows 70 q257 (ZK 0 (Z4 X_8.L)) q257] X;
 q269∧q269∧Z6.Inv Zo X∧List.length X.t.fund=32∧q2)
 False)
 False)
 False)
 False)∧
 (¬We X_8 a→
 Z0 q249
 ((∀(i:Nat),i<q245→true=true)∧
 Z0 q246
 ((∀(i:Nat),i<q245→true=true)∧
 ∃(X_9:Z6),
 LV q248 X_9∧
 LV q248 X_9∧
 Z6.Inv Zo X_9∧
 List.length X_9.t.fund=32∧
 Z0 (decide (0+q263≤q263))
 ((∀(i:Nat),i<q263→true=true)∧
 Z0 (decide (0+q263≤q263))
 ((∀(i:Nat),i<q263→true=true)∧
 ∃(X:Z6),
 let q269:=LV [AV.arr u8 32 q264.fund,AV.int i64 q264.index,AV.int i64 q264.cap,AV.int i64 q264.dust,AV.int i64 q264.fee,AV.int i64 q264.delay,AV.arr u8 32 q264.k0,AV.arr u8 32 q264.k1,AV.int i64 q261.side,AV.int i64 q261.res,AV.arr i64 2 [q261.a0,q261.a1],AV.arr i64 2 [q261.i0,q261.i1],AV.vrows 70 q263 (ZK 0 (Z4 q262)) q263] X;
 q269∧q269∧Z6.Inv Zo X∧List.length X.t.fund=32∧q2)
 False)
 False)
 False)
 False)))
 False)
 False))
 False)
 False)
 False)
 False)))
 False)
 False)
 False)
 False))
 False)
 False)∧
 (False→False)∧(False→False))
 False)
 False)
 False)
 False)
 False)
 False)
 False)
 False)
 False)
 False)
 False)
 False)
 False)
 False)
 False)
 False)
 False)
 False)
 False)
 False)
 False)
 False)
 False)
 False)
 False)
 False)
 False)
 False)
 False)
 False)
 False)
 False)
 False)
 False)
 False)
 False)
 False)
 False)
 False)
 False)
 False)
 False)
 False)
 False)
 False)
 False)
 False)
 False)
 False)
 False)) (by kernel_rfl) ?_
 conv=>zeta
 try simp only [Zg]
 try simp only [Zi]
 try simp only [Zh]
 try simp only [Zj]
 try simp only [Zk]
 try simp only [Ze]
 try simp only [Int.toNat_natCast,Nat.zero_add,true_and,and_true,Nat.le_refl]
 subst h0 hO hS
 refine ⟨fun _=>trivial,fun hn=> ?_⟩
 replace hI:=hI (by omega)
 replace hC:=hC (by omega)
 replace hft:=hft (by omega)
 replace hne:=hne (by omega)
 have hcap:=Yj hI.tb
 have hlen:X.L.length<1000:=by have:=hI.len;omega
 have iY:=hI.actX hx
 have iZ:=hI.actX hy
 have fY:(actX X x).t.fund.length=32:=by rw [Zdc];exact hft
 have fZ:(actX X y).t.fund.length=32:=by rw [Zdc];exact hft
 have fO:(X8 tW 1 50 600 400).t.fund.length=32:=rfl
 have e1:VG X X=true:=Zdh rfl
 have e2:VG (X8 tW 1 50 600 400) X=false:=Z39 hne
 have e3:=Zdi X (actX X x)
 refine ⟨ht,ht,ht, ?_⟩
 generalize hY:actX X x=Y at*
 generalize hZ:actX X y=Z at*
 repeat' first
  | exact hC
  | rfl
  | exact Zn fun _ _=>rfl
  | exact Nat.le_refl 0
  | (intro i hi hg;refine ⟨fun he=> ?_,fun h=>h,fun h=>h⟩;subst he;rw [←hX])
  | apply And.intro
 ·intro _ _;trivial
 refine ⟨X,⟨rfl,rfl,rfl⟩, ?_⟩
 repeat' first
  | assumption
  | (intro _ _;trivial)
  | exact Nat.le_refl _
  | (intro h;exfalso;simp [e1,e2,e3] at h;done)
  | apply And.intro
  | (intro _;refine And.intro ?_ ?_)
 refine ⟨X,X,.a rfl,.a rfl, ?_⟩
 repeat' first
  | assumption
  | (intro _ _;trivial)
  | exact Nat.le_refl _
  | (intro h;exfalso;simp [e1,e2,e3] at h;done)
  | apply And.intro
  | (intro _;refine And.intro ?_ ?_)
 refine ⟨X,.a rfl,.a rfl, ?_⟩
 repeat' first
  | assumption
  | (intro _ _;trivial)
  | exact Nat.le_refl _
  | (intro h;exfalso;simp [e1,e2,e3] at h;done)
  | apply And.intro
  | (intro _;refine And.intro ?_ ?_)
 refine ⟨X8 tW 1 50 600 400,X,.a rfl,.a rfl, ?_⟩
 repeat' first
  | assumption
  | (intro _ _;trivial)
  | exact Nat.le_refl _
  | (intro h;exfalso;simp [e1,e2,e3] at h;done)
  | apply And.intro
  | (intro _;refine And.intro ?_ ?_)
 refine ⟨X,x,rfl,⟨rfl,rfl,rfl,rfl,rfl,rfl⟩,hI,hx,fun hk=> ?_,fun hk=> ?_⟩
 ·repeat' first
   | assumption
   | (intro _ _;trivial)
   | exact Nat.le_refl _
   | (intro h;exfalso;simp [e1,e2,e3] at h;done)
   | apply And.intro
   | (intro _;refine And.intro ?_ ?_)
  refine ⟨X,X,.a rfl,.a rfl, ?_⟩
  repeat' first
   | assumption
   | (intro _ _;trivial)
   | exact Nat.le_refl _
   | (intro h;exfalso;simp [e1,e2,e3] at h;done)
   | apply And.intro
   | (intro _;refine And.intro ?_ ?_)
  refine ⟨X,X,.a rfl,.a rfl, ?_⟩
  repeat' first
   | assumption
   | (intro _ _;trivial)
   | exact Nat.le_refl _
   | (intro h;exfalso;simp [e1,e2,e3] at h;done)
   | apply And.intro
   | (intro _;refine And.intro ?_ ?_)
  refine ⟨X,X,.a rfl,.a rfl, ?_⟩
  repeat' first
   | assumption
   | (intro _ _;trivial)
   | exact Nat.le_refl _
   | (intro h;exfalso;simp [e1,e2,e3] at h;done)
   | apply And.intro
   | (intro _;refine And.intro ?_ ?_)
  refine ⟨X,y,rfl,⟨rfl,rfl,rfl,rfl,rfl,rfl⟩,hI,hy,fun hk=> ?_,fun hk=> ?_⟩
  ·repeat' first
    | assumption
    | (intro _ _;trivial)
    | exact Nat.le_refl _
    | (intro h;exfalso;simp [e1,e2,e3] at h;done)
    | apply And.intro
    | (intro _;refine And.intro ?_ ?_)
   refine ⟨X,.a rfl,.a rfl, ?_⟩
   repeat' first
    | assumption
    | (intro _ _;trivial)
    | exact Nat.le_refl _
    | (intro h;exfalso;simp [e1,e2,e3] at h;done)
    | apply And.intro
    | (intro _;refine And.intro ?_ ?_)
   refine ⟨X,.a rfl,.a rfl, ?_⟩
   repeat' first
    | assumption
    | (intro _ _;trivial)
    | exact Nat.le_refl _
    | (intro h;exfalso;simp [e1,e2,e3] at h;done)
    | apply And.intro
    | (intro _;refine And.intro ?_ ?_)
  ·rw [hZ]
   repeat' first
    | assumption
    | (intro _ _;trivial)
    | exact Nat.le_refl _
    | (intro h;exfalso;simp [e1,e2,e3] at h;done)
    | apply And.intro
    | (intro _;refine And.intro ?_ ?_)
   refine ⟨X,.a rfl,.a rfl, ?_⟩
   repeat' first
    | assumption
    | (intro _ _;trivial)
    | exact Nat.le_refl _
    | (intro h;exfalso;simp [e1,e2,e3] at h;done)
    | apply And.intro
    | (intro _;refine And.intro ?_ ?_)
   refine ⟨Z,.a rfl,.a rfl, ?_⟩
   repeat' first
    | assumption
    | (intro _ _;trivial)
    | exact Nat.le_refl _
    | (intro h;exfalso;simp [e1,e2,e3] at h;done)
    | apply And.intro
    | (intro _;refine And.intro ?_ ?_)
 ·rw [hY]
  repeat' first
   | assumption
   | (intro _ _;trivial)
   | exact Nat.le_refl _
   | (intro h;exfalso;simp [e1,e2,e3] at h;done)
   | apply And.intro
   | (intro _;refine And.intro ?_ ?_)
  refine ⟨Y,X,.a rfl,.a rfl, ?_⟩
  repeat' first
   | assumption
   | (intro _ _;trivial)
   | exact Nat.le_refl _
   | (intro h;exfalso;simp [e1,e2,e3] at h;done)
   | apply And.intro
   | (intro _;refine And.intro ?_ ?_)
  refine ⟨Y,X,.a rfl,.a rfl, ?_⟩
  repeat' first
   | assumption
   | (intro _ _;trivial)
   | exact Nat.le_refl _
   | (intro h;exfalso;simp [e1,e2,e3] at h;done)
   | apply And.intro
   | (intro _;refine And.intro ?_ ?_)
  refine ⟨X,Y,.a rfl,.a rfl, ?_⟩
  repeat' first
   | assumption
   | (intro _ _;trivial)
   | exact Nat.le_refl _
   | (intro h;exfalso;simp [e1,e2,e3] at h;done)
   | apply And.intro
   | (intro _;refine And.intro ?_ ?_)
  refine ⟨X,y,rfl,⟨rfl,rfl,rfl,rfl,rfl,rfl⟩,hI,hy,fun hk=> ?_,fun hk=> ?_⟩
  ·repeat' first
    | assumption
    | (intro _ _;trivial)
    | exact Nat.le_refl _
    | (intro h;exfalso;simp [e1,e2,e3] at h;done)
    | apply And.intro
    | (intro _;refine And.intro ?_ ?_)
   refine ⟨Y,.a rfl,.a rfl, ?_⟩
   repeat' first
    | assumption
    | (intro _ _;trivial)
    | exact Nat.le_refl _
    | (intro h;exfalso;simp [e1,e2,e3] at h;done)
    | apply And.intro
    | (intro _;refine And.intro ?_ ?_)
   refine ⟨X,.a rfl,.a rfl, ?_⟩
   repeat' first
    | assumption
    | (intro _ _;trivial)
    | exact Nat.le_refl _
    | (intro h;exfalso;simp [e1,e2,e3] at h;done)
    | apply And.intro
    | (intro _;refine And.intro ?_ ?_)
  ·rw [hZ]
   repeat' first
    | assumption
    | (intro _ _;trivial)
    | exact Nat.le_refl _
    | (intro h;exfalso;simp [e1,e2,e3] at h;done)
    | apply And.intro
    | (intro _;refine And.intro ?_ ?_)
   refine ⟨Y,.a rfl,.a rfl, ?_⟩
   repeat' first
    | assumption
    | (intro _ _;trivial)
    | exact Nat.le_refl _
    | (intro h;exfalso;simp [e1,e2,e3] at h;done)
    | apply And.intro
    | (intro _;refine And.intro ?_ ?_)
   refine ⟨Z,.a rfl,.a rfl, ?_⟩
   repeat' first
    | assumption
    | (intro _ _;trivial)
    | exact Nat.le_refl _
    | (intro h;exfalso;simp [e1,e2,e3] at h;done)
    | apply And.intro
    | (intro _;refine And.intro ?_ ?_)
end Go.Tk
end
section
namespace Go.Tk
open IntKind (i64 u8 u32 u64 wrap)
theorem Zdp (X:Z6) (a:Y0):(actX X a).side=X.side:=by
 unfold actX addX endX stpX brkX Xq
 repeat' split
 all_goals rfl
theorem Z6y {X:Z6} {A:List Y0}:∀i,i≤A.length→(lpX X A i).side=X.side
 | 0,_=>rfl
 | i+1,hi=>by rw [Z37 hi,Zdp,Z6y i (by omega)]
theorem ledgercopies_walk {us:List AV} (h:Z3Q [(false,[.rows 41 actTy]),(true,actTy),(true,actTy)] us):Zm PP 3 us ⟨0,[]⟩ fun o h'=>∃v,o=.ret v∧h'=⟨0,[]⟩∧v=.bool true:=by
 cases h with|cons _ _ a _ _ h1 h=>
 cases h with|cons _ _ b _ _ h2 h=>
 cases h with|cons _ _ c _ _ h3 h=>
 cases h
 obtain ⟨n,A,hn,hA,hr⟩:=Zar h1
 obtain ⟨x,rfl,hx⟩:=Z6t h2
 obtain ⟨y,rfl,hy⟩:=Z6t h3
 have hb:=Zdf Zo
 have hbO:Yp Zo (X8 tW 1 50 600 400)=true:=Z0A.2 ⟨by decide,by decide,by decide,by decide,by decide,by decide⟩
 have hI0:(X8 tW 0 50 600 400).Inv Zo:=(Z8D Zde (fun h hh=>by cases hh)).1 hb
 have hIO:(X8 tW 1 50 600 400).Inv Zo:=(Z8D Zde (fun h hh=>by cases hh)).1 hbO
 have hE:=Zdo (X8 tW 0 50 600 400) (X8 tW 1 50 600 400) A x y n
 have hv:=ZkX Zo VG (X8 tW 0 50 600 400) (X8 tW 1 50 600 400) (lpX (X8 tW 0 50 600 400) A n) A x y n (ZjC (X8 tW 0 50 600 400) A n) (fun i=>lpX (X8 tW 0 50 600 400) A i) tW rfl rfl rfl hb hbO Zde (fun h30=>⟨by omega,hn,hI0,rfl,hA⟩) rfl (fun h30=>(Z1v hI0 hA n (by omega)).1) hIO (fun h30=>by rw [(Z1v hI0 hA n (by omega)).2];rfl) hx hy rfl (fun h30 e=>by have:=Z6y (X:=X8 tW 0 50 600 400) (A:=A) n (by omega);rw [←e] at this;exact absurd this (by decide))
 exact (Yc (h:=⟨0,[]⟩) hE rfl hv (fun u hu=>hu)).conv fun E r hr0=>hr0.head (fun _ hc=>hr E _ hc) fun _ hc=>hc
end Go.Tk
namespace Go.Proofs.YtjahlbmhknicjaaGreat.ledgerCopies
open Go.ChangeShapes Go.WideShapes Go.ChangeAt Go.RowKit
theorem own:ownKnob Tryz.prog.godebug=none:=by kernel_rfl
theorem laidOut:laidOutB Tryz.prog=true:=by kernel_rfl
theorem lifted (os:Os) (started:os.Started) (H:Type) (enc:TypeId×Value→H):
  ReturnsInHanded {} Tryz.checked os 3 .any (Rows.ledgerCopiesSpec.pre6 enc Tryz.prog Tryz.f3 Rows.ledgerCopiesRow.domain false) (Rows.ledgerCopiesSpec.post enc Tryz.prog Tryz.f3 false true false false):=
 Go.Tk.lifted_gen (C:=Tryz.checked) (m:=8) (τs:=[(false,[.rows 41 Go.Tk.actTy]),(true,Go.Tk.actTy),(true,Go.Tk.actTy)]) own laidOut started (by kernel_rfl) Tryz.func3
  (ChangeSpec.witness6 (enc:=enc) (C:=Tryz.checked) false ⟨#[], #[.slice none 0 0,.agg (#[.int .i64 0,.bool false,.int .i64 0,.int .i64 0,.int .i64 0]++Array.replicate 32 (.int .u8 0)++ #[.int .i64 0,.int .i64 0,.bool false,.int .i64 0]),.agg (#[.int .i64 0,.bool false,.int .i64 0,.int .i64 0,.int .i64 0]++Array.replicate 32 (.int .u8 0)++ #[.int .i64 0,.int .i64 0,.bool false,.int .i64 0])],[]⟩ 8 (by kernel_rfl) (by kernel_rfl) (by kernel_rfl) (by kernel_rfl))
  rfl (tb:=4) rfl Tryz.underlying4 (by kernel_rfl) (by kernel_rfl) (fun ds h=>by
   match ds,h with
   | [a,b,c],_=>rfl) fun us h=>Go.Tk.ledgercopies_walk h
theorem ZhG:Tryz.pinned.checked.prog.funcNamed Rows.ledgerCopiesRow.func=some 3:=by kernel_rfl
theorem closed:joinedFacts Tryz.pinned.checked.prog 3 Tryz.f3 Rows.ledgerCopiesSpec Rows.ledgerCopiesRow=true:=by
 unfold joinedFacts
 repeat' with_reducible refine Go.Tk.and_mk ?_ ?_
 all_goals as_aux_lemma=>kernel_rfl
theorem over:Rows.ledgerCopiesRow.holds Tryz.pinned (OpenSpec.ofChange Rows.ledgerCopiesSpec):=
 OpenClaim.holds_of_wide 3 Tryz.f3 rfl rfl rfl rfl rfl rfl rfl ⟨rfl,rfl,rfl,rfl,rfl⟩ rfl rfl rfl rfl rfl ZhG Tryz.func3 closed
  (of_decide_eq_true (by kernel_rfl)) (by unfold Func.isWrapper;first|(rw [if_pos (by decide+kernel)];kernel_rfl)|(rw [if_neg (by decide+kernel)];exact ⟨rfl,rfl⟩))
  (fun os started H enc _=>lifted os started H enc)
theorem proved:Rows.LedgerCopiesSaid:=over
end Go.Proofs.YtjahlbmhknicjaaGreat.ledgerCopies
end
