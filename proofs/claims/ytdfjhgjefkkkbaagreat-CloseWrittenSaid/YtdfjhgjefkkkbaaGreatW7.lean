/- W: part 7 of an engine (a symbolic evaluator, proved against the model) and of the walk by it. -/
import Derived.Test.YtdfjhgjefkkkbaaGreatW6
set_option linter.unusedVariables false
set_option linter.unusedSimpArgs false
set_option maxRecDepth 100000
set_option maxHeartbeats 0
section
namespace Go.Tk
open IntKind (i64 u8 u32 u64 wrap)
variable {args:List AV} {xs:LI} {v:Int} {u:AV} {F:LI->Int×Int} {Tg:LI->TxS->LI} {SB:Zo->Bool}
theorem Zx.evV {G:Za} (hG:G.Ok) {n:Nat} {f:FuncId} {v:AV} (h:evF G n f args ⟨0,[]⟩ (Xr fun u=>u=v)):Zx G.P f args v 0 []:=by
 intro E w rs he hr
 refine (Y5 hG h E w rs he hr).mono ?_
 rintro e w' ⟨E₁,o,h',hK0,hev,hor⟩
 cases hor with
 | panic u r hr=>exact hK0.elim
 | ret u r hr=>
  unfold Xr at hK0
  simp only at hK0
  split at hK0
  ·rename_i hu
   subst hK0
   refine ⟨E,r,rfl,⟨.refl E,⟨he.fresh,fun x B hx=>by simp [Z8.get,ZZ] at hx,fun x B hx=>by simp [Z8.get,ZZ] at hx,fun x y B B' b N N' hx=>by simp [Z8.get,ZZ] at hx,fun a c hi=>hev.emb.imm a c (hev.le.imm a c hi),fun a c x B N _ hx=>by simp [Z8.get,ZZ] at hx⟩,hev.size,hev.os,hev.tape,hev.output,hev.keep,fun b hb=> ?_,fun _ _ h=>h⟩,Zk.vplain (E:=E₁) (E':=E) (fun a c hi=>hev.imm a c hi) _ _ hu hr⟩
   obtain ⟨x,B,N,hx,_⟩:=hb
   simp [Z8.get,ZZ] at hx
  ·exact hK0.elim
def Ym (A:LI->Int×Int) (k:ClS):Bool:=Yj k.t&&decide (0<=k.side/\k.side<=1)&&decide ((A [k.a0,k.a1]).2=0)&&decide ((A [k.a0,k.a1]).1=k.t.cap)&&decide (0<=k.least/\k.least<=k.most)&&decide (k.most<=k.a0)
theorem X6 {k:ClS}:Ym ZJ k=true↔Z1I k:=by
 unfold Ym
 simp only [J3,decide_eq_true_eq]
 constructor
 ·rintro ⟨⟨⟨⟨⟨h1,h2⟩,h3⟩,h4⟩,h5⟩,h6⟩
  have:=Wl.1 (Z18.2 ⟨h1,h3,h4,(⟨Int.le_refl 0,by omega⟩:(0:Int)<=0/\0<=k.a0)⟩)
  exact ⟨h1,by omega,this.2.1.1.1,this.2.1.2.1,this.2.2.1,h5.1,h5.2,h6⟩
 ·rintro ⟨h1,h2,h3,h4,h5,h6,h7,h8⟩
  have hd:=Wo h1
  have:=Z18.1 (Wl.2 ⟨h1,⟨⟨h3,by omega⟩,h4,by omega⟩,h5,(⟨Int.le_refl 0,h3⟩:(0:Int)<=0/\0<=k.a0)⟩)
  exact ⟨⟨⟨⟨⟨h1,by omega⟩,this.2.1⟩,this.2.2.1⟩,⟨h6,h7⟩⟩,h8⟩
noncomputable def Zoe (A:LI->Int×Int):Za:=(G0.withP 44 Z7E).withP 74 (Zao A)
theorem Zil:(Zoe ZJ).Ok:=Za.withP_ok (Za.withP_ok Zr Z3X) Z3C
theorem Zof (A:LI->Int×Int) (k:ClS) (b:Bool) (ht:k.t.Ok) (hb:b=Ym A k):
  evF (Zoe A) 20 30 [.agg k.c] ⟨0,[]⟩ (Xr fun v=>v=.bool b):=by
 refine @Eq.mpr _ (let a:=k.t;let f:=a.cap;let e:=Zp.mk a.fund a.index f a.dust a.fee a.delay a.k0 a.k1;let d:=A [k.a0,k.a1];let c:=AV.bool false=AV.bool b;
 Zp.Ok e/\Z0 ((if Yj e=true then (0:Int) else (2:Int))==(0:Int)) (Z0 (decide ((0:Int)<=k.side)) (Z0 (decide (k.side<=(1:Int))) (Z0 (d.snd==(0:Int)) (Z0 (d.fst==f) (Z0 (decide ((0:Int)<=k.least)) (Z0 (decide (k.least<=k.most)) (AV.bool (decide (k.most<=k.a0))=AV.bool b) c) c) c) c) c) c) c) (by kernel_rfl) ?_
 conv=>zeta
 try simp only [vcA]
 try simp only [vcB]
 try simp only [vcC]
 have e0:Zp.mk k.t.fund k.t.index k.t.cap k.t.dust k.t.fee k.t.delay k.t.k0 k.t.k1=k.t:=rfl
 simp only [e0]
 subst hb
 refine ⟨ht, ?_⟩
 unfold Ym
 cases Yj k.t<;>by_cases c1:0<=k.side<;>by_cases c2:k.side<=1<;>by_cases c3:(A [k.a0,k.a1]).2=0<;>by_cases c4:(A [k.a0,k.a1]).1=k.t.cap<;>by_cases c5:0<=k.least<;>by_cases c6:k.least<=k.most<;>simp [c1,c2,c3,c4,c5,c6]
theorem Zog (A:LI->Int×Int) (k:ClS) (b:Bool) (hA:A=ZJ) (ht:k.t.Ok) (hb:b=Ym A k):
  evF (G0.withP 112 Z3Y) 20 51 [.agg k.c] ⟨0,[]⟩ (Xr fun v=>v=.bool b):=by
 refine @Eq.mpr _ (let c:=k.t;let h:=c.cap;let g:=Zp.mk c.fund c.index h c.dust c.fee c.delay c.k0 c.k1;let d:=k.a0;let e:=k.a1;let a:=AV.bool false=AV.bool b;let f:=Z0 (decide (d>=0)) (Z0 (decide (d<=1125899906842624)) (Z0 (decide (e>=0)) (Z0 (decide (e<=1125899906842624)) (Z0 (wrap i64 (d+e)==h) (Z0 (decide (k.least>=0)) (Z0 (decide (k.least<=k.most)) (AV.bool (decide (k.most<=d))=AV.bool b) a) a) a) a) a) a) a;
 Zp.Ok g/\Z0 (Yj g) (Z0 (k.side==0) f (Z0 (k.side==1) f a)) a) (by kernel_rfl) ?_
 conv=>zeta
 try simp only [vcA]
 try simp only [vcB]
 try simp only [vcC]
 have e0:Zp.mk k.t.fund k.t.index k.t.cap k.t.dust k.t.fee k.t.delay k.t.k0 k.t.k1=k.t:=rfl
 simp only [e0]
 subst hA hb
 refine ⟨ht, ?_⟩
 cases hb:Ym ZJ k with
 | true=>
  obtain ⟨m1,m2,m3,m4,m5,m6,m7,m8⟩:=X6.1 hb
  have hd:=Wo m1
  have hw:i64.wrap (k.a0+k.a1)=k.t.cap:=by rw [w64 (by omega)];exact m5
  have q1:k.a0<=1125899906842624:=by omega
  have q2:k.a1<=1125899906842624:=by omega
  rcases m2 with m2|m2<;>simp [m1,m2,m3,m4,m6,m7,m8,hw,q1,q2]
 | false=>
  have hn:¬Z1I k:=fun h=>by rw [X6.2 h] at hb;cases hb
  repeat' (first|(refine Ja ?_ ?_)|intro _)
  all_goals first|rfl|skip
  all_goals
   congr 1
   refine decide_eq_false fun h=>hn ?_
   have hw:0<=k.a0->k.a0<=1125899906842624->0<=k.a1->k.a1<=1125899906842624->i64.wrap (k.a0+k.a1)=k.a0+k.a1:=fun _ _ _ _=>w64 (by omega)
   simp only [beq_iff_eq] at*
   exact ⟨by assumption,by omega,by omega,by omega,by omega,by omega,by omega,by omega⟩
noncomputable def E32 (F:LI->Int×Int):Za:=G0.withP 222 (ZaU F)
theorem Z9E:(E32 (ZU Zt)).Ok:=Za.withP_ok Zr Z9B
def Zim (Q:LI->Nat->Bool->Int->Prop):AV->Prop:=fun u=>match u with
 | .tuple [.agg [.vints .u8 ys n,.bool b],.int .i64 v]=>Q ys n b v
 | _=>False
def ZaX (Q:LI->Nat->Bool->LI->Prop):AV->Prop:=fun u=>match u with
 | .tuple [.agg [.vints .u8 ys n,.bool b],.agg [.arr .u8 32 h]]=>Q ys n b h
 | _=>False
theorem Zoh (F:LI->Int×Int) (ys:LI) (n:Nat) (most:Int) (Q:LI->Nat->Bool->Int->Prop) (hn:ys.length=n) (hb:Bytes ys) (hm:0<=most) (hF:∀ys,(F ys).2<=ys.length) (h1:0<(F ys).2/\(F ys).1<=most->Q (ys.drop (F ys).2.toNat) (n-(F ys).2.toNat) false (F ys).1) (h2:¬(0<(F ys).2/\(F ys).1<=most)->Q ys n true 0):
  evF (E32 F) 20 68 [.agg [.vints .u8 ys n,.bool false],.int .i64 most] ⟨0,[]⟩ (Xr (Zim Q)):=by
 refine @Eq.mpr _ (let a:=(F ys).snd;let b:=some (Int.toNat a);
 Z0 (decide (most<0)) (Q ys n false 0) ((ys.length=n/\Bytes ys)/\Z0 (decide (a<=0)) (Q ys n true 0) (Z0 (decide ((F ys).fst>most)) (Q ys n true 0) (Z0 (decide (n<=ys.length)) (Z0 (decide (0<=a/\a<= ↑n)) (Q (VP b ys) (WW n b) false (F ys).fst) False) False)))) (by kernel_rfl) ?_
 conv=>zeta
 try simp only [Zc]
 try simp only [Zl]
 try simp only [Zg]
 try simp only [Zm]
 try simp only [Zn]
 try simp only [Zh]
 try simp only [and_true]
 have hle:=hF ys
 refine ⟨fun h=>(by omega),fun _=>⟨⟨hn,hb⟩,fun h=>h2 (by omega),fun h=>⟨fun h3=>h2 (by omega),fun h3=>⟨by omega,⟨by omega,by omega⟩,h1 ⟨by omega,by omega⟩⟩⟩⟩⟩
theorem Zoi (F:LI->Int×Int) (ys:LI) (n:Nat) (most:Int) (Q:LI->Nat->Bool->Int->Prop) (h2:Q ys n true 0):
  evF (E32 F) 20 68 [.agg [.vints .u8 ys n,.bool true],.int .i64 most] ⟨0,[]⟩ (Xr (Zim Q)):=by
 refine @Eq.mpr _ (Q ys n true 0) (by kernel_rfl) ?_
 exact h2
theorem Zoj (ys:LI) (n:Nat) (Q:LI->Nat->Bool->LI->Prop) (hn:ys.length=n) (h1:32<=n->Q (ys.drop 32) (n-32) false (ys.take 32)) (h2:n<32->Q ys n true Z5):
  evF G0 20 67 [.agg [.vints .u8 ys n,.bool false]] ⟨0,[]⟩ (Xr (ZaX Q)):=by
 refine @Eq.mpr _ (let c:=decide (n<=ys.length);let e:=decide ((0:Int)<=32/\32<=(↑(ys.length):Int));let b:=VP none ys;let a:=spl Z5 0 (List.take 32 (List.take 32 b));let d:=a=a;
 Z0 (decide (32>(↑n:Int))) (Z5=Z5/\Q ys n true Z5) (Z0 c (Z0 (decide ((0:Int)<=32/\32<=(↑n:Int))) (Z0 c (Z0 e (Z0 c (Z0 e (b=b/\ys=ys/\Z0 (decide (n=n)) (d/\d/\Q (VP (some 32) ys) (WW n (some 32)) false a) False) False) False) False) False) False) False)) (by kernel_rfl) ?_
 conv=>zeta
 try simp only [Zc]
 try simp only [Zl]
 try simp only [Zg]
 try simp only [Zm]
 try simp only [Zn]
 try simp only [Zh]
 try simp only [true_and,and_true]
 refine ⟨fun h=>h2 (by omega),fun h=> ?_⟩
 have hl:(ys.take 32).length=32:=by rw [Ji];omega
 have hd:List.take 32 (List.take 32 (VP none ys))=ys.take 32:=by rw [show VP none ys=ys from rfl,List.take_take];rfl
 have hs:spl Z5 0 (ys.take 32)=ys.take 32:=by
  simp_all [spl,Z5]
 rw [hd,hs]
 have:=h1 (by omega)
 and_intros<;>first|trivial|omega
theorem Zok (ys:LI) (n:Nat) (Q:LI->Nat->Bool->LI->Prop) (h2:Q ys n true Z5):
  evF G0 20 67 [.agg [.vints .u8 ys n,.bool true]] ⟨0,[]⟩ (Xr (ZaX Q)):=by
 refine @Eq.mpr _ (Z5=Z5/\Q ys n true Z5) (by kernel_rfl) ?_
 simp_all
def Zfv (v:Int) (K:Int->Prop):Nat->Prop
 | 0=>v=0->K 0
 | m+1=>Zfv v K m/\(v=((m+1:Nat):Int)->K ((m+1:Nat):Int))
theorem Z7N {v:Int} {K:Int->Prop}:∀{m:Nat},Zfv v K m->0<=v->v<=m->K v
 | 0,h,h0,h1=>by
  have:v=0:=by omega
  subst this
  exact h rfl
 | m+1,h,h0,h1=>by
  by_cases hv:v=((m+1:Nat):Int)
  ·subst hv;exact h.2 rfl
  ·exact Z7N h.1 h0 (by omega)
theorem Z9F (hb:Bytes xs):0<=(ZU Zt xs).1:=by
 by_cases h0:xs.length=0
 ·rw [Ut h0];omega
 by_cases hm:Xh (xs.getD 0 0)=0
 ·rw [Uu h0 hm]
  have:=hb.h 0
  grind [w64]
 by_cases hl:xs.length<=Xh (xs.getD 0 0)
 ·rw [X8 h0 rfl hm hl];omega
 have h8:Xh (xs.getD 0 0)<=8:=by unfold Xh;split<;>(try split)<;>(try split)<;>omega
 rw [Z5p hb h0 rfl hm h8 (by omega)]
 have hge:=Z2t (Xh (xs.getD 0 0)) xs 1 0 hb (by decide)
 grind
def small (most:Int) (v:Int) (K:Int->Prop):Prop:=match decide (0<=most/\most<=6) with
 | true=>Zfv v K most.toNat
 | false=>K v
theorem Zfw {most:Int} {K:Int->Prop} (h:small most v K) (h0:0<=v) (h1:v<=most):K v:=by
 unfold small at h
 split at h
 ·exact Z7N h h0 (by omega)
 ·exact h
def Zj9 (F:LI->Int×Int):ZF:=fun args _ K=>match args with
 | [.agg [.top,.bool true],.int .i64 _]=>K (.tuple [.agg [.top,.bool true],.int .i64 0])
 | [.agg [.vints .u8 ys n,.bool b],.int .i64 most]=>match b with
  | true=>K (.tuple [.agg [.vints .u8 ys n,.bool true],.int .i64 0])
  | false=>∃xs o,ys=xs.drop o/\(n=xs.length-o/\o<=xs.length/\Bytes xs/\0<=most)/\
   (∀v p,rdN F xs o most=some (v,p)->(o<=p/\p<=xs.length/\0<=v/\v<=most)->small most v fun v=>K (.tuple [.agg [.vints .u8 (xs.drop p) (xs.length-p),.bool false],.int .i64 v]))/\
   (rdN F xs o most=none->K (.tuple [.agg [.vints .u8 (xs.drop o) (xs.length-o),.bool true],.int .i64 0]))
 | _=>False
theorem ZaY {Q:LI->Nat->Bool->Int->Prop} (h:Zim Q u):∃ys n b v,u=.tuple [.agg [.vints .u8 ys n,.bool b],.int .i64 v]/\Q ys n b v:=by
 unfold Zim at h
 grind
theorem Z7O {Q:LI->Nat->Bool->LI->Prop} (h:ZaX Q u):∃ys n b v,u=.tuple [.agg [.vints .u8 ys n,.bool b],.agg [.arr .u8 32 v]]/\Q ys n b v:=by
 unfold ZaX at h
 grind
def Zfx (Q:Int->Prop):AV->Prop:=fun u=>match u with
 | .tuple [.agg [.top,.bool true],.int .i64 v]=>Q v
 | _=>False
theorem Zfy {Q:Int->Prop} (h:Zfx Q u):∃v,u=.tuple [.agg [.top,.bool true],.int .i64 v]/\Q v:=by
 unfold Zfx at h
 grind
theorem Zol (F:LI->Int×Int) (most:Int) (Q:Int->Prop) (h2:Q 0):
  evF (E32 F) 20 68 [.agg [.top,.bool true],.int .i64 most] ⟨0,[]⟩ (Xr (Zfx Q)):=by
 refine @Eq.mpr _ (Q 0) (by kernel_rfl) ?_
 exact h2
theorem Z7P (args:List AV) (h:Z8) (K:AV->Prop) (hl:Zj9 (ZU Zt) args h K):Zd PP 68 args h fun o h'=>∃v,o=.ret v/\h'=h/\K v:=by
 unfold Zj9 at hl
 split at hl
 ·exact YD Z9E rfl (Zol _ _ (fun v=>K (.tuple [.agg [.top,.bool true],.int .i64 v])) hl) (fun u hu=>by grind [Zfy])
 ·rename_i ys n b most
  split at hl
  ·exact YD Z9E rfl (Zoi _ ys n most (fun ys n b v=>K (.tuple [.agg [.vints .u8 ys n,.bool b],.int .i64 v])) hl) (fun u hu=>by grind [ZaY])
  ·obtain ⟨xs,o,rfl,⟨rfl,h1,h2,h3⟩,hK,hK'⟩:=hl
   refine YD Z9E rfl (Zoh _ (xs.drop o) (xs.length-o) most (fun ys n b v=>K (.tuple [.agg [.vints .u8 ys n,.bool b],.int .i64 v])) (Jb ..) (h2.drop o) h3 (fun _=>Z1H _ _) (fun hc=> ?_) (fun hc=>hK' (by unfold rdN;rw [if_neg hc]))) (fun u hu=>by grind [ZaY])
   have hle:=Z1H Zt (xs.drop o)
   rw [Jb] at hle
   have f1:o<=o+(ZU Zt (xs.drop o)).2.toNat/\o+(ZU Zt (xs.drop o)).2.toNat<=xs.length/\0<=(ZU Zt (xs.drop o)).1/\(ZU Zt (xs.drop o)).1<=most:=⟨by omega,by omega,Z9F (h2.drop o),hc.2⟩
   have:=Zfw (hK _ _ (by unfold rdN;rw [if_pos hc]) f1) f1.2.2.1 f1.2.2.2
   rw [Km]
   rw [show xs.length-o-(ZU Zt (xs.drop o)).2.toNat=xs.length-(o+(ZU Zt (xs.drop o)).2.toNat) by omega]
   exact this
 simp_all
def Zfz:ZF:=fun args _ K=>match args with
 | [.agg [.vints .u8 ys n,.bool b]]=>match b with
  | true=>K (.tuple [.agg [.vints .u8 ys n,.bool true],.agg [.arr .u8 32 Z5]])
  | false=>∃xs o,ys=xs.drop o/\(n=xs.length-o/\o<=xs.length)/\
   (∀v p,rdH xs o=some (v,p)->(o<=p/\p<=xs.length/\v.length=32)->K (.tuple [.agg [.vints .u8 (xs.drop p) (xs.length-p),.bool false],.agg [.arr .u8 32 v]]))/\
   (rdH xs o=none->K (.tuple [.agg [.vints .u8 (xs.drop o) (xs.length-o),.bool true],.agg [.arr .u8 32 Z5]]))
 | _=>False
theorem Z5q (args:List AV) (h:Z8) (K:AV->Prop) (hl:Zfz args h K):Zd PP 67 args h fun o h'=>∃v,o=.ret v/\h'=h/\K v:=by
 unfold Zfz at hl
 split at hl
 ·rename_i ys n b
  split at hl
  ·exact YD Zr rfl (Zok ys n (fun ys n b v=>K (.tuple [.agg [.vints .u8 ys n,.bool b],.agg [.arr .u8 32 v]])) hl) (fun u hu=>by grind [Z7O])
  ·obtain ⟨xs,o,rfl,⟨rfl,h1⟩,hK,hK'⟩:=hl
   refine YD Zr rfl (Zoj (xs.drop o) (xs.length-o) (fun ys n b v=>K (.tuple [.agg [.vints .u8 ys n,.bool b],.agg [.arr .u8 32 v]])) (Jb ..) (fun hc=> ?_) (fun hc=>hK' (by unfold rdH;rw [if_neg (by omega)]))) (fun u hu=>by grind [Z7O])
   have f1:o<=o+32/\o+32<=xs.length/\((xs.drop o).take 32).length=32:=⟨by omega,by omega,by rw [Ji,Jb];omega⟩
   have:=hK _ _ (by unfold rdH;rw [if_pos (by omega)]) f1
   rw [Km]
   exact this
 simp_all
structure RS where
 o:Nat
 bad:Bool
def YL (F:LI->Int×Int) (xs:LI) (s:RS) (most:Int):Int×RS:=match s.bad with
 | true=>(0,s)
 | false=>match rdN F xs s.o most with
  | some (v,p)=>(v,⟨p,false⟩)
  | none=>(0,⟨s.o,true⟩)
def W5 (xs:LI) (s:RS):LI×RS:=match s.bad with
 | true=>(Z5,s)
 | false=>match rdH xs s.o with
  | some (v,p)=>(v,⟨p,false⟩)
  | none=>(Z5,⟨s.o,true⟩)
def ZfA (F:LI->Int×Int):ZF:=fun args _ K=>match args with
 | [.agg [.vints .u8 ys n,.bool b],.int .i64 most]=>∃xs s,ys=List.drop (RS.o s) xs/\(n=xs.length-s.o/\b=s.bad/\s.o<=xs.length/\Bytes xs/\0<=most)/\
   ∀v t,YL F xs s most=(v,t)->t.o<=xs.length->K (.tuple [.agg [.vints .u8 (xs.drop t.o) (xs.length-t.o),.bool t.bad],.int .i64 v])
 | _=>False
def Z9G:ZF:=fun args _ K=>match args with
 | [.agg [.vints .u8 ys n,.bool b]]=>∃xs s,ys=List.drop (RS.o s) xs/\(n=xs.length-s.o/\b=s.bad/\s.o<=xs.length)/\
   ∀v t,W5 xs s=(v,t)->t.o<=xs.length->K (.tuple [.agg [.vints .u8 (xs.drop t.o) (xs.length-t.o),.bool t.bad],.agg [.arr .u8 32 v]])
 | _=>False
theorem Zcv {most:Int} {K:Int->Prop} (h:K v):small most v K:=by
 unfold small
 split
 ·generalize most.toNat=m
  induction m with
  | zero=>exact fun e=>e▸h
  | succ m ih=>exact ⟨ih,fun e=>e▸h⟩
 ·exact h
theorem ZfB (args:List AV) (h:Z8) (K:AV->Prop) (hl:ZfA (ZU Zt) args h K):Zd PP 68 args h fun o h'=>∃v,o=.ret v/\h'=h/\K v:=by
 unfold ZfA at hl
 split at hl
 ·obtain ⟨xs,⟨o,c⟩,rfl,⟨rfl,e,h1,h2,h3⟩,hK⟩:=hl
  unfold YL at hK
  cases c with
  | true=>subst e;exact Z7P _ h K (hK _ _ rfl h1)
  | false=>
   subst e
   refine Z7P _ h K ⟨xs,o,rfl,⟨rfl,h1,h2,h3⟩,fun v p he hb=>Zcv (hK v ⟨p,false⟩ (by simp_all) hb.2.1),fun he=>hK 0 ⟨o,true⟩ (by simp_all) h1⟩
 simp_all
theorem Zcw (args:List AV) (h:Z8) (K:AV->Prop) (hl:Z9G args h K):Zd PP 67 args h fun o h'=>∃v,o=.ret v/\h'=h/\K v:=by
 unfold Z9G at hl
 split at hl
 ·obtain ⟨xs,⟨o,c⟩,rfl,⟨rfl,e,h1⟩,hK⟩:=hl
  unfold W5 at hK
  cases c with
  | true=>subst e;exact Z5q _ h K (hK _ _ rfl h1)
  | false=>
   subst e
   refine Z5q _ h K ⟨xs,o,rfl,⟨rfl,h1⟩,fun v p he hb=>hK v ⟨p,false⟩ (by simp_all) hb.2.1,fun he=>hK Z5 ⟨o,true⟩ (by simp_all) h1⟩
 simp_all
def UE (xs:LI) (s:RS):Bool×RS:=match s.bad with
 | true=>(false,s)
 | false=>match rdT xs s.o with
  | some (v,p)=>(v,⟨p,false⟩)
  | none=>(false,⟨s.o,true⟩)
def Zin (Q:LI->Nat->Bool->Bool->Prop):AV->Prop:=fun u=>match u with
 | .tuple [.agg [.vints .u8 ys n,.bool b],.bool v]=>Q ys n b v
 | _=>False
theorem ZaZ {Q:LI->Nat->Bool->Bool->Prop} (h:Zin Q u):∃ys n b v,u=.tuple [.agg [.vints .u8 ys n,.bool b],.bool v]/\Q ys n b v:=by
 unfold Zin at h
 grind
theorem Zom (ys:LI) (n:Nat) (Q:LI->Nat->Bool->Bool->Prop) (hn:ys.length=n) (h1:0<n->ys.getD 0 0<=1->Q (ys.drop 1) (n-1) false (ys.getD 0 0==1)) (h2:¬(0<n/\ys.getD 0 0<=1)->Q ys n true false):
  evF G0 20 69 [.agg [.vints .u8 ys n,.bool false]] ⟨0,[]⟩ (Xr (Zin Q)):=by
 refine @Eq.mpr _ (let c:=decide (n<=ys.length);let d:=decide ((0:Int)<=1/\1<=(↑(ys.length):Int));let b:=VP none ys;let a:=List.getD b 0 0;
 Z0 (decide (1>(↑n:Int))) (Q ys n true false) (Z0 c (Z0 (decide ((0:Int)<=1/\1<=(↑n:Int))) (Z0 c (Z0 d (Z0 c (Z0 d (b=b/\ys=ys/\Z0 (decide (n=n)) (Z0 (decide (a>1)) (Q ys n true false) (Z0 (decide (a=a)) (Q (VP (some 1) ys) (WW n (some 1)) false (a==1)) False)) False) False) False) False) False) False) False)) (by kernel_rfl) ?_
 conv=>zeta
 try simp only [Zc]
 try simp only [Zl]
 try simp only [Zg]
 try simp only [Zm]
 try simp only [Zn]
 try simp only [Zh]
 try simp only [true_and,and_true]
 subst hn
 refine ⟨fun h=>h2 (by omega),fun h=>⟨J2 _,by omega,J2 _,by omega,J2 _,by omega,fun h3=>h2 fun hc=> ?_,fun h3=>h1 (by omega) ?_⟩⟩
 ·have h3:ys.getD 0 0>1:=h3
  omega
 ·have h3:¬ys.getD 0 0>1:=h3
  omega
theorem Zon (ys:LI) (n:Nat) (Q:LI->Nat->Bool->Bool->Prop) (h2:Q ys n true false):
  evF G0 20 69 [.agg [.vints .u8 ys n,.bool true]] ⟨0,[]⟩ (Xr (Zin Q)):=by
 refine @Eq.mpr _ (Q ys n true false) (by kernel_rfl) ?_
 exact h2
def Zja:ZF:=fun args _ K=>match args with
 | [.agg [.vints .u8 ys n,.bool b]]=>∃xs s,ys=List.drop (RS.o s) xs/\(n=xs.length-s.o/\b=s.bad/\s.o<=xs.length)/\
   ∀v t,UE xs s=(v,t)->t.o<=xs.length->K (.tuple [.agg [.vints .u8 (xs.drop t.o) (xs.length-t.o),.bool t.bad],.bool v])
 | _=>False
theorem ZfC (args:List AV) (h:Z8) (K:AV->Prop) (hl:Zja args h K):Zd PP 69 args h fun o h'=>∃v,o=.ret v/\h'=h/\K v:=by
 unfold Zja at hl
 split at hl
 ·obtain ⟨xs,⟨o,c⟩,rfl,⟨rfl,e,h1⟩,hK⟩:=hl
  unfold UE at hK
  cases c with
  | true=>subst e;exact YD Zr rfl (Zon _ _ (fun ys n b v=>K (.tuple [.agg [.vints .u8 ys n,.bool b],.bool v])) (hK _ _ rfl h1)) (fun u hu=>by grind [ZaZ])
  | false=>
   subst e
   refine YD Zr rfl (Zom (xs.drop o) (xs.length-o) (fun ys n b v=>K (.tuple [.agg [.vints .u8 ys n,.bool b],.bool v])) (Jb ..) (fun h0 hc=> ?_) (fun hc=> ?_)) (fun u hu=>by grind [ZaZ])
   all_goals grind [rdT,Km]
 simp_all
theorem Z2v {s t:RS} {m:Int} (hm:0<=m) (h:YL F xs s m=(v,t)):v<=m:=by
 grind [YL,rdN]
theorem Bytes.takeB (h:Bytes xs) (n:Nat):Bytes (xs.take n):=⟨fun i=>by
 by_cases hi:i<n
 ·have:=h.h i
  rwa [J5,List.getElem?_take_of_lt hi,<-List.getD_eq_getElem?_getD]
 grind⟩
def XM (F:LI->Int×Int) (xs:LI):Option (ClS×Nat):=
 (rdH xs 0).bind fun v0=>
 (rdN F xs v0.2 1125899906842624).bind fun v1=>
 (rdN F xs v1.2 1125899906842624).bind fun v2=>
 (rdN F xs v2.2 1125899906842624).bind fun v3=>
 (rdN F xs v3.2 1125899906842624).bind fun v4=>
 (rdN F xs v4.2 1125899906842624).bind fun v5=>
 (rdH xs v5.2).bind fun v6=>
 (rdH xs v6.2).bind fun v7=>
 (rdN F xs v7.2 1125899906842624).bind fun v8=>
 (rdN F xs v8.2 1125899906842624).bind fun v9=>
 (rdN F xs v9.2 1125899906842624).bind fun v10=>
 (rdN F xs v10.2 1125899906842624).bind fun v11=>
 (rdN F xs v11.2 1125899906842624).bind fun v12=>
 (rdT xs v12.2).bind fun v13=>
 (rdN F xs v13.2 1125899906842624).bind fun v14=>
 (rdT xs v14.2).bind fun v15=>
 (rdN F xs v15.2 1125899906842624).bind fun v16=>
 some (⟨⟨v0.1,v1.1,v2.1,v3.1,v4.1,v5.1,v6.1,v7.1⟩,v8.1,v9.1,v10.1,v11.1,v12.1,v13.1,v14.1,v15.1,v16.1⟩,v16.2)
theorem Z7Q {k:ClS} {p:Nat} (h:XM F xs=some (k,p)):∃o0 o1 o2 o3 o4 o5 o6 o7 o8 o9 o10 o11 o12 o13 o14 o15 o16,rdH xs 0=some (k.t.fund,o0)/\rdN F xs o0 1125899906842624=some (k.t.index,o1)/\rdN F xs o1 1125899906842624=some (k.t.cap,o2)/\rdN F xs o2 1125899906842624=some (k.t.dust,o3)/\rdN F xs o3 1125899906842624=some (k.t.fee,o4)/\rdN F xs o4 1125899906842624=some (k.t.delay,o5)/\rdH xs o5=some (k.t.k0,o6)/\rdH xs o6=some (k.t.k1,o7)/\rdN F xs o7 1125899906842624=some (k.side,o8)/\rdN F xs o8 1125899906842624=some (k.a0,o9)/\rdN F xs o9 1125899906842624=some (k.a1,o10)/\rdN F xs o10 1125899906842624=some (k.least,o11)/\rdN F xs o11 1125899906842624=some (k.most,o12)/\rdT xs o12=some (k.offers,o13)/\rdN F xs o13 1125899906842624=some (k.last,o14)/\rdT xs o14=some (k.agrees,o15)/\rdN F xs o15 1125899906842624=some (k.fee,o16)/\o16=p:=by
 unfold XM at h
 simp only [Jr] at h
 grind
def W6 (F:LI->Int×Int) (xs:LI):ClS×RS:=
 let v0:=W5 xs ⟨0,false⟩
 let v1:=YL F xs v0.2 23
 let v2:=YL F xs v1.2 1125899906842624
 let v3:=YL F xs v2.2 500
 let v4:=YL F xs v3.2 400
 let v5:=YL F xs v4.2 1000
 let v6:=W5 xs v5.2
 let v7:=W5 xs v6.2
 let v8:=YL F xs v7.2 1
 let v9:=YL F xs v8.2 1125899906842624
 let v10:=YL F xs v9.2 1125899906842624
 let v11:=YL F xs v10.2 1125899906842624
 let v12:=YL F xs v11.2 1125899906842624
 let v13:=UE xs v12.2
 let v14:=YL F xs v13.2 1125899906842624
 let v15:=UE xs v14.2
 let v16:=YL F xs v15.2 1125899906842624
 (⟨⟨v0.1,v1.1,v2.1,v3.1,v4.1,v5.1,v6.1,v7.1⟩,v8.1,v9.1,v10.1,v11.1,v12.1,v13.1,v14.1,v15.1,v16.1⟩,v16.2)
theorem YU {s t:RS} {m:Int} (h:YL F xs s m=(v,t)) (hb:t.bad=false):s.bad=false/\rdN F xs s.o m=some (v,t.o):=by
 grind [YL]
theorem Z0A {s t:RS} {v:LI} (h:W5 xs s=(v,t)) (hb:t.bad=false):s.bad=false/\rdH xs s.o=some (v,t.o):=by
 grind [W5]
theorem Z5r {s t:RS} {v:Bool} (h:UE xs s=(v,t)) (hb:t.bad=false):s.bad=false/\rdT xs s.o=some (v,t.o):=by
 grind [UE]
theorem XK {o p:Nat} {m:Int} (h:rdN F xs o m=some (v,p)):YL F xs ⟨o,false⟩ m=(v,⟨p,false⟩):=by
 unfold YL;simp_all
theorem Z46 {v:LI} {o p:Nat} (h:rdH xs o=some (v,p)):W5 xs ⟨o,false⟩=(v,⟨p,false⟩):=by
 unfold W5;simp_all
theorem Zb0 {v:Bool} {o p:Nat} (h:rdT xs o=some (v,p)):UE xs ⟨o,false⟩=(v,⟨p,false⟩):=by
 unfold UE;simp_all
theorem Zcx {k:ClS} {t:RS} (h:W6 F xs=(k,t)) (hb:t.bad=false):XM F xs=some (k,t.o):=by
 rcases e0:W5 xs ⟨0,false⟩ with ⟨v0,t0⟩
 rcases e1:YL F xs t0 23 with ⟨v1,t1⟩
 rcases e2:YL F xs t1 1125899906842624 with ⟨v2,t2⟩
 rcases e3:YL F xs t2 500 with ⟨v3,t3⟩
 rcases e4:YL F xs t3 400 with ⟨v4,t4⟩
 rcases e5:YL F xs t4 1000 with ⟨v5,t5⟩
 rcases e6:W5 xs t5 with ⟨v6,t6⟩
 rcases e7:W5 xs t6 with ⟨v7,t7⟩
 rcases e8:YL F xs t7 1 with ⟨v8,t8⟩
 rcases e9:YL F xs t8 1125899906842624 with ⟨v9,t9⟩
 rcases e10:YL F xs t9 1125899906842624 with ⟨v10,t10⟩
 rcases e11:YL F xs t10 1125899906842624 with ⟨v11,t11⟩
 rcases e12:YL F xs t11 1125899906842624 with ⟨v12,t12⟩
 rcases e13:UE xs t12 with ⟨v13,t13⟩
 rcases e14:YL F xs t13 1125899906842624 with ⟨v14,t14⟩
 rcases e15:UE xs t14 with ⟨v15,t15⟩
 rcases e16:YL F xs t15 1125899906842624 with ⟨v16,t16⟩
 unfold W6 at h
 simp only [e0,e1,e2,e3,e4,e5,e6,e7,e8,e9,e10,e11,e12,e13,e14,e15,e16] at h
 cases h
 have c16:=hb
 obtain ⟨c15,r16⟩:=YU e16 c16
 obtain ⟨c14,r15⟩:=Z5r e15 c15
 obtain ⟨c13,r14⟩:=YU e14 c14
 obtain ⟨c12,r13⟩:=Z5r e13 c13
 obtain ⟨c11,r12⟩:=YU e12 c12
 obtain ⟨c10,r11⟩:=YU e11 c11
 obtain ⟨c9,r10⟩:=YU e10 c10
 obtain ⟨c8,r9⟩:=YU e9 c9
 obtain ⟨c7,r8⟩:=YU e8 c8
 obtain ⟨c6,r7⟩:=Z0A e7 c7
 obtain ⟨c5,r6⟩:=Z0A e6 c6
 obtain ⟨c4,r5⟩:=YU e5 c5
 obtain ⟨c3,r4⟩:=YU e4 c4
 obtain ⟨c2,r3⟩:=YU e3 c3
 obtain ⟨c1,r2⟩:=YU e2 c2
 obtain ⟨c0,r1⟩:=YU e1 c1
 obtain ⟨_,r0⟩:=Z0A e0 c0
 have r1:=VL (m':=1125899906842624) r1 (K4 (Qk r1) (by decide))
 have r3:=VL (m':=1125899906842624) r3 (K4 (Qk r3) (by decide))
 have r4:=VL (m':=1125899906842624) r4 (K4 (Qk r4) (by decide))
 have r5:=VL (m':=1125899906842624) r5 (K4 (Qk r5) (by decide))
 have r8:=VL (m':=1125899906842624) r8 (K4 (Qk r8) (by decide))
 simp_all [XM]
theorem Zio {k:ClS} {p:Nat} (h:XM F xs=some (k,p)) (hm:Z1I k):W6 F xs=(k,⟨p,false⟩):=by
 obtain ⟨o0,o1,o2,o3,o4,o5,o6,o7,o8,o9,o10,o11,o12,o13,o14,o15,o16,r0,r1,r2,r3,r4,r5,r6,r7,r8,r9,r10,r11,r12,r13,r14,r15,r16,rfl⟩:=Z7Q h
 have hd:=Wo hm.t
 have hs:=hm.side
 have f0:=Z46 r0
 have f1:=XK (VL (m':=23) r1 (by omega))
 have f2:=XK r2
 have f3:=XK (VL (m':=500) r3 (by omega))
 have f4:=XK (VL (m':=400) r4 (by omega))
 have f5:=XK (VL (m':=1000) r5 (by omega))
 have f6:=Z46 r6
 have f7:=Z46 r7
 have f8:=XK (VL (m':=1) r8 (by omega))
 have f9:=XK r9
 have f10:=XK r10
 have f11:=XK r11
 have f12:=XK r12
 have f13:=Zb0 r13
 have f14:=XK r14
 have f15:=Zb0 r15
 have f16:=XK r16
 simp_all [W6]
theorem Z6u {v:LI} {o p:Nat} (hb:Bytes xs) (h:rdH xs o=some (v,p)):v.length=32/\Bytes v:=by
 unfold rdH at h
 split at h
 ·cases h
  exact ⟨by rw [Ji,Jb];omega,(hb.drop o).takeB 32⟩
 ·cases h
theorem Z7R {k:ClS} {p:Nat} (hb:Bytes xs) (h:XM (ZU Zt) xs=some (k,p)):k.t.All:=by
 obtain ⟨o0,o1,o2,o3,o4,o5,o6,o7,o8,o9,o10,o11,o12,o13,o14,o15,o16,r0,r1,r2,r3,r4,r5,r6,r7,r8,r9,r10,r11,r12,r13,r14,r15,r16,he⟩:=Z7Q h
 have a:=Z6u hb r0
 have b:=Z6u hb r6
 have c:=Z6u hb r7
 exact ⟨⟨b.1,c.1,b.2,c.2⟩,a.1,a.2⟩
inductive Yv (cs:List AV) (k:ClS):Prop
 | mk:cs=k.c->Yv cs k
def Zcy (A:LI->Int×Int):ZF:=fun args h K=>ZG none h true 20 args fun a=>match a with
 | [.agg cs]=>∃k,Yv cs k/\k.t.Ok/\K (.bool (Ym A k))
 | _=>False
theorem Zb1 (args:List AV) (h:Z8) (K:AV->Prop) (hl:Zcy ZJ args h K):Zd PP 30 args h fun o h'=>∃v,o=.ret v/\h'=h/\K v:=by
 refine Zx.psumm (d:=20) (Zq _ _ _ _ _ hl fun a ha=> ?_)
 split at ha
 ·obtain ⟨k,⟨rfl⟩,ht,hK⟩:=ha
  exact ⟨_,Zx.evV Zil (Zof _ k _ ht rfl),fun _=>rfl,hK⟩
 ·exact ha.elim
theorem Zip (args:List AV) (h:Z8) (K:AV->Prop) (hl:Zcy ZJ args h K):Zd PP 51 args h fun o h'=>∃v,o=.ret v/\h'=h/\K v:=by
 refine Zx.psumm (d:=20) (Zq _ _ _ _ _ hl fun a ha=> ?_)
 split at ha
 ·obtain ⟨k,⟨rfl⟩,ht,hK⟩:=ha
  exact ⟨_,Zx.evV (Za.withP_ok Zr Z1F) (Zog _ k _ rfl ht rfl),fun _=>rfl,hK⟩
 ·exact ha.elim
theorem Zoo (A:LI->Int×Int) (k:ClS) (fee e:Int) (hA:A=ZJ) (ht:k.t.Ok) (ha:k.a0<9223372036854775808) (he:e=ZN k.t k.a0 k.a1 fee):
  evF (G0.withF 42 (clF A)) 20 38 [.agg k.c,.int .i64 fee] ⟨0,[]⟩ (ZK 0 (.ret (.tuple [.top,.int .i64 e])) 0 []):=by
 refine @Eq.mpr _ (let c:=k.t;let d:=Zp.mk c.fund c.index c.cap c.dust c.fee c.delay c.k0 c.k1;
 Zp.Ok d/\
 ∃(a:Int),
 ∃(b:Int),
 let g:=clB A d a b fee;let f:=clL d a b fee;
 [k.a0,k.a1]=[a,b]/\a<9223372036854775808/\(g=false->Z6 (2=e) True)/\(g=true->(f.length=0->Z6 (180=e) True)/\∀(n:Nat) (L:List Z9),L=ZW f->n=L.length->n≠0->Z6 (0=e) True)) (by kernel_rfl) ?_
 conv=>zeta
 try simp only [vcA]
 try simp only [vcB]
 try simp only [vcC]
 subst hA he
 refine ⟨ht,k.a0,k.a1,rfl,ha,fun h=> ?_,fun h=>⟨fun h2=> ?_,fun n L hL hn hn0=> ?_⟩⟩
 ·have h:clB ZJ k.t k.a0 k.a1 fee=false:=h
  unfold ZN
  rw [h];rfl
 ·unfold ZN
  rw [if_pos h,if_pos h2]
 ·refine (ZaV h ?_).symm
  subst hn hL
  rw [X5] at hn0
  exact hn0
def Zop:ZQ:=fun args h K=>ZG none h true 20 args fun a=>match a with
 | [.agg cs,.int .i64 fee]=>∃k,Yv cs k/\(k.t.Ok/\k.a0<9223372036854775808)/\K (.ret (.tuple [.top,.int .i64 (ZN k.t k.a0 k.a1 fee)])) h
 | _=>False
theorem Ziq (args:List AV) (h:Z8) (K:KO) (hl:Zop args h K):Zd PP 38 args h K:=by
 refine Zx.fsumm (d:=20) (Zq _ _ _ _ _ hl fun a ha=> ?_)
 split at ha
 ·obtain ⟨k,⟨rfl⟩,⟨ht,ha⟩,hK⟩:=ha
  exact ⟨_,_,_,_,.evM (Za.withF_ok Zr Z9y) (Zoo _ k _ _ rfl ht ha rfl),rfl,trivial,hK⟩
 ·exact ha.elim
def clK (ok:Bool) (k:ClS):KO:=fun o h=>match o with
 | .ret (.tuple [.ptr none,.int .i64 _])=>Z0 ok False (ZK 0 (.ret (.tuple [.ptr none,.int .i64 253])) 0 [] o h)
 | .ret (.tuple [.ptr (some _),.int .i64 _])=>Z0 ok (ZK 0 (.ret (.tuple [.ptr (some ⟨0,0,0,0,0⟩),.int .i64 0])) 1 [(0,.flat (k.c++[.bool true]))] o h) False
 | _=>False
def Yi (Tg:LI->TxS->LI) (k:ClS) (fee sd:Int):LI:=if ZN k.t k.a0 k.a1 fee=0 then Tg (Z9D k.t sd) (txC k.t k.a0 k.a1 fee) else Z5
theorem Uw {k:ClS} {fee sd:Int} (h:ZN k.t k.a0 k.a1 fee=0):Yi Tg k fee sd=Tg (Z9D k.t sd) (txC k.t k.a0 k.a1 fee):=if_pos h
theorem WP {k:ClS} {fee sd:Int} (h:ZN k.t k.a0 k.a1 fee≠0):Yi Tg k fee sd=Z5:=if_neg h
theorem Ql {k:ClS} {fee:Int} (h:clB ZJ k.t k.a0 k.a1 fee=false):ZN k.t k.a0 k.a1 fee=2:=by unfold ZN;rw [h];rfl
theorem Ww {k:ClS} {fee:Int} (h:clB ZJ k.t k.a0 k.a1 fee=true) (h2:(clL k.t k.a0 k.a1 fee).length=0):ZN k.t k.a0 k.a1 fee=180:=by unfold ZN;rw [if_pos h,if_pos h2]
theorem Wx {k:ClS} {fee:Int} {n:Nat} {L:List Z9} (h:clB ZJ k.t k.a0 k.a1 fee=true) (hL:L=ZW (clL k.t k.a0 k.a1 fee)) (hn:n=L.length) (h0:n≠0):ZN k.t k.a0 k.a1 fee=0:=ZaV h (by subst hn hL;rw [X5] at h0;exact h0)
theorem VM (t:Zp) (i:Nat) (hi:i<1):Yg [AV.arr u8 32 t.fund,AV.int i64 t.index,AV.int i64 1,AV.arr u8 32 Z5,AV.arr u8 32 Z5,AV.arr u8 32 Z5] 0 130 i=InS.c (Z0y t):=by
 have:i=0:=by omega
 subst this;rfl
noncomputable def Zl2 (A:LI->Int×Int) (Tg:LI->TxS->LI):Za:=(G0.withF 61 (clF A)).withP 62 (Z3V Tg)
theorem Z2w:(Zl2 ZJ Wj).Ok:=Za.withP_ok (Za.withF_ok Zr Z6o) Z6h
theorem Zjb (A:LI->Int×Int) (Tg:LI->TxS->LI) (k:ClS) (fee e:Int) (h:LI) (hA:A=ZJ) (ht:k.t.All) (ha:k.a0<9223372036854775808) (he:e=ZN k.t k.a0 k.a1 fee) (hh:h=Yi Tg k fee 0):
  evF (Zl2 A Tg) 20 70 [.agg k.c,.int .i64 fee,.int .i64 0] ⟨0,[]⟩ (ZK 0 (.ret (.tuple [.agg [.arr .u8 32 h],.int .i64 e])) 0 []):=by
 refine @Eq.mpr _ (let f:=k.t;let o:=f.fund;let m:=f.index;let l:=f.k0;let j:=Zp.mk o m f.cap f.dust f.fee f.delay l f.k1;let g:=InS.mk o m 1 Z5 Z5 Z5;
 Zp.Ok j/\
 ∃(a:Int),
 ∃(b:Int),
 let q:=clB A j a b fee;let p:=clL j a b fee;
 [k.a0,k.a1]=[a,b]/\
 a<9223372036854775808/\
 (q=false->Z5=h/\Z6 (2=e) True)/\
 (q=true->
 (p.length=0->Z5=h/\Z6 (180=e) True)/\
 ∀(n:Nat) (L:List Z9),
 L=ZW p->
 n=L.length->
 n≠0->
 Z6 (0+n<=n) ((∀(i:Nat),i<n->true=true)/\
 ∃(t:TxS),
 (t.num=2147483647/\
 (((1:Nat)=1/\t.N=1)/\∀(i:Nat),i<1->Yg [AV.arr u8 32 g.name,AV.int i64 g.index,AV.int i64 g.way,AV.arr u8 32 g.tag,AV.arr u8 32 g.also,AV.arr u8 32 g.secret] 0 130 i=InS.c (t.ins i))/\
 (n=n/\t.M=n)/\
 ∀(i:Nat),
 let d:=Y4 L i;
 i<n->[AV.int i64 d.kind,AV.int i64 d.amount,AV.arr u8 32 d.owner,AV.arr u8 32 d.other,AV.arr u8 32 d.point,AV.arr u8 32 d.hash,AV.int i64 d.delay,AV.int i64 d.expiry]=ZM.c (t.outs i))/\
 (TxS.Fine t/\l.length=32)/\Tg l t=h/\Z6 (0=e) True))) (by kernel_rfl) ?_
 conv=>zeta
 try simp only [vcA]
 try simp only [vcB]
 try simp only [vcC]
 subst hA he hh
 refine ⟨ht.ok,k.a0,k.a1,rfl,ha,fun h1=> ?_,fun h1=>⟨fun h2=> ?_,fun n L hL hn hn0=> ?_⟩⟩
 ·have e:=Ql h1
  exact ⟨(WP (by rw [e];decide)).symm,e.symm⟩
 ·have e:=Ww h1 h2
  exact ⟨(WP (by rw [e];decide)).symm,e.symm⟩
 ·have e:=Wx h1 hL hn hn0
  subst hn hL
  exact ⟨fun _ _=>trivial,txC k.t k.a0 k.a1 fee,⟨rfl,⟨rfl,fun i hi=>VM _ i hi⟩,rfl,fun _ _=>rfl⟩,⟨X4 (WF ht.ok ht.fl) (Vf e),ht.ok.k0⟩,(Uw (Tg:=Tg) (sd:=0) e).symm,e.symm⟩
theorem Zjc (A:LI->Int×Int) (Tg:LI->TxS->LI) (k:ClS) (fee e:Int) (h:LI) (hA:A=ZJ) (ht:k.t.All) (ha:k.a0<9223372036854775808) (he:e=ZN k.t k.a0 k.a1 fee) (hh:h=Yi Tg k fee 1):
  evF (Zl2 A Tg) 20 70 [.agg k.c,.int .i64 fee,.int .i64 1] ⟨0,[]⟩ (ZK 0 (.ret (.tuple [.agg [.arr .u8 32 h],.int .i64 e])) 0 []):=by
 refine @Eq.mpr _ (let f:=k.t;let o:=f.fund;let m:=f.index;let l:=f.k1;let j:=Zp.mk o m f.cap f.dust f.fee f.delay f.k0 l;let g:=InS.mk o m 1 Z5 Z5 Z5;
 Zp.Ok j/\
 ∃(a:Int),
 ∃(b:Int),
 let q:=clB A j a b fee;let p:=clL j a b fee;
 [k.a0,k.a1]=[a,b]/\
 a<9223372036854775808/\
 (q=false->Z5=h/\Z6 (2=e) True)/\
 (q=true->
 (p.length=0->Z5=h/\Z6 (180=e) True)/\
 ∀(n:Nat) (L:List Z9),
 L=ZW p->
 n=L.length->
 n≠0->
 Z6 (0+n<=n) ((∀(i:Nat),i<n->true=true)/\
 ∃(t:TxS),
 (t.num=2147483647/\
 (((1:Nat)=1/\t.N=1)/\∀(i:Nat),i<1->Yg [AV.arr u8 32 g.name,AV.int i64 g.index,AV.int i64 g.way,AV.arr u8 32 g.tag,AV.arr u8 32 g.also,AV.arr u8 32 g.secret] 0 130 i=InS.c (t.ins i))/\
 (n=n/\t.M=n)/\
 ∀(i:Nat),
 let d:=Y4 L i;
 i<n->[AV.int i64 d.kind,AV.int i64 d.amount,AV.arr u8 32 d.owner,AV.arr u8 32 d.other,AV.arr u8 32 d.point,AV.arr u8 32 d.hash,AV.int i64 d.delay,AV.int i64 d.expiry]=ZM.c (t.outs i))/\
 (TxS.Fine t/\l.length=32)/\Tg l t=h/\Z6 (0=e) True))) (by kernel_rfl) ?_
 conv=>zeta
 try simp only [vcA]
 try simp only [vcB]
 try simp only [vcC]
 subst hA he hh
 refine ⟨ht.ok,k.a0,k.a1,rfl,ha,fun h1=> ?_,fun h1=>⟨fun h2=> ?_,fun n L hL hn hn0=> ?_⟩⟩
 ·have e:=Ql h1
  exact ⟨(WP (by rw [e];decide)).symm,e.symm⟩
 ·have e:=Ww h1 h2
  exact ⟨(WP (by rw [e];decide)).symm,e.symm⟩
 ·have e:=Wx h1 hL hn hn0
  subst hn hL
  exact ⟨fun _ _=>trivial,txC k.t k.a0 k.a1 fee,⟨rfl,⟨rfl,fun i hi=>VM _ i hi⟩,rfl,fun _ _=>rfl⟩,⟨X4 (WF ht.ok ht.fl) (Vf e),ht.ok.k1⟩,(Uw (Tg:=Tg) (sd:=1) e).symm,e.symm⟩
theorem Z2x {k:ClS} {fee sd:Int} (ht:k.t.All):Yi Wj k fee sd=Yi ZC k fee sd:=by
 unfold Yi
 split
 ·rename_i h
  exact Z2s (X4 (WF ht.ok ht.fl) (Vf h)) (ZaW ht) (Zfu ht.ok _)
 ·rfl
def Zjd (Tg:LI->TxS->LI):ZF:=fun args h K=>ZG none h true 20 args fun a=>match a with
 | [.agg cs,.int .i64 fee,.int .i64 sd]=>∃k,Yv cs k/\(k.t.All/\k.a0<9223372036854775808/\(sd=0\/sd=1))/\K (.tuple [.agg [.arr .u8 32 (Yi Tg k fee sd)],.int .i64 (ZN k.t k.a0 k.a1 fee)])
 | _=>False
theorem ZfD (args:List AV) (h:Z8) (K:AV->Prop) (hl:Zjd ZC args h K):Zd PP 70 args h fun o h'=>∃v,o=.ret v/\h'=h/\K v:=by
 refine Zx.psumm (d:=20) (Zq _ _ _ _ _ hl fun a ha=> ?_)
 split at ha
 ·obtain ⟨k,⟨rfl⟩,⟨ht,ha,hs⟩,hK⟩:=ha
  rw [<-Z2x ht] at hK
  rcases hs with rfl|rfl
  ·exact ⟨_,.evM Z2w (Zjb _ Wj k _ _ _ rfl ht ha rfl rfl),fun _=>rfl,hK⟩
  ·exact ⟨_,.evM Z2w (Zjc _ Wj k _ _ _ rfl ht ha rfl rfl),fun _=>rfl,hK⟩
 ·exact ha.elim
def clZ:ClS:=⟨⟨Z5,0,0,0,0,0,Z5,Z5⟩,0,0,0,0,0,false,0,false,0⟩
def ZfE (ok:Bool) (k:ClS):KO:=fun o h=>match o with
 | .ret (.tuple [.agg _,.int .i64 e])=>match decide (e=0) with
  | true=>Z0 ok (ZK 0 (.ret (.tuple [.agg k.c,.int .i64 0])) 0 [] o h) False
  | false=>Z0 ok False (ZK 0 (.ret (.tuple [.agg clZ.c,.int .i64 253])) 0 [] o h)
 | _=>False
theorem Zb2:∀(n a b:Nat),a<2^n->b<2^n->2*(a&&&b)+(a^^^b)=a+b
 | 0,a,b,ha,hb=>by
  simp_all
 | n+1,a,b,ha,hb=>by
  have ih:=Zb2 n (a/2) (b/2) (by omega) (by omega)
  have h1:(a&&&b)/2=(a/2)&&&(b/2):=Nat.and_div_two
  have h2:(a^^^b)/2=(a/2)^^^(b/2):=Nat.xor_div_two
  have h3:(a^^^b)%2^1=(a%2^1)^^^(b%2^1):=Nat.xor_mod_two_pow
  grind [Nat.mod_two_eq_zero_or_one,Nat.and_mod_two_eq_one]
theorem Zl3 {a b:Int} (ha:0<=a/\a<=1125899906842624) (hb:0<=b/\b<=1125899906842624):i64.wrap (QG .i64 a b+Zw .i64 (Yu .i64 a b) 1)=(a+b).tdiv 2:=by
 obtain ⟨x,rfl⟩:=Kd ha.1
 obtain ⟨y,rfl⟩:=Kd hb.1
 have hx:x<2^51:=by omega
 have hy:y<2^51:=by omega
 have hm:=Zb2 51 x y hx hy
 have e1:QG .i64 (x:Int) (y:Int)=((x&&&y:Nat):Int):=by
  show i64.wrap (((BitVec.ofInt 64 (x:Int)&&&BitVec.ofInt 64 (y:Int)).toNat:Nat):Int)=_
  rw [JF,JF,BitVec.toNat_and,JG,JG,Jx (by omega),Jx (by omega)]
  rw [w64 (by omega)]
 have e2:Yu .i64 (x:Int) (y:Int)=((x^^^y:Nat):Int):=by
  show i64.wrap (((BitVec.ofInt 64 (x:Int)^^^BitVec.ofInt 64 (y:Int)).toNat:Nat):Int)=_
  rw [JF,JF,BitVec.toNat_xor,JG,JG,Jx (by omega),Jx (by omega)]
  rw [w64 (by omega)]
 have e3:Zw .i64 ((x^^^y:Nat):Int) 1=((x^^^y:Nat):Int)/2:=by
  unfold Zw
  rw [Int.fdiv_eq_ediv_of_nonneg _ (by decide)]
  rfl
 rw [e1,e2,e3,JK (by omega),w64 (by omega)]
 omega
def Xe (a b:Int):Int:=(a+b).tdiv 2
theorem Zb3 {a b m:Int} (ha:0<=a/\a<=m) (hb:0<=b/\b<=m):0<=Xe a b/\Xe a b<=m:=by
 grind [Xe]
theorem Zoq (M:Int->Int->Int) (a b:Int) (hM:M=Xe) (ha:0<=a/\a<=1125899906842624) (hb:0<=b/\b<=1125899906842624):
  evF G0 30 84 [.int .i64 a,.int .i64 b] ⟨0,[]⟩ (Xr fun v=>v=.tuple [.int .i64 (M a b),.int .i64 0]):=by
 refine @Eq.mpr _ (let k:=wrap i64 (QG i64 a b+Zw i64 (Yu i64 a b) 1);let j:=AV.int i64 (wrap i64 (k*0));let i:=[AV.int i64 2];let g:=[AV.int i64 0];let f:=AV.tuple (AV.int i64 (M a b)::g);let c:=AV.tuple (j::i)=f;let e:=AV.tuple (j::g)=f;let h:=AV.int i64 (wrap i64 (k*1));let d:=AV.tuple (h::i)=f;
 Z0 (decide (a<0)) (Z0 (decide (a<0)) c (Z0 (decide (a>1125899906842624)) c (Z0 (decide (b<0)) c (Z0 (decide (b>1125899906842624)) c e)))) (Z0 (decide (a>1125899906842624)) (Z0 (decide (a<0)) c (Z0 (decide (a>1125899906842624)) c (Z0 (decide (b<0)) c (Z0 (decide (b>1125899906842624)) c e)))) (Z0 (decide (b<0)) (Z0 (decide (a<0)) c (Z0 (decide (a>1125899906842624)) c (Z0 (decide (b<0)) c (Z0 (decide (b>1125899906842624)) c e)))) (Z0 (decide (b>1125899906842624)) (Z0 (decide (a<0)) c (Z0 (decide (a>1125899906842624)) c (Z0 (decide (b<0)) c (Z0 (decide (b>1125899906842624)) c e)))) (Z0 (decide (a<0)) d (Z0 (decide (a>1125899906842624)) d (Z0 (decide (b<0)) d (Z0 (decide (b>1125899906842624)) d (AV.tuple (h::g)=f))))))))) (by kernel_rfl) ?_
 conv=>zeta
 try simp only [Zc]
 try simp only [Zl]
 try simp only [Zg]
 try simp only [Zm]
 try simp only [Zn]
 try simp only [Zh]
 try simp only [and_true]
 have hm:=Zl3 ha hb
 have hq:0<=Xe a b/\Xe a b<=1125899906842624:=Zb3 ha hb
 have hw:i64.wrap (Xe a b)=Xe a b:=w64 (by omega)
 have hm:i64.wrap (QG i64 a b+Zw i64 (Yu i64 a b) 1)=Xe a b:=hm
 simp_all
theorem Zl4 (M:Int->Int->Int) (a b:Int) (hM:M=Xe) (ha:0<=a/\a<=1125899906842624) (hb:0<=b/\b<=1125899906842624):
  evF G0 30 127 [.int .i64 a,.int .i64 b] ⟨0,[]⟩ (Xr fun v=>v=.tuple [.int .i64 (M a b),.int .i64 0]):=by
 refine @Eq.mpr _ (let e:=[AV.int i64 0];let d:=AV.tuple (AV.int i64 (M a b)::e);let c:=AV.tuple [AV.int i64 0,AV.int i64 2]=d;
 Z0 (decide (a>=0)) (Z0 (!decide (a<=1125899906842624)) c (Z0 (decide (b>=0)) (Z0 (!decide (b<=1125899906842624)) c (AV.tuple (AV.int i64 (wrap i64 (Int.tdiv (wrap i64 (a+b)) 2))::e)=d)) c)) c) (by kernel_rfl) ?_
 conv=>zeta
 try simp only [Zc]
 try simp only [Zl]
 try simp only [Zg]
 try simp only [Zm]
 try simp only [Zn]
 try simp only [Zh]
 try simp only [and_true]
 have hw:i64.wrap (a+b)=a+b:=w64 (by omega)
 have hq:0<=Xe a b/\Xe a b<=1125899906842624:=Zb3 ha hb
 have hw2:i64.wrap ((a+b).tdiv 2)=Xe a b:=w64 (x:=Xe a b) (by omega)
 simp_all
def Zcz (M:Int->Int->Int):ZF:=fun args _ K=>match args with
 | [.int .i64 a,.int .i64 b]=>((0<=a/\a<=1125899906842624)/\(0<=b/\b<=1125899906842624))/\K (.tuple [.int .i64 (M a b),.int .i64 0])
 | _=>False
theorem Zir (args:List AV) (h:Z8) (K:AV->Prop) (hl:Zcz Xe args h K):Zd PP 84 args h fun o h'=>∃v,o=.ret v/\h'=h/\K v:=by
 unfold Zcz at hl
 split at hl
 ·obtain ⟨⟨h1,h2⟩,hK⟩:=hl
  exact YD Zr rfl (Zoq _ _ _ rfl h1 h2) (fun u hu=>hu▸hK)
 simp_all
theorem ZfF (args:List AV) (h:Z8) (K:AV->Prop) (hl:Zcz Xe args h K):Zd PP 127 args h fun o h'=>∃v,o=.ret v/\h'=h/\K v:=by
 unfold Zcz at hl
 split at hl
 ·obtain ⟨⟨h1,h2⟩,hK⟩:=hl
  exact YD Zr rfl (Zl4 _ _ _ rfl h1 h2) (fun u hu=>hu▸hK)
 simp_all
def YK (M:Int->Int->Int) (k:ClS) (x:Int):Int:=Z01 (match k.offers with|true=>M k.last x|false=>x) k.least k.most
theorem ZpX (M:Int->Int->Int) (k:ClS) (x r:Int) (hl:0<=k.last/\k.last<=1125899906842624) (hx:0<=x/\x<=1125899906842624) (hr:r=YK M k x):
  evF (G0.withP 84 (Zcz M)) 20 41 [.agg k.c,.int .i64 x] ⟨0,[]⟩ (Xr fun v=>v=.int .i64 r):=by
 refine @Eq.mpr _ (let c:=k.last;let f:=M c x;let b:=k.most;let e:=if f<b then f else b;let a:=k.least;let d:=if x<b then x else b;
 Z0 k.offers (((0<=c/\c<=1125899906842624)/\0<=x/\x<=1125899906842624)/\AV.int i64 (if e>a then e else a)=AV.int i64 r) (AV.int i64 (if d>a then d else a)=AV.int i64 r)) (by kernel_rfl) ?_
 conv=>zeta
 try simp only [Zc]
 try simp only [Zl]
 try simp only [Zg]
 try simp only [Zm]
 try simp only [Zn]
 try simp only [Zh]
 try simp only [and_true]
 grind [Z01,YK]
def nxS (M:Int->Int->Int):ZF:=fun args h K=>ZG none h true 20 args fun a=>match a with
 | [.agg cs,.int .i64 x]=>∃k,Yv cs k/\((0<=k.last/\k.last<=1125899906842624)/\(0<=x/\x<=1125899906842624))/\K (.int .i64 (YK M k x))
 | _=>False
theorem Zl5 (args:List AV) (h:Z8) (K:AV->Prop) (hl:nxS Xe args h K):Zd PP 41 args h fun o h'=>∃v,o=.ret v/\h'=h/\K v:=by
 refine Zx.psumm (d:=20) (Zq _ _ _ _ _ hl fun a ha=> ?_)
 split at ha
 ·obtain ⟨k,⟨rfl⟩,⟨h1,h2⟩,hK⟩:=ha
  exact ⟨_,Zx.evV (Za.withP_ok Zr Zir) (ZpX _ k _ _ h1 h2 rfl),fun _=>rfl,hK⟩
 simp_all
theorem ZpY (n a b:Int) (r:Bool) (hr:r=decide (a<=n/\n<=b)):
  evF G0 20 40 [.int .i64 n,.int .i64 a,.int .i64 b] ⟨0,[]⟩ (Xr (fun v=>v=.bool r)):=by
 refine @Eq.mpr _ (Z0 (decide (a<=n)) (AV.bool (decide (n<=b))=AV.bool r) (AV.bool false=AV.bool r)) (by kernel_rfl) ?_
 simp only [Z7D]
 subst hr
 by_cases h1:a<=n<;>by_cases h2:n<=b<;>simp [h1]
theorem ZfG (args:List AV) (h:Z8) (K:AV->Prop) (hl:inQ args h K):Zd PP 40 args h fun o h'=>∃v,o=.ret v/\h'=h/\K v:=by
 unfold inQ at hl
 split at hl
 ·exact YD Zr rfl (ZpY _ _ _ _ rfl) (fun u hu=>hu▸hl)
 simp_all
def sdN (kd am:Int) (tg:LI):Zo:=⟨kd,⟨Z5,0,0,0,0,0,Z5,Z5⟩,0,am,Z5,Z5,Z5,Z5,tg,Z5,0,0,0,0,0,ByteArray.empty⟩
def clO (k:ClS) (of:Bool) (la:Int) (ag:Bool) (fe:Int):ClS:=⟨k.t,k.side,k.a0,k.a1,k.least,k.most,of,la,ag,fe⟩
def clD (k:ClS) (s:Int):ClS:=⟨k.t,s,k.a0,k.a1,k.least,k.most,k.offers,k.last,k.agrees,k.fee⟩
theorem Wy {k:ClS} {s:Int} (h:k.side=s):clD k s=k:=by subst h;rfl
noncomputable def ZfH (A:LI->Int×Int) (Tg:LI->TxS->LI):Za:=(G0.withF 42 (clF A)).withP 83 (Z9z A Tg)
theorem QE:(ZfH ZJ ZC).Ok:=Za.withP_ok (Za.withF_ok Zr Z9y) Z5n
structure OfR (Tg:LI->TxS->LI) (k:ClS) (s fee e kd am la:Int) (tg:LI) (of:Bool):Prop where
 he:e=ZN k.t k.a0 k.a1 fee
 go:e=0->kd=13/\am=fee/\tg=Tg (Z9D k.t s) (txC k.t k.a0 k.a1 fee)/\of=true/\la=fee
 no:e≠0->kd=0/\am=0/\tg=Z5/\of=k.offers/\la=k.last
theorem Zje (A:LI->Int×Int) (Tg:LI->TxS->LI) (k:ClS) (fee e kd am la:Int) (tg:LI) (of:Bool) (hA:A=ZJ) (ht:k.t.All) (ha:k.a0<9223372036854775808) (hr:OfR Tg k 0 fee e kd am la tg of):
  evF (ZfH A Tg) 20 32 [.ptr (some ⟨0,0,0,0,0⟩),.int .i64 fee] ⟨1,[(0,.flat ((clD k 0).c++[.bool true]))]⟩ (ZK 1 (.ret (.tuple [.agg (sdN kd am tg).c,.int .i64 e])) 1 [(0,.flat ((clO (clD k 0) of la k.agrees k.fee).c++[.bool true]))]):=by
 refine @Eq.mpr _ (let f:=clD k 0;let l:=f.t;let q:=l.fund;let p:=l.index;let J:=l.cap;let I:=l.dust;let H:=l.fee;let G:=l.delay;let o:=l.k0;let b1:=l.k1;let D:=Zp.mk q p J I H G o b1;let b0:=[f.a0,f.a1];let d:=sdN kd am tg;let a9:=d.kind;let a8:=decide (0=a9);let C:=d.t;let B:=Z5=C.fund;let z:=Z5=C.k0;let y:=Z5=C.k1;let a7:=d.amount;let a6:=decide (0=a7);let x:=Z5=d.point;let w:=Z5=d.nxt;let v:=Z5=d.key;let u:=Z5=d.hash;let a5:=d.tag;let a4:=Z5=a5;let s:=Z5=d.secret;let r:=ByteArray.empty=d.route;let g:=clO f of la k.agrees k.fee;let j:=g.t;let a3:=q=j.fund;let a2:=decide (p=j.index);let Z:=decide (J=j.cap);let Y:=decide (I=j.dust);let X:=decide (H=j.fee);let W:=decide (G=j.delay);let V:=o=j.k0;let U:=b1=j.k1;let T:=b0=[g.a0,g.a1];let S:=decide (f.least=g.least);let R:=decide (f.most=g.most);let Q:=g.offers;let P:=g.last;let O:=Z0 (decide (f.agrees=g.agrees)) (Z0 (decide (f.fee=g.fee)) True False) False;let K:=a3/\Z0 a2 (Z0 Z (Z0 Y (Z0 X (Z0 W (V/\U/\T/\Z0 S (Z0 R (Z0 (decide (f.offers=Q)) (Z0 (decide (f.last=P)) O False) False) False) False) False) False) False) False) False;let m:=InS.mk q p 1 Z5 Z5 Z5;
 Zp.Ok D/\
 ∃(a:Int),
 ∃(b:Int),
 let F:=clB A D a b fee;let E:=clL D a b fee;
 b0=[a,b]/\
 a<9223372036854775808/\
 (F=false->Z0 a8 (B/\z/\y/\Z0 a6 (x/\w/\v/\u/\a4/\s/\r/\Z0 (decide (2=e)) K False) False) False)/\
 (F=true->
 (E.length=0->Z0 a8 (B/\z/\y/\Z0 a6 (x/\w/\v/\u/\a4/\s/\r/\Z0 (decide (180=e)) K False) False) False)/\
 ∀(n:Nat) (L:List Z9),
 L=ZW E->
 n=L.length->
 n≠0->
 Z0 (decide (0+n<=n))
 ((∀(i:Nat),i<n->true=true)/\
 ∃(t:TxS),
 (t.num=2147483647/\
 (((1:Nat)=1/\t.N=1)/\∀(i:Nat),i<1->Yg [AV.arr u8 32 m.name,AV.int i64 m.index,AV.int i64 m.way,AV.arr u8 32 m.tag,AV.arr u8 32 m.also,AV.arr u8 32 m.secret] 0 130 i=InS.c (t.ins i))/\
 (n=n/\t.M=n)/\
 ∀(i:Nat),
 let h:=Y4 L i;
 i<n->[AV.int i64 h.kind,AV.int i64 h.amount,AV.arr u8 32 h.owner,AV.arr u8 32 h.other,AV.arr u8 32 h.point,AV.arr u8 32 h.hash,AV.int i64 h.delay,AV.int i64 h.expiry]=ZM.c (t.outs i))/\
 (TxS.Ok t/\o.length=32/\Yp A t=true)/\Z0 (decide (13=a9)) (B/\z/\y/\Z0 (decide (fee=a7)) (x/\w/\v/\u/\Tg o t=a5/\s/\r/\Z0 (decide (0=e)) (a3/\Z0 a2 (Z0 Z (Z0 Y (Z0 X (Z0 W (V/\U/\T/\Z0 S (Z0 R (Z0 (decide (true=Q)) (Z0 (decide (fee=P)) O False) False) False) False) False) False) False) False) False) False) False) False)
 False)) (by kernel_rfl) ?_
 conv=>zeta
 try simp only [Zc]
 try simp only [Zl]
 try simp only [Zg]
 try simp only [Zm]
 try simp only [Zn]
 try simp only [Zh]
 try simp only [Jf,true_and,and_true,J2]
 subst hA
 obtain ⟨he,go,no⟩:=hr
 refine ⟨ht.ok,k.a0,k.a1,rfl,ha,fun h1=> ?_,fun h1=>⟨fun h2=> ?_,fun n L hL hn hn0=> ?_⟩⟩
 ·have e2:e=2:=he.trans (Ql (k:=k) h1)
  obtain ⟨rfl,rfl,rfl,rfl,rfl⟩:=no (by rw [e2];decide)
  and_intros<;>first|rfl|omega
 ·have e2:e=180:=he.trans (Ww (k:=k) h1 h2)
  obtain ⟨rfl,rfl,rfl,rfl,rfl⟩:=no (by rw [e2];decide)
  and_intros<;>first|rfl|omega
 ·have e1:=Wx (k:=k) h1 hL hn hn0
  have e2:e=0:=he.trans e1
  obtain ⟨rfl,rfl,rfl,rfl,rfl⟩:=go e2
  subst hn hL
  refine ⟨fun _ _=>trivial,txC k.t k.a0 k.a1 _,⟨rfl,⟨rfl,fun i hi=>VM _ i hi⟩,rfl,fun _ _=>rfl⟩,⟨WF ht.ok ht.fl,ht.ok.k0,Vf e1⟩, ?_⟩
  and_intros<;>first|rfl|omega
theorem Zjf (A:LI->Int×Int) (Tg:LI->TxS->LI) (k:ClS) (fee e kd am la:Int) (tg:LI) (of:Bool) (hA:A=ZJ) (ht:k.t.All) (ha:k.a0<9223372036854775808) (hr:OfR Tg k 1 fee e kd am la tg of):
  evF (ZfH A Tg) 20 32 [.ptr (some ⟨0,0,0,0,0⟩),.int .i64 fee] ⟨1,[(0,.flat ((clD k 1).c++[.bool true]))]⟩ (ZK 1 (.ret (.tuple [.agg (sdN kd am tg).c,.int .i64 e])) 1 [(0,.flat ((clO (clD k 1) of la k.agrees k.fee).c++[.bool true]))]):=by
 refine @Eq.mpr _ (let f:=clD k 1;let l:=f.t;let q:=l.fund;let p:=l.index;let K:=l.cap;let J:=l.dust;let I:=l.fee;let H:=l.delay;let G:=l.k0;let o:=l.k1;let D:=Zp.mk q p K J I H G o;let b1:=[f.a0,f.a1];let d:=sdN kd am tg;let b0:=d.kind;let a9:=decide (0=b0);let C:=d.t;let B:=Z5=C.fund;let z:=Z5=C.k0;let y:=Z5=C.k1;let a8:=d.amount;let a7:=decide (0=a8);let x:=Z5=d.point;let w:=Z5=d.nxt;let v:=Z5=d.key;let u:=Z5=d.hash;let a6:=d.tag;let a5:=Z5=a6;let s:=Z5=d.secret;let r:=ByteArray.empty=d.route;let g:=clO f of la k.agrees k.fee;let j:=g.t;let a4:=q=j.fund;let a3:=decide (p=j.index);let a2:=decide (K=j.cap);let Z:=decide (J=j.dust);let Y:=decide (I=j.fee);let X:=decide (H=j.delay);let W:=G=j.k0;let V:=o=j.k1;let U:=b1=[g.a0,g.a1];let T:=decide (f.least=g.least);let S:=decide (f.most=g.most);let R:=g.offers;let Q:=g.last;let P:=Z0 (decide (f.agrees=g.agrees)) (Z0 (decide (f.fee=g.fee)) True False) False;let O:=a4/\Z0 a3 (Z0 a2 (Z0 Z (Z0 Y (Z0 X (W/\V/\U/\Z0 T (Z0 S (Z0 (decide (f.offers=R)) (Z0 (decide (f.last=Q)) P False) False) False) False) False) False) False) False) False;let m:=InS.mk q p 1 Z5 Z5 Z5;
 Zp.Ok D/\
 ∃(a:Int),
 ∃(b:Int),
 let F:=clB A D a b fee;let E:=clL D a b fee;
 b1=[a,b]/\
 a<9223372036854775808/\
 (F=false->Z0 a9 (B/\z/\y/\Z0 a7 (x/\w/\v/\u/\a5/\s/\r/\Z0 (decide (2=e)) O False) False) False)/\
 (F=true->
 (E.length=0->Z0 a9 (B/\z/\y/\Z0 a7 (x/\w/\v/\u/\a5/\s/\r/\Z0 (decide (180=e)) O False) False) False)/\
 ∀(n:Nat) (L:List Z9),
 L=ZW E->
 n=L.length->
 n≠0->
 Z0 (decide (0+n<=n))
 ((∀(i:Nat),i<n->true=true)/\
 ∃(t:TxS),
 (t.num=2147483647/\
 (((1:Nat)=1/\t.N=1)/\∀(i:Nat),i<1->Yg [AV.arr u8 32 m.name,AV.int i64 m.index,AV.int i64 m.way,AV.arr u8 32 m.tag,AV.arr u8 32 m.also,AV.arr u8 32 m.secret] 0 130 i=InS.c (t.ins i))/\
 (n=n/\t.M=n)/\
 ∀(i:Nat),
 let h:=Y4 L i;
 i<n->[AV.int i64 h.kind,AV.int i64 h.amount,AV.arr u8 32 h.owner,AV.arr u8 32 h.other,AV.arr u8 32 h.point,AV.arr u8 32 h.hash,AV.int i64 h.delay,AV.int i64 h.expiry]=ZM.c (t.outs i))/\
 (TxS.Ok t/\o.length=32/\Yp A t=true)/\Z0 (decide (13=b0)) (B/\z/\y/\Z0 (decide (fee=a8)) (x/\w/\v/\u/\Tg o t=a6/\s/\r/\Z0 (decide (0=e)) (a4/\Z0 a3 (Z0 a2 (Z0 Z (Z0 Y (Z0 X (W/\V/\U/\Z0 T (Z0 S (Z0 (decide (true=R)) (Z0 (decide (fee=Q)) P False) False) False) False) False) False) False) False) False) False) False) False)
 False)) (by kernel_rfl) ?_
 conv=>zeta
 try simp only [Zc]
 try simp only [Zl]
 try simp only [Zg]
 try simp only [Zm]
 try simp only [Zn]
 try simp only [Zh]
 try simp only [Jf,true_and,and_true,J2]
 subst hA
 obtain ⟨he,go,no⟩:=hr
 refine ⟨ht.ok,k.a0,k.a1,rfl,ha,fun h1=> ?_,fun h1=>⟨fun h2=> ?_,fun n L hL hn hn0=> ?_⟩⟩
 ·have e2:e=2:=he.trans (Ql (k:=k) h1)
  obtain ⟨rfl,rfl,rfl,rfl,rfl⟩:=no (by rw [e2];decide)
  and_intros<;>first|rfl|omega
 ·have e2:e=180:=he.trans (Ww (k:=k) h1 h2)
  obtain ⟨rfl,rfl,rfl,rfl,rfl⟩:=no (by rw [e2];decide)
  and_intros<;>first|rfl|omega
 ·have e1:=Wx (k:=k) h1 hL hn hn0
  have e2:e=0:=he.trans e1
  obtain ⟨rfl,rfl,rfl,rfl,rfl⟩:=go e2
  subst hn hL
  refine ⟨fun _ _=>trivial,txC k.t k.a0 k.a1 _,⟨rfl,⟨rfl,fun i hi=>VM _ i hi⟩,rfl,fun _ _=>rfl⟩,⟨WF ht.ok ht.fl,ht.ok.k1,Vf e1⟩, ?_⟩
  and_intros<;>first|rfl|omega
inductive X7 (cs:List AV) (k:ClS):Prop
 | mk:cs=k.c++[.bool true]->X7 cs k
structure XN (k:ClS):Prop where
 t:k.t.All
 a:k.a0<9223372036854775808
 s:k.side=0\/k.side=1
theorem ZfI {k:ClS} (hk:XN k) (fee:Int):(ZN k.t k.a0 k.a1 fee=0->Spec PP 32 [.ptr (some ⟨0,0,0,0,0⟩),.int .i64 fee] ⟨1,[(0,.flat (k.c++[.bool true]))]⟩ (.ret (.tuple [.agg (sdN 13 fee (Yi ZC k fee k.side)).c,.int .i64 0])) 1 [(0,.flat ((clO k true fee k.agrees k.fee).c++[.bool true]))])/\
  (ZN k.t k.a0 k.a1 fee≠0->Spec PP 32 [.ptr (some ⟨0,0,0,0,0⟩),.int .i64 fee] ⟨1,[(0,.flat (k.c++[.bool true]))]⟩ (.ret (.tuple [.agg (sdN 0 0 Z5).c,.int .i64 (ZN k.t k.a0 k.a1 fee)])) 1 [(0,.flat (k.c++[.bool true]))]):=by
 obtain ⟨ht,ha,hs⟩:=hk
 refine ⟨fun he=> ?_,fun he=> ?_⟩
 ·rw [Uw he]
  rcases hs with hs|hs
  ·have hv:=Zje ZJ ZC k fee 0 13 fee fee (ZC (Z9D k.t 0) (txC k.t k.a0 k.a1 fee)) true rfl ht ha ⟨he.symm,fun _=>⟨rfl,rfl,rfl,rfl,rfl⟩,fun h=>absurd rfl h⟩
   rw [Wy hs] at hv
   rw [hs]
   exact .evM QE hv
  ·have hv:=Zjf ZJ ZC k fee 0 13 fee fee (ZC (Z9D k.t 1) (txC k.t k.a0 k.a1 fee)) true rfl ht ha ⟨he.symm,fun _=>⟨rfl,rfl,rfl,rfl,rfl⟩,fun h=>absurd rfl h⟩
   rw [Wy hs] at hv
   rw [hs]
   exact .evM QE hv
 ·rcases hs with hs|hs
  ·have hv:=Zje ZJ ZC k fee (ZN k.t k.a0 k.a1 fee) 0 0 k.last Z5 k.offers rfl ht ha ⟨rfl,fun h=>absurd h he,fun _=>⟨rfl,rfl,rfl,rfl,rfl⟩⟩
   rw [Wy hs] at hv
   exact .evM QE hv
  ·have hv:=Zjf ZJ ZC k fee (ZN k.t k.a0 k.a1 fee) 0 0 k.last Z5 k.offers rfl ht ha ⟨rfl,fun h=>absurd h he,fun _=>⟨rfl,rfl,rfl,rfl,rfl⟩⟩
   rw [Wy hs] at hv
   exact .evM QE hv
inductive XO (cs:List AV) (s:Zo):Prop
 | mk:cs=s.c->XO cs s
open Classical in
noncomputable def WQ (s:Zo):Bool:=decide (Zy s s.kind)
theorem Qm {s:Zo}:WQ s=true↔Zy s s.kind:=by unfold WQ;simp
def Zis (SB:Zo->Bool):ZF:=fun args _ K=>match args with
 | [.agg cs]=>∃s,XO cs s/\s.Len/\(SB s=true->K (.int .i64 0))/\(SB s=false->K (.int .i64 2))
 | _=>False
structure HR where
 e:Int
 kd:Int
 am:Int
 tg:LI
 sy:Bool
 of:Bool
 la:Int
 ag:Bool
 fe:Int
def noR (k:ClS) (e:Int):HR:=⟨e,0,0,Z5,false,k.offers,k.last,k.agrees,k.fee⟩
def Ya (SB:Zo->Bool) (M:Int->Int->Int) (Tg:LI->TxS->LI) (k:ClS) (s:Zo):HR:=
 if SB s=false then noR k 2 else if s.kind≠13 then noR k 210 else if k.agrees=true then noR k 250
 else if ZN k.t k.a0 k.a1 s.amount≠0 then noR k (ZN k.t k.a0 k.a1 s.amount)
 else if Yi Tg k s.amount (1-k.side)≠s.tag then noR k 221
 else if k.offers=true/\k.last=s.amount then ⟨0,0,0,Z5,false,k.offers,k.last,true,s.amount⟩
 else if k.least<=s.amount/\s.amount<=k.most then ⟨0,13,s.amount,Yi Tg k s.amount k.side,true,true,s.amount,true,s.amount⟩
 else if k.offers=true/\YK M k s.amount=k.last then noR k 252
 else if ZN k.t k.a0 k.a1 (YK M k s.amount)≠0 then noR k (ZN k.t k.a0 k.a1 (YK M k s.amount))
 else ⟨0,13,YK M k s.amount,Yi Tg k (YK M k s.amount) k.side,true,true,YK M k s.amount,k.agrees,k.fee⟩
def h2E (Tg:LI->TxS->LI) (k:ClS) (s:Zo):Int:=if ZN k.t k.a0 k.a1 s.amount=0 then (if Yi Tg k s.amount (1-k.side)=s.tag then 0 else 221) else ZN k.t k.a0 k.a1 s.amount
theorem Z1J {k:ClS} {s:Zo} {m:Int} (h:ZN k.t k.a0 k.a1 s.amount=m) (hm:m≠0):h2E Tg k s=m:=by
 unfold h2E
 rw [h,if_neg hm]
theorem Z9H {k:ClS} {s:Zo} (h:ZN k.t k.a0 k.a1 s.amount=0):h2E Tg k s=if Yi Tg k s.amount (1-k.side)=s.tag then 0 else 221:=by
 unfold h2E
 rw [if_pos h]
theorem ZpZ (A:LI->Int×Int) (Tg:LI->TxS->LI) (k:ClS) (s:Zo) (e:Int) (hA:A=ZJ) (ht:k.t.All) (ha:k.a0<9223372036854775808) (hl:s.Len) (hT:∀a t,(Tg a t).length=32) (he:e=h2E Tg (clD k 0) s):
  evF (ZfH A Tg) 20 37 [.ptr (some ⟨1,0,0,0,0⟩),.ptr (some ⟨2,0,0,0,0⟩)] ⟨3,[(0,.flat ((clD k 0).c++[.bool true])),(1,.flat [.ptr (some ⟨0,0,0,0,0⟩)]),(2,.flat s.c)]⟩ (ZK 3 (.ret (.int .i64 e)) 3 [(0,.flat ((clD k 0).c++[.bool true])),(1,.flat [.ptr (some ⟨0,0,0,0,0⟩)]),(2,.flat s.c)]):=by
 refine @Eq.mpr _ (let d:=clD k 0;let h:=d.t;let q:=h.fund;let m:=h.index;let y:=h.cap;let x:=h.dust;let w:=h.fee;let v:=h.delay;let u:=h.k0;let l:=h.k1;let B:=Zp.mk q m y x w v u l;let z:=[d.a0,d.a1];let r:=s.amount;let W:=d.least;let V:=d.most;let U:=d.offers;let T:=d.last;let S:=d.agrees;let R:=d.fee;let g:=s.t;let Q:=g.fund;let P:=g.index;let O:=g.cap;let K:=g.dust;let J:=g.fee;let I:=g.delay;let H:=g.k0;let G:=g.k1;let F:=s.reserve;let p:=s.tag;let E:=p=p;let o:=( q=q/\
 Z0 (decide (m=m))
 (Z0 (decide (y=y))
 (Z0 (decide (x=x)) (Z0 (decide (w=w)) (Z0 (decide (v=v)) (u=u/\l=l/\z=z/\Z0 (decide (W=W)) (Z0 (decide (V=V)) (Z0 (decide (U=U)) (Z0 (decide (T=T)) (Z0 (decide (S=S)) (Z0 (decide (R=R)) (Z0 (decide (s.kind=s.kind)) (Q=Q/\Z0 (decide (P=P)) (Z0 (decide (O=O)) (Z0 (decide (K=K)) (Z0 (decide (J=J)) (Z0 (decide (I=I)) (H=H/\G=G/\Z0 (decide (F=F)) (Z0 (decide (r=r)) (s.point=s.point/\s.nxt=s.nxt/\s.key=s.key/\s.hash=s.hash/\E/\s.secret=s.secret/\Z0 (decide (s.id=s.id)) (Z0 (decide (s.number=s.number)) (Z0 (decide (s.index=s.index)) (Z0 (decide (s.expiry=s.expiry)) (Z0 (decide (s.code=s.code)) (s.route=s.route/\True) False) False) False) False) False) False) False) False) False) False) False) False) False) False) False) False) False) False) False) False) False) False) False)
 False);let j:=InS.mk q m 1 Z5 Z5 Z5;
 Zp.Ok B/\
 ∃(a:Int),
 ∃(b:Int),
 let D:=clB A B a b r;let C:=clL B a b r;
 z=[a,b]/\
 a<9223372036854775808/\
 (D=false->Z0 (decide (2=e)) o False)/\
 (D=true->
 (C.length=0->Z0 (decide (180=e)) o False)/\
 ∀(n:Nat) (L:List Z9),
 L=ZW C->
 n=L.length->
 n≠0->
 Z0 (decide (0+n<=n))
 ((∀(i:Nat),i<n->true=true)/\
 ∃(t:TxS),
 (t.num=2147483647/\
 (((1:Nat)=1/\t.N=1)/\∀(i:Nat),i<1->Yg [AV.arr u8 32 j.name,AV.int i64 j.index,AV.int i64 j.way,AV.arr u8 32 j.tag,AV.arr u8 32 j.also,AV.arr u8 32 j.secret] 0 130 i=InS.c (t.ins i))/\
 (n=n/\t.M=n)/\
 ∀(i:Nat),
 let f:=Y4 L i;
 i<n->[AV.int i64 f.kind,AV.int i64 f.amount,AV.arr u8 32 f.owner,AV.arr u8 32 f.other,AV.arr u8 32 f.point,AV.arr u8 32 f.hash,AV.int i64 f.delay,AV.int i64 f.expiry]=ZM.c (t.outs i))/\
 (TxS.Ok t/\l.length=32/\Yp A t=true)/\E/\Z0 (decide (List.length (Tg l t)=32/\p.length=32)) (Z0 (Tg l t==p) (Z0 (decide (0=e)) o False) (Z0 (decide (221=e)) o False)) False)
 False)) (by kernel_rfl) ?_
 conv=>zeta
 try simp only [Zc]
 try simp only [Zl]
 try simp only [Zg]
 try simp only [Zm]
 try simp only [Zn]
 try simp only [Zh]
 try simp only [Jf,true_and,and_true,J2]
 subst hA
 have hg:=fun (m:Int) (hm:h2E Tg (clD k 0) s=m)=>he.trans hm
 refine ⟨ht.ok,k.a0,k.a1,rfl,ha,fun h1=> ?_,fun h1=>⟨fun h2=> ?_,fun n L hL hn hn0=> ?_⟩⟩
 ·have e1:=Ql (k:=k) h1
  have e2:=hg 2 (Z1J (k:=clD k 0) e1 (by decide))
  and_intros<;>first|omega
 ·have e1:=Ww (k:=k) h1 h2
  have e2:=hg 180 (Z1J (k:=clD k 0) e1 (by decide))
  and_intros<;>first|omega
 ·have e1:=Wx (k:=k) h1 hL hn hn0
  subst hn hL
  have hv:Yi Tg (clD k 0) s.amount (1-(clD k 0).side)=Tg k.t.k1 (txC k.t k.a0 k.a1 s.amount):=Uw (k:=k) (sd:=1) e1
  refine ⟨fun _ _=>trivial,txC k.t k.a0 k.a1 s.amount,⟨rfl,⟨rfl,fun i hi=>VM _ i hi⟩,rfl,fun _ _=>rfl⟩,⟨WF ht.ok ht.fl,ht.ok.k1,Vf e1⟩, ?_⟩
  have e2:=he.trans (Z9H (Tg:=Tg) (k:=clD k 0) e1)
  rw [hv] at e2
  refine ⟨⟨hT _ _,hl.h7⟩,fun h=> ?_,fun h=> ?_⟩
  ·have h:Tg k.t.k1 (txC k.t k.a0 k.a1 s.amount)=s.tag:=beq_iff_eq.1 h
   rw [if_pos h] at e2
   and_intros<;>first|omega
  ·have h:¬Tg k.t.k1 (txC k.t k.a0 k.a1 s.amount)=s.tag:=beq_eq_false_iff_ne.1 h
   rw [if_neg h] at e2
   and_intros<;>first|omega
theorem Zq0 (A:LI->Int×Int) (Tg:LI->TxS->LI) (k:ClS) (s:Zo) (e:Int) (hA:A=ZJ) (ht:k.t.All) (ha:k.a0<9223372036854775808) (hl:s.Len) (hT:∀a t,(Tg a t).length=32) (he:e=h2E Tg (clD k 1) s):
  evF (ZfH A Tg) 20 37 [.ptr (some ⟨1,0,0,0,0⟩),.ptr (some ⟨2,0,0,0,0⟩)] ⟨3,[(0,.flat ((clD k 1).c++[.bool true])),(1,.flat [.ptr (some ⟨0,0,0,0,0⟩)]),(2,.flat s.c)]⟩ (ZK 3 (.ret (.int .i64 e)) 3 [(0,.flat ((clD k 1).c++[.bool true])),(1,.flat [.ptr (some ⟨0,0,0,0,0⟩)]),(2,.flat s.c)]):=by
 refine @Eq.mpr _ (let d:=clD k 1;let h:=d.t;let q:=h.fund;let m:=h.index;let x:=h.cap;let w:=h.dust;let v:=h.fee;let u:=h.delay;let j:=h.k0;let B:=h.k1;let z:=Zp.mk q m x w v u j B;let y:=[d.a0,d.a1];let r:=s.amount;let W:=d.least;let V:=d.most;let U:=d.offers;let T:=d.last;let S:=d.agrees;let R:=d.fee;let g:=s.t;let Q:=g.fund;let P:=g.index;let O:=g.cap;let K:=g.dust;let J:=g.fee;let I:=g.delay;let H:=g.k0;let G:=g.k1;let F:=s.reserve;let p:=s.tag;let E:=p=p;let o:=( q=q/\
 Z0 (decide (m=m))
 (Z0 (decide (x=x))
 (Z0 (decide (w=w)) (Z0 (decide (v=v)) (Z0 (decide (u=u)) (j=j/\B=B/\y=y/\Z0 (decide (W=W)) (Z0 (decide (V=V)) (Z0 (decide (U=U)) (Z0 (decide (T=T)) (Z0 (decide (S=S)) (Z0 (decide (R=R)) (Z0 (decide (s.kind=s.kind)) (Q=Q/\Z0 (decide (P=P)) (Z0 (decide (O=O)) (Z0 (decide (K=K)) (Z0 (decide (J=J)) (Z0 (decide (I=I)) (H=H/\G=G/\Z0 (decide (F=F)) (Z0 (decide (r=r)) (s.point=s.point/\s.nxt=s.nxt/\s.key=s.key/\s.hash=s.hash/\E/\s.secret=s.secret/\Z0 (decide (s.id=s.id)) (Z0 (decide (s.number=s.number)) (Z0 (decide (s.index=s.index)) (Z0 (decide (s.expiry=s.expiry)) (Z0 (decide (s.code=s.code)) (s.route=s.route/\True) False) False) False) False) False) False) False) False) False) False) False) False) False) False) False) False) False) False) False) False) False) False) False)
 False);let l:=InS.mk q m 1 Z5 Z5 Z5;
 Zp.Ok z/\
 ∃(a:Int),
 ∃(b:Int),
 let D:=clB A z a b r;let C:=clL z a b r;
 y=[a,b]/\
 a<9223372036854775808/\
 (D=false->Z0 (decide (2=e)) o False)/\
 (D=true->
 (C.length=0->Z0 (decide (180=e)) o False)/\
 ∀(n:Nat) (L:List Z9),
 L=ZW C->
 n=L.length->
 n≠0->
 Z0 (decide (0+n<=n))
 ((∀(i:Nat),i<n->true=true)/\
 ∃(t:TxS),
 (t.num=2147483647/\
 (((1:Nat)=1/\t.N=1)/\∀(i:Nat),i<1->Yg [AV.arr u8 32 l.name,AV.int i64 l.index,AV.int i64 l.way,AV.arr u8 32 l.tag,AV.arr u8 32 l.also,AV.arr u8 32 l.secret] 0 130 i=InS.c (t.ins i))/\
 (n=n/\t.M=n)/\
 ∀(i:Nat),
 let f:=Y4 L i;
 i<n->[AV.int i64 f.kind,AV.int i64 f.amount,AV.arr u8 32 f.owner,AV.arr u8 32 f.other,AV.arr u8 32 f.point,AV.arr u8 32 f.hash,AV.int i64 f.delay,AV.int i64 f.expiry]=ZM.c (t.outs i))/\
 (TxS.Ok t/\j.length=32/\Yp A t=true)/\E/\Z0 (decide (List.length (Tg j t)=32/\p.length=32)) (Z0 (Tg j t==p) (Z0 (decide (0=e)) o False) (Z0 (decide (221=e)) o False)) False)
 False)) (by kernel_rfl) ?_
 conv=>zeta
 try simp only [Zc]
 try simp only [Zl]
 try simp only [Zg]
 try simp only [Zm]
 try simp only [Zn]
 try simp only [Zh]
 try simp only [Jf,true_and,and_true,J2]
 subst hA
 have hg:=fun (m:Int) (hm:h2E Tg (clD k 1) s=m)=>he.trans hm
 refine ⟨ht.ok,k.a0,k.a1,rfl,ha,fun h1=> ?_,fun h1=>⟨fun h2=> ?_,fun n L hL hn hn0=> ?_⟩⟩
 ·have e1:=Ql (k:=k) h1
  have e2:=hg 2 (Z1J (k:=clD k 1) e1 (by decide))
  and_intros<;>first|omega
 ·have e1:=Ww (k:=k) h1 h2
  have e2:=hg 180 (Z1J (k:=clD k 1) e1 (by decide))
  and_intros<;>first|omega
 ·have e1:=Wx (k:=k) h1 hL hn hn0
  subst hn hL
  have hv:Yi Tg (clD k 1) s.amount (1-(clD k 1).side)=Tg k.t.k0 (txC k.t k.a0 k.a1 s.amount):=Uw (k:=k) (sd:=0) e1
  refine ⟨fun _ _=>trivial,txC k.t k.a0 k.a1 s.amount,⟨rfl,⟨rfl,fun i hi=>VM _ i hi⟩,rfl,fun _ _=>rfl⟩,⟨WF ht.ok ht.fl,ht.ok.k0,Vf e1⟩, ?_⟩
  have e2:=he.trans (Z9H (Tg:=Tg) (k:=clD k 1) e1)
  rw [hv] at e2
  refine ⟨⟨hT _ _,hl.h7⟩,fun h=> ?_,fun h=> ?_⟩
  ·have h:Tg k.t.k0 (txC k.t k.a0 k.a1 s.amount)=s.tag:=beq_iff_eq.1 h
   rw [if_pos h] at e2
   and_intros<;>first|omega
  ·have h:¬Tg k.t.k0 (txC k.t k.a0 k.a1 s.amount)=s.tag:=beq_eq_false_iff_ne.1 h
   rw [if_neg h] at e2
   and_intros<;>first|omega
def h2S (Tg:LI->TxS->LI):ZQ:=fun args h K=>match args with
 | [.ptr (some ⟨a,0,0,0,0⟩),.ptr (some ⟨b,0,0,0,0⟩)]=>match h.get a with
  | some (.flat [.ptr (some ⟨x,0,0,0,0⟩)])=>frA [x,a,b] h 40 args fun Bs aa=>match Bs,aa with
   | [.flat cs,.flat [.ptr (some ⟨0,0,0,0,0⟩)],.flat ss],[.ptr (some ⟨1,0,0,0,0⟩),.ptr (some ⟨2,0,0,0,0⟩)]=>∃k s,X7 cs k/\XO ss s/\XN k/\s.Len/\
    (ZN k.t k.a0 k.a1 s.amount=2->K (.ret (.int .i64 2)) ⟨h.next,(x,.flat cs)::(a,.flat [.ptr (some ⟨x,0,0,0,0⟩)])::(b,.flat ss)::Yc (Yc (Yc h.bs x) a) b⟩)/\
    (ZN k.t k.a0 k.a1 s.amount=180->K (.ret (.int .i64 180)) ⟨h.next,(x,.flat cs)::(a,.flat [.ptr (some ⟨x,0,0,0,0⟩)])::(b,.flat ss)::Yc (Yc (Yc h.bs x) a) b⟩)/\
    (ZN k.t k.a0 k.a1 s.amount=0->(Yi Tg k s.amount (1-k.side)≠s.tag->K (.ret (.int .i64 221)) ⟨h.next,(x,.flat cs)::(a,.flat [.ptr (some ⟨x,0,0,0,0⟩)])::(b,.flat ss)::Yc (Yc (Yc h.bs x) a) b⟩)/\
     (Yi Tg k s.amount (1-k.side)=s.tag->K (.ret (.int .i64 0)) ⟨h.next,(x,.flat cs)::(a,.flat [.ptr (some ⟨x,0,0,0,0⟩)])::(b,.flat ss)::Yc (Yc (Yc h.bs x) a) b⟩))
   | _,_=>False
  | _=>False
 | _=>False
theorem Z6v (t:Zp) (a b fee:Int):ZN t a b fee=2\/ZN t a b fee=180\/ZN t a b fee=0:=by
 grind [ZN]
theorem Zit {k:ClS} {s:Zo} (hk:XN k) (hl:s.Len):Spec PP 37 [.ptr (some ⟨1,0,0,0,0⟩),.ptr (some ⟨2,0,0,0,0⟩)] ⟨3,[(0,.flat (k.c++[.bool true])),(1,.flat [.ptr (some ⟨0,0,0,0,0⟩)]),(2,.flat s.c)]⟩ (.ret (.int .i64 (h2E ZC k s))) 3 [(0,.flat (k.c++[.bool true])),(1,.flat [.ptr (some ⟨0,0,0,0,0⟩)]),(2,.flat s.c)]:=by
 obtain ⟨ht,ha,hs|hs⟩:=hk
 ·have hv:=ZpZ ZJ ZC k s _ rfl ht ha hl Xl rfl
  rw [Wy hs] at hv
  exact .evM QE hv
 ·have hv:=Zq0 ZJ ZC k s _ rfl ht ha hl Xl rfl
  rw [Wy hs] at hv
  exact .evM QE hv
theorem Zl6 (args:List AV) (h:Z8) (K:KO) (hl:h2S ZC args h K):Zd PP 37 args h K:=by
 unfold h2S at hl
 split at hl
 ·split at hl
  ·refine Spec.fsumm hl fun Bs a hlen hK0=> ?_
   split at hK0
   ·obtain ⟨k,s,⟨rfl⟩,⟨rfl⟩,hk,hs,k1,k2,k3⟩:=hK0
    refine ⟨_,_,_,_,_,Zit hk hs,by simp,.ret _ _ rfl,.cons _ _ _ _ _ _ rfl (.flat _ _ rfl) (.cons _ _ _ _ _ _ rfl (.flat _ _ rfl) (.cons _ _ _ _ _ _ rfl (.flat _ _ rfl) .nil)), ?_⟩
    rcases Z6v k.t k.a0 k.a1 s.amount with e|e|e
    ·rw [Z1J e (by decide)];exact k1 e
    ·rw [Z1J e (by decide)];exact k2 e
    ·rw [Z9H e]
     split
     ·exact (k3 e).2 (by assumption)
     ·exact (k3 e).1 (by assumption)
   simp_all
  simp_all
 simp_all
def sdC (kd am:Int) (tg:LI):List AV:=[.int .i64 kd,.arr .u8 32 Z5,.int .i64 0,.int .i64 0,.int .i64 0,.int .i64 0,.int .i64 0,.arr .u8 32 Z5,.arr .u8 32 Z5,.int .i64 0,.int .i64 am,.arr .u8 32 Z5,.arr .u8 32 Z5,.arr .u8 32 Z5,.arr .u8 32 Z5,.arr .u8 32 tg,.arr .u8 32 Z5,.int .i64 0,.int .i64 0,.int .i64 0,.int .i64 0,.int .i64 0,.str ByteArray.empty]
def Zor (cs:List AV) (fee:Int):List AV:=match cs with
 | [a,b,c,d,e,f,g,h,i,j,k,l,_,_,o,p,q]=>[a,b,c,d,e,f,g,h,i,j,k,l,.bool true,.int .i64 fee,o,p,q]
 | _=>[]
def Ziu (Tg:LI->TxS->LI):ZQ:=fun args h K=>match args with
 | [.ptr (some ⟨x,0,0,0,0⟩),_]=>frA [x] h 20 args fun Bs a=>match Bs,a with
  | [.flat cs],[.ptr (some ⟨0,0,0,0,0⟩),.int .i64 fee]=>∃k,X7 cs k/\XN k/\
   (ZN k.t k.a0 k.a1 fee=0->K (.ret (.tuple [.agg (sdC 13 fee (Yi Tg k fee k.side)),.int .i64 0])) ⟨h.next,(x,.flat (Zor cs fee))::Yc h.bs x⟩)/\
   (ZN k.t k.a0 k.a1 fee=2->K (.ret (.tuple [.agg (sdC 0 0 Z5),.int .i64 2])) ⟨h.next,(x,.flat cs)::Yc h.bs x⟩)/\
   (ZN k.t k.a0 k.a1 fee=180->K (.ret (.tuple [.agg (sdC 0 0 Z5),.int .i64 180])) ⟨h.next,(x,.flat cs)::Yc h.bs x⟩)
  | _,_=>False
 | _=>False
theorem Z6w (args:List AV) (h:Z8) (K:KO) (hl:Ziu ZC args h K):Zd PP 32 args h K:=by
 unfold Ziu at hl
 split at hl
 ·refine Spec.fsumm hl fun Bs a hlen hK0=> ?_
  split at hK0
  ·rename_i cs fee
   obtain ⟨k,⟨rfl⟩,hk,h1,h2,h3⟩:=hK0
   have hs:=ZfI hk fee
   rcases Z6v k.t k.a0 k.a1 fee with e|e|e
   ·exact ⟨_,_,_,_,_,(hs.2 (by rw [e];decide)),by simp,.ret _ _ rfl,.cons _ _ _ _ _ _ rfl (.flat _ _ rfl) .nil,e▸h2 e⟩
   ·exact ⟨_,_,_,_,_,(hs.2 (by rw [e];decide)),by simp,.ret _ _ rfl,.cons _ _ _ _ _ _ rfl (.flat _ _ rfl) .nil,e▸h3 e⟩
   ·exact ⟨_,_,_,_,_,hs.1 e,by simp,.ret _ _ rfl,.cons _ _ _ _ _ _ rfl (.flat _ _ rfl) .nil,h1 e⟩
  simp_all
 simp_all
theorem Zd.k {P:Program} {f:FuncId} {h:Z8} {K K':KO} (hc:Zd P f args h K) (hk:∀o h,K o h->K' o h):Zd P f args h K':=fun E w rs he hl=>
 (hc E w rs he hl).mono (by
  rintro e w' ⟨E1,o,h',h1,h2,h3⟩
  exact ⟨E1,o,h',hk _ _ h1,h2,h3⟩)
theorem Zos {ok:Bool} {o:Out} {h:Z8} (hk:chK ok o h):Xr (fun v=>v=.int .i64 (if ok=true then 0 else 2)) o h:=by
 unfold chK at hk
 split at hk
 ·subst hk;rfl
 ·subst hk;rfl
 ·exact hk.elim
theorem Xq:Z0x.Ok:=Za.withP_ok Zr Z3X
theorem Ziv:Znz.Ok:=Za.withF_ok (Za.withF_ok (Za.withF_ok Zr (Z9u (f:=227))) (Z9u (f:=230))) (Z9u (f:=235))
theorem Z47 {s:Zo} {k:Int} (hk:k<1\/14<k):¬Zy s k:=fun h=>by
 have hq:=h.k
 unfold kindOk at hq
 split at hq<;>first|omega|exact hq
theorem Zot {s:Zo} (hs:s.Len) {ok:Bool} (hok:ok=true↔Zy s s.kind):Zd PP 35 [.agg s.c] ⟨0,[]⟩ (chK ok):=by
 unfold Zo.c
 have h15:s.kind=1\/s.kind=2\/s.kind=3\/s.kind=4\/s.kind=5\/s.kind=6\/s.kind=7\/s.kind=8\/s.kind=9\/s.kind=10\/s.kind=11\/s.kind=12\/s.kind=13\/s.kind=14\/(s.kind<1\/14<s.kind):=by omega
 rcases h15 with h|h|h|h|h|h|h|h|h|h|h|h|h|h|h
 ·rw [h] at hok⊢;exact Y5 Xq (Zne s ok hs hok)
 ·rw [h] at hok⊢;exact Y5 Xq (Znf s ok hs hok)
 ·rw [h] at hok⊢;exact Y5 Xq (Zng s ok hs hok)
 ·rw [h] at hok⊢;exact Y5 Xq (Znh s ok hs hok)
 ·rw [h] at hok⊢;exact Y5 Xq (Zns s ok hs hok)
 ·rw [h] at hok⊢;exact Y5 Xq (Znt s ok hs hok)
 ·rw [h] at hok⊢;exact Y5 Xq (Znu s ok hs hok)
 ·rw [h] at hok⊢;exact Y5 Xq (Znv s ok hs hok)
 ·rw [h] at hok⊢;exact Y5 Xq (Znw s ok hs hok)
 ·rw [h] at hok⊢;exact Y5 Xq (ZkG s ok hs hok)
 ·rw [h] at hok⊢;exact Y5 Xq (ZkH s ok hs hok)
 ·rw [h] at hok⊢;exact Y5 Xq (ZkI s ok hs hok)
 ·rw [h] at hok⊢;exact Y5 Xq (Znx s ok hs hok)
 ·rw [h] at hok⊢;exact Y5 Xq (Zny s ok hs hok)
 ·have e:ok=false:=JM.2 fun e=>Z47 h (hok.1 e)
  subst e
  exact Y5 Ziv (Zpv s s.kind hs h)
theorem Z9I (args:List AV) (h:Z8) (K:AV->Prop) (hl:Zis WQ args h K):Zd PP 35 args h fun o h'=>∃v,o=.ret v/\h'=h/\K v:=by
 unfold Zis at hl
 split at hl
 ·obtain ⟨s,⟨rfl⟩,hs,h1,h0⟩:=hl
  refine Z0u rfl ((Zot hs Qm).k fun o h hk=>Zos hk) fun u hu=> ?_
  subst hu
  cases hq:WQ s with
  | true=>exact h1 hq
  | false=>exact h0 hq
 ·exact hl.elim
def clP (k:ClS) (s:Int) (o g:Bool):ClS:=⟨k.t,s,k.a0,k.a1,k.least,k.most,o,k.last,g,k.fee⟩
def clT (k:ClS) (sd:Int) (o:Bool) (la:Int) (g:Bool) (fe:Int):List AV:=[.arr .u8 32 k.t.fund,.int .i64 k.t.index,.int .i64 k.t.cap,.int .i64 k.t.dust,.int .i64 k.t.fee,.int .i64 k.t.delay,.arr .u8 32 k.t.k0,.arr .u8 32 k.t.k1,.int .i64 sd,.arr .i64 2 [k.a0,k.a1],.int .i64 k.least,.int .i64 k.most,.bool o,.int .i64 la,.bool g,.int .i64 fe,.bool true]
theorem ndT {P:Prop} [Decidable P] (h:(!decide P)=true):¬P:=by simp_all
theorem ndF {P:Prop} [Decidable P] (h:(!decide P)=false):P:=by simp_all
structure HdC (SB:Zo->Bool) (k:ClS) (s:Zo):Prop where
 S:SB s=true
 K:s.kind=13
 A:k.agrees=false
structure HtC (SB:Zo->Bool) (Tg:LI->TxS->LI) (k:ClS) (s:Zo):Prop where
 h:HdC SB k s
 E:ZN k.t k.a0 k.a1 s.amount=0
 T:Yi Tg k s.amount (1-k.side)=s.tag
theorem QF {M:Int->Int->Int} {k:ClS} {s:Zo} (h:SB s=false):Ya SB M Tg k s=noR k 2:=by unfold Ya;rw [if_pos h]
theorem Ux {M:Int->Int->Int} {k:ClS} {s:Zo} (h:SB s=true) (h2:s.kind≠13):Ya SB M Tg k s=noR k 210:=by
 unfold Ya;rw [if_neg (by rw [h];decide),if_pos h2]
theorem Zb4 {M:Int->Int->Int} {k:ClS} {s:Zo} (h:SB s=true) (h2:s.kind=13) (h3:k.agrees=true):Ya SB M Tg k s=noR k 250:=by
 unfold Ya;rw [if_neg (by rw [h];decide),if_neg (fun h=>h h2),if_pos h3]
theorem VA {M:Int->Int->Int} {k:ClS} {s:Zo} {m:Int} (h:HdC SB k s) (he:ZN k.t k.a0 k.a1 s.amount=m) (hm:m≠0):Ya SB M Tg k s=noR k m:=by
 unfold Ya;rw [if_neg (by rw [h.S];decide),if_neg (fun q=>q h.K),if_neg (by rw [h.A];decide),if_pos (by rw [he];exact hm),he]
theorem Z19 {M:Int->Int->Int} {k:ClS} {s:Zo} (h:HdC SB k s) (he:ZN k.t k.a0 k.a1 s.amount=0) (ht:Yi Tg k s.amount (1-k.side)≠s.tag):Ya SB M Tg k s=noR k 221:=by
 unfold Ya;rw [if_neg (by rw [h.S];decide),if_neg (fun q=>q h.K),if_neg (by rw [h.A];decide),if_neg (fun q=>q he),if_pos ht]
theorem Z2y {M:Int->Int->Int} {k:ClS} {s:Zo} (h:HtC SB Tg k s):Ya SB M Tg k s=if k.offers=true/\k.last=s.amount then ⟨0,0,0,Z5,false,k.offers,k.last,true,s.amount⟩
  else if k.least<=s.amount/\s.amount<=k.most then ⟨0,13,s.amount,Yi Tg k s.amount k.side,true,true,s.amount,true,s.amount⟩
  else if k.offers=true/\YK M k s.amount=k.last then noR k 252
  else if ZN k.t k.a0 k.a1 (YK M k s.amount)≠0 then noR k (ZN k.t k.a0 k.a1 (YK M k s.amount))
  else ⟨0,13,YK M k s.amount,Yi Tg k (YK M k s.amount) k.side,true,true,YK M k s.amount,k.agrees,k.fee⟩:=by
 obtain ⟨h,he,ht⟩:=h
 unfold Ya;rw [if_neg (by rw [h.S];decide),if_neg (fun q=>q h.K),if_neg (by rw [h.A];decide),if_neg (fun q=>q he),if_neg (fun q=>q ht)]
theorem ZfJ {n a b:Int} (h:a<=b):a<=Z01 n a b/\Z01 n a b<=b:=by unfold Z01;omega
theorem Z7S {M:Int->Int->Int} {k:ClS} {x:Int} (h:k.least<=k.most):k.least<=YK M k x/\YK M k x<=k.most:=ZfJ h
noncomputable def Ziw (SB:Zo->Bool) (M:Int->Int->Int) (Tg:LI->TxS->LI):Za:=((((G0.withP 35 (Zis SB)).withF 37 (h2S Tg)).withF 32 (Ziu Tg)).withP 40 inQ).withP 41 (nxS M)
theorem Zq1 (SB:Zo->Bool) (M:Int->Int->Int) (Tg:LI->TxS->LI) (k:ClS) (s:Zo) (sd e kd am:Int) (tg:LI) (sy of:Bool) (la:Int) (ag:Bool) (fe:Int) (hk:Y0 (clP k sd false false)) (ht:k.t.All) (hl:s.Len) (hSB:SB s=true->0<=s.amount/\s.amount<=1125899906842624) (hR:Ya SB M Tg (clP k sd false false) s=⟨e,kd,am,tg,sy,of,la,ag,fe⟩):
  evF (Ziw SB M Tg) 20 13 [.ptr (some ⟨0,0,0,0,0⟩),.agg s.c] ⟨1,[(0,.flat (clT k sd false k.last false k.fee))]⟩ (ZK 1 (.ret (.tuple [.agg (sdC kd am tg),.bool sy,.int .i64 e])) 1 [(0,.flat (clT k sd of la ag fe))]):=by
 refine @Eq.mpr _ (let d:=s.t;let a:=s.amount;let c:=k.t;let L:=c.fund;let q5:=AV.arr u8 32 L;let I:=c.index;let X:=AV.int i64 I;let H:=c.cap;let W:=AV.int i64 H;let V:=c.dust;let b6:=AV.int i64 V;let T:=c.fee;let b1:=AV.int i64 T;let R:=c.delay;let b0:=AV.int i64 R;let Q:=c.k0;let a9:=AV.arr u8 32 Q;let P:=c.k1;let a8:=AV.arr u8 32 P;let O:=[k.a0,k.a1];let a7:=AV.arr i64 2 O;let G:=k.least;let a6:=AV.int i64 G;let F:=k.most;let a5:=AV.int i64 F;let E:=AV.bool false;let a4:=AV.int i64 k.last;let a3:=AV.int i64 k.fee;let N:=[q5,X,W,b6,b1,b0,a9,a8,AV.int i64 sd,a7,a6,a5,E,a4,E,a3,AV.bool true];let D:=decide (0=kd);let C:=decide (0=am);let B:=decide (false=sy);let r:=L=L;let q:=decide (I=I);let p:=decide (H=H);let o:=decide (V=V);let n:=decide (T=T);let m:=decide (R=R);let l:=Q=Q;let j:=P=P;let i:=decide (sd=sd);let h:=O=O;let g:=decide (G=G);let f:=decide (F=F);let K:=Z0 (decide (false=ag)) (Z0 (decide (k.fee=fe)) True False) False;let A:=r/\Z0 q (Z0 p (Z0 o (Z0 n (Z0 m (l/\j/\Z0 i (h/\Z0 g (Z0 f (Z0 (decide (false=of)) (Z0 (decide (k.last=la)) K False) False) False) False) False) False) False) False) False) False;let z:=Z0 D (Z5=Z5/\Z5=Z5/\Z5=Z5/\Z0 C (Z5=Z5/\Z5=Z5/\Z5=Z5/\Z5=Z5/\Z5=tg/\Z5=Z5/\ByteArray.empty=ByteArray.empty/\Z0 B (Z0 (decide (2=e)) A False) False) False) False;let J:=Z0 D (Z5=Z5/\Z5=Z5/\Z5=Z5/\Z0 C (Z5=Z5/\Z5=Z5/\Z5=Z5/\Z5=Z5/\Z5=tg/\Z5=Z5/\ByteArray.empty=ByteArray.empty/\Z0 B (Z0 (decide (180=e)) A False) False) False) False;let y:=decide (13=kd);let x:=decide (true=sy);let w:=decide (0=e);let v:=decide (true=of);let a2:=decide (true=ag);let Z:=decide (a=am);let Y:=decide (a=la);
 ∃(s_1:Zo),
 let b5:=[AV.int i64 s.kind,AV.arr u8 32 d.fund,AV.int i64 d.index,AV.int i64 d.cap,AV.int i64 d.dust,AV.int i64 d.fee,AV.int i64 d.delay,AV.arr u8 32 d.k0,AV.arr u8 32 d.k1,AV.int i64 s.reserve,AV.int i64 a,AV.arr u8 32 s.point,AV.arr u8 32 s.nxt,AV.arr u8 32 s.key,AV.arr u8 32 s.hash,AV.arr u8 32 s.tag,AV.arr u8 32 s.secret,AV.int i64 s.id,AV.int i64 s.number,AV.int i64 s.index,AV.int i64 s.expiry,AV.int i64 s.code,AV.str s.route];
 XO b5 s_1/\
 Zo.Len s_1/\
 (SB s_1=true->
 Z0 (s.kind==13)
 (∃(k:ClS),
 ∃(s:Zo),
 let U:=ZN k.t k.a0 k.a1 s.amount;let b4:=Yi Tg k s.amount (1-k.side);
 X7 N k/\
 XO b5 s/\
 XN k/\
 Zo.Len s/\
 (U=2->z)/\
 (U=180->J)/\
 (U=0->
 (b4≠s.tag->Z0 D (Z5=Z5/\Z5=Z5/\Z5=Z5/\Z0 C (Z5=Z5/\Z5=Z5/\Z5=Z5/\Z5=Z5/\Z5=tg/\Z5=Z5/\ByteArray.empty=ByteArray.empty/\Z0 B (Z0 (decide (221=e)) A False) False) False) False)/\
 (b4=s.tag->
 Z0 (!decide (G<=a/\a<=F))
 (∃(k:ClS),
 let b:=YK M k a;let u:=decide (b=am);let b3:=decide (b=la);
 Yv [q5,X,W,b6,b1,b0,a9,a8,AV.int i64 sd,a7,a6,a5,E,a4,E,a3] k/\
 ((0<=k.last/\k.last<=1125899906842624)/\0<=a/\a<=1125899906842624)/\
 ∃(k:ClS),
 let S:=ZN k.t k.a0 k.a1 b;let b2:=Yi Tg k b k.side=tg;
 X7 N k/\
 XN k/\
 (S=0->Z0 (b==a) (Z0 y (Z5=Z5/\Z5=Z5/\Z5=Z5/\Z0 u (Z5=Z5/\Z5=Z5/\Z5=Z5/\Z5=Z5/\b2/\Z5=Z5/\ByteArray.empty=ByteArray.empty/\Z0 x (Z0 w (r/\Z0 q (Z0 p (Z0 o (Z0 n (Z0 m (l/\j/\Z0 i (h/\Z0 g (Z0 f (Z0 v (Z0 b3 (Z0 a2 (Z0 (decide (b=fe)) True False) False) False) False) False) False) False) False) False) False) False) False) False) False) False) False) (Z0 y (Z5=Z5/\Z5=Z5/\Z5=Z5/\Z0 u (Z5=Z5/\Z5=Z5/\Z5=Z5/\Z5=Z5/\b2/\Z5=Z5/\ByteArray.empty=ByteArray.empty/\Z0 x (Z0 w (r/\Z0 q (Z0 p (Z0 o (Z0 n (Z0 m (l/\j/\Z0 i (h/\Z0 g (Z0 f (Z0 v (Z0 b3 K False) False) False) False) False) False) False) False) False) False) False) False) False) False))/\
 (S=2->z)/\(S=180->J))
 (∃(k:ClS),
 let b:=ZN k.t k.a0 k.a1 a;let u:=Yi Tg k a k.side=tg;
 X7 N k/\
 XN k/\
 (b=0->Z0 (a==a) (Z0 y (Z5=Z5/\Z5=Z5/\Z5=Z5/\Z0 Z (Z5=Z5/\Z5=Z5/\Z5=Z5/\Z5=Z5/\u/\Z5=Z5/\ByteArray.empty=ByteArray.empty/\Z0 x (Z0 w (r/\Z0 q (Z0 p (Z0 o (Z0 n (Z0 m (l/\j/\Z0 i (h/\Z0 g (Z0 f (Z0 v (Z0 Y (Z0 a2 (Z0 (decide (a=fe)) True False) False) False) False) False) False) False) False) False) False) False) False) False) False) False) False) (Z0 y (Z5=Z5/\Z5=Z5/\Z5=Z5/\Z0 Z (Z5=Z5/\Z5=Z5/\Z5=Z5/\Z5=Z5/\u/\Z5=Z5/\ByteArray.empty=ByteArray.empty/\Z0 x (Z0 w (r/\Z0 q (Z0 p (Z0 o (Z0 n (Z0 m (l/\j/\Z0 i (h/\Z0 g (Z0 f (Z0 v (Z0 Y K False) False) False) False) False) False) False) False) False) False) False) False) False) False))/\
 (b=2->z)/\(b=180->J)))))
 (Z0 D (Z5=Z5/\Z5=Z5/\Z5=Z5/\Z0 C (Z5=Z5/\Z5=Z5/\Z5=Z5/\Z5=Z5/\Z5=tg/\Z5=Z5/\ByteArray.empty=ByteArray.empty/\Z0 B (Z0 (decide (210=e)) A False) False) False) False))/\
 (SB s_1=false->z)) (by kernel_rfl) ?_
 conv=>zeta
 try simp only [Zc]
 try simp only [Zl]
 try simp only [Zg]
 try simp only [Zm]
 try simp only [Zn]
 try simp only [Zh]
 try simp only [true_and,and_true]
 have hm:=hk.made
 have hd:=Wo hm.t
 have hfe:=hk.fee_le
 have q3:=hm.a1
 have q4:=hm.sum
 have hlast:0<=(clP k sd false false).last/\(clP k sd false false).last<=1125899906842624:=by omega
 have hOff:XN (clP k sd false false):=⟨ht,by omega,hm.side⟩
 have hnx:=fun x=>Z7S (M:=M) (x:=x) hm.lm
 refine ⟨s,⟨rfl⟩,hl,fun hS=>⟨fun hK=> ?_,fun hK=> ?_⟩,fun hS=> ?_⟩
 rotate_left
 ·cases hR.symm.trans (Ux hS (beq_eq_false_iff_ne.1 hK))
  and_intros<;>rfl
 ·cases hR.symm.trans (QF hS)
  and_intros<;>rfl
 have hd:HdC SB (clP k sd false false) s:=⟨hS,beq_iff_eq.1 hK,rfl⟩
 refine ⟨(clP k sd false false),s,⟨rfl⟩,⟨rfl⟩,hOff,hl,fun hE=> ?_,fun hE=> ?_,fun hE=>⟨fun hT=> ?_,fun hT=> ?_⟩⟩
 ·cases hR.symm.trans (VA hd hE (by decide))
  and_intros<;>rfl
 ·cases hR.symm.trans (VA hd hE (by decide))
  and_intros<;>rfl
 ·cases hR.symm.trans (Z19 hd hE hT)
  and_intros<;>rfl
 have hx:=hR.symm.trans (Z2y ⟨hd,hE,hT⟩)
 have hno:¬((clP k sd false false).offers=true/\(clP k sd false false).last=s.amount):=fun h=>nomatch h.1
 refine ⟨fun hi=> ?_,fun hi=> ?_⟩
 ·have hi:¬((clP k sd false false).least<=s.amount/\s.amount<=(clP k sd false false).most):=ndT hi
  rw [if_neg hno,if_neg hi] at hx
  have hq2:¬((clP k sd false false).offers=true/\YK M (clP k sd false false) s.amount=(clP k sd false false).last):=fun h=>nomatch h.1
  refine ⟨(clP k sd false false),⟨rfl⟩,⟨hlast,hSB hS⟩,(clP k sd false false),⟨rfl⟩,hOff,fun hN=>⟨fun hq=> ?_,fun _=> ?_⟩,fun hN=> ?_,fun hN=> ?_⟩
  ·have:=hnx s.amount
   rw [beq_iff_eq.1 hq] at this
   omega
  ·rw [if_neg hq2,if_neg (fun q=>q hN)] at hx
   cases hx
   and_intros<;>rfl
  ·rw [if_neg hq2,if_pos (by rw [hN];decide),hN] at hx
   cases hx
   and_intros<;>rfl
  ·rw [if_neg hq2,if_pos (by rw [hN];decide),hN] at hx
   cases hx
   and_intros<;>rfl
 ·have hi:(clP k sd false false).least<=s.amount/\s.amount<=(clP k sd false false).most:=ndF hi
  refine ⟨(clP k sd false false),⟨rfl⟩,hOff,fun hN=>⟨fun _=> ?_,fun hq=> ?_⟩,fun hN=> ?_,fun hN=> ?_⟩
  all_goals simp_all
theorem Zq2 (SB:Zo->Bool) (M:Int->Int->Int) (Tg:LI->TxS->LI) (k:ClS) (s:Zo) (sd e kd am:Int) (tg:LI) (sy of:Bool) (la:Int) (ag:Bool) (fe:Int) (hk:Y0 (clP k sd true false)) (ht:k.t.All) (hl:s.Len) (hSB:SB s=true->0<=s.amount/\s.amount<=1125899906842624) (hR:Ya SB M Tg (clP k sd true false) s=⟨e,kd,am,tg,sy,of,la,ag,fe⟩):
  evF (Ziw SB M Tg) 20 13 [.ptr (some ⟨0,0,0,0,0⟩),.agg s.c] ⟨1,[(0,.flat (clT k sd true k.last false k.fee))]⟩ (ZK 1 (.ret (.tuple [.agg (sdC kd am tg),.bool sy,.int .i64 e])) 1 [(0,.flat (clT k sd of la ag fe))]):=by
 refine @Eq.mpr _ (let d:=s.t;let a:=s.amount;let c:=k.t;let L:=c.fund;let q5:=AV.arr u8 32 L;let I:=c.index;let Y:=AV.int i64 I;let H:=c.cap;let X:=AV.int i64 H;let W:=c.dust;let b9:=AV.int i64 W;let U:=c.fee;let b5:=AV.int i64 U;let S:=c.delay;let b3:=AV.int i64 S;let R:=c.k0;let b2:=AV.arr u8 32 R;let Q:=c.k1;let b1:=AV.arr u8 32 Q;let P:=[k.a0,k.a1];let b0:=AV.arr i64 2 P;let G:=k.least;let a9:=AV.int i64 G;let F:=k.most;let a8:=AV.int i64 F;let O:=AV.bool true;let E:=k.last;let a7:=AV.int i64 E;let a6:=AV.int i64 k.fee;let N:=[q5,Y,X,b9,b5,b3,b2,b1,AV.int i64 sd,b0,a9,a8,O,a7,AV.bool false,a6,O];let x:=decide (0=kd);let w:=decide (0=am);let v:=decide (false=sy);let u:=L=L;let r:=decide (I=I);let q:=decide (H=H);let p:=decide (W=W);let o:=decide (U=U);let n:=decide (S=S);let m:=R=R;let l:=Q=Q;let j:=decide (sd=sd);let i:=P=P;let h:=decide (G=G);let g:=decide (F=F);let f:=decide (true=of);let a5:=decide (E=la);let K:=Z0 (decide (false=ag)) (Z0 (decide (k.fee=fe)) True False) False;let z:=u/\Z0 r (Z0 q (Z0 p (Z0 o (Z0 n (m/\l/\Z0 j (i/\Z0 h (Z0 g (Z0 f (Z0 a5 K False) False) False) False) False) False) False) False) False) False;let D:=Z0 x (Z5=Z5/\Z5=Z5/\Z5=Z5/\Z0 w (Z5=Z5/\Z5=Z5/\Z5=Z5/\Z5=Z5/\Z5=tg/\Z5=Z5/\ByteArray.empty=ByteArray.empty/\Z0 v (Z0 (decide (2=e)) z False) False) False) False;let J:=Z0 x (Z5=Z5/\Z5=Z5/\Z5=Z5/\Z0 w (Z5=Z5/\Z5=Z5/\Z5=Z5/\Z5=Z5/\Z5=tg/\Z5=Z5/\ByteArray.empty=ByteArray.empty/\Z0 v (Z0 (decide (180=e)) z False) False) False) False;let y:=decide (0=e);let a4:=decide (true=ag);let a3:=Z0 a4 (Z0 (decide (a=fe)) True False) False;let C:=decide (13=kd);let B:=decide (true=sy);let a2:=decide (a=am);let Z:=decide (a=la);
 ∃(s_1:Zo),
 let b8:=[AV.int i64 s.kind,AV.arr u8 32 d.fund,AV.int i64 d.index,AV.int i64 d.cap,AV.int i64 d.dust,AV.int i64 d.fee,AV.int i64 d.delay,AV.arr u8 32 d.k0,AV.arr u8 32 d.k1,AV.int i64 s.reserve,AV.int i64 a,AV.arr u8 32 s.point,AV.arr u8 32 s.nxt,AV.arr u8 32 s.key,AV.arr u8 32 s.hash,AV.arr u8 32 s.tag,AV.arr u8 32 s.secret,AV.int i64 s.id,AV.int i64 s.number,AV.int i64 s.index,AV.int i64 s.expiry,AV.int i64 s.code,AV.str s.route];
 XO b8 s_1/\
 Zo.Len s_1/\
 (SB s_1=true->
 Z0 (s.kind==13)
 (∃(k:ClS),
 ∃(s:Zo),
 let V:=ZN k.t k.a0 k.a1 s.amount;let b7:=Yi Tg k s.amount (1-k.side);
 X7 N k/\
 XO b8 s/\
 XN k/\
 Zo.Len s/\
 (V=2->D)/\
 (V=180->J)/\
 (V=0->
 (b7≠s.tag->Z0 x (Z5=Z5/\Z5=Z5/\Z5=Z5/\Z0 w (Z5=Z5/\Z5=Z5/\Z5=Z5/\Z5=Z5/\Z5=tg/\Z5=Z5/\ByteArray.empty=ByteArray.empty/\Z0 v (Z0 (decide (221=e)) z False) False) False) False)/\
 (b7=s.tag->
 Z0 (E==a) (Z0 x (Z5=Z5/\Z5=Z5/\Z5=Z5/\Z0 w (Z5=Z5/\Z5=Z5/\Z5=Z5/\Z5=Z5/\Z5=tg/\Z5=Z5/\ByteArray.empty=ByteArray.empty/\Z0 v (Z0 y (u/\Z0 r (Z0 q (Z0 p (Z0 o (Z0 n (m/\l/\Z0 j (i/\Z0 h (Z0 g (Z0 f (Z0 a5 a3 False) False) False) False) False) False) False) False) False) False) False) False) False) False)
 (Z0 (!decide (G<=a/\a<=F))
 (∃(k:ClS),
 let b:=YK M k a;let A:=decide (b=am);let b6:=decide (b=la);
 Yv [q5,Y,X,b9,b5,b3,b2,b1,AV.int i64 sd,b0,a9,a8,O,a7,AV.bool false,a6] k/\
 ((0<=k.last/\k.last<=1125899906842624)/\0<=a/\a<=1125899906842624)/\
 Z0 (b==E) (Z0 x (Z5=Z5/\Z5=Z5/\Z5=Z5/\Z0 w (Z5=Z5/\Z5=Z5/\Z5=Z5/\Z5=Z5/\Z5=tg/\Z5=Z5/\ByteArray.empty=ByteArray.empty/\Z0 v (Z0 (decide (252=e)) z False) False) False) False)
 (∃(k:ClS),
 let T:=ZN k.t k.a0 k.a1 b;let b4:=Yi Tg k b k.side=tg;
 X7 N k/\
 XN k/\
 (T=0->Z0 (b==a) (Z0 C (Z5=Z5/\Z5=Z5/\Z5=Z5/\Z0 A (Z5=Z5/\Z5=Z5/\Z5=Z5/\Z5=Z5/\b4/\Z5=Z5/\ByteArray.empty=ByteArray.empty/\Z0 B (Z0 y (u/\Z0 r (Z0 q (Z0 p (Z0 o (Z0 n (m/\l/\Z0 j (i/\Z0 h (Z0 g (Z0 f (Z0 b6 (Z0 a4 (Z0 (decide (b=fe)) True False) False) False) False) False) False) False) False) False) False) False) False) False) False) False) False) (Z0 C (Z5=Z5/\Z5=Z5/\Z5=Z5/\Z0 A (Z5=Z5/\Z5=Z5/\Z5=Z5/\Z5=Z5/\b4/\Z5=Z5/\ByteArray.empty=ByteArray.empty/\Z0 B (Z0 y (u/\Z0 r (Z0 q (Z0 p (Z0 o (Z0 n (m/\l/\Z0 j (i/\Z0 h (Z0 g (Z0 f (Z0 b6 K False) False) False) False) False) False) False) False) False) False) False) False) False) False))/\
 (T=2->D)/\(T=180->J)))
 (∃(k:ClS),
 let b:=ZN k.t k.a0 k.a1 a;let A:=Yi Tg k a k.side=tg;
 X7 N k/\
 XN k/\(b=0->Z0 (a==a) (Z0 C (Z5=Z5/\Z5=Z5/\Z5=Z5/\Z0 a2 (Z5=Z5/\Z5=Z5/\Z5=Z5/\Z5=Z5/\A/\Z5=Z5/\ByteArray.empty=ByteArray.empty/\Z0 B (Z0 y (u/\Z0 r (Z0 q (Z0 p (Z0 o (Z0 n (m/\l/\Z0 j (i/\Z0 h (Z0 g (Z0 f (Z0 Z a3 False) False) False) False) False) False) False) False) False) False) False) False) False) False) (Z0 C (Z5=Z5/\Z5=Z5/\Z5=Z5/\Z0 a2 (Z5=Z5/\Z5=Z5/\Z5=Z5/\Z5=Z5/\A/\Z5=Z5/\ByteArray.empty=ByteArray.empty/\Z0 B (Z0 y (u/\Z0 r (Z0 q (Z0 p (Z0 o (Z0 n (m/\l/\Z0 j (i/\Z0 h (Z0 g (Z0 f (Z0 Z K False) False) False) False) False) False) False) False) False) False) False) False) False) False))/\(b=2->D)/\(b=180->J))))))
 (Z0 x (Z5=Z5/\Z5=Z5/\Z5=Z5/\Z0 w (Z5=Z5/\Z5=Z5/\Z5=Z5/\Z5=Z5/\Z5=tg/\Z5=Z5/\ByteArray.empty=ByteArray.empty/\Z0 v (Z0 (decide (210=e)) z False) False) False) False))/\
 (SB s_1=false->D)) (by kernel_rfl) ?_
 conv=>zeta
 try simp only [Zc]
 try simp only [Zl]
 try simp only [Zg]
 try simp only [Zm]
 try simp only [Zn]
 try simp only [Zh]
 try simp only [true_and,and_true]
 have hm:=hk.made
 have hd:=Wo hm.t
 have hfe:=hk.fee_le
 have q3:=hm.a1
 have q4:=hm.sum
 have hlast:0<=(clP k sd true false).last/\(clP k sd true false).last<=1125899906842624:=by omega
 have hOff:XN (clP k sd true false):=⟨ht,by omega,hm.side⟩
 have hnx:=fun x=>Z7S (M:=M) (x:=x) hm.lm
 refine ⟨s,⟨rfl⟩,hl,fun hS=>⟨fun hK=> ?_,fun hK=> ?_⟩,fun hS=> ?_⟩
 rotate_left
 ·cases hR.symm.trans (Ux hS (beq_eq_false_iff_ne.1 hK))
  and_intros<;>rfl
 ·cases hR.symm.trans (QF hS)
  and_intros<;>rfl
 have hd:HdC SB (clP k sd true false) s:=⟨hS,beq_iff_eq.1 hK,rfl⟩
 refine ⟨(clP k sd true false),s,⟨rfl⟩,⟨rfl⟩,hOff,hl,fun hE=> ?_,fun hE=> ?_,fun hE=>⟨fun hT=> ?_,fun hT=> ?_⟩⟩
 ·cases hR.symm.trans (VA hd hE (by decide))
  and_intros<;>rfl
 ·cases hR.symm.trans (VA hd hE (by decide))
  and_intros<;>rfl
 ·cases hR.symm.trans (Z19 hd hE hT)
  and_intros<;>rfl
 have hx:=hR.symm.trans (Z2y ⟨hd,hE,hT⟩)
 refine ⟨fun hlt=> ?_,fun hlt=> ?_⟩
 ·rw [if_pos (⟨rfl,beq_iff_eq.1 hlt⟩:(clP k sd true false).offers=true/\(clP k sd true false).last=s.amount)] at hx
  cases hx
  and_intros<;>rfl
 have hno:¬((clP k sd true false).offers=true/\(clP k sd true false).last=s.amount):=fun h=>beq_eq_false_iff_ne.1 hlt h.2
 refine ⟨fun hi=> ?_,fun hi=> ?_⟩
 ·have hi:¬((clP k sd true false).least<=s.amount/\s.amount<=(clP k sd true false).most):=ndT hi
  rw [if_neg hno,if_neg hi] at hx
  refine ⟨(clP k sd true false),⟨rfl⟩,⟨hlast,hSB hS⟩,fun ha=> ?_,fun ha=> ?_⟩
  ·rw [if_pos (⟨rfl,beq_iff_eq.1 ha⟩:(clP k sd true false).offers=true/\YK M (clP k sd true false) s.amount=(clP k sd true false).last)] at hx
   cases hx
   and_intros<;>rfl
  have hq2:¬((clP k sd true false).offers=true/\YK M (clP k sd true false) s.amount=(clP k sd true false).last):=fun h=>beq_eq_false_iff_ne.1 ha h.2
  refine ⟨(clP k sd true false),⟨rfl⟩,hOff,fun hN=>⟨fun hq=> ?_,fun _=> ?_⟩,fun hN=> ?_,fun hN=> ?_⟩
  ·have:=hnx s.amount
   rw [beq_iff_eq.1 hq] at this
   omega
  ·rw [if_neg hq2,if_neg (fun q=>q hN)] at hx
   cases hx
   and_intros<;>rfl
  ·rw [if_neg hq2,if_pos (by rw [hN];decide),hN] at hx
   cases hx
   and_intros<;>rfl
  ·rw [if_neg hq2,if_pos (by rw [hN];decide),hN] at hx
   cases hx
   and_intros<;>rfl
 ·have hi:(clP k sd true false).least<=s.amount/\s.amount<=(clP k sd true false).most:=ndF hi
  refine ⟨(clP k sd true false),⟨rfl⟩,hOff,fun hN=>⟨fun _=> ?_,fun hq=> ?_⟩,fun hN=> ?_,fun hN=> ?_⟩
  all_goals simp_all
theorem Zq3 (SB:Zo->Bool) (M:Int->Int->Int) (Tg:LI->TxS->LI) (k:ClS) (s:Zo) (sd e kd am:Int) (of0:Bool) (tg:LI) (sy of:Bool) (la:Int) (ag:Bool) (fe:Int) (hl:s.Len) (hR:Ya SB M Tg (clP k sd of0 true) s=⟨e,kd,am,tg,sy,of,la,ag,fe⟩):
  evF (Ziw SB M Tg) 20 13 [.ptr (some ⟨0,0,0,0,0⟩),.agg s.c] ⟨1,[(0,.flat (clT k sd of0 k.last true k.fee))]⟩ (ZK 1 (.ret (.tuple [.agg (sdC kd am tg),.bool sy,.int .i64 e])) 1 [(0,.flat (clT k sd of la ag fe))]):=by
 refine @Eq.mpr _ (let b:=s.t;let f:=decide (0=kd);let d:=decide (0=am);let c:=decide (false=sy);let a:=k.t;let l:=a.fund;let j:=a.index;let i:=a.cap;let h:=a.dust;let q:=a.fee;let p:=a.delay;let o:=a.k0;let n:=a.k1;let m:=[k.a0,k.a1];let g:=l=l/\Z0 (decide (j=j)) (Z0 (decide (i=i)) (Z0 (decide (h=h)) (Z0 (decide (q=q)) (Z0 (decide (p=p)) (o=o/\n=n/\Z0 (decide (sd=sd)) (m=m/\Z0 (decide (k.least=k.least)) (Z0 (decide (k.most=k.most)) (Z0 (decide (of0=of)) (Z0 (decide (k.last=la)) (Z0 (decide (true=ag)) (Z0 (decide (k.fee=fe)) True False) False) False) False) False) False) False) False) False) False) False) False;
 ∃(s_1:Zo),
 XO [AV.int i64 s.kind,AV.arr u8 32 b.fund,AV.int i64 b.index,AV.int i64 b.cap,AV.int i64 b.dust,AV.int i64 b.fee,AV.int i64 b.delay,AV.arr u8 32 b.k0,AV.arr u8 32 b.k1,AV.int i64 s.reserve,AV.int i64 s.amount,AV.arr u8 32 s.point,AV.arr u8 32 s.nxt,AV.arr u8 32 s.key,AV.arr u8 32 s.hash,AV.arr u8 32 s.tag,AV.arr u8 32 s.secret,AV.int i64 s.id,AV.int i64 s.number,AV.int i64 s.index,AV.int i64 s.expiry,AV.int i64 s.code,AV.str s.route] s_1/\
 Zo.Len s_1/\(SB s_1=true->Z0 (s.kind==13) (Z0 f (Z5=Z5/\Z5=Z5/\Z5=Z5/\Z0 d (Z5=Z5/\Z5=Z5/\Z5=Z5/\Z5=Z5/\Z5=tg/\Z5=Z5/\ByteArray.empty=ByteArray.empty/\Z0 c (Z0 (decide (250=e)) g False) False) False) False) (Z0 f (Z5=Z5/\Z5=Z5/\Z5=Z5/\Z0 d (Z5=Z5/\Z5=Z5/\Z5=Z5/\Z5=Z5/\Z5=tg/\Z5=Z5/\ByteArray.empty=ByteArray.empty/\Z0 c (Z0 (decide (210=e)) g False) False) False) False))/\(SB s_1=false->Z0 f (Z5=Z5/\Z5=Z5/\Z5=Z5/\Z0 d (Z5=Z5/\Z5=Z5/\Z5=Z5/\Z5=Z5/\Z5=tg/\Z5=Z5/\ByteArray.empty=ByteArray.empty/\Z0 c (Z0 (decide (2=e)) g False) False) False) False)) (by kernel_rfl) ?_
 conv=>zeta
 try simp only [Zc]
 try simp only [Zl]
 try simp only [Zg]
 try simp only [Zm]
 try simp only [Zn]
 try simp only [Zh]
 try simp only [true_and,and_true]
 refine ⟨s,⟨rfl⟩,hl,fun hS=>⟨fun hK=> ?_,fun hK=> ?_⟩,fun hS=> ?_⟩
 ·cases hR.symm.trans (Zb4 hS (beq_iff_eq.1 hK) rfl)
  and_intros<;>rfl
 ·cases hR.symm.trans (Ux hS (beq_eq_false_iff_ne.1 hK))
  and_intros<;>rfl
 ·cases hR.symm.trans (QF hS)
  and_intros<;>rfl
theorem Z1K {k:ClS} {s:Zo} (hc:∀args h K,Zis SB args h K->Zd PP 35 args h fun o h'=>∃v,o=.ret v/\h'=h/\K v) (hk:Y0 k) (ht:k.t.All) (hl:s.Len) (hSB:SB s=true->0<=s.amount/\s.amount<=1125899906842624) {r:HR} (hR:Ya SB Xe ZC k s=r):
  Spec PP 13 [.ptr (some ⟨0,0,0,0,0⟩),.agg s.c] ⟨1,[(0,.flat (clT k k.side k.offers k.last k.agrees k.fee))]⟩ (.ret (.tuple [.agg (sdC r.kd r.am r.tg),.bool r.sy,.int .i64 r.e])) 1 [(0,.flat (clT k k.side r.of r.la r.ag r.fe))]:=by
 have hE:(Ziw SB Xe ZC).Ok:=Za.withP_ok (Za.withP_ok (Za.withF_ok (Za.withF_ok (Za.withP_ok Zr hc) Zl6) Z6w) ZfG) Zl5
 obtain ⟨e,kd,am,tg,sy,of,la,ag,fe⟩:=r
 obtain ⟨t,sd,a0,a1,le,mo,o0,l0,g0,f0⟩:=k
 cases g0 with
 | true=>exact .evM hE (Zq3 SB Xe ZC ⟨t,sd,a0,a1,le,mo,o0,l0,true,f0⟩ s sd e kd am o0 tg sy of la ag fe hl hR)
 | false=>cases o0 with
  | true=>exact .evM hE (Zq2 SB Xe ZC ⟨t,sd,a0,a1,le,mo,true,l0,false,f0⟩ s sd e kd am tg sy of la ag fe hk ht hl hSB hR)
  | false=>exact .evM hE (Zq1 SB Xe ZC ⟨t,sd,a0,a1,le,mo,false,l0,false,f0⟩ s sd e kd am tg sy of la ag fe hk ht hl hSB hR)
def ZfK (Tg:LI->TxS->LI):ZF:=fun args h K=>ZG none h true 40 args fun a=>match a with
 | [.agg cs,.int .i64 fee,.int .i64 sd]=>∃k,Yv cs k/\(k.t.All/\k.a0<9223372036854775808/\(sd=0\/sd=1))/\
  (ZN k.t k.a0 k.a1 fee=2->K (.tuple [.agg [.arr .u8 32 Z5],.int .i64 2]))/\(ZN k.t k.a0 k.a1 fee=180->K (.tuple [.agg [.arr .u8 32 Z5],.int .i64 180]))/\
  (ZN k.t k.a0 k.a1 fee=0->K (.tuple [.agg [.arr .u8 32 (Yi Tg k fee sd)],.int .i64 0]))
 | _=>False
theorem Z7T (args:List AV) (h:Z8) (K:AV->Prop) (hl:ZfK ZC args h K):Zd PP 70 args h fun o h'=>∃v,o=.ret v/\h'=h/\K v:=by
 refine Zx.psumm (d:=40) (Zq _ _ _ _ _ hl fun a ha=> ?_)
 split at ha
 ·obtain ⟨k,⟨rfl⟩,⟨ht,ha,hs⟩,h1,h2,h3⟩:=ha
  rename_i fee sd
  have hK:K (.tuple [.agg [.arr .u8 32 (Yi Wj k fee sd)],.int .i64 (ZN k.t k.a0 k.a1 fee)]):=by
   rw [Z2x ht]
   grind [Z6v,WP]
  rcases hs with rfl|rfl
  ·exact ⟨_,.evM Z2w (Zjb _ Wj k _ _ _ rfl ht ha rfl rfl),fun _=>rfl,hK⟩
  ·exact ⟨_,.evM Z2w (Zjc _ Wj k _ _ _ rfl ht ha rfl rfl),fun _=>rfl,hK⟩
 simp_all
def rtS (SB:Zo->Bool):ZF:=fun args _ K=>match args with
 | [.agg cs]=>∃s,XO cs s/\s.Len/\(SB s=true->K (.bool true))/\(SB s=false->K (.bool false))
 | _=>False
def clU (k:ClS) (sd:Int) (o:Bool) (la:Int) (g:Bool) (fe:Int):List AV:=[.arr .u8 32 k.t.fund,.int .i64 k.t.index,.int .i64 k.t.cap,.int .i64 k.t.dust,.int .i64 k.t.fee,.int .i64 k.t.delay,.arr .u8 32 k.t.k0,.arr .u8 32 k.t.k1,.int .i64 sd,.arr .i64 2 [k.a0,k.a1],.int .i64 k.least,.int .i64 k.most,.bool o,.int .i64 la,.bool g,.int .i64 fe]
theorem Z7U (y lo hi:Int):(if (if y<hi then y else hi)>lo then (if y<hi then y else hi) else lo)=Z01 y lo hi:=by
 unfold Z01
 split<;>split<;>(try split)<;>(try split)<;>omega
theorem nbT {a b:LI} (h:(!a==b)=true):a≠b:=by simp_all
theorem nbF {a b:LI} (h:(!a==b)=false):a=b:=by simp_all
noncomputable def Zix (SB:Zo->Bool) (M:Int->Int->Int) (Tg:LI->TxS->LI):Za:=((G0.withP 126 (rtS SB)).withP 70 (ZfK Tg)).withP 127 (Zcz M)
theorem Zq4 (SB:Zo->Bool) (M:Int->Int->Int) (Tg:LI->TxS->LI) (k:ClS) (s:Zo) (sd e kd am:Int) (tg:LI) (sy of:Bool) (la:Int) (ag:Bool) (fe:Int) (hT32:∀a t,(Tg a t).length=32) (hk:Y0 (clP k sd false false)) (ht:k.t.All) (hl:s.Len) (hSB:SB s=true->0<=s.amount/\s.amount<=1125899906842624) (hR:Ya SB M Tg (clP k sd false false) s=⟨e,kd,am,tg,sy,of,la,ag,fe⟩):
  evF (Zix SB M Tg) 20 63 [.agg (clU k sd false k.last false k.fee),.agg s.c] ⟨0,[]⟩ (ZK 0 (.ret (.tuple [.agg (clU k sd of la ag fe),.agg (sdC kd am tg),.bool sy,.int .i64 e])) 0 []):=by
 refine @Eq.mpr _ (let r:=s.t;let a:=s.amount;let Q:=s.tag;let f:=k.t;let E:=f.fund;let d:=E=E;let D:=f.index;let c:=decide (D=D);let C:=f.cap;let q:=decide (C=C);let L:=f.dust;let p:=decide (L=L);let K:=f.fee;let o:=decide (K=K);let J:=f.delay;let n:=decide (J=J);let I:=f.k0;let m:=I=I;let H:=f.k1;let l:=H=H;let j:=decide (sd=sd);let G:=[k.a0,k.a1];let i:=G=G;let x:=k.least;let h:=decide (x=x);let w:=k.most;let g:=decide (w=w);let B:=decide (false=of);let A:=decide (k.last=la);let v:=decide (false=ag);let u:=decide (k.fee=fe);let z:=decide (0=kd);let y:=decide (0=am);let F:=decide (false=sy);let P:=wrap i64 (1-sd);let a4:=Z0 (decide (2=e)) True False;let O:=d/\Z0 c (Z0 q (Z0 p (Z0 o (Z0 n (m/\l/\Z0 j (i/\Z0 h (Z0 g (Z0 B (Z0 A (Z0 v (Z0 u (Z0 z (Z5=Z5/\Z5=Z5/\Z5=Z5/\Z0 y (Z5=Z5/\Z5=Z5/\Z5=Z5/\Z5=Z5/\Z5=tg/\Z5=Z5/\ByteArray.empty=ByteArray.empty/\Z0 F a4 False) False) False) False) False) False) False) False) False) False) False) False) False) False) False;let a3:=Z0 (decide (180=e)) True False;let a2:=decide (a=a);let Z:=decide (true=of);let Y:=decide (13=kd);let X:=Z0 (decide (0=e)) True False;let W:=if a<w then a else w;let b:=if W>x then W else x;let V:=(∃(k_1:ClS),
 Yv [AV.arr u8 32 E,AV.int i64 D,AV.int i64 C,AV.int i64 L,AV.int i64 K,AV.int i64 J,AV.arr u8 32 I,AV.arr u8 32 H,AV.int i64 sd,AV.arr i64 2 G,AV.int i64 x,AV.int i64 w,AV.bool false,AV.int i64 k.last,AV.bool false,AV.int i64 k.fee] k_1/\
 (Zp.All k_1.t/\k_1.a0<9223372036854775808/\(sd=0\/sd=1))/\
 (ZN k_1.t k_1.a0 k_1.a1 b=2->Z5=Z5/\Z5=Z5/\Z5=Z5/\Z5=Z5/\Z5=Z5/\Z5=Z5/\Z5=Z5/\Z5=Z5/\Z5=Z5/\ByteArray.empty=ByteArray.empty/\d/\Z0 c (Z0 q (Z0 p (Z0 o (Z0 n (m/\l/\Z0 j (i/\Z0 h (Z0 g (Z0 B (Z0 A (Z0 v (Z0 u (Z0 z (Z5=Z5/\Z5=Z5/\Z5=Z5/\Z0 y (Z5=Z5/\Z5=Z5/\Z5=Z5/\Z5=Z5/\Z5=tg/\Z5=Z5/\ByteArray.empty=ByteArray.empty/\Z0 (decide (false=sy)) a4 False) False) False) False) False) False) False) False) False) False) False) False) False) False) False)/\
 (ZN k_1.t k_1.a0 k_1.a1 b=180->Z5=Z5/\Z5=Z5/\Z5=Z5/\Z5=Z5/\Z5=Z5/\Z5=Z5/\Z5=Z5/\Z5=Z5/\Z5=Z5/\ByteArray.empty=ByteArray.empty/\d/\Z0 c (Z0 q (Z0 p (Z0 o (Z0 n (m/\l/\Z0 j (i/\Z0 h (Z0 g (Z0 B (Z0 A (Z0 v (Z0 u (Z0 z (Z5=Z5/\Z5=Z5/\Z5=Z5/\Z0 y (Z5=Z5/\Z5=Z5/\Z5=Z5/\Z5=Z5/\Z5=tg/\Z5=Z5/\ByteArray.empty=ByteArray.empty/\Z0 (decide (false=sy)) a3 False) False) False) False) False) False) False) False) False) False) False) False) False) False) False)/\
 (ZN k_1.t k_1.a0 k_1.a1 b=0->Yi Tg k_1 b sd=Yi Tg k_1 b sd/\Z5=Z5/\Z5=Z5/\Z5=Z5/\Z0 (decide (b=b)) (Z5=Z5/\Z5=Z5/\Z5=Z5/\Z5=Z5/\Yi Tg k_1 b sd=Yi Tg k_1 b sd/\Z5=Z5/\ByteArray.empty=ByteArray.empty/\d/\Z0 c (Z0 q (Z0 p (Z0 o (Z0 n (m/\l/\Z0 j (i/\Z0 h (Z0 g (Z0 Z (Z0 (decide (b=la)) (Z0 v (Z0 u (Z0 Y (Z5=Z5/\Z5=Z5/\Z5=Z5/\Z0 (decide (b=am)) (Z5=Z5/\Z5=Z5/\Z5=Z5/\Z5=Z5/\Yi Tg k_1 b sd=tg/\Z5=Z5/\ByteArray.empty=ByteArray.empty/\Z0 (decide (true=sy)) X False) False) False) False) False) False) False) False) False) False) False) False) False) False) False) False));
 ∃(s_1:Zo),
 XO [AV.int i64 s.kind,AV.arr u8 32 r.fund,AV.int i64 r.index,AV.int i64 r.cap,AV.int i64 r.dust,AV.int i64 r.fee,AV.int i64 r.delay,AV.arr u8 32 r.k0,AV.arr u8 32 r.k1,AV.int i64 s.reserve,AV.int i64 a,AV.arr u8 32 s.point,AV.arr u8 32 s.nxt,AV.arr u8 32 s.key,AV.arr u8 32 s.hash,AV.arr u8 32 Q,AV.arr u8 32 s.secret,AV.int i64 s.id,AV.int i64 s.number,AV.int i64 s.index,AV.int i64 s.expiry,AV.int i64 s.code,AV.str s.route] s_1/\
 Zo.Len s_1/\
 (SB s_1=true->
 Z0 (s.kind !=13) (d/\Z0 c (Z0 q (Z0 p (Z0 o (Z0 n (m/\l/\Z0 j (i/\Z0 h (Z0 g (Z0 B (Z0 A (Z0 v (Z0 u (Z0 z (Z5=Z5/\Z5=Z5/\Z5=Z5/\Z0 y (Z5=Z5/\Z5=Z5/\Z5=Z5/\Z5=Z5/\Z5=tg/\Z5=Z5/\ByteArray.empty=ByteArray.empty/\Z0 F (Z0 (decide (210=e)) True False) False) False) False) False) False) False) False) False) False) False) False) False) False) False) False)
 (∃(k_1:ClS),
 let U:=[AV.arr u8 32 E,AV.int i64 D,AV.int i64 C,AV.int i64 L,AV.int i64 K,AV.int i64 J,AV.arr u8 32 I,AV.arr u8 32 H,AV.int i64 sd,AV.arr i64 2 G,AV.int i64 x,AV.int i64 w,AV.bool false,AV.int i64 k.last,AV.bool false,AV.int i64 k.fee];let N:=ZN k_1.t k_1.a0 k_1.a1 a;let T:=d/\Z0 c (Z0 q (Z0 p (Z0 o (Z0 n (m/\l/\Z0 j (i/\Z0 h (Z0 g (Z0 B (Z0 A (Z0 v (Z0 u (Z0 z (Z5=Z5/\Z5=Z5/\Z5=Z5/\Z0 y (Z5=Z5/\Z5=Z5/\Z5=Z5/\Z5=Z5/\Z5=tg/\Z5=Z5/\ByteArray.empty=ByteArray.empty/\Z0 F a3 False) False) False) False) False) False) False) False) False) False) False) False) False) False) False;let S:=Yi Tg k_1 a P;
 Yv U k_1/\
 (Zp.All k_1.t/\k_1.a0<9223372036854775808/\(P=0\/P=1))/\
 (N=2->O)/\
 (N=180->T)/\
 (N=0->
 Z0 (decide (S.length=32/\Q.length=32))
 (Z0 (!S==Q) (d/\Z0 c (Z0 q (Z0 p (Z0 o (Z0 n (m/\l/\Z0 j (i/\Z0 h (Z0 g (Z0 B (Z0 A (Z0 v (Z0 u (Z0 z (Z5=Z5/\Z5=Z5/\Z5=Z5/\Z0 y (Z5=Z5/\Z5=Z5/\Z5=Z5/\Z5=Z5/\Z5=tg/\Z5=Z5/\ByteArray.empty=ByteArray.empty/\Z0 F (Z0 (decide (221=e)) True False) False) False) False) False) False) False) False) False) False) False) False) False) False) False) False)
 (Z0 (decide (a>=x))
 (Z0 (decide (a<=w))
 (∃(k:ClS),
 let M:=ZN k.t k.a0 k.a1 a;let R:=Yi Tg k a sd;let a5:=R=R;
 Yv U k/\(Zp.All k.t/\k.a0<9223372036854775808/\(sd=0\/sd=1))/\(M=2->O)/\(M=180->T)/\(M=0->a5/\Z0 a2 (Z5=Z5/\Z5=Z5/\Z5=Z5/\Z0 a2 (Z5=Z5/\Z5=Z5/\Z5=Z5/\Z5=Z5/\a5/\Z5=Z5/\ByteArray.empty=ByteArray.empty/\d/\Z0 c (Z0 q (Z0 p (Z0 o (Z0 n (m/\l/\Z0 j (i/\Z0 h (Z0 g (Z0 Z (Z0 (decide (a=la)) (Z0 (decide (true=ag)) (Z0 (decide (a=fe)) (Z0 Y (Z5=Z5/\Z5=Z5/\Z5=Z5/\Z0 (decide (a=am)) (Z5=Z5/\Z5=Z5/\Z5=Z5/\Z5=Z5/\R=tg/\Z5=Z5/\ByteArray.empty=ByteArray.empty/\Z0 (decide (true=sy)) X False) False) False) False) False) False) False) False) False) False) False) False) False) False) False) False) False))
 V)
 V))
 False)))/\
 (SB s_1=false->O)) (by kernel_rfl) ?_
 conv=>zeta
 try simp only [Zc]
 try simp only [Zl]
 try simp only [Zg]
 try simp only [Zm]
 try simp only [Zn]
 try simp only [Zh]
 try simp only [true_and,and_true]
 have hm:=hk.made
 have hdd:=Wo hm.t
 have q3:=hm.a1
 have q4:=hm.sum
 have hsd:sd=0\/sd=1:=hm.side
 have hw:i64.wrap (1-sd)=1-sd:=w64 (by omega)
 have ha0:k.a0<9223372036854775808:=by
  grind [clP]
 have hOff:k.t.All/\k.a0<9223372036854775808/\(sd=0\/sd=1):=⟨ht,ha0,hsd⟩
 simp only [Z7U,hw]
 refine ⟨s,⟨rfl⟩,hl,fun hS=>⟨fun hK=> ?_,fun hK=> ?_⟩,fun hS=> ?_⟩
 rotate_left
 rotate_left
 ·cases hR.symm.trans (QF hS)
  and_intros<;>rfl
 ·cases hR.symm.trans (Ux hS (bne_iff_ne.1 hK))
  and_intros<;>rfl
 have hd:HdC SB (clP k sd false false) s:=⟨hS,bne_eq_false_iff_eq.1 hK,rfl⟩
 have hv:(Yi Tg (clP k sd false false) s.amount (1-sd)).length=32:=by
  unfold Yi
  split
  ·simp_all
  ·rfl
 refine ⟨(clP k sd false false),⟨rfl⟩,⟨ht,ha0,by omega⟩,fun hE=> ?_,fun hE=> ?_,fun hE=>⟨⟨hv,hl.h7⟩,fun hT=> ?_,fun hT=> ?_⟩⟩
 ·cases hR.symm.trans (VA hd hE (by decide))
  and_intros<;>rfl
 ·cases hR.symm.trans (VA hd hE (by decide))
  and_intros<;>rfl
 ·cases hR.symm.trans (Z19 hd hE (nbT hT))
  and_intros<;>rfl
 have hx:=hR.symm.trans (Z2y ⟨hd,hE,nbF hT⟩)
 have hno:¬((clP k sd false false).offers=true/\(clP k sd false false).last=s.amount):=fun h=>nomatch h.1
 refine ⟨fun h1=>⟨fun h2=> ?_,fun h2=> ?_⟩,fun h1=> ?_⟩
 ·have hi:(clP k sd false false).least<=s.amount/\s.amount<=(clP k sd false false).most:=⟨h1,h2⟩
  rw [if_neg hno,if_pos hi] at hx
  refine ⟨(clP k sd false false),⟨rfl⟩,hOff,fun hN=> ?_,fun hN=> ?_,fun hN=> ?_⟩
  ·omega
  ·omega
  ·cases hx
   and_intros<;>rfl
 ·have hi:¬((clP k sd false false).least<=s.amount/\s.amount<=(clP k sd false false).most):=fun h=>absurd h.2 h2
  rw [if_neg hno,if_neg hi] at hx
  have hq2:¬((clP k sd false false).offers=true/\YK M (clP k sd false false) s.amount=(clP k sd false false).last):=fun h=>nomatch h.1
  refine ⟨(clP k sd false false),⟨rfl⟩,hOff,fun hN=> ?_,fun hN=> ?_,fun hN=> ?_⟩
  all_goals replace hN:ZN (clP k sd false false).t (clP k sd false false).a0 (clP k sd false false).a1 (YK M (clP k sd false false) s.amount)=_:=hN
  ·rw [if_neg hq2,if_pos (by rw [hN];decide),hN] at hx
   cases hx
   and_intros<;>rfl
  ·rw [if_neg hq2,if_pos (by rw [hN];decide),hN] at hx
   cases hx
   and_intros<;>rfl
  ·rw [if_neg hq2,if_neg (fun q=>q hN)] at hx
   cases hx
   and_intros<;>rfl
 ·have hi:¬((clP k sd false false).least<=s.amount/\s.amount<=(clP k sd false false).most):=fun h=>absurd h.1 h1
  rw [if_neg hno,if_neg hi] at hx
  have hq2:¬((clP k sd false false).offers=true/\YK M (clP k sd false false) s.amount=(clP k sd false false).last):=fun h=>nomatch h.1
  refine ⟨(clP k sd false false),⟨rfl⟩,hOff,fun hN=> ?_,fun hN=> ?_,fun hN=> ?_⟩
  all_goals replace hN:ZN (clP k sd false false).t (clP k sd false false).a0 (clP k sd false false).a1 (YK M (clP k sd false false) s.amount)=_:=hN
  ·rw [if_neg hq2,if_pos (by rw [hN];decide),hN] at hx
   cases hx
   and_intros<;>rfl
  ·rw [if_neg hq2,if_pos (by rw [hN];decide),hN] at hx
   cases hx
   and_intros<;>rfl
  ·rw [if_neg hq2,if_neg (fun q=>q hN)] at hx
   cases hx
   and_intros<;>rfl
theorem Zq5 (SB:Zo->Bool) (M:Int->Int->Int) (Tg:LI->TxS->LI) (k:ClS) (s:Zo) (sd e kd am:Int) (tg:LI) (sy of:Bool) (la:Int) (ag:Bool) (fe:Int) (hT32:∀a t,(Tg a t).length=32) (hk:Y0 (clP k sd true false)) (ht:k.t.All) (hl:s.Len) (hSB:SB s=true->0<=s.amount/\s.amount<=1125899906842624) (hR:Ya SB M Tg (clP k sd true false) s=⟨e,kd,am,tg,sy,of,la,ag,fe⟩):
  evF (Zix SB M Tg) 20 63 [.agg (clU k sd true k.last false k.fee),.agg s.c] ⟨0,[]⟩ (ZK 0 (.ret (.tuple [.agg (clU k sd of la ag fe),.agg (sdC kd am tg),.bool sy,.int .i64 e])) 0 []):=by
 refine @Eq.mpr _ (let A:=s.t;let a:=s.amount;let T:=s.tag;let r:=k.t;let G:=r.fund;let d:=G=G;let F:=r.index;let c:=decide (F=F);let E:=r.cap;let q:=decide (E=E);let N:=r.dust;let p:=decide (N=N);let L:=r.fee;let o:=decide (L=L);let K:=r.delay;let n:=decide (K=K);let J:=r.k0;let m:=J=J;let I:=r.k1;let l:=I=I;let j:=decide (sd=sd);let H:=[k.a0,k.a1];let i:=H=H;let C:=k.least;let h:=decide (C=C);let B:=k.most;let g:=decide (B=B);let f:=decide (true=of);let z:=k.last;let y:=decide (z=la);let x:=decide (false=ag);let w:=decide (k.fee=fe);let v:=decide (0=kd);let u:=decide (0=am);let D:=decide (false=sy);let S:=wrap i64 (1-sd);let a7:=Z6 (2=e) True;let R:=d/\Z7 c (Z7 q (Z7 p (Z7 o (Z7 n (m/\l/\Z7 j (i/\Z7 h (Z7 g (Z7 f (Z7 y (Z7 x (Z7 w (Z7 v (Z5=Z5/\Z5=Z5/\Z5=Z5/\Z7 u (Z5=Z5/\Z5=Z5/\Z5=Z5/\Z5=Z5/\Z5=tg/\Z5=Z5/\ByteArray.empty=ByteArray.empty/\Z7 D a7))))))))))))));let a6:=Z6 (180=e) True;let Q:=decide (a=a);let a5:=decide (true=ag);let a4:=decide (a=fe);let P:=Z6 (0=e) True;let a3:=decide (13=kd);let a2:=M z a;let Z:=if a2<B then a2 else B;let b:=if Z>C then Z else C;let Y:=( ((0<=z/\z<=1125899906842624)/\0<=a/\a<=1125899906842624)/\
 Z0 (b==z) (d/\Z7 c (Z7 q (Z7 p (Z7 o (Z7 n (m/\l/\Z7 j (i/\Z7 h (Z7 g (Z7 f (Z7 y (Z7 x (Z7 w (Z7 v (Z5=Z5/\Z5=Z5/\Z5=Z5/\Z7 u (Z5=Z5/\Z5=Z5/\Z5=Z5/\Z5=Z5/\Z5=tg/\Z5=Z5/\ByteArray.empty=ByteArray.empty/\Z7 D (Z6 (252=e) True)))))))))))))))) (∃(k_1:ClS),
 Yv [AV.arr u8 32 G,AV.int i64 F,AV.int i64 E,AV.int i64 N,AV.int i64 L,AV.int i64 K,AV.arr u8 32 J,AV.arr u8 32 I,AV.int i64 sd,AV.arr i64 2 H,AV.int i64 C,AV.int i64 B,AV.bool true,AV.int i64 z,AV.bool false,AV.int i64 k.fee] k_1/\
 (Zp.All k_1.t/\k_1.a0<9223372036854775808/\(sd=0\/sd=1))/\
 (ZN k_1.t k_1.a0 k_1.a1 b=2->Z5=Z5/\Z5=Z5/\Z5=Z5/\Z5=Z5/\Z5=Z5/\Z5=Z5/\Z5=Z5/\Z5=Z5/\Z5=Z5/\ByteArray.empty=ByteArray.empty/\d/\Z7 c (Z7 q (Z7 p (Z7 o (Z7 n (m/\l/\Z7 j (i/\Z7 h (Z7 g (Z7 f (Z7 y (Z7 x (Z7 w (Z7 v (Z5=Z5/\Z5=Z5/\Z5=Z5/\Z7 u (Z5=Z5/\Z5=Z5/\Z5=Z5/\Z5=Z5/\Z5=tg/\Z5=Z5/\ByteArray.empty=ByteArray.empty/\Z6 (false=sy) a7)))))))))))))))/\
 (ZN k_1.t k_1.a0 k_1.a1 b=180->Z5=Z5/\Z5=Z5/\Z5=Z5/\Z5=Z5/\Z5=Z5/\Z5=Z5/\Z5=Z5/\Z5=Z5/\Z5=Z5/\ByteArray.empty=ByteArray.empty/\d/\Z7 c (Z7 q (Z7 p (Z7 o (Z7 n (m/\l/\Z7 j (i/\Z7 h (Z7 g (Z7 f (Z7 y (Z7 x (Z7 w (Z7 v (Z5=Z5/\Z5=Z5/\Z5=Z5/\Z7 u (Z5=Z5/\Z5=Z5/\Z5=Z5/\Z5=Z5/\Z5=tg/\Z5=Z5/\ByteArray.empty=ByteArray.empty/\Z6 (false=sy) a6)))))))))))))))/\
 (ZN k_1.t k_1.a0 k_1.a1 b=0->Yi Tg k_1 b sd=Yi Tg k_1 b sd/\Z5=Z5/\Z5=Z5/\Z5=Z5/\Z6 (b=b) (Z5=Z5/\Z5=Z5/\Z5=Z5/\Z5=Z5/\Yi Tg k_1 b sd=Yi Tg k_1 b sd/\Z5=Z5/\ByteArray.empty=ByteArray.empty/\d/\Z7 c (Z7 q (Z7 p (Z7 o (Z7 n (m/\l/\Z7 j (i/\Z7 h (Z7 g (Z7 f (Z6 (b=la) (Z7 x (Z7 w (Z7 a3 (Z5=Z5/\Z5=Z5/\Z5=Z5/\Z6 (b=am) (Z5=Z5/\Z5=Z5/\Z5=Z5/\Z5=Z5/\Yi Tg k_1 b sd=tg/\Z5=Z5/\ByteArray.empty=ByteArray.empty/\Z6 (true=sy) P))))))))))))))))));
 ∃(s_1:Zo),
 XO [AV.int i64 s.kind,AV.arr u8 32 A.fund,AV.int i64 A.index,AV.int i64 A.cap,AV.int i64 A.dust,AV.int i64 A.fee,AV.int i64 A.delay,AV.arr u8 32 A.k0,AV.arr u8 32 A.k1,AV.int i64 s.reserve,AV.int i64 a,AV.arr u8 32 s.point,AV.arr u8 32 s.nxt,AV.arr u8 32 s.key,AV.arr u8 32 s.hash,AV.arr u8 32 T,AV.arr u8 32 s.secret,AV.int i64 s.id,AV.int i64 s.number,AV.int i64 s.index,AV.int i64 s.expiry,AV.int i64 s.code,AV.str s.route] s_1/\
 Zo.Len s_1/\
 (SB s_1=true->
 Z0 (s.kind !=13) (d/\Z7 c (Z7 q (Z7 p (Z7 o (Z7 n (m/\l/\Z7 j (i/\Z7 h (Z7 g (Z7 f (Z7 y (Z7 x (Z7 w (Z7 v (Z5=Z5/\Z5=Z5/\Z5=Z5/\Z7 u (Z5=Z5/\Z5=Z5/\Z5=Z5/\Z5=Z5/\Z5=tg/\Z5=Z5/\ByteArray.empty=ByteArray.empty/\Z7 D (Z6 (210=e) True)))))))))))))))) (∃(k_1:ClS),
 let X:=[AV.arr u8 32 G,AV.int i64 F,AV.int i64 E,AV.int i64 N,AV.int i64 L,AV.int i64 K,AV.arr u8 32 J,AV.arr u8 32 I,AV.int i64 sd,AV.arr i64 2 H,AV.int i64 C,AV.int i64 B,AV.bool true,AV.int i64 z,AV.bool false,AV.int i64 k.fee];let O:=ZN k_1.t k_1.a0 k_1.a1 a;let W:=d/\Z7 c (Z7 q (Z7 p (Z7 o (Z7 n (m/\l/\Z7 j (i/\Z7 h (Z7 g (Z7 f (Z7 y (Z7 x (Z7 w (Z7 v (Z5=Z5/\Z5=Z5/\Z5=Z5/\Z7 u (Z5=Z5/\Z5=Z5/\Z5=Z5/\Z5=Z5/\Z5=tg/\Z5=Z5/\ByteArray.empty=ByteArray.empty/\Z7 D a6))))))))))))));let a9:=Yi Tg k_1 a S;
 Yv X k_1/\
 (Zp.All k_1.t/\k_1.a0<9223372036854775808/\(S=0\/S=1))/\
 (O=2->R)/\
 (O=180->W)/\
 (O=0->
 Z6 (a9.length=32/\T.length=32) (Z0 (!a9==T) (d/\Z7 c (Z7 q (Z7 p (Z7 o (Z7 n (m/\l/\Z7 j (i/\Z7 h (Z7 g (Z7 f (Z7 y (Z7 x (Z7 w (Z7 v (Z5=Z5/\Z5=Z5/\Z5=Z5/\Z7 u (Z5=Z5/\Z5=Z5/\Z5=Z5/\Z5=Z5/\Z5=tg/\Z5=Z5/\ByteArray.empty=ByteArray.empty/\Z7 D (Z6 (221=e) True)))))))))))))))) (Z0 (z==a) (Z7 Q (d/\Z7 c (Z7 q (Z7 p (Z7 o (Z7 n (m/\l/\Z7 j (i/\Z7 h (Z7 g (Z7 f (Z7 y (Z7 a5 (Z7 a4 (Z7 v (Z5=Z5/\Z5=Z5/\Z5=Z5/\Z7 u (Z5=Z5/\Z5=Z5/\Z5=Z5/\Z5=Z5/\Z5=tg/\Z5=Z5/\ByteArray.empty=ByteArray.empty/\Z7 D P)))))))))))))))) (Z0 (decide (a>=C)) (Z0 (decide (a<=B)) (∃(k:ClS),
 let V:=ZN k.t k.a0 k.a1 a;let U:=Yi Tg k a sd;let a8:=U=U;
 Yv X k/\(Zp.All k.t/\k.a0<9223372036854775808/\(sd=0\/sd=1))/\(V=2->R)/\(V=180->W)/\(V=0->a8/\Z7 Q (Z5=Z5/\Z5=Z5/\Z5=Z5/\Z7 Q (Z5=Z5/\Z5=Z5/\Z5=Z5/\Z5=Z5/\a8/\Z5=Z5/\ByteArray.empty=ByteArray.empty/\d/\Z7 c (Z7 q (Z7 p (Z7 o (Z7 n (m/\l/\Z7 j (i/\Z7 h (Z7 g (Z7 f (Z6 (a=la) (Z7 a5 (Z7 a4 (Z7 a3 (Z5=Z5/\Z5=Z5/\Z5=Z5/\Z6 (a=am) (Z5=Z5/\Z5=Z5/\Z5=Z5/\Z5=Z5/\U=tg/\Z5=Z5/\ByteArray.empty=ByteArray.empty/\Z6 (true=sy) P)))))))))))))))))) Y) Y))))))/\
 (SB s_1=false->R)) (by kernel_rfl) ?_
 conv=>zeta
 try simp only [vcA]
 try simp only [vcB]
 try simp only [vcC]
 have hm:=hk.made
 have hdd:=Wo hm.t
 have hfe:=hk.fee_le
 have q3:=hm.a1
 have q4:=hm.sum
 have hsd:sd=0\/sd=1:=hm.side
 have hw:i64.wrap (1-sd)=1-sd:=w64 (by omega)
 have hlast:0<=k.last/\k.last<=1125899906842624:=by
  grind [clP]
 have ha0:k.a0<9223372036854775808:=by
  grind [clP]
 have hOff:k.t.All/\k.a0<9223372036854775808/\(sd=0\/sd=1):=⟨ht,ha0,hsd⟩
 simp only [Z7U,hw]
 refine ⟨s,⟨rfl⟩,hl,fun hS=>⟨fun hK=> ?_,fun hK=> ?_⟩,fun hS=> ?_⟩
 rotate_left
 rotate_left
 ·cases hR.symm.trans (QF hS)
  and_intros<;>rfl
 ·cases hR.symm.trans (Ux hS (bne_iff_ne.1 hK))
  and_intros<;>rfl
 have hd:HdC SB (clP k sd true false) s:=⟨hS,bne_eq_false_iff_eq.1 hK,rfl⟩
 have hv:(Yi Tg (clP k sd true false) s.amount (1-sd)).length=32:=by
  unfold Yi
  split
  ·simp_all
  ·rfl
 refine ⟨(clP k sd true false),⟨rfl⟩,⟨ht,ha0,by omega⟩,fun hE=> ?_,fun hE=> ?_,fun hE=>⟨⟨hv,hl.h7⟩,fun hT=> ?_,fun hT=> ?_⟩⟩
 ·cases hR.symm.trans (VA hd hE (by decide))
  and_intros<;>rfl
 ·cases hR.symm.trans (VA hd hE (by decide))
  and_intros<;>rfl
 ·cases hR.symm.trans (Z19 hd hE (nbT hT))
  and_intros<;>rfl
 have hx:=hR.symm.trans (Z2y ⟨hd,hE,nbF hT⟩)
 refine ⟨fun hlt=> ?_,fun hlt=> ?_⟩
 ·rw [if_pos (⟨rfl,beq_iff_eq.1 hlt⟩:(clP k sd true false).offers=true/\(clP k sd true false).last=s.amount)] at hx
  cases hx
  and_intros<;>rfl
 have hno:¬((clP k sd true false).offers=true/\(clP k sd true false).last=s.amount):=fun h=>beq_eq_false_iff_ne.1 hlt h.2
 refine ⟨fun h1=>⟨fun h2=> ?_,fun h2=> ?_⟩,fun h1=> ?_⟩
 ·have hi:(clP k sd true false).least<=s.amount/\s.amount<=(clP k sd true false).most:=⟨h1,h2⟩
  rw [if_neg hno,if_pos hi] at hx
  refine ⟨(clP k sd true false),⟨rfl⟩,hOff,fun hN=> ?_,fun hN=> ?_,fun hN=> ?_⟩
  ·omega
  ·omega
  ·cases hx
   and_intros<;>rfl
 ·have hi:¬((clP k sd true false).least<=s.amount/\s.amount<=(clP k sd true false).most):=fun h=>absurd h.2 h2
  rw [if_neg hno,if_neg hi] at hx
  refine ⟨⟨hlast,hSB hS⟩,fun ha=> ?_,fun ha=> ?_⟩
  ·rw [if_pos (⟨rfl,beq_iff_eq.1 ha⟩:(clP k sd true false).offers=true/\YK M (clP k sd true false) s.amount=(clP k sd true false).last)] at hx
   cases hx
   and_intros<;>rfl
  have hq2:¬((clP k sd true false).offers=true/\YK M (clP k sd true false) s.amount=(clP k sd true false).last):=fun h=>beq_eq_false_iff_ne.1 ha h.2
  refine ⟨(clP k sd true false),⟨rfl⟩,hOff,fun hN=> ?_,fun hN=> ?_,fun hN=> ?_⟩
  all_goals replace hN:ZN (clP k sd true false).t (clP k sd true false).a0 (clP k sd true false).a1 (YK M (clP k sd true false) s.amount)=_:=hN
  ·rw [if_neg hq2,if_pos (by rw [hN];decide),hN] at hx
   cases hx
   and_intros<;>rfl
  ·rw [if_neg hq2,if_pos (by rw [hN];decide),hN] at hx
   cases hx
   and_intros<;>rfl
  ·rw [if_neg hq2,if_neg (fun q=>q hN)] at hx
   cases hx
   and_intros<;>rfl
 ·have hi:¬((clP k sd true false).least<=s.amount/\s.amount<=(clP k sd true false).most):=fun h=>absurd h.1 h1
  rw [if_neg hno,if_neg hi] at hx
  refine ⟨⟨hlast,hSB hS⟩,fun ha=> ?_,fun ha=> ?_⟩
  ·rw [if_pos (⟨rfl,beq_iff_eq.1 ha⟩:(clP k sd true false).offers=true/\YK M (clP k sd true false) s.amount=(clP k sd true false).last)] at hx
   cases hx
   and_intros<;>rfl
  have hq2:¬((clP k sd true false).offers=true/\YK M (clP k sd true false) s.amount=(clP k sd true false).last):=fun h=>beq_eq_false_iff_ne.1 ha h.2
  refine ⟨(clP k sd true false),⟨rfl⟩,hOff,fun hN=> ?_,fun hN=> ?_,fun hN=> ?_⟩
  all_goals replace hN:ZN (clP k sd true false).t (clP k sd true false).a0 (clP k sd true false).a1 (YK M (clP k sd true false) s.amount)=_:=hN
  ·rw [if_neg hq2,if_pos (by rw [hN];decide),hN] at hx
   cases hx
   and_intros<;>rfl
  ·rw [if_neg hq2,if_pos (by rw [hN];decide),hN] at hx
   cases hx
   and_intros<;>rfl
  ·rw [if_neg hq2,if_neg (fun q=>q hN)] at hx
   cases hx
   and_intros<;>rfl
theorem Zq6 (SB:Zo->Bool) (M:Int->Int->Int) (Tg:LI->TxS->LI) (k:ClS) (s:Zo) (sd e kd am:Int) (of0:Bool) (tg:LI) (sy of:Bool) (la:Int) (ag:Bool) (fe:Int) (hl:s.Len) (hR:Ya SB M Tg (clP k sd of0 true) s=⟨e,kd,am,tg,sy,of,la,ag,fe⟩):
  evF (Zix SB M Tg) 20 63 [.agg (clU k sd of0 k.last true k.fee),.agg s.c] ⟨0,[]⟩ (ZK 0 (.ret (.tuple [.agg (clU k sd of la ag fe),.agg (sdC kd am tg),.bool sy,.int .i64 e])) 0 []):=by
 refine @Eq.mpr _ (let b:=s.t;let a:=k.t;let C:=a.fund;let f:=C=C;let B:=a.index;let d:=decide (B=B);let A:=a.cap;let c:=decide (A=A);let z:=a.dust;let y:=decide (z=z);let H:=a.fee;let x:=decide (H=H);let G:=a.delay;let w:=decide (G=G);let F:=a.k0;let v:=F=F;let E:=a.k1;let u:=E=E;let r:=decide (sd=sd);let D:=[k.a0,k.a1];let q:=D=D;let p:=decide (k.least=k.least);let o:=decide (k.most=k.most);let n:=decide (of0=of);let m:=decide (k.last=la);let l:=decide (true=ag);let j:=decide (k.fee=fe);let i:=decide (0=kd);let h:=decide (0=am);let g:=decide (false=sy);
 ∃(s_1:Zo),
 XO [AV.int i64 s.kind,AV.arr u8 32 b.fund,AV.int i64 b.index,AV.int i64 b.cap,AV.int i64 b.dust,AV.int i64 b.fee,AV.int i64 b.delay,AV.arr u8 32 b.k0,AV.arr u8 32 b.k1,AV.int i64 s.reserve,AV.int i64 s.amount,AV.arr u8 32 s.point,AV.arr u8 32 s.nxt,AV.arr u8 32 s.key,AV.arr u8 32 s.hash,AV.arr u8 32 s.tag,AV.arr u8 32 s.secret,AV.int i64 s.id,AV.int i64 s.number,AV.int i64 s.index,AV.int i64 s.expiry,AV.int i64 s.code,AV.str s.route] s_1/\
 Zo.Len s_1/\
 (SB s_1=true->
 Z0 (s.kind !=13) (f/\Z0 d (Z0 c (Z0 y (Z0 x (Z0 w (v/\u/\Z0 r (q/\Z0 p (Z0 o (Z0 n (Z0 m (Z0 l (Z0 j (Z0 i (Z5=Z5/\Z5=Z5/\Z5=Z5/\Z0 h (Z5=Z5/\Z5=Z5/\Z5=Z5/\Z5=Z5/\Z5=tg/\Z5=Z5/\ByteArray.empty=ByteArray.empty/\Z0 g (Z0 (decide (210=e)) True False) False) False) False) False) False) False) False) False) False) False) False) False) False) False) False)
 (f/\Z0 d (Z0 c (Z0 y (Z0 x (Z0 w (v/\u/\Z0 r (q/\Z0 p (Z0 o (Z0 n (Z0 m (Z0 l (Z0 j (Z0 i (Z5=Z5/\Z5=Z5/\Z5=Z5/\Z0 h (Z5=Z5/\Z5=Z5/\Z5=Z5/\Z5=Z5/\Z5=tg/\Z5=Z5/\ByteArray.empty=ByteArray.empty/\Z0 g (Z0 (decide (250=e)) True False) False) False) False) False) False) False) False) False) False) False) False) False) False) False) False))/\
 (SB s_1=false->f/\Z0 d (Z0 c (Z0 y (Z0 x (Z0 w (v/\u/\Z0 r (q/\Z0 p (Z0 o (Z0 n (Z0 m (Z0 l (Z0 j (Z0 i (Z5=Z5/\Z5=Z5/\Z5=Z5/\Z0 h (Z5=Z5/\Z5=Z5/\Z5=Z5/\Z5=Z5/\Z5=tg/\Z5=Z5/\ByteArray.empty=ByteArray.empty/\Z0 g (Z0 (decide (2=e)) True False) False) False) False) False) False) False) False) False) False) False) False) False) False) False) False)) (by kernel_rfl) ?_
 conv=>zeta
 try simp only [Zc]
 try simp only [Zl]
 try simp only [Zg]
 try simp only [Zm]
 try simp only [Zn]
 try simp only [Zh]
 try simp only [true_and,and_true]
 refine ⟨s,⟨rfl⟩,hl,fun hS=>⟨fun hK=> ?_,fun hK=> ?_⟩,fun hS=> ?_⟩
 ·cases hR.symm.trans (Ux hS (bne_iff_ne.1 hK))
  and_intros<;>rfl
 ·cases hR.symm.trans (Zb4 hS (bne_eq_false_iff_eq.1 hK) rfl)
  and_intros<;>rfl
 ·cases hR.symm.trans (QF hS)
  and_intros<;>rfl
theorem Z9J {k:ClS} {s:Zo} (hc:∀args h K,rtS SB args h K->Zd PP 126 args h fun o h'=>∃v,o=.ret v/\h'=h/\K v) (hk:Y0 k) (ht:k.t.All) (hl:s.Len) (hSB:SB s=true->0<=s.amount/\s.amount<=1125899906842624) {r:HR} (hR:Ya SB Xe ZC k s=r):
  Zx PP 63 [.agg (clU k k.side k.offers k.last k.agrees k.fee),.agg s.c] (.tuple [.agg (clU k k.side r.of r.la r.ag r.fe),.agg (sdC r.kd r.am r.tg),.bool r.sy,.int .i64 r.e]) 0 []:=by
 have hE:(Zix SB Xe ZC).Ok:=Za.withP_ok (Za.withP_ok (Za.withP_ok Zr hc) Z7T) ZfF
 obtain ⟨e,kd,am,tg,sy,of,la,ag,fe⟩:=r
 obtain ⟨t,sd,a0,a1,le,mo,o0,l0,g0,f0⟩:=k
 cases g0 with
 | true=>exact .evM hE (Zq6 SB Xe ZC ⟨t,sd,a0,a1,le,mo,o0,l0,true,f0⟩ s sd e kd am o0 tg sy of la ag fe hl hR)
 | false=>cases o0 with
  | true=>exact .evM hE (Zq5 SB Xe ZC ⟨t,sd,a0,a1,le,mo,true,l0,false,f0⟩ s sd e kd am tg sy of la ag fe Xl hk ht hl hSB hR)
  | false=>exact .evM hE (Zq4 SB Xe ZC ⟨t,sd,a0,a1,le,mo,false,l0,false,f0⟩ s sd e kd am tg sy of la ag fe Xl hk ht hl hSB hR)
theorem Zou {ok:Bool} {o:Out} {h:Z8} (hk:rtK ok o h):Xr (fun v=>v=.bool ok) o h:=by
 unfold rtK at hk
 split at hk
 ·subst hk;rfl
 ·exact hk.elim
theorem Zov {s:Zo} (hs:s.Len) {ok:Bool} (hok:ok=true↔Zy s s.kind):Zd PP 126 [.agg s.c] ⟨0,[]⟩ (rtK ok):=by
 unfold Zo.c
 have h15:s.kind=1\/s.kind=2\/s.kind=3\/s.kind=4\/s.kind=5\/s.kind=6\/s.kind=7\/s.kind=8\/s.kind=9\/s.kind=10\/s.kind=11\/s.kind=12\/s.kind=13\/s.kind=14\/(s.kind<1\/14<s.kind):=by omega
 rcases h15 with h|h|h|h|h|h|h|h|h|h|h|h|h|h|h
 ·rw [h] at hok⊢;exact Y5 Xd (Zni s ok hs hok)
 ·rw [h] at hok⊢;exact Y5 Xd (Znj s ok hs hok)
 ·rw [h] at hok⊢;exact Y5 Xd (Znk s ok hs hok)
 ·rw [h] at hok⊢;exact Y5 Xd (Znl s ok hs hok)
 ·rw [h] at hok⊢;exact Y5 Xd (Znm s ok hs hok)
 ·rw [h] at hok⊢;exact Y5 Xd (Znn s ok hs hok)
 ·rw [h] at hok⊢;exact Y5 Xd (Zno s ok hs hok)
 ·rw [h] at hok⊢;exact Y5 Xd (Znp s ok hs hok)
 ·rw [h] at hok⊢;exact Y5 Xd (Znq s ok hs hok)
 ·rw [h] at hok⊢;exact Y5 Xd (ZkB s ok hs hok)
 ·rw [h] at hok⊢;exact Y5 Xd (ZkC s ok hs hok)
 ·rw [h] at hok⊢;exact Y5 Xd (ZkD s ok hs hok)
 ·rw [h] at hok⊢;exact Y5 Xd (ZkE s ok hs hok)
 ·rw [h] at hok⊢;exact Y5 Xd (ZkF s ok hs hok)
 ·have e:ok=false:=JM.2 fun e=>Z47 h (hok.1 e)
  subst e
  exact Y5 Xd (Znr s s.kind hs h)
theorem Zl7 (args:List AV) (h:Z8) (K:AV->Prop) (hl:rtS WQ args h K):Zd PP 126 args h fun o h'=>∃v,o=.ret v/\h'=h/\K v:=by
 unfold rtS at hl
 split at hl
 ·obtain ⟨s,⟨rfl⟩,hs,h1,h0⟩:=hl
  refine Z0u rfl ((Zov hs Qm).k fun o h hk=>Zou hk) fun u hu=> ?_
  subst hu
  cases hq:WQ s with
  | true=>exact h1 hq
  | false=>exact h0 hq
 ·exact hl.elim
def slB (b n:Nat):AV:=.nslice ⟨b,0,0,0,0⟩ 1 n n
noncomputable def Zow (W:Int->LI):Za:=G0.withF 137 (Z7p W)
theorem Ziy:(Zow Zt).Ok:=Za.withF_ok Zr Z3H
theorem Zox (W:Int->LI) (xs ys:LI) (N L:Nat) (n:Int) (hN:xs.length=N) (hB:N<80000000000000) (hW:W=Zt) (hn:0<=n) (hy:ys=xs++W n) (hL:L=ys.length):
  evF (Zow W) 20 72 [slB 0 N,.int .i64 n] ⟨1,[(0,.ints .u8 xs)]⟩ (ZK 1 (.ret (slB 1 L)) 2 [(1,.ints .u8 ys)]):=by
 refine @Eq.mpr _ (let b:=List.length (W n);let c:=xs++List.take b (ZV 0 (W n));let a:=c.length;
 Z0 (decide (0<=n)) (Z0 (decide (u8=u8/\0+b<=b)) (Z0 (decide (u8=u8/\xs.length=N)) (Z0 (decide (a*1<=140737488355328)) (Z0 (decide (a=L)) (Z0 (decide (L<=a)) (c=ys/\True) False) False) False) False) False) False) (by kernel_rfl) ?_
 conv=>zeta
 try simp only [Zc]
 try simp only [Zl]
 try simp only [Zg]
 try simp only [Zm]
 try simp only [Zn]
 try simp only [Zh]
 try simp only [and_true]
 subst hW hN hy hL
 have e:List.take (Zt n).length (ZV 0 (Zt n))=Zt n:=by rw [Y6,JU,Jv]
 have:=Y1 n
 grind
theorem Zoy (xs hh ys:LI) (N L:Nat) (hN:xs.length=N) (hB:N<80000000000000) (hl:hh.length=32) (hy:ys=xs++hh) (hL:L=ys.length):
  evF G0 20 71 [slB 0 N,.agg [.arr .u8 32 hh]] ⟨1,[(0,.ints .u8 xs)]⟩ (ZK 1 (.ret (slB 1 L)) 2 [(1,.ints .u8 ys)]):=by
 refine @Eq.mpr _ (let b:=xs++hh;let a:=b.length;
 Z0 (decide (u8=u8/\hh.length=32)) (Z0 (decide (u8=u8/\xs.length=N)) (Z0 (decide (a*1<=140737488355328)) (Z0 (decide (a=L)) (Z0 (decide (L<=a)) (b=ys/\True) False) False) False) False) False) (by kernel_rfl) ?_
 conv=>zeta
 try simp only [Zc]
 try simp only [Zl]
 try simp only [Zg]
 try simp only [Zm]
 try simp only [Zn]
 try simp only [Zh]
 try simp only [and_true]
 grind
theorem Zoz (hh:LI) (hl:hh.length=32):
  evF G0 20 71 [.nilslice,.agg [.arr .u8 32 hh]] ⟨0,[]⟩ (ZK 0 (.ret (slB 0 32)) 1 [(0,.ints .u8 hh)]):=by
 refine @Eq.mpr _ (let b:=[]++hh;let a:=b.length;
 Z0 (decide (u8=u8/\hh.length=32)) (Z0 (decide (a*1<=140737488355328)) (Z0 (decide (a=32)) (Z0 (decide (32<=a)) (b=hh/\True) False) False) False) False) (by kernel_rfl) ?_
 conv=>zeta
 try simp only [Zc]
 try simp only [Zl]
 try simp only [Zg]
 try simp only [Zm]
 try simp only [Zn]
 try simp only [Zh]
 try simp only [and_true]
 simp_all
def ZoA (h:Z8) (b:Nat) (ys:LI):Z8:=⟨h.next+1,(h.next,.ints .u8 ys)::Yc h.bs b⟩
def Zl8 (W:Int->LI) (B:Nat):ZQ:=fun args h K=>match args with
 | [.nslice ⟨b,0,0,0,0⟩ 1 _ _,_]=>frA [b] h 20 args fun Bs a=>match Bs,a with
  | [.ints .u8 xs],[.nslice ⟨0,0,0,0,0⟩ 1 N M,.int .i64 n]=>Z6 (xs.length=N/\M=N/\N<B/\0<=n) (K (.ret (slB h.next (xs++W n).length)) (ZoA h b (xs++W n)))
  | _,_=>False
 | _=>False
theorem Ziz (args:List AV) (h:Z8) (K:KO) (hl:Zl8 Zt 80000000000000 args h K):Zd PP 72 args h K:=by
 unfold Zl8 at hl
 split at hl
 ·refine Spec.fsumm hl fun Bs a hlen hK0=> ?_
  split at hK0
  ·obtain ⟨⟨h1,rfl,h2,h3⟩,hK⟩:=Zf hK0
   exact ⟨_,_,_,_,_,.evM Ziy (Zox _ _ _ _ _ _ h1 h2 rfl h3 rfl rfl),by simp,.ret _ _ rfl,.cons _ _ _ _ _ _ rfl (.ints _ _) .nil,hK⟩
  simp_all
 simp_all
def ZfL (B:Nat):ZQ:=fun args h K=>match args with
 | [.nslice ⟨b,0,0,0,0⟩ 1 _ _,_]=>frA [b] h 20 args fun Bs a=>match Bs,a with
  | [.ints .u8 xs],[.nslice ⟨0,0,0,0,0⟩ 1 N M,.agg [.arr .u8 32 hh]]=>Z6 (xs.length=N/\M=N/\N<B/\hh.length=32) (K (.ret (slB h.next (xs++hh).length)) (ZoA h b (xs++hh)))
  | _,_=>False
 | [.nilslice,_]=>frA [] h 20 args fun Bs a=>match Bs,a with
  | [],[.nilslice,.agg [.arr .u8 32 hh]]=>Z6 (hh.length=32) (K (.ret (slB h.next 32)) ⟨h.next+1,(h.next,.ints .u8 hh)::h.bs⟩)
  | _,_=>False
 | _=>False
theorem ZfM (args:List AV) (h:Z8) (K:KO) (hl:ZfL 80000000000000 args h K):Zd PP 71 args h K:=by
 unfold ZfL at hl
 split at hl
 ·refine Spec.fsumm hl fun Bs a hlen hK0=> ?_
  split at hK0
  ·obtain ⟨⟨h1,rfl,h2,h3⟩,hK⟩:=Zf hK0
   exact ⟨_,_,_,_,_,.evM Zr (Zoy _ _ _ _ _ h1 h2 h3 rfl rfl),by simp,.ret _ _ rfl,.cons _ _ _ _ _ _ rfl (.ints _ _) .nil,hK⟩
  simp_all
 ·refine Spec.fsumm hl fun Bs a hlen hK0=> ?_
  split at hK0
  ·obtain ⟨h3,hK⟩:=Zf hK0
   exact ⟨_,_,_,_,_,.evM Zr (Zoz _ h3),JB _,.ret _ _ rfl,.cons _ _ _ _ _ _ rfl (.ints _ _) .nil,hK⟩
  simp_all
 simp_all
theorem ZoB (b:Bool) (ys:LI) (hy:ys=[cond b 1 0]):
  evF G0 20 73 [.bool b] ⟨0,[]⟩ (ZK 0 (.ret (slB 0 1)) 1 [(0,.ints .u8 ys)]):=by
 refine @Eq.mpr _ (Z0 b ([(1:Int)]=ys/\True) ([(0:Int)]=ys/\True)) (by kernel_rfl) ?_
 try simp only [Zc]
 try simp only [Zl]
 try simp only [Zg]
 try simp only [Zm]
 try simp only [Zn]
 try simp only [Zh]
 try simp only [and_true]
 subst hy
 cases b<;>simp
def Z9K:ZQ:=fun args h K=>match args with
 | [.bool b]=>K (.ret (slB h.next 1)) ⟨h.next+1,(h.next,.ints .u8 [cond b 1 0])::h.bs⟩
 | _=>False
theorem ZcA (args:List AV) (h:Z8) (K:KO) (hl:Z9K args h K):Zd PP 73 args h K:=by
 unfold Z9K at hl
 split at hl
 ·exact (Zx.evM Zr (ZoB _ _ rfl)).calls (fun E w rs he hr=>by
   cases hr with
   | cons v r vs rs h1 h2=>cases h2;exact .cons _ _ _ _ (h1.plain rfl) .nil) rfl ⟨JC,.ints _ _,trivial⟩ hl
 simp_all
noncomputable def Zjg (W:Int->LI) (B:Nat):Za:=((G0.withF 72 (Zl8 W B)).withF 71 (ZfL B)).withF 73 Z9K
theorem ZfN:(Zjg Zt 80000000000000).Ok:=Za.withF_ok (Za.withF_ok (Za.withF_ok Zr Ziz) ZfM) ZcA
structure RwC (k:ClS):Prop where
 n:Zff 4611686018427387904 k
 f:k.t.fund.length=32
 h0:k.t.k0.length=32
 h1:k.t.k1.length=32
theorem ZcB {W:Int->LI} {k:ClS} (h9:∀v,(W v).length<=9) (hf:k.t.fund.length=32) (h0:k.t.k0.length=32) (h1:k.t.k1.length=32):(Yw W k).length<=300:=by
 unfold Yw tru
 grind [J9,Jl]
theorem ZoC (W:Int->LI) (B n:Nat) (k:ClS) (ys:LI) (hk:RwC k) (hy:ys=Yw W k) (hn:n=ys.length) (h9:∀v,(W v).length<=9) (hB:1000<B) (hB2:B<90000000000000):
  evF (Zjg W B) 20 28 [.agg (clU k k.side k.offers k.last k.agrees k.fee)] ⟨0,[]⟩ (ZK 0 (.ret (slB 0 n)) 1 [(0,.ints .u8 ys)]):=by
 refine @Eq.mpr _ (let a:=k.t;let L:=a.fund;let F:=a.k1;let b:=F=F;let x:=a.k0;let c:=x=x;let v:=a.delay;let f:=decide (v=v);let u:=a.fee;let J:=decide (u=u);let I:=a.dust;let M:=decide (I=I);let H:=a.cap;let b2:=decide (H=H);let G:=a.index;let b1:=L++W G;let s:=b1.length;let b0:=b1++W H;let r:=b0.length;let a9:=b0++W I;let q:=a9.length;let a8:=a9++W u;let p:=a8.length;let a7:=a8++W v;let o:=a7.length;let a6:=a7++x;let m:=a6.length;let a5:=a6++F;let l:=a5.length;let E:=k.most;let D:=decide (E=E);let C:=k.least;let K:=decide (C=C);let A:=k.a1;let a4:=decide (A=A);let z:=k.a0;let a3:=a5++W k.side;let j:=a3.length;let a2:=a3++W z;let i:=a2.length;let Z:=a2++W A;let h:=Z.length;let Y:=Z++W C;let g:=Y.length;let y:=k.last;let X:=decide (y=y);let V:=Y++W E;let U:=V.length;let T:=V++[bif k.offers then 1 else 0];let e:=T.length;let w:=k.fee;let S:=decide (w=w);let R:=T++W y;let Q:=R.length;let P:=R++[bif k.agrees then 1 else 0];let d:=P.length;let O:=P++W w;let N:=O.length;
 Z6 (L.length=32) (b/\
 c/\
 Z7 f (Z7 J (Z7 M (Z7 b2 (Z6 (G=G) (Z6 (L.length=32/\(32:Nat)=32/\32<B/\0<=G) (b/\
 c/\
 Z7 f (Z7 J (Z7 M (Z7 b2 (Z6 (s=s/\s=s/\s<B/\0<=H) (b/\
 c/\
 Z7 f (Z7 J (Z7 M (Z6 (r=r/\r=r/\r<B/\0<=I) (b/\
 c/\
 Z7 f (Z7 J (Z6 (q=q/\q=q/\q<B/\0<=u) (b/\
 c/\
 Z7 f (Z6 (p=p/\p=p/\p<B/\0<=v) (b/\
 c/\
 Z6 (o=o/\o=o/\o<B/\x.length=32) (b/\
 Z6 (m=m/\m=m/\m<B/\F.length=32) (Z6 (l=l/\l=l/\l<B/\0<=k.side) (Z7 D (Z7 K (Z7 a4 (Z6 (z=z) (Z6 (j=j/\j=j/\j<B/\0<=z) (Z7 D (Z7 K (Z7 a4 (Z6 (i=i/\i=i/\i<B/\0<=A) (Z7 D (Z7 K (Z6 (h=h/\h=h/\h<B/\0<=C) (Z7 D (Z6 (g=g/\g=g/\g<B/\0<=E) (Z7 X (Z6 (u8=u8/\U=U) (Z6 (e*1<=140737488355328) (Z7 X (Z6 (e=e/\e=e/\e<B/\0<=y) (Z7 S (Z6 (u8=u8/\Q=Q) (Z6 (d*1<=140737488355328) (Z7 S (Z6 (d=d/\d=d/\d<B/\0<=w) (Z6 (N=n) (Z6 (n<=N) (O=ys/\True))))))))))))))))))))))))))))))))))))))))))))))))))) (by kernel_rfl) ?_
 conv=>zeta
 try simp only [vcA]
 try simp only [vcB]
 try simp only [vcC]
 obtain ⟨⟨⟨a1,b1⟩,⟨a2,b2⟩,⟨a3,b3⟩,⟨a4,b4⟩,⟨a5,b5⟩,⟨a6,b6⟩,⟨a7,b7⟩,⟨a8,b8⟩,⟨a9,b9⟩,⟨a10,b10⟩,⟨a11,b11⟩,⟨a12,b12⟩⟩,hf,h0,h1⟩:=hk
 have l1:=h9 k.t.index
 have l2:=h9 k.t.cap
 have l3:=h9 k.t.dust
 have l4:=h9 k.t.fee
 have l5:=h9 k.t.delay
 have l6:=h9 k.side
 have l7:=h9 k.a0
 have l8:=h9 k.a1
 have l9:=h9 k.least
 have l10:=h9 k.most
 have l11:=h9 k.last
 have l12:=h9 k.fee
 subst hy hn
 repeat' first
  | with_reducible rfl
  | exact True.intro
  | with_reducible assumption
  | with_reducible refine Ja ?_ ?_
 all_goals first
  | ((try simp only [J9,Jl,JD,h0]);omega)
  | rfl
  | (exact J2 _)
theorem Z7V (v:Int):(Zt v).length<=9:=(Y1 v).2
def ZfO (W:Int->LI):ZQ:=fun args h K=>match args with
 | [.ptr (some ⟨x,0,0,0,0⟩)]=>frA [x] h 40 args fun Bs a=>match Bs,a with
  | [.flat cs],[.ptr (some ⟨0,0,0,0,0⟩)]=>∃k,X7 cs k/\RwC k/\K (.ret (.nslice ⟨h.next,0,0,0,0⟩ 1 (Yw W k).length (Yw W k).length)) ⟨h.next+1,(x,.flat cs)::(h.next,.ints .u8 (Yw W k))::Yc h.bs x⟩
  | _,_=>False
 | _=>False
theorem ZfP (args:List AV) (h:Z8) (K:KO) (hl:ZfO Zt args h K):Zd PP 21 args h K:=by
 unfold ZfO at hl
 split at hl
 ·refine Spec.fsumm hl fun Bs a hlen hK0=> ?_
  split at hK0
  ·obtain ⟨k,⟨rfl⟩,⟨h1,h2,h3,h4⟩,hK⟩:=hK0
   exact ⟨_,_,_,_,_,.evM Zii (Zo8 Zt _ _ _ k _ h1 h2 h3 h4 rfl rfl Z7V (by decide) (by decide)),by simp,.ret _ _ rfl,.cons _ _ _ _ _ _ rfl (.flat _ _ rfl) (.cons _ _ _ _ _ _ rfl (.ints _ _) .nil),hK⟩
  simp_all
 simp_all
def ZfQ (W:Int->LI):ZQ:=fun args h K=>ZG none h true 40 args fun a=>match a with
 | [.agg cs]=>∃k,Yv cs k/\RwC k/\K (.ret (.nslice ⟨h.next,0,0,0,0⟩ 1 (Yw W k).length (Yw W k).length)) ⟨h.next+1,(h.next,.ints .u8 (Yw W k))::h.bs⟩
 | _=>False
theorem Z7W (args:List AV) (h:Z8) (K:KO) (hl:ZfQ Zt args h K):Zd PP 28 args h K:=by
 refine Zx.fsumm (d:=40) (Zq _ _ _ _ _ hl fun a ha=> ?_)
 split at ha
 ·obtain ⟨k,⟨rfl⟩,h1,hK⟩:=ha
  exact ⟨_,_,_,_,.evM ZfN (ZoC Zt _ _ k _ h1 rfl rfl Z7V (by decide) (by decide)),rfl,⟨JC,.ints _ _,trivial⟩,hK⟩
 simp_all
def k0C (t:Zp) (sd a b lo hi:Int):ClS:=⟨t,sd,a,b,lo,hi,false,0,false,0⟩
noncomputable def Zl9 (A:LI->Int×Int):Za:=G0.withP 30 (Zcy A)
theorem Zq7 (A:LI->Int×Int) (t:Zp) (sd a b lo hi:Int) (ht:t.Ok) (hm:Ym A (k0C t sd a b lo hi)=true):
  evF (Zl9 A) 20 9 [.agg t.c,.int .i64 sd,.agg [.arr .i64 2 [a,b]],.int .i64 lo,.int .i64 hi] ⟨0,[]⟩ (clK true (k0C t sd a b lo hi)):=by
 refine @Eq.mpr _ (let e:=[a,b];let d:=k0C t sd a b lo hi;let c:=d.t;
 ∃(k:ClS),Yv [AV.arr u8 32 t.fund,AV.int i64 t.index,AV.int i64 t.cap,AV.int i64 t.dust,AV.int i64 t.fee,AV.int i64 t.delay,AV.arr u8 32 t.k0,AV.arr u8 32 t.k1,AV.int i64 sd,AV.arr i64 2 e,AV.int i64 lo,AV.int i64 hi,AV.bool false,AV.int i64 0,AV.bool false,AV.int i64 0] k/\Zp.Ok k.t/\Z0 (!Ym A k) False (t.fund=c.fund/\Z0 (decide (t.index=c.index)) (Z0 (decide (t.cap=c.cap)) (Z0 (decide (t.dust=c.dust)) (Z0 (decide (t.fee=c.fee)) (Z0 (decide (t.delay=c.delay)) (t.k0=c.k0/\t.k1=c.k1/\Z0 (decide (sd=d.side)) (e=[d.a0,d.a1]/\Z0 (decide (lo=d.least)) (Z0 (decide (hi=d.most)) True False) False) False) False) False) False) False) False)) (by kernel_rfl) ?_
 conv=>zeta
 try simp only [Zc]
 try simp only [Zl]
 try simp only [Zg]
 try simp only [Zm]
 try simp only [Zn]
 try simp only [Zh]
 try simp only [and_true]
 refine ⟨k0C t sd a b lo hi,⟨rfl⟩,ht,by rw [hm];rfl, ?_⟩
 and_intros<;>rfl
theorem Zq8 (A:LI->Int×Int) (t:Zp) (sd a b lo hi:Int) (ht:t.Ok) (hm:Ym A (k0C t sd a b lo hi)=false):
  evF (Zl9 A) 20 9 [.agg t.c,.int .i64 sd,.agg [.arr .i64 2 [a,b]],.int .i64 lo,.int .i64 hi] ⟨0,[]⟩ (ZK 0 (.ret (.tuple [.ptr none,.int .i64 2])) 0 []):=by
 refine @Eq.mpr _ (∃(k:ClS),Yv [AV.arr u8 32 t.fund,AV.int i64 t.index,AV.int i64 t.cap,AV.int i64 t.dust,AV.int i64 t.fee,AV.int i64 t.delay,AV.arr u8 32 t.k0,AV.arr u8 32 t.k1,AV.int i64 sd,AV.arr i64 2 [a,b],AV.int i64 lo,AV.int i64 hi,AV.bool false,AV.int i64 0,AV.bool false,AV.int i64 0] k/\Zp.Ok k.t/\Z0 (!Ym A k) True False) (by kernel_rfl) ?_
 try simp only [Zc]
 try simp only [Zl]
 try simp only [Zg]
 try simp only [Zm]
 try simp only [Zn]
 try simp only [Zh]
 try simp only [and_true]
 refine ⟨k0C t sd a b lo hi,⟨rfl⟩,ht, ?_⟩
 rw [hm];rfl
inductive ZcC (cs:List AV) (t:Zp):Prop
 | mk:cs=t.c->ZcC cs t
def ZoD (A:LI->Int×Int):ZQ:=fun args h K=>ZG none h true 40 args fun x=>match x with
 | [.agg cs,.int .i64 sd,.agg [.arr .i64 2 ab],.int .i64 lo,.int .i64 hi]=>∃t a b,ZcC cs t/\ab=[a,b]/\t.Ok/\
  (Ym A (k0C t sd a b lo hi)=true->K (.ret (.tuple [.ptr (some ⟨h.next,0,0,0,0⟩),.int .i64 0])) ⟨h.next+1,(h.next,.flat (clT (k0C t sd a b lo hi) sd false 0 false 0))::h.bs⟩)/\
  (Ym A (k0C t sd a b lo hi)=false->K (.ret (.tuple [.ptr none,.int .i64 2])) h)
 | _=>False
theorem ZoE {k:ClS} {o:Out} {h:Z8} (hk:clK true k o h):ZK 0 (.ret (.tuple [.ptr (some ⟨0,0,0,0,0⟩),.int .i64 0])) 1 [(0,.flat (k.c++[.bool true]))] o h:=by
 unfold clK at hk
 split at hk
 ·exact hk.elim
 ·exact hk
 simp_all
theorem Zb5:(Zl9 ZJ).Ok:=Za.withP_ok Zr Zb1
theorem ZfR (args:List AV) (h:Z8) (K:KO) (hl:ZoD ZJ args h K):Zd PP 9 args h K:=by
 refine Zx.fsumm (d:=40) (Zq _ _ _ _ _ hl fun a ha=> ?_)
 split at ha
 ·rename_i cs sd ab lo hi
  obtain ⟨t,a,b,⟨rfl⟩,rfl,ht,h1,h0⟩:=ha
  cases hm:Ym ZJ (k0C t sd a b lo hi) with
  | true=>exact ⟨_,_,_,_,Spec.pure (Spec.evK Zb5 (Zq7 _ t sd a b lo hi ht hm) fun o' h' hk=>ZoE hk),rfl,⟨JC,.flat _ rfl,trivial⟩,h1 hm⟩
  | false=>exact ⟨_,_,_,_,.evM Zb5 (Zq8 _ t sd a b lo hi ht hm),rfl,trivial,h0 hm⟩
 simp_all
def WG (Tg:LI->TxS->LI) (k:ClS):HR:=
 if k.agrees=true then noR k 250 else if k.side≠0\/k.offers=true then noR k 251
 else if ZN k.t k.a0 k.a1 k.least≠0 then noR k (ZN k.t k.a0 k.a1 k.least)
 else ⟨0,13,k.least,Yi Tg k k.least k.side,true,true,k.least,k.agrees,k.fee⟩
theorem ZfS {k:ClS} (h:k.agrees=true):WG Tg k=noR k 250:=by unfold WG;rw [if_pos h]
theorem Z48 {k:ClS} (h:k.agrees=false) (h2:k.side≠0\/k.offers=true):WG Tg k=noR k 251:=by unfold WG;rw [if_neg (by rw [h];decide),if_pos h2]
theorem Z6x {k:ClS} {m:Int} (h:k.agrees=false) (h2:¬(k.side≠0\/k.offers=true)) (he:ZN k.t k.a0 k.a1 k.least=m) (hm:m≠0):WG Tg k=noR k m:=by
 unfold WG;rw [if_neg (by rw [h];decide),if_neg h2,if_pos (by rw [he];exact hm),he]
theorem Z9L {k:ClS} (h:k.agrees=false) (h2:¬(k.side≠0\/k.offers=true)) (he:ZN k.t k.a0 k.a1 k.least=0):WG Tg k=⟨0,13,k.least,Yi Tg k k.least k.side,true,true,k.least,k.agrees,k.fee⟩:=by
 unfold WG;rw [if_neg (by rw [h];decide),if_neg h2,if_neg (fun q=>q he)]
theorem Zla (Tg:LI->TxS->LI) (k:ClS) (e kd am:Int) (tg:LI) (sy of:Bool) (la:Int) (ag:Bool) (fe:Int) (hk:XN k) (hR:WG Tg k=⟨e,kd,am,tg,sy,of,la,ag,fe⟩):
  evF (G0.withF 32 (Ziu Tg)) 20 12 [.ptr (some ⟨0,0,0,0,0⟩)] ⟨1,[(0,.flat (clT k k.side k.offers k.last k.agrees k.fee))]⟩ (ZK 1 (.ret (.tuple [.agg (sdC kd am tg),.int .i64 e])) 1 [(0,.flat (clT k k.side of la ag fe))]):=by
 refine @Eq.mpr _ (let v:=k.agrees;let g:=decide (0=kd);let d:=decide (0=am);let a:=k.t;let l:=a.fund;let x:=l=l;let i:=a.index;let w:=decide (i=i);let h:=a.cap;let J:=decide (h=h);let u:=a.dust;let I:=decide (u=u);let s:=a.fee;let H:=decide (s=s);let r:=a.delay;let G:=decide (r=r);let q:=a.k0;let F:=q=q;let p:=a.k1;let E:=p=p;let f:=k.side;let D:=decide (f=f);let o:=[k.a0,k.a1];let C:=o=o;let b:=k.least;let B:=decide (b=b);let n:=k.most;let A:=decide (n=n);let m:=k.offers;let z:=Z0 (decide (v=ag)) (Z0 (decide (k.fee=fe)) True False) False;let c:=x/\Z0 w (Z0 J (Z0 I (Z0 H (Z0 G (F/\E/\Z0 D (C/\Z0 B (Z0 A (Z0 (decide (m=of)) (Z0 (decide (k.last=la)) z False) False) False) False) False) False) False) False) False) False;let y:=Z0 g (Z5=Z5/\Z5=Z5/\Z5=Z5/\Z0 d (Z5=Z5/\Z5=Z5/\Z5=Z5/\Z5=Z5/\Z5=tg/\Z5=Z5/\ByteArray.empty=ByteArray.empty/\Z0 (decide (251=e)) c False) False) False;
 Z0 v (Z0 g (Z5=Z5/\Z5=Z5/\Z5=Z5/\Z0 d (Z5=Z5/\Z5=Z5/\Z5=Z5/\Z5=Z5/\Z5=tg/\Z5=Z5/\ByteArray.empty=ByteArray.empty/\Z0 (decide (250=e)) c False) False) False)
 (Z0 (f !=0) y
 (Z0 m y
 (∃(k_1:ClS),
 let j:=ZN k_1.t k_1.a0 k_1.a1 b;
 X7 [AV.arr u8 32 l,AV.int i64 i,AV.int i64 h,AV.int i64 u,AV.int i64 s,AV.int i64 r,AV.arr u8 32 q,AV.arr u8 32 p,AV.int i64 f,AV.arr i64 2 o,AV.int i64 b,AV.int i64 n,AV.bool m,AV.int i64 k.last,AV.bool v,AV.int i64 k.fee,AV.bool true] k_1/\
 XN k_1/\
 (j=0->Z0 (decide (13=kd)) (Z5=Z5/\Z5=Z5/\Z5=Z5/\Z0 (decide (b=am)) (Z5=Z5/\Z5=Z5/\Z5=Z5/\Z5=Z5/\Yi Tg k_1 b k_1.side=tg/\Z5=Z5/\ByteArray.empty=ByteArray.empty/\Z0 (decide (0=e)) (x/\Z0 w (Z0 J (Z0 I (Z0 H (Z0 G (F/\E/\Z0 D (C/\Z0 B (Z0 A (Z0 (decide (true=of)) (Z0 (decide (b=la)) z False) False) False) False) False) False) False) False) False) False) False) False) False)/\
 (j=2->Z0 g (Z5=Z5/\Z5=Z5/\Z5=Z5/\Z0 d (Z5=Z5/\Z5=Z5/\Z5=Z5/\Z5=Z5/\Z5=tg/\Z5=Z5/\ByteArray.empty=ByteArray.empty/\Z0 (decide (2=e)) c False) False) False)/\(j=180->Z0 g (Z5=Z5/\Z5=Z5/\Z5=Z5/\Z0 d (Z5=Z5/\Z5=Z5/\Z5=Z5/\Z5=Z5/\Z5=tg/\Z5=Z5/\ByteArray.empty=ByteArray.empty/\Z0 (decide (180=e)) c False) False) False))))) (by kernel_rfl) ?_
 conv=>zeta
 try simp only [Zc]
 try simp only [Zl]
 try simp only [Zg]
 try simp only [Zm]
 try simp only [Zn]
 try simp only [Zh]
 try simp only [true_and,and_true]
 refine ⟨fun hg=> ?_,fun hg=>⟨fun hs=> ?_,fun hs=>⟨fun ho=> ?_,fun ho=> ?_⟩⟩⟩
 ·cases hR.symm.trans (ZfS hg)
  and_intros<;>rfl
 ·cases hR.symm.trans (Z48 hg (.inl (bne_iff_ne.1 hs)))
  and_intros<;>rfl
 ·cases hR.symm.trans (Z48 hg (.inr ho))
  and_intros<;>rfl
 have hq:¬(k.side≠0\/k.offers=true):=by
  simp_all
 refine ⟨k,⟨rfl⟩,hk,fun hE=> ?_,fun hE=> ?_,fun hE=> ?_⟩
 ·cases hR.symm.trans (Z9L hg hq hE)
  and_intros<;>rfl
 ·cases hR.symm.trans (Z6x hg hq hE (by decide))
  and_intros<;>rfl
 ·cases hR.symm.trans (Z6x hg hq hE (by decide))
  and_intros<;>rfl
theorem Zq9 (Tg:LI->TxS->LI) (k:ClS) (e kd am:Int) (tg:LI) (sy of:Bool) (la:Int) (ag:Bool) (fe:Int) (hk:XN k) (hR:WG Tg k=⟨e,kd,am,tg,sy,of,la,ag,fe⟩):
  evF (G0.withP 70 (ZfK Tg)) 20 60 [.agg (clU k k.side k.offers k.last k.agrees k.fee)] ⟨0,[]⟩ (ZK 0 (.ret (.tuple [.agg (clU k k.side of la ag fe),.agg (sdC kd am tg),.int .i64 e])) 0 []):=by
 refine @Eq.mpr _ (let L:=k.agrees;let a:=k.t;let D:=a.fund;let g:=D=D;let C:=a.index;let f:=decide (C=C);let A:=a.cap;let d:=decide (A=A);let y:=a.dust;let s:=decide (y=y);let K:=a.fee;let r:=decide (K=K);let J:=a.delay;let q:=decide (J=J);let I:=a.k0;let p:=I=I;let H:=a.k1;let o:=H=H;let c:=k.side;let n:=decide (c=c);let G:=[k.a0,k.a1];let m:=G=G;let b:=k.least;let l:=decide (b=b);let F:=k.most;let j:=decide (F=F);let E:=k.offers;let x:=decide (E=of);let w:=decide (k.last=la);let i:=decide (L=ag);let h:=decide (k.fee=fe);let v:=decide (0=kd);let u:=decide (0=am);let M:=g/\Z0 f (Z0 d (Z0 s (Z0 r (Z0 q (p/\o/\Z0 n (m/\Z0 l (Z0 j (Z0 x (Z0 w (Z0 i (Z0 h (Z0 v (Z5=Z5/\Z5=Z5/\Z5=Z5/\Z0 u (Z5=Z5/\Z5=Z5/\Z5=Z5/\Z5=Z5/\Z5=tg/\Z5=Z5/\ByteArray.empty=ByteArray.empty/\Z0 (decide (251=e)) True False) False) False) False) False) False) False) False) False) False) False) False) False) False) False;
 Z0 L (g/\Z0 f (Z0 d (Z0 s (Z0 r (Z0 q (p/\o/\Z0 n (m/\Z0 l (Z0 j (Z0 x (Z0 w (Z0 i (Z0 h (Z0 v (Z5=Z5/\Z5=Z5/\Z5=Z5/\Z0 u (Z5=Z5/\Z5=Z5/\Z5=Z5/\Z5=Z5/\Z5=tg/\Z5=Z5/\ByteArray.empty=ByteArray.empty/\Z0 (decide (250=e)) True False) False) False) False) False) False) False) False) False) False) False) False) False) False) False)
 (Z0 (c !=0) M
 (Z0 E M
 (∃(k_1:ClS),
 let B:=ZN k_1.t k_1.a0 k_1.a1 b;let z:=Yi Tg k_1 b c;
 Yv [AV.arr u8 32 D,AV.int i64 C,AV.int i64 A,AV.int i64 y,AV.int i64 K,AV.int i64 J,AV.arr u8 32 I,AV.arr u8 32 H,AV.int i64 c,AV.arr i64 2 G,AV.int i64 b,AV.int i64 F,AV.bool E,AV.int i64 k.last,AV.bool L,AV.int i64 k.fee] k_1/\
 (Zp.All k_1.t/\k_1.a0<9223372036854775808/\(c=0\/c=1))/\
 (B=2->g/\Z0 f (Z0 d (Z0 s (Z0 r (Z0 q (p/\o/\Z0 n (m/\Z0 l (Z0 j (Z0 x (Z0 w (Z0 i (Z0 h (Z0 v (Z5=Z5/\Z5=Z5/\Z5=Z5/\Z0 u (Z5=Z5/\Z5=Z5/\Z5=Z5/\Z5=Z5/\Z5=tg/\Z5=Z5/\ByteArray.empty=ByteArray.empty/\Z0 (decide (2=e)) True False) False) False) False) False) False) False) False) False) False) False) False) False) False) False)/\
 (B=180->g/\Z0 f (Z0 d (Z0 s (Z0 r (Z0 q (p/\o/\Z0 n (m/\Z0 l (Z0 j (Z0 x (Z0 w (Z0 i (Z0 h (Z0 v (Z5=Z5/\Z5=Z5/\Z5=Z5/\Z0 u (Z5=Z5/\Z5=Z5/\Z5=Z5/\Z5=Z5/\Z5=tg/\Z5=Z5/\ByteArray.empty=ByteArray.empty/\Z0 (decide (180=e)) True False) False) False) False) False) False) False) False) False) False) False) False) False) False) False)/\
 (B=0->z=z/\g/\Z0 f (Z0 d (Z0 s (Z0 r (Z0 q (p/\o/\Z0 n (m/\Z0 l (Z0 j (Z0 (decide (true=of)) (Z0 (decide (b=la)) (Z0 i (Z0 h (Z0 (decide (13=kd)) (Z5=Z5/\Z5=Z5/\Z5=Z5/\Z0 (decide (b=am)) (Z5=Z5/\Z5=Z5/\Z5=Z5/\Z5=Z5/\z=tg/\Z5=Z5/\ByteArray.empty=ByteArray.empty/\Z0 (decide (0=e)) True False) False) False) False) False) False) False) False) False) False) False) False) False) False) False))))) (by kernel_rfl) ?_
 conv=>zeta
 try simp only [Zc]
 try simp only [Zl]
 try simp only [Zg]
 try simp only [Zm]
 try simp only [Zn]
 try simp only [Zh]
 try simp only [true_and,and_true]
 refine ⟨fun hg=> ?_,fun hg=>⟨fun hs=> ?_,fun hs=>⟨fun ho=> ?_,fun ho=> ?_⟩⟩⟩
 ·cases hR.symm.trans (ZfS hg)
  and_intros<;>rfl
 ·cases hR.symm.trans (Z48 hg (.inl (bne_iff_ne.1 hs)))
  and_intros<;>rfl
 ·cases hR.symm.trans (Z48 hg (.inr ho))
  and_intros<;>rfl
 have hq:¬(k.side≠0\/k.offers=true):=by
  simp_all
 refine ⟨k,⟨rfl⟩,⟨hk.t,hk.a,hk.s⟩,fun hE=> ?_,fun hE=> ?_,fun hE=> ?_⟩
 ·cases hR.symm.trans (Z6x hg hq hE (by decide))
  and_intros<;>rfl
 ·cases hR.symm.trans (Z6x hg hq hE (by decide))
  and_intros<;>rfl
 grind [Z9L]
def Zlb (Tg:LI->TxS->LI):ZQ:=fun args h K=>match args with
 | [.ptr (some ⟨x,0,0,0,0⟩)]=>frA [x] h 40 args fun Bs a=>match Bs,a with
  | [.flat cs],[.ptr (some ⟨0,0,0,0,0⟩)]=>∃k,X7 cs k/\XN k/\∀r,r=WG Tg k->K (.ret (.tuple [.agg (sdC r.kd r.am r.tg),.int .i64 r.e])) ⟨h.next,(x,.flat (clT k k.side r.of r.la r.ag r.fe))::Yc h.bs x⟩
  | _,_=>False
 | _=>False
theorem ZiA (args:List AV) (h:Z8) (K:KO) (hl:Zlb ZC args h K):Zd PP 12 args h K:=by
 unfold Zlb at hl
 split at hl
 ·refine Spec.fsumm hl fun Bs a hlen hK0=> ?_
  split at hK0
  ·obtain ⟨k,⟨rfl⟩,hk,hK⟩:=hK0
   exact ⟨_,_,_,_,_,.evM (Za.withF_ok Zr Z6w) (Zla ZC k _ _ _ _ _ _ _ _ _ hk rfl),by simp,.ret _ _ rfl,.cons _ _ _ _ _ _ rfl (.flat _ _ rfl) .nil,hK _ rfl⟩
  simp_all
 simp_all
def Zjh (Tg:LI->TxS->LI):ZF:=fun args h K=>ZG none h true 40 args fun x=>match x with
 | [.agg cs]=>∃k,Yv cs k/\XN k/\∀r,r=WG Tg k->K (.tuple [.agg (clU k k.side r.of r.la r.ag r.fe),.agg (sdC r.kd r.am r.tg),.int .i64 r.e])
 | _=>False
theorem ZfT (args:List AV) (h:Z8) (K:AV->Prop) (hl:Zjh ZC args h K):Zd PP 60 args h fun o h'=>∃v,o=.ret v/\h'=h/\K v:=by
 refine Zx.psumm (d:=40) (Zq _ _ _ _ _ hl fun a ha=> ?_)
 split at ha
 ·obtain ⟨k,⟨rfl⟩,hk,hK⟩:=ha
  exact ⟨_,.evM (Za.withP_ok Zr Z7T) (Zq9 ZC k _ _ _ _ _ _ _ _ _ hk rfl),fun _=>rfl,hK _ rfl⟩
 simp_all
noncomputable def Zlc (A:LI->Int×Int) (Tg:LI->TxS->LI):Za:=(G0.withF 42 (clF A)).withF 43 (Zj6 A Tg)
noncomputable def ZfU (A:LI->Int×Int) (Tg:LI->TxS->LI):Za:=(G0.withF 61 (clF A)).withF 120 (Zj7 A Tg)
def ctG (Tg:LI->TxS->LI) (k:ClS):Nat->InS:=Z4n Tg (txC k.t k.a0 k.a1 k.fee) k.t.k0 k.t.k1 1
def txV (b n:Nat):AV:=.agg [.int .i64 2147483647,.nslice ⟨b,0,130,0,0⟩ 130 1 1,.nslice ⟨b+1,0,132,0,0⟩ 132 n n]
theorem ZoF (A:LI->Int×Int) (Tg:LI->TxS->LI) (k:ClS) (n:Nat) (L:List Z9) (g:Nat->InS) (hA:A=ZJ) (ht:k.t.All) (hE:ZN k.t k.a0 k.a1 k.fee=0) (ha:k.a0<9223372036854775808) (hL:L=ZW (clL k.t k.a0 k.a1 k.fee)) (hn:n=L.length) (hg:g=ctG Tg k):
  evF (Zlc A Tg) 20 15 [.ptr (some ⟨0,0,0,0,0⟩)] ⟨1,[(0,.flat (clT k k.side k.offers k.last true k.fee))]⟩ (ZK 1 (.ret (.tuple [txV 1 n,.int .i64 0])) 3 [(0,.flat (clT k k.side k.offers k.last true k.fee)),(1,.rows 130 1 (Zj g)),(2,.rows 132 n (Zi (Y4 L)))]):=by
 refine @Eq.mpr _ (let e:=k.t;let o:=e.fund;let m:=e.index;let u:=e.cap;let s:=e.dust;let r:=e.fee;let q:=e.delay;let j:=e.k0;let h:=e.k1;let x:=Zp.mk o m u s r q j h;let w:=[k.a0,k.a1];let p:=k.fee;let f:=InS.mk o m 1 Z5 Z5 Z5;let D:=[(2,6),(1,5)];
 Zp.Ok x/\
 ∃(a:Int),
 ∃(b:Int),
 let C:=clB A x a b p;let B:=clL x a b p;
 w=[a,b]/\
 a<9223372036854775808/\
 (C=false->False)/\
 (C=true->
 (B.length=0->False)/\
 ∀(n_1:Nat) (L_1:List Z9),
 L_1=ZW B->
 n_1=L_1.length->
 n_1≠0->
 Z0 (decide (0+n_1<=n_1))
 ((∀(i:Nat),i<n_1->true=true)/\
 ∃(t:TxS),
 let l:=t.N;let v:=t.M;let z:=decide (l=1);let y:=decide (v=n);
 (t.num=2147483647/\
 (((1:Nat)=1/\l=1)/\∀(i:Nat),i<1->Yg [AV.arr u8 32 f.name,AV.int i64 f.index,AV.int i64 f.way,AV.arr u8 32 f.tag,AV.arr u8 32 f.also,AV.arr u8 32 f.secret] 0 130 i=InS.c (t.ins i))/\
 (n_1=n_1/\v=n_1)/\
 ∀(i:Nat),
 let d:=Y4 L_1 i;
 i<n_1->[AV.int i64 d.kind,AV.int i64 d.amount,AV.arr u8 32 d.owner,AV.arr u8 32 d.other,AV.arr u8 32 d.point,AV.arr u8 32 d.hash,AV.int i64 d.delay,AV.int i64 d.expiry]=ZM.c (t.outs i))/\
 (TxS.Ok t/\j.length=32/\h.length=32)/\(Yp A t=false->False)/\(Yp A t=true->Z0 (decide (t.num=2147483647)) (Z0 z (Z0 (decide (1<=l)) (Z0 y (Z0 (decide (n<=v)) (o=o/\Z0 (decide (m=m)) (Z0 (decide (u=u)) (Z0 (decide (s=s)) (Z0 (decide (r=r)) (Z0 (decide (q=q)) (j=j/\h=h/\Z0 (decide (k.side=k.side)) (w=w/\Z0 (decide (k.least=k.least)) (Z0 (decide (k.most=k.most)) (Z0 (decide (k.offers=k.offers)) (Z0 (decide (k.last=k.last)) (Z0 (decide (p=p)) (Z0 z (Zu 1 D 1 (Zj g) (Zj (Z4n Tg t j h l))/\Z0 y (Zu 1 D n (Zi (Y4 L)) (Zi t.outs)/\True) False) False) False) False) False) False) False) False) False) False) False) False) False) False) False) False) False) False))
 False)) (by kernel_rfl) ?_
 conv=>zeta
 try simp only [Zc]
 try simp only [Zl]
 try simp only [Zg]
 try simp only [Zm]
 try simp only [Zn]
 try simp only [Zh]
 try simp only [Jf,true_and,and_true,J2]
 subst hA
 obtain ⟨hb,hz⟩:=Z9C hE
 have hck:=Vf hE
 refine ⟨ht.ok,k.a0,k.a1,rfl,ha,fun h=>absurd (hb.symm.trans h) (by decide),fun _=>⟨fun h=>absurd h hz,fun n1 L1 hL1 hn1 hn0=>⟨fun _ _=>trivial,txC k.t k.a0 k.a1 k.fee,⟨rfl,⟨rfl,fun i hi=>VM _ i hi⟩, ?_,fun i _=> ?_⟩,⟨WF ht.ok ht.fl,ht.ok.k0,ht.ok.k1⟩,fun h=>absurd (hck.symm.trans h) (by decide),fun _=> ?_⟩⟩⟩
 ·subst hn1 hL1;rfl
 ·subst hL1;rfl
 ·subst hn hL hg
  exact ⟨rfl,rfl,J2 _,rfl,J2 _,rfl,Yl fun _ _=>rfl,rfl,ZS fun _ _=>rfl⟩
theorem ZoG (A:LI->Int×Int) (Tg:LI->TxS->LI) (k:ClS) :
  evF (Zlc A Tg) 20 15 [.ptr (some ⟨0,0,0,0,0⟩)] ⟨1,[(0,.flat (clT k k.side k.offers k.last false k.fee))]⟩ (ZK 1 (.ret (.tuple [.agg txZ,.int .i64 5])) 1 [(0,.flat (clT k k.side k.offers k.last false k.fee))]):=by
 refine @Eq.mpr _ (let a:=k.t;let i:=a.fund;let h:=a.index;let g:=a.cap;let f:=a.dust;let e:=a.fee;let d:=a.delay;let c:=a.k0;let b:=a.k1;let j:=[k.a0,k.a1];
 i=i/\Z0 (decide (h=h)) (Z0 (decide (g=g)) (Z0 (decide (f=f)) (Z0 (decide (e=e)) (Z0 (decide (d=d)) (c=c/\b=b/\Z0 (decide (k.side=k.side)) (j=j/\Z0 (decide (k.least=k.least)) (Z0 (decide (k.most=k.most)) (Z0 (decide (k.offers=k.offers)) (Z0 (decide (k.last=k.last)) (Z0 (decide (k.fee=k.fee)) True False) False) False) False) False) False) False) False) False) False) False) (by kernel_rfl) ?_
 conv=>zeta
 try simp only [Zc]
 try simp only [Zl]
 try simp only [Zg]
 try simp only [Zm]
 try simp only [Zn]
 try simp only [Zh]
 try simp_all
theorem ZoH (A:LI->Int×Int) (Tg:LI->TxS->LI) (k:ClS) (n:Nat) (L:List Z9) (g:Nat->InS) (hA:A=ZJ) (ht:k.t.All) (hE:ZN k.t k.a0 k.a1 k.fee=0) (ha:k.a0<9223372036854775808) (hL:L=ZW (clL k.t k.a0 k.a1 k.fee)) (hn:n=L.length) (hg:g=ctG Tg k):
  evF (ZfU A Tg) 20 58 [.agg (clU k k.side k.offers k.last true k.fee)] ⟨0,[]⟩ (ZK 0 (.ret (.tuple [txV 0 n,.int .i64 0])) 2 [(0,.rows 130 1 (Zj g)),(1,.rows 132 n (Zi (Y4 L)))]):=by
 refine @Eq.mpr _ (let e:=k.t;let x:=e.fund;let u:=e.index;let h:=e.k0;let f:=e.k1;let l:=Zp.mk x u e.cap e.dust e.fee e.delay h f;let q:=k.fee;let p:=[(1,4),(0,3)];let o:=Zi (Y4 L);let z:=∃(t:TxS),(t.num=0/\t.N=0/\t.M=0)/\(TxS.Ok t/\Z00 t/\(h.length=32/\f.length=32)/\Bytes h/\Bytes f)/\(Yp A t=false->False)/\(Yp A t=true->Z0 (decide (t.num=2147483647)) (Z0 (decide (t.N=1)) (Z0 (decide (1<=t.N)) (Z0 (decide (t.M=n)) (Z0 (decide (n<=t.M)) (Z0 (decide (t.N=1)) (Zu 0 p 1 (Zj g) (Zj (Z7K Tg t h f).ins)/\Z0 (decide (t.M=n)) (Zu 0 p n o (Zi t.outs)/\True) False) False) False) False) False) False) False);let j:=InS.mk x u 1 Z5 Z5 Z5;let y:=[(1,6),(0,5)];
 Zp.Ok l/\
 ∃(a:Int),
 ∃(b:Int),
 let w:=clB A l a b q;let v:=clL l a b q;
 [k.a0,k.a1]=[a,b]/\
 a<9223372036854775808/\
 (w=false->z)/\
 (w=true->
 (v.length=0->z)/\
 ∀(n_1:Nat) (L:List Z9),
 L=ZW v->
 n_1=L.length->
 n_1≠0->
 Z0 (decide (0+n_1<=n_1))
 ((∀(i:Nat),i<n_1->true=true)/\
 ∃(t:TxS),
 let m:=t.M;let s:=decide (t.N=1);let r:=decide (m=n);
 (t.num=2147483647/\
 (((1:Nat)=1/\t.N=1)/\∀(i:Nat),i<1->Yg [AV.arr u8 32 j.name,AV.int i64 j.index,AV.int i64 j.way,AV.arr u8 32 j.tag,AV.arr u8 32 j.also,AV.arr u8 32 j.secret] 0 130 i=InS.c (t.ins i))/\
 (n_1=n_1/\m=n_1)/\
 ∀(i:Nat),
 let d:=Y4 L i;
 i<n_1->[AV.int i64 d.kind,AV.int i64 d.amount,AV.arr u8 32 d.owner,AV.arr u8 32 d.other,AV.arr u8 32 d.point,AV.arr u8 32 d.hash,AV.int i64 d.delay,AV.int i64 d.expiry]=ZM.c (t.outs i))/\
 (TxS.Ok t/\Z00 t/\(h.length=32/\f.length=32)/\Bytes h/\Bytes f)/\(Yp A t=false->False)/\(Yp A t=true->Z0 (decide (t.num=2147483647)) (Z0 s (Z0 (decide (1<=t.N)) (Z0 r (Z0 (decide (n<=m)) (Z0 s (Zu 0 y 1 (Zj g) (Zj (Z7K Tg t h f).ins)/\Z0 r (Zu 0 y n o (Zi t.outs)/\True) False) False) False) False) False) False) False))
 False)) (by kernel_rfl) ?_
 conv=>zeta
 try simp only [Zc]
 try simp only [Zl]
 try simp only [Zg]
 try simp only [Zm]
 try simp only [Zn]
 try simp only [Zh]
 try simp only [Jf,true_and,and_true,J2]
 subst hA
 obtain ⟨hb,hz⟩:=Z9C hE
 have hck:=Vf hE
 refine ⟨ht.ok,k.a0,k.a1,rfl,ha,(fun h=>absurd (hb.symm.trans h) (by decide)),fun _=>⟨(fun h=>absurd h hz),fun n1 L1 hL1 hn1 hn0=>⟨fun _ _=>trivial,txC k.t k.a0 k.a1 k.fee,⟨rfl,⟨rfl,fun i hi=>VM _ i hi⟩, ?_,fun i _=> ?_⟩,⟨WF ht.ok ht.fl,ZaW ht,⟨ht.ok.k0,ht.ok.k1⟩,ht.ok.b0,ht.ok.b1⟩,fun h=>absurd (hck.symm.trans h) (by decide),fun _=> ?_⟩⟩⟩
 ·subst hn1 hL1;rfl
 ·subst hL1;rfl
 ·subst hn hL hg
  exact ⟨rfl,rfl,J2 _,rfl,J2 _,rfl,Yl fun i hi=>congrArg InS.c (if_pos hi).symm,rfl,ZS fun _ _=>rfl⟩
theorem ZoI (A:LI->Int×Int) (Tg:LI->TxS->LI) (k:ClS) :
  evF (ZfU A Tg) 20 58 [.agg (clU k k.side k.offers k.last false k.fee)] ⟨0,[]⟩ (ZK 0 (.ret (.tuple [.agg txZ,.int .i64 5])) 0 []):=by
 refine @Eq.mpr _ (True) (by kernel_rfl) ?_
 trivial
structure TxK (k:ClS):Prop where
 t:k.t.All
 a:k.a0<9223372036854775808
def ZfV (cs:List AV) (i:Nat):AV:=cs.getD i .top
def ZiB (Tg:LI->TxS->LI):ZQ:=fun args h K=>match args with
 | [.ptr (some ⟨x,0,0,0,0⟩)]=>frA [x] h 40 args fun Bs a=>match Bs,a with
  | [.flat cs],[.ptr (some ⟨0,0,0,0,0⟩)]=>∃k,X7 cs k/\TxK k/\(match ZfV cs 14 with
   | .bool true=>ZN k.t k.a0 k.a1 k.fee=0/\∀n L,L=ZW (clL k.t k.a0 k.a1 k.fee)->n=L.length->n<=2->K (.ret (.tuple [txV h.next n,.int .i64 0])) ⟨h.next+2,(x,.flat cs)::(h.next,.rows 130 1 (Zj (ctG Tg k)))::(h.next+1,.rows 132 n (Zi (Y4 L)))::Yc h.bs x⟩
   | .bool false=>K (.ret (.tuple [.agg txZ,.int .i64 5])) ⟨h.next,(x,.flat cs)::Yc h.bs x⟩
   | _=>False)
  | _,_=>False
 | _=>False
theorem Zb6 (args:List AV) (h:Z8) (K:KO) (hl:ZiB ZC args h K):Zd PP 15 args h K:=by
 have hE:(Zlc ZJ ZC).Ok:=Za.withF_ok (Za.withF_ok Zr Z9y) Zfa
 unfold ZiB at hl
 split at hl
 ·refine Spec.fsumm hl fun Bs a hlen hK0=> ?_
  split at hK0
  ·obtain ⟨k,⟨rfl⟩,⟨ht,ha⟩,hm⟩:=hK0
   obtain ⟨t,sd,a0,a1,le,mo,o0,l0,g0,f0⟩:=k
   cases g0 with
   | true=>
    obtain ⟨he,hK⟩:ZN t a0 a1 f0=0/\_:=hm
    have h2:(ZW (clL t a0 a1 f0)).length<=2:=by rw [X5];exact Z2u
    exact ⟨_,_,_,_,_,.evM hE (ZoF _ ZC ⟨t,sd,a0,a1,le,mo,o0,l0,true,f0⟩ _ _ _ rfl ht he ha rfl rfl rfl),by simp,.ret _ _ rfl,.cons _ _ _ _ _ _ rfl (.flat _ _ rfl) (.cons _ _ _ _ _ _ rfl (.rows _ _ _ (fun _ _=>rfl)) (.cons _ _ _ _ _ _ rfl (.rows _ _ _ (fun _ _=>rfl)) .nil)),hK _ _ rfl rfl h2⟩
   | false=>exact ⟨_,_,_,_,_,.evM hE (ZoG _ ZC ⟨t,sd,a0,a1,le,mo,o0,l0,false,f0⟩),by simp,.ret _ _ rfl,.cons _ _ _ _ _ _ rfl (.flat _ _ rfl) .nil,hm⟩
  simp_all
 simp_all
def ZoJ (Tg:LI->TxS->LI):ZQ:=fun args h K=>ZG none h true 40 args fun x=>match x with
 | [.agg cs]=>∃k,Yv cs k/\TxK k/\(match ZfV cs 14 with
   | .bool true=>ZN k.t k.a0 k.a1 k.fee=0/\∀n L,L=ZW (clL k.t k.a0 k.a1 k.fee)->n=L.length->n<=2->K (.ret (.tuple [txV h.next n,.int .i64 0])) ⟨h.next+2,(h.next,.rows 130 1 (Zj (ctG Tg k)))::(h.next+1,.rows 132 n (Zi (Y4 L)))::h.bs⟩
   | .bool false=>K (.ret (.tuple [.agg txZ,.int .i64 5])) h
   | _=>False)
 | _=>False
theorem ZiC (args:List AV) (h:Z8) (K:KO) (hl:ZoJ ZC args h K):Zd PP 58 args h K:=by
 have hE:(ZfU ZJ ZC).Ok:=Za.withF_ok (Za.withF_ok Zr Z6o) Zfd
 refine Zx.fsumm (d:=40) (Zq _ _ _ _ _ hl fun a ha=> ?_)
 split at ha
 ·obtain ⟨k,⟨rfl⟩,⟨ht,ha⟩,hm⟩:=ha
  obtain ⟨t,sd,a0,a1,le,mo,o0,l0,g0,f0⟩:=k
  cases g0 with
  | true=>
   obtain ⟨he,hK⟩:ZN t a0 a1 f0=0/\_:=hm
   have h2:(ZW (clL t a0 a1 f0)).length<=2:=by rw [X5];exact Z2u
   exact ⟨_,_,_,_,.evM hE (ZoH _ ZC ⟨t,sd,a0,a1,le,mo,o0,l0,true,f0⟩ _ _ _ rfl ht he ha rfl rfl rfl),rfl,⟨by decide,.rows _ _ _ (fun i _=>(ctG ZC _ i).plainC),by decide,.rows _ _ _ (fun i _=>(Y4 _ i).plainC),trivial⟩,hK _ _ rfl rfl h2⟩
  | false=>exact ⟨_,_,_,_,.evM hE (ZoI _ ZC ⟨t,sd,a0,a1,le,mo,o0,l0,false,f0⟩),rfl,trivial,hm⟩
 simp_all
def ZfW (SB:Zo->Bool) (M:Int->Int->Int) (Tg:LI->TxS->LI):ZQ:=fun args h K=>match args with
 | [.ptr (some ⟨x,0,0,0,0⟩),_]=>frA [x] h 60 args fun Bs a=>match Bs,a with
  | [.flat cs],[.ptr (some ⟨0,0,0,0,0⟩),.agg ss]=>∃k s,X7 cs k/\XO ss s/\(Y0 k/\k.t.All)/\s.Len/\
   ∀r,r=Ya SB M Tg k s->K (.ret (.tuple [.agg (sdC r.kd r.am r.tg),.bool r.sy,.int .i64 r.e])) ⟨h.next,(x,.flat (clT k k.side r.of r.la r.ag r.fe))::Yc h.bs x⟩
  | _,_=>False
 | _=>False
theorem Z2z {s:Zo} (h:WQ s=true):0<=s.amount/\s.amount<=1125899906842624:=by
 have:=(Qm.1 h).w
 exact ⟨this.i,this.j⟩
theorem ZfX (args:List AV) (h:Z8) (K:KO) (hl:ZfW WQ Xe ZC args h K):Zd PP 13 args h K:=by
 unfold ZfW at hl
 split at hl
 ·refine Spec.fsumm hl fun Bs a hlen hK0=> ?_
  split at hK0
  ·obtain ⟨k,s,⟨rfl⟩,⟨rfl⟩,⟨hk,ht⟩,hs,hK⟩:=hK0
   exact ⟨_,_,_,_,_,Z1K Z9I hk ht hs Z2z rfl,by simp,.ret _ _ rfl,.cons _ _ _ _ _ _ rfl (.flat _ _ rfl) .nil,hK _ rfl⟩
  simp_all
 simp_all
def Zji (n:Int):LI:=n::List.replicate 31 0
def Z4o:Zp:=⟨Z5,0,1000,10,5,3,Zji 1,Zji 2⟩
def ZoK (A:LI->Int×Int):ZQ:=fun args h K=>ZG none h true 40 args fun x=>match x with
 | [.agg cs,.int .i64 sd,.agg [.arr .i64 2 ab],.int .i64 lo,.int .i64 hi]=>∃t a b,ZcC cs t/\ab=[a,b]/\t.Ok/\(match decide (lo<=hi) with
  | true=>Ym A (k0C t sd a b lo hi)=true/\K (.ret (.tuple [.ptr (some ⟨h.next,0,0,0,0⟩),.int .i64 0])) ⟨h.next+1,(h.next,.flat (clT (k0C t sd a b lo hi) sd false 0 false 0))::h.bs⟩
  | false=>Ym A (k0C t sd a b lo hi)=false/\K (.ret (.tuple [.ptr none,.int .i64 2])) h)
 | _=>False
theorem ZiD (args:List AV) (h:Z8) (K:KO) (hl:ZoK ZJ args h K):Zd PP 9 args h K:=ZfR args h K (Zq _ _ _ _ _ hl fun a ha=>by
 grind)
def Zld (Tg:LI->TxS->LI):ZQ:=fun args h K=>match args with
 | [.ptr (some ⟨x,0,0,0,0⟩)]=>frA [x] h 40 args fun Bs a=>match Bs,a with
  | [.flat cs],[.ptr (some ⟨0,0,0,0,0⟩)]=>∃k,X7 cs k/\XN k/\k.agrees=false/\(match ZfV cs 8,ZfV cs 12 with
   | .int .i64 0,.bool false=>ZN k.t k.a0 k.a1 k.least=0/\K (.ret (.tuple [.agg (sdC 13 k.least (Yi Tg k k.least k.side)),.int .i64 0])) ⟨h.next,(x,.flat (Zor cs k.least))::Yc h.bs x⟩
   | .int .i64 _,.bool _=>(k.side≠0\/k.offers=true)/\K (.ret (.tuple [.agg (sdC 0 0 Z5),.int .i64 251])) ⟨h.next,(x,.flat cs)::Yc h.bs x⟩
   | _,_=>False)
  | _,_=>False
 | _=>False
theorem ZiE (args:List AV) (h:Z8) (K:KO) (hl:Zld ZC args h K):Zd PP 12 args h K:=by
 have hE:=Za.withF_ok (f:=32) Zr Z6w
 unfold Zld at hl
 split at hl
 ·refine Spec.fsumm hl fun Bs a hlen hK0=> ?_
  split at hK0
  ·obtain ⟨k,⟨rfl⟩,hk,hg,hm⟩:=hK0
   obtain ⟨t,sd,a0,a1,le,mo,o0,l0,g0,f0⟩:=k
   subst hg
   split at hm
   ·rename_i h8 h12
    obtain ⟨hE0,hK⟩:=hm
    have e1:sd=0:=by cases h8;rfl
    have e2:o0=false:=by cases h12;rfl
    subst e1 e2
    exact ⟨_,_,_,_,_,.evM hE (Zla ZC ⟨t,0,a0,a1,le,mo,false,l0,false,f0⟩ _ _ _ _ _ _ _ _ _ hk (Z9L rfl (by simp) hE0)),by simp,.ret _ _ rfl,.cons _ _ _ _ _ _ rfl (.flat _ _ rfl) .nil,hK⟩
   ·obtain ⟨hso,hK⟩:=hm
    exact ⟨_,_,_,_,_,.evM hE (Zla ZC ⟨t,sd,a0,a1,le,mo,o0,l0,false,f0⟩ _ _ _ _ _ _ _ _ _ hk (Z48 rfl hso)),by simp,.ret _ _ rfl,.cons _ _ _ _ _ _ rfl (.flat _ _ rfl) .nil,hK⟩
   simp_all
  simp_all
 simp_all
def ZfY (SB:Zo->Bool) (Tg:LI->TxS->LI):ZQ:=fun args h K=>match args with
 | [.ptr (some ⟨x,0,0,0,0⟩),_]=>frA [x] h 60 args fun Bs a=>match Bs,a with
  | [.flat cs],[.ptr (some ⟨0,0,0,0,0⟩),.agg ss]=>∃k s,X7 cs k/\XO ss s/\(Y0 k/\k.t.All/\k.agrees=false)/\(s.Len/\SB s=true)/\(match ZfV ss 0 with
   | .int .i64 12=>K (.ret (.tuple [.agg (sdC 0 0 Z5),.bool false,.int .i64 210])) ⟨h.next,(x,.flat cs)::Yc h.bs x⟩
   | .int .i64 13=>(ZN k.t k.a0 k.a1 s.amount=0/\Yi Tg k s.amount (1-k.side)≠s.tag)/\K (.ret (.tuple [.agg (sdC 0 0 Z5),.bool false,.int .i64 221])) ⟨h.next,(x,.flat cs)::Yc h.bs x⟩
   | _=>False)
  | _,_=>False
 | _=>False
theorem ZfZ (args:List AV) (h:Z8) (K:KO) (hl:ZfY WQ ZC args h K):Zd PP 13 args h K:=by
 unfold ZfY at hl
 split at hl
 ·refine Spec.fsumm hl fun Bs a hlen hK0=> ?_
  split at hK0
  ·obtain ⟨k,s,⟨rfl⟩,⟨rfl⟩,⟨hk,ht,hg⟩,⟨hs,hS⟩,hm⟩:=hK0
   split at hm
   ·rename_i h0
    have e:s.kind=12:=by
     have h:AV.int .i64 s.kind=AV.int .i64 12:=h0
     injection h
    exact ⟨_,_,_,_,_,Z1K Z9I hk ht hs Z2z (Ux hS (by rw [e];decide)),by simp,.ret _ _ rfl,.cons _ _ _ _ _ _ rfl (.flat _ _ rfl) .nil,hm⟩
   ·rename_i h0
    have e:s.kind=13:=by
     have h:AV.int .i64 s.kind=AV.int .i64 13:=h0
     injection h
    exact ⟨_,_,_,_,_,Z1K Z9I hk ht hs Z2z (Z19 ⟨hS,e,hg⟩ hm.1.1 hm.1.2),by simp,.ret _ _ rfl,.cons _ _ _ _ _ _ rfl (.flat _ _ rfl) .nil,hm.2⟩
   simp_all
  simp_all
 simp_all
noncomputable def ZoL (A:LI->Int×Int) (SB:Zo->Bool) (Tg:LI->TxS->LI):Za:=(((G0.withF 9 (ZoK A)).withF 12 (Zld Tg)).withF 13 (ZfY SB Tg)).withF 15 (ZiB Tg)
theorem ZiF:(ZoL ZJ WQ ZC).Ok:=Za.withF_ok (Za.withF_ok (Za.withF_ok (Za.withF_ok Zr ZiD) ZiE) ZfZ) Zb6
theorem Z1L (h:∀x∈xs,0<=x/\x<=255):Bytes xs:=⟨fun i=>by
 grind [Ko]⟩
theorem Z1a:Z4o.All:=⟨⟨rfl,rfl,Z1L (by decide),Z1L (by decide)⟩,rfl,Z1L (by decide)⟩
def kA:ClS:=k0C Z4o 1 600 400 0 9
def kB:ClS:=k0C Z4o 0 600 400 3 9
def kC:ClS:=clO kB true 3 false 0
theorem Z9M:XN kA:=⟨Z1a,by decide,.inr rfl⟩
theorem Zle:XN kB:=⟨Z1a,by decide,.inl rfl⟩
theorem Z9N:XN kC:=⟨Z1a,by decide,.inl rfl⟩
theorem Zg0:Y0 kC:=⟨⟨by kernel_rfl,.inl rfl,by decide,by decide,rfl,by decide,by decide,by decide⟩,fun _=>⟨by decide,by decide⟩,(fun h=>nomatch h),(fun h=>nomatch h),fun _=>rfl⟩
theorem VB {kd am:Int} {tg:LI} (h:tg.length=32):(sdN kd am tg).Len:=⟨rfl,rfl,rfl,rfl,rfl,rfl,rfl,h,rfl,Yr⟩
theorem ZoM:WQ (sdN 12 0 Z5)=true:=Qm.2 ⟨⟨by decide,by decide,by decide,by decide,by decide,by decide,by decide,by decide,by decide,by decide⟩,by kernel_rfl,trivial⟩
theorem ZoN:WQ (sdN 13 3 Z5)=true:=Qm.2 ⟨⟨by decide,by decide,by decide,by decide,by decide,by decide,by decide,by decide,by decide,by decide⟩,by kernel_rfl,trivial⟩
theorem ZoO:Yi ZC kC 3 1≠Z5:=fun h=>by
 have e:(Yi ZC kC 3 1==Z5)=false:=by kernel_rfl
 simp_all
theorem Zg1:ZN Z4o 600 400 3=0:=by kernel_rfl
theorem Zqa:Ym ZJ (k0C Z4o 1 600 400 0 9)=true:=by kernel_rfl
theorem Zqb:Ym ZJ (k0C Z4o 0 600 400 3 9)=true:=by kernel_rfl
theorem Zqc:Ym ZJ (k0C Z4o 0 600 400 5 4)=false:=by kernel_rfl
theorem ZoP (A:LI->Int×Int) (SB:Zo->Bool) (Tg:LI->TxS->LI) (hA:A=ZJ) (hSB:SB=WQ) (hT:Tg=ZC):
  evF (ZoL A SB Tg) 40 11 [] ⟨0,[]⟩ (Xr fun v=>v=.bool true):=by
 refine @Eq.mpr _ (let j:=[(600:Int),400];let p:=j=j;let d:=AV.arr u8 32 Z5;let c:=AV.int i64 0;let u:=[(0:Int),0,0,0,0,0,0,0,0,0,0,0,0,0,0,0,0,0,0,0,0,0,0,0,0,0,0,0,0,0,0];let l:=AV.bool false;let i:=AV.bool true;let r:=[l,c,i];let q:=l::c::r;let I:=[d,d,d,d,d,d,c,c,c,c,c,AV.str ByteArray.empty];
 p/\
 ∃(t:Zp),
 let o:=[d,c,AV.int i64 1000,AV.int i64 10,AV.int i64 5,AV.int i64 3,AV.arr u8 32 ((1:Int)::u),AV.arr u8 32 ((2:Int)::u)];
 ∃(a:Int),
 ∃(b:Int),
 let h:=k0C t 1 a b 0 9;let f:=h.t;
 ZcC o t/\
 j=[a,b]/\
 Zp.Ok t/\
 Ym A h=true/\
 ∃(k:ClS),
 let H:=AV.arr u8 32 f.fund::AV.int i64 f.index::AV.int i64 f.cap::AV.int i64 f.dust::AV.int i64 f.fee::AV.int i64 f.delay::AV.arr u8 32 f.k0::AV.arr u8 32 f.k1::AV.int i64 1::AV.arr i64 2 [h.a0,h.a1]::AV.int i64 h.least::AV.int i64 h.most::q;
 X7 H k/\
 XN k/\
 k.agrees=false/\
 (k.side≠0\/k.offers=true)/\
 ∃(k:ClS),
 X7 H k/\
 TxK k/\
 p/\
 ∃(t:Zp),
 ∃(a:Int),
 ∃(b:Int),
 ZcC o t/\
 j=[a,b]/\
 Zp.Ok t/\
 Ym A (k0C t 0 a b 5 4)=false/\
 p/\
 ∃(t:Zp),
 ∃(a:Int),
 ∃(b:Int),
 let g:=k0C t 0 a b 3 9;let e:=g.t;let G:=AV.arr u8 32 e.fund;let F:=AV.int i64 e.index;let E:=AV.int i64 e.cap;let D:=AV.int i64 e.dust;let C:=AV.int i64 e.fee;let B:=AV.int i64 e.delay;let z:=AV.arr u8 32 e.k0;let y:=AV.arr u8 32 e.k1;let x:=AV.arr i64 2 [g.a0,g.a1];let w:=AV.int i64 g.least;let v:=AV.int i64 g.most;
 ZcC o t/\
 j=[a,b]/\
 Zp.Ok t/\
 Ym A g=true/\
 ∃(k:ClS),
 let n:=k.least;let m:=G::F::E::D::C::B::z::y::c::x::w::v::i::AV.int i64 n::r;
 X7 (G::F::E::D::C::B::z::y::c::x::w::v::q) k/\XN k/\k.agrees=false/\ZN k.t k.a0 k.a1 n=0/\∃(k:ClS),X7 m k/\XN k/\k.agrees=false/\(k.side≠0\/k.offers=true)/\∃(k:ClS),∃(s:Zo),X7 m k/\XO (AV.int i64 12::d::c::c::c::c::c::d::d::c::c::I) s/\(Y0 k/\Zp.All k.t/\k.agrees=false)/\(Zo.Len s/\SB s=true)/\∃(k:ClS),∃(s:Zo),X7 m k/\XO (AV.int i64 13::d::c::c::c::c::c::d::d::c::AV.int i64 3::I) s/\(Y0 k/\Zp.All k.t/\k.agrees=false)/\(Zo.Len s/\SB s=true)/\(ZN k.t k.a0 k.a1 s.amount=0/\Yi Tg k s.amount (1-k.side)≠s.tag)/\Z0 (n==3) (i=i) (l=i)) (by kernel_rfl) ?_
 conv=>zeta
 try simp only [Zc]
 try simp only [Zl]
 try simp only [Zg]
 try simp only [Zm]
 try simp only [Zn]
 try simp only [Zh]
 try simp only [true_and,and_true]
 subst hA hSB hT
 have hok:=Z1a.ok
 refine ⟨Z4o,600,400,⟨rfl⟩,rfl,hok,Zqa,kA,⟨rfl⟩,Z9M,rfl,.inl (by decide),kA,⟨rfl⟩,⟨Z9M.t,Z9M.a⟩,Z4o,600,400,⟨rfl⟩,rfl,hok,Zqc,Z4o,600,400,⟨rfl⟩,rfl,hok,Zqb,kB,⟨rfl⟩,Zle,rfl,Zg1,kC,⟨rfl⟩,Z9N,rfl,.inr rfl,kC,sdN 12 0 Z5,⟨rfl⟩,⟨rfl⟩,⟨Zg0,Z9N.t,rfl⟩,⟨VB rfl,ZoM⟩,kC,sdN 13 3 Z5,⟨rfl⟩,⟨rfl⟩,⟨Zg0,Z9N.t,rfl⟩,⟨VB rfl,ZoN⟩,⟨Zg1,ZoO⟩,fun _=>trivial,fun h=> ?_⟩
 exact absurd (show (kB.least==3)=true from rfl) (by rw [h];decide)
def Zg2:ZF:=fun args _ K=>match args with
 | []=>K (.bool true)
 | _=>False
theorem ZiG (args:List AV) (h:Z8) (K:AV->Prop) (hl:Zg2 args h K):Zd PP 11 args h fun o h'=>∃v,o=.ret v/\h'=h/\K v:=by
 unfold Zg2 at hl
 split at hl
 ·exact YD ZiF rfl (ZoP _ _ _ rfl rfl rfl) (fun u hu=>hu▸hl)
 simp_all
noncomputable def Zlf (W:Int->LI) (Tg:LI->TxS->LI) (F:TxS->TxS->Bool):Za:=((((G0.withF 15 (ZiB Tg)).withF 58 (ZoJ Tg)).withP 59 (Zek F)).withF 21 (ZfO W)).withF 28 (ZfQ W)
theorem Zb7:(Zlf Zt ZC Vw).Ok:=Za.withF_ok (Za.withF_ok (Za.withP_ok (Za.withF_ok (Za.withF_ok Zr Zb6) ZiC) Zer) ZfP) Z7W
theorem Z5s (t:TxS):Vw t t=true:=by
 unfold Vw Z9a ZbX
 simp [Z3G,Qc]
def ctT (Tg:LI->TxS->LI) (k:ClS) (n:Nat) (L:List Z9):TxS:=⟨2147483647,1,ctG Tg k,n,Y4 L⟩
theorem Zlg {k:ClS} {n:Nat} {L:List Z9} (hT:∀a t,(Tg a t).length=32) (ht:k.t.All) (hL:L=ZW (clL k.t k.a0 k.a1 k.fee)) (hn:n=L.length):(ctT Tg k n L).Ok:=by
 have h0:=WF (a:=k.a0) (b:=k.a1) (fee:=k.fee) ht.ok ht.fl
 subst hn hL
 refine ⟨by show (1:Nat)<_;decide,h0.m,fun i hi=> ?_,h0.outs⟩
 have hi:i<1:=hi
 show (Z4n Tg _ _ _ 1 i).Ok
 unfold Z4n
 rw [if_pos hi]
 exact ⟨ht.fl,hT _ _,hT _ _,rfl⟩
theorem Z9O:(TxS.mk 0 0 (fun _=>⟨[],0,0,[],[],[]⟩) 0 (fun _=>⟨0,0,[],[],[],[],0,0⟩)).Ok:=⟨by decide,by decide,fun i hi=>absurd hi (JS i),fun i hi=>absurd hi (JS i)⟩
theorem Zqd (W:Int->LI) (Tg:LI->TxS->LI) (F:TxS->TxS->Bool) (k:ClS) (hk:TxK k) (hr:RwC k) (h9:∀v,(W v).length<=9) (hE:ZN k.t k.a0 k.a1 k.fee=0) (hT:∀a t,(Tg a t).length=32) (hF:∀t,t.Ok->F t t=true):
  evF (Zlf W Tg F) 20 24 [.ptr (some ⟨0,0,0,0,0⟩),.agg (clU k k.side k.offers k.last true k.fee)] ⟨1,[(0,.flat (clT k k.side k.offers k.last true k.fee))]⟩ (ZK 1 (.ret (.bool true)) 1 [(0,.flat (clT k k.side k.offers k.last true k.fee))]):=by
 refine @Eq.mpr _ (let e:=k.t;let f:=e.fund;let q3:=AV.arr u8 32 f;let m:=e.index;let Z:=AV.int i64 m;let l:=e.cap;let Y:=AV.int i64 l;let j:=e.dust;let X:=AV.int i64 j;let x:=e.fee;let b2:=AV.int i64 x;let w:=e.delay;let b1:=AV.int i64 w;let h:=e.k0;let b0:=AV.arr u8 32 h;let g:=e.k1;let a9:=AV.arr u8 32 g;let v:=k.side;let a8:=AV.int i64 v;let u:=[k.a0,k.a1];let a7:=AV.arr i64 2 u;let s:=k.least;let a6:=AV.int i64 s;let r:=k.most;let a5:=AV.int i64 r;let q:=k.offers;let a4:=AV.bool q;let p:=k.last;let a3:=AV.int i64 p;let R:=AV.bool true;let o:=k.fee;let a2:=AV.int i64 o;let Q:=f=f;let P:=decide (m=m);let O:=decide (l=l);let K:=decide (j=j);let J:=decide (x=x);let I:=decide (w=w);let H:=h=h;let G:=g=g;let E:=decide (v=v);let D:=u=u;let C:=decide (s=s);let B:=decide (r=r);let A:=decide (q=q);let z:=decide (p=p);let y:=decide (o=o);
 ∃(k_1:ClS),
 let V:=[q3,Z,Y,X,b2,b1,b0,a9,a8,a7,a6,a5,a4,a3,R,a2,R];
 X7 V k_1/\
 TxK k_1/\
 ZN k_1.t k_1.a0 k_1.a1 k_1.fee=0/\
 ∀(n:Nat) (L:List Z9),
 L=ZW (clL k_1.t k_1.a0 k_1.a1 k_1.fee)->
 n=L.length->
 n<=2->
 ∃(k_2:ClS),
 let U:=[q3,Z,Y,X,b2,b1,b0,a9,a8,a7,a6,a5,a4,a3,R,a2];
 Yv U k_2/\
 TxK k_2/\
 ZN k_2.t k_2.a0 k_2.a1 k_2.fee=0/\
 ∀(n_1:Nat) (L_1:List Z9),
 L_1=ZW (clL k_2.t k_2.a0 k_2.a1 k_2.fee)->
 n_1=L_1.length->
 n_1<=2->
 Q/\
 Z0 P
 (Z0 O
 (Z0 K
 (Z0 J
 (Z0 I
 (H/\
 G/\
 Z0 E
 (D/\
 Z0 C
 (Z0 B
 (Z0 A
 (Z0 z
 (Z0 y
 (Z0 (decide (f.length=32/\f.length=32))
 (Z0 (decide (h.length=32/\h.length=32))
 (Z0 (decide (g.length=32/\g.length=32))
 (Z0 (f==f&&(m==m&&(l==l&&(j==j&&(x==x&&(w==w&&(h==h&&g==g))))))&&(v==v&&(u==u&&(s==s&&(r==r&&(q==q&&(p==p&&(true&&o==o))))))))
 ((∀(i:Nat),i<1->true=true)/\
 Z0 (decide (0+n<=n))
 ((∀(i:Nat),i<n->true=true)/\
 (∀(i:Nat),i<1->true=true)/\
 Z0 (decide (0+n_1<=n_1))
 ((∀(i:Nat),i<n_1->true=true)/\
 ∃(a:TxS),
 ∃(b:TxS),
 (a.num=2147483647/\
 (((1:Nat)=1/\a.N=1)/\
 ∀(i:Nat),
 let d:=ctG Tg k_1 i;
 i<1->[AV.arr u8 32 d.name,AV.int i64 d.index,AV.int i64 d.way,AV.arr u8 32 d.tag,AV.arr u8 32 d.also,AV.arr u8 32 d.secret]=InS.c (a.ins i))/\
 (n=n/\a.M=n)/\
 ∀(i:Nat),
 let d:=Y4 L i;
 i<n->[AV.int i64 d.kind,AV.int i64 d.amount,AV.arr u8 32 d.owner,AV.arr u8 32 d.other,AV.arr u8 32 d.point,AV.arr u8 32 d.hash,AV.int i64 d.delay,AV.int i64 d.expiry]=ZM.c (a.outs i))/\
 (b.num=2147483647/\
 (((1:Nat)=1/\b.N=1)/\
 ∀(i:Nat),
 let d:=ctG Tg k_2 i;
 i<1->[AV.arr u8 32 d.name,AV.int i64 d.index,AV.int i64 d.way,AV.arr u8 32 d.tag,AV.arr u8 32 d.also,AV.arr u8 32 d.secret]=InS.c (b.ins i))/\
 (n_1=n_1/\b.M=n_1)/\
 ∀(i:Nat),
 let d:=Y4 L_1 i;
 i<n_1->[AV.int i64 d.kind,AV.int i64 d.amount,AV.arr u8 32 d.owner,AV.arr u8 32 d.other,AV.arr u8 32 d.point,AV.arr u8 32 d.hash,AV.int i64 d.delay,AV.int i64 d.expiry]=ZM.c (b.outs i))/\
 (TxS.Ok a/\TxS.Ok b)/\
 Z0 (F a b)
 (∃(k_3:ClS),
 let d:=List.length (Yw W k_3);let b3:=decide (u8=u8/\0+d<=d);let T:=strOf (List.take d (ZV 0 (Yw W k_3)));
 X7 V k_3/\
 RwC k_3/\
 Q/\
 Z0 P
 (Z0 O
 (Z0 K
 (Z0 J
 (Z0 I
 (H/\
 G/\
 Z0 E
 (D/\
 Z0 C
 (Z0 B
 (Z0 A
 (Z0 z
 (Z0 y
 (Z0 b3
 (∃(k_4:ClS),
 let S:=List.length (Yw W k_4);
 Yv U k_4/\RwC k_4/\Z0 b3 (T=T/\Z0 (decide (u8=u8/\0+S<=S)) (Z0 (decide ((ByteArray.toList T==ByteArray.toList (strOf (List.take S (ZV 0 (Yw W k_4)))))=true)) (Q/\Z0 P (Z0 O (Z0 K (Z0 J (Z0 I (H/\G/\Z0 E (D/\Z0 C (Z0 B (Z0 A (Z0 z (Z0 y True False) False) False) False) False) False) False) False) False) False) False) False) False) False)
 False)
 False)
 False)
 False)
 False)
 False)
 False)
 False)
 False)
 False)
 False)
 False)
 False)
 False)
 False)
 False)
 False)
 False)
 False)
 False)
 False)
 False)
 False)
 False)
 False)
 False)
 False)
 False)
 False)
 False) (by kernel_rfl) ?_
 conv=>zeta
 try simp only [Zc]
 try simp only [Zl]
 try simp only [Zg]
 try simp only [Zm]
 try simp only [Zn]
 try simp only [Zh]
 try simp only [Jf,true_and,J2]
 have h0:=hk.t.ok
 refine ⟨(clP k k.side k.offers true),⟨rfl⟩,⟨hk.t,hk.a⟩,hE,fun n L hL hn hn2=>⟨(clP k k.side k.offers true),⟨rfl⟩,⟨hk.t,hk.a⟩,hE,fun n' L' hL' hn' _=> ?_⟩⟩
 have hk1:(ctT Tg (clP k k.side k.offers true) n L).Ok:=Zlg (k:=(clP k k.side k.offers true)) hT hk.t hL hn
 have e1:L'=L:=hL'.trans hL.symm
 have e2:n'=n:=by rw [hn,hn',e1]
 subst e1 e2
 refine ⟨⟨hk.t.fl,hk.t.fl⟩,⟨h0.k0,h0.k0⟩,⟨h0.k1,h0.k1⟩,by simp,fun _ _=>trivial,fun _ _=>trivial,fun _ _=>trivial,fun _ _=>trivial,ctT Tg (clP k k.side k.offers true) n' L',ctT Tg (clP k k.side k.offers true) n' L',⟨rfl,⟨rfl,fun _ _=>rfl⟩,rfl,fun _ _=>rfl⟩,⟨rfl,⟨rfl,fun _ _=>rfl⟩,rfl,fun _ _=>rfl⟩,⟨hk1,hk1⟩,hF _ hk1,(clP k k.side k.offers true),⟨rfl⟩,⟨⟨hr.n.ix,hr.n.ca,hr.n.du,hr.n.fe,hr.n.de,hr.n.sd,hr.n.a0,hr.n.a1,hr.n.le,hr.n.mo,hr.n.la,hr.n.fee⟩,hr.f,hr.h0,hr.h1⟩,(clP k k.side k.offers true),⟨rfl⟩,⟨⟨hr.n.ix,hr.n.ca,hr.n.du,hr.n.fe,hr.n.de,hr.n.sd,hr.n.a0,hr.n.a1,hr.n.le,hr.n.mo,hr.n.la,hr.n.fee⟩,hr.f,hr.h0,hr.h1⟩, ?_⟩
 simp_all
theorem Zqe (W:Int->LI) (Tg:LI->TxS->LI) (F:TxS->TxS->Bool) (k:ClS) (hk:TxK k) (hr:RwC k) (h9:∀v,(W v).length<=9) (hT:∀a t,(Tg a t).length=32) (hF:∀t,t.Ok->F t t=true):
  evF (Zlf W Tg F) 20 24 [.ptr (some ⟨0,0,0,0,0⟩),.agg (clU k k.side k.offers k.last false k.fee)] ⟨1,[(0,.flat (clT k k.side k.offers k.last false k.fee))]⟩ (ZK 1 (.ret (.bool true)) 1 [(0,.flat (clT k k.side k.offers k.last false k.fee))]):=by
 refine @Eq.mpr _ (let c:=k.t;let d:=c.fund;let X:=AV.arr u8 32 d;let i:=c.index;let U:=AV.int i64 i;let h:=c.cap;let T:=AV.int i64 h;let g:=c.dust;let S:=AV.int i64 g;let s:=c.fee;let a9:=AV.int i64 s;let r:=c.delay;let a8:=AV.int i64 r;let f:=c.k0;let a7:=AV.arr u8 32 f;let e:=c.k1;let a6:=AV.arr u8 32 e;let q:=k.side;let a5:=AV.int i64 q;let p:=[k.a0,k.a1];let a4:=AV.arr i64 2 p;let o:=k.least;let a3:=AV.int i64 o;let n:=k.most;let a2:=AV.int i64 n;let m:=k.offers;let Z:=AV.bool m;let l:=k.last;let Y:=AV.int i64 l;let j:=k.fee;let V:=AV.int i64 j;let L:=d=d;let K:=decide (i=i);let J:=decide (h=h);let I:=decide (g=g);let H:=decide (s=s);let G:=decide (r=r);let E:=f=f;let D:=e=e;let C:=decide (q=q);let B:=p=p;let A:=decide (o=o);let z:=decide (n=n);let y:=decide (m=m);let x:=decide (l=l);let w:=decide (j=j);
 ∃(k_1:ClS),
 let R:=[X,U,T,S,a9,a8,a7,a6,a5,a4,a3,a2,Z,Y,AV.bool false,V,AV.bool true];
 X7 R k_1/\
 TxK k_1/\
 ∃(k_2:ClS),
 let Q:=[X,U,T,S,a9,a8,a7,a6,a5,a4,a3,a2,Z,Y,AV.bool false,V];
 Yv Q k_2/\
 TxK k_2/\
 L/\
 Z0 K
 (Z0 J
 (Z0 I
 (Z0 H
 (Z0 G
 (E/\
 D/\
 Z0 C
 (B/\
 Z0 A
 (Z0 z
 (Z0 y
 (Z0 x
 (Z0 w
 (Z0 (decide (d.length=32/\d.length=32))
 (Z0 (decide (f.length=32/\f.length=32))
 (Z0 (decide (e.length=32/\e.length=32))
 (Z0 (d==d&&(i==i&&(h==h&&(g==g&&(s==s&&(r==r&&(f==f&&e==e))))))&&(q==q&&(p==p&&(o==o&&(n==n&&(m==m&&(l==l&&(true&&j==j))))))))
 (∃(a:TxS),
 ∃(b:TxS),
 (a.num=0/\a.N=0/\a.M=0)/\
 (b.num=0/\b.N=0/\b.M=0)/\
 (TxS.Ok a/\TxS.Ok b)/\
 Z0 (F a b)
 (∃(k_3:ClS),
 let v:=List.length (Yw W k_3);let P:=decide (u8=u8/\0+v<=v);let u:=strOf (List.take v (ZV 0 (Yw W k_3)));
 X7 R k_3/\
 RwC k_3/\
 L/\
 Z0 K
 (Z0 J
 (Z0 I
 (Z0 H
 (Z0 G
 (E/\
 D/\
 Z0 C
 (B/\
 Z0 A
 (Z0 z
 (Z0 y
 (Z0 x
 (Z0 w
 (Z0 P
 (∃(k_4:ClS),
 let O:=List.length (Yw W k_4);
 Yv Q k_4/\RwC k_4/\Z0 P (u=u/\Z0 (decide (u8=u8/\0+O<=O)) (Z0 (decide ((ByteArray.toList u==ByteArray.toList (strOf (List.take O (ZV 0 (Yw W k_4)))))=true)) (L/\Z0 K (Z0 J (Z0 I (Z0 H (Z0 G (E/\D/\Z0 C (B/\Z0 A (Z0 z (Z0 y (Z0 x (Z0 w True False) False) False) False) False) False) False) False) False) False) False) False) False) False)
 False)
 False)
 False)
 False)
 False)
 False)
 False)
 False)
 False)
 False)
 False)
 False)
 False)
 False)
 False)
 False)
 False)
 False)
 False)
 False)
 False)
 False)
 False)
 False)
 False)
 False)
 False)
 False) (by kernel_rfl) ?_
 conv=>zeta
 try simp only [Zc]
 try simp only [Zl]
 try simp only [Zg]
 try simp only [Zm]
 try simp only [Zn]
 try simp only [Zh]
 try simp only [Jf,true_and,J2]
 have h0:=hk.t.ok
 refine ⟨(clP k k.side k.offers false),⟨rfl⟩,⟨hk.t,hk.a⟩,(clP k k.side k.offers false),⟨rfl⟩,⟨hk.t,hk.a⟩,⟨hk.t.fl,hk.t.fl⟩,⟨h0.k0,h0.k0⟩,⟨h0.k1,h0.k1⟩,by simp,_,_,⟨rfl,rfl,rfl⟩,⟨rfl,rfl,rfl⟩,⟨Z9O,Z9O⟩,hF _ Z9O,(clP k k.side k.offers false),⟨rfl⟩,⟨⟨hr.n.ix,hr.n.ca,hr.n.du,hr.n.fe,hr.n.de,hr.n.sd,hr.n.a0,hr.n.a1,hr.n.le,hr.n.mo,hr.n.la,hr.n.fee⟩,hr.f,hr.h0,hr.h1⟩,(clP k k.side k.offers false),⟨rfl⟩,⟨⟨hr.n.ix,hr.n.ca,hr.n.du,hr.n.fe,hr.n.de,hr.n.sd,hr.n.a0,hr.n.a1,hr.n.le,hr.n.mo,hr.n.la,hr.n.fee⟩,hr.f,hr.h0,hr.h1⟩, ?_⟩
 simp_all
structure Xo (k:ClS):Prop where
 i:Y0 k
 t:k.t.All
theorem Xo.a {k:ClS} (h:Xo k):k.a0<9223372036854775808:=by
 have:=Wo h.i.made.t
 have:=h.i.made.a1
 have:=h.i.made.sum
 omega
theorem Xo.x {k:ClS} (h:Xo k):TxK k:=⟨h.t,h.a⟩
theorem Xo.o {k:ClS} (h:Xo k):XN k:=⟨h.t,h.a,h.i.made.side⟩
theorem Xo.r {k:ClS} (h:Xo k):RwC k:=⟨h.i.num,h.t.fl,h.t.ok.k0,h.t.ok.k1⟩
theorem ZiH {k:ClS} (h:Xo k):Spec PP 24 [.ptr (some ⟨0,0,0,0,0⟩),.agg (clU k k.side k.offers k.last k.agrees k.fee)] ⟨1,[(0,.flat (clT k k.side k.offers k.last k.agrees k.fee))]⟩ (.ret (.bool true)) 1 [(0,.flat (clT k k.side k.offers k.last k.agrees k.fee))]:=by
 have hx:=h.x
 have hr:=h.r
 have ha:=h.i.agr
 obtain ⟨t,sd,a0,a1,le,mo,o0,l0,g0,f0⟩:=k
 cases g0 with
 | true=>exact .evM Zb7 (Zqd Zt ZC Vw ⟨t,sd,a0,a1,le,mo,o0,l0,true,f0⟩ hx hr Z7V (ha rfl).2.2 Xl fun t _=>Z5s t)
 | false=>exact .evM Zb7 (Zqe Zt ZC Vw ⟨t,sd,a0,a1,le,mo,o0,l0,false,f0⟩ hx hr Z7V Xl fun t _=>Z5s t)
def Zg3:ZQ:=fun args h K=>match args with
 | [.ptr (some ⟨x,0,0,0,0⟩),_]=>frA [x] h 40 args fun Bs a=>match Bs,a with
  | [.flat cs],[.ptr (some ⟨0,0,0,0,0⟩),.agg ds]=>∃k,X7 cs k/\Yv ds k/\Xo k/\K (.ret (.bool true)) ⟨h.next,(x,.flat cs)::Yc h.bs x⟩
  | _,_=>False
 | _=>False
theorem Zg4 (args:List AV) (h:Z8) (K:KO) (hl:Zg3 args h K):Zd PP 24 args h K:=by
 unfold Zg3 at hl
 split at hl
 ·refine Spec.fsumm hl fun Bs a hlen hK0=> ?_
  split at hK0
  ·obtain ⟨k,⟨rfl⟩,⟨rfl⟩,hk,hK⟩:=hK0
   exact ⟨_,_,_,_,_,ZiH hk,by simp,.ret _ _ rfl,.cons _ _ _ _ _ _ rfl (.flat _ _ rfl) .nil,hK⟩
  simp_all
 simp_all
def Zg5 (SB:Zo->Bool) (M:Int->Int->Int) (Tg:LI->TxS->LI):ZF:=fun args h K=>ZG none h true 60 args fun x=>match x with
 | [.agg cs,.agg ss]=>∃k s,Yv cs k/\XO ss s/\(Y0 k/\k.t.All)/\s.Len/\
  ∀r,r=Ya SB M Tg k s->K (.tuple [.agg (clU k k.side r.of r.la r.ag r.fe),.agg (sdC r.kd r.am r.tg),.bool r.sy,.int .i64 r.e])
 | _=>False
theorem ZcD (args:List AV) (h:Z8) (K:AV->Prop) (hl:Zg5 WQ Xe ZC args h K):Zd PP 63 args h fun o h'=>∃v,o=.ret v/\h'=h/\K v:=by
 refine Zx.psumm (d:=60) (Zq _ _ _ _ _ hl fun a ha=> ?_)
 split at ha
 ·obtain ⟨k,s,⟨rfl⟩,⟨rfl⟩,⟨hk,ht⟩,hs,hK⟩:=ha
  exact ⟨_,Z9J Zl7 hk ht hs Z2z rfl,fun _=>rfl,hK _ rfl⟩
 ·exact ha.elim
def Ub (k:ClS) (r:HR):ClS:=⟨k.t,k.side,k.a0,k.a1,k.least,k.most,r.of,r.la,r.ag,r.fe⟩
theorem Uy {k:ClS} (h:Z1I k) (r:HR):Z1I (Ub k r):=⟨h.t,h.side,h.a0,h.a1,h.sum,h.lo,h.lm,h.hi⟩
theorem Zg6 {n lo hi:Int} (h:lo<=hi):lo<=Z01 n lo hi/\Z01 n lo hi<=hi:=by
 unfold Z01
 omega
theorem ZcE {M:Int->Int->Int} {k:ClS} (s:Zo) (hk:Y0 k):Y0 (Ub k (Ya SB M Tg k s)):=by
 unfold Ya
 split
 ·exact hk
 split
 ·exact hk
 split
 ·exact hk
 rename_i hg
 have hg:k.agrees=false:=by simpa using hg
 split
 ·exact hk
 rename_i ht
 have ht:ZN k.t k.a0 k.a1 s.amount=0:=Decidable.byContradiction ht
 split
 ·exact hk
 split
 ·rename_i ho
  exact ⟨Uy hk.made _,hk.off,hk.nof,fun _=>⟨ho.1,ho.2.symm,ht⟩,(fun h=>nomatch h)⟩
 split
 ·rename_i hi
  exact ⟨Uy hk.made _,fun _=>hi,(fun h=>nomatch h),fun _=>⟨rfl,rfl,ht⟩,(fun h=>nomatch h)⟩
 split
 ·exact hk
 split
 ·exact hk
 exact ⟨Uy hk.made _,fun _=>Zg6 hk.made.lm,(fun h=>nomatch h),fun h=>absurd (hg.symm.trans h) (by decide),fun _=>hk.nag hg⟩
theorem Zg7 {k:ClS} (hk:Y0 k):Y0 (Ub k (WG Tg k)):=by
 unfold WG
 split
 ·exact hk
 rename_i hg
 have hg:k.agrees=false:=by simpa using hg
 split
 ·exact hk
 split
 ·exact hk
 exact ⟨Uy hk.made _,fun _=>⟨Int.le_refl _,hk.made.lm⟩,(fun h=>nomatch h),fun h=>absurd (hg.symm.trans h) (by decide),fun _=>hk.nag hg⟩
theorem Xo.hear {M:Int->Int->Int} {k:ClS} (s:Zo) (hk:Xo k):Xo (Ub k (Ya SB M Tg k s)):=⟨ZcE s hk.i,hk.t⟩
theorem Xo.beg {k:ClS} (hk:Xo k):Xo (Ub k (WG Tg k)):=⟨Zg7 hk.i,hk.t⟩
end Go.Tk
end
