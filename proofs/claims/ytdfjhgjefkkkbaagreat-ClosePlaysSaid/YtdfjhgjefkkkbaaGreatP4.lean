/- P: part 4 of an engine (a symbolic evaluator, proved against the model) and of the walk by it. -/
import Derived.Test.YtdfjhgjefkkkbaaGreatP3
import Derived.OpenShut
import Derived.WideShapes
import Derived.ChangeSlices
import Derived.WalkKit
import Derived.ProofKit
import Derived.Below
import Derived.Handed
import Derived.Carry
set_option linter.unusedVariables false
set_option linter.unusedSimpArgs false
set_option maxRecDepth 100000
set_option maxHeartbeats 0
section
namespace Go.Tk
open IntKind (i64 u8 u32 u64 wrap)
variable {E':Env} {σ:List Nat} {B:Blk} {args:List AV} {K0:List Blk->List AV->Prop} {v:AV} {nx:Nat}
noncomputable def G9 (W:Zw->List Int->Zw) (F:Zw->List Int) (r0:Zw) (B:Int) (H1:List Int->List Int) (H2:List Int->List Int->List Int) (N:Nat):Zd:=(G7 W F B r0).withP 190 (ZhV H1 H2 N)
theorem ZjX (B:Int) (hB:B<1000000000000) (N:Nat) (hN:N<100000000000):(G9 Zw.write Zw.fin Yr B Um Z02 N).Ok:=Zd.withP_ok (Zcr B hB) (Z9s N hN)
def Z6M (c:Int) (b:List Int) (i:Int):St:=⟨16,[(1,.pview [.int .u8 c] 0),(2,pt 0),(3,.nilslice),(5,.int .i64 i)],⟨1,[(0,.flat [.arr .u8 64 b])]⟩,[]⟩
def Z38 (c:Int) (b:List Int) (i:Nat):List Int:=b.set (0+i) (Yh .u8 (b.getD (0+i) 0) c)
theorem ZjY (c:Int) (b:List Int) (i:Nat) (Z Z2:Prop) (hi:i<=64) (hb:b.length=64) (hZ:i=64->Z) (hZ2:i<64->Z2):
  ZC G0 20 292 0 0 (Z6M c b i) (fun e s=>match e with|.normal=>ZZ 0 [(0,0)] (Z6M c (Z38 c b i) (i+1)) s Z2|.exit 0=>ZZ 0 [(0,0)] (Z6M c b i) s Z|_=>False):=by
 refine @Eq.mpr _ (let q1:=decide (0<=(↑i:Int)/\(↑i:Int)<64);let q2:=0+Int.toNat (↑i:Int);let q3:=[AV.int u8 c];let q4:=q3=q3;let q5:=(↑i:Int)+1;
 Z7 (decide ((↑i:Int)<64)) (Z7 q1 (Z7 (decide (q2<64)) (Z7 q1 (Z7 (decide (u8=u8/\q2<64/\q2<List.length b)) (q4/\Z7 (decide (wrap i64 q5=q5)) (List.set b q2 (Yh u8 (List.getD b q2 0) c)=Z38 c b i/\Z2) False) False) False) False) False) (q4/\Z7 (decide ((↑i:Int)=(↑i:Int))) (b=b/\Z) False)) (by kernel_rfl) ?_
 conv=>zeta
 have e1:i64.wrap ((i:Int)+1)=(i:Int)+1:=w64 (by omega)
 refine ifD (fun h=> ?_) (fun h=> ?_)
 ·refine nd (by omega) (nd (by omega) (nd (by omega) (nd ⟨rfl,by omega,by omega⟩ ⟨rfl,nd e1 ⟨?_,hZ2 (by omega)⟩⟩)))
  unfold Z38
  rw [JW]
 ·exact ⟨rfl,nd rfl ⟨rfl,hZ (by omega)⟩⟩
def Z1M (c:Int) (b:List Int):Nat->List Int
 | 0=>b
 | i+1=>Z38 c (Z1M c b i) i
theorem Z4w (c:Int) (b:List Int):Z1M c b 0=b:=rfl
theorem Z17 (c:Int) (b:List Int) (i:Nat):Z1M c b (i+1)=Z38 c (Z1M c b i) i:=rfl
theorem Z39 (c:Int) (b:List Int):∀i,(Z1M c b i).length=b.length
 | 0=>rfl
 | i+1=>by rw [Z17];unfold Z38;rw [Kb];exact Z39 c b i
@[irreducible] def V1 (c:Int) (b:List Int):List Int:=Z1M c b 64
theorem Z0z (c:Int) (b:List Int) (h:b.length=64):(V1 c b).length=64:=by unfold V1;rw [Z39,h]
attribute [irreducible] Z1M
def Zhn (c:Int) (b b':List Int) (C:Prop):Nat->St->KE->Prop:=fun k s X=>match Nat.beq k 0 with
 | true=>ZZ 0 [(0,0)] (Z6M c b 0) s (C/\X (.exit 0) (Z6M c b' 64))
 | false=>False
noncomputable def GX0 (c:Int) (b b':List Int) (C:Prop):Zd:=G0.withL 292 0 (Zhn c b b' C)
theorem ZhX (c:Int) (b b':List Int) (C:Prop) (hC:C->b.length=64/\b'=V1 c b):(GX0 c b b' C).Ok:=by
 refine Zd.withL_ok Zm (by kernel_rfl) ?_
 intro k s X hl
 unfold Zhn at hl
 split at hl
 ·rename_i hk
  have:=J0 hk
  subst this
  obtain ⟨⟨hc,hX⟩,hw⟩:=Y5 hl
  obtain ⟨hb,hb'⟩:=hC hc
  refine ⟨{ t:Nat//t<=64},fun t=>64-t.1,fun t=>Z6M c (Z1M c b t.1) t.1,⟨0,by omega⟩,20,by show QY 0 s (Z6M c (Z1M c b 0) ((0:Nat):Int));rw [Z4w];exact hw, ?_⟩
  rintro ⟨t,ht⟩
  refine ⟨_,ZjY c (Z1M c b t) t (t=64) (t<64) ht (by rw [Z39];exact hb) id id, ?_⟩
  intro e s' hY
  split at hY
  ·obtain ⟨h64,hw'⟩:=Y5 hY
   refine ⟨⟨t+1,by omega⟩,by show 64-(t+1)<64-t;omega, ?_⟩
   show QY 0 s' (Z6M c (Z1M c b (t+1)) ((t+1:Nat):Int))
   rw [Z17]
   exact hw'
  ·obtain ⟨h64,hw'⟩:=Y5 hY
   subst h64
   refine ⟨_,hw', ?_⟩
   rw [hb'] at hX
   unfold V1 at hX
   exact hX
  ·exact hY.elim
 ·exact hl.elim
theorem ZmP (c:Int) (b b':List Int) (C:Prop) (hC:C):
  evF (GX0 c b b' C) 20 292 [.agg [.arr .u8 64 b],.pview [.int .u8 c] 0] ⟨0,[]⟩ (Yq 0 [(0,0)] (.nslice ⟨0,0,0,0,0⟩ 1 64 64) 1 [(0,.flat [.arr .u8 64 b'])]):=by
 refine @Eq.mpr _ (let q1:=[AV.int u8 c];
 q1=q1/\b=b/\C/\b'=b'/\True) (by kernel_rfl) ?_
 conv=>zeta
 exact ⟨rfl,rfl,hC,rfl,trivial⟩
def byF (X:Int->List Int->List Int):ZN:=fun args h K=>ZA none h true 20 args fun a=>match a with
 | [.agg [.arr .u8 64 b],.pview [.int .u8 c] 0]=>Z6 (b.length=64) (K (.ret (.nslice ⟨h.next+0,0,0,0,0⟩ 1 64 64)) ⟨h.next+1,(h.next+0,.flat [.arr .u8 64 (X c b)])::h.bs⟩)
 | _=>False
theorem ZhY (args:List AV) (h:Z8) (K:KO) (hl:byF V1 args h K):Ze PP 292 args h K:=by
 obtain ⟨a₀,ha,hr⟩:=Xk (fun x hx=>by cases hx) _ _ _ _ hl
 split at ha
 ·rename_i b c
  obtain ⟨hb,hK⟩:=Zb ha
  exact (Zs.ev (ZhX c b (V1 c b) True (fun _=>⟨hb,rfl⟩)) (ZmP c b _ True trivial)).calls (fun E w rs he hrr=>hr E w rs he hrr) rfl ⟨JN,.flat _ rfl,trivial⟩ hK
 ·exact ha.elim
def Vz (key:List Int):List Int:=spl (List.replicate 64 0) 0 (List.take 64 (List.take 32 key))
theorem VP (key:List Int):(Vz key).length=64:=by
 unfold Vz
 rw [QN]
 ·rfl
 ·simp;omega
theorem ZmQ (key l:List Int) (hl:l=Vz key) (hk:key.length=32):
  evF G0 20 273 [.vints .u8 key 32] ⟨0,[]⟩ (Yq 0 [] (.agg [.arr .u8 64 l]) 0 []):=by
 refine @Eq.mpr _ (spl [(0:Int),(0:Int),(0:Int),(0:Int),(0:Int),(0:Int),(0:Int),(0:Int),(0:Int),(0:Int),(0:Int),(0:Int),(0:Int),(0:Int),(0:Int),(0:Int),(0:Int),(0:Int),(0:Int),(0:Int),(0:Int),(0:Int),(0:Int),(0:Int),(0:Int),(0:Int),(0:Int),(0:Int),(0:Int),(0:Int),(0:Int),(0:Int),(0:Int),(0:Int),(0:Int),(0:Int),(0:Int),(0:Int),(0:Int),(0:Int),(0:Int),(0:Int),(0:Int),(0:Int),(0:Int),(0:Int),(0:Int),(0:Int),(0:Int),(0:Int),(0:Int),(0:Int),(0:Int),(0:Int),(0:Int),(0:Int),(0:Int),(0:Int),(0:Int),(0:Int),(0:Int),(0:Int),(0:Int),(0:Int)] (0:Nat) (List.take (64:Nat) (List.take (32:Nat) key))=l/\True) (by kernel_rfl) ?_
 exact ⟨hl▸rfl,trivial⟩
def ofS (KB:List Int->List Int):ZH:=fun args h K=>ZA none h true 20 args fun a=>match a with
 | [.vints .u8 key len]=>match Nat.beq len 32 with
  | true=>Z6 (key.length=32) (K (.agg [.arr .u8 64 (KB key)]))
  | false=>False
 | _=>False
theorem ZhZ (args:List AV) (h:Z8) (K:AV->Prop) (hl:ofS Vz args h K):Ze PP 273 args h fun o h'=>∃v,o=.ret v/\h'=h/\K v:=by
 refine UO hl fun a ha=> ?_
 split at ha
 ·rename_i key len
  split at ha
  ·rename_i hb
   have:=J0 hb
   subst this
   obtain ⟨hk,hK⟩:=Zb ha
   exact ⟨_,Zs.ev Zm (ZmQ key _ rfl hk),fun _=>rfl,hK⟩
  ·exact ha.elim
 ·exact ha.elim
noncomputable def G10 (W:Zw->List Int->Zw) (F:Zw->List Int) (r0:Zw) (B:Int) (H1:List Int->List Int) (H2:List Int->List Int->List Int) (N:Nat) (X:Int->List Int->List Int) (KB:List Int->List Int):Zd:=((G9 W F r0 B H1 H2 N).withF 292 (byF X)).withP 273 (ofS KB)
theorem Zi0 (B:Int) (hB:B<1000000000000) (N:Nat) (hN:N<100000000000):(G10 Zw.write Zw.fin Yr B Um Z02 N V1 Vz).Ok:=Zd.withP_ok (Zd.withF_ok (ZjX B hB N hN) ZhY) ZhZ
@[irreducible] def UQ (key msg:List Int):List Int:=Z02 (V1 92 (Vz key)) (((Yr.write (V1 54 (Vz key))).write msg).fin)
theorem ZaH (k m:List Int):(UQ k m).length=32:=by unfold UQ;exact Zcs _ _
theorem ZjZ (W:Zw->List Int->Zw) (F:Zw->List Int) (r0:Zw) (B:Int) (H1:List Int->List Int) (H2:List Int->List Int->List Int) (N:Nat) (X:Int->List Int->List Int) (KB:List Int->List Int) (key msg hh:List Int) (hB:B=900000000000) (hr0:r0=Yr) (hW:W=Zw.write) (hF:F=Zw.fin) (hH:H2=Z02) (hX:X=V1) (hKB:KB=Vz) (hN:64<=N) (hk:key.length=32) (hm:msg.length=32) (hh':hh=UQ key msg):
  evF (G10 W F r0 B H1 H2 N X KB) 20 167 [.vints .u8 key 32,.vrows 1 1 (fun _=>[.vints .u8 msg 32]) 1] ⟨0,[]⟩ (Yq 0 [] (.agg [.arr .u8 32 hh]) 0 []):=by
 refine @Eq.mpr _ (let q1:=decide (List.length (KB key)=64);let q2:=List.length (X 54 (KB key));let q3:=r0.came;let q4:=W (Zw.mk r0.st r0.part q3) (X 54 (KB key));let q5:=q4.st;let q6:=q4.part;let q7:=q4.came;let q8:=W (Zw.mk q5 q6 q7) msg;let q9:=q8.st;let q10:=q8.part;let q11:=q8.came;let q12:=List.length (X 92 (KB key));let q13:=F (Zw.mk q9 q10 q11);let q14:=List.length q13;
 Z7 (decide (List.length key=32)) (KB key=KB key/\Z7 q1 (Z7 (decide (q2=64)) (Z7 (decide (64=q2)) (Z7 (decide (List.length r0.st=8/\List.length r0.part=64/\0<=q3/\q3+ ↑q2<=B)) (Z7 (decide (32=List.length msg)) (Z7 (decide (List.length q5=8/\List.length q6=64/\0<=q7/\q7+ ↑(List.length msg)<=B)) (Z7 (decide (List.length q9=8/\List.length q10=64/\0<=q11/\q11<=B)) (KB key=KB key/\Z7 q1 (Z7 (decide (q12=64)) (Z7 (decide (q14=32)) (Z7 (decide (64=q12)) (Z7 (decide (32=q14)) (Z7 (decide (q12<=N/\q14<=N)) (H2 (X 92 (KB key)) q13=hh/\True) False) False) False) False) False) False) False) False) False) False) False) False) False) False) (by kernel_rfl) ?_
 conv=>zeta
 subst hB hr0 hW hF hH hX hKB
 have hkb:=VP key
 have x1:=Z0z 54 _ hkb
 have x2:=Z0z 92 _ hkb
 have i0:Yr.came=0:=rfl
 have ok1:=Xl Yr (V1 54 (Vz key)) Xm
 have c1:=W0 Yr (V1 54 (Vz key)) Xm
 have ok2:=Xl _ msg ok1
 have c2:=W0 _ msg ok1
 rw [x1] at c1
 rw [hm] at c2
 have hf:=Z5z ((Yr.write (V1 54 (Vz key))).write msg)
 have b1:(Yr.write (V1 54 (Vz key))).came+(msg.length:Int)<=900000000000:=by rw [hm];omega
 have b2:((Yr.write (V1 54 (Vz key))).write msg).came<=900000000000:=by omega
 refine nd hk ⟨rfl,nd hkb (nd x1 (nd x1.symm (nd ⟨rfl,rfl,by decide,by rw [x1];decide⟩ (nd hm.symm (nd ⟨ok1.st,ok1.part,ok1.came,b1⟩ (nd ⟨ok2.st,ok2.part,ok2.came,b2⟩ ⟨rfl,nd hkb (nd x2 (nd hf (nd x2.symm (nd hf.symm (nd ⟨by omega, ?_⟩ ⟨?_,trivial⟩)))))⟩))))))⟩
 ·exact Kp (Nat.le_of_eq hf) (by omega)
 ·rw [hh'];unfold UQ;rfl
def Zk0 (T:List Int->List Int->List Int):ZH:=fun args h K=>ZA none h true 20 args fun a=>match a with
 | [.vints .u8 key len,.vrows 1 n f m]=>match Nat.beq len 32&&Nat.beq n 1&&Nat.beq m 1 with
  | true=>U9 (f 0) fun msg=>Z6 (key.length=32/\msg.length=32) (K (.agg [.arr .u8 32 (T key msg)]))
  | false=>False
 | _=>False
theorem Zf0 (args:List AV) (h:Z8) (K:AV->Prop) (hl:Zk0 UQ args h K):Ze PP 167 args h fun o h'=>∃v,o=.ret v/\h'=h/\K v:=by
 obtain ⟨a₀,ha,hr⟩:=Xk (fun x hx=>by cases hx) _ _ _ _ hl
 split at ha
 ·rename_i key len n f m
  split at ha
  ·rename_i hb
   simp only [J3] at hb
   obtain ⟨⟨e1,e2⟩,e3⟩:=hb
   have e1:=J0 e1
   have e2:=J0 e2
   have e3:=J0 e3
   subst e1 e2 e3
   obtain ⟨msg,hf,hK⟩:=W1 ha
   obtain ⟨⟨hk,hm⟩,hK⟩:=Zb hK
   refine (Zs.ev (Zi0 900000000000 (by decide) 64 (by decide)) (ZjZ _ _ _ _ _ _ 64 _ _ key msg _ rfl rfl rfl rfl rfl rfl rfl (by decide) hk hm rfl)).calls (v':=.agg [.arr .u8 32 (UQ key msg)]) (fun E w rs he hrr=> ?_) rfl trivial ⟨_,rfl,rfl,hK⟩
   have:=hr E w rs he hrr
   cases this with
   | cons v c vs cs h1 h2=>cases h2 with
    | cons v2 c2 vs2 cs2 h3 h4=>
     cases h4
     refine .cons _ _ _ _ h1 (.cons _ _ _ _ (h3.rows (fun i hi=> ?_)) .nil)
     match i,hi with
     | 0,_=>rw [hf,hm]
  ·exact ha.elim
 ·exact ha.elim
structure InS where
 name:List Int
 index:Int
 way:Int
 tag:List Int
 also:List Int
 secret:List Int
structure ZE where
 kind:Int
 amount:Int
 owner:List Int
 other:List Int
 point:List Int
 hash:List Int
 delay:Int
 expiry:Int
def InS.c (x:InS):List AV:=[.arr .u8 32 x.name,.int .i64 x.index,.int .i64 x.way,.arr .u8 32 x.tag,.arr .u8 32 x.also,.arr .u8 32 x.secret]
def ZE.c (o:ZE):List AV:=[.int .i64 o.kind,.int .i64 o.amount,.arr .u8 32 o.owner,.arr .u8 32 o.other,.arr .u8 32 o.point,.arr .u8 32 o.hash,.int .i64 o.delay,.int .i64 o.expiry]
structure InS.Ok (x:InS):Prop where
 name:x.name.length=32
 tag:x.tag.length=32
 also:x.also.length=32
 secret:x.secret.length=32
structure ZE.Ok (o:ZE):Prop where
 owner:o.owner.length=32
 other:o.other.length=32
 point:o.point.length=32
 hash:o.hash.length=32
def Z5:List Int:=List.replicate 32 0
theorem Z0A (b:Bool) (x y:Prop):Z7 b x y=((b=true->x)/\(b=false->y)):=by
 cases b<;>simp [Z7]
@[irreducible] def Y3 (x:InS):Bool:=
 (decide (1<=x.way/\x.way<=6)&&(decide (x.way≠4)||x.tag==Z5)&&(decide (x.way=1)||x.also==Z5)&&(decide (x.way=4)||decide (x.way=5)||x.secret==Z5))&&decide (0<=x.index/\x.index<=23)
theorem Zf1 (x:InS) (b:Bool) (hx:x.Ok) (hb:b=Y3 x):
  evF G0 20 182 [.agg x.c] ⟨0,[]⟩ (Yq 0 [] (.bool b) 0 []):=by
 refine @Eq.mpr _ (let q1:=x.way;let q2:=x.name;let q3:=decide (List.length q2=32/\List.length q2=32);let q4:=decide (List.length x.secret=32/\(32:Nat)=32);let q5:=q2==q2;let q6:=x.index;let q7:=q6==q6;let q8:=q1==q1;let q9:=x.secret==Z5;let q10:=Z7 (decide (false=b)) True False;let q11:=Z7 (decide (0<=q6)) (Z7 (decide (decide (q6<=23)=b)) True False) q10;let q12:=decide (List.length x.also=32/\(32:Nat)=32);let q13:=x.also==Z5;let q14:=Z7 q3 (Z7 q12 (Z7 q4 (Z7 (q5&&(q7&&(q8&&(true&&(q13&&q9))))) q11 q10) False) False) False;let q15:=q13&&true;
 Z7 (decide (q1=q1)) (Z7 (decide (q1=1)) (Z7 q3 (Z7 q4 (Z7 (q5&&(q7&&(q8&&(true&&(true&&q9))))) q11 q10) False) False) (Z7 (decide (q1=2)) q14 (Z7 (decide (q1=3)) q14 (Z7 (decide (q1=4)) (Z7 q3 (Z7 (decide (List.length x.tag=32/\(32:Nat)=32)) (Z7 q12 (Z7 (q5&&(q7&&(q8&&(x.tag==Z5&&q15)))) q11 q10) False) False) False) (Z7 (decide (q1=5)) (Z7 q3 (Z7 q12 (Z7 (q5&&(q7&&(q8&&(true&&q15)))) q11 q10) False) False) (Z7 (decide (q1=6)) q14 q10)))))) False) (by kernel_rfl) ?_
 conv=>zeta
 obtain ⟨h1,h2,h3,h4⟩:=hx
 subst hb
 have hz:[(0:Int),0,0,0,0,0,0,0,0,0,0,0,0,0,0,0,0,0,0,0,0,0,0,0,0,0,0,0,0,0,0,0]=Z5:=rfl
 simp only [hz,Z0A]
 unfold Y3
 generalize (x.secret==Z5)=bs
 generalize (x.also==Z5)=ba
 generalize (x.tag==Z5)=bt
 by_cases w1:x.way=1
 ·cases bs<;>simp [w1,h1,h2,h3,h4]<;>omega
 by_cases w2:x.way=2
 ·cases bs<;>cases ba<;>simp [w2,h1,h2,h3,h4]<;>omega
 by_cases w3:x.way=3
 ·cases bs<;>cases ba<;>simp [w3,h1,h2,h3,h4]<;>omega
 by_cases w4:x.way=4
 ·cases bt<;>cases ba<;>simp [w4,h1,h2,h3,h4]<;>omega
 by_cases w5:x.way=5
 ·cases ba<;>simp [w5,h1,h2,h3,h4]<;>omega
 by_cases w6:x.way=6
 ·cases bs<;>cases ba<;>simp [w6,h1,h2,h3,h4]<;>omega
 simp [w1,w2,w3,w4,w5,w6]
 omega
def inS (R:InS->Bool):ZH:=fun args _ K=>match args with
 | [.agg [.arr .u8 32 n,.int .i64 i,.int .i64 w,.arr .u8 32 t,.arr .u8 32 a,.arr .u8 32 s]]=>Z6 (n.length=32/\t.length=32/\a.length=32/\s.length=32) (K (.bool (R ⟨n,i,w,t,a,s⟩)))
 | _=>False
theorem Zh.aggPlain {E:Env} {cs:List AV} {r:Value} (h:Zh E (.agg cs) r) (hp:plainC cs=true):Zh E' (.agg cs) r:=by
 cases h with
 | agg cs vs hc=>exact .agg _ _ (hc.plain hp)
theorem Zi1 (args:List AV) (h:Z8) (K:AV->Prop) (hl:inS Y3 args h K):Ze PP 182 args h fun o h'=>∃v,o=.ret v/\h'=h/\K v:=by
 unfold inS at hl
 split at hl
 ·rename_i n i w t a s
  obtain ⟨⟨h1,h2,h3,h4⟩,hK⟩:=Zb hl
  refine (Zs.ev Zm (Zf1 ⟨n,i,w,t,a,s⟩ _ ⟨h1,h2,h3,h4⟩ rfl)).calls (v':=.bool (Y3 ⟨n,i,w,t,a,s⟩)) (fun E w rs he hr=> ?_) rfl trivial ⟨_,rfl,rfl,hK⟩
  cases hr with
  | cons v r1 vs rs1 h1 hr=>
   cases hr
   exact .cons _ _ _ _ (h1.aggPlain rfl) .nil
 ·exact hl.elim
@[irreducible] def ZD (o:ZE):Bool:=
 decide (1<=o.kind/\o.kind<=5)&&(decide (o.kind=2)||decide (o.kind=4)||decide (o.kind=5)||o.other==Z5)&&(decide (3<=o.kind)||o.point==Z5)&&(decide (4<=o.kind)||o.hash==Z5)&&
 (decide (3<=o.kind)||decide (o.delay=0))&&(decide (4<=o.kind)||decide (o.expiry=0))&&
 (decide (o.kind≠2)||decide (X2 o.owner o.other<=0))&&decide (0<o.amount/\o.amount<=1125899906842624)&&decide (0<=o.delay/\o.delay<=2147483647)&&decide (0<=o.expiry/\o.expiry<=2147483647)
theorem Zcy (o:ZE) (b:Bool) (ho:o.Ok) (hb:b=ZD o):
  evF G0 20 49 [.agg o.c] ⟨0,[]⟩ (Yq 0 [] (.bool b) 0 []):=by
 refine @Eq.mpr _ (let q1:=o.kind;let q2:=q1 !=2;let q3:=o.other;let q4:=decide (List.length q3=32/\(32:Nat)=32);let q5:=decide (List.length o.point=32/\(32:Nat)=32);let q6:=decide (List.length o.hash=32/\(32:Nat)=32);let q7:=q1==q1;let q8:=o.amount;let q9:=q8==q8;let q10:=q3==Z5;let q11:=o.hash==Z5;let q12:=o.delay;let q13:=o.expiry;let q14:=q13==0;let q15:=o.point==Z5&&(q11&&(q12==0&&q14));let q16:=q7&&(q9&&(true&&(q10&&q15)));let q17:=decide (q8>0);let q18:=Z7 (decide (false=b)) True False;let q19:=Z7 (decide (0<=q12)) (Z7 (decide (q12<=2147483647)) (Z7 (decide (0<=q13)) (Z7 (decide (decide (q13<=2147483647)=b)) True False) q18) q18) q18;let q20:=decide (u8=u8/\List.length o.owner=32);let q21:=decide (u8=u8/\List.length q3=32);let q22:=decide (X2 o.owner q3<=0);let q23:=q7&&(q9&&(true&&(true&&q15)));let q24:=q7&&(q9&&(true&&(q10&&(true&&(q11&&(true&&q14))))));let q25:=q7&&(q9&&true);
 Z7 (decide (q1=q1))
 (Z7 (decide (q1=1)) (Z7 q2 (Z7 q4 (Z7 q5 (Z7 q6 (Z7 q16 (Z7 q17 (Z7 (decide (q8<0)) q18 (Z7 (decide (q8>1125899906842624)) q18 q19)) q18) q18) False) False) False) (Z7 q20 (Z7 q21 (Z7 q22 (Z7 q4 (Z7 q5 (Z7 q6 (Z7 q16 (Z7 q17 (Z7 (decide (q8<0)) q18 (Z7 (decide (q8>1125899906842624)) q18 q19)) q18) q18) False) False) False) q18) False) False))
 (Z7 (decide (q1=2)) (Z7 q2 (Z7 q5 (Z7 q6 (Z7 q23 (Z7 q17 (Z7 (decide (q8<0)) q18 (Z7 (decide (q8>1125899906842624)) q18 q19)) q18) q18) False) False) (Z7 q20 (Z7 q21 (Z7 q22 (Z7 q5 (Z7 q6 (Z7 q23 (Z7 q17 (Z7 (decide (q8<0)) q18 (Z7 (decide (q8>1125899906842624)) q18 q19)) q18) q18) False) False) q18) False) False))
 (Z7 (decide (q1=3)) (Z7 q2 (Z7 q4 (Z7 q6 (Z7 q24 (Z7 q17 (Z7 (decide (q8<0)) q18 (Z7 (decide (q8>1125899906842624)) q18 q19)) q18) q18) False) False) (Z7 q20 (Z7 q21 (Z7 q22 (Z7 q4 (Z7 q6 (Z7 q24 (Z7 q17 (Z7 (decide (q8<0)) q18 (Z7 (decide (q8>1125899906842624)) q18 q19)) q18) q18) False) False) q18) False) False))
 (Z7 (decide (q1=4)) (Z7 q2 (Z7 q25 (Z7 q17 (Z7 (decide (q8<0)) q18 (Z7 (decide (q8>1125899906842624)) q18 q19)) q18) q18) (Z7 q20 (Z7 q21 (Z7 q22 (Z7 q25 (Z7 q17 (Z7 (decide (q8<0)) q18 (Z7 (decide (q8>1125899906842624)) q18 q19)) q18) q18) q18) False) False)) (Z7 (decide (q1=5)) (Z7 q2 (Z7 q25 (Z7 q17 (Z7 (decide (q8<0)) q18 (Z7 (decide (q8>1125899906842624)) q18 q19)) q18) q18) (Z7 q20 (Z7 q21 (Z7 q22 (Z7 q25 (Z7 q17 (Z7 (decide (q8<0)) q18 (Z7 (decide (q8>1125899906842624)) q18 q19)) q18) q18) q18) False) False)) (Z7 q2 q18 (Z7 q20 (Z7 q21 q18 False) False)))))))
 False) (by kernel_rfl) ?_
 conv=>zeta
 obtain ⟨h1,h2,h3,h4⟩:=ho
 subst hb
 have hz:[(0:Int),0,0,0,0,0,0,0,0,0,0,0,0,0,0,0,0,0,0,0,0,0,0,0,0,0,0,0,0,0,0,0]=Z5:=rfl
 have hg:List.getD [o.amount] 0 0=o.amount:=rfl
 simp only [hz,hg,Z0A]
 unfold ZD
 generalize (o.other==Z5)=bo
 generalize (o.point==Z5)=bp
 generalize (o.hash==Z5)=bh
 generalize X2 o.owner o.other=cc
 by_cases k1:o.kind=1
 ·cases bo<;>cases bp<;>cases bh<;>simp [k1,h1,h2,h3,h4]<;>first|omega|grind
 by_cases k2:o.kind=2
 ·cases bp<;>cases bh<;>simp [k2,h1,h2,h3,h4]<;>first|omega|grind
 by_cases k3:o.kind=3
 ·cases bo<;>cases bh<;>simp [k3,h1,h2,h3,h4]<;>first|omega|grind
 by_cases k4:o.kind=4
 ·simp [k4,h1,h2,h3,h4]<;>first|omega|grind
 by_cases k5:o.kind=5
 ·simp [k5,h1,h2,h3,h4]<;>first|omega|grind
 simp [k1,k2,k3,k4,k5]
 omega
def Zi2 (R:ZE->Bool):ZH:=fun args _ K=>match args with
 | [.agg [.int .i64 kd,.int .i64 am,.arr .u8 32 ow,.arr .u8 32 ot,.arr .u8 32 po,.arr .u8 32 ha,.int .i64 de,.int .i64 ex]]=>Z6 (ow.length=32/\ot.length=32/\po.length=32/\ha.length=32) (K (.bool (R ⟨kd,am,ow,ot,po,ha,de,ex⟩)))
 | _=>False
theorem Zf2 (args:List AV) (h:Z8) (K:AV->Prop) (hl:Zi2 ZD args h K):Ze PP 49 args h fun o h'=>∃v,o=.ret v/\h'=h/\K v:=by
 unfold Zi2 at hl
 split at hl
 ·rename_i kd am ow ot po ha de ex
  obtain ⟨⟨h1,h2,h3,h4⟩,hK⟩:=Zb hl
  refine (Zs.ev Zm (Zcy ⟨kd,am,ow,ot,po,ha,de,ex⟩ _ ⟨h1,h2,h3,h4⟩ rfl)).calls (v':=.bool (ZD ⟨kd,am,ow,ot,po,ha,de,ex⟩)) (fun E w rs he hr=> ?_) rfl trivial ⟨_,rfl,rfl,hK⟩
  cases hr with
  | cons v r1 vs rs1 h1 hr=>
   cases hr
   exact .cons _ _ _ _ (h1.aggPlain rfl) .nil
 ·exact hl.elim
def Xt:List Nat->Nat->Option Nat
 | [],_=>none
 | x::_,0=>some x
 | _::r,n+1=>Xt r n
def XL:List Nat->Nat->Option Nat
 | [],_=>none
 | y::r,x=>match Nat.beq y x with
  | true=>some 0
  | false=>match XL r x with|some i=>some (i+1)|none=>none
theorem VQ:∀{σ:List Nat} {x i:Nat},XL σ x=some i->Xt σ i=some x
 | [],_,_,h=>by simp [XL] at h
 | y::r,x,i,h=>by
  unfold XL at h
  split at h
  ·rename_i hb
   have:=J0 hb
   cases h
   simp [Xt,this]
  ·split at h
   ·rename_i j hj
    cases h
    exact (VQ (σ:=r) hj:Xt r _=some x)
   ·cases h
theorem Z18:∀{σ:List Nat} {x:Nat},XL σ x=none->x∉σ
 | [],_,_=>by simp
 | y::r,x,h=>by
  unfold XL at h
  split at h
  ·cases h
  ·rename_i hb
   split at h
   ·cases h
   ·rename_i hj
    intro hm
    rcases Jd.1 hm with rfl|hm
    ·simp [Jj] at hb
    ·exact Z18 hj hm
theorem XM:∀{σ:List Nat} {i x:Nat},Xt σ i=some x->x∈σ
 | [],_,_,h=>by simp [Xt] at h
 | y::r,0,x,h=>by simp [Xt] at h;simp [h]
 | y::r,i+1,x,h=>Jv _ (XM (σ:=r) h)
theorem Z9t:∀{σ:List Nat} {i x:Nat},Xt σ i=some x->i<σ.length
 | [],_,_,h=>by simp [Xt] at h
 | y::r,0,x,h=>by simp
 | y::r,i+1,x,h=>by have:=Z9t (σ:=r) h;simp;omega
theorem Z9u:∀{σ:List Nat} {i:Nat},σ.length<=i->Xt σ i=none
 | [],_,_=>by simp [Xt]
 | y::r,0,h=>by simp at h
 | y::r,i+1,h=>by simp at h;exact Z9u (σ:=r) h
def Env.borL (E:Env) (σ:List Nat) (w:World) (t:Bool):Env:=
 ⟨fun y=>match t with|true=>(match Xt σ y with|some x=>E.blk x|none=>none)|false=>none,fun a c=>w.cell? a=some c/\∀x,x∈σ->∀N,E.blk x=some (a.block,N)->False⟩
mutual
def vwV (σ:List Nat) (h:Z8) (t:Bool):Nat->AV->(AV->Prop)->Prop
 | 0,_,_=>False
 | d+1,v,K=>match v with
  | .top=>K .top
  | .bool b=>K (.bool b)
  | .int k n=>K (.int k n)
  | .str s=>K (.str s)
  | .ptr none=>K (.ptr none)
  | .eslice=>K .eslice
  | .fslice=>K .fslice
  | .nilslice=>K .nilslice
  | .map none=>K (.map none)
  | .nilFunc=>K .nilFunc
  | .nilIface=>K .nilIface
  | .pview cs inn=>K (.pview cs inn)
  | .vints k xs len=>K (.vints k xs len)
  | .vrows esz n f len=>K (.vrows esz n f len)
  | .ptr (some p)=>match XL σ p.blk with
   | some i=>match t with|false=>False|true=>K (.ptr (some ⟨i,p.row,p.sz,p.off,p.inn⟩))
   | none=>match h.get p.blk with
    | some (.flat cs)=>match p.row,YF p.off cs with
     | 0,some rest=>vwC σ h false d rest fun rest'=>K (.pview rest' p.inn)
     | _,_=>False
    | some (.rows sz n f)=>match Nat.beq sz p.sz with
     | true=>Z6 (p.row<n) (match YF p.off (f p.row) with
      | some rest=>vwC σ h false d rest fun rest'=>K (.pview rest' p.inn)
      | none=>False)
     | false=>False
    | _=>False
  | .nslice p esz len lo=>match XL σ p.blk with
   | some i=>match t with|false=>False|true=>K (.nslice ⟨i,p.row,p.sz,p.off,p.inn⟩ esz len lo)
   | none=>match h.get p.blk with
    | some (.ints k xs)=>match Nat.beq esz 1 with
     | true=>Z6 (p.tot+len<=xs.length) (K (.vints k ((Y0 p.tot xs).take len) len))
     | false=>False
    | some (.rows sz n f)=>match Nat.beq sz esz&&Nat.beq p.off 0&&Nat.beq p.inn 0&&(Nat.beq p.sz esz||Nat.beq p.row 0) with
     | true=>Z6 (p.row+len<=n) ((∀i,i<len->plainC (Yj p.row f i)=true)/\K (.vrows esz len (Yj p.row f) len))
     | false=>False
    | some (.flat cs)=>match p.row,YF p.off cs with
     | 0,some rest=>match Z9p rest&&Nat.beq esz 1 with
      | true=>match rest with
       | .arr k n xs::_=>match Nat.beq esz 1,Nat.beq p.inn 0&&Nat.beq len n with
        | true,true=>Z6 (xs.length=n) (K (.vints k xs len))
        | true,false=>Z6 (xs.length=n/\p.inn+len<=n) (K (.vints k ((Y0 p.inn xs).take len) len))
        | false,_=>False
       | _=>False
      | false=>match Nat.beq p.inn 0,takeC (len*esz) rest with
       | true,some part=>vwC σ h false d part fun part'=>match QM part' 0 esz len with
        | true=>K (.vrows esz len (Y9 part' 0 esz) len)
        | false=>False
       | _,_=>False
     | _,_=>False
    | _=>False
  | .func (.func g) fs cs=>vwL σ h t d fs fun fs'=>vwL σ h t d cs fun cs'=>K (.func (.func g) fs' cs')
  | .iface T u=>vwV σ h t d u fun u'=>K (.iface T u')
  | .agg cs=>vwC σ h t d cs fun cs'=>K (.agg cs')
  | .tuple vs=>vwL σ h t d vs fun vs'=>K (.tuple vs')
  | _=>False
def vwC (σ:List Nat) (h:Z8) (t:Bool):Nat->List AV->(List AV->Prop)->Prop
 | 0,_,_=>False
 | d+1,l,K=>match l with
  | []=>K []
  | .arr k n xs::r=>vwC σ h t d r fun r'=>K (.arr k n xs::r')
  | v::r=>vwV σ h t d v fun v'=>match v'.isCell with
   | true=>vwC σ h t d r fun r'=>K (v'::r')
   | false=>False
def vwL (σ:List Nat) (h:Z8) (t:Bool):Nat->List AV->(List AV->Prop)->Prop
 | 0,_,_=>False
 | d+1,l,K=>match l with
  | []=>K []
  | v::r=>vwV σ h t d v fun v'=>vwL σ h t d r fun r'=>K (v'::r')
end
theorem Z3a {E:Env} {w:World} {t:Bool} {h:Z8} (he:Emb E h w) (hm:∀x,x∈σ->∃B,h.get x=some B):E.views.le (E.borL σ w t).views:=
 ⟨fun _ _ hq=>by simp [Env.views] at hq,fun a c hi=>⟨he.imm a c hi,fun x hx N hb=>let ⟨B,hB⟩:=hm x hx;he.sep a c x B N hi hB hb⟩⟩
theorem Z3b {E:Env} {w:World} {t:Bool} {h:Z8} (he:Emb E h w) (hm:∀x,x∈σ->∃B,h.get x=some B) {a:Addr} {c:Value} (hi:E.imm a c):(E.borL σ w t).imm a c:=
 ⟨he.imm a c hi,fun x hx N hb=>let ⟨B,hB⟩:=hm x hx;he.sep a c x B N hi hB hb⟩
theorem W2 {E:Env} {w:World} {t:Bool} {h:Z8} (he:Emb E h w) (hm:∀x,x∈σ->∃B,h.get x=some B) {y b N o:Nat} (hy:h.get y=some B) (hb:E.blk y=some (b,N)) (hn:XL σ y=none) {c:Value}
  (hc:w.cell? ⟨b,o,none⟩=some c):(E.borL σ w t).imm ⟨b,o,none⟩ c:=
 ⟨hc,fun x hx N' hbx=>by
  obtain ⟨C,hC⟩:=hm x hx
  have:=he.disj x y C B b N' N hC hy hbx hb
  subst this
  exact Z18 hn hx⟩
theorem V2 {E:Env} {w:World} {x i:Nat} (h:XL σ x=some i):(E.borL σ w true).blk i=E.blk x:=by
 show (match Xt σ i with|some x=>E.blk x|none=>none)=_
 rw [VQ h]
set_option maxHeartbeats 2000000 in
mutual
theorem Z8f {σ:List Nat} {h:Z8} (hm:∀x,x∈σ->∃B,h.get x=some B):∀(d:Nat) (t:Bool) (v:AV) (K:AV->Prop),vwV σ h t d v K->∃v₀,K v₀/\∀(E:Env) (w:World) (r:Value),Emb E h w->Zh E v r->Zh (E.borL σ w t) v₀ r
 | 0,t,v,K,hl=>by unfold vwV at hl;exact hl.elim
 | d+1,t,v,K,hl=>by
  unfold vwV at hl
  split at hl
  ·exact ⟨_,hl,fun E w r he hv=>.top r⟩
  ·exact ⟨_,hl,fun E w r he hv=>hv.plain rfl⟩
  ·exact ⟨_,hl,fun E w r he hv=>hv.plain rfl⟩
  ·exact ⟨_,hl,fun E w r he hv=>hv.plain rfl⟩
  ·exact ⟨_,hl,fun E w r he hv=>hv.plain rfl⟩
  ·exact ⟨_,hl,fun E w r he hv=>hv.plain rfl⟩
  ·exact ⟨_,hl,fun E w r he hv=>hv.plain rfl⟩
  ·exact ⟨_,hl,fun E w r he hv=>hv.plain rfl⟩
  ·exact ⟨_,hl,fun E w r he hv=>hv.plain rfl⟩
  ·exact ⟨_,hl,fun E w r he hv=>hv.plain rfl⟩
  ·exact ⟨_,hl,fun E w r he hv=>hv.plain rfl⟩
  ·refine ⟨_,hl,fun E w r he hv=> ?_⟩
   cases hv with
   | pview cs inn a vs hc hi=>exact .pview _ _ a vs (hc.mono (Z3a he hm)) (fun j c hj=>Z3b he hm (hi j c hj))
  ·refine ⟨_,hl,fun E w r he hv=> ?_⟩
   cases hv with
   | vintsNil k xs len h1 h2=>exact .vintsNil _ _ _ h1 h2
   | vints k xs len a cap h1 h2 hi=>exact .vints _ _ _ a cap h1 h2 (fun i hi'=>Z3b he hm (hi i hi'))
  ·refine ⟨_,hl,fun E w r he hv=> ?_⟩
   cases hv with
   | vrowsNil esz n f len h1 h2=>exact .vrowsNil _ _ _ _ h1 h2
   | vrows esz n f len a cap g h1 h2 hc hl' hi=>exact .vrows _ _ _ _ a cap g h1 h2 (fun i hi'=>(hc i hi').mono (Z3a he hm)) hl' (fun i j c hi' hj=>Z3b he hm (hi i j c hi' hj))
  ·rename_i p
   split at hl
   ·rename_i ix hmv
    split at hl
    ·exact hl.elim
    ·refine ⟨_,hl,fun E w r he hv=> ?_⟩
     cases hv with
     | ptr p b N hb=>exact .ptr ⟨ix,p.row,p.sz,p.off,p.inn⟩ b N (by rw [V2 hmv];exact hb)
   ·rename_i hmv
    split at hl
    ·rename_i cs hg
     split at hl
     ·rename_i rest hrow hrest
      obtain ⟨rest',hK,hr⟩:=Z03 hm d false rest _ hl
      refine ⟨_,hK,fun E w r he hv=> ?_⟩
      cases hv with
      | ptr p b N hb=>
       cases he.own _ _ hg with
       | flat0 cs h0 hn=>rw [hn] at hb;cases hb
       | flat cs b' cells elem fr vs hb' hw hf hc hvs=>
        rw [hb] at hb'
        cases hb'
        have hd:=(Y2 _ _ _ _ hrest hc).1
        have e:(⟨b,p.tot,none⟩:Addr)=(⟨b,p.off,none⟩:Addr).add p.inn:=by rw [addr_add];simp [ZM.tot,hrow]
        rw [e]
        refine .pview _ _ ⟨b,p.off,none⟩ _ (hr E w _ he hd) (fun j c hj=> ?_)
        rw [addr_add]
        refine W2 he hm hg hb hmv (Z1Y hvs hw ?_)
        rw [Jm] at hj
        exact hj
     ·exact hl.elim
    ·rename_i sz n f hg
     split at hl
     ·rename_i hsz
      have hsz:=J0 hsz
      obtain ⟨hrow,hl⟩:=Zb hl
      split at hl
      ·rename_i rest hrest
       obtain ⟨rest',hK,hr⟩:=Z03 hm d false rest _ hl
       refine ⟨_,hK,fun E w r he hv=> ?_⟩
       cases hv with
       | ptr p b N hb=>
        cases he.own _ _ hg with
        | rows0 sz n f h0 hn=>omega
        | rows sz n f b' cells elem fr g hb' hw hf hc hlg hvs=>
         rw [hb] at hb'
         cases hb'
         have hd:=(Y2 _ _ _ _ hrest (hc _ hrow)).1
         have e:(⟨b,p.tot,none⟩:Addr)=(⟨b,p.row*sz+p.off,none⟩:Addr).add p.inn:=by rw [addr_add];simp [ZM.tot,hsz]
         rw [e]
         refine .pview _ _ ⟨b,p.row*sz+p.off,none⟩ _ (hr E w _ he hd) (fun j c hj=> ?_)
         rw [addr_add]
         refine W2 he hm hg hb hmv ?_
         rw [Jm] at hj
         rw [cell_of_heap hw,Nat.add_assoc]
         exact hvs _ _ _ hrow hj
      ·exact hl.elim
     ·exact hl.elim
    ·exact hl.elim
  ·rename_i p esz len lo
   split at hl
   ·rename_i ix hmv
    split at hl
    ·exact hl.elim
    ·refine ⟨_,hl,fun E w r he hv=> ?_⟩
     cases hv with
     | nslice0 p esz len lo a h1 h2=>exact .nslice0 _ _ _ _ a h1 h2
     | nslice p esz len lo b N cap hb h1 h2 h3=>exact .nslice ⟨ix,p.row,p.sz,p.off,p.inn⟩ _ _ _ b N cap (by rw [V2 hmv];exact hb) h1 h2 h3
   ·rename_i hmv
    split at hl
    ·rename_i k xs hg
     split at hl
     ·rename_i hes
      have hes:=J0 hes
      subst hes
      obtain ⟨hle,hK⟩:=Zb hl
      have hlen:((Y0 p.tot xs).take len).length=len:=by rw [Yk,Jp,Jt];omega
      refine ⟨_,hK,fun E w r he hv=> ?_⟩
      cases hv with
      | nslice0 p esz len lo a h1 h2=>
       subst h1
       cases a with
       | none=>exact .vintsNil _ _ _ (by simp) rfl
       | some a=>exact .vints _ _ _ a 0 (by simp) (by simp) (fun i hi=>by simp at hi)
      | nslice p esz len lo b N cap hb h1 h2 h3=>
       refine .vints _ _ _ _ cap (by omega) (by omega) (fun i hi=> ?_)
       rw [hlen] at hi
       rw [addr_add]
       refine W2 he hm hg hb hmv ?_
       cases he.own _ _ hg with
       | ints0 k xs h0 hn=>rw [hn] at hb;cases hb
       | ints k xs b' cells elem fr hb' hw hf hvs=>
        rw [hb] at hb'
        cases hb'
        rw [cell_of_heap hw,hvs _ (by omega)]
        congr 2
        rw [Yk]
        simp [J2,hi,Jm]
     ·exact hl.elim
    ·rename_i sz n f hg
     split at hl
     ·rename_i hb
      simp only [J3,JR] at hb
      obtain ⟨⟨⟨q1,q2⟩,q3⟩,q4⟩:=hb
      have q1:=J0 q1
      have q2:=J0 q2
      have q3:=J0 q3
      obtain ⟨hle,hpl,hK⟩:=Zb hl
      refine ⟨_,hK,fun E w r he hv=> ?_⟩
      have htot:p.tot=p.row*sz:=by
       rcases q4 with q4|q4
       ·have:=J0 q4;simp [ZM.tot,q2,q3,this,q1]
       ·have:=J0 q4;simp [ZM.tot,q2,q3,this]
      cases hv with
      | nslice0 p esz len lo a h1 h2=>
       subst h1
       cases a with
       | none=>exact .vrowsNil _ _ _ _ rfl rfl
       | some a=>exact .vrows _ _ _ _ a 0 (fun _=>[]) (by omega) (by omega) (fun i hi=>by omega) (fun i hi=>by omega) (fun i j c hi=>by omega)
      | nslice p esz len lo b N cap hb h1 h2 h3=>
       cases he.own _ _ hg with
       | rows0 sz n f h0 hn=>rw [hn] at hb;cases hb
       | rows sz n f b' cells elem fr g hb' hw hf hc hlg hvs=>
        rw [hb] at hb'
        cases hb'
        refine .vrows _ _ _ _ _ cap (fun i=>g (p.row+i)) (by omega) h1 (fun i hi=> ?_) (fun i hi=>by rw [<-q1];exact hlg _ (by omega)) (fun i j c hi hj=> ?_)
        ·have:=hc (p.row+i) (by omega)
         have hp:=hpl i hi
         rw [Z0R] at hp⊢
         exact this.plain hp
        ·rw [addr_add]
         refine W2 he hm hg hb hmv ?_
         rw [cell_of_heap hw,htot,<-q1]
         have:=hvs (p.row+i) j c (by omega) hj
         rw [JT] at this
         rw [show p.row*sz+(i*sz+j)=p.row*sz+i*sz+j by omega]
         exact this
     ·exact hl.elim
    ·rename_i cs hg
     split at hl
     ·rename_i rest hrow hrest
      have hbase:∀(E:Env) (w:World) (b N:Nat),Emb E h w->E.blk p.blk=some (b,N)->∃vs,Zr E rest vs/\∀j c,vs[j]? =some c->w.cell? ⟨b,p.off+j,none⟩=some c:=by
       intro E w b N he hb
       cases he.own _ _ hg with
       | flat0 cs h0 hn=>rw [hn] at hb;cases hb
       | flat cs b' cells elem fr vs hb' hw hf hc hvs=>
        rw [hb] at hb'
        cases hb'
        refine ⟨_,(Y2 _ _ _ _ hrest hc).1,fun j c hj=> ?_⟩
        rw [Jm] at hj
        exact Z1Y hvs hw hj
      split at hl
      ·split at hl
       ·rename_i k n xs rest2 harr
        split at hl
        ·rename_i hes hbb
         have hes:=J0 hes
         subst hes
         rw [J3] at hbb
         have e1:=J0 hbb.1
         have e2:=J0 hbb.2
         obtain ⟨hxl,hK⟩:=Zb hl
         refine ⟨_,hK,fun E w r he hv=> ?_⟩
         cases hv with
         | nslice0 p esz len lo a h1 h2=>
          have hx0:xs=[]:=by
           have:xs.length=0:=by omega
           exact Kl.1 this
          subst hx0
          subst h1
          cases a with
          | none=>exact .vintsNil _ _ _ rfl rfl
          | some a=>exact .vints _ _ _ a 0 (by simp) (by simp) (fun i hi=>by simp at hi)
         | nslice p esz len lo b N cap hb h1 h2 h3=>
          obtain ⟨vs,hcr,hcell⟩:=hbase E w b N he hb
          obtain ⟨ws,rfl,_⟩:=Zr.cons_arr hcr
          refine .vints _ _ _ _ cap (by omega) (by omega) (fun i hi=> ?_)
          rw [addr_add]
          refine W2 he hm hg hb hmv ?_
          have:=hcell i (.int k (xs.getD i 0)) (by
           rw [Jb (by rw [Z9];omega),Zn (by omega)])
          rw [show p.tot+i=p.off+i by simp [ZM.tot,hrow,e1]]
          exact this
        ·rename_i hes hbb
         have hes:=J0 hes
         subst hes
         obtain ⟨⟨hxl,hle⟩,hK⟩:=Zb hl
         have hlen:((Y0 p.inn xs).take len).length=len:=by rw [Yk,Jp,Jt];omega
         refine ⟨_,hK,fun E w r he hv=> ?_⟩
         cases hv with
         | nslice0 p esz len lo a h1 h2=>
          subst h1
          cases a with
          | none=>exact .vintsNil _ _ _ (by simp) rfl
          | some a=>exact .vints _ _ _ a 0 (by simp) (by simp) (fun i hi=>by simp at hi)
         | nslice p esz len lo b N cap hb h1 h2 h3=>
          obtain ⟨vs,hcr,hcell⟩:=hbase E w b N he hb
          obtain ⟨ws,rfl,_⟩:=Zr.cons_arr hcr
          refine .vints _ _ _ _ cap (by omega) (by omega) (fun i hi=> ?_)
          rw [hlen] at hi
          rw [addr_add]
          refine W2 he hm hg hb hmv ?_
          have:=hcell (p.inn+i) (.int k (xs.getD (p.inn+i) 0)) (by
           rw [Jb (by rw [Z9];omega),Zn (by omega)])
          rw [show p.tot+i=p.off+(p.inn+i) by simp [ZM.tot,hrow];omega]
          rw [this]
          congr 2
          rw [Yk]
          simp [J2,hi,Jm]
        ·exact hl.elim
       ·exact hl.elim
      ·split at hl
       ·rename_i part hinn hpart
        have hinn:=J0 hinn
        obtain ⟨part',hK,hr⟩:=Z03 hm d false part _ hl
        split at hK
        ·rename_i hrows
         refine ⟨_,hK,fun E w r he hv=> ?_⟩
         cases hv with
         | nslice0 p esz len lo a h1 h2=>
          subst h1
          cases a with
          | none=>exact .vrowsNil _ _ _ _ rfl rfl
          | some a=>exact .vrows _ _ _ _ a 0 (fun _=>[]) (by omega) (by omega) (fun i hi=>by omega) (fun i hi=>by omega) (fun i j c hi=>by omega)
         | nslice p esz len lo b N cap hb h1 h2 h3=>
          obtain ⟨vs,hcr,hcell⟩:=hbase E w b N he hb
          have hpr:=(VD _ _ _ _ hpart hcr).1
          have hpr':=hr E w _ he hpr
          refine .vrows _ _ _ _ _ cap (fun i=>((vs.take (len*esz)).drop (0+i*esz)).take esz) (by omega) h1 (fun i hi=>(XB (X0 hrows i hi) hpr').1) (fun i hi=>(XB (X0 hrows i hi) hpr').2) (fun i j c hi hj=> ?_)
          rw [addr_add]
          refine W2 he hm hg hb hmv ?_
          rw [JF] at hj
          split at hj
          ·rw [Jm,JF] at hj
           split at hj
           ·have:=hcell _ _ hj
            rw [show p.tot+(i*esz+j)=p.off+(0+i*esz+j) by simp [ZM.tot,hrow,hinn]]
            exact this
           ·cases hj
          ·cases hj
        ·exact hK.elim
       ·exact hl.elim
     ·exact hl.elim
    ·exact hl.elim
  ·obtain ⟨fs',hl,h1⟩:=Z3c hm d t _ _ hl
   obtain ⟨cs',hl,h2⟩:=Z3c hm d t _ _ hl
   refine ⟨_,hl,fun E w r he hv=> ?_⟩
   cases hv with
   | func fn first captured fs cs ha hb=>exact .func _ _ _ _ _ (h1 E w _ he ha) (h2 E w _ he hb)
  ·obtain ⟨u',hl,h1⟩:=Z8f hm d t _ _ hl
   refine ⟨_,hl,fun E w r he hv=> ?_⟩
   cases hv with
   | iface T v x hx=>exact .iface _ _ _ (h1 E w _ he hx)
  ·obtain ⟨cs',hl,h1⟩:=Z03 hm d t _ _ hl
   refine ⟨_,hl,fun E w r he hv=> ?_⟩
   cases hv with
   | agg cs vs hc=>exact .agg _ _ (h1 E w _ he hc)
  ·obtain ⟨vs',hl,h1⟩:=Z3c hm d t _ _ hl
   refine ⟨_,hl,fun E w r he hv=> ?_⟩
   cases hv with
   | tuple vs rs hc=>exact .tuple _ _ (h1 E w _ he hc)
  ·exact hl.elim
theorem Z03 {σ:List Nat} {h:Z8} (hm:∀x,x∈σ->∃B,h.get x=some B):∀(d:Nat) (t:Bool) (l:List AV) (K:List AV->Prop),vwC σ h t d l K->∃l₀,K l₀/\∀(E:Env) (w:World) (r:List Value),Emb E h w->Zr E l r->Zr (E.borL σ w t) l₀ r
 | 0,t,l,K,hl=>by unfold vwC at hl;exact hl.elim
 | d+1,t,l,K,hl=>by
  unfold vwC at hl
  split at hl
  ·exact ⟨_,hl,fun E w r he hv=>by cases hv;exact .nil⟩
  ·obtain ⟨r',hl,h1⟩:=Z03 hm d t _ _ hl
   refine ⟨_,hl,fun E w r he hv=> ?_⟩
   obtain ⟨ws,rfl,ht⟩:=Zr.cons_arr hv
   exact .arr _ _ _ _ _ (h1 E w _ he ht)
  ·rename_i v r hna
   obtain ⟨v',hl,h1⟩:=Z8f hm d t _ _ hl
   split at hl
   ·rename_i hcell
    obtain ⟨r',hl,h2⟩:=Z03 hm d t _ _ hl
    refine ⟨_,hl,fun E w q he hv=> ?_⟩
    obtain ⟨c,ws,rfl,q1,q2,q3,q4⟩:=Zr.cons_cell hv (fun k m xs e=>hna k m xs e)
    exact .one _ _ _ _ hcell q2 (h1 E w _ he q3) (h2 E w _ he q4)
   ·exact hl.elim
theorem Z3c {σ:List Nat} {h:Z8} (hm:∀x,x∈σ->∃B,h.get x=some B):∀(d:Nat) (t:Bool) (l:List AV) (K:List AV->Prop),vwL σ h t d l K->∃l₀,K l₀/\∀(E:Env) (w:World) (r:List Value),Emb E h w->Zz E l r->Zz (E.borL σ w t) l₀ r
 | 0,t,l,K,hl=>by unfold vwL at hl;exact hl.elim
 | d+1,t,l,K,hl=>by
  unfold vwL at hl
  split at hl
  ·exact ⟨_,hl,fun E w r he hv=>by cases hv;exact .nil⟩
  ·obtain ⟨v',hl,h1⟩:=Z8f hm d t _ _ hl
   obtain ⟨r',hl,h2⟩:=Z3c hm d t _ _ hl
   refine ⟨_,hl,fun E w q he hv=> ?_⟩
   cases hv with
   | cons v c vs cs ha hb=>exact .cons _ _ _ _ (h1 E w _ he ha) (h2 E w _ he hb)
end
def vwB (σ:List Nat) (h:Z8) (d:Nat) (B:Blk) (K:Blk->Prop):Prop:=
 match B with
 | .ints k xs=>K (.ints k xs)
 | .flat cs=>vwC σ h true d cs fun cs'=>match Nat.beq (csz cs') (csz cs) with|true=>K (.flat cs')|false=>False
 | .rows sz n f=>(∀i,i<n->plainC (f i)=true)/\K (.rows sz n f)
 | _=>False
theorem Zi3 {h:Z8} (hm:∀x,x∈σ->∃B,h.get x=some B) {d:Nat} {K:Blk->Prop} (hl:vwB σ h d B K):
  ∃B₀,K B₀/\∀(E:Env) (w:World) (x i:Nat),Emb E h w->XL σ x=some i->Yw E w x B->Yw (E.borL σ w true) w i B₀:=by
 unfold vwB at hl
 split at hl
 ·refine ⟨_,hl,fun E w x i he hi hb=> ?_⟩
  have hq:=V2 (E:=E) (w:=w) hi
  cases hb with
  | ints0 k xs h0 hn=>exact .ints0 _ _ h0 (hq.trans hn)
  | ints k xs b cells elem fr hb hw hf hv=>exact .ints _ _ b cells elem fr (hq.trans hb) hw hf hv
 ·obtain ⟨cs',hl,hr⟩:=Z03 hm _ _ _ _ hl
  split at hl
  ·rename_i hz
   have hz:=J0 hz
   refine ⟨_,hl,fun E w x i he hi hb=> ?_⟩
   have hq:=V2 (E:=E) (w:=w) hi
   cases hb with
   | flat0 cs h0 hn=>exact .flat0 _ (hz.trans h0) (hq.trans hn)
   | flat cs b cells elem fr vs hb hw hf hc hv=>exact .flat _ b cells elem fr vs (hq.trans hb) hw hf (hr E w vs he hc) hv
  ·exact hl.elim
 ·obtain ⟨hp,hl⟩:=hl
  refine ⟨_,hl,fun E w x i he hi hb=> ?_⟩
  have hq:=V2 (E:=E) (w:=w) hi
  cases hb with
  | rows0 sz n f h0 hn=>exact .rows0 _ _ _ h0 (hq.trans hn)
  | rows sz n f b cells elem fr g hb hw hf hc hl hv=>exact .rows _ _ _ b cells elem fr g (hq.trans hb) hw hf (fun i hi=>(hc i hi).plain (hp i hi)) hl hv
 ·exact hl.elim
def Zf3 (σ:List Nat) (h:Z8) (d:Nat):List Nat->(List Blk->Prop)->Prop
 | [],K=>K []
 | x::r,K=>match h.get x with
  | some B=>vwB σ h d B fun B'=>Zf3 σ h d r fun Bs=>K (B'::Bs)
  | none=>False
theorem Z9v {σ:List Nat} {h:Z8} (hm:∀x,x∈σ->∃B,h.get x=some B) {d:Nat}:∀(r:List Nat) (K:List Blk->Prop),Zf3 σ h d r K->
  ∃Bs,K Bs/\Bs.length=r.length/\∀(i x:Nat) (B:Blk),r[i]? =some x->Bs[i]? =some B->∃B',h.get x=some B'/\∀(E:Env) (w:World) (j:Nat),Emb E h w->XL σ x=some j->Yw E w x B'->Yw (E.borL σ w true) w j B
 | [],K,hl=>⟨[],hl,rfl,fun i x B h=>by simp at h⟩
 | y::r,K,hl=>by
  unfold Zf3 at hl
  split at hl
  ·rename_i B' hB'
   obtain ⟨B₀,hl,hr⟩:=Zi3 hm hl
   obtain ⟨Bs,hK,hlen,hall⟩:=Z9v hm r _ hl
   refine ⟨B₀::Bs,hK,by simp [hlen],fun i x B h1 h2=> ?_⟩
   match i with
   | 0=>simp at h1 h2;subst h1;subst h2;exact ⟨B',hB',fun E w j he hj hb=>hr E w _ j he hj hb⟩
   | i+1=>exact hall i x B (by simpa using h1) (by simpa using h2)
  ·exact hl.elim
def hasB (h:Z8):List Nat->Bool
 | []=>true
 | x::r=>match h.get x with|some _=>hasB h r|none=>false
theorem Z9w {h:Z8}:∀{σ:List Nat},hasB h σ=true->∀x,x∈σ->∃B,h.get x=some B
 | [],_,x,hx=>by simp at hx
 | y::r,hl,x,hx=>by
  unfold hasB at hl
  split at hl
  ·rename_i B hB
   rcases Jd.1 hx with rfl|hx
   ·exact ⟨B,hB⟩
   ·exact Z9w hl x hx
  ·cases hl
def Z4x:List Nat->Bool
 | []=>true
 | x::r=>match XL r x with|some _=>false|none=>Z4x r
theorem UR:∀{σ:List Nat},Z4x σ=true->∀(i x:Nat),Xt σ i=some x->XL σ x=some i
 | [],_,i,x,h=>by simp [Xt] at h
 | y::r,hd,0,x,h=>by simp [Xt] at h;subst h;simp [XL,Jj]
 | y::r,hd,i+1,x,h=>by
  unfold Z4x at hd
  split at hd
  ·cases hd
  ·rename_i hn
   have h1:Xt r i=some x:=h
   have h2:=UR hd i x h1
   have hne:y≠x:=fun e=>Z18 hn (e▸XM h1)
   simp [XL,Zx hne,h2]
def frA (σ:List Nat) (h:Z8) (d:Nat) (args:List AV) (K0:List Blk->List AV->Prop):Prop:=
 match hasB h σ&&Z4x σ with
 | true=>Zf3 σ h d σ fun Bs=>vwL σ h true d args fun a=>K0 Bs a
 | false=>False
theorem Z3d:∀{σ:List Nat} {i:Nat},Xt σ i=σ[i]?
 | [],_=>by simp [Xt]
 | x::r,0=>by simp [Xt]
 | x::r,i+1=>by simp [Xt,Z3d (σ:=r)]
theorem Zi4 {h:Z8} {d:Nat} (hl:frA σ h d args K0):
  (∀x,x∈σ->∃B,h.get x=some B)/\Z4x σ=true/\∃Bs a,K0 Bs a/\Bs.length=σ.length/\
   (∀(i x:Nat) (B:Blk),Xt σ i=some x->Bs[i]? =some B->∃B',h.get x=some B'/\∀(E:Env) (w:World),Emb E h w->Yw E w x B'->Yw (E.borL σ w true) w i B)/\
   ∀(E:Env) (w:World) (r:List Value),Emb E h w->Zz E args r->Zz (E.borL σ w true) a r:=by
 unfold frA at hl
 split at hl
 ·rename_i hc
  rw [J3] at hc
  have hm:=Z9w hc.1
  obtain ⟨Bs,hl,hlen,hall⟩:=Z9v hm _ _ hl
  obtain ⟨a,hK,ha⟩:=Z3c hm _ _ _ _ hl
  refine ⟨hm,hc.2,Bs,a,hK,hlen,fun i x B h1 h2=> ?_,ha⟩
  obtain ⟨B',hB',hr⟩:=hall i x B (by rw [<-Z3d];exact h1) h2
  exact ⟨B',hB',fun E w he hb=>hr E w i he (UR hc.2 i x h1) hb⟩
 ·exact hl.elim
def Spec (P:Program) (f:FuncId) (args:List AV) (h0:Z8) (o:Out) (nx:Nat) (bs:List (Nat×Blk)):Prop:=
 ∀(E:Env) (w:World) (rs:List Value),Emb E h0 w->Zz E args rs->Calls P f rs.toArray w fun e w'=>∃E',Evo E h0 w E' ⟨nx,bs⟩ w'/\QQ E' o e
theorem Z20 {k:Nat} {τ:Ren} {u:AV} {bs:List (Nat×Blk)} {h0 h:Z8} (hk:k=h0.next) (hl:ZZ k τ ⟨1,[(0,v)],⟨nx,bs⟩,[]⟩ ⟨1,[(0,u)],h,[]⟩ True) {E0 E:Env} {w0 w:World} {r:Value}
  (he0:Emb E0 h0 w0) (hev:Evo E0 h0 w0 E h w) (hr:Zh E u r):∃E',Evo E0 h0 w0 E' ⟨nx,bs⟩ w/\Zh E' v r:=by
 obtain ⟨_,hw⟩:=Y5 hl
 have hs:Vw E ⟨1,[(0,u)],h,[]⟩ { tmps:= #[r],defers:=[]} w:=by
  refine ⟨hev.emb,⟨rfl,fun x v' hx=> ?_⟩,.nil⟩
  simp only [ZL] at hx
  split at hx
  ·rename_i hb
   have:=J0 hb
   subst this
   cases hx
   exact hr
  ·cases hx
 obtain ⟨E₂,hs2,hev2⟩:=hw E0 h0 w0 E _ w (fun x hx=>he0.fresh x (hk▸hx)) hs hev
 refine ⟨E₂,hev2, ?_⟩
 have:=hs2.tmps.get 0 v (by simp [ZL])
 simpa using this
def mvN:List Nat->Nat->Nat->Nat
 | [],d,y=>d+y
 | x::_,_,0=>x
 | _::r,d,y+1=>mvN r d y
theorem Z8g:∀{σ:List Nat} {d y x:Nat},Xt σ y=some x->mvN σ d y=x
 | [],_,_,_,h=>by simp [Xt] at h
 | x::r,d,0,_,h=>by simpa [Xt,mvN] using h
 | x::r,d,y+1,_,h=>Z8g (σ:=r) h
theorem Z8h:∀{σ:List Nat} {d y:Nat},σ.length<=y->mvN σ d y=d+(y-σ.length)
 | [],d,y,_=>by simp [mvN]
 | x::r,d,0,h=>by simp at h
 | x::r,d,y+1,h=>by
  simp at h
  have:=Z8h (σ:=r) (d:=d) h
  simp [mvN,this]
theorem Z04:∀{σ:List Nat} {y:Nat},y<σ.length->∃x,Xt σ y=some x
 | [],_,h=>by simp at h
 | x::r,0,_=>⟨x,rfl⟩
 | x::r,y+1,h=>Z04 (σ:=r) (by simpa using h)
mutual
/-- Names moved. -/
def mvV (σ:List Nat) (d:Nat):AV->Option AV
 | .top=>some .top
 | .bool b=>some (.bool b)
 | .int k n=>some (.int k n)
 | .str s=>some (.str s)
 | .ptr none=>some (.ptr none)
 | .ptr (some p)=>some (.ptr (some ⟨mvN σ d p.blk,p.row,p.sz,p.off,p.inn⟩))
 | .nslice p esz len lo=>some (.nslice ⟨mvN σ d p.blk,p.row,p.sz,p.off,p.inn⟩ esz len lo)
 | .eslice=>some .eslice
 | .fslice=>some .fslice
 | .nilslice=>some .nilslice
 | .map none=>some (.map none)
 | .map (some x)=>some (.map (some (mvN σ d x)))
 | .nilFunc=>some .nilFunc
 | .nilIface=>some .nilIface
 | .func (.func g) fs cs=>match mvL σ d fs,mvL σ d cs with
  | some fs',some cs'=>some (.func (.func g) fs' cs')
  | _,_=>none
 | .iface t v=>match mvV σ d v with|some v'=>some (.iface t v')|none=>none
 | .agg cs=>match mvC σ d cs with|some cs'=>some (.agg cs')|none=>none
 | .tuple vs=>match mvL σ d vs with|some vs'=>some (.tuple vs')|none=>none
 | _=>none
def mvC (σ:List Nat) (d:Nat):List AV->Option (List AV)
 | []=>some []
 | .arr k n xs::r=>match mvC σ d r with|some r'=>some (.arr k n xs::r')|none=>none
 | v::r=>match mvV σ d v,mvC σ d r with
  | some v',some r'=>match v'.isCell with|true=>some (v'::r')|false=>none
  | _,_=>none
def mvL (σ:List Nat) (d:Nat):List AV->Option (List AV)
 | []=>some []
 | v::r=>match mvV σ d v,mvL σ d r with
  | some v',some r'=>some (v'::r')
  | _,_=>none
end
theorem Qh (h:v.isCell=true) (r:List AV):csz (v::r)=1+csz r:=by
 cases v<;>simp_all [AV.isCell,csz]
set_option maxHeartbeats 1000000 in
mutual
theorem Z3e {σ:List Nat} {d:Nat} {E E':Env} (hb:∀x r,E.blk x=some r->E'.blk (mvN σ d x)=some r):∀(v v':AV) (r:Value),mvV σ d v=some v'->Zh E v r->Zh E' v' r:=by
 intro v v' r h hv
 unfold mvV at h
 split at h
 ·cases h;exact .top r
 ·cases h;exact hv.plain rfl
 ·cases h;exact hv.plain rfl
 ·cases h;exact hv.plain rfl
 ·cases h;exact hv.plain rfl
 ·cases h
  cases hv with
  | ptr p b N hq=>exact .ptr ⟨mvN σ d _,_,_,_,_⟩ b N (hb _ _ hq)
 ·cases h
  cases hv with
  | nslice0 p esz len lo a h1 h2=>exact .nslice0 _ _ _ _ a h1 h2
  | nslice p esz len lo b N cap hq h1 h2 h3=>exact .nslice ⟨mvN σ d _,_,_,_,_⟩ _ _ _ b N cap (hb _ _ hq) h1 h2 h3
 ·cases h;exact hv.plain rfl
 ·cases h;exact hv.plain rfl
 ·cases h;exact hv.plain rfl
 ·cases h;exact hv.plain rfl
 ·cases h
  cases hv with
  | map x b N hq=>exact .map _ b N (hb _ _ hq)
 ·cases h;exact hv.plain rfl
 ·cases h;exact hv.plain rfl
 ·split at h
  ·rename_i fs' cs' h1 h2
   cases h
   cases hv with
   | func fn first captured fs cs ha hc=>exact .func _ _ _ _ _ (Z19 hb _ _ _ h1 ha) (Z19 hb _ _ _ h2 hc)
  ·cases h
 ·split at h
  ·rename_i v1 h1
   cases h
   cases hv with
   | iface t v x hx=>exact .iface _ _ _ (Z3e hb _ _ _ h1 hx)
  ·cases h
 ·split at h
  ·rename_i cs' h1
   cases h
   cases hv with
   | agg cs vs hc=>exact .agg _ _ (Z3f hb _ _ _ h1 hc).1
  ·cases h
 ·split at h
  ·rename_i vs' h1
   cases h
   cases hv with
   | tuple vs rs hc=>exact .tuple _ _ (Z19 hb _ _ _ h1 hc)
  ·cases h
 ·cases h
theorem Z3f {σ:List Nat} {d:Nat} {E E':Env} (hb:∀x r,E.blk x=some r->E'.blk (mvN σ d x)=some r):∀(l l':List AV) (r:List Value),mvC σ d l=some l'->Zr E l r->Zr E' l' r/\csz l'=csz l:=by
 intro l l' r h hv
 unfold mvC at h
 split at h
 ·cases h;cases hv;exact ⟨.nil,rfl⟩
 ·split at h
  ·rename_i r' h1
   cases h
   obtain ⟨ws,rfl,ht⟩:=Zr.cons_arr hv
   have:=Z3f hb _ _ _ h1 ht
   exact ⟨.arr _ _ _ _ _ this.1,by simp [csz,this.2]⟩
  ·cases h
 ·rename_i v r2 hna
  split at h
  ·rename_i v1 r1 h1 h2
   split at h
   ·rename_i hcell
    cases h
    obtain ⟨c,ws,rfl,q1,q2,q3,q4⟩:=Zr.cons_cell hv (fun k m xs e=>hna k m xs e)
    have:=Z3f hb _ _ _ h2 q4
    exact ⟨.one _ _ _ _ hcell q2 (Z3e hb _ _ _ h1 q3) this.1,by rw [Qh hcell,Qh q1,this.2]⟩
   ·cases h
  ·cases h
theorem Z19 {σ:List Nat} {d:Nat} {E E':Env} (hb:∀x r,E.blk x=some r->E'.blk (mvN σ d x)=some r):∀(l l':List AV) (r:List Value),mvL σ d l=some l'->Zz E l r->Zz E' l' r:=by
 intro l l' r h hv
 unfold mvL at h
 split at h
 ·cases h;cases hv;exact .nil
 ·split at h
  ·rename_i v1 r1 h1 h2
   cases h
   cases hv with
   | cons v c vs cs ha hc=>exact .cons _ _ _ _ (Z3e hb _ _ _ h1 ha) (Z19 hb _ _ _ h2 hc)
  ·cases h
end
theorem Zf4 {d:Nat}:∀(l l':List AV),mvC σ d l=some l'->csz l'=csz l:=by
 intro l
 induction l with
 | nil=>intro l' h;unfold mvC at h;cases h;rfl
 | cons v r ih=>
  intro l' h
  unfold mvC at h
  split at h
  ·rename_i hq;cases hq
  ·rename_i hq
   cases hq
   split at h
   ·rename_i r' h1
    cases h
    simp [csz,ih _ h1]
   ·cases h
  ·rename_i hna hq
   cases hq
   split at h
   ·rename_i v1 r1 h1 h2
    split at h
    ·rename_i hcell
     cases h
     have hv:v.isCell=true\/v.isCell=false:=by cases v.isCell<;>simp
     rcases hv with hv|hv
     ·rw [Qh hcell,Qh hv,ih _ h2]
     ·cases v with
      | arr k n xs=>exact absurd rfl (hna k n xs)
      | agg cs=>unfold mvV at h1;split at h1<;>cases h1;simp [AV.isCell] at hcell
      | tuple cs=>unfold mvV at h1;split at h1<;>cases h1;simp [AV.isCell] at hcell
      | _=>simp [AV.isCell] at hv
    ·cases h
   ·cases h
inductive MvB (σ:List Nat) (d:Nat):Blk->Blk->Prop
 | ints (k:IntKind) (xs:List Int):MvB σ d (.ints k xs) (.ints k xs)
 | flat (cs cs':List AV) (h:mvC σ d cs=some cs'):MvB σ d (.flat cs) (.flat cs')
 | rows (sz n:Nat) (f:Nat->List AV) (h:∀i,i<n->plainC (f i)=true):MvB σ d (.rows sz n f) (.rows sz n f)
 | rowsM (sz n:Nat) (f f':Nat->List AV) (h:∀i,i<n->mvC σ d (f i)=some (f' i)):MvB σ d (.rows sz n f) (.rows sz n f')
 | pmap (es es':List (AV×AV)) (h1:mvL σ d (es.map (·.1))=some (es'.map (·.1))) (h2:mvL σ d (es.map (·.2))=some (es'.map (·.2))):MvB σ d (.pmap es) (.pmap es')
inductive Z8i (σ:List Nat) (d:Nat):List (Nat×Blk)->List (Nat×Blk)->Prop
 | nil:Z8i σ d [] []
 | cons (y x:Nat) (B B':Blk) (r r':List (Nat×Blk)) (hx:mvN σ d y=x) (h:MvB σ d B B') (t:Z8i σ d r r'):Z8i σ d ((y,B)::r) ((x,B')::r')
inductive MvO (σ:List Nat) (d:Nat):Out->Out->Prop
 | ret (v v':AV) (h:mvV σ d v=some v'):MvO σ d (.ret v) (.ret v')
 | panic (v v':AV) (h:mvV σ d v=some v'):MvO σ d (.panic v) (.panic v')
theorem Z8i.get {d:Nat}:∀{bs bs':List (Nat×Blk)},Z8i σ d bs bs'->∀x B',ZO bs' x=some B'->∃y B,mvN σ d y=x/\ZO bs y=some B/\MvB σ d B B'
 | _,_,.nil,x,B',h=>by simp [ZO] at h
 | _,_,.cons y x0 B B0 r r' hx hm t,x,B',h=>by
  unfold ZO at h
  split at h
  ·rename_i hb
   have:=J0 hb
   cases h
   exact ⟨y,B,hx.trans this,by simp [ZO,Jj],hm⟩
  ·rename_i hb
   obtain ⟨z,C,h1,h2,h3⟩:=t.get x B' h
   refine ⟨z,C,h1, ?_,h3⟩
   have hne:y≠z:=fun e=>by subst e;rw [hx] at h1;subst h1;simp [Jj] at hb
   simp [ZO,Zx hne,h2]
theorem MvB.move {d:Nat} {B':Blk} (hm:MvB σ d B B') {E:Env} {w:World} {y:Nat} (hb:∀x r,E.blk x=some r->E'.blk (mvN σ d x)=some r) (hn:E.blk y=none->E'.blk (mvN σ d y)=none) (h:Yw E w y B):Yw E' w (mvN σ d y) B':=by
 cases hm with
 | ints k xs=>cases h with
  | ints0 k xs h0 hq=>exact .ints0 _ _ h0 (hn hq)
  | ints k xs b cells elem fr hq hw hf hv=>exact .ints _ _ b cells elem fr (hb _ _ hq) hw hf hv
 | flat cs cs' hc=>cases h with
  | flat0 cs h0 hq=>exact .flat0 _ ((Zf4 _ _ hc).trans h0) (hn hq)
  | flat cs b cells elem fr vs hq hw hf hcr hv=>exact .flat _ b cells elem fr vs (hb _ _ hq) hw hf (Z3f hb _ _ _ hc hcr).1 hv
 | rows sz n f hp=>cases h with
  | rows0 sz n f h0 hq=>exact .rows0 _ _ _ h0 (hn hq)
  | rows sz n f b cells elem fr g hq hw hf hcr hl hv=>exact .rows _ _ _ b cells elem fr g (hb _ _ hq) hw hf (fun i hi=>(hcr i hi).plain (hp i hi)) hl hv
 | rowsM sz n f f' hp=>cases h with
  | rows0 sz n f h0 hq=>exact .rows0 _ _ _ h0 (hn hq)
  | rows sz n f b cells elem fr g hq hw hf hcr hl hv=>exact .rows _ _ _ b cells elem fr g (hb _ _ hq) hw hf (fun i hi=>(Z3f hb _ _ _ (hp i hi) (hcr i hi)).1) hl hv
 | pmap es es' h1 h2=>cases h with
  | pmap es b k ents ents' clock hq hw hpp hnn hi hk hv=>exact .pmap _ b k ents ents' clock (hb _ _ hq) hw hpp hnn hi (Z19 hb _ _ _ h1 hk) (Z19 hb _ _ _ h2 hv)
def Qi (σ:List Nat) (bs:List (Nat×Blk)):List (Nat×Blk):=match σ with
 | []=>bs
 | x::r=>Qi r (Yl bs x)
theorem Z1x:∀{σ:List Nat} {bs:List (Nat×Blk)} {x:Nat} {B:Blk},ZO (Qi σ bs) x=some B->ZO bs x=some B/\x∉σ
 | [],bs,x,B,h=>⟨h,by simp⟩
 | y::r,bs,x,B,h=>by
  obtain ⟨h1,h2⟩:=Z1x (σ:=r) h
  by_cases hn:y=x
  ·subst hn;rw [Qu] at h1;cases h1
  ·rw [WL _ _ _ hn] at h1
   exact ⟨h1,by simp [h2,Ne.symm hn]⟩
theorem Spec.calls {P:Program} {f:FuncId} {args₀:List AV} {Bs:List Blk} {o o':Out} {bs bs':List (Nat×Blk)} {h:Z8} {K:KO} (hc:Spec P f args₀ ⟨σ.length,Ww 0 σ Bs⟩ o nx bs)
  (hlen:Bs.length=σ.length) (hm:∀x,x∈σ->∃B,h.get x=some B) (hd:Z4x σ=true)
  (hx:∀(i x:Nat) (B:Blk),Xt σ i=some x->Bs[i]? =some B->∃B',h.get x=some B'/\∀(E:Env) (w:World),Emb E h w->Yw E w x B'->Yw (E.borL σ w true) w i B)
  (ha:∀(E:Env) (w:World) (r:List Value),Emb E h w->Zz E args r->Zz (E.borL σ w true) args₀ r)
  (hnx:σ.length<=nx) (ho:MvO σ h.next o o') (hb:Z8i σ h.next bs bs') (hK:K o' ⟨h.next+(nx-σ.length),UM bs' (Qi σ h.bs)⟩):Ze P f args h K:=by
 intro E w rs he hr
 let E0:=E.borL σ w true
 have hsub:∀i x,Xt σ i=some x->E0.blk i=E.blk x:=fun i x hi=>by
  show (match Xt σ i with|some x=>E.blk x|none=>none)=_
  rw [hi]
 have hnone:∀i,σ.length<=i->E0.blk i=none:=fun i hi=>by
  show (match Xt σ i with|some x=>E.blk x|none=>none)=_
  rw [Z9u hi]
 have hσlt:∀x,x∈σ->x<h.next:=fun x hx=>let ⟨B,hB⟩:=hm x hx;he.lt x B hB
 have hsb:∀y B,ZO (Ww 0 σ Bs) y=some B->∃x,Xt σ y=some x/\Bs[y]? =some B:=fun y B hy=>by
  obtain ⟨i,x,rfl,h1,h2⟩:=XZ σ Bs 0 y B hy
  rw [JK]
  exact ⟨x,by rw [Z3d];exact h1,h2⟩
 have hinj:∀y z x,Xt σ y=some x->Xt σ z=some x->y=z:=fun y z x h1 h2=>by
  have a:=UR hd y x h1
  have b:=UR hd z x h2
  rw [a] at b
  cases b
  rfl
 have hemb:Emb E0 ⟨σ.length,Ww 0 σ Bs⟩ w:=by
  refine ⟨hnone, ?_, ?_, ?_,fun _ _ h=>h.1, ?_⟩
  ·intro y B hy
   obtain ⟨x,h1,_⟩:=hsb y B hy
   exact Z9t h1
  ·intro y B hy
   obtain ⟨x,h1,h2⟩:=hsb y B hy
   obtain ⟨B',hB',hq⟩:=hx y x B h1 h2
   exact hq E w he (he.own x B' hB')
  ·intro y z B C b N N' hy hz hby hbz
   obtain ⟨x,h1,h2⟩:=hsb y B hy
   obtain ⟨x',h3,h4⟩:=hsb z C hz
   rw [hsub y x h1] at hby
   rw [hsub z x' h3] at hbz
   obtain ⟨B',hB'⟩:=hm x (XM h1)
   obtain ⟨C',hC'⟩:=hm x' (XM h3)
   have:=he.disj x x' B' C' b N N' hB' hC' hby hbz
   subst this
   exact hinj y z x h1 h3
  ·intro a c y B N hi hy hbb
   obtain ⟨x,h1,_⟩:=hsb y B hy
   rw [hsub y x h1] at hbb
   exact hi.2 x (XM h1) N hbb
 refine (hc E0 w rs hemb (ha E w rs he hr)).mono ?_
 rintro e w' ⟨E₁,hev,hor⟩
 let E':Env:=⟨fun x=>match XL σ x with
  | some i=>E₁.blk i
  | none=>if x<h.next then E.blk x else E₁.blk (x-h.next+σ.length),E.imm⟩
 have hρ:∀y,E'.blk (mvN σ h.next y)=E₁.blk y:=fun y=>by
  rcases J9 y σ.length with hlt|hge
  ·obtain ⟨x,hx'⟩:=Z04 hlt
   rw [Z8g hx']
   show (match XL σ x with|some i=>_|none=>_)=_
   rw [UR hd y x hx']
  ·rw [Z8h hge]
   have hn:XL σ (h.next+(y-σ.length))=none:=by
    cases hq:XL σ (h.next+(y-σ.length)) with
    | none=>rfl
    | some i=>have:=hσlt _ (XM (VQ hq));omega
   show (match XL σ _ with|some i=>_|none=>_)=_
   rw [hn]
   show (if _ then _ else _)=_
   rw [if_neg (by omega)]
   congr 1
   omega
 have hold:∀x,x<h.next->XL σ x=none->E'.blk x=E.blk x:=fun x hx hn=>by
  show (match XL σ x with|some i=>_|none=>_)=_
  rw [hn]
  exact if_pos hx
 have hfresh:∀x,E.blk x≠none->x<h.next:=fun x hx=>by
  rcases J9 x h.next with hl|hg
  ·exact hl
  ·exact absurd (he.fresh x hg) hx
 have hle:E.le E':=⟨fun x q hq=>by
  cases hi:XL σ x with
  | some i=>
   show (match XL σ x with|some i=>_|none=>_)=_
   rw [hi]
   exact hev.le.blk i q ((hsub i x (VQ hi)).trans hq)
  | none=>rw [hold x (hfresh x (by rw [hq];simp)) hi];exact hq,fun _ _ h=>h⟩
 have hown0:∀b,Xg E0 ⟨σ.length,Ww 0 σ Bs⟩ b->∃x N,x∈σ/\E.blk x=some (b,N):=fun b ⟨y,B,N,hy,hbb⟩=>by
  obtain ⟨x,h1,_⟩:=hsb y B hy
  exact ⟨x,N,XM h1,by rw [<-hsub y x h1];exact hbb⟩
 have hkeep:∀b,b<w.heap.size->(∀x N,x∈σ->E.blk x=some (b,N)->False)->w'.heap[b]? =w.heap[b]?:=fun b hb hn=>hev.keep b hb (fun ho=>let ⟨x,N,h1,h2⟩:=hown0 b ho;hn x N h1 h2)
 have hget:∀x B',Z8.get ⟨h.next+(nx-σ.length),UM bs' (Qi σ h.bs)⟩ x=some B'->
   (∃y B,mvN σ h.next y=x/\ZO bs y=some B/\MvB σ h.next B B')\/(x<h.next/\x∉σ/\h.get x=some B'):=fun x B' hx=>by
  simp only [Z8.get,Z4n] at hx
  split at hx
  ·rename_i B0 hq
   cases hx
   exact .inl (hb.get x _ hq)
  ·obtain ⟨h1,h2⟩:=Z1x hx
   exact .inr ⟨he.lt x B' h1,h2,h1⟩
 have hni:∀x,x∉σ->XL σ x=none:=fun x hx=>by
  cases hq:XL σ x with
  | none=>rfl
  | some i=>exact absurd (XM (VQ hq)) hx
 have hmix:∀y B z C b N N',ZO bs y=some B->E₁.blk y=some (b,N)->z∉σ->h.get z=some C->E.blk z=some (b,N')->False:=fun y B z C b N N' hy hby hz hz' hbz=>by
  rcases hev.own b ⟨y,B,N,hy,hby⟩ with ho|hs
  ·obtain ⟨x,M,h1,h2⟩:=hown0 b ho
   obtain ⟨D,hD⟩:=hm x h1
   have:=he.disj x z D C b M N' hD hz' h2 hbz
   subst this
   exact hz h1
  ·have:=(he.own z C hz').lt hbz
   omega
 have himm0:∀a c,E.imm a c->E0.imm a c:=fun a c hi=>⟨he.imm a c hi,fun x hx N hbb=>let ⟨B,hB⟩:=hm x hx;he.sep a c x B N hi hB hbb⟩
 have hemb':Emb E' ⟨h.next+(nx-σ.length),UM bs' (Qi σ h.bs)⟩ w':=by
  refine ⟨?_, ?_, ?_, ?_, ?_, ?_⟩
  ·intro x hx
   have hx':h.next+(nx-σ.length)<=x:=hx
   have hn:XL σ x=none:=hni x (fun hq=>by have:=hσlt x hq;omega)
   show (match XL σ x with|some i=>_|none=>_)=_
   rw [hn]
   show (if _ then _ else _)=_
   rw [if_neg (by omega)]
   exact hev.emb.fresh _ (by show nx<=_;omega)
  ·intro x B hx
   show x<h.next+(nx-σ.length)
   rcases hget x B hx with ⟨y,B0,rfl,hy,_⟩|⟨hlt,_,_⟩
   ·have hyn:y<nx:=hev.emb.lt y B0 hy
    rcases J9 y σ.length with hlt|hge
    ·obtain ⟨x,hx'⟩:=Z04 hlt
     rw [Z8g hx']
     have:=hσlt x (XM hx')
     omega
    ·rw [Z8h hge]
     omega
   ·omega
  ·intro x B hx
   rcases hget x B hx with ⟨y,B0,rfl,hy,hmv⟩|⟨hlt,hnσ,hx'⟩
   ·exact hmv.move (E:=E₁) (fun x r hq=>by rw [hρ];exact hq) (fun hq=>by rw [hρ];exact hq) (hev.emb.own y B0 hy)
   ·have h1:=(he.own x B hx').mono hle (fun hn=>by rw [hold x hlt (hni x hnσ)];exact hn)
    refine h1.congr fun b N hbb=> ?_
    rw [hold x hlt (hni x hnσ)] at hbb
    refine hkeep b ((he.own x B hx').lt hbb) fun z M hz hbz=> ?_
    obtain ⟨D,hD⟩:=hm z hz
    have:=he.disj x z B D b N M hx' hD hbb hbz
    subst this
    exact hnσ hz
  ·intro x z B C b N N' hx hz hbx hbz
   rcases hget x B hx with ⟨y,B0,rfl,hy,hmv⟩|⟨hlt,hnσ,hx'⟩<;>rcases hget z C hz with ⟨y',C0,rfl,hy',hmv'⟩|⟨hlt',hnσ',hz'⟩
   ·rw [hρ] at hbx hbz
    rw [hev.emb.disj y y' B0 C0 b N N' hy hy' hbx hbz]
   ·rw [hρ] at hbx
    rw [hold z hlt' (hni z hnσ')] at hbz
    exact (hmix y B0 z C b N N' hy hbx hnσ' hz' hbz).elim
   ·rw [hρ] at hbz
    rw [hold x hlt (hni x hnσ)] at hbx
    exact (hmix y' C0 x B b N' N hy' hbz hnσ hx' hbx).elim
   ·rw [hold x hlt (hni x hnσ)] at hbx
    rw [hold z hlt' (hni z hnσ')] at hbz
    exact he.disj x z B C b N N' hx' hz' hbx hbz
  ·intro a c hi
   exact hev.emb.imm a c (hev.le.imm a c (himm0 a c hi))
  ·intro a c x B N hi hx hbx
   rcases hget x B hx with ⟨y,B0,rfl,hy,hmv⟩|⟨hlt,hnσ,hx'⟩
   ·rw [hρ] at hbx
    exact hev.emb.sep a c y B0 N (hev.le.imm a c (himm0 a c hi)) hy hbx
   ·rw [hold x hlt (hni x hnσ)] at hbx
    exact he.sep a c x B N hi hx' hbx
 refine ⟨E',o',_,hK,⟨hle,hemb',hev.size,hev.os,hev.tape,hev.output,fun b hb' hno=>hkeep b hb' (fun x N hx hbx=> ?_), ?_,fun _ _ h=>h⟩, ?_⟩
 ·obtain ⟨B,hB⟩:=hm x hx
  exact hno ⟨x,B,N,hB,hbx⟩
 ·rintro b ⟨x,B,N,hx,hbx⟩
  rcases hget x B hx with ⟨y,B0,rfl,hy,hmv⟩|⟨hlt,hnσ,hx'⟩
  ·rw [hρ] at hbx
   rcases hev.own b ⟨y,B0,N,hy,hbx⟩ with ho|hs
   ·obtain ⟨z,M,h1,h2⟩:=hown0 b ho
    obtain ⟨D,hD⟩:=hm z h1
    exact .inl ⟨z,D,M,hD,h2⟩
   ·exact .inr hs
  ·rw [hold x hlt (hni x hnσ)] at hbx
   exact .inl ⟨x,B,N,hx',hbx⟩
 ·cases ho with
  | ret v v' hv=>cases hor with
   | ret v r hr=>exact .ret _ _ (Z3e (fun x q hq=>by rw [hρ];exact hq) _ _ _ hv hr)
  | panic v v' hv=>cases hor with
   | panic v r hr=>exact .panic _ _ (Z3e (fun x q hq=>by rw [hρ];exact hq) _ _ _ hv hr)
theorem Spec.fsumm {P:Program} {f:FuncId} {h:Z8} {d:Nat} {K:KO} (hl:frA σ h d args K0)
  (hK:∀Bs a₀,Bs.length=σ.length->K0 Bs a₀->∃o nx bs o' bs',Spec P f a₀ ⟨σ.length,Ww 0 σ Bs⟩ o nx bs/\σ.length<=nx/\MvO σ h.next o o'/\Z8i σ h.next bs bs'/\K o' ⟨h.next+(nx-σ.length),UM bs' (Qi σ h.bs)⟩):Ze P f args h K:=by
 obtain ⟨hm,hd,Bs,a,hK0,hlen,hx,ha⟩:=Zi4 hl
 obtain ⟨o,nx,bs,o',bs',h1,h2,h3,h4,h5⟩:=hK Bs a hlen hK0
 exact Spec.calls h1 hlen hm hd hx ha h2 h3 h4 h5
end Go.Tk
end
section
namespace Go.Tk
open IntKind (i64 u8 u32 u64 wrap)
def goL (k:Nat) (τ:Ren) (S0:St) (C:Prop) (ends:KE->Prop):Nat->St->KE->Prop:=fun k' s X=>match Nat.beq k' k with
 | true=>ZZ k τ S0 s (C/\ends X)
 | false=>False
def Z1y (id n:Nat) (go ex re:Nat->Prop) (En Rn:Nat->St):KE->Prop:=fun X=>
 ∀i,i<=n->(∀j,j<i->go j)->(ex i->X (.exit id) (En i))/\(re i->X .ret (Rn i))
theorem Zd.withGo {G:Zd} (hG:G.Ok) {f:FuncId} {id k N n:Nat} {τ0 τ1 τ2 τ3:Ren} {S En Rn:Nat->St} {S0:St} {C:Prop} {go ex re:Nat->Prop} (h1:VL G.P f id=true) (hC:C->S 0=S0/\
   ∀i,i<=n->(∀j,j<i->go j)->ZC G N f id k (S i) fun e s=>match e with
    | .normal=>ZZ k τ1 (S (i+1)) s (go i/\i<n)
    | .exit x=>(match Nat.beq x id with|true=>ZZ k τ2 (En i) s (ex i)|false=>False)
    | .ret=>ZZ k τ3 (Rn i) s (re i)
    | _=>False):
  (G.withL f id (goL k τ0 S0 C (Z1y id n go ex re En Rn))).Ok:=by
 refine Zd.withL_ok hG h1 ?_
 intro k' s X hl
 unfold goL at hl
 split at hl
 ·rename_i hk
  have:=J0 hk
  subst this
  obtain ⟨⟨hc,hX⟩,hw⟩:=Y5 hl
  obtain ⟨e0,hr⟩:=hC hc
  refine ⟨{ t:Nat//t<=n/\∀j,j<t->go j},fun t=>n-t.1,fun t=>S t.1,⟨0,JC _,fun j hj=>by omega⟩,N,by show QY k' s (S 0);rw [e0];exact hw, ?_⟩
  rintro ⟨t,ht,hgo⟩
  refine ⟨_,hr t ht hgo, ?_⟩
  intro e s' hY
  split at hY
  ·obtain ⟨⟨hg,hlt⟩,hw'⟩:=Y5 hY
   refine ⟨⟨t+1,hlt,fun j hj=> ?_⟩,by show n-(t+1)<n-t;omega,hw'⟩
   by_cases hjt:j=t
   ·rw [hjt];exact hg
   ·exact hgo j (by omega)
  ·split at hY
   ·rename_i hi
    have:=J0 hi
    subst this
    obtain ⟨hex,hw'⟩:=Y5 hY
    exact ⟨_,hw',(hX t ht hgo).1 hex⟩
   ·exact hY.elim
  ·obtain ⟨hre,hw'⟩:=Y5 hY
   exact ⟨_,hw',(hX t ht hgo).2 hre⟩
  ·exact hY.elim
 ·exact hl.elim
def Yu (id n l:Nat) (go ex re jm:Nat->Prop) (En Rn Jn:Nat->St):KE->Prop:=fun X=>
 ∀i,i<=n->(∀j,j<i->go j)->(ex i->X (.exit id) (En i))/\(re i->X .ret (Rn i))/\(jm i->X (.goto l) (Jn i))
theorem Zd.withGoJ {G:Zd} (hG:G.Ok) {f:FuncId} {id k N n l:Nat} {τ0 τ1 τ2 τ3 τ4:Ren} {S En Rn Jn:Nat->St} {S0:St} {C:Prop} {go ex re jm:Nat->Prop} (h1:VL G.P f id=true) (hC:C->S 0=S0/\
   ∀i,i<=n->(∀j,j<i->go j)->ZC G N f id k (S i) fun e s=>match e with
    | .normal=>ZZ k τ1 (S (i+1)) s (go i/\i<n)
    | .exit x=>(match Nat.beq x id with|true=>ZZ k τ2 (En i) s (ex i)|false=>False)
    | .ret=>ZZ k τ3 (Rn i) s (re i)
    | .goto x=>(match Nat.beq x l with|true=>ZZ k τ4 (Jn i) s (jm i)|false=>False)
    | _=>False):
  (G.withL f id (goL k τ0 S0 C (Yu id n l go ex re jm En Rn Jn))).Ok:=by
 refine Zd.withL_ok hG h1 ?_
 intro k' s X hl
 unfold goL at hl
 split at hl
 ·rename_i hk
  have:=J0 hk
  subst this
  obtain ⟨⟨hc,hX⟩,hw⟩:=Y5 hl
  obtain ⟨e0,hr⟩:=hC hc
  refine ⟨{ t:Nat//t<=n/\∀j,j<t->go j},fun t=>n-t.1,fun t=>S t.1,⟨0,JC _,fun j hj=>by omega⟩,N,by show QY k' s (S 0);rw [e0];exact hw, ?_⟩
  rintro ⟨t,ht,hgo⟩
  refine ⟨_,hr t ht hgo, ?_⟩
  intro e s' hY
  split at hY
  ·obtain ⟨⟨hg,hlt⟩,hw'⟩:=Y5 hY
   refine ⟨⟨t+1,hlt,fun j hj=> ?_⟩,by show n-(t+1)<n-t;omega,hw'⟩
   by_cases hjt:j=t
   ·rw [hjt];exact hg
   ·exact hgo j (by omega)
  ·split at hY
   ·rename_i hi
    have:=J0 hi
    subst this
    obtain ⟨hex,hw'⟩:=Y5 hY
    exact ⟨_,hw',(hX t ht hgo).1 hex⟩
   ·exact hY.elim
  ·obtain ⟨hre,hw'⟩:=Y5 hY
   exact ⟨_,hw',(hX t ht hgo).2.1 hre⟩
  ·split at hY
   ·rename_i hi
    have:=J0 hi
    subst this
    obtain ⟨hjm,hw'⟩:=Y5 hY
    exact ⟨_,hw',(hX t ht hgo).2.2 hjm⟩
   ·exact hY.elim
  ·exact hY.elim
 ·exact hl.elim
theorem WC {p x:Prop} [Decidable p]:Z7 (decide p) x False=(p/\x):=by
 by_cases h:p
 ·rw [decide_eq_true h];simp [Z7,h]
 ·rw [decide_eq_false h];simp [Z7,h]
theorem Zf5 {p x:Prop} [Decidable p]:Z7 (decide p) False x=(¬p/\x):=by
 by_cases h:p
 ·rw [decide_eq_true h];simp [Z7,h]
 ·rw [decide_eq_false h];simp [Z7,h]
theorem Z0B {p x y:Prop} [Decidable p]:Z7 (decide p) x y=((p->x)/\(¬p->y)):=by
 by_cases h:p
 ·rw [decide_eq_true h];simp [Z7,h]
 ·rw [decide_eq_false h];simp [Z7,h]
theorem Z9x {b:Bool} {x:Prop}:Z7 b x False=(b=true/\x):=by cases b<;>simp [Z7]
theorem Zf6 {b:Bool} {x:Prop}:Z7 b False x=(b=false/\x):=by cases b<;>simp [Z7]
theorem Z21 {b:Bool} {x y:Prop}:Z7 b x y=((b=true->x)/\(b=false->y)):=by cases b<;>simp [Z7]
def Z0 (b:Bool) (x:Prop):Prop:=Z7 b x False
theorem vcA:(∀(p x:Prop) [Decidable p],Z7 (decide p) x False=(p/\x))/\(∀(p x:Prop) [Decidable p],Z6 p x=(p/\x))/\(∀(p x:Prop) [Decidable p],Z0 (decide p) x=(p/\x))/\∀(p x:Prop) [Decidable p],Z7 (decide p) False x=(¬p/\x):=
 ⟨fun _ _ _=>WC,fun _ _ _=>WC,fun _ _ _=>WC,fun _ _ _=>Zf5⟩
theorem vcB:(∀(p x y:Prop) [Decidable p],Z7 (decide p) x y=((p->x)/\(¬p->y)))/\(∀(b:Bool) (x:Prop),Z7 b x False=(b=true/\x))/\(∀(b:Bool) (x:Prop),Z0 b x=(b=true/\x))/\∀(b:Bool) (x:Prop),Z7 b False x=(b=false/\x):=
 ⟨fun _ _ _ _=>Z0B,fun _ _=>Z9x,fun _ _=>Z9x,fun _ _=>Zf6⟩
theorem WD:(∀(p x:Prop) [Decidable p],Z7 (decide p) x False=(p/\x))/\(∀(p x:Prop) [Decidable p],Z6 p x=(p/\x))/\(∀(p x:Prop) [Decidable p],Z0 (decide p) x=(p/\x))/\(∀(b:Bool) (x:Prop),Z0 b x=Z7 b x False):=
 ⟨fun _ _ _=>WC,fun _ _ _=>WC,fun _ _ _=>WC,fun _ _=>rfl⟩
theorem WE:∀(p x y:Prop) [Decidable p],Z7 (decide p) x y=((p->x)/\(¬p->y)):=fun _ _ _ _=>Z0B
theorem vcC:(∀(b:Bool) (x y:Prop),Z7 b x y=((b=true->x)/\(b=false->y)))/\(∀n:Nat,((n:Int)).toNat=n)/\(∀n:Nat,0+n=n)/\(∀p:Prop,(True/\p)=p)/\(∀p:Prop,(p/\True)=p)/\∀n:Nat,(n<=n)=True:=
 ⟨fun _ _ _=>Z21,JW,JK,true_and,and_true,fun n=>eq_true (J4 n)⟩
theorem ZaI {k:Nat} {τ:Ren} {v:AV} (hp:v.plain=true) (hc:v.isCell=true) {Z:Prop} (hZ:Z):eqV k τ v v Z:=by
 cases v with
 | ptr p=>cases p<;>simp_all [AV.plain,eqV]
 | map r=>cases r<;>simp_all [AV.plain,eqV]
 | _=>simp_all [AV.plain,eqV,Q4,AV.isCell]
theorem Z4y {k:Nat} {τ:Ren}:∀{l:List AV},plainC l=true->∀{Z:Prop},Z->(∀v∈l,v.isCell=true\/∃k n xs,v=.arr k n xs)->eqC k τ l l Z
 | [],_,Z,hZ,_=>by simp [eqC,hZ]
 | v::r,hp,Z,hZ,hc=>by
  simp only [plainC,J3] at hp
  have hr:=Z4y (k:=k) (τ:=τ) hp.2 hZ (fun u hu=>hc u (Jv _ hu))
  rcases hc v (by simp) with hv|⟨kk,n,xs,rfl⟩
  ·have hna:∀a b c,v≠.arr a b c:=fun a b c e=>by subst e;simp [AV.isCell] at hv
   cases v with
   | arr a b c=>exact absurd rfl (hna a b c)
   | agg cs=>simp [AV.isCell] at hv
   | tuple cs=>simp [AV.isCell] at hv
   | _=>simp only [eqC,hv,Kd];exact ZaI hp.1 hv hr
  ·unfold eqC
   simp [hr,Jj]
theorem Z1a {k:Nat} {τ:Ren} {n:Nat} {f f':Nat->List AV} (h:∀i,i<n->f' i=f i) (hp:∀i,i<n->plainC (f i)=true) (hc:∀i,i<n->∀v∈f i,v.isCell=true\/∃k n xs,v=.arr k n xs):Zo k τ n f f':=
 ⟨fun i hi=>by rw [h i hi];exact Z4y (hp i hi) trivial (hc i hi)⟩
theorem Zi5 {a b:Nat} (h:a<b):Nat.blt a b=true:=by rw [Nat.blt_eq];exact h
theorem Zi6 {a b:Nat} (h:Nat.blt a b=true):a<b:=by rw [Nat.blt_eq] at h;exact h
theorem Z22 {n i:Nat} {f g:Nat->List AV} (h:i<n):ZT n f g i=f i:=by unfold ZT;rw [Zi5 h]
theorem Vj {n i:Nat} {f g:Nat->List AV} (h:n<=i):ZT n f g i=g (i-n):=by
 unfold ZT
 have:Nat.blt i n=false:=by
  cases hq:Nat.blt i n with
  | false=>rfl
  | true=>have:=Zi6 hq;omega
 rw [this]
theorem Zs.vrows0 {P:Program} {f:FuncId} {esz:Nat} {g:Nat->List AV} {v:AV} {nx:Nat} {bs:List (Nat×Blk)} (h1:Zs P f [.nilslice] v nx bs) (h2:Zs P f [.fslice] v nx bs):Zs P f [.vrows esz 0 g 0] v nx bs:=by
 intro E w rs he hr
 cases hr with
 | cons v r vs rs hv ht=>cases ht with
  | nil=>cases hv with
   | vrowsNil esz n f len _ _=>exact h1 E w _ he (.cons _ _ _ _ .nilslice .nil)
   | vrows esz n f len a cap g _ _ _ _ _=>exact h2 E w _ he (.cons _ _ _ _ (.fslice a cap) .nil)
theorem Zs.vints0 {P:Program} {f:FuncId} {k:IntKind} {v:AV} {nx:Nat} {bs:List (Nat×Blk)} (h1:Zs P f [.nilslice] v nx bs) (h2:Zs P f [.fslice] v nx bs):Zs P f [.vints k [] 0] v nx bs:=by
 intro E w rs he hr
 cases hr with
 | cons v r vs rs hv ht=>cases ht with
  | nil=>cases hv with
   | vintsNil k xs len _ _=>exact h1 E w _ he (.cons _ _ _ _ .nilslice .nil)
   | vints k xs len a cap _ _ _=>exact h2 E w _ he (.cons _ _ _ _ (.fslice a cap) .nil)
end Go.Tk
namespace Go.Tk
open IntKind (i64 u8 u32 u64 wrap)
mutual
theorem Z05 {mv:Option Nat} {h:Z8}:∀(d:Nat) (t:Bool) (v:AV) (K K':AV->Prop),UL mv h t d v K->(∀a,K a->K' a)->UL mv h t d v K'
 | 0,t,v,K,K',hl,hK=>by unfold UL at hl;exact hl.elim
 | d+1,t,v,K,K',hl,hK=>by
  unfold UL at hl⊢
  split at hl
  all_goals try exact hK _ hl
  all_goals try exact hl.elim
  ·split at hl
   ·split at hl
    ·exact hl.elim
    ·exact hK _ hl
   ·split at hl
    ·split at hl
     ·exact W3 _ _ _ _ _ hl fun _ h=>hK _ h
     ·exact hl.elim
    ·split at hl
     ·obtain ⟨h1,h2⟩:=Zb hl
      refine Q4 h1 ?_
      split at h2
      ·exact W3 _ _ _ _ _ h2 fun _ h=>hK _ h
      ·exact h2.elim
     ·exact hl.elim
    ·exact hl.elim
  ·split at hl
   ·split at hl
    ·exact hl.elim
    ·exact hK _ hl
   ·split at hl
    ·split at hl
     ·obtain ⟨h1,h2⟩:=Zb hl
      exact Q4 h1 (hK _ h2)
     ·exact hl.elim
    ·split at hl
     ·obtain ⟨h1,h2,h3⟩:=Zb hl
      exact Q4 h1 ⟨h2,hK _ h3⟩
     ·exact hl.elim
    ·split at hl
     ·split at hl
      ·split at hl
       ·split at hl
        ·obtain ⟨h1,h2⟩:=Zb hl
         exact Q4 h1 (hK _ h2)
        ·obtain ⟨h1,h2⟩:=Zb hl
         exact Q4 h1 (hK _ h2)
        ·exact hl.elim
       ·exact hl.elim
      ·split at hl
       ·refine W3 _ _ _ _ _ hl fun _ h=> ?_
        split at h
        ·exact hK _ h
        ·exact h.elim
       ·exact hl.elim
     ·exact hl.elim
    ·exact hl.elim
  ·exact Zk _ _ _ _ _ hl fun _ h=>Zk _ _ _ _ _ h fun _ h=>hK _ h
  ·exact Z05 _ _ _ _ _ hl fun _ h=>hK _ h
  ·exact W3 _ _ _ _ _ hl fun _ h=>hK _ h
  ·exact Zk _ _ _ _ _ hl fun _ h=>hK _ h
theorem W3 {mv:Option Nat} {h:Z8}:∀(d:Nat) (t:Bool) (l:List AV) (K K':List AV->Prop),VM mv h t d l K->(∀a,K a->K' a)->VM mv h t d l K'
 | 0,t,l,K,K',hl,hK=>by unfold VM at hl;exact hl.elim
 | d+1,t,l,K,K',hl,hK=>by
  unfold VM at hl⊢
  split at hl
  ·exact hK _ hl
  ·exact W3 _ _ _ _ _ hl fun _ h=>hK _ h
  ·refine Z05 _ _ _ _ _ hl fun _ h=> ?_
   split at h
   ·exact W3 _ _ _ _ _ h fun _ h=>hK _ h
   ·exact h.elim
theorem Zk {mv:Option Nat} {h:Z8}:∀(d:Nat) (t:Bool) (l:List AV) (K K':List AV->Prop),ZA mv h t d l K->(∀a,K a->K' a)->ZA mv h t d l K'
 | 0,t,l,K,K',hl,hK=>by unfold ZA at hl;exact hl.elim
 | d+1,t,l,K,K',hl,hK=>by
  unfold ZA at hl⊢
  split at hl
  ·exact hK _ hl
  ·exact Z05 _ _ _ _ _ hl fun _ h=>Zk _ _ _ _ _ h fun _ h=>hK _ h
end
end Go.Tk
end
section
namespace Go.Tk
open IntKind (i64 u8 u32 u64 wrap)
variable {τ:Ren} {xs:List Int} {esz:Nat} {v:AV}
def Zg (g:Nat->InS):Nat->List AV:=fun q=>(g q).c
def Zf (g:Nat->ZE):Nat->List AV:=fun q=>(g q).c
theorem InS.plainC (x:InS):plainC x.c=true:=rfl
theorem ZE.plainC (x:ZE):plainC x.c=true:=rfl
theorem InS.cells (x:InS):∀v∈x.c,v.isCell=true\/∃k n xs,v=.arr k n xs:=by simp [InS.c,AV.isCell]
theorem ZE.cells (x:ZE):∀v∈x.c,v.isCell=true\/∃k n xs,v=.arr k n xs:=by simp [ZE.c,AV.isCell]
theorem Yc {k:Nat} {n:Nat} {g:Nat->InS} {f:Nat->List AV} (h:∀i,i<n->f i=(g i).c):Zo k τ n (Zg g) f:=Z1a h (fun i _=>(g i).plainC) (fun i _=>(g i).cells)
theorem ZK {k:Nat} {n:Nat} {g:Nat->ZE} {f:Nat->List AV} (h:∀i,i<n->f i=(g i).c):Zo k τ n (Zf g) f:=Z1a h (fun i _=>(g i).plainC) (fun i _=>(g i).cells)
theorem Zf7 (N:Nat) (g:Nat->InS) (hN:N+1<900000000000):
  evF G0 20 91 [.vrows 130 (N+1) (Zg g) (N+1)] ⟨0,[]⟩ (Yq 0 [(0,0)] (.nslice ⟨0,0,130,0,0⟩ 130 (N+1) (N+1)) 1 [(0,.rows 130 (N+1) (Zg g))]):=by
 refine @Eq.mpr _ (let q1:=N+1;let q2:=0+q1;let q3:=decide (q2=q1);
 Z7 (decide (q2*144<=140737488355328)) (Z7 q3 (Z7 (decide (q1<=q2)) (Z7 q3 (Zo 0 [(0,0)] q1 (Zg g) (ZT 0 (fun (x:Nat)=>[]) (Zg g))/\True) False) False) False) False) (by kernel_rfl) ?_
 conv=>zeta
 refine nd (by omega) (nd (by omega) (nd (by omega) (nd (by omega) ⟨Yc fun i hi=> ?_,trivial⟩)))
 rw [Vj (JC _)];rfl
theorem Zf8 (g:Nat->InS) :
  evF G0 20 91 [.nilslice] ⟨0,[]⟩ (Yq 0 [] (.nslice ⟨0,0,130,0,0⟩ 130 0 0) 1 [(0,.rows 130 0 (Zg g))]):=by
 refine @Eq.mpr _ (True) (by kernel_rfl) ?_
 trivial
theorem Zf9 (g:Nat->InS) :
  evF G0 20 91 [.fslice] ⟨0,[]⟩ (Yq 0 [(0,0)] (.nslice ⟨0,0,130,0,0⟩ 130 0 0) 1 [(0,.rows 130 0 (Zg g))]):=by
 refine @Eq.mpr _ (Zo 0 [(0,0)] 0 (Zg g) (ZT 0 (fun (x:Nat)=>[]) fun (x:Nat)=>[])/\True) (by kernel_rfl) ?_
 exact ⟨Yc fun i hi=>by omega,trivial⟩
theorem Z8j (N:Nat) (g:Nat->InS) (hN:N<900000000000):Zs PP 91 [.vrows 130 N (Zg g) N] (.nslice ⟨0,0,130,0,0⟩ 130 N N) 1 [(0,.rows 130 N (Zg g))]:=by
 cases N with
 | zero=>exact Zs.vrows0 (.ev Zm (Zf8 g)) (.ev Zm (Zf9 g))
 | succ n=>exact .ev Zm (Zf7 n g hN)
def Zcz (N:Nat) (g:Nat->InS) (Z:Prop):ZN:=fun args h K=>ZA none h true 20 args fun a=>match a with
 | [.vrows 130 n f m]=>Z6 (n=N) (Z6 (m=N) (f=Zg g/\Z/\K (.ret (.nslice ⟨h.next,0,130,0,0⟩ 130 N N)) ⟨h.next+1,(h.next,.rows 130 N (Zg g))::h.bs⟩))
 | _=>False
theorem ZaJ (N:Nat) (g:Nat->InS) (args:List AV) (h:Z8) (K:KO) (hl:Zcz N g (N<900000000000) args h K):Ze PP 91 args h K:=by
 refine Zs.fsumm (d:=20) (Zk _ _ _ _ _ hl fun a ha=> ?_)
 split at ha
 ·obtain ⟨rfl,ha⟩:=Zb ha
  obtain ⟨rfl,rfl,hN,hK⟩:=Zb ha
  exact ⟨_,_,_,_,Z8j _ _ hN,rfl,⟨JN,.rows _ _ _ (fun i _=>(g i).plainC),trivial⟩,hK⟩
 ·exact ha.elim
def VR (N:Nat) (g:Nat->InS) (t:Nat):Nat->InS:=fun q=>if q<t\/N<q+t+1 then g (N-1-q) else g q
def Z06 (N:Nat) (g:Nat->InS):Nat->InS:=fun q=>g (N-1-q)
def Z8k (N:Nat) (g:Nat->InS) (t:Nat):St:=⟨28,[(0,.nslice ⟨0,0,130,0,0⟩ 130 N N),(3,.int .i64 ((N:Int)-1-t)),(2,.int .i64 t)],⟨1,[(0,.rows 130 N (Zg (VR N g t)))]⟩,[]⟩
theorem Zk1 (N:Nat) (g:Nat->InS) (t:Nat) (hN:N<900000000000) (ht:t<=N) (hgo:∀j:Nat,j<t->(j:Int)<(N:Int)-1-j):
  ZC G0 20 244 0 1 (Z8k N g t) (fun e s=>match e with|.normal=>ZZ 1 [] (Z8k N g (t+1)) s (((t:Int)<(N:Int)-1-t)/\t<N)|.exit x=>(match Nat.beq x 0 with|true=>ZZ 1 [] (Z8k N g t) s (¬(t:Int)<(N:Int)-1-t)|false=>False)|.ret=>ZZ 1 [] (Z8k N g t) s False|_=>False):=by
 refine @Eq.mpr _ (let q1:=(↑N:Int)-1;let q2:=q1-(↑t:Int);let q3:=decide (0<=q2/\q2<(↑N:Int));let q4:=0+Int.toNat q2;let q5:=decide (0<=(↑t:Int)/\(↑t:Int)<(↑N:Int));let q6:=0+Int.toNat (↑t:Int);let q7:=decide (N=N);let q8:=decide (N<=N);let q9:=(↑(t+1):Int);let q10:=Zg (VR N g t);let q11:=VR N g t q4;let q12:=VR N g t q6;
 Z7 (decide ((↑t:Int)<q2)) (Z7 q3 (Z7 (decide (q4<N)) (Z7 q5 (Z7 (decide (q6<N)) (Z7 q5 (Z7 (decide (q6<N)) (Z7 q3 (Z7 (decide (q4<N)) (Z7 q7 (Z7 q8 (Z7 (decide (wrap i64 (q2-1)=q1-q9)) (Z7 (decide (wrap i64 ((↑t:Int)+1)=q9)) (Z7 q7 (Zo 1 [] N (Zg (VR N g (t+1))) (QH (QH q10 q6 [AV.arr u8 32 q11.name,AV.int i64 q11.index,AV.int i64 q11.way,AV.arr u8 32 q11.tag,AV.arr u8 32 q11.also,AV.arr u8 32 q11.secret]) q4 [AV.arr u8 32 q12.name,AV.int i64 q12.index,AV.int i64 q12.way,AV.arr u8 32 q12.tag,AV.arr u8 32 q12.also,AV.arr u8 32 q12.secret])/\(↑t:Int)<q2/\t<N) False) False) False) False) False) False) False) False) False) False) False) False) False)
 (Z7 q7 (Z7 q8 (Z7 (decide (q2=q2)) (Z7 (decide ((↑t:Int)=(↑t:Int))) (Z7 q7 (Zo 1 [] N q10 q10/\((↑t:Int)<q2->False)) False) False) False) False) False)) (by kernel_rfl) ?_
 conv=>zeta
 simp only [WC]
 simp only [Z0B]
 have hrows:Zo 1 [] N (Zg (VR N g t)) (Zg (VR N g t)):=Yc fun _ _=>rfl
 refine ⟨fun h1=> ?_,fun h1=>by simp [hrows,h1]⟩
 have hw1:i64.wrap ((t:Int)+1)=(t:Int)+1:=w64 (by omega)
 have hw2:i64.wrap ((N:Int)-1-t-1)=(N:Int)-1-t-1:=w64 (by omega)
 have e1:0+((N:Int)-1-t).toNat=N-1-t:=by omega
 have e2:0+(t:Int).toNat=t:=by omega
 simp only [e1,e2,hw1,hw2]
 refine ⟨by omega,by omega,by omega,by omega,by omega,by omega,by omega,by omega,trivial,by omega,by omega,by omega,trivial,Yc fun q hq=> ?_,h1,by omega⟩
 rw [Wy,Wy]
 have g1:VR N g t (N-1-t)=g (N-1-t):=by unfold VR;rw [if_neg (by omega)]
 have g2:VR N g t t=g t:=by unfold VR;rw [if_neg (by omega)]
 rw [g1,g2]
 by_cases q1:q=N-1-t
 ·subst q1
  rw [Jj]
  show (g t).c=_
  unfold VR
  rw [if_pos (by omega)]
  congr 2;omega
 ·rw [Zx q1]
  by_cases q2:q=t
  ·subst q2
   rw [Jj]
   show (g (N-1-q)).c=_
   unfold VR
   rw [if_pos (by omega)]
  ·rw [Zx q2]
   show (VR N g t q).c=_
   unfold VR
   congr 1
   by_cases c:q<t\/N<q+t+1
   ·rw [if_pos c,if_pos (by omega)]
   ·rw [if_neg c,if_neg (by omega)]
noncomputable def E10 (N:Nat) (g:Nat->InS):Zd:=(G0.withL 244 0 (goL 1 [] (Z8k N g 0) (N<900000000000) (Z1y 0 N (fun t=>(t:Int)<(N:Int)-1-t) (fun t=>¬(t:Int)<(N:Int)-1-t) (fun _=>False) (Z8k N g) (Z8k N g)))).withF 91 (Zcz N g (N<900000000000))
theorem Zi7 (N:Nat) (g:Nat->InS):(E10 N g).Ok:=
 Zd.withF_ok (Zd.withGo (τ1:=[]) (τ2:=[]) (τ3:=[]) (N:=20) Zm (by kernel_rfl) fun hC=>⟨rfl,fun i hi hgo=>Zk1 N g i hC hi hgo⟩) (ZaJ N g)
theorem Z8l (N:Nat) (g:Nat->InS) (hN:N<900000000000):
  evF (E10 N g) 20 180 [.vrows 130 N (Zg g) N] ⟨0,[]⟩ (Yq 0 [(0,0)] (.nslice ⟨0,0,130,0,0⟩ 130 N N) 1 [(0,.rows 130 N (Zg (Z06 N g)))]):=by
 refine @Eq.mpr _ (let q1:=decide (N=N);let q2:=Zg g;let q3:=decide (N<=N);let q4:=(↑N:Int)-1;
 Z7 q1
 (Z7 q1
 (q2=q2/\
 N<900000000000/\
 Z7 q1
 (Z7 q3
 (Z7 (decide (wrap i64 q4=q4-0))
 (Z7 q1
 (Zo 1 [] N (Zg (VR N g 0)) q2/\
 N<900000000000/\
 ∀(i:Nat),
 let q9:=Z7 q1 (Z7 q3 (Z7 q1 (Zo 0 [(0,0)] N (Zg (Z06 N g)) (Zg (VR N g i))/\True) False) False) False;
 i<=N->(∀(j:Nat),j<i->(fun (t:Nat)=>(↑t:Int)<q4-(↑t:Int)) j)->(¬(↑i:Int)<q4-(↑i:Int)->q9)/\(False->q9))
 False)
 False)
 False)
 False)
 False)
 False) (by kernel_rfl) ?_
 conv=>zeta
 simp only [WC,true_and,and_true]
 refine ⟨hN,by omega,by rw [w64 (by omega)];omega,Yc fun i hi=> ?_,hN,fun i hi hgo=>⟨fun hex=>⟨by omega,Yc fun q hq=> ?_⟩,fun h=>h.elim⟩⟩
 ·show (g i).c=_
  unfold VR
  rw [if_neg (by omega)]
 ·show (VR N g i q).c=_
  unfold VR Z06
  by_cases c:q<i\/N<q+i+1
  ·rw [if_pos c]
  ·rw [if_neg c]
   congr 2;omega
theorem Z3U (N:Nat) (g:Nat->InS) (hN:N<900000000000):Zs PP 180 [.vrows 130 N (Zg g) N] (.nslice ⟨0,0,130,0,0⟩ 130 N N) 1 [(0,.rows 130 N (Zg (Z06 N g)))]:=.ev (Zi7 N g) (Z8l N g hN)
def Yz (p:Nat->Bool) (n:Nat):Int:=match (List.range n).find? p with|some i=>i|none=> -1
theorem V3 {p:Nat->Bool} {n i:Nat} (hi:i<n) (hgo:∀j,j<i->p j=false) (hp:p i=true):Yz p n=i:=by
 unfold Yz
 have:(List.range n).find? p=some i:=by
  rw [List.find?_range_eq_some]
  exact ⟨hp,Jz.2 hi,fun j hj=>by simp [hgo j hj]⟩
 rw [this]
theorem V4 {p:Nat->Bool} {n:Nat} (hgo:∀j,j<n->p j=false):Yz p n= -1:=by
 unfold Yz
 have:(List.range n).find? p=none:=by
  rw [List.find?_eq_none]
  intro j hj
  simp [hgo j (Jz.1 hj)]
 rw [this]
theorem Vk (p:Nat->Bool) (n:Nat):(Yz p n= -1/\∀j,j<n->p j=false)\/∃i,i<n/\Yz p n=(i:Nat)/\p i=true/\∀j,j<i->p j=false:=by
 unfold Yz
 cases h:(List.range n).find? p with
 | none=>
  refine .inl ⟨rfl,fun j hj=> ?_⟩
  have:=List.find?_eq_none.1 h j (Jz.2 hj)
  simpa using this
 | some i=>
  rw [List.find?_range_eq_some] at h
  exact .inr ⟨i,Jz.1 h.2.1,rfl,h.1,fun j hj=>by simpa using h.2.2 j hj⟩
theorem Z6N (p:Nat->Bool) (n:Nat): -1<=Yz p n/\Yz p n<n+1:=by
 rcases Vk p n with ⟨h,_⟩|⟨i,hi,h,_⟩<;>omega
def US (x y:InS):Bool:=(y.name==x.name)&&(y.index==x.index)
theorem Zi8 (x y:InS) (hx:x.Ok) (hy:y.Ok):
  evF G0 20 178 [.agg y.c,.pview x.c 0] ⟨0,[]⟩ (Yq 0 [] (.bool (US x y)) 0 []):=by
 refine @Eq.mpr _ (Z6 (List.length y.name=32/\List.length x.name=32) (Z7 (y.name==x.name) (Z6 ((y.index==x.index)=US x y) True) (Z6 (false=US x y) True))) (by kernel_rfl) ?_
 try simp only [WD]
 try simp only [WE]
 try simp only [vcC]
 unfold US
 refine ⟨⟨hy.name,hx.name⟩,fun h=> ?_,fun h=> ?_⟩<;>simp [h]
def Zho:ZH:=fun args h K=>ZA none h true 20 args fun a=>match a with
 | [.agg cs,.pview ds 0]=>∃x y,cs=InS.c y/\ds=InS.c x/\(x.Ok/\y.Ok)/\K (.bool (US x y))
 | _=>False
theorem ZcA (args:List AV) (h:Z8) (K:AV->Prop) (hl:Zho args h K):Ze PP 178 args h fun o h'=>∃v,o=.ret v/\h'=h/\K v:=by
 refine Zs.psumm (d:=20) (Zk _ _ _ _ _ hl fun a ha=> ?_)
 split at ha
 ·obtain ⟨x,y,rfl,rfl,⟨h1,h2⟩,hK⟩:=ha
  exact ⟨_,.ev Zm (Zi8 x y h1 h2),fun _=>rfl,hK⟩
 ·exact ha.elim
noncomputable def Zi9:Zd:=G0.withP 178 Zho
theorem Zfa:Zi9.Ok:=Zd.withP_ok Zm ZcA
def ixS (N:Nat) (g:Nat->InS) (x:InS) (i:Nat):St:=⟨19,[(1,.func (Fn.func 178) [] [.pview (InS.c x) 0]),(0,.vrows 130 N (Zg g) N),(7,.int .i64 N),(8,.int .i64 i)],⟨0,[]⟩,[]⟩
def ixR (i:Nat):St:=⟨19,[(4,.int .i64 i)],⟨0,[]⟩,[]⟩
def ixE (_:Nat):St:=⟨19,[],⟨0,[]⟩,[]⟩
theorem ZmR (N:Nat) (g:Nat->InS) (x:InS) (i:Nat) (Z1 Z2 Z3:Prop) (hN:N<900000000000) (hx:x.Ok) (hg:∀i,i<N->(g i).Ok) (hi:i<=N) (h1:i<N->US x (g i)=false->Z1) (h2:i=N->Z2) (h3:i<N->US x (g i)=true->Z3):
  ZC Zi9 20 179 0 0 (ixS N g x i) (fun e s=>match e with|.normal=>ZZ 0 [] (ixS N g x (i+1)) s Z1|.exit x=>(match Nat.beq x 0 with|true=>ZZ 0 [] (ixE i) s Z2|false=>False)|.ret=>ZZ 0 [] (ixR i) s Z3|_=>False):=by
 refine @Eq.mpr _ (let q1:=g (Int.toNat (↑i:Int));let q2:=InS.c x;let q3:=decide (N=N);
 Z7 (decide ((↑i:Int)<(↑N:Int))) (Z6 (0<=(↑i:Int)/\(↑i:Int)<(↑N:Int)) (∃(x:InS),∃(y:InS),[AV.arr u8 32 q1.name,AV.int i64 q1.index,AV.int i64 q1.way,AV.arr u8 32 q1.tag,AV.arr u8 32 q1.also,AV.arr u8 32 q1.secret]=InS.c y/\q2=InS.c x/\(InS.Ok x/\InS.Ok y)/\Z7 (US x y) (Z6 ((↑i:Int)=(↑i:Int)) Z3) (q2=q2/\Z0 q3 (Zg g=Zg g/\Z0 q3 (Z6 ((↑N:Int)=(↑N:Int)) (Z6 (wrap i64 ((↑i:Int)+1)=(↑(i+1):Int)) Z1)))))) Z2) (by kernel_rfl) ?_
 conv=>zeta
 try simp only [WD]
 try simp only [WE]
 try simp only [vcC]
 refine ⟨fun hlt=>⟨by omega,x,g i,rfl,rfl,⟨hx,hg i (by omega)⟩,fun h=>h3 (by omega) h,fun h=>⟨w64 (by omega),h1 (by omega) h⟩⟩,fun hge=>h2 (by omega)⟩
def sameAt (g:Nat->InS) (x:InS):Nat->Bool:=fun j=>US x (g j)
noncomputable def Zk2 (N:Nat) (g:Nat->InS) (x:InS):Zd:=Zi9.withL 179 0 (goL 0 [] (ixS N g x 0) (N<900000000000/\x.Ok/\∀i,i<N->(g i).Ok) (Z1y 0 N (fun i=>sameAt g x i=false) (fun i=>i=N) (fun i=>i<N/\sameAt g x i=true) ixE ixR))
theorem Zfb (N:Nat) (g:Nat->InS) (x:InS):(Zk2 N g x).Ok:=
 Zd.withGo (τ1:=[]) (τ2:=[]) (τ3:=[]) (N:=20) Zfa (by kernel_rfl) fun hC=>⟨rfl,fun i hi _=>ZmR N g x i _ _ _ hC.1 hC.2.1 hC.2.2 hi (fun h1 h2=>⟨h2,h1⟩) (fun h=>h) (fun h1 h2=>⟨h1,h2⟩)⟩
theorem Zfc (N:Nat) (g:Nat->InS) (x:InS) (F:Int) (hN:N<900000000000) (hx:x.Ok) (hg:∀i,i<N->(g i).Ok) (hF:F=Yz (sameAt g x) N):
  evF (Zk2 N g x) 20 179 [.vrows 130 N (Zg g) N,.func (.func 178) [] [.pview x.c 0]] ⟨0,[]⟩ (Yq 0 [] (.int .i64 F) 0 []):=by
 refine @Eq.mpr _ (let q1:=decide (N=N);
 InS.c x=InS.c x/\Z0 q1 (Zg g=Zg g/\Z0 q1 (Z6 ((↑N:Int)=(↑N:Int)) ((N<900000000000/\InS.Ok x/\∀(i:Nat),i<N->InS.Ok (g i))/\∀(i:Nat),i<=N->(∀(j:Nat),j<i->(fun (i:Nat)=>sameAt g x i=false) j)->(i=N->Z6 (-1=F) True)/\(i<N/\sameAt g x i=true->Z6 ((↑i:Int)=F) True))))) (by kernel_rfl) ?_
 conv=>zeta
 try simp only [WD]
 try simp only [WE]
 try simp only [vcC]
 subst hF
 exact ⟨⟨hN,hx,hg⟩,fun i hi hgo=>⟨fun h=>by subst h;exact (V4 hgo).symm,fun h=>(V3 h.1 hgo h.2).symm⟩⟩
theorem Z8m (N:Nat) (g:Nat->InS) (x:InS) (hN:N<900000000000) (hx:x.Ok) (hg:∀i,i<N->(g i).Ok):Zs PP 179 [.vrows 130 N (Zg g) N,.func (.func 178) [] [.pview x.c 0]] (.int .i64 (Yz (sameAt g x) N)) 0 []:=.ev (Zfb N g x) (Zfc N g x _ hN hx hg rfl)
def ZcB:ZH:=fun args h K=>ZA none h true 20 args fun a=>match a with
 | [.vrows 130 n f m,.func (.func 178) [] [.pview cs 0]]=>∃g x,f=Zg g/\cs=InS.c x/\(m=n/\n<900000000000/\x.Ok/\∀i,i<n->(g i).Ok)/\K (.int .i64 (Yz (sameAt g x) n))
 | _=>False
theorem ZaK (args:List AV) (h:Z8) (K:AV->Prop) (hl:ZcB args h K):Ze PP 179 args h fun o h'=>∃v,o=.ret v/\h'=h/\K v:=by
 refine Zs.psumm (d:=20) (Zk _ _ _ _ _ hl fun a ha=> ?_)
 split at ha
 ·obtain ⟨g,x,rfl,rfl,⟨rfl,h1,h2,h3⟩,hK⟩:=ha
  exact ⟨_,Z8m _ g x h1 h2 h3,fun _=>rfl,hK⟩
 ·exact ha.elim
def Z4z:ZN:=fun args h K=>ZA none h true 20 args fun a=>match a with
 | [.vrows 130 n f m]=>∃g,f=Zg g/\(m=n/\n<900000000000)/\K (.ret (.nslice ⟨h.next,0,130,0,0⟩ 130 n n)) ⟨h.next+1,(h.next,.rows 130 n (Zg (Z06 n g)))::h.bs⟩
 | _=>False
theorem Z5A (args:List AV) (h:Z8) (K:KO) (hl:Z4z args h K):Ze PP 180 args h K:=by
 refine Zs.fsumm (d:=20) (Zk _ _ _ _ _ hl fun a ha=> ?_)
 split at ha
 ·obtain ⟨g,rfl,⟨rfl,hN⟩,hK⟩:=ha
  exact ⟨_,_,_,_,Z3U _ _ hN,rfl,⟨JN,.rows _ _ _ (fun i _=>(Z06 _ g i).plainC),trivial⟩,hK⟩
 ·exact ha.elim
noncomputable def Zk3:Zd:=(G0.withP 179 ZcB).withF 180 Z4z
theorem Zfd:Zk3.Ok:=Zd.withF_ok (Zd.withP_ok Zm ZaK) Z5A
@[irreducible] def UT (N:Nat) (g:Nat->InS) (x:InS):Bool:=Yz (sameAt g x) N !=(N:Int)-1-Yz (sameAt (Z06 N g) x) N
theorem Zfe (N:Nat) (g:Nat->InS) (x:InS) (num:Int) (outs:AV) (F:Bool) (hN:N<900000000000) (hx:x.Ok) (hg:∀i,i<N->(g i).Ok) (hF:F=UT N g x):
  evF Zk3 20 177 [.agg x.c,.pview [.int .i64 num,.vrows 130 N (Zg g) N,outs] 0] ⟨0,[]⟩ (Yq 0 [] (.bool F) 0 []):=by
 refine @Eq.mpr _ (let q1:=Zg g;let q2:=decide (N=N);
 ∃(g:Nat->InS),
 ∃(x_1:InS),
 let q5:=[AV.arr u8 32 x.name,AV.int i64 x.index,AV.int i64 x.way,AV.arr u8 32 x.tag,AV.arr u8 32 x.also,AV.arr u8 32 x.secret];
 q1=Zg g/\q5=InS.c x_1/\(N=N/\N<900000000000/\InS.Ok x_1/\∀(i:Nat),i<N->InS.Ok (g i))/\∃(g_1:Nat->InS),q1=Zg g_1/\(N=N/\N<900000000000)/\Z6 ((↑N:Int)=(↑N:Int)) (Z0 q2 (q1=q1/\Z0 q2 (Z6 (0+N<=N) ((∀(i:Nat),i<N->true=true)/\∃(g_2:Nat->InS),∃(x:InS),Yj 0 (Zg (Z06 N g_1))=Zg g_2/\q5=InS.c x/\(N=N/\N<900000000000/\InS.Ok x/\∀(i:Nat),i<N->InS.Ok (g_2 i))/\Z6 ((Yz (sameAt g x_1) N !=wrap i64 (wrap i64 ((↑N:Int)-1)-Yz (sameAt g_2 x) N))=F) True))))) (by kernel_rfl) ?_
 conv=>zeta
 try simp only [WD]
 try simp only [WE]
 try simp only [vcC]
 subst hF
 have hr:∀i,i<N->(Z06 N g i).Ok:=fun i hi=>hg _ (by omega)
 refine ⟨g,x,rfl,rfl,⟨hN,hx,hg⟩,g,rfl,hN,fun _ _=>trivial,Z06 N g,x,rfl,rfl,⟨hN,hx,hr⟩, ?_⟩
 have hb:=Z6N (sameAt (Z06 N g) x) N
 rw [w64 (x:=(N:Int)-1) (by omega),w64 (by omega)]
 unfold UT
 rfl
theorem Z8n (N:Nat) (g:Nat->InS) (x:InS) (num:Int) (outs:AV) (hN:N<900000000000) (hx:x.Ok) (hg:∀i,i<N->(g i).Ok):Zs PP 177 [.agg x.c,.pview [.int .i64 num,.vrows 130 N (Zg g) N,outs] 0] (.bool (UT N g x)) 0 []:=.ev Zfd (Zfe N g x num outs _ hN hx hg rfl)
def ZcC:ZH:=fun args h K=>ZA none h true 20 args fun a=>match a with
 | [.agg cs,.pview [.int .i64 num,.vrows 130 n f m,outs] 0]=>∃g x,f=Zg g/\cs=InS.c x/\(m=n/\n<900000000000/\x.Ok/\∀i,i<n->(g i).Ok)/\K (.bool (UT n g x))
 | _=>False
theorem ZaL (args:List AV) (h:Z8) (K:AV->Prop) (hl:ZcC args h K):Ze PP 177 args h fun o h'=>∃v,o=.ret v/\h'=h/\K v:=by
 refine Zs.psumm (d:=20) (Zk _ _ _ _ _ hl fun a ha=> ?_)
 split at ha
 ·obtain ⟨g,x,rfl,rfl,⟨rfl,h1,h2,h3⟩,hK⟩:=ha
  exact ⟨_,Z8n _ g x _ _ h1 h2 h3,fun _=>rfl,hK⟩
 ·exact ha.elim
def Ua (N:Nat) (g:Nat->InS) (y:InS):Bool:= !Y3 y||UT N g y
noncomputable def Zk4:Zd:=(G0.withP 177 ZcC).withP 182 (inS Y3)
theorem Zff:Zk4.Ok:=Zd.withP_ok (Zd.withP_ok Zm ZaL) Zi1
theorem Zfg (N:Nat) (g:Nat->InS) (y:InS) (num:Int) (outs:AV) (F:Bool) (hN:N<900000000000) (hy:y.Ok) (hg:∀i,i<N->(g i).Ok) (hF:F=Ua N g y):
  evF Zk4 20 181 [.agg y.c,.pview [.func (.func 177) [] [.pview [.int .i64 num,.vrows 130 N (Zg g) N,outs] 0]] 0] ⟨0,[]⟩ (Yq 0 [] (.bool F) 0 []):=by
 refine @Eq.mpr _ (let q1:=y.name;let q2:=y.tag;let q3:=y.also;let q4:=y.secret;
 Z6 (List.length q1=32/\List.length q2=32/\List.length q3=32/\List.length q4=32) (Z7 (!Y3 (InS.mk q1 y.index y.way q2 q3 q4)) (Z6 (true=F) True) (∃(g_1:Nat->InS),∃(x:InS),Zg g=Zg g_1/\[AV.arr u8 32 q1,AV.int i64 y.index,AV.int i64 y.way,AV.arr u8 32 q2,AV.arr u8 32 q3,AV.arr u8 32 q4]=InS.c x/\(N=N/\N<900000000000/\InS.Ok x/\∀(i:Nat),i<N->InS.Ok (g_1 i))/\Z6 (UT N g_1 x=F) True))) (by kernel_rfl) ?_
 conv=>zeta
 try simp only [WD]
 try simp only [WE]
 try simp only [vcC]
 subst hF
 refine ⟨⟨hy.name,hy.tag,hy.also,hy.secret⟩, ?_, ?_⟩
 ·intro h
  have h':Y3 y=false:=by simpa using h
  unfold Ua
  rw [h']
  rfl
 ·intro h
  refine ⟨g,y,rfl,rfl,⟨hN,hy,hg⟩, ?_⟩
  have h':Y3 y=true:=by simpa using h
  unfold Ua
  rw [h']
  rfl
def ZcD:ZH:=fun args h K=>ZA none h true 20 args fun a=>match a with
 | [.agg cs,.pview [.func (.func 177) [] [.pview [.int .i64 num,.vrows 130 n f m,outs] 0]] 0]=>∃g y,f=Zg g/\cs=InS.c y/\(m=n/\n<900000000000/\y.Ok/\∀i,i<n->(g i).Ok)/\K (.bool (Ua n g y))
 | _=>False
theorem ZaM (args:List AV) (h:Z8) (K:AV->Prop) (hl:ZcD args h K):Ze PP 181 args h fun o h'=>∃v,o=.ret v/\h'=h/\K v:=by
 refine Zs.psumm (d:=20) (Zk _ _ _ _ _ hl fun a ha=> ?_)
 split at ha
 ·obtain ⟨g,x,rfl,rfl,⟨rfl,h1,h2,h3⟩,hK⟩:=ha
  exact ⟨_,.ev Zff (Zfg _ g x _ _ _ h1 h2 h3 rfl),fun _=>rfl,hK⟩
 ·exact ha.elim
noncomputable def Zia:Zd:=G0.withP 181 ZcD
theorem Zfh:Zia.Ok:=Zd.withP_ok Zm ZaM
def YV (N:Nat) (g:Nat->InS):Nat->Bool:=fun j=>Ua N g (g j)
def Zib (N:Nat) (g:Nat->InS) (num:Int) (outs:AV) (i:Nat):St:=⟨19,[(1,.func (.func 181) [] [.pview [.func (.func 177) [] [.pview [.int .i64 num,.vrows 130 N (Zg g) N,outs] 0]] 0]),(0,.vrows 130 N (Zg g) N),(7,.int .i64 N),(8,.int .i64 i)],⟨0,[]⟩,[]⟩
def Zk5 (i:Nat):St:=⟨19,[(4,.int .i64 i)],⟨0,[]⟩,[]⟩
def Zk6 (_:Nat):St:=⟨19,[],⟨0,[]⟩,[]⟩
theorem Zk7 (N:Nat) (g:Nat->InS) (num:Int) (outs:AV) (i:Nat) (Z1 Z2 Z3:Prop) (hC:N<900000000000/\∀i,i<N->(g i).Ok) (hi:i<=N) (h1:i<N->YV N g i=false->Z1) (h2:i=N->Z2) (h3:i<N->YV N g i=true->Z3):
  ZC Zia 20 179 0 0 (Zib N g num outs i) (fun e s=>match e with|.normal=>ZZ 0 [] (Zib N g num outs (i+1)) s Z1|.exit x=>(match Nat.beq x 0 with|true=>ZZ 0 [] (Zk6 i) s Z2|false=>False)|.ret=>ZZ 0 [] (Zk5 i) s Z3|_=>False):=by
 refine @Eq.mpr _ (let q1:=Zg g;let q2:=g (Int.toNat (↑i:Int));let q3:=[AV.func (Fn.func 177) [] [AV.pview [AV.int i64 num,AV.vrows 130 N q1 N,outs] 0]];let q4:=decide (N=N);
 Z7 (decide ((↑i:Int)<(↑N:Int))) (Z6 (0<=(↑i:Int)/\(↑i:Int)<(↑N:Int)) (∃(g:Nat->InS),∃(y:InS),q1=Zg g/\[AV.arr u8 32 q2.name,AV.int i64 q2.index,AV.int i64 q2.way,AV.arr u8 32 q2.tag,AV.arr u8 32 q2.also,AV.arr u8 32 q2.secret]=InS.c y/\(N=N/\N<900000000000/\InS.Ok y/\∀(i:Nat),i<N->InS.Ok (g i))/\Z7 (Ua N g y) (Z6 ((↑i:Int)=(↑i:Int)) Z3) (q3=q3/\Z0 q4 (q1=q1/\Z0 q4 (Z6 ((↑N:Int)=(↑N:Int)) (Z6 (wrap i64 ((↑i:Int)+1)=(↑(i+1):Int)) Z1)))))) Z2) (by kernel_rfl) ?_
 conv=>zeta
 try simp only [WD]
 try simp only [WE]
 try simp only [vcC]
 refine ⟨fun hlt=>⟨by omega,g,g i,rfl,rfl,⟨hC.1,hC.2 i (by omega),hC.2⟩,fun h=>h3 (by omega) h,fun h=>⟨w64 (by omega),h1 (by omega) h⟩⟩,fun hge=>h2 (by omega)⟩
noncomputable def Zk8 (N:Nat) (g:Nat->InS) (num:Int) (outs:AV):Zd:=Zia.withL 179 0 (goL 0 [] (Zib N g num outs 0) (N<900000000000/\∀i,i<N->(g i).Ok) (Z1y 0 N (fun i=>YV N g i=false) (fun i=>i=N) (fun i=>i<N/\YV N g i=true) Zk6 Zk5))
theorem Zfi (N:Nat) (g:Nat->InS) (num:Int) (outs:AV):(Zk8 N g num outs).Ok:=
 Zd.withGo (τ1:=[]) (τ2:=[]) (τ3:=[]) (N:=20) Zfh (by kernel_rfl) fun hC=>⟨rfl,fun i hi _=>Zk7 N g num outs i _ _ _ hC hi (fun h1 h2=>⟨h2,h1⟩) (fun h=>h) (fun h1 h2=>⟨h1,h2⟩)⟩
theorem Zk9 (N:Nat) (g:Nat->InS) (num:Int) (outs:AV) (F:Int) (hC:N<900000000000/\∀i,i<N->(g i).Ok) (hF:F=Yz (YV N g) N):
  evF (Zk8 N g num outs) 20 179 [.vrows 130 N (Zg g) N,.func (.func 181) [] [.pview [.func (.func 177) [] [.pview [.int .i64 num,.vrows 130 N (Zg g) N,outs] 0]] 0]] ⟨0,[]⟩ (Yq 0 [] (.int .i64 F) 0 []):=by
 refine @Eq.mpr _ (let q1:=Zg g;let q2:=[AV.func (Fn.func 177) [] [AV.pview [AV.int i64 num,AV.vrows 130 N q1 N,outs] 0]];let q3:=decide (N=N);
 q2=q2/\Z0 q3 (q1=q1/\Z0 q3 (Z6 ((↑N:Int)=(↑N:Int)) ((N<900000000000/\∀(i:Nat),i<N->InS.Ok (g i))/\∀(i:Nat),i<=N->(∀(j:Nat),j<i->(fun (i:Nat)=>YV N g i=false) j)->(i=N->Z6 (-1=F) True)/\(i<N/\YV N g i=true->Z6 ((↑i:Int)=F) True))))) (by kernel_rfl) ?_
 conv=>zeta
 try simp only [WD]
 try simp only [WE]
 try simp only [vcC]
 subst hF
 exact ⟨hC,fun i hi hgo=>⟨fun h=>by subst h;exact (V4 hgo).symm,fun h=>(V3 h.1 hgo h.2).symm⟩⟩
theorem ZcE (N:Nat) (g:Nat->InS) (num:Int) (outs:AV) (hC:N<900000000000/\∀i,i<N->(g i).Ok):Zs PP 179 [.vrows 130 N (Zg g) N,.func (.func 181) [] [.pview [.func (.func 177) [] [.pview [.int .i64 num,.vrows 130 N (Zg g) N,outs] 0]] 0]] (.int .i64 (Yz (YV N g) N)) 0 []:=.ev (Zfi N g num outs) (Zk9 N g num outs _ hC rfl)
theorem VS (p:Nat->Bool) (n:Nat):decide (0<=Yz p n)=(List.range n).any p:=by
 rcases Vk p n with ⟨h,h2⟩|⟨i,hi,h,h2,_⟩
 ·rw [h]
  have:(List.range n).any p=false:=by
   rw [JY]
   intro j hj
   simp [h2 j (Jz.1 hj)]
  rw [this];rfl
 ·rw [h]
  have:(List.range n).any p=true:=List.any_eq_true.2 ⟨i,Jz.2 hi,h2⟩
  rw [this];simp
def Zka:ZH:=fun args h K=>ZA none h true 20 args fun a=>match a with
 | [.vrows 130 n f m,.func (.func 181) [] [.pview [.func (.func 177) [] [.pview [.int .i64 num,.vrows 130 n' f' m',outs] 0]] 0]]=>∃g,f=Zg g/\f'=Zg g/\(m=n/\n'=n/\m'=n/\n<900000000000/\∀i,i<n->(g i).Ok)/\K (.int .i64 (Yz (YV n g) n))
 | _=>False
theorem Zfj (args:List AV) (h:Z8) (K:AV->Prop) (hl:Zka args h K):Ze PP 179 args h fun o h'=>∃v,o=.ret v/\h'=h/\K v:=by
 refine Zs.psumm (d:=20) (Zk _ _ _ _ _ hl fun a ha=> ?_)
 split at ha
 ·obtain ⟨g,rfl,rfl,⟨rfl,rfl,rfl,h1,h2⟩,hK⟩:=ha
  exact ⟨_,ZcE _ g _ _ ⟨h1,h2⟩,fun _=>rfl,hK⟩
 ·exact ha.elim
noncomputable def Zkb:Zd:=G0.withP 49 (Zi2 ZD)
theorem Zfk:Zkb.Ok:=Zd.withP_ok Zm Zf2
def Z07 (o:ZE):Bool:= !ZD o
theorem ZcF (o:ZE) (F:Bool) (ho:o.Ok) (hF:F=Z07 o):
  evF Zkb 20 186 [.agg o.c] ⟨0,[]⟩ (Yq 0 [] (.bool F) 0 []):=by
 refine @Eq.mpr _ (Z6 (List.length o.owner=32/\List.length o.other=32/\List.length o.point=32/\List.length o.hash=32) (Z6 ((!ZD (ZE.mk o.kind o.amount o.owner o.other o.point o.hash o.delay o.expiry))=F) True)) (by kernel_rfl) ?_
 try simp only [WD]
 try simp only [WE]
 try simp only [vcC]
 subst hF
 exact ⟨⟨ho.owner,ho.other,ho.point,ho.hash⟩,rfl⟩
def Z9y:ZH:=fun args h K=>ZA none h true 20 args fun a=>match a with
 | [.agg cs]=>∃o,cs=ZE.c o/\o.Ok/\K (.bool (Z07 o))
 | _=>False
theorem Z8o (args:List AV) (h:Z8) (K:AV->Prop) (hl:Z9y args h K):Ze PP 186 args h fun o h'=>∃v,o=.ret v/\h'=h/\K v:=by
 refine Zs.psumm (d:=20) (Zk _ _ _ _ _ hl fun a ha=> ?_)
 split at ha
 ·obtain ⟨x,rfl,h1,hK⟩:=ha
  exact ⟨_,.ev Zfk (ZcF x _ h1 rfl),fun _=>rfl,hK⟩
 ·exact ha.elim
noncomputable def Zic:Zd:=G0.withP 186 Z9y
theorem Zfl:Zic.Ok:=Zd.withP_ok Zm Z8o
def Yx (g:Nat->ZE):Nat->Bool:=fun j=>Z07 (g j)
def Zid (N:Nat) (g:Nat->ZE) (i:Nat):St:=⟨19,[(1,.func (.func 186) [] []),(0,.vrows 132 N (Zf g) N),(7,.int .i64 N),(8,.int .i64 i)],⟨0,[]⟩,[]⟩
def Zkc (i:Nat):St:=⟨19,[(4,.int .i64 i)],⟨0,[]⟩,[]⟩
def Zkd (_:Nat):St:=⟨19,[],⟨0,[]⟩,[]⟩
theorem Zke (N:Nat) (g:Nat->ZE) (i:Nat) (Z1 Z2 Z3:Prop) (hC:N<900000000000/\∀i,i<N->(g i).Ok) (hi:i<=N) (h1:i<N->Yx g i=false->Z1) (h2:i=N->Z2) (h3:i<N->Yx g i=true->Z3):
  ZC Zic 20 245 0 0 (Zid N g i) (fun e s=>match e with|.normal=>ZZ 0 [] (Zid N g (i+1)) s Z1|.exit x=>(match Nat.beq x 0 with|true=>ZZ 0 [] (Zkd i) s Z2|false=>False)|.ret=>ZZ 0 [] (Zkc i) s Z3|_=>False):=by
 refine @Eq.mpr _ (let q1:=g (Int.toNat (↑i:Int));let q2:=decide (N=N);
 Z7 (decide ((↑i:Int)<(↑N:Int))) (Z6 (0<=(↑i:Int)/\(↑i:Int)<(↑N:Int)) (∃(o:ZE),[AV.int i64 q1.kind,AV.int i64 q1.amount,AV.arr u8 32 q1.owner,AV.arr u8 32 q1.other,AV.arr u8 32 q1.point,AV.arr u8 32 q1.hash,AV.int i64 q1.delay,AV.int i64 q1.expiry]=ZE.c o/\ZE.Ok o/\Z7 (Z07 o) (Z6 ((↑i:Int)=(↑i:Int)) Z3) (Z0 q2 (Zf g=Zf g/\Z0 q2 (Z6 ((↑N:Int)=(↑N:Int)) (Z6 (wrap i64 ((↑i:Int)+1)=(↑(i+1):Int)) Z1)))))) Z2) (by kernel_rfl) ?_
 conv=>zeta
 try simp only [WD]
 try simp only [WE]
 try simp only [vcC]
 refine ⟨fun hlt=>⟨by omega,g i,rfl,hC.2 i (by omega),fun h=>h3 (by omega) h,fun h=>⟨w64 (by omega),h1 (by omega) h⟩⟩,fun hge=>h2 (by omega)⟩
noncomputable def Zkf (N:Nat) (g:Nat->ZE):Zd:=Zic.withL 245 0 (goL 0 [] (Zid N g 0) (N<900000000000/\∀i,i<N->(g i).Ok) (Z1y 0 N (fun i=>Yx g i=false) (fun i=>i=N) (fun i=>i<N/\Yx g i=true) Zkd Zkc))
theorem Zfm (N:Nat) (g:Nat->ZE):(Zkf N g).Ok:=
 Zd.withGo (τ1:=[]) (τ2:=[]) (τ3:=[]) (N:=20) Zfl (by kernel_rfl) fun hC=>⟨rfl,fun i hi _=>Zke N g i _ _ _ hC hi (fun h1 h2=>⟨h2,h1⟩) (fun h=>h) (fun h1 h2=>⟨h1,h2⟩)⟩
theorem Zkg (N:Nat) (g:Nat->ZE) (F:Int) (hC:N<900000000000/\∀i,i<N->(g i).Ok) (hF:F=Yz (Yx g) N):
  evF (Zkf N g) 20 245 [.vrows 132 N (Zf g) N,.func (.func 186) [] []] ⟨0,[]⟩ (Yq 0 [] (.int .i64 F) 0 []):=by
 refine @Eq.mpr _ (let q1:=decide (N=N);
 Z0 q1 (Zf g=Zf g/\Z0 q1 (Z6 ((↑N:Int)=(↑N:Int)) ((N<900000000000/\∀(i:Nat),i<N->ZE.Ok (g i))/\∀(i:Nat),i<=N->(∀(j:Nat),j<i->(fun (i:Nat)=>Yx g i=false) j)->(i=N->Z6 (-1=F) True)/\(i<N/\Yx g i=true->Z6 ((↑i:Int)=F) True))))) (by kernel_rfl) ?_
 conv=>zeta
 try simp only [WD]
 try simp only [WE]
 try simp only [vcC]
 subst hF
 exact ⟨hC,fun i hi hgo=>⟨fun h=>by subst h;exact (V4 hgo).symm,fun h=>(V3 h.1 hgo h.2).symm⟩⟩
theorem ZcG (N:Nat) (g:Nat->ZE) (hC:N<900000000000/\∀i,i<N->(g i).Ok):Zs PP 245 [.vrows 132 N (Zf g) N,.func (.func 186) [] []] (.int .i64 (Yz (Yx g) N)) 0 []:=.ev (Zfm N g) (Zkg N g _ hC rfl)
def Zkh:ZH:=fun args h K=>ZA none h true 20 args fun a=>match a with
 | [.vrows 132 n f m,.func (.func 186) [] []]=>∃g,f=Zf g/\(m=n/\n<900000000000/\∀i,i<n->(g i).Ok)/\K (.int .i64 (Yz (Yx g) n))
 | _=>False
theorem Zfn (args:List AV) (h:Z8) (K:AV->Prop) (hl:Zkh args h K):Ze PP 245 args h fun o h'=>∃v,o=.ret v/\h'=h/\K v:=by
 refine Zs.psumm (d:=20) (Zk _ _ _ _ _ hl fun a ha=> ?_)
 split at ha
 ·obtain ⟨g,rfl,⟨rfl,h1,h2⟩,hK⟩:=ha
  exact ⟨_,ZcG _ g ⟨h1,h2⟩,fun _=>rfl,hK⟩
 ·exact ha.elim
def Uh (m x:Int):Bool:=decide (x<0\/x>m)
theorem Zie (m x:Int) (F:Bool) (hF:F=Uh m x):
  evF G0 20 236 [.int .i64 x,.pview [.int .i64 m] 0] ⟨0,[]⟩ (Yq 0 [] (.bool F) 0 []):=by
 refine @Eq.mpr _ (Z7 (decide (x<0)) (Z6 (true=F) True) (Z6 (decide (x>m)=F) True)) (by kernel_rfl) ?_
 try simp only [WD]
 try simp only [WE]
 try simp only [vcC]
 subst hF
 unfold Uh
 refine ⟨fun h=> ?_,fun h=> ?_⟩<;>simp [h]
theorem Zfo (x:Int) (F:Bool) (hF:F=Uh 4611686018427387904 x):
  evF G0 20 117 [.int .i64 x] ⟨0,[]⟩ (Yq 0 [] (.bool F) 0 []):=by
 refine @Eq.mpr _ (Z7 (decide (x<0)) (Z6 (true=F) True) (Z6 (decide (x>4611686018427387904)=F) True)) (by kernel_rfl) ?_
 try simp only [WD]
 try simp only [WE]
 try simp only [vcC]
 subst hF
 unfold Uh
 refine ⟨fun h=> ?_,fun h=> ?_⟩<;>simp [h]
def Zhp:ZH:=fun args h K=>ZA none h true 20 args fun a=>match a with
 | [.int .i64 x,.pview [.int .i64 m] 0]=>K (.bool (Uh m x))
 | _=>False
theorem ZcH (args:List AV) (h:Z8) (K:AV->Prop) (hl:Zhp args h K):Ze PP 236 args h fun o h'=>∃v,o=.ret v/\h'=h/\K v:=by
 refine Zs.psumm (d:=20) (Zk _ _ _ _ _ hl fun a ha=> ?_)
 split at ha
 ·exact ⟨_,.ev Zm (Zie _ _ _ rfl),fun _=>rfl,ha⟩
 ·exact ha.elim
def ZcI (T:Int):ZH:=fun args h K=>ZA none h true 20 args fun a=>match a with
 | [.int .i64 x]=>K (.bool (Uh T x))
 | _=>False
theorem ZaN (args:List AV) (h:Z8) (K:AV->Prop) (hl:ZcI 4611686018427387904 args h K):Ze PP 117 args h fun o h'=>∃v,o=.ret v/\h'=h/\K v:=by
 refine Zs.psumm (d:=20) (Zk _ _ _ _ _ hl fun a ha=> ?_)
 split at ha
 ·exact ⟨_,.ev Zm (Zfo _ _ rfl),fun _=>rfl,ha⟩
 ·exact ha.elim
noncomputable def Zki (T:Int):Zd:=(G0.withP 236 Zhp).withP 117 (ZcI T)
theorem Zfp:(Zki 4611686018427387904).Ok:=Zd.withP_ok (Zd.withP_ok Zm ZcH) ZaN
def Yy (m:Int) (xs:List Int):Nat->Bool:=fun j=>Uh m (xs.getD j 0)
noncomputable def ZcJ:Zd:=Zki 4611686018427387904
theorem Z9z:ZcJ.Ok:=Zfp
def Zif (xs:List Int) (N:Nat) (m:Int) (i:Nat):St:=⟨19,[(1,.func (.func 236) [] [.pview [.int .i64 m] 0]),(0,.vints .i64 xs N),(7,.int .i64 N),(8,.int .i64 i)],⟨0,[]⟩,[]⟩
def Zkj (i:Nat):St:=⟨19,[(4,.int .i64 i)],⟨0,[]⟩,[]⟩
def Zkk (_:Nat):St:=⟨19,[],⟨0,[]⟩,[]⟩
theorem Zkl (xs:List Int) (N:Nat) (m:Int) (i:Nat) (Z1 Z2 Z3:Prop) (hC:N<900000000000/\xs.length=N) (hi:i<=N) (h1:i<N->Yy m xs i=false->Z1) (h2:i=N->Z2) (h3:i<N->Yy m xs i=true->Z3):
  ZC ZcJ 20 165 0 0 (Zif xs N m i) (fun e s=>match e with|.normal=>ZZ 0 [] (Zif xs N m (i+1)) s Z1|.exit x=>(match Nat.beq x 0 with|true=>ZZ 0 [] (Zkk i) s Z2|false=>False)|.ret=>ZZ 0 [] (Zkj i) s Z3|_=>False):=by
 refine @Eq.mpr _ (let q1:=[AV.int i64 m];
 Z7 (decide ((↑i:Int)<(↑N:Int))) (Z6 (0<=(↑i:Int)/\(↑i:Int)<(↑N:Int)) (Z7 (Uh m (List.getD xs (Int.toNat (↑i:Int)) 0)) (Z6 ((↑i:Int)=(↑i:Int)) Z3) (q1=q1/\xs=xs/\Z6 (N=N) (Z6 ((↑N:Int)=(↑N:Int)) (Z6 (wrap i64 ((↑i:Int)+1)=(↑(i+1):Int)) Z1))))) Z2) (by kernel_rfl) ?_
 conv=>zeta
 try simp only [WD]
 try simp only [WE]
 try simp only [vcC]
 refine ⟨fun hlt=>⟨by omega,fun h=>h3 (by omega) h,fun h=>⟨w64 (by omega),h1 (by omega) h⟩⟩,fun hge=>h2 (by omega)⟩
noncomputable def Zkm (xs:List Int) (N:Nat) (m:Int):Zd:=ZcJ.withL 165 0 (goL 0 [] (Zif xs N m 0) (N<900000000000/\xs.length=N) (Z1y 0 N (fun i=>Yy m xs i=false) (fun i=>i=N) (fun i=>i<N/\Yy m xs i=true) Zkk Zkj))
theorem Zfq (xs:List Int) (N:Nat) (m:Int):(Zkm xs N m).Ok:=
 Zd.withGo (τ1:=[]) (τ2:=[]) (τ3:=[]) (N:=20) Z9z (by kernel_rfl) fun hC=>⟨rfl,fun i hi _=>Zkl xs N m i _ _ _ hC hi (fun h1 h2=>⟨h2,h1⟩) (fun h=>h) (fun h1 h2=>⟨h1,h2⟩)⟩
theorem Zkn (xs:List Int) (N:Nat) (m:Int) (F:Int) (hC:N<900000000000/\xs.length=N) (hF:F=Yz (Yy m xs) N):
  evF (Zkm xs N m) 20 165 [.vints .i64 xs N,.func (.func 236) [] [.pview [.int .i64 m] 0]] ⟨0,[]⟩ (Yq 0 [] (.int .i64 F) 0 []):=by
 refine @Eq.mpr _ (let q1:=[AV.int i64 m];
 q1=q1/\xs=xs/\Z6 (N=N) (Z6 ((↑N:Int)=(↑N:Int)) ((N<900000000000/\List.length xs=N)/\∀(i:Nat),i<=N->(∀(j:Nat),j<i->(fun (i:Nat)=>Yy m xs i=false) j)->(i=N->Z6 (-1=F) True)/\(i<N/\Yy m xs i=true->Z6 ((↑i:Int)=F) True)))) (by kernel_rfl) ?_
 conv=>zeta
 try simp only [WD]
 try simp only [WE]
 try simp only [vcC]
 subst hF
 exact ⟨hC,fun i hi hgo=>⟨fun h=>by subst h;exact (V4 hgo).symm,fun h=>(V3 h.1 hgo h.2).symm⟩⟩
theorem ZcK (xs:List Int) (N:Nat) (m:Int) (hC:N<900000000000/\xs.length=N):Zs PP 165 [.vints .i64 xs N,.func (.func 236) [] [.pview [.int .i64 m] 0]] (.int .i64 (Yz (Yy m xs) N)) 0 []:=.ev (Zfq xs N m) (Zkn xs N m _ hC rfl)
def Zig (xs:List Int) (N:Nat) (i:Nat):St:=⟨19,[(1,.func (.func 117) [] []),(0,.vints .i64 xs N),(7,.int .i64 N),(8,.int .i64 i)],⟨0,[]⟩,[]⟩
def Zko (i:Nat):St:=⟨19,[(4,.int .i64 i)],⟨0,[]⟩,[]⟩
def Zkp (_:Nat):St:=⟨19,[],⟨0,[]⟩,[]⟩
theorem Zkq (xs:List Int) (N:Nat) (i:Nat) (Z1 Z2 Z3:Prop) (hC:N<900000000000/\xs.length=N) (hi:i<=N) (h1:i<N->Yy 4611686018427387904 xs i=false->Z1) (h2:i=N->Z2) (h3:i<N->Yy 4611686018427387904 xs i=true->Z3):
  ZC ZcJ 20 165 0 0 (Zig xs N i) (fun e s=>match e with|.normal=>ZZ 0 [] (Zig xs N (i+1)) s Z1|.exit x=>(match Nat.beq x 0 with|true=>ZZ 0 [] (Zkp i) s Z2|false=>False)|.ret=>ZZ 0 [] (Zko i) s Z3|_=>False):=by
 refine @Eq.mpr _ (Z7 (decide ((↑i:Int)<(↑N:Int))) (Z6 (0<=(↑i:Int)/\(↑i:Int)<(↑N:Int)) (Z7 (Uh 4611686018427387904 (List.getD xs (Int.toNat (↑i:Int)) 0)) (Z6 ((↑i:Int)=(↑i:Int)) Z3) (xs=xs/\Z6 (N=N) (Z6 ((↑N:Int)=(↑N:Int)) (Z6 (wrap i64 ((↑i:Int)+1)=(↑(i+1):Int)) Z1))))) Z2) (by kernel_rfl) ?_
 try simp only [WD]
 try simp only [WE]
 try simp only [vcC]
 refine ⟨fun hlt=>⟨by omega,fun h=>h3 (by omega) h,fun h=>⟨w64 (by omega),h1 (by omega) h⟩⟩,fun hge=>h2 (by omega)⟩
noncomputable def Zkr (xs:List Int) (N:Nat):Zd:=ZcJ.withL 165 0 (goL 0 [] (Zig xs N 0) (N<900000000000/\xs.length=N) (Z1y 0 N (fun i=>Yy 4611686018427387904 xs i=false) (fun i=>i=N) (fun i=>i<N/\Yy 4611686018427387904 xs i=true) Zkp Zko))
theorem Zfr (xs:List Int) (N:Nat):(Zkr xs N).Ok:=
 Zd.withGo (τ1:=[]) (τ2:=[]) (τ3:=[]) (N:=20) Z9z (by kernel_rfl) fun hC=>⟨rfl,fun i hi _=>Zkq xs N i _ _ _ hC hi (fun h1 h2=>⟨h2,h1⟩) (fun h=>h) (fun h1 h2=>⟨h1,h2⟩)⟩
theorem Zks (xs:List Int) (N:Nat) (F:Int) (hC:N<900000000000/\xs.length=N) (hF:F=Yz (Yy 4611686018427387904 xs) N):
  evF (Zkr xs N) 20 165 [.vints .i64 xs N,.func (.func 117) [] []] ⟨0,[]⟩ (Yq 0 [] (.int .i64 F) 0 []):=by
 refine @Eq.mpr _ (xs=xs/\Z6 (N=N) (Z6 ((↑N:Int)=(↑N:Int)) ((N<900000000000/\List.length xs=N)/\∀(i:Nat),i<=N->(∀(j:Nat),j<i->(fun (i:Nat)=>Yy 4611686018427387904 xs i=false) j)->(i=N->Z6 (-1=F) True)/\(i<N/\Yy 4611686018427387904 xs i=true->Z6 ((↑i:Int)=F) True)))) (by kernel_rfl) ?_
 try simp only [WD]
 try simp only [WE]
 try simp only [vcC]
 subst hF
 exact ⟨hC,fun i hi hgo=>⟨fun h=>by subst h;exact (V4 hgo).symm,fun h=>(V3 h.1 hgo h.2).symm⟩⟩
theorem ZcL (xs:List Int) (N:Nat) (hC:N<900000000000/\xs.length=N):Zs PP 165 [.vints .i64 xs N,.func (.func 117) [] []] (.int .i64 (Yz (Yy 4611686018427387904 xs) N)) 0 []:=.ev (Zfr xs N) (Zks xs N _ hC rfl)
def Zkt (T:Int):ZH:=fun args h K=>ZA none h true 20 args fun a=>match a with
 | [.vints .i64 xs n,.func (.func 236) [] [.pview [.int .i64 m] 0]]=>Z6 (xs.length=n/\n<900000000000) (K (.int .i64 (Yz (Yy m xs) n)))
 | [.vints .i64 xs n,.func (.func 117) [] []]=>Z6 (xs.length=n/\n<900000000000) (K (.int .i64 (Yz (Yy T xs) n)))
 | _=>False
theorem Zfs (args:List AV) (h:Z8) (K:AV->Prop) (hl:Zkt 4611686018427387904 args h K):Ze PP 165 args h fun o h'=>∃v,o=.ret v/\h'=h/\K v:=by
 refine Zs.psumm (d:=20) (Zk _ _ _ _ _ hl fun a ha=> ?_)
 split at ha
 ·obtain ⟨⟨h1,h2⟩,hK⟩:=Zb ha
  exact ⟨_,ZcK _ _ _ ⟨h2,h1⟩,fun _=>rfl,hK⟩
 ·obtain ⟨⟨h1,h2⟩,hK⟩:=Zb ha
  exact ⟨_,ZcL _ _ ⟨h2,h1⟩,fun _=>rfl,hK⟩
 ·exact ha.elim
noncomputable def Zku (T:Int):Zd:=G0.withP 165 (Zkt T)
theorem Zft:(Zku 4611686018427387904).Ok:=Zd.withP_ok Zm Zfs
@[irreducible] def allIn (m:Int) (xs:List Int):Bool:= !((List.range xs.length).any (Yy m xs))
theorem Zfu (T:Int) (xs:List Int) (N:Nat) (F:Int) (hC:N<900000000000/\xs.length=N) (hF:F=if allIn 1125899906842624 xs then 0 else 2):
  evF (Zku T) 20 80 [.vints .i64 xs N] ⟨0,[]⟩ (Yq 0 [] (.int .i64 F) 0 []):=by
 refine @Eq.mpr _ (Z6 (List.length xs=N/\N<900000000000) (Z7 (!!decide (Yz (Yy 1125899906842624 xs) N>=0)) (Z6 (2=F) True) (Z6 (0=F) True))) (by kernel_rfl) ?_
 try simp only [WD]
 try simp only [WE]
 try simp only [vcC]
 obtain ⟨h1,h2⟩:=hC
 subst h2
 have hb:=VS (Yy 1125899906842624 xs) xs.length
 refine ⟨⟨rfl,h1⟩,fun h=> ?_,fun h=> ?_⟩
 ·rw [hF]
  unfold allIn
  rw [<-hb]
  simp at h
  simp [h]
 ·rw [hF]
  unfold allIn
  rw [<-hb]
  simp at h
  simp [h]
def ZcM (m:Int):ZH:=fun args h K=>ZA none h true 20 args fun a=>match a with
 | [.vints .i64 xs n]=>Z6 (xs.length=n/\n<900000000000) (Z7 (allIn m xs) (K (.int .i64 0)) (K (.int .i64 2)))
 | _=>False
theorem ZaO (args:List AV) (h:Z8) (K:AV->Prop) (hl:ZcM 1125899906842624 args h K):Ze PP 80 args h fun o h'=>∃v,o=.ret v/\h'=h/\K v:=by
 refine Zs.psumm (d:=20) (Zk _ _ _ _ _ hl fun a ha=> ?_)
 split at ha
 ·obtain ⟨⟨h1,h2⟩,hK⟩:=Zb ha
  refine ⟨_,.ev (Zft) (Zfu _ _ _ _ ⟨h2,h1⟩ rfl),fun _=>rfl, ?_⟩
  rw [Z21] at hK
  split
  ·rename_i h;exact hK.1 h
  ·rename_i h;exact hK.2 (by simpa using h)
 ·exact ha.elim
def Wh (xs:List Int) (i:Nat):Int:=(xs.take i).sum
theorem Z1b {i:Nat} (h:i<xs.length):Wh xs (i+1)=Wh xs i+xs.getD i 0:=by
 unfold Wh
 rw [Kf h,List.sum_append]
 simp [J2,h]
theorem Z1c {m:Int} (h:allIn m xs=true) {i:Nat} (hi:i<xs.length):0<=xs.getD i 0/\xs.getD i 0<=m:=by
 unfold allIn at h
 rw [J6] at h
 rw [JY] at h
 have:=h i (Jz.2 hi)
 simp [Yy,Uh, -List.getD_eq_getElem?_getD] at this
 exact this
theorem Z6O {m:Int} {xs:List Int} (h:allIn m xs=true):∀{i:Nat},i<=xs.length->0<=Wh xs i
 | 0,_=>by simp [Wh]
 | i+1,hi=>by
  rw [Z1b (by omega)]
  have:=Z1c h (i:=i) (by omega)
  have:=Z6O h (i:=i) (by omega)
  omega
theorem Z4A {m:Int} {xs:List Int} (h:allIn m xs=true):∀(d i:Nat),i+d<=xs.length->Wh xs i<=Wh xs (i+d)
 | 0,i,_=>Int.le_refl _
 | d+1,i,hi=>by
  have h1:=Z4A h d i (by omega)
  rw [<-Nat.add_assoc,Z1b (by omega)]
  have:=Z1c h (i:=i+d) (by omega)
  omega
def adS (xs:List Int) (i:Nat):St:=⟨24,[(10,.vints .i64 xs xs.length),(3,.int .i64 150),(11,.int .i64 xs.length),(12,.int .i64 i),(2,.int .i64 (Wh xs i))],⟨0,[]⟩,[]⟩
def adE (xs:List Int) (i:Nat):St:=⟨24,[(3,.int .i64 150),(2,.int .i64 (Wh xs i))],⟨0,[]⟩,[]⟩
def adJ (_:Nat):St:=⟨24,[(3,.int .i64 150)],⟨0,[]⟩,[]⟩
theorem Zkv (xs:List Int) (i:Nat) (Z1 Z2 Z4:Prop) (M:Int) (hM:M=1125899906842624) (hn:xs.length<900000000000) (hall:allIn M xs=true) (hi:i<=xs.length) (hgo:∀j,j<i->Wh xs (j+1)<=M) (h1:i<xs.length->Wh xs (i+1)<=M->Z1) (h2:i=xs.length->Z2) (h4:i<xs.length->M<Wh xs (i+1)->Z4):
  ZC G0 20 74 0 0 (adS xs i) (fun e s=>match e with|.normal=>ZZ 0 [] (adS xs (i+1)) s Z1|.exit x=>(match Nat.beq x 0 with|true=>ZZ 0 [] (adE xs i) s Z2|false=>False)|.ret=>ZZ 0 [] (adJ i) s False|.goto x=>(match Nat.beq x 0 with|true=>ZZ 0 [] (adJ i) s Z4|false=>False)|_=>False):=by
 refine @Eq.mpr _ (let q1:=List.length xs;let q2:=(↑q1:Int);let q3:=Wh xs i;let q4:=wrap i64 (q3+List.getD xs (Int.toNat (↑i:Int)) 0);
 Z7 (decide ((↑i:Int)<q2)) (Z6 (0<=(↑i:Int)/\(↑i:Int)<q2) (Z7 (decide (q4>1125899906842624)) Z4 (xs=xs/\Z6 (q1=q1) (Z6 (q2=q2) (Z6 (wrap i64 ((↑i:Int)+1)=(↑(i+1):Int)) (Z6 (q4=Wh xs (i+1)) Z1)))))) (Z6 (q3=q3) Z2)) (by kernel_rfl) ?_
 conv=>zeta
 try simp only [WD]
 try simp only [WE]
 try simp only [vcC]
 subst hM
 refine ⟨fun hlt=>⟨by omega, ?_⟩,fun hge=>h2 (by omega)⟩
 have hs:=Z1b (xs:=xs) (i:=i) (by omega)
 have hx:=Z1c hall (i:=i) (by omega)
 have hp:=Z6O hall hi
 have hq:Wh xs i<=1125899906842624:=by
  cases i with
  | zero=>simp [Wh]
  | succ j=>exact hgo j (by omega)
 have hw:i64.wrap (Wh xs i+xs.getD i 0)=Wh xs (i+1):=by rw [w64 (by omega)];exact hs.symm
 rw [hw]
 have hw2:i64.wrap ((i:Int)+1)=((i+1:Nat):Int):=w64 (by omega)
 refine ⟨fun h=>h4 (by omega) (by omega),fun h=> ?_⟩
 rw [hw2]
 simp [h1 (by omega) (by omega)]
noncomputable def Zkw (m M:Int) (xs:List Int):Zd:=(G0.withL 74 0 (goL 0 [] (adS xs 0) (allIn M xs=true/\xs.length<900000000000) (Yu 0 xs.length 0 (fun i=>Wh xs (i+1)<=M) (fun i=>i=xs.length) (fun _=>False) (fun i=>i<xs.length/\M<Wh xs (i+1)) (adE xs) adJ adJ))).withP 80 (ZcM m)
theorem Zfv (xs:List Int):(Zkw 1125899906842624 1125899906842624 xs).Ok:=
 Zd.withP_ok (Zd.withGoJ (τ1:=[]) (τ2:=[]) (τ3:=[]) (τ4:=[]) (N:=20) Zm (by kernel_rfl) fun hC=>⟨rfl,fun i hi hgo=>Zkv xs i _ _ _ _ rfl hC.2 hC.1 hi hgo (fun h1 h2=>⟨h2,h1⟩) (fun h=>h) (fun h1 h2=>⟨h1,h2⟩)⟩) ZaO
@[irreducible] def ZB (xs:List Int):Int×Int:=if allIn 1125899906842624 xs=true then (if xs.sum<=1125899906842624 then (xs.sum,0) else (0,150)) else (0,2)
theorem Zkx (xs:List Int) (m M:Int) (F:Int×Int) (hm:m=1125899906842624) (hM:M=1125899906842624) (hn:xs.length<900000000000) (hF:F=ZB xs):
  evF (Zkw m M xs) 20 74 [.vints .i64 xs xs.length] ⟨0,[]⟩ (Yq 0 [] (.tuple [.int .i64 F.1,.int .i64 F.2]) 0 []):=by
 refine @Eq.mpr _ (let q1:=List.length xs;let q2:=(↑q1:Int);let q3:=decide (0=F.fst);
 Z6 (q1=q1/\q1<900000000000) (Z7 (allIn m xs) (xs=xs/\Z6 (q1=q1) (Z6 (q2=q2) ((allIn M xs=true/\q1<900000000000)/\∀(i:Nat),i<=q1->(∀(j:Nat),j<i->(fun (i:Nat)=>Wh xs (i+1)<=M) j)->(i=q1->Z6 (Wh xs i=F.fst) (Z6 (0=F.snd) True))/\(False->False)/\(i<q1/\M<Wh xs (i+1)->Z0 q3 (Z6 (150=F.snd) True))))) (Z0 q3 (Z6 (2=F.snd) True)))) (by kernel_rfl) ?_
 conv=>zeta
 try simp only [WD]
 try simp only [WE]
 try simp only [vcC]
 subst hm hM hF
 have ht:Wh xs xs.length=xs.sum:=by simp [Wh]
 refine ⟨hn,fun hall=>⟨⟨hall,hn⟩,fun i hi hgo=>⟨fun he=> ?_,fun h=>h.elim,fun he=> ?_⟩⟩,fun hall=> ?_⟩
 ·subst he
  have hle:xs.sum<=1125899906842624:=by
   rw [<-ht]
   rcases JM xs.length with h0|h0
   ·rw [h0];simp [Wh]
   ·have:=hgo (xs.length-1) (by omega)
    rw [Nat.sub_add_cancel h0] at this
    exact this
  unfold ZB
  rw [if_pos hall,if_pos hle]
  exact ⟨ht,rfl⟩
 ·have hmono:=Z4A hall (xs.length-(i+1)) (i+1) (by omega)
  rw [show i+1+(xs.length-(i+1))=xs.length by omega,ht] at hmono
  unfold ZB
  rw [if_pos hall,if_neg (by omega)]
  exact ⟨rfl,rfl⟩
 ·unfold ZB
  rw [if_neg (by simp [hall])]
  exact ⟨rfl,rfl⟩
def Z9A (A:List Int->Int×Int):ZH:=fun args h K=>ZA none h true 20 args fun a=>match a with
 | [.vints .i64 xs n]=>Z6 (n=xs.length/\n<900000000000) (K (.tuple [.int .i64 (A xs).1,.int .i64 (A xs).2]))
 | _=>False
theorem Z3g (args:List AV) (h:Z8) (K:AV->Prop) (hl:Z9A ZB args h K):Ze PP 74 args h fun o h'=>∃v,o=.ret v/\h'=h/\K v:=by
 refine Zs.psumm (d:=20) (Zk _ _ _ _ _ hl fun a ha=> ?_)
 split at ha
 ·obtain ⟨⟨rfl,h1⟩,hK⟩:=Zb ha
  exact ⟨_,.ev (Zfv _) (Zkx _ _ _ _ rfl rfl h1 rfl),fun _=>rfl,hK⟩
 ·exact ha.elim
def amL (g:Nat->ZE) (n:Nat):List Int:=(List.range n).map fun j=>(g j).amount
theorem Z3h (g:Nat->ZE) (n:Nat):amL g (n+1)=amL g n++[(g n).amount]:=by simp [amL,List.range_succ]
theorem Z0C (g:Nat->ZE) (n:Nat):(amL g n).length=n:=by simp [amL]
def suS (M:Nat) (g:Nat->ZE) (i:Nat):St:=⟨24,[(8,.vrows 132 M (Zf g) M),(9,.int .i64 M),(10,.int .i64 i),(4,.nslice ⟨0,0,0,0,0⟩ 1 i i)],⟨1,[(0,.ints .i64 (amL g i))]⟩,[]⟩
def suE (g:Nat->ZE) (i:Nat):St:=⟨24,[(4,.nslice ⟨0,0,0,0,0⟩ 1 i i)],⟨1,[(0,.ints .i64 (amL g i))]⟩,[]⟩
theorem Zky (M i:Nat) (g:Nat->ZE) (Z1 Z2:Prop) (hn:M<900000000000) (hi:i<=M) (h1:i<M->Z1) (h2:i=M->Z2):
  ZC G0 20 187 0 0 (suS M g i) (fun e s=>match e with|.normal=>ZZ 0 [(0,3)] (suS M g (i+1)) s Z1|.exit x=>(match Nat.beq x 0 with|true=>ZZ 0 [(0,0)] (suE g i) s Z2|false=>False)|.ret=>ZZ 0 [] (suE g i) s False|_=>False):=by
 refine @Eq.mpr _ (let q1:=amL g i;let q2:=q1++[(g (Int.toNat (↑i:Int))).amount];let q3:=List.length q2;let q4:=decide (M=M);let q5:=i+1;
 Z7 (decide ((↑i:Int)<(↑M:Int))) (Z6 (0<=(↑i:Int)/\(↑i:Int)<(↑M:Int)) (Z6 (i64=i64/\List.length q1=i) (Z6 (q3*8<=140737488355328) (Z0 q4 (Zf g=Zf g/\Z0 q4 (Z6 ((↑M:Int)=(↑M:Int)) (Z6 (wrap i64 ((↑i:Int)+1)=(↑q5:Int)) (Z6 (q3=q5) (Z6 (q5<=q3) (q2=amL g q5/\Z1)))))))))) (Z6 (i=i) (Z6 (i<=i) (q1=q1/\Z2)))) (by kernel_rfl) ?_
 conv=>zeta
 try simp only [WD]
 try simp only [WE]
 try simp only [vcC]
 refine ⟨fun hlt=>⟨by omega,Z0C g i, ?_⟩,fun hge=>h2 (by omega)⟩
 rw [<-Z3h,Z0C]
 exact ⟨by omega,w64 (by omega),rfl,J4 _,rfl,h1 (by omega)⟩
noncomputable def Zkz (A:List Int->Int×Int) (M:Nat) (g:Nat->ZE):Zd:=(G0.withL 187 0 (goL 0 [] (suS M g 0) (M<900000000000) (Z1y 0 M (fun i=>i<M) (fun i=>i=M) (fun _=>False) (suE g) (suE g)))).withP 74 (Z9A A)
theorem Zfw (M:Nat) (g:Nat->ZE):(Zkz ZB M g).Ok:=
 Zd.withP_ok (Zd.withGo (τ1:=[(0,3)]) (τ2:=[(0,0)]) (τ3:=[]) (N:=20) Zm (by kernel_rfl) fun hC=>⟨rfl,fun i hi hgo=>Zky M i g _ _ hC hi (fun h=>⟨h,h⟩) (fun h=>h)⟩) Z3g
theorem ZkA (A:List Int->Int×Int) (M N:Nat) (f:Nat->InS) (g:Nat->ZE) (num:Int) (F:Int×Int) (hn:M<900000000000) (hF:F=A (amL g M)):
  evF (Zkz A M g) 20 187 [.agg [.int .i64 num,.vrows 130 N (Zg f) N,.vrows 132 M (Zf g) M]] ⟨0,[]⟩ (Yq 0 [] (.tuple [.int .i64 F.1,.int .i64 F.2]) 0 []):=by
 refine @Eq.mpr _ (let q1:=decide (M=M);
 Z0 q1 (Zf g=Zf g/\
 Z0 q1 (Z6 ((↑M:Int)=(↑M:Int)) (amL g 0=[]/\
 M<900000000000/\
 ∀(i:Nat),
 let q3:=List.take i (Y0 0 (amL g i));let q4:=A q3;
 i<=M->(∀(j:Nat),j<i->(fun (i:Nat)=>i<M) j)->(i=M->Z6 (0+i<=List.length (amL g i)) (Z6 (i=List.length q3/\i<900000000000) (Z6 (q4.fst=F.fst) (Z6 (q4.snd=F.snd) True))))/\(False->False))))) (by kernel_rfl) ?_
 conv=>zeta
 try simp only [WD]
 try simp only [WE]
 try simp only [vcC]
 subst hF
 refine ⟨rfl,hn,fun i hi hgo=>⟨fun he=> ?_,fun h=>h.elim⟩⟩
 subst he
 rw [Yk,Kn,JD (by rw [Z0C];exact J4 _),Z0C]
 exact ⟨J4 _,⟨rfl,hn⟩,rfl,rfl⟩
def Z8p (A:List Int->Int×Int):ZH:=fun args h K=>ZA none h true 20 args fun a=>match a with
 | [.agg [.int .i64 num,.vrows 130 N f n,.vrows 132 M f' m]]=>∃g g',f=Zg g/\f'=Zf g'/\(n=N/\m=M/\M<900000000000)/\K (.tuple [.int .i64 (A (amL g' M)).1,.int .i64 (A (amL g' M)).2])
 | _=>False
theorem Z4B (args:List AV) (h:Z8) (K:AV->Prop) (hl:Z8p ZB args h K):Ze PP 187 args h fun o h'=>∃v,o=.ret v/\h'=h/\K v:=by
 refine Zs.psumm (d:=20) (Zk _ _ _ _ _ hl fun a ha=> ?_)
 split at ha
 ·obtain ⟨g,g',rfl,rfl,⟨rfl,rfl,h1⟩,hK⟩:=ha
  exact ⟨_,.ev (Zfw _ g') (ZkA _ _ _ g g' _ _ h1 rfl),fun _=>rfl,hK⟩
 ·exact ha.elim
def Z3V (v:AV) (N:Nat) (g:Nat->InS):Prop:=match v with
 | .vrows 130 n f m=>(m=n/\N=n)/\∀i,i<n->f i=(g i).c
 | .nilslice=>N=0
 | .eslice=>N=0
 | .fslice=>N=0
 | _=>False
def Z1z (v:AV) (N:Nat) (g:Nat->ZE):Prop:=match v with
 | .vrows 132 n f m=>(m=n/\N=n)/\∀i,i<n->f i=(g i).c
 | .nilslice=>N=0
 | .eslice=>N=0
 | .fslice=>N=0
 | _=>False
theorem Zh.rows0 {E:Env} {f:Nat->List AV} {r:Value} {a:Option Addr} {c:Nat} (h:r=.slice a 0 c) (hc:a=none->c=0):Zh E (.vrows esz 0 f 0) r:=by
 subst h
 cases a with
 | none=>rw [hc rfl];exact .vrowsNil _ _ _ _ rfl rfl
 | some a=>exact .vrows _ _ _ _ a c (fun _=>[]) (J4 _) (JC _) (fun i h=>by omega) (fun i h=>by omega) (fun i j c h=>by omega)
theorem Zh.rowsC {E:Env} {n:Nat} {f f':Nat->List AV} {r:Value} (h:Zh E (.vrows esz n f n) r) (hf:∀i,i<n->f i=f' i):Zh E (.vrows esz n f' n) r:=by
 cases h with
 | vrowsNil esz n f len h1 h2=>exact .vrowsNil _ _ _ _ h1 h2
 | vrows esz n f len a cap g h1 h2 hc hl hi=>exact .vrows _ _ _ _ a cap g h1 h2 (fun i h=>by rw [<-hf i h];exact hc i h) hl hi
theorem Z3V.rel {N:Nat} {g:Nat->InS} (h:Z3V v N g) {E:Env} {r:Value} (hv:Zh E v r):Zh E (.vrows 130 N (Zg g) N) r:=by
 unfold Z3V at h
 split at h
 ·obtain ⟨⟨rfl,rfl⟩,hf⟩:=h
  exact hv.rowsC hf
 ·subst h;cases hv;exact .rows0 rfl (fun _=>rfl)
 ·subst h;cases hv with|eslice a=>exact .rows0 rfl (fun _=>rfl)
 ·subst h;cases hv with|fslice a c=>exact .rows0 rfl (fun h=>by cases h)
 ·exact h.elim
theorem Z1z.rel {N:Nat} {g:Nat->ZE} (h:Z1z v N g) {E:Env} {r:Value} (hv:Zh E v r):Zh E (.vrows 132 N (Zf g) N) r:=by
 unfold Z1z at h
 split at h
 ·obtain ⟨⟨rfl,rfl⟩,hf⟩:=h
  exact hv.rowsC hf
 ·subst h;cases hv;exact .rows0 rfl (fun _=>rfl)
 ·subst h;cases hv with|eslice a=>exact .rows0 rfl (fun _=>rfl)
 ·subst h;cases hv with|fslice a c=>exact .rows0 rfl (fun h=>by cases h)
 ·exact h.elim
theorem Z3V.cell {N:Nat} {g:Nat->InS} (h:Z3V v N g):v.isCell=true/\∀k n xs,v≠.arr k n xs:=by
 unfold Z3V at h;split at h<;>simp_all [AV.isCell]
theorem Z1z.cell {N:Nat} {g:Nat->ZE} (h:Z1z v N g):v.isCell=true/\∀k n xs,v≠.arr k n xs:=by
 unfold Z1z at h;split at h<;>simp_all [AV.isCell]
structure TxS where
 num:Int
 N:Nat
 ins:Nat->InS
 M:Nat
 outs:Nat->ZE
def TxS.c (t:TxS):List AV:=[.int .i64 t.num,.vrows 130 t.N (Zg t.ins) t.N,.vrows 132 t.M (Zf t.outs) t.M]
structure TxS.Ok (t:TxS):Prop where
 n:t.N<900000000000
 m:t.M<900000000000
 ins:∀i,i<t.N->(t.ins i).Ok
 outs:∀i,i<t.M->(t.outs i).Ok
def Z08 (l:List AV) (t:TxS):Prop:=match l with
 | [.int .i64 num,a,b]=>t.num=num/\Z3V a t.N t.ins/\Z1z b t.M t.outs
 | _=>False
theorem Z08.rel {l:List AV} {t:TxS} (h:Z08 l t) {E:Env} {r:Value} (hv:Zh E (.agg l) r):Zh E (.agg t.c) r:=by
 unfold Z08 at h
 split at h
 ·rename_i num a b
  obtain ⟨h0,h1,h2⟩:=h
  cases hv with
  | agg cs vs hc=>
   obtain ⟨c1,ws,rfl,_,q1,p1,hc⟩:=Zr.cons_cell hc (fun _ _ _ h=>by cases h)
   obtain ⟨c2,ws,rfl,_,q2,p2,hc⟩:=Zr.cons_cell hc h1.cell.2
   obtain ⟨c3,ws,rfl,_,q3,p3,hc⟩:=Zr.cons_cell hc h2.cell.2
   cases hc
   refine .agg _ _ (.one _ _ _ _ rfl q1 (by rw [h0];exact p1) (.one _ _ _ _ rfl q2 (h1.rel p2) (.one _ _ _ _ rfl q3 (h2.rel p3) .nil)))
 ·exact h.elim
theorem Zs.conv {P:Program} {f:FuncId} {args args₀:List AV} {nx:Nat} {bs:List (Nat×Blk)} (h:Zs P f args₀ v nx bs) (hc:∀E r,Zz E args r->Zz E args₀ r):Zs P f args v nx bs:=
 fun E w rs he hr=>h E w rs he (hc E rs hr)
theorem Zz.head {E:Env} {v':AV} {r l:List AV} {rs:List Value} (h:Zz E (v::l) rs) (hv:∀c,Zh E v c->Zh E v' c) (ht:∀cs,Zz E l cs->Zz E r cs):Zz E (v'::r) rs:=by
 cases h with
 | cons v c vs cs h t=>exact .cons _ _ _ _ (hv c h) (ht cs t)
@[irreducible] def Yf (A:List Int->Int×Int) (t:TxS):Bool:=
 decide (0<=t.num/\t.num<=2147483647)&&decide (1<=t.N/\t.N<=24)&&decide (1<=t.M/\t.M<=24)&& !((List.range t.N).any (YV t.N t.ins))&& !((List.range t.M).any (Yx t.outs))&&((A (amL t.outs t.M)).2==0)
noncomputable def ZkB (A:List Int->Int×Int):Zd:=((G0.withP 179 Zka).withP 245 Zkh).withP 187 (Z8p A)
theorem Zfx:(ZkB ZB).Ok:=Zd.withP_ok (Zd.withP_ok (Zd.withP_ok Zm Zfj) Zfn) Z4B
theorem ZmS (A:List Int->Int×Int) (t:TxS) (F:Int) (ht:t.Ok) (hF:F=if Yf A t=true then 0 else 2):
  evF (ZkB A) 20 89 [.agg t.c] ⟨0,[]⟩ (Yq 0 [] (.int .i64 F) 0 []):=by
 refine @Eq.mpr _ (let q1:=Z6 (2=F) True;let q2:=t.N;let q3:=(↑q2:Int);let q4:=t.M;let q5:=(↑q4:Int);let q6:=Zg t.ins;let q7:=q2=q2;let q8:=q4=q4;let q9:=q4<900000000000;
 Z7 (decide (0<=t.num)) (Z7 (!decide (t.num<=2147483647)) q1 (Z7 (decide (1<=q3)) (Z7 (!decide (q3<=24)) q1 (Z7 (decide (1<=q5)) (Z7 (!decide (q5<=24)) q1 (∃(g:Nat->InS),
 let q19:=q6=Zg g;
 q19/\
 q19/\
 (q7/\q7/\q7/\q2<900000000000/\∀(i:Nat),i<q2->InS.Ok (g i))/\
 Z7 (decide (Yz (YV q2 g) q2>=0)) q1 (∃(g:Nat->ZE),
 let q21:=Zf t.outs;
 q21=Zf g/\(q8/\q9/\∀(i:Nat),i<q4->ZE.Ok (g i))/\Z7 (decide (Yz (Yx g) q4>=0)) q1 (∃(g:Nat->InS),∃(g':Nat->ZE),q6=Zg g/\q21=Zf g'/\(q7/\q8/\q9)/\Z7 ((A (amL g' q4)).snd !=0) q1 (Z6 (0=F) True))))) q1)) q1)) q1) (by kernel_rfl) ?_
 conv=>zeta
 try simp only [WD]
 try simp only [WE]
 try simp only [vcC]
 have h2:Yf A t=false->2=F:=fun h=>by rw [hF,h];rfl
 have h0:Yf A t=true->0=F:=fun h=>by rw [hF,h];rfl
 clear hF
 refine ⟨fun a1=>⟨fun a2=>h2 ?_,fun a2=>⟨fun a3=>⟨fun a4=>h2 ?_,fun a4=>⟨fun a5=>⟨fun a6=>h2 ?_,fun a6=> ?_⟩,fun a5=>h2 ?_⟩⟩,fun a3=>h2 ?_⟩⟩,fun a1=>h2 ?_⟩
 ·unfold Yf;rw [decide_eq_false (p:=0<=t.num/\_) (by simp at a2;omega)];simp
 ·unfold Yf;rw [decide_eq_false (p:=1<=t.N/\_) (by simp at a4;omega)];simp
 ·unfold Yf;rw [decide_eq_false (p:=1<=t.M/\_) (by simp at a6;omega)];simp
 ·refine ⟨t.ins,rfl,rfl,⟨ht.n,ht.ins⟩,fun b1=>h2 ?_,fun b1=>⟨t.outs,rfl,⟨ht.m,ht.outs⟩,fun b2=>h2 ?_,fun b2=>⟨t.ins,t.outs,rfl,rfl,ht.m,fun b3=>h2 ?_,fun b3=>h0 ?_⟩⟩⟩
  ·have:=VS (YV t.N t.ins) t.N
   rw [decide_eq_true b1] at this
   unfold Yf;rw [<-this];simp
  ·have:=VS (Yx t.outs) t.M
   rw [decide_eq_true b2] at this
   unfold Yf;rw [<-this];simp
  ·unfold Yf;simp at b3;simp [b3]
  ·have e1:=VS (YV t.N t.ins) t.N
   rw [decide_eq_false b1] at e1
   have e2:=VS (Yx t.outs) t.M
   rw [decide_eq_false b2] at e2
   unfold Yf
   rw [<-e1,<-e2]
   simp at a2 a4 a6 b3
   simp [b3]
   omega
 ·unfold Yf;rw [decide_eq_false (p:=1<=t.M/\_) (by omega)];simp
 ·unfold Yf;rw [decide_eq_false (p:=1<=t.N/\_) (by omega)];simp
 ·unfold Yf;rw [decide_eq_false (p:=0<=t.num/\_) (by omega)];simp
def ckS (A:List Int->Int×Int):ZH:=fun args h K=>ZA none h true 20 args fun a=>match a with
 | [.agg l]=>∃t,Z08 l t/\t.Ok/\Z7 (Yf A t) (K (.int .i64 0)) (K (.int .i64 2))
 | _=>False
theorem ZcN (args:List AV) (h:Z8) (K:AV->Prop) (hl:ckS ZB args h K):Ze PP 89 args h fun o h'=>∃v,o=.ret v/\h'=h/\K v:=by
 refine Zs.psumm (d:=20) (Zk _ _ _ _ _ hl fun a ha=> ?_)
 split at ha
 ·obtain ⟨t,h1,h2,hK⟩:=ha
  refine ⟨_,(Zs.ev Zfx (ZmS _ t _ h2 rfl)).conv fun E r hr=>hr.head (fun _ hc=>h1.rel hc) (fun _ hc=>hc),fun _=>rfl, ?_⟩
  rw [Z21] at hK
  split
  ·rename_i h;exact hK.1 h
  ·rename_i h;exact hK.2 (by simpa using h)
 ·exact ha.elim
end Go.Tk
end
section
namespace Go.Tk
open IntKind (i64 u8 u32 u64 wrap)
def ZcO (k:Nat) (τ:Ren) (y x:Nat):Ren:=match Nat.blt y k with
 | true=>τ
 | false=>match Z83 τ y with
  | some _=>τ
  | none=>(y,x)::τ
mutual
def Zih (k:Nat) (τ:Ren):AV->AV->Ren
 | .ptr (some q),v=>match v with|.ptr (some p)=>ZcO k τ q.blk p.blk|_=>τ
 | .nslice q _ _ _,v=>match v with|.nslice p _ _ _=>ZcO k τ q.blk p.blk|_=>τ
 | .map (some y),v=>match v with|.map (some x)=>ZcO k τ y x|_=>τ
 | .yield y,v=>match v with|.yield x=>ZcO k τ y x|_=>τ
 | .func _ fs cs,v=>match v with|.func _ fs' cs'=>Z3i k (Z3i k τ fs fs') cs cs'|_=>τ
 | .iface _ u,v=>match v with|.iface _ u'=>Zih k τ u u'|_=>τ
 | .agg cs,v=>match v with|.agg cs'=>Z3i k τ cs cs'|_=>τ
 | .tuple cs,v=>match v with|.tuple cs'=>Z3i k τ cs cs'|_=>τ
 | _,_=>τ
def Z3i (k:Nat) (τ:Ren):List AV->List AV->Ren
 | [],_=>τ
 | v::r,l=>match l with|v'::r'=>Z3i k (Zih k τ v v') r r'|[]=>τ
end
def ZmT (k:Nat) (τ:Ren):Blk->Blk->Ren
 | .flat cs,B=>match B with|.flat cs'=>Z3i k τ cs cs'|_=>τ
 | .map es,B=>match B with|.map es'=>Z3i k (Z3i k τ (es.map (·.1)) (es'.map (·.1))) (es.map (·.2)) (es'.map (·.2))|_=>τ
 | .pmap es,B=>match B with|.pmap es'=>Z3i k (Z3i k τ (es.map (·.1)) (es'.map (·.1))) (es.map (·.2)) (es'.map (·.2))|_=>τ
 | _,_=>τ
def ZkC (k:Nat) (t:ZW):ZW->Ren->Ren
 | [],τ=>τ
 | (x,v)::r,τ=>ZkC k t r (match ZL t x with|some u=>Zih k τ v u|none=>τ)
def Zii (k:Nat):List Ux->List Ux->Ren->Ren
 | .call _ a::r,l,τ=>match l with|.call _ b::r'=>Zii k r r' (Z3i k τ a b)|_=>τ
 | .mark y::r,l,τ=>match l with|.mark x::r'=>Zii k r r' (ZcO k τ y x)|_=>τ
 | [],_,τ=>τ
def Zfy (k:Nat) (bs:List (Nat×Blk)):List (Nat×Blk)->Ren->Ren
 | [],τ=>τ
 | (y,B)::r,τ=>Zfy k bs r (match rn k τ y with
  | some x=>match ZO bs x with|some C=>ZmT k τ B C|none=>τ
  | none=>τ)
def ZmU (k:Nat) (s₂ s:St):Ren:=Zfy k s.h.bs s₂.h.bs (Zfy k s.h.bs s₂.h.bs (Zfy k s.h.bs s₂.h.bs (Zii k s₂.d s.d (ZkC k s.t s₂.t []))))
def Z1A (k:Nat) (s₂ s:St) (Z:Prop):Prop:=ZZ k (ZmU k s₂ s) s₂ s Z
theorem UU {k:Nat} {s₂ s:St} {Z:Prop} (hl:Z1A k s₂ s Z):Z/\QY k s s₂:=Y5 hl
def ZF (k:Nat) (o:Out) (nx:Nat) (bs:List (Nat×Blk)):KO:=fun o' h=>match o with
 | .ret v=>match o' with
  | .ret u=>Z1A k ⟨1,[(0,v)],⟨nx,bs⟩,[]⟩ ⟨1,[(0,u)],h,[]⟩ True
  | .panic _=>False
 | .panic v=>match o' with
  | .panic u=>Z1A k ⟨1,[(0,v)],⟨nx,bs⟩,[]⟩ ⟨1,[(0,u)],h,[]⟩ True
  | .ret _=>False
theorem Spec.evM {G:Zd} (hG:G.Ok) {n:Nat} {f:FuncId} {args:List AV} {h0:Z8} {o:Out} {nx:Nat} {bs:List (Nat×Blk)} (h:evF G n f args h0 (ZF h0.next o nx bs)):Spec G.P f args h0 o nx bs:=by
 intro E w rs he hl
 refine (ZX hG h E w rs he hl).mono ?_
 rintro e w' ⟨E',o',h',hK,hev,hor⟩
 unfold ZF at hK
 cases o with
 | ret v=>
  cases hor with
  | ret u r hr=>
   obtain ⟨E₂,h1,h2⟩:=Z20 rfl hK he hev hr
   exact ⟨E₂,h1,.ret _ _ h2⟩
  | panic u r hr=>exact hK.elim
 | panic v=>
  cases hor with
  | panic u r hr=>
   obtain ⟨E₂,h1,h2⟩:=Z20 rfl hK he hev hr
   exact ⟨E₂,h1,.panic _ _ h2⟩
  | ret u r hr=>exact hK.elim
theorem Spec.pure {P:Program} {f:FuncId} {args:List AV} {v:AV} {nx:Nat} {bs:List (Nat×Blk)} (h:Spec P f args ⟨0,[]⟩ (.ret v) nx bs):Zs P f args v nx bs:=by
 intro E w rs he hl
 refine (h E w rs he hl).mono ?_
 rintro e w' ⟨E',hev,hor⟩
 cases hor with
 | ret v r hr=>exact ⟨E',r,rfl,hev,hr⟩
theorem Zs.evM {G:Zd} (hG:G.Ok) {n:Nat} {f:FuncId} {args:List AV} {v:AV} {nx:Nat} {bs:List (Nat×Blk)} (h:evF G n f args ⟨0,[]⟩ (ZF 0 (.ret v) nx bs)):Zs G.P f args v nx bs:=(Spec.evM hG h).pure
def goM (k:Nat) (S0:St) (C:Prop) (ends:KE->Prop):Nat->St->KE->Prop:=fun k' s X=>match Nat.beq k' k with
 | true=>Z1A k S0 s (C/\ends X)
 | false=>False
def rdM (k id l:Nat) (S1 En Rn Jn:St) (go ex re jm:Prop):KE:=fun e s=>match e with
 | .normal=>Z1A k S1 s go
 | .exit x=>(match Nat.beq x id with|true=>Z1A k En s ex|false=>False)
 | .ret=>Z1A k Rn s re
 | .goto x=>(match Nat.beq x l with|true=>Z1A k Jn s jm|false=>False)
 | .panic _=>False
theorem Zd.withGoM {G:Zd} (hG:G.Ok) {f:FuncId} {id k N n l:Nat} {S En Rn Jn:Nat->St} {S0:St} {C:Prop} {go ex re jm:Nat->Prop} (h1:VL G.P f id=true) (hC:C->S 0=S0/\
   ∀i,i<=n->(∀j,j<i->go j)->ZC G N f id k (S i) (rdM k id l (S (i+1)) (En i) (Rn i) (Jn i) (go i/\i<n) (ex i) (re i) (jm i))):
  (G.withL f id (goM k S0 C (Yu id n l go ex re jm En Rn Jn))).Ok:=by
 refine Zd.withL_ok hG h1 ?_
 intro k' s X hl
 unfold goM at hl
 split at hl
 ·rename_i hk
  have:=J0 hk
  subst this
  obtain ⟨⟨hc,hX⟩,hw⟩:=UU hl
  obtain ⟨e0,hr⟩:=hC hc
  refine ⟨{ t:Nat//t<=n/\∀j,j<t->go j},fun t=>n-t.1,fun t=>S t.1,⟨0,JC _,fun j hj=>by omega⟩,N,by show QY k' s (S 0);rw [e0];exact hw, ?_⟩
  rintro ⟨t,ht,hgo⟩
  refine ⟨_,hr t ht hgo, ?_⟩
  intro e s' hY
  unfold rdM at hY
  split at hY
  ·obtain ⟨⟨hg,hlt⟩,hw'⟩:=UU hY
   refine ⟨⟨t+1,hlt,fun j hj=> ?_⟩,by show n-(t+1)<n-t;omega,hw'⟩
   by_cases hjt:j=t
   ·rw [hjt];exact hg
   ·exact hgo j (by omega)
  ·split at hY
   ·rename_i hi
    have:=J0 hi
    subst this
    obtain ⟨hex,hw'⟩:=UU hY
    exact ⟨_,hw',(hX t ht hgo).1 hex⟩
   ·exact hY.elim
  ·obtain ⟨hre,hw'⟩:=UU hY
   exact ⟨_,hw',(hX t ht hgo).2.1 hre⟩
  ·split at hY
   ·rename_i hi
    have:=J0 hi
    subst this
    obtain ⟨hjm,hw'⟩:=UU hY
    exact ⟨_,hw',(hX t ht hgo).2.2 hjm⟩
   ·exact hY.elim
  ·exact hY.elim
 ·exact hl.elim
end Go.Tk
namespace Go.Tk
open IntKind (i64 u8 u32 u64 wrap)
theorem Zd.withL_join {G H:Zd} (hG:G.Ok) (hP:G.P=H.P) {f:FuncId} {id:Nat} {S:Nat->St->KE->Prop} (h:(H.withL f id S).Ok):(G.withL f id S).Ok where
 draw:=hG.draw
 psumm:=hG.psumm
 fsumm:=hG.fsumm
 lsumm:=fun f' id' S' fn c body hS hf hb hm k s X hs=>by
  have hS0:=hS
  simp only [Zd.withL] at hS
  split at hS
  ·have:=h.lsumm f' id' S' fn c body
   simp only [Zd.withL] at this
   rename_i hq
   rw [hq] at this
   have:=this hS (hP▸hf) hb hm k s X hs
   rw [<-hP] at this
   exact this
  ·exact hG.lsumm f' id' S' fn c body hS hf hb hm k s X hs
end Go.Tk
end
section
namespace Go.Tk
open IntKind (i64 u8 u32 u64 wrap)
variable {args:List AV} {R:AV->Prop}
def b8 (n k:Int):Int:=u8.wrap (Zq .i64 n k)
@[irreducible] def Zu (n:Int):List Int:=
 if n<253 then [u8.wrap n] else if n<65536 then [253,b8 n 8,b8 n 0] else if n<4294967296 then [254,b8 n 24,b8 n 16,b8 n 8,b8 n 0]
 else [255,b8 n 56,b8 n 48,b8 n 40,b8 n 32,b8 n 24,b8 n 16,b8 n 8,b8 n 0]
theorem ZI (n:Int):1<=(Zu n).length/\(Zu n).length<=9:=by
 unfold Zu
 split
 ·simp
 ·split
  ·simp
  ·split<;>simp
theorem ZcP {n:Int} (h:n<253):Zu n=[u8.wrap n]:=by unfold Zu;rw [if_pos h]
theorem ZcQ {n:Int} (h:¬n<253) (h2:n<65536):Zu n=[253,b8 n 8,b8 n 0]:=by unfold Zu;rw [if_neg h,if_pos h2]
theorem ZcR {n:Int} (h:¬n<253) (h2:¬n<65536) (h3:n<4294967296):Zu n=[254,b8 n 24,b8 n 16,b8 n 8,b8 n 0]:=by unfold Zu;rw [if_neg h,if_neg h2,if_pos h3]
theorem ZcS {n:Int} (h:¬n<253) (h2:¬n<65536) (h3:¬n<4294967296):Zu n=[255,b8 n 56,b8 n 48,b8 n 40,b8 n 32,b8 n 24,b8 n 16,b8 n 8,b8 n 0]:=by unfold Zu;rw [if_neg h,if_neg h2,if_neg h3]
theorem ZkD (xs ys:List Int) (N L s lo:Nat) (n:Int) (hN:xs.length=N) (hB:N<90000000000000) (hy:ys=Zu n) (hL:L=(xs++ys).length):
  evF G0 20 118 [.nslice ⟨0,0,s,0,0⟩ 1 N lo,.int .i64 n] ⟨1,[(0,.ints .u8 xs)]⟩ (ZF 1 (.ret (.nslice ⟨1,0,0,0,0⟩ 1 L L)) 2 [(1,.ints .u8 (xs++ys))]):=by
 refine @Eq.mpr _ (let q1:=decide (u8=u8/\List.length xs=N);let q2:=xs++[wrap u8 n];let q3:=List.length q2;let q4:=xs++ys;let q5:=xs++[(253:Int)];let q6:=List.length q5;let q7:=[wrap u8 (Zq i64 n 8)];let q8:=q5++q7;let q9:=List.length q8;let q10:=[wrap u8 (Zq i64 n 0)];let q11:=q8++q10;let q12:=List.length q11;let q13:=xs++[(254:Int)];let q14:=List.length q13;let q15:=[wrap u8 (Zq i64 n 24)];let q16:=q13++q15;let q17:=List.length q16;let q18:=[wrap u8 (Zq i64 n 16)];let q19:=q16++q18;let q20:=List.length q19;let q21:=q19++q7;let q22:=List.length q21;let q23:=q21++q10;let q24:=List.length q23;let q25:=xs++[(255:Int)];let q26:=List.length q25;let q27:=q25++[wrap u8 (Zq i64 n 56)];let q28:=List.length q27;let q29:=q27++[wrap u8 (Zq i64 n 48)];let q30:=List.length q29;let q31:=q29++[wrap u8 (Zq i64 n 40)];let q32:=List.length q31;let q33:=q31++[wrap u8 (Zq i64 n 32)];let q34:=List.length q33;let q35:=q33++q15;let q36:=List.length q35;let q37:=q35++q18;let q38:=List.length q37;let q39:=q37++q7;let q40:=List.length q39;let q41:=q39++q10;let q42:=List.length q41;
 Z7 (decide (n<253)) (Z0 q1 (Z6 (q3*1<=140737488355328) (Z6 (q3=L) (Z6 (L<=q3) (q2=q4/\True))))) (Z7 (decide (n<65536)) (Z0 q1 (Z6 (q6*1<=140737488355328) (Z6 (u8=u8/\q6=q6) (Z6 (q9*1<=140737488355328) (Z6 (u8=u8/\q9=q9) (Z6 (q12*1<=140737488355328) (Z6 (q12=L) (Z6 (L<=q12) (q11=q4/\True))))))))) (Z7 (decide (n<4294967296)) (Z0 q1 (Z6 (q14*1<=140737488355328) (Z6 (u8=u8/\q14=q14) (Z6 (q17*1<=140737488355328) (Z6 (u8=u8/\q17=q17) (Z6 (q20*1<=140737488355328) (Z6 (u8=u8/\q20=q20) (Z6 (q22*1<=140737488355328) (Z6 (u8=u8/\q22=q22) (Z6 (q24*1<=140737488355328) (Z6 (q24=L) (Z6 (L<=q24) (q23=q4/\True))))))))))))) (Z0 q1 (Z6 (q26*1<=140737488355328) (Z6 (u8=u8/\q26=q26) (Z6 (q28*1<=140737488355328) (Z6 (u8=u8/\q28=q28) (Z6 (q30*1<=140737488355328) (Z6 (u8=u8/\q30=q30) (Z6 (q32*1<=140737488355328) (Z6 (u8=u8/\q32=q32) (Z6 (q34*1<=140737488355328) (Z6 (u8=u8/\q34=q34) (Z6 (q36*1<=140737488355328) (Z6 (u8=u8/\q36=q36) (Z6 (q38*1<=140737488355328) (Z6 (u8=u8/\q38=q38) (Z6 (q40*1<=140737488355328) (Z6 (u8=u8/\q40=q40) (Z6 (q42*1<=140737488355328) (Z6 (q42=L) (Z6 (L<=q42) (q41=q4/\True)))))))))))))))))))))))) (by kernel_rfl) ?_
 conv=>zeta
 try simp only [WD]
 try simp only [WE]
 try simp only [vcC]
 subst hy hL hN
 refine ⟨fun h1=> ?_,fun h1=>⟨fun h2=> ?_,fun h2=>⟨fun h3=> ?_,fun h3=> ?_⟩⟩⟩
 ·rw [ZcP h1]
  simp only [J7,Js,Jy]
  and_intros<;>first|trivial|omega
 ·rw [ZcQ h1 h2]
  simp only [J7,Js,Jy]
  and_intros<;>first|trivial|omega|simp [b8]
 ·rw [ZcR h1 h2 h3]
  simp only [J7,Js,Jy]
  and_intros<;>first|trivial|omega|simp [b8]
 ·rw [ZcS h1 h2 h3]
  simp only [J7,Js,Jy]
  and_intros<;>first|trivial|omega|simp [b8]
theorem ZkE (ys:List Int) (L:Nat) (n:Int) (hy:ys=Zu n) (hL:L=ys.length):
  evF G0 20 118 [.nilslice,.int .i64 n] ⟨0,[]⟩ (ZF 0 (.ret (.nslice ⟨0,0,0,0,0⟩ 1 L L)) 1 [(0,.ints .u8 ys)]):=by
 refine @Eq.mpr _ (let q1:=[wrap u8 (Zq i64 n 8),wrap u8 (Zq i64 n 0)];let q2:=wrap u8 (Zq i64 n 24)::wrap u8 (Zq i64 n 16)::q1;
 Z7 (decide (n<253)) (Z6 (1=L) (Z6 (L<=1) ([wrap u8 n]=ys/\True))) (Z7 (decide (n<65536)) (Z6 (3=L) (Z6 (L<=3) ((253:Int)::q1=ys/\True))) (Z7 (decide (n<4294967296)) (Z6 (5=L) (Z6 (L<=5) ((254:Int)::q2=ys/\True))) (Z6 (9=L) (Z6 (L<=9) ((255:Int)::wrap u8 (Zq i64 n 56)::wrap u8 (Zq i64 n 48)::wrap u8 (Zq i64 n 40)::wrap u8 (Zq i64 n 32)::q2=ys/\True)))))) (by kernel_rfl) ?_
 conv=>zeta
 try simp only [WD]
 try simp only [WE]
 try simp only [vcC]
 subst hy hL
 refine ⟨fun h1=> ?_,fun h1=>⟨fun h2=> ?_,fun h2=>⟨fun h3=> ?_,fun h3=> ?_⟩⟩⟩
 ·rw [ZcP h1];simp
 ·rw [ZcQ h1 h2];simp [b8]
 ·rw [ZcR h1 h2 h3];simp [b8]
 ·rw [ZcS h1 h2 h3];simp [b8]
def Zij (W:Int->List Int):ZN:=fun args h K=>match args with
 | [.nslice ⟨b,0,_,0,0⟩ 1 _ _,.int .i64 _]=>frA [b] h 20 args fun Bs a=>match Bs,a with
  | [.ints .u8 xs],[.nslice ⟨0,0,_,0,0⟩ 1 len _,.int .i64 n]=>Z6 (xs.length=len/\len<90000000000000) (K (.ret (.nslice ⟨h.next,0,0,0,0⟩ 1 (xs++W n).length (xs++W n).length)) ⟨h.next+1,(h.next,.ints .u8 (xs++W n))::Yl h.bs b⟩)
  | _,_=>False
 | [.nilslice,.int .i64 n]=>K (.ret (.nslice ⟨h.next,0,0,0,0⟩ 1 (W n).length (W n).length)) ⟨h.next+1,(h.next,.ints .u8 (W n))::h.bs⟩
 | _=>False
theorem Zfz (args:List AV) (h:Z8) (K:KO) (hl:Zij Zu args h K):Ze PP 118 args h K:=by
 unfold Zij at hl
 split at hl
 ·refine Spec.fsumm hl fun Bs a hlen hK0=> ?_
  split at hK0
  ·obtain ⟨⟨h1,h2⟩,hK⟩:=Zb hK0
   exact ⟨_,_,_,_,_,.evM Zm (ZkD _ _ _ _ _ _ _ h1 h2 rfl rfl),by simp,.ret _ _ rfl,.cons _ _ _ _ _ _ rfl (.ints _ _) .nil,hK⟩
  ·exact hK0.elim
 ·exact (Zs.evM Zm (ZkE _ _ _ rfl rfl)).calls (fun E w rs he hr=>by
   cases hr with
   | cons v r vs rs h1 h2=>cases h2 with
    | cons v r vs rs h2 h3=>cases h3;exact .cons _ _ _ _ (h1.plain rfl) (.cons _ _ _ _ (h2.plain rfl) .nil)) rfl ⟨JN,.ints _ _,trivial⟩ hl
 ·exact hl.elim
theorem ZcT (x:Int) (xs:List Int) (N:Nat) (hN:(x::xs).length=N) (hB:N<90000000000000):
  evF G0 20 119 [.vints .u8 (x::xs) N] ⟨0,[]⟩ (ZF 0 (.ret (.nslice ⟨0,0,0,0,0⟩ 1 N N)) 1 [(0,.ints .u8 (x::xs))]):=by
 refine @Eq.mpr _ (let q1:=[]++List.take N (x::xs);let q2:=List.length q1;
 Z6 (q2*1<=140737488355328) (Z6 (q2=N) (Z6 (N<=q2) (q1=x::xs/\True)))) (by kernel_rfl) ?_
 conv=>zeta
 try simp only [vcA]
 try simp only [vcB]
 try simp only [vcC]
 subst hN
 simp only [JZ,JE]
 and_intros<;>first|trivial|omega
theorem ZcU (u:Unit) :
  evF G0 20 119 [.nilslice] ⟨0,[]⟩ (ZF 0 (.ret (.nslice ⟨0,0,0,0,0⟩ 1 0 0)) 1 [(0,.ints .u8 [])]):=by
 refine @Eq.mpr _ (([]:List Int)=[]/\True) (by kernel_rfl) ?_
 trivial
theorem ZcV (u:Unit) :
  evF G0 20 119 [.fslice] ⟨0,[]⟩ (ZF 0 (.ret (.nslice ⟨0,0,0,0,0⟩ 1 0 0)) 1 [(0,.ints .u8 [])]):=by
 refine @Eq.mpr _ (([]:List Int)=[]/\True) (by kernel_rfl) ?_
 trivial
theorem Z6P (xs:List Int) (N:Nat) (hN:xs.length=N) (hB:N<90000000000000):Zs PP 119 [.vints .u8 xs N] (.nslice ⟨0,0,0,0,0⟩ 1 N N) 1 [(0,.ints .u8 xs)]:=by
 cases xs with
 | nil=>subst hN;exact Zs.vints0 (.evM Zm (ZcU ())) (.evM Zm (ZcV ()))
 | cons x r=>exact .evM Zm (ZcT x r N hN hB)
def Z5B:ZN:=fun args h K=>ZA none h true 20 args fun a=>match a with
 | [.vints .u8 xs n]=>Z6 (xs.length=n/\n<90000000000000) (K (.ret (.nslice ⟨h.next,0,0,0,0⟩ 1 n n)) ⟨h.next+1,(h.next,.ints .u8 xs)::h.bs⟩)
 | _=>False
theorem Z3j (args:List AV) (h:Z8) (K:KO) (hl:Z5B args h K):Ze PP 119 args h K:=by
 refine Zs.fsumm (d:=20) (Zk _ _ _ _ _ hl fun a ha=> ?_)
 split at ha
 ·obtain ⟨⟨h1,h2⟩,hK⟩:=Zb ha
  exact ⟨_,_,_,_,Z6P _ _ h1 h2,rfl,⟨JN,.ints _ _,trivial⟩,hK⟩
 ·exact ha.elim
theorem Spec.conv {P:Program} {f:FuncId} {args₀:List AV} {h0:Z8} {o:Out} {nx:Nat} {bs:List (Nat×Blk)} (h:Spec P f args₀ h0 o nx bs) (hc:∀E r,Zz E args r->Zz E args₀ r):Spec P f args h0 o nx bs:=
 fun E w rs he hr=>h E w rs he (hc E rs hr)
noncomputable def ZfA (W:Int->List Int):Zd:=G0.withF 118 (Zij W)
theorem Z23:(ZfA Zu).Ok:=Zd.withF_ok Zm Zfz
theorem ZcW (W:Int->List Int) (T:Int) (xs ys:List Int) (N L lo:Nat) (n:Int) (hT:T=4611686018427387904) (hN:xs.length=N) (hB:N<90000000000000) (hn:0<=n/\n<=T) (hy:ys=xs++W n) (hL:L=ys.length):
  evF (ZfA W) 20 54 [.ptr (some ⟨0,0,0,0,0⟩),.vints .i64 [n] 1] ⟨2,[(0,.flat [.nslice ⟨1,0,0,0,0⟩ 1 N lo,.bool true]),(1,.ints .u8 xs)]⟩ (ZF 2 (.ret (.int .i64 0)) 3 [(0,.flat [.nslice ⟨2,0,0,0,0⟩ 1 L L,.bool true]),(2,.ints .u8 ys)]):=by
 refine @Eq.mpr _ (let q1:=xs++W n;let q2:=List.length q1;
 Z7 (decide (n<0)) False (Z7 (decide (n>4611686018427387904)) False (Z6 (List.length xs=N/\N<90000000000000) (Z6 (q2=L) (Z6 (L<=q2) (q1=ys/\True)))))) (by kernel_rfl) ?_
 conv=>zeta
 try simp only [vcA]
 try simp only [vcB]
 try simp only [vcC]
 subst hT hN hy hL
 exact ⟨by omega,by omega,⟨rfl,hB⟩,rfl,J4 _,rfl⟩
theorem Zik (W:Int->List Int) (T:Int) (xs ys:List Int) (N L lo:Nat) (n m:Int) (hT:T=4611686018427387904) (hW:W=Zu) (hN:xs.length=N) (hB:N<80000000000000) (hn:0<=n/\n<=T) (hm:0<=m/\m<=T) (hy:ys=xs++W n++W m) (hL:L=ys.length):
  evF (ZfA W) 20 54 [.ptr (some ⟨0,0,0,0,0⟩),.vints .i64 [n,m] 2] ⟨2,[(0,.flat [.nslice ⟨1,0,0,0,0⟩ 1 N lo,.bool true]),(1,.ints .u8 xs)]⟩ (ZF 2 (.ret (.int .i64 0)) 3 [(0,.flat [.nslice ⟨2,0,0,0,0⟩ 1 L L,.bool true]),(2,.ints .u8 ys)]):=by
 refine @Eq.mpr _ (let q1:=xs++W n;let q2:=List.length q1;let q3:=q1++W m;let q4:=List.length q3;
 Z7 (decide (n<0)) False (Z7 (decide (n>4611686018427387904)) False (Z7 (decide (m<0)) False (Z7 (decide (m>4611686018427387904)) False (Z6 (List.length xs=N/\N<90000000000000) (Z6 (q2=q2/\q2<90000000000000) (Z6 (q4=L) (Z6 (L<=q4) (q3=ys/\True))))))))) (by kernel_rfl) ?_
 conv=>zeta
 try simp only [vcA]
 try simp only [vcB]
 try simp only [vcC]
 subst hT hN hy hL hW
 have:=ZI n
 refine ⟨by omega,by omega,by omega,by omega,⟨rfl,by omega⟩, ?_⟩
 simp only [J7]
 and_intros<;>first|trivial|omega
theorem Zil (W:Int->List Int) (T:Int) (ys:List Int) (L:Nat) (n m:Int) (hT:T=4611686018427387904) (hW:W=Zu) (hn:0<=n/\n<=T) (hm:0<=m/\m<=T) (hy:ys=W n++W m) (hL:L=ys.length):
  evF (ZfA W) 20 54 [.ptr (some ⟨0,0,0,0,0⟩),.vints .i64 [n,m] 2] ⟨1,[(0,.flat [.nilslice,.bool true])]⟩ (ZF 1 (.ret (.int .i64 0)) 2 [(0,.flat [.nslice ⟨1,0,0,0,0⟩ 1 L L,.bool true]),(1,.ints .u8 ys)]):=by
 refine @Eq.mpr _ (let q1:=List.length (W n);let q2:=W n++W m;let q3:=List.length q2;
 Z7 (decide (n<0)) False (Z7 (decide (n>4611686018427387904)) False (Z7 (decide (m<0)) False (Z7 (decide (m>4611686018427387904)) False (Z6 (q1=q1/\q1<90000000000000) (Z6 (q3=L) (Z6 (L<=q3) (q2=ys/\True)))))))) (by kernel_rfl) ?_
 conv=>zeta
 try simp only [vcA]
 try simp only [vcB]
 try simp only [vcC]
 subst hT hy hL hW
 have:=ZI n
 refine ⟨by omega,by omega,by omega,by omega, ?_⟩
 simp only [J7]
 and_intros<;>first|trivial|omega
theorem Z9B (xs hh ys:List Int) (N L lo:Nat) (hN:xs.length=N) (hB:N<90000000000000) (hq:hh.length=32) (hy:ys=xs++hh) (hL:L=ys.length):
  evF G0 20 55 [.ptr (some ⟨0,0,0,0,0⟩),.vrows 32 1 (fun _=>[.arr .u8 32 hh]) 1] ⟨2,[(0,.flat [.nslice ⟨1,0,0,0,0⟩ 1 N lo,.bool true]),(1,.ints .u8 xs)]⟩ (ZF 2 (.ret (.int .i64 0)) 3 [(0,.flat [.nslice ⟨2,0,0,0,0⟩ 1 L L,.bool true]),(2,.ints .u8 ys)]):=by
 refine @Eq.mpr _ (let q1:=xs++hh;let q2:=List.length q1;
 Z6 (u8=u8/\List.length hh=32) (Z6 (u8=u8/\List.length xs=N) (Z6 (q2*1<=140737488355328) (Z6 (q2=L) (Z6 (L<=q2) (q1=ys/\True)))))) (by kernel_rfl) ?_
 conv=>zeta
 try simp only [vcA]
 try simp only [vcB]
 try simp only [vcC]
 subst hN hy hL
 refine ⟨hq,rfl, ?_⟩
 simp only [J7]
 and_intros<;>first|trivial|omega
def ZcX (W:Int->List Int) (T:Int):ZN:=fun args h K=>match args with
 | [.ptr (some ⟨w,0,0,0,0⟩),_]=>match h.get w with
  |some (.flat [.nslice ⟨b,0,0,0,0⟩ 1 _ _,.bool true])=>frA [w,b] h 20 args fun Bs a=>match Bs,a with
   | [.flat [.nslice ⟨1,0,0,0,0⟩ 1 N _,.bool true],.ints .u8 xs],[.ptr (some ⟨0,0,0,0,0⟩),.vints .i64 [n] 1]=>
    Z6 (xs.length=N/\N<80000000000000/\0<=n/\n<=T) (K (.ret (.int .i64 0)) ⟨h.next+1,(w,.flat [.nslice ⟨h.next,0,0,0,0⟩ 1 (xs++W n).length (xs++W n).length,.bool true])::(h.next,.ints .u8 (xs++W n))::Yl (Yl h.bs w) b⟩)
   | [.flat [.nslice ⟨1,0,0,0,0⟩ 1 N _,.bool true],.ints .u8 xs],[.ptr (some ⟨0,0,0,0,0⟩),.vints .i64 [n,m] 2]=>
    Z6 (xs.length=N/\N<80000000000000/\(0<=n/\n<=T)/\0<=m/\m<=T) (K (.ret (.int .i64 0)) ⟨h.next+1,(w,.flat [.nslice ⟨h.next,0,0,0,0⟩ 1 (xs++W n++W m).length (xs++W n++W m).length,.bool true])::(h.next,.ints .u8 (xs++W n++W m))::Yl (Yl h.bs w) b⟩)
   | _,_=>False
  | some (.flat [.nilslice,.bool true])=>frA [w] h 20 args fun Bs a=>match Bs,a with
   | [.flat [.nilslice,.bool true]],[.ptr (some ⟨0,0,0,0,0⟩),.vints .i64 [n,m] 2]=>
    Z6 ((0<=n/\n<=T)/\0<=m/\m<=T) (K (.ret (.int .i64 0)) ⟨h.next+1,(w,.flat [.nslice ⟨h.next,0,0,0,0⟩ 1 (W n++W m).length (W n++W m).length,.bool true])::(h.next,.ints .u8 (W n++W m))::Yl h.bs w⟩)
   | _,_=>False
  | _=>False
 | _=>False
theorem ZcY (args:List AV) (h:Z8) (K:KO) (hl:ZcX Zu 4611686018427387904 args h K):Ze PP 54 args h K:=by
 unfold ZcX at hl
 split at hl
 ·split at hl
  ·refine Spec.fsumm hl fun Bs a hlen hK0=> ?_
   split at hK0
   ·obtain ⟨⟨h1,h2,h3⟩,hK⟩:=Zb hK0
    exact ⟨_,_,_,_,_,.evM Z23 (ZcW _ _ _ _ _ _ _ _ rfl h1 (by omega) h3 rfl rfl),by simp,.ret _ _ rfl,.cons _ _ _ _ _ _ rfl (.flat _ _ rfl) (.cons _ _ _ _ _ _ rfl (.ints _ _) .nil),hK⟩
   ·obtain ⟨⟨h1,h2,h3,h4⟩,hK⟩:=Zb hK0
    exact ⟨_,_,_,_,_,.evM Z23 (Zik _ _ _ _ _ _ _ _ _ rfl rfl h1 h2 h3 h4 rfl rfl),by simp,.ret _ _ rfl,.cons _ _ _ _ _ _ rfl (.flat _ _ rfl) (.cons _ _ _ _ _ _ rfl (.ints _ _) .nil),hK⟩
   ·exact hK0.elim
  ·refine Spec.fsumm hl fun Bs a hlen hK0=> ?_
   split at hK0
   ·obtain ⟨⟨h3,h4⟩,hK⟩:=Zb hK0
    exact ⟨_,_,_,_,_,.evM Z23 (Zil _ _ _ _ _ _ rfl rfl h3 h4 rfl rfl),by simp,.ret _ _ rfl,.cons _ _ _ _ _ _ rfl (.flat _ _ rfl) (.cons _ _ _ _ _ _ rfl (.ints _ _) .nil),hK⟩
   ·exact hK0.elim
  ·exact hl.elim
 ·exact hl.elim
def Z8q:ZN:=fun args h K=>match args with
 | [.ptr (some ⟨w,0,0,0,0⟩),_]=>match h.get w with
  |some (.flat [.nslice ⟨b,0,0,0,0⟩ 1 _ _,.bool true])=>frA [w,b] h 20 args fun Bs a=>match Bs,a with
   | [.flat [.nslice ⟨1,0,0,0,0⟩ 1 N _,.bool true],.ints .u8 xs],[.ptr (some ⟨0,0,0,0,0⟩),.vrows 32 1 f 1]=>match f 0 with
    | [.arr .u8 32 hh]=>Z6 (xs.length=N/\N<80000000000000/\hh.length=32) (K (.ret (.int .i64 0)) ⟨h.next+1,(w,.flat [.nslice ⟨h.next,0,0,0,0⟩ 1 (xs++hh).length (xs++hh).length,.bool true])::(h.next,.ints .u8 (xs++hh))::Yl (Yl h.bs w) b⟩)
    | _=>False
   | _,_=>False
  | _=>False
 | _=>False
theorem ZaP (args:List AV) (h:Z8) (K:KO) (hl:Z8q args h K):Ze PP 55 args h K:=by
 unfold Z8q at hl
 split at hl
 ·split at hl
  ·refine Spec.fsumm hl fun Bs a hlen hK0=> ?_
   split at hK0
   ·split at hK0
    case h_2=>exact hK0.elim
    rename_i hh hf
    obtain ⟨⟨h1,h2,h3⟩,hK⟩:=Zb hK0
    refine ⟨_,_,_,_,_,(Spec.evM Zm (Z9B _ hh _ _ _ _ h1 (by omega) h3 rfl rfl)).conv fun E r hr=>hr.head (fun _ hc=>hc) fun _ hc=>hc.head (fun _ hc=>hc.rowsC ?_) fun _ hc=>hc,by simp,.ret _ _ rfl,.cons _ _ _ _ _ _ rfl (.flat _ _ rfl) (.cons _ _ _ _ _ _ rfl (.ints _ _) .nil),hK⟩
    intro i hi
    have:i=0:=by omega
    subst this
    exact hf
   ·exact hK0.elim
  ·exact hl.elim
 ·exact hl.elim
theorem Vl {x:InS} (h:Y3 x=true):(1<=x.way/\x.way<=6)/\0<=x.index/\x.index<=23:=by
 unfold Y3 at h
 simp only [J3,decide_eq_true_eq] at h
 exact ⟨h.1.1.1.1,h.2⟩
noncomputable def Z8r (W:Int->List Int) (T:Int):Zd:=(G0.withF 54 (ZcX W T)).withF 55 Z8q
theorem Z9C:(Z8r Zu 4611686018427387904).Ok:=Zd.withF_ok (Zd.withF_ok Zm ZcY) ZaP
def inW (W:Int->List Int) (core:Bool) (x:InS):List Int:=x.name++W x.index++(match core with
 | true=>[]
 | false=>W x.way++((if x.way=4 then [] else x.tag)++(if x.way=1 then x.also else [])++(if x.way=4\/x.way=5 then x.secret else [])))
def Z3k (W:Int->List Int) (o:ZE):List Int:=W o.kind++W o.amount++o.owner++(if o.kind=2\/o.kind=4\/o.kind=5 then o.other else [])++(if 3<=o.kind then o.point else [])++(if 4<=o.kind then o.hash else [])
 ++(if 3<=o.kind then W o.delay else [])++(if 4<=o.kind then W o.expiry else [])
def ZaQ (t:TxS) (core:Bool) (i:Nat) (xs:List Int) (n:Nat):St:=⟨120,[(26,.int .i64 i),(25,.int .i64 t.N),(2,.ptr (some ⟨0,0,0,0,0⟩)),(5,.ptr (some ⟨1,0,0,0,0⟩)),(1,.bool core)],⟨3,[(0,.flat t.c),(1,.flat [.nslice ⟨2,0,0,0,0⟩ 1 n n,.bool true]),(2,.ints .u8 xs)]⟩,[]⟩
def Un (t:TxS) (xs:List Int) (n:Nat):St:=⟨120,[(2,.ptr (some ⟨0,0,0,0,0⟩)),(5,.ptr (some ⟨1,0,0,0,0⟩))],⟨3,[(0,.flat t.c),(1,.flat [.nslice ⟨2,0,0,0,0⟩ 1 n n,.bool true]),(2,.ints .u8 xs)]⟩,[]⟩
theorem Zim (W:Int->List Int) (T:Int) (t:TxS) (i:Nat) (xs ys:List Int) (n m:Nat) (Z1 Z2:Prop) (hT:T=4611686018427387904) (ht:t.Ok) (hi:i<=t.N) (hr:∀j,j<t.N->Y3 (t.ins j)=true) (hW:W=Zu) (hn:xs.length=n) (hs:n<10000000000000) (hy:ys=xs++inW W true (t.ins i)) (hm:ys.length=m) (h1:i<t.N->Z1) (h2:i=t.N->Z2):
  ZC (Z8r W T) 20 96 0 0 (ZaQ t true i xs n) (rdM 0 0 9 (ZaQ t true (i+1) ys m) (Un t xs n) (Un t xs n) (Un t xs n) Z1 Z2 False False):=by
 refine @Eq.mpr _ (let q1:=t.N;let q2:=(↑q1:Int);let q3:=t.ins (Int.toNat (↑i:Int));let q4:=q3.name;let q5:=xs++q4;let q6:=List.length q5;let q7:=q3.index;let q8:=decide (t.num=t.num);let q9:=decide (q1=q1);let q10:=Zg t.ins;let q11:=q10=q10;let q12:=decide (t.M=t.M);let q13:=Zf t.outs;let q14:=q13=q13;let q15:=q5++W q7;let q16:=List.length q15;
 Z7 (decide ((↑i:Int)<q2)) (Z6 (0<=(↑i:Int)/\(↑i:Int)<q2) (Z6 (List.length xs=n/\n<80000000000000/\List.length q4=32) (Z6 (q6=q6/\q6<80000000000000/\0<=q7/\q7<=T) (Z6 (wrap i64 ((↑i:Int)+1)=(↑(i+1):Int)) (Z6 (q2=q2) (Z0 q8 (Z0 q9 (q11/\Z0 q9 (Z0 q12 (q14/\Z0 q12 (Z6 (q16=m) (Z6 (m<=q16) (q15=ys/\Z1))))))))))))) (Z0 q8 (Z0 q9 (q11/\Z0 q9 (Z0 q12 (q14/\Z0 q12 (Z6 (n=n) (Z6 (n<=n) (xs=xs/\Z2))))))))) (by kernel_rfl) ?_
 conv=>zeta
 try simp only [vcA]
 try simp only [vcB]
 try simp only [vcC]
 refine ⟨fun hlt=> ?_,fun hge=>h2 (by omega)⟩
 obtain ⟨⟨w1,w2⟩,w3,w4⟩:=Vl (hr i (by omega))
 obtain ⟨l1,l2,l3,l4⟩:=ht.ins i (by omega)
 have hw:=h1 (by omega)
 have hnn:=ht.n
 have hwr:i64.wrap ((i:Int)+1)=((i+1:Nat):Int):=w64 (by omega)
 have u1:=ZI (t.ins i).index
 have u2:=ZI (t.ins i).way
 subst hW hT
 rw [hwr]
 unfold inW at hy
 generalize t.ins i=x at*
 simp only [J7]
 repeat' (first|(refine Jc ?_ ?_)|intro _)
 all_goals first|omega|assumption|trivial|skip
 all_goals first|(rw [hy];simp [*];done)|(rw [<-hm,hy];simp [*];try omega;done)|skip
theorem Zin (W:Int->List Int) (T:Int) (t:TxS) (i:Nat) (xs ys:List Int) (n m:Nat) (Z1 Z2:Prop) (hT:T=4611686018427387904) (ht:t.Ok) (hi:i<=t.N) (hr:∀j,j<t.N->Y3 (t.ins j)=true) (hW:W=Zu) (hn:xs.length=n) (hs:n<10000000000000) (hy:ys=xs++inW W false (t.ins i)) (hm:ys.length=m) (h1:i<t.N->Z1) (h2:i=t.N->Z2):
  ZC (Z8r W T) 20 96 0 0 (ZaQ t false i xs n) (rdM 0 0 9 (ZaQ t false (i+1) ys m) (Un t xs n) (Un t xs n) (Un t xs n) Z1 Z2 False False):=by
 refine @Eq.mpr _ (let q1:=t.N;let q2:=(↑q1:Int);let q3:=t.ins (Int.toNat (↑i:Int));let q4:=q3.name;let q5:=xs++q4;let q6:=List.length q5;let q7:=q3.index;let q8:=q5++W q7;let q9:=List.length q8;let q10:=q3.way;let q11:=q8++W q10;let q12:=List.length q11;let q13:=q3.tag;let q14:=decide (q12=q12/\q12<80000000000000/\List.length q13=32);let q15:=q11++q13;let q16:=List.length q15;let q17:=q3.also;let q18:=decide (wrap i64 ((↑i:Int)+1)=(↑(i+1):Int));let q19:=decide (q2=q2);let q20:=decide (t.num=t.num);let q21:=decide (q1=q1);let q22:=Zg t.ins;let q23:=q22=q22;let q24:=decide (t.M=t.M);let q25:=Zf t.outs;let q26:=q25=q25;let q27:=q15++q17;let q28:=List.length q27;let q29:=Z0 q14 (Z0 q18 (Z0 q19 (Z0 q20 (Z0 q21 (q23/\Z0 q21 (Z0 q24 (q26/\Z0 q24 (Z6 (q16=m) (Z6 (m<=q16) (q15=ys/\Z1))))))))));let q30:=q3.secret;let q31:=q11++q30;let q32:=List.length q31;let q33:=q15++q30;let q34:=List.length q33;
 Z7 (decide ((↑i:Int)<q2)) (Z6 (0<=(↑i:Int)/\(↑i:Int)<q2) (Z6 (List.length xs=n/\n<80000000000000/\List.length q4=32) (Z6 (q6=q6/\q6<80000000000000/\0<=q7/\q7<=T) (Z6 (q9=q9/\q9<80000000000000/\0<=q10/\q10<=T) (Z6 (q10=q10) (Z7 (decide (q10=1)) (Z0 q14 (Z6 (q16=q16/\q16<80000000000000/\List.length q17=32) (Z0 q18 (Z0 q19 (Z0 q20 (Z0 q21 (q23/\Z0 q21 (Z0 q24 (q26/\Z0 q24 (Z6 (q28=m) (Z6 (m<=q28) (q27=ys/\Z1)))))))))))) (Z7 (decide (q10=2)) q29 (Z7 (decide (q10=3)) q29 (Z7 (decide (q10=4)) (Z6 (q12=q12/\q12<80000000000000/\List.length q30=32) (Z0 q18 (Z0 q19 (Z0 q20 (Z0 q21 (q23/\Z0 q21 (Z0 q24 (q26/\Z0 q24 (Z6 (q32=m) (Z6 (m<=q32) (q31=ys/\Z1))))))))))) (Z7 (decide (q10=5)) (Z0 q14 (Z6 (q16=q16/\q16<80000000000000/\List.length q30=32) (Z0 q18 (Z0 q19 (Z0 q20 (Z0 q21 (q23/\Z0 q21 (Z0 q24 (q26/\Z0 q24 (Z6 (q34=m) (Z6 (m<=q34) (q33=ys/\Z1)))))))))))) (Z7 (decide (q10=6)) q29 (Z0 q18 (Z0 q19 (Z0 q20 (Z0 q21 (q23/\Z0 q21 (Z0 q24 (q26/\Z0 q24 (Z6 (q12=m) (Z6 (m<=q12) (q11=ys/\Z1))))))))))))))))))))) (Z0 q20 (Z0 q21 (q23/\Z0 q21 (Z0 q24 (q26/\Z0 q24 (Z6 (n=n) (Z6 (n<=n) (xs=xs/\Z2))))))))) (by kernel_rfl) ?_
 conv=>zeta
 try simp only [vcA]
 try simp only [vcB]
 try simp only [vcC]
 refine ⟨fun hlt=> ?_,fun hge=>h2 (by omega)⟩
 obtain ⟨⟨w1,w2⟩,w3,w4⟩:=Vl (hr i (by omega))
 obtain ⟨l1,l2,l3,l4⟩:=ht.ins i (by omega)
 have hw:=h1 (by omega)
 have hnn:=ht.n
 have hwr:i64.wrap ((i:Int)+1)=((i+1:Nat):Int):=w64 (by omega)
 have u1:=ZI (t.ins i).index
 have u2:=ZI (t.ins i).way
 subst hW hT
 rw [hwr]
 unfold inW at hy
 generalize t.ins i=x at*
 simp only [J7]
 repeat' (first|(refine Jc ?_ ?_)|intro _)
 all_goals first|omega|assumption|trivial|skip
 all_goals first|(rw [hy];simp [*];done)|(rw [<-hm,hy];simp [*];try omega;done)|skip
theorem Xn {o:ZE} (h:ZD o=true):(1<=o.kind/\o.kind<=5)/\(0<o.amount/\o.amount<=1125899906842624)/\(0<=o.delay/\o.delay<=2147483647)/\0<=o.expiry/\o.expiry<=2147483647:=by
 unfold ZD at h
 simp only [J3,decide_eq_true_eq] at h
 obtain ⟨⟨⟨⟨h1,_⟩,h2⟩,h3⟩,h4⟩:=h
 refine ⟨?_,h2,h3,h4⟩
 revert h1
 simp only [and_imp]
 intros
 omega
def Z6Q (t:TxS) (i:Nat) (xs:List Int) (n:Nat):St:=⟨120,[(82,.int .i64 i),(81,.int .i64 t.M),(2,.ptr (some ⟨0,0,0,0,0⟩)),(5,.ptr (some ⟨1,0,0,0,0⟩))],⟨3,[(0,.flat t.c),(1,.flat [.nslice ⟨2,0,0,0,0⟩ 1 n n,.bool true]),(2,.ints .u8 xs)]⟩,[]⟩
theorem Zio (W:Int->List Int) (T:Int) (t:TxS) (i:Nat) (xs ys:List Int) (n m:Nat) (Z1 Z2:Prop) (hT:T=4611686018427387904) (ht:t.Ok) (hi:i<=t.M) (hr:∀j,j<t.M->ZD (t.outs j)=true) (hW:W=Zu) (hn:xs.length=n) (hs:n<10000000000000) (hy:ys=xs++Z3k W (t.outs i)) (hm:ys.length=m) (h1:i<t.M->Z1) (h2:i=t.M->Z2):
  ZC (Z8r W T) 20 96 4 0 (Z6Q t i xs n) (rdM 0 4 9 (Z6Q t (i+1) ys m) (Un t xs n) (Un t xs n) (Un t xs n) Z1 Z2 False False):=by
 refine @Eq.mpr _ (let q1:=t.M;let q2:=(↑q1:Int);let q3:=t.outs (Int.toNat (↑i:Int));let q4:=q3.kind;let q5:=q3.amount;let q6:=xs++W q4++W q5;let q7:=List.length q6;let q8:=q3.owner;let q9:=decide (q7=q7/\q7<80000000000000/\List.length q8=32);let q10:=decide (wrap i64 ((↑i:Int)+1)=(↑(i+1):Int));let q11:=decide (q2=q2);let q12:=decide (t.num=t.num);let q13:=decide (t.N=t.N);let q14:=Zg t.ins;let q15:=q14=q14;let q16:=decide (q1=q1);let q17:=Zf t.outs;let q18:=q17=q17;let q19:=q6++q8;let q20:=List.length q19;let q21:=q3.other;let q22:=decide (q20=q20/\q20<80000000000000/\List.length q21=32);let q23:=q19++q21;let q24:=List.length q23;let q25:=q3.point;let q26:=q19++q25;let q27:=List.length q26;let q28:=q3.delay;let q29:=W q28;let q30:=q26++q29;let q31:=List.length q30;let q32:=q23++q25;let q33:=List.length q32;let q34:=q3.hash;let q35:=q32++q34;let q36:=List.length q35;let q37:=q35++q29;let q38:=List.length q37;let q39:=q3.expiry;let q40:=q37++W q39;let q41:=List.length q40;let q42:=Z0 q9 (Z0 q22 (Z6 (q24=q24/\q24<80000000000000/\List.length q25=32) (Z6 (q33=q33/\q33<80000000000000/\List.length q34=32) (Z6 (q36=q36/\q36<80000000000000/\0<=q28/\q28<=T) (Z6 (q38=q38/\q38<80000000000000/\0<=q39/\q39<=T) (Z0 q10 (Z0 q11 (Z0 q12 (Z0 q13 (q15/\Z0 q13 (Z0 q16 (q18/\Z0 q16 (Z6 (q41=m) (Z6 (m<=q41) (q40=ys/\Z1)))))))))))))));
 Z7 (decide ((↑i:Int)<q2)) (Z6 (0<=(↑i:Int)/\(↑i:Int)<q2) (Z6 (List.length xs=n/\n<80000000000000/\(0<=q4/\q4<=T)/\0<=q5/\q5<=T) (Z6 (q4=q4) (Z7 (decide (q4=1)) (Z0 q9 (Z0 q10 (Z0 q11 (Z0 q12 (Z0 q13 (q15/\Z0 q13 (Z0 q16 (q18/\Z0 q16 (Z6 (q20=m) (Z6 (m<=q20) (q19=ys/\Z1))))))))))) (Z7 (decide (q4=2)) (Z0 q9 (Z0 q22 (Z0 q10 (Z0 q11 (Z0 q12 (Z0 q13 (q15/\Z0 q13 (Z0 q16 (q18/\Z0 q16 (Z6 (q24=m) (Z6 (m<=q24) (q23=ys/\Z1)))))))))))) (Z7 (decide (q4=3)) (Z0 q9 (Z6 (q20=q20/\q20<80000000000000/\List.length q25=32) (Z6 (q27=q27/\q27<80000000000000/\0<=q28/\q28<=T) (Z0 q10 (Z0 q11 (Z0 q12 (Z0 q13 (q15/\Z0 q13 (Z0 q16 (q18/\Z0 q16 (Z6 (q31=m) (Z6 (m<=q31) (q30=ys/\Z1))))))))))))) (Z7 (decide (q4=4)) q42 (Z7 (decide (q4=5)) q42 (Z0 q10 (Z0 q11 (Z0 q12 (Z0 q13 (q15/\Z0 q13 (Z0 q16 (q18/\Z0 q16 (Z6 (q7=m) (Z6 (m<=q7) (q6=ys/\Z1)))))))))))))))))) (Z0 q12 (Z0 q13 (q15/\Z0 q13 (Z0 q16 (q18/\Z0 q16 (Z6 (n=n) (Z6 (n<=n) (xs=xs/\Z2))))))))) (by kernel_rfl) ?_
 conv=>zeta
 try simp only [vcA]
 try simp only [vcB]
 try simp only [vcC]
 refine ⟨fun hlt=> ?_,fun hge=>h2 (by omega)⟩
 obtain ⟨⟨w1,w2⟩,⟨w3,w4⟩,⟨w5,w6⟩,w7,w8⟩:=Xn (hr i (by omega))
 obtain ⟨l1,l2,l3,l4⟩:=ht.outs i (by omega)
 have hw:=h1 (by omega)
 have hnn:=ht.m
 have hwr:i64.wrap ((i:Int)+1)=((i+1:Nat):Int):=w64 (by omega)
 have u1:=ZI (t.outs i).kind
 have u2:=ZI (t.outs i).amount
 have u3:=ZI (t.outs i).delay
 have u4:=ZI (t.outs i).expiry
 subst hW hT
 rw [hwr]
 unfold Z3k at hy
 generalize t.outs i=x at*
 simp only [J7]
 repeat' (first|(refine Jc ?_ ?_)|intro _)
 all_goals first|omega|assumption|trivial|skip
 all_goals first|(rw [hy];simp [*];done)|(rw [<-hm,hy];simp [*];try omega;done)|skip
def Qq (f:Nat->List Int):Nat->List Int
 | 0=>[]
 | n+1=>Qq f n++f n
theorem ZcZ {f:Nat->List Int} {b:Nat} (h:∀i,(f i).length<=b):∀n,(Qq f n).length<=n*b
 | 0=>by simp [Qq]
 | n+1=>by
  have:=ZcZ h n
  have:=h n
  simp only [Qq,J7,JT]
  omega
@[irreducible] def YJ (W:Int->List Int) (t:TxS) (core:Bool) (i:Nat):List Int:=W t.num++W t.N++Qq (fun j=>inW W core (t.ins j)) i
@[irreducible] def Yo (W:Int->List Int) (t:TxS) (core:Bool) (i:Nat):List Int:=YJ W t core t.N++W t.M++Qq (fun j=>Z3k W (t.outs j)) i
def W4 (W:Int->List Int) (t:TxS) (core:Bool):List Int:=Yo W t core t.M
theorem Qj (W:Int->List Int) (t:TxS) (core:Bool) (i:Nat):YJ W t core (i+1)=YJ W t core i++inW W core (t.ins i):=by unfold YJ;simp [Qq]
theorem Z4C (W:Int->List Int) (t:TxS) (core:Bool) (i:Nat):Yo W t core (i+1)=Yo W t core i++Z3k W (t.outs i):=by unfold Yo;simp [Qq]
structure TxS.Fine (t:TxS):Prop where
 ok:t.Ok
 num:0<=t.num/\t.num<=2147483647
 n:t.N<=24
 m:t.M<=24
 ins:∀j,j<t.N->Y3 (t.ins j)=true
 outs:∀j,j<t.M->ZD (t.outs j)=true
theorem Z1d {f:Nat->List Int} {b:Nat}:∀n,(∀i,i<n->(f i).length<=b)->(Qq f n).length<=n*b
 | 0,_=>by simp [Qq]
 | n+1,h=>by
  have:=Z1d n (fun i hi=>h i (by omega))
  have:=h n (by omega)
  simp only [Qq,J7,JT]
  omega
theorem ZfB {core:Bool} {x:InS} (h:x.Ok):(inW Zu core x).length<=200:=by
 obtain ⟨l1,l2,l3,l4⟩:=h
 have u1:=ZI x.index
 have u2:=ZI x.way
 unfold inW
 cases core
 ·simp only [J7]
  repeat' split
  all_goals (try simp only [Jy])
  all_goals omega
 ·simp [*];omega
theorem Zd0 {x:ZE} (h:x.Ok):(Z3k Zu x).length<=200:=by
 obtain ⟨l1,l2,l3,l4⟩:=h
 have u1:=ZI x.kind
 have u2:=ZI x.amount
 have u3:=ZI x.delay
 have u4:=ZI x.expiry
 unfold Z3k
 simp only [J7]
 repeat' split
 all_goals (try simp only [Jy])
 all_goals omega
theorem VT {t:TxS} (h:t.Fine) (core:Bool) {i:Nat} (hi:i<=t.N):(YJ Zu t core i).length<=10000:=by
 have h1:=ZI t.num
 have h2:=ZI t.N
 have h3:=Z1d (f:=fun j=>inW Zu core (t.ins j)) (b:=200) i (fun j hj=>ZfB (h.ok.ins j (by omega)))
 have:=h.n
 unfold YJ
 simp only [J7]
 omega
theorem XN {t:TxS} (h:t.Fine) (core:Bool) {i:Nat} (hi:i<=t.M):(Yo Zu t core i).length<=20000:=by
 have h1:=VT h core (J4 t.N)
 have h2:=ZI t.M
 have h3:=Z1d (f:=fun j=>Z3k Zu (t.outs j)) (b:=200) i (fun j hj=>Zd0 (h.ok.outs j (by omega)))
 have:=h.m
 unfold Yo
 simp only [J7]
 omega
noncomputable def ZfC (W:Int->List Int) (T:Int) (t:TxS) (core:Bool):Zd:=
 (Z8r W T).withL 96 0 (goM 0 (ZaQ t core 0 (YJ W t core 0) (YJ W t core 0).length) t.Fine (Yu 0 t.N 9 (fun i=>i<t.N) (fun i=>i=t.N) (fun _=>False) (fun _=>False) (fun i=>Un t (YJ W t core i) (YJ W t core i).length) (fun i=>Un t (YJ W t core i) (YJ W t core i).length) (fun i=>Un t (YJ W t core i) (YJ W t core i).length)))
noncomputable def ZkF (W:Int->List Int) (T:Int) (t:TxS) (core:Bool):Zd:=
 (Z8r W T).withL 96 4 (goM 0 (Z6Q t 0 (Yo W t core 0) (Yo W t core 0).length) t.Fine (Yu 4 t.M 9 (fun i=>i<t.M) (fun i=>i=t.M) (fun _=>False) (fun _=>False) (fun i=>Un t (Yo W t core i) (Yo W t core i).length) (fun i=>Un t (Yo W t core i) (Yo W t core i).length) (fun i=>Un t (Yo W t core i) (Yo W t core i).length)))
theorem ZfD (t:TxS) (core:Bool) (T:Int) (hT:T=4611686018427387904):(ZfC Zu T t core).Ok:=by
 unfold ZfC
 refine Zd.withGoM (N:=20) (S:=fun i=>ZaQ t core i (YJ Zu t core i) (YJ Zu t core i).length) (by subst hT;exact Z9C) (by kernel_rfl) fun hC=>⟨rfl,fun i hi hgo=> ?_⟩
 have h1:=VT hC core hi
 cases core
 ·exact Zin Zu T t i (YJ Zu t false i) (YJ Zu t false (i+1)) _ _ _ _ hT hC.ok hi hC.ins rfl rfl (by omega) (Qj _ _ _ _) rfl (fun h=>⟨h,h⟩) (fun h=>h)
 ·exact Zim Zu T t i (YJ Zu t true i) (YJ Zu t true (i+1)) _ _ _ _ hT hC.ok hi hC.ins rfl rfl (by omega) (Qj _ _ _ _) rfl (fun h=>⟨h,h⟩) (fun h=>h)
theorem ZfE (t:TxS) (core:Bool) (T:Int) (hT:T=4611686018427387904):(ZkF Zu T t core).Ok:=by
 unfold ZkF
 refine Zd.withGoM (N:=20) (S:=fun i=>Z6Q t i (Yo Zu t core i) (Yo Zu t core i).length) (by subst hT;exact Z9C) (by kernel_rfl) fun hC=>⟨rfl,fun i hi hgo=> ?_⟩
 have h1:=XN hC core hi
 exact Zio Zu T t i (Yo Zu t core i) (Yo Zu t core (i+1)) _ _ _ _ hT hC.ok hi hC.outs rfl rfl (by omega) (Z4C _ _ _ _) rfl (fun h=>⟨h,h⟩) (fun h=>h)
noncomputable def Zip (W:Int->List Int) (T:Int) (t:TxS) (core:Bool):Zd:=
 ((ZfC W T t core).withL 96 4 (goM 0 (Z6Q t 0 (Yo W t core 0) (Yo W t core 0).length) t.Fine (Yu 4 t.M 9 (fun i=>i<t.M) (fun i=>i=t.M) (fun _=>False) (fun _=>False) (fun i=>Un t (Yo W t core i) (Yo W t core i).length) (fun i=>Un t (Yo W t core i) (Yo W t core i).length) (fun i=>Un t (Yo W t core i) (Yo W t core i).length)))).withF 119 Z5B
theorem ZkG (W:Int->List Int) (T:Int) (t:TxS) (core:Bool) (ys:List Int) (L:Nat) (hT:T=4611686018427387904) (hW:W=Zu) (ht:t.Fine) (hy:ys=W4 W t core) (hL:L=ys.length):
  evF (Zip W T t core) 20 96 [.agg t.c,.bool core] ⟨0,[]⟩ (ZF 0 (.ret (.nslice ⟨0,0,0,0,0⟩ 1 L L)) 1 [(0,.ints .u8 ys)]):=by
 refine @Eq.mpr _ (let q1:=t.num;let q2:=t.N;let q3:=↑q2;let q4:=decide (q1=q1);let q5:=decide (q2=q2);let q6:=Zg t.ins;let q7:=q6=q6;let q8:=t.M;let q9:=decide (q8=q8);let q10:=Zf t.outs;let q11:=q10=q10;let q12:=W q1++W q3;let q13:=List.length q12;let q14:=YJ W t core 0;let q15:=List.length q14;let q16:=↑q8;let q17:=Yo W t core 0;let q18:=List.length q17;let q19:=(False->False)/\(False->False);
 Z6 ((0<=q1/\q1<=T)/\0<=q3/\q3<=T) (Z6 (q3=q3) (Z6 (core=core) (Z0 q4 (Z0 q5 (q7/\
 Z0 q5 (Z0 q9 (q11/\
 Z0 q9 (Z6 (q13=q15) (Z6 (q15<=q13) (q12=q14/\
 TxS.Fine t/\
 ∀(i:Nat),
 let q39:=YJ W t core i;let q40:=List.length q39;let q41:=q39++W q16;let q42:=List.length q41;
 i<=q2->
 (∀(j:Nat),j<i->(fun (i:Nat)=>i<q2) j)->
 (i=q2->
 Z6 (q40=q40/\q40<80000000000000/\0<=q16/\q16<=T) (Z6 (q16=q16) (Z0 q4 (Z0 q5 (q7/\
 Z0 q5 (Z0 q9 (q11/\
 Z0 q9 (Z6 (q42=q18) (Z6 (q18<=q42) (q41=q17/\
 TxS.Fine t/\
 ∀(i:Nat),
 let q47:=Yo W t core i;let q48:=List.length q47;let q49:=List.take q48 (Y0 0 q47);
 i<=q8->(∀(j:Nat),j<i->(fun (i:Nat)=>i<q8) j)->(i=q8->Z6 (0+q48<=q48) (Z6 (List.length q49=q48/\q48<90000000000000) (Z6 (q48=L) (Z6 (L<=q48) (q49=ys/\True)))))/\q19))))))))))/\
 q19))))))))))) (by kernel_rfl) ?_
 conv=>zeta
 try simp only [vcA]
 try simp only [vcB]
 try simp only [vcC]
 subst hT hW hy hL
 have e1:Zu t.num++Zu ↑t.N=YJ Zu t core 0:=by unfold YJ;simp [Qq]
 have e2:YJ Zu t core t.N++Zu ↑t.M=Yo Zu t core 0:=by unfold Yo;simp [Qq]
 have b1:=VT ht core (J4 t.N)
 have b2:=XN ht core (J4 t.M)
 have hN:=ht.n
 have hM:=ht.m
 have hq:=ht.num
 rw [e1]
 refine ⟨⟨⟨by omega,by omega⟩,by omega,by omega⟩,rfl,J4 _,rfl,ht,fun i hi _=>⟨fun he=> ?_,fun h=>h.elim,fun h=>h.elim⟩⟩
 subst he
 rw [e2]
 refine ⟨⟨by omega,by omega,by omega⟩,rfl,J4 _,rfl,ht,fun i hi _=>⟨fun he=> ?_,fun h=>h.elim,fun h=>h.elim⟩⟩
 subst he
 rw [Yk,Kn,JE]
 exact ⟨⟨rfl,by omega⟩,rfl,J4 _,rfl⟩
theorem ZfF (t:TxS) (core:Bool) (T:Int) (hT:T=4611686018427387904):(Zip Zu T t core).Ok:=by
 unfold Zip
 exact Zd.withF_ok (Zd.withL_join (G:=ZfC Zu T t core) (H:=Z8r Zu T) (ZfD t core T hT) rfl (ZfE t core T hT)) Z3j
theorem Zd1 (t:TxS) (core:Bool) (ht:t.Fine):Zs PP 96 [.agg t.c,.bool core] (.nslice ⟨0,0,0,0,0⟩ 1 (W4 Zu t core).length (W4 Zu t core).length) 1 [(0,.ints .u8 (W4 Zu t core))]  :=.evM (ZfF t core _ rfl) (ZkG _ _ t core _ _ rfl rfl ht rfl rfl)
def Zd2 (R:TxS->Bool->List Int):ZN:=fun args h K=>ZA none h true 20 args fun a=>match a with
 | [.agg l,.bool core]=>∃t,Z08 l t/\t.Fine/\K (.ret (.nslice ⟨h.next,0,0,0,0⟩ 1 (R t core).length (R t core).length)) ⟨h.next+1,(h.next,.ints .u8 (R t core))::h.bs⟩
 | _=>False
theorem ZfG (args:List AV) (h:Z8) (K:KO) (hl:Zd2 (W4 Zu) args h K):Ze PP 96 args h K:=by
 refine Zs.fsumm (d:=20) (Zk _ _ _ _ _ hl fun a ha=> ?_)
 split at ha
 ·obtain ⟨t,h1,h2,hK⟩:=ha
  exact ⟨_,_,_,_,(Zd1 t _ h2).conv fun E r hr=>hr.head (fun _ hc=>h1.rel hc) (fun _ hc=>hc),rfl,⟨JN,.ints _ _,trivial⟩,hK⟩
 ·exact ha.elim
theorem YY {t:TxS} (ht:t.Ok) (h:Yf ZB t=true):t.Fine:=by
 unfold Yf at h
 simp only [J3,decide_eq_true_eq,J6,JY,Jz,beq_iff_eq] at h
 obtain ⟨⟨⟨⟨⟨h1,h2⟩,h3⟩,h4⟩,h5⟩,_⟩:=h
 refine ⟨ht,h1,by omega,by omega,fun j hj=> ?_,fun j hj=> ?_⟩
 ·have:=h4 j hj
  simp [YV,Ua] at this
  exact this.1
 ·have:=h5 j hj
  simpa [Yx,Z07] using this
noncomputable def E19 (A:List Int->Int×Int) (H:List Int->List Int) (T2:List Int->List Int->List Int) (R:TxS->Bool->List Int) (B:Nat):Zd:=
 ((((G0.withP 89 (ckS A)).withF 96 (Zd2 R)).withP 95 (Zcv H B)).withP 167 (Zk0 T2)).withP 187 (Z8p A)
theorem Zd3 (B:Nat) (hB:B<100000000000) (h32:32<=B):(E19 ZB UP UQ (W4 Zu) B).Ok:=
 Zd.withP_ok (Zd.withP_ok (Zd.withP_ok (Zd.withF_ok (Zd.withP_ok Zm ZcN) ZfG) (Zcx B hB h32)) Zf0) Z4B
theorem ZmV (A:List Int->Int×Int) (H:List Int->List Int) (T2:List Int->List Int->List Int) (R:TxS->Bool->List Int) (B:Nat) (t:TxS) (hh:List Int) (ht:t.Ok) (hc:Yf A t=true) (hA:A=ZB) (hR:R=W4 Zu) (hB:20000<=B) (hHl:∀x,(H x).length=32) (hH:hh=H (R t true)):
  evF (E19 A H T2 R B) 20 48 [.agg t.c] ⟨0,[]⟩ (ZF 0 (.ret (.tuple [.agg [.arr .u8 32 hh],.int .i64 0])) 0 []):=by
 refine @Eq.mpr _ (let q1:=t.N;let q2:=t.M;
 ∃(t_1:TxS),
 (t_1.num=t.num/\((q1=q1/\t_1.N=q1)/\∀(i:Nat),i<q1->Zg t.ins i=InS.c (t_1.ins i))/\(q2=q2/\t_1.M=q2)/\∀(i:Nat),i<q2->Zf t.outs i=ZE.c (t_1.outs i))/\
 TxS.Ok t_1/\
 Z7 (Yf A t_1) (∃(t_2:TxS),
 let q5:=List.length (R t_2 true);let q6:=List.take q5 (Y0 0 (R t_2 true));let q7:=List.length q6;
 (t_2.num=t.num/\((q1=q1/\t_2.N=q1)/\∀(i:Nat),i<q1->Zg t.ins i=InS.c (t_2.ins i))/\(q2=q2/\t_2.M=q2)/\∀(i:Nat),i<q2->Zf t.outs i=ZE.c (t_2.outs i))/\TxS.Fine t_2/\Z6 (0+q5<=q5) (Z6 (q5=q7) (Z6 (q7<=B) (H q6=hh/\True)))) (Z5=hh/\False)) (by kernel_rfl) ?_
 conv=>zeta
 try simp only [vcA]
 try simp only [vcB]
 try simp only [vcC]
 refine ⟨t,⟨rfl,⟨rfl,fun _ _=>rfl⟩,rfl,fun _ _=>rfl⟩,ht,fun h=>⟨t,⟨rfl,⟨rfl,fun _ _=>rfl⟩,rfl,fun _ _=>rfl⟩,YY ht (by subst hA;exact hc), ?_⟩,fun h=>(by rw [hc] at h;cases h)⟩
 subst hR hA hH
 have hb:=XN (YY ht hc) true (J4 t.M)
 have hb':(W4 Zu t true).length<=20000:=hb
 rw [Yk,Kn,JE]
 and_intros<;>first|trivial|rfl|omega
theorem ZkH (A:List Int->Int×Int) (H:List Int->List Int) (T2:List Int->List Int->List Int) (R:TxS->Bool->List Int) (B:Nat) (t:TxS) (key hh:List Int) (ht:t.Ok) (hc:Yf A t=true) (hA:A=ZB) (hR:R=W4 Zu) (hB:20000<=B) (hHl:∀x,(H x).length=32) (hk:key.length=32) (hH:hh=T2 key (H (R t true))):
  evF (E19 A H T2 R B) 20 83 [.agg t.c,.agg [.arr .u8 32 key]] ⟨0,[]⟩ (ZF 0 (.ret (.tuple [.agg [.arr .u8 32 hh],.int .i64 0])) 0 []):=by
 refine @Eq.mpr _ (let q1:=t.N;let q2:=t.M;
 ∃(t_1:TxS),
 (t_1.num=t.num/\((q1=q1/\t_1.N=q1)/\∀(i:Nat),i<q1->Zg t.ins i=InS.c (t_1.ins i))/\(q2=q2/\t_1.M=q2)/\∀(i:Nat),i<q2->Zf t.outs i=ZE.c (t_1.outs i))/\
 TxS.Ok t_1/\
 Z7 (Yf A t_1) (∃(t_2:TxS),
 let q5:=List.length (R t_2 true);let q6:=List.take q5 (Y0 0 (R t_2 true));let q7:=List.length q6;let q8:=H q6;let q9:=List.length q8;
 (t_2.num=t.num/\((q1=q1/\t_2.N=q1)/\∀(i:Nat),i<q1->Zg t.ins i=InS.c (t_2.ins i))/\(q2=q2/\t_2.M=q2)/\∀(i:Nat),i<q2->Zf t.outs i=ZE.c (t_2.outs i))/\TxS.Fine t_2/\Z6 (0+q5<=q5) (Z6 (q5=q7) (Z6 (q7<=B) (Z6 (List.length key=32) (Z6 (q9=32) (Z6 (32=q9) (Z6 (List.length key=32/\q9=32) (T2 key q8=hh/\True)))))))) (Z5=hh/\False)) (by kernel_rfl) ?_
 conv=>zeta
 try simp only [vcA]
 try simp only [vcB]
 try simp only [vcC]
 refine ⟨t,⟨rfl,⟨rfl,fun _ _=>rfl⟩,rfl,fun _ _=>rfl⟩,ht,fun h=>⟨t,⟨rfl,⟨rfl,fun _ _=>rfl⟩,rfl,fun _ _=>rfl⟩,YY ht (by subst hA;exact hc), ?_⟩,fun h=>(by rw [hc] at h;cases h)⟩
 subst hR hA hH
 have hb:=XN (YY ht hc) true (J4 t.M)
 have hb':(W4 Zu t true).length<=20000:=hb
 rw [Yk,Kn,JE]
 have:=hHl (W4 Zu t true)
 and_intros<;>first|trivial|rfl|omega
theorem ZkI (A:List Int->Int×Int) (H:List Int->List Int) (T2:List Int->List Int->List Int) (R:TxS->Bool->List Int) (B:Nat) (t:TxS) (key:List Int) (ht:t.Ok) (hc:Yf A t=false):
  evF (E19 A H T2 R B) 20 83 [.agg t.c,.agg [.arr .u8 32 key]] ⟨0,[]⟩ (ZF 0 (.ret (.tuple [.agg [.arr .u8 32 Z5],.int .i64 2])) 0 []):=by
 refine @Eq.mpr _ (let q1:=t.N;let q2:=t.M;
 ∃(t_1:TxS),
 (t_1.num=t.num/\((q1=q1/\t_1.N=q1)/\∀(i:Nat),i<q1->Zg t.ins i=InS.c (t_1.ins i))/\(q2=q2/\t_1.M=q2)/\∀(i:Nat),i<q2->Zf t.outs i=ZE.c (t_1.outs i))/\
 TxS.Ok t_1/\
 Z7 (Yf A t_1) (∃(t_2:TxS),
 let q5:=List.length (R t_2 true);let q6:=List.take q5 (Y0 0 (R t_2 true));let q7:=List.length q6;let q8:=H q6;let q9:=List.length q8;
 (t_2.num=t.num/\((q1=q1/\t_2.N=q1)/\∀(i:Nat),i<q1->Zg t.ins i=InS.c (t_2.ins i))/\(q2=q2/\t_2.M=q2)/\∀(i:Nat),i<q2->Zf t.outs i=ZE.c (t_2.outs i))/\TxS.Fine t_2/\Z6 (0+q5<=q5) (Z6 (q5=q7) (Z6 (q7<=B) (Z6 (List.length key=32) (Z6 (q9=32) (Z6 (32=q9) (Z6 (List.length key=32/\q9=32) (T2 key q8=Z5/\False)))))))) (Z5=Z5/\True)) (by kernel_rfl) ?_
 conv=>zeta
 try simp only [vcA]
 try simp only [vcB]
 try simp only [vcC]
 exact ⟨t,⟨rfl,⟨rfl,fun _ _=>rfl⟩,rfl,fun _ _=>rfl⟩,ht,fun h=>(by rw [hc] at h;cases h),fun h=>(by first|trivial|exact ⟨rfl,trivial⟩|rfl)⟩
def Zo3 (A:List Int->Int×Int) (Nm:TxS->List Int):ZH:=fun args h K=>ZA none h true 20 args fun a=>match a with
 | [.agg l]=>∃t,Z08 l t/\t.Ok/\Z7 (Yf A t) (K (.tuple [.agg [.arr .u8 32 (Nm t)],.int .i64 0])) (K (.tuple [.agg [.arr .u8 32 Z5],.int .i64 2]))
 | _=>False
@[irreducible] def Z1B (t:TxS):List Int:=UP (W4 Zu t true)
theorem ZaR (t:TxS):(Z1B t).length=32:=by unfold Z1B;exact Z4v _
def Ziq (A:List Int->Int×Int) (Tg:List Int->TxS->List Int):ZH:=fun args h K=>ZA none h true 20 args fun a=>match a with
 | [.agg l,.agg [.arr .u8 32 key]]=>∃t,Z08 l t/\(t.Ok/\key.length=32)/\Z7 (Yf A t) (K (.tuple [.agg [.arr .u8 32 (Tg key t)],.int .i64 0])) (K (.tuple [.agg [.arr .u8 32 Z5],.int .i64 2]))
 | _=>False
@[irreducible] def Zv (key:List Int) (t:TxS):List Int:=UQ key (UP (W4 Zu t true))
theorem X9 (k:List Int) (t:TxS):(Zv k t).length=32:=by unfold Zv;exact ZaH _ _
theorem ZaS (args:List AV) (h:Z8) (K:AV->Prop) (hl:Ziq ZB Zv args h K):Ze PP 83 args h fun o h'=>∃v,o=.ret v/\h'=h/\K v:=by
 refine Zs.psumm (d:=20) (Zk _ _ _ _ _ hl fun a ha=> ?_)
 split at ha
 ·obtain ⟨t,h1,⟨h2,hk⟩,hK⟩:=ha
  rw [Z21] at hK
  cases hc:Yf ZB t with
  | true=>exact ⟨_,(Zs.evM (Zd3 20000 (by decide) (by decide)) (ZkH _ _ _ _ _ t _ _ h2 hc rfl rfl (by decide) Z4v hk rfl)).conv fun E r hr=>hr.head (fun _ hc=>h1.rel hc) (fun _ hc=>hc),fun _=>rfl,by have:=hK.1 hc;unfold Zv at this;exact this⟩
  | false=>exact ⟨_,(Zs.evM (Zd3 20000 (by decide) (by decide)) (ZkI _ _ _ _ _ t _ h2 hc)).conv fun E r hr=>hr.head (fun _ hc=>h1.rel hc) (fun _ hc=>hc),fun _=>rfl,hK.2 hc⟩
 ·exact ha.elim
def Z1N (x y:InS):Bool:=x.name==y.name&&x.index==y.index&&x.way==y.way&&x.tag==y.tag&&x.also==y.also&&x.secret==y.secret
def Ui (x y:ZE):Bool:=x.kind==y.kind&&x.amount==y.amount&&x.owner==y.owner&&x.other==y.other&&x.point==y.point&&x.hash==y.hash&&x.delay==y.delay&&x.expiry==y.expiry
@[irreducible] def Z8s (N:Nat) (g:Nat->InS) (M:Nat) (g2:Nat->InS):Bool:=decide (N=M)&&(List.range N).all fun i=>Z1N (g i) (g2 i)
def Zo5:ZH:=fun args h K=>ZA none h true 20 args fun a=>match a with
 | [x,y]=>∃N g M g2,Z3V x N g/\Z3V y M g2/\(N<900000000000/\(∀i,i<N->(g i).Ok)/\∀i,i<M->(g2 i).Ok)/\K (.bool (Z8s N g M g2))
 | _=>False
@[irreducible] def ZaT (N:Nat) (g:Nat->ZE) (M:Nat) (g2:Nat->ZE):Bool:=decide (N=M)&&(List.range N).all fun i=>Ui (g i) (g2 i)
@[irreducible] def Vm (a b:TxS):Bool:=(a.num==b.num)&&(Z8s a.N a.ins b.N b.ins&&ZaT a.M a.outs b.M b.outs)
def Zd4 (F:TxS->TxS->Bool):ZH:=fun args h K=>ZA none h true 20 args fun a=>match a with
 | [.agg l,.agg l']=>∃a b,Z08 l a/\Z08 l' b/\(a.Ok/\b.Ok)/\K (.bool (F a b))
 | _=>False
mutual
/-- Without names; views may be. -/
def AV.vplain:AV->Bool
 | .top|.bool _|.int _ _|.str _|.ptr none|.eslice|.fslice|.nilslice|.map none|.nilFunc|.nilIface|.arr _ _ _=>true
 | .vints _ _ _|.vrows _ _ _ _|.pview _ _=>true
 | .agg cs=>WF cs
 | .tuple cs=>WF cs
 | .iface _ v=>v.vplain
 | _=>false
def WF:List AV->Bool
 | []=>true
 | v::r=>v.vplain&&WF r
end
mutual
theorem Zh.vplain {E E':Env} (hi:∀a c,E.imm a c->E'.imm a c):∀(v:AV) (r:Value),v.vplain=true->Zh E v r->Zh E' v r
 | .top,r,_,_=>.top r
 | .bool b,r,_,h=>h.plain rfl
 | .int k n,r,_,h=>h.plain rfl
 | .str s,r,_,h=>h.plain rfl
 | .ptr none,r,_,h=>h.plain rfl
 | .eslice,r,_,h=>h.plain rfl
 | .fslice,r,_,h=>h.plain rfl
 | .nilslice,r,_,h=>h.plain rfl
 | .map none,r,_,h=>h.plain rfl
 | .nilFunc,r,_,h=>h.plain rfl
 | .nilIface,r,_,h=>h.plain rfl
 | .arr k n xs,r,_,h=>h.plain rfl
 | .ptr (some p),r,hp,_=>by simp [AV.vplain] at hp
 | .nslice p a b c,r,hp,_=>by simp [AV.vplain] at hp
 | .map (some x),r,hp,_=>by simp [AV.vplain] at hp
 | .func a b c,r,hp,_=>by simp [AV.vplain] at hp
 | .yield x,r,hp,_=>by simp [AV.vplain] at hp
 | .pview cs inn,r,_,h=>by
  cases h with
  | pview cs inn a vs hc hq=>exact .pview cs inn a vs (Zr.mono (⟨fun _ _ h=>by simp [Env.views] at h,hi⟩:E.views.le E'.views) hc) (fun j c h=>hi _ _ (hq j c h))
 | .vints k xs len,r,_,h=>by
  cases h with
  | vintsNil k xs len h1 h2=>exact .vintsNil k xs len h1 h2
  | vints k xs len a cap h1 h2 hq=>exact .vints k xs len a cap h1 h2 (fun i h=>hi _ _ (hq i h))
 | .vrows esz n f len,r,_,h=>by
  cases h with
  | vrowsNil esz n f len h1 h2=>exact .vrowsNil esz n f len h1 h2
  | vrows esz n f len a cap g h1 h2 hc hl hq=>exact .vrows esz n f len a cap g h1 h2 (fun i h=>Zr.mono (⟨fun _ _ h=>by simp [Env.views] at h,hi⟩:E.views.le E'.views) (hc i h)) hl (fun i j c h h'=>hi _ _ (hq i j c h h'))
 | .iface t v,r,hp,h=>by
  cases h with
  | iface t v x hx=>exact .iface t v x (Zh.vplain hi v x (by simpa [AV.vplain] using hp) hx)
 | .agg cs,r,hp,h=>by
  cases h with
  | agg cs vs hc=>exact .agg cs vs (Zr.vplain hi cs vs (by simpa [AV.vplain] using hp) hc)
 | .tuple cs,r,hp,h=>by
  cases h with
  | tuple _ rs hc=>exact .tuple _ rs (Zz.vplain hi cs rs (by simpa [AV.vplain] using hp) hc)
theorem Zr.vplain {E E':Env} (hi:∀a c,E.imm a c->E'.imm a c):∀(l:List AV) (r:List Value),WF l=true->Zr E l r->Zr E' l r
 | [],r,_,h=>by cases h;exact .nil
 | v::l,r,hp,h=>by
  simp only [WF,J3] at hp
  cases h with
  | one v c vs cs h0 h1 hv t=>exact .one v c _ cs h0 h1 (Zh.vplain hi v c hp.1 hv) (Zr.vplain hi l cs hp.2 t)
  | arr k n xs vs cs t=>exact .arr k n xs _ cs (Zr.vplain hi l cs hp.2 t)
theorem Zz.vplain {E E':Env} (hi:∀a c,E.imm a c->E'.imm a c):∀(l:List AV) (r:List Value),WF l=true->Zz E l r->Zz E' l r
 | [],r,_,h=>by cases h;exact .nil
 | v::l,r,hp,h=>by
  simp only [WF,J3] at hp
  cases h with
  | cons v c vs cs hv t=>exact .cons v c _ cs (Zh.vplain hi v c hp.1 hv) (Zz.vplain hi l cs hp.2 t)
end
def XR (R:AV->Prop):KO:=fun o _=>match o with
 | .ret u=>(match u.vplain with|true=>R u|false=>False)
 | .panic _=>False
theorem Z09 {P:Program} {f:FuncId} {h:Z8} {K:AV->Prop} (hp:WF args=true) (hc:Ze P f args ⟨0,[]⟩ (XR R)) (hK:∀u,R u->K u):
  Ze P f args h fun o h'=>∃v,o=.ret v/\h'=h/\K v:=by
 intro E w rs he hr
 have hemb:Emb E.views ⟨0,[]⟩ w:=
  ⟨fun x _=>rfl,fun x B h=>by simp [Z8.get,ZO] at h,fun x B h=>by simp [Z8.get,ZO] at h,fun x y B B' b N N' h=>by simp [Z8.get,ZO] at h,he.imm,fun a c x B N _ h=>by simp [Z8.get,ZO] at h⟩
 refine (hc E.views w rs hemb (Zz.vplain (E:=E) (E':=E.views) (fun _ _ h=>h) _ _ hp hr)).mono ?_
 rintro e w' ⟨E₁,o,h',hK0,hev,hor⟩
 cases hor with
 | panic u r hr=>exact hK0.elim
 | ret u r hr=>
  unfold XR at hK0
  simp only at hK0
  split at hK0
  ·rename_i hu
   have hkeep:∀b,b<w.heap.size->w'.heap[b]? =w.heap[b]?:=fun b hb=>hev.keep b hb (fun ⟨x,B,N,hx,_⟩=>by simp [Z8.get,ZO] at hx)
   have hemb':Emb E h w':=by
    refine ⟨he.fresh,he.lt,fun x B hx=>(he.own x B hx).congr fun b N hb=>hkeep b ((he.own x B hx).lt hb),he.disj,fun a c hi=> ?_,he.sep⟩
    have hcc:=he.imm a c hi
    have hlt:a.block<w.heap.size:=by
     rcases J9 a.block w.heap.size with hl|hg
     ·exact hl
     ·simp [World.cell?,Jo hg] at hcc
    simpa [World.cell?,hkeep _ hlt] using hcc
   exact ⟨E,.ret u,h,⟨u,rfl,rfl,hK u hK0⟩,⟨.refl E,hemb',hev.size,hev.os,hev.tape,hev.output,fun b hb _=>hkeep b hb,fun b ho=>.inl ho,fun _ _ h=>h⟩,.ret _ _ (Zh.vplain (E:=E₁) (E':=E) (fun a c hi=>hev.imm a c hi) _ _ hu hr)⟩
  ·exact hK0.elim
theorem X3 {G:Zd} (hG:G.Ok) {n:Nat} {f:FuncId} {h:Z8} {K:AV->Prop} (hp:WF args=true) (hc:evF G n f args ⟨0,[]⟩ (XR R)) (hK:∀u,R u->K u):
  Ze G.P f args h fun o h'=>∃v,o=.ret v/\h'=h/\K v:=Z09 hp (ZX hG hc) hK
end Go.Tk
end
section
namespace Go.Tk
open IntKind (i64 u8 u32 u64 wrap)
inductive Ty where
 | bool
 | int (k:IntKind)
 | str
 | arr (k:IntKind) (n:Nat)
 | ints (k:IntKind)
 | rows (esz:Nat) (ts:List Ty)
def Zd5 (P:Program) (r:TypeId->Option (List Ty)) (sz:Nat):Nat->List Field->Option (List Ty)
 | o,[]=>if o=sz then some [] else none
 | o,f::fs=>if f.offset=o then (r f.type).bind fun a=>(Zd5 P r sz (o+P.cellsOf f.type) fs).bind fun b=>some (a++b) else none
def Z1O (P:Program):Nat->TypeId->Option (List Ty)
 | 0,_=>none
 | m+1,t=>match P.underlying t with
  | some .bool=>some [.bool]
  | some (.int k)=>some [.int k]
  | some .string=>some [.str]
  | some (.array n e)=>match P.underlying e with
   | some (.int k)=>if P.cellsOf t=n/\P.cellsOf e=1 then some [.arr k n] else none
   | _=>(Z1O P m e).bind fun ts=>if P.cellsOf t=n*P.cellsOf e then some (List.replicate n ts).flatten else none
  | some (.slice e)=>match P.underlying e with
   | some (.int k)=>if P.cellsOf e=1 then some [.ints k] else none
   | _=>(Z1O P m e).bind fun ts=>some [.rows (P.cellsOf e) ts]
  | some (.struct fs)=>Zd5 P (Z1O P m) (P.cellsOf t) 0 fs.toList
  | _=>none
mutual
inductive Z1C:Ty->AV->Prop
 | bool (b:Bool):Z1C .bool (.bool b)
 | int (k:IntKind) (n:Int) (h:(Lit.int k n).wf=true):Z1C (.int k) (.int k n)
 | str (s:ByteArray) (h:s.size<=maxLen):Z1C .str (.str s)
 | arr (k:IntKind) (n:Nat) (xs:List Int) (h:xs.length=n) (hw:∀i,i<n->(Lit.int k (xs.getD i 0)).wf=true):Z1C (.arr k n) (.arr k n xs)
 | ints (k:IntKind) (xs:List Int) (n:Nat) (h:xs.length=n) (hm:n<=maxLen) (hw:∀i,i<n->(Lit.int k (xs.getD i 0)).wf=true):Z1C (.ints k) (.vints k xs n)
 | rows (esz:Nat) (ts:List Ty) (n:Nat) (f:Nat->List AV) (hm:n<=maxLen) (h:∀i,i<n->Fits ts (f i)):Z1C (.rows esz ts) (.vrows esz n f n)
inductive Fits:List Ty->List AV->Prop
 | nil:Fits [] []
 | cons (t:Ty) (a:AV) (ts:List Ty) (vz:List AV) (h:Z1C t a) (r:Fits ts vz):Fits (t::ts) (a::vz)
end
theorem Fits.append:∀{ts wz:List Ty} {vz bs:List AV},Fits ts vz->Fits wz bs->Fits (ts++wz) (vz++bs)
 | _,_,_,_,.nil,h=>h
 | _,_,_,_,.cons t a ts vz h r,k=>.cons t a _ _ h (Fits.append r k)
def tE (w:World):Env:=⟨fun _=>none,fun a c=>w.cell? a=some c⟩
section
variable {H:Type} {enc:TypeId×Value->H} {P:Program} {w:World} {sp:Nat->Bool} {held:Bool}
theorem QF {k:IntKind} {n:Nat} {cs:List Value} (hl:cs.length=n) (h:∀i,i<n->∃z,cs[i]? =some (.int k z)/\(Lit.int k z).wf=true):
  ∃xs:List Int,xs.length=n/\(∀i,i<n->(Lit.int k (xs.getD i 0)).wf=true)/\∀i,i<n->cs[i]? =some (.int k (xs.getD i 0)):=by
 refine ⟨cs.map fun v=>match v with|.int _ z=>z|_=>0,by simp [hl],fun i hi=> ?_,fun i hi=> ?_⟩
 ·obtain ⟨z,h1,h2⟩:=h i hi
  rw [J2,K4,h1]
  exact h2
 ·obtain ⟨z,h1,h2⟩:=h i hi
  rw [J2,K4,h1]
  rfl
theorem ZfH {α β:Type} {n:Nat} {p:Nat->α->β->Prop} [Inhabited α] [Inhabited β] (h:∀i,i<n->∃a b,p i a b):∃(f:Nat->α) (g:Nat->β),∀i,i<n->p i (f i) (g i):=
 ⟨fun i=>if hi:i<n then Classical.choose (h i hi) else default,fun i=>if hi:i<n then Classical.choose (Kt (h i hi)) else default,fun i hi=>by
  simp only [hi,dite_true]
  exact Kt (Kt (h i hi))⟩
theorem Z24:∀(m:Nat) (t:TypeId) (ts:List Ty),Z1O P m t=some ts->∀(fuel:Nat) (cs:List Value) (x:DataW H×List MemPlace),DataW.trod enc P w 0 sp held fuel t cs=some x->∃vz,Fits ts vz/\Zr (tE w) vz cs
 | 0,_,_,ht=>by simp [Z1O] at ht
 | m+1,t,ts,ht=>by
  intro fuel cs x hx
  unfold Z1O at ht
  split at ht
  ·rename_i hu
   cases ht
   obtain ⟨b,rfl,_⟩:=DataW.trod_bool hu hx
   exact ⟨[.bool b],.cons _ _ _ _ (.bool b) .nil,.one _ _ _ _ rfl rfl (.bool b) .nil⟩
  ·rename_i k hu
   cases ht
   obtain ⟨n,rfl,_,hw⟩:=DataW.trod_int hu hx
   exact ⟨[.int k n],.cons _ _ _ _ (.int k n hw) .nil,.one _ _ _ _ rfl rfl (.int k n) .nil⟩
  ·rename_i hu
   cases ht
   obtain ⟨s,rfl,_,hw⟩:=DataW.trod_string hu hx
   exact ⟨[.str s],.cons _ _ _ _ (.str s hw) .nil,.one _ _ _ _ rfl rfl (.str s) .nil⟩
  ·rename_i n e hu
   split at ht
   ·rename_i k he
    split at ht
    ·rename_i hc
     obtain ⟨hc,h1⟩:=hc
     cases ht
     obtain ⟨xs,q,rfl,rfl,hl,hn,hi⟩:=DataW.trod_array hu hx
     rw [hc] at hl
     obtain ⟨zs,z1,z2,z3⟩:=QF (k:=k) hl fun i hlt=>by
      have:=hi i hlt
      rw [Je (by omega),h1] at this
      obtain ⟨z,e1,_,e2⟩:=DataW.trod_int he this
      refine ⟨z, ?_,e2⟩
      rw [K1] at e1
      have:=congrArg (fun l=>l[0]?) e1
      simpa using this
     refine ⟨[.arr k n zs],.cons _ _ _ _ (.arr k n zs z1 z2) .nil, ?_⟩
     have:cs=intCells k n zs++[]:=by
      rw [JI]
      refine Kv fun i=> ?_
      by_cases hlt:i<n
      ·rw [z3 i hlt]
       simp [intCells,hlt]
      ·rw [Jr (by omega),Jr (by rw [Z9];omega)]
     rw [this]
     exact .arr _ _ _ _ _ .nil
    ·cases ht
   ·obtain ⟨es,e1,e2⟩:=JG.1 ht
    split at e2
    ·rename_i hc
     cases e2
     obtain ⟨xs,q,rfl,rfl,hl,hn,hi⟩:=DataW.trod_array hu hx
     rw [hc] at hl
     have key:∀j,j<=n->∃vz,Fits (List.replicate j es).flatten vz/\Zr (tE w) vz (cs.take (j*P.cellsOf e)):=by
      intro j
      induction j with
      | zero=>intro _;exact ⟨[],.nil,by simp;exact .nil⟩
      | succ j ih=>
       intro hj
       obtain ⟨vz,f1,f2⟩:=ih (by omega)
       have:=hi j (by omega)
       rw [Je (by omega)] at this
       obtain ⟨bs,p1,p2⟩:=Z24 m _ _ e1 _ _ _ this
       refine ⟨vz++bs, ?_, ?_⟩
       ·rw [List.replicate_succ',List.flatten_append,List.flatten_singleton]
        exact f1.append p1
       ·rw [Nat.succ_mul,List.take_add]
        exact f2.append p2
     obtain ⟨vz,f1,f2⟩:=key n (J4 _)
     rw [JD (by omega)] at f2
     exact ⟨vz,f1,f2⟩
    ·cases e2
  ·rename_i e hu
   split at ht
   ·rename_i k he
    split at ht
    ·rename_i hc
     cases ht
     rcases DataW.trod_slice hu hx with ⟨rfl,_⟩|⟨a,len,cap,elems,rest,n,rfl,rfl,_,_,hl,hm,hlen,hi,_,_⟩
     ·exact ⟨[.vints k [] 0],.cons _ _ _ _ (.ints k [] 0 rfl (JC _) fun i hi=>absurd hi (Ki i)) .nil,.one _ _ _ _ rfl rfl (.vintsNil _ _ _ rfl rfl) .nil⟩
     ·obtain ⟨zs,z1,z2,z3⟩:=QF (k:=k) (n:=len) (cs:=(List.range len).map fun i=>(w.cell? (a.add i)).getD undef) (by simp) fun i hlt=>by
       have:=hi i hlt
       rw [Je (by omega),hc,K1] at this
       obtain ⟨cs',h1,h2⟩:=JG.1 this
       obtain ⟨z,rfl,_,e2⟩:=DataW.trod_int he h2
       refine ⟨z, ?_,e2⟩
       simp [hlt,Go.ChangeShapes.cell_of_cells?_one h1]
      refine ⟨[.vints k zs len],.cons _ _ _ _ (.ints k zs len z1 (by omega) z2) .nil,.one _ _ _ _ rfl rfl (.vints k zs len a cap (by omega) (by omega) fun i hlt=> ?_) .nil⟩
      rw [z1] at hlt
      have:=hi i hlt
      rw [Je (by omega),hc,K1] at this
      obtain ⟨cs',h1,h2⟩:=JG.1 this
      obtain ⟨z,rfl,_,e2⟩:=DataW.trod_int he h2
      have h3:=z3 i hlt
      have h4:=Go.ChangeShapes.cell_of_cells?_one h1
      simp [hlt,h4] at h3
      show w.cell? (a.add i)=_
      rw [h4,h3,J2]
    ·cases ht
   ·obtain ⟨es,h1,h2⟩:=JG.1 ht
    cases h2
    rcases DataW.trod_slice hu hx with ⟨rfl,_⟩|⟨a,len,cap,elems,rest,n,rfl,rfl,_,_,hl,hm,hlen,hi,_,_⟩
    ·exact ⟨[.vrows (P.cellsOf e) 0 (fun _=>[]) 0],.cons _ _ _ _ (.rows _ _ 0 _ (JC _) fun i hi=>absurd hi (Ki i)) .nil,.one _ _ _ _ rfl rfl (.vrowsNil _ _ _ _ rfl rfl) .nil⟩
    ·obtain ⟨f,g,hfg⟩:=ZfH (n:=len) (p:=fun i (vz:List AV) (vs:List Value)=>Fits es vz/\Zr (tE w) vz vs/\w.cells? 0 (a.add (i*P.cellsOf e)) (P.cellsOf e)=some vs) fun i hlt=>by
      have:=hi i hlt
      rw [Je (by omega)] at this
      obtain ⟨cs',k1,k2⟩:=JG.1 this
      obtain ⟨vz,f1,f2⟩:=Z24 m _ _ h1 _ _ _ k2
      exact ⟨vz,cs',f1,f2,k1⟩
     refine ⟨[.vrows (P.cellsOf e) len f len],.cons _ _ _ _ (.rows _ _ len f (by omega) fun i hlt=>(hfg i hlt).1) .nil,.one _ _ _ _ rfl rfl (.vrows _ _ _ _ a cap g (J4 _) hl (fun i hlt=>(hfg i hlt).2.1) (fun i hlt=>(World.cells?_some (hfg i hlt).2.2).2.1) fun i j c hlt hj=> ?_) .nil⟩
     obtain ⟨_,hl',hc'⟩:=World.cells?_some (hfg i hlt).2.2
     have hj':j<P.cellsOf e:=by
      rcases J9 j (P.cellsOf e) with h|h
      ·exact h
      ·rw [Jr (by omega)] at hj;cases hj
     have:=hc' j hj'
     rw [hj] at this
     show w.cell? (a.add (i*P.cellsOf e+j))=some c
     rw [<-this]
     rw [Addr.add_add]
  ·rename_i fs hu
   obtain ⟨xs,n,rfl,rfl,hl,hn,hf⟩:=DataW.trod_struct hu hx
   have key:∀(l:List Field) (o:Nat) (ts:List Ty) (i0:Nat),Zd5 P (Z1O P m) (P.cellsOf t) o l=some ts->(∀i f,l[i]? =some f->fs[i0+i]? =some f)->∃vz,Fits ts vz/\Zr (tE w) vz (cs.drop o):=by
    intro l
    induction l with
    | nil=>
     intro o ts i0 h _
     unfold Zd5 at h
     split at h
     ·rename_i ho
      cases h
      exact ⟨[],.nil,by rw [K3 (by omega)];exact .nil⟩
     ·cases h
    | cons f l ih=>
     intro o ts i0 h hl'
     unfold Zd5 at h
     split at h
     ·rename_i ho
      obtain ⟨a,h1,h2⟩:=JG.1 h
      obtain ⟨b,h3,h4⟩:=JG.1 h2
      cases h4
      have h0:fs[i0]? =some f:=hl' 0 f rfl
      have hlt:i0<fs.size:=by
       rcases J9 i0 fs.size with h|h
       ·exact h
       ·rw [Jo (by omega)] at h0;cases h0
      have k:=hf i0 f h0
      rw [Je (by omega),ho] at k
      obtain ⟨vz,p1,p2⟩:=Z24 m _ _ h1 _ _ _ k
      obtain ⟨bs,q1,q2⟩:=ih (o+P.cellsOf f.type) b (i0+1) h3 fun i g hg=>by
       have:=hl' (i+1) g hg
       rw [<-this];congr 1;omega
      refine ⟨vz++bs,p1.append q1, ?_⟩
      have e:cs.drop o=(cs.drop o).take (P.cellsOf f.type)++cs.drop (o+P.cellsOf f.type):=by
       rw [<-List.drop_drop,List.take_append_drop]
      rw [e]
      exact p2.append q2
     ·cases h
   obtain ⟨vz,h1,h2⟩:=key fs.toList 0 ts 0 ht fun i f h=>by simpa using h
   exact ⟨vz,h1,by simpa using h2⟩
  ·cases ht
def isAgg (P:Program) (t:TypeId):Bool:=match P.underlying t with
 | some (.struct _)|some (.array _ _)=>true
 | _=>false
inductive Z3l:Bool->List Ty->AV->Prop
 | agg (ts:List Ty) (vz:List AV) (h:Fits ts vz):Z3l true ts (.agg vz)
 | one (t:Ty) (a:AV) (h:Z1C t a):Z3l false [t] a
theorem Zd6 {m:Nat} {t:TypeId} {ts:List Ty} (ht:Z1O P m t=some ts) (hg:isAgg P t=false) {v:Value} {r:Reach} {b:Nat} (hv:Value.okWide P w r b t v):
  v.cells.toList=[v]/\∃τ,ts=[τ]/\∀k n,τ≠.arr k n:=by
 cases m with
 | zero=>simp [Z1O] at ht
 | succ m=>
  unfold Z1O at ht
  unfold isAgg at hg
  split at ht
  ·rename_i hu;cases ht;obtain ⟨b,rfl⟩:=Go.WideShapes.okWide_bool hu hv;exact ⟨rfl,_,rfl,fun _ _ h=>by cases h⟩
  ·rename_i hu;cases ht;obtain ⟨b,rfl⟩:=Go.WideShapes.okWide_int hu hv;exact ⟨rfl,_,rfl,fun _ _ h=>by cases h⟩
  ·rename_i hu;cases ht;obtain ⟨b,rfl⟩:=Go.WideShapes.okWide_string hu hv;exact ⟨rfl,_,rfl,fun _ _ h=>by cases h⟩
  ·rename_i hu;simp [hu] at hg
  ·rename_i hu
   obtain ⟨a,l,c,rfl⟩:=Go.WideShapes.okWide_slice hu hv
   split at ht
   ·split at ht
    ·cases ht;exact ⟨rfl,_,rfl,fun _ _ h=>by cases h⟩
    ·cases ht
   ·obtain ⟨es,h1,h2⟩:=JG.1 ht
    cases h2;exact ⟨rfl,_,rfl,fun _ _ h=>by cases h⟩
  ·rename_i hu;simp [hu] at hg
  ·cases ht
theorem Zd7 {m:Nat} {t:TypeId} {ts:List Ty} {g:Bool} (ht:Z1O P m t=some ts) (hg:isAgg P t=g) {v:Value} {r:Reach} {b:Nat} (hv:Value.okWide P w r b t v) {d:DataW H} {ps:List MemPlace} (h:DataW.Trod enc P w 0 sp held t v d ps):
  ∃a,Z3l g ts a/\Zh (tE w) a v:=by
 obtain ⟨fuel,hf⟩:=h
 obtain ⟨vz,f1,f2⟩:=Z24 m _ _ ht _ _ _ hf
 cases g with
 | true=>
  have:∃cs,v=.agg cs:=by
   unfold isAgg at hg
   unfold Value.okWide at hv
   split at hg
   ·rename_i hu;simp only [hu] at hv;obtain ⟨cs,rfl,_⟩:=hv;exact ⟨cs,rfl⟩
   ·rename_i hu;simp only [hu] at hv;obtain ⟨cs,rfl,_⟩:=hv;exact ⟨cs,rfl⟩
   ·cases hg
  obtain ⟨cs,rfl⟩:=this
  refine ⟨.agg vz,.agg _ _ f1, ?_⟩
  have:cs=(Value.cells (.agg cs)).toList.toArray:=by simp [Value.cells]
  rw [this]
  exact .agg _ _ f2
 | false=>
  obtain ⟨h1,τ,rfl,h2⟩:=Zd6 ht hg hv
  rw [h1] at f2
  cases f1 with
  | cons _ a _ vz f r=>
   cases r
   generalize hL:[v]=L at f2
   cases f2 with
   | one _ _ _ _ h0 h1 h t=>cases hL;exact ⟨_,.one _ _ f,h⟩
   | arr k n xs _ cs t=>cases f;exact absurd rfl (h2 _ _)
end
end Go.Tk
end
section
namespace Go.Tk
open IntKind (i64 u8 u32 u64 wrap)
open Go.ChangeShapes Go.WideShapes Go.RowKit
theorem Zir (w:World):Emb (tE w) ⟨0,[]⟩ w where
 fresh:=fun _ _=>rfl
 lt:=fun x B h=>by simp [Z8.get,ZO] at h
 own:=fun x B h=>by simp [Z8.get,ZO] at h
 disj:=fun x y B B' b N N' h=>absurd h (by simp [Z8.get,ZO])
 imm:=fun _ _ h=>h
 sep:=fun a c x B N _ h=>absurd h (by simp [Z8.get,ZO])
theorem Ze.topT {P:Program} {f:FuncId} {args:List AV} (h:Ze P f args ⟨0,[]⟩ fun o h'=>∃v,o=.ret v/\h'=⟨0,[]⟩/\v=.bool true) {w:World} {rs:List Value} (hl:Zz (tE w) args rs):
  Calls P f rs.toArray w fun e w'=>e=.returned (.bool true)/\Go.RowKit.Below w.heap.size w w':=by
 refine (h (tE w) w rs (Zir w) hl).mono ?_
 rintro e w' ⟨E',o,h',⟨v,rfl,rfl,hv⟩,hev,hor⟩
 obtain rfl:=hv
 cases hor with
 | ret v r hr=>
  cases hr
  refine ⟨rfl,hev.os,hev.tape,hev.output.1,hev.size,fun k hk=>hev.keep k hk ?_⟩
  rintro ⟨x,B,N,hx,_⟩
  exact absurd hx (by simp [Z8.get,ZO])
def Z8t (P:Program) (m:Nat):List TypeId->Option (List (Bool×List Ty))
 | []=>some []
 | t::r=>(Z1O P m t).bind fun a=>(Z8t P m r).bind fun b=>some ((isAgg P t,a)::b)
inductive Z4D:List (Bool×List Ty)->List AV->Prop
 | nil:Z4D [] []
 | cons (g:Bool) (ts:List Ty) (a:AV) (r:List (Bool×List Ty)) (vz:List AV) (h:Z3l g ts a) (k:Z4D r vz):Z4D ((g,ts)::r) (a::vz)
section
variable {H:Type} {enc:TypeId×Value->H} {P:Program} {w:World}
theorem Z4E {m:Nat} {r:Reach} {b:Nat}:∀{ts:List TypeId} {τs:List (Bool×List Ty)} {vs:List Value} {ds:List (DataW H)} {ps:List MemPlace},Z8t P m ts=some τs->(∀(j:Nat) t v,ts[j]? =some t->vs[j]? =some v->Value.okWide P w r b t v)->
  DataW.TrodAll enc P w 0 (fun _=>true) true ts vs ds ps->∃vz,Z4D τs vz/\Zz (tE w) vz vs
 | [],τs,vs,ds,ps,ha,_,h=>by
  cases ha
  obtain ⟨rfl,_,_⟩:=trodAll_nil h
  exact ⟨[],.nil,.nil⟩
 | t::ts,τs,vs,ds,ps,ha,hv,h=>by
  obtain ⟨a,h1,h2⟩:=JG.1 ha
  obtain ⟨c,h3,h4⟩:=JG.1 h2
  cases h4
  obtain ⟨v,vs',d,ds',p,q,rfl,rfl,rfl,k1,k2⟩:=trodAll_cons h
  obtain ⟨x,f1,f2⟩:=Zd7 h1 rfl (hv 0 t v rfl rfl) k1
  obtain ⟨vz,g1,g2⟩:=Z4E h3 (fun j t' v' e1 e2=>hv (j+1) t' v' e1 e2) k2
  exact ⟨x::vz,.cons _ _ _ _ _ f1 g1,.cons _ _ _ _ f2 g2⟩
theorem Z1D {sp:Nat->Bool} {held:Bool}:∀{ts:List TypeId} {vs:List Value} {ds:List (DataW H)} {ps:List MemPlace},DataW.TrodAll enc P w 0 sp held ts vs ds ps->ds.length=ts.length
 | [],_,_,_,h=>by obtain ⟨_,rfl,_⟩:=trodAll_nil h;rfl
 | t::ts,_,_,_,h=>by
  obtain ⟨v,vs',d,ds',p,q,rfl,rfl,rfl,k1,k2⟩:=trodAll_cons h
  simp [Z1D k2]
theorem Z4F {W':World} (laid:laidOutB P=true) (hb:Below w.heap.size w W'):∀{ts:List TypeId} {vs:List Value} {ds:List (DataW H)} {ps:List MemPlace},ts.all (fun t=>P.readableRec t&&decide (t<P.types.size))=true->
  DataW.TrodAll enc P w 0 (fun _=>true) true ts vs ds ps->DataW.TrodAll enc P W' 0 (fun b=>decide (b<w.heap.size)) true ts vs ds ps
 | [],_,_,_,_,h=>by obtain ⟨rfl,rfl,rfl⟩:=trodAll_nil h;exact trodAll_mk0
 | t::ts,_,_,_,hr,h=>by
  obtain ⟨v,vs',d,ds',p,q,rfl,rfl,rfl,k1,k2⟩:=trodAll_cons h
  simp only [List.all_cons,J3,decide_eq_true_eq] at hr
  have lt:∀x∈p,x.block<w.heap.size:=by obtain ⟨m,hm⟩:=k1;exact DataW.trod_lt m _ _ _ hm
  exact trodAll_cons_mk (Below.trod laid hr.1.1 hr.1.2 k1 hb lt) (Z4F laid hb hr.2 k2)
end
theorem lifted_gen {H:Type} {enc:TypeId×Value->H} {C:Checked} {os:Os} {f:FuncId} {fn:Func} {s:ChangeSpec} {conds:List PathCond} {tb:TypeId} {m:Nat} {τs:List (Bool×List Ty)}
  (own:ownKnob C.prog.godebug=none) (laid:laidOutB C.prog=true) (started:os.Started) (noInit:C.prog.inits.idxOf? f=none) (hfn:C.prog.funcs[f]? =some fn)
  (witness:∃(w:World) (tape:Tape) (i:Input),w.os=os/\(w.forCall tape i).Shaped C.prog/\i.vars=[]/\Input.okWide C.prog (w.forCall tape i) .any w.heap.size f i/\
   s.pre6 enc C.prog fn conds false (w.forCall tape i).memory i.args/\({}:Assume).holds C.prog (lone (Frame.enter C.prog f i.args .normal) [] (w.forCall tape i)))
  (hvars:s.vars=[]) (hr:fn.resultTypes= #[tb]) (hb:C.prog.underlying tb=some .bool) (hread:fn.params.toList.all (fun t=>C.prog.readableRec t&&decide (t<C.prog.types.size))=true) (hτ:Z8t C.prog m fn.params.toList=some τs)
  (hs:∀ds:List (DataW H),ds.length=fn.params.toList.length->s.fn H ds={ results:=[.lit (.bool true)],args:=ds})
  (walk:∀vz,Z4D τs vz->Ze C.prog f vz ⟨0,[]⟩ fun o h'=>∃v,o=.ret v/\h'=⟨0,[]⟩/\v=.bool true):
  ReturnsInHanded {} C os f .any (s.pre6 enc C.prog fn conds false) (s.post enc C.prog fn false true false false):=by
 refine returnsInHanded_of_change own started noInit hfn witness ?_
 intro W base args ds gs before hval hW _ _
 have hW':=hW
 obtain ⟨p,q,hA,hV,rfl,hfz,hnd⟩:=hW
 have hV0:=hV
 rw [hvars] at hV
 obtain ⟨rfl,rfl⟩:=trodVars_none hV
 obtain ⟨vz,f1,f2⟩:=Z4E hτ (fun j t v e1 e2=>hval j t v (by simpa using e1) (by simpa using e2)) hA
 have e0:args=args.toList.toArray:=by simp
 have key:=(walk vz f1).topT f2
 rw [<-e0] at key
 refine key.mono fun e W' ⟨he,bel⟩=> ?_
 subst he
 have hfn':=hs ds (Z1D hA)
 refine ⟨_,rfl,ds,[],_,[],p,[],hW', ?_, ?_, ?_,bel.frame _,fun h=>by cases h⟩
 ·rw [JI,hfn',hr]
  exact trodAll_mk1 (shut_bool hb _)
 ·rw [JI,hfn']
  exact Z4F laid bel hread hA
 ·rw [JI,hfn',hvars]
  rfl
end Go.Tk
end
section
namespace Go.Tk
open IntKind (i64 u8 u32 u64 wrap)
theorem w8m (x:Int) (h:0<=x):u8.wrap (Int.tmod x 256)=u8.wrap x:=by
 rw [tm h]
 unfold wrap
 simp [IntKind.bits,IntKind.signed]
theorem ZfI {n k:Int} (h:0<=n):0<=Zq .i64 n k:=by
 unfold Zq
 rw [Ku _ (by exact Int.le_of_lt (Int.pow_pos (by decide)))]
 exact Int.ediv_nonneg h (by exact Int.le_of_lt (Int.pow_pos (by decide)))
theorem b8m {n k:Int} (h:0<=n):u8.wrap (Int.tmod (Zq .i64 n k) 256)=b8 n k:=w8m _ (ZfI h)
theorem Zis (n:Int) (ys:List Int) (L:Nat) (hn:0<=n) (hy:ys=Zu n) (hL:L=ys.length):
  evF G0 20 137 [.int .i64 n] ⟨0,[]⟩ (ZF 0 (.ret (.nslice ⟨0,0,0,0,0⟩ 1 L L)) 1 [(0,.ints .u8 ys)]):=by
 refine @Eq.mpr _ (let q1:=[wrap u8 (Int.tmod (Zq i64 n 8) 256),wrap u8 (Int.tmod (Zq i64 n 0) 256)];let q2:=wrap u8 (Int.tmod (Zq i64 n 24) 256)::wrap u8 (Int.tmod (Zq i64 n 16) 256)::q1;
 Z7 (decide (n<253)) (Z6 (1=L) (Z6 (L<=1) ([wrap u8 n]=ys/\True))) (Z7 (decide (n<65536)) (Z6 (3=L) (Z6 (L<=3) ((253:Int)::q1=ys/\True))) (Z7 (decide (n<4294967296)) (Z6 (5=L) (Z6 (L<=5) ((254:Int)::q2=ys/\True))) (Z6 (9=L) (Z6 (L<=9) ((255:Int)::wrap u8 (Int.tmod (Zq i64 n 56) 256)::wrap u8 (Int.tmod (Zq i64 n 48) 256)::wrap u8 (Int.tmod (Zq i64 n 40) 256)::wrap u8 (Int.tmod (Zq i64 n 32) 256)::q2=ys/\True)))))) (by kernel_rfl) ?_
 conv=>zeta
 try simp only [vcA]
 try simp only [vcB]
 try simp only [vcC]
 subst hy hL
 refine ⟨fun h1=> ?_,fun h1=>⟨fun h2=> ?_,fun h2=>⟨fun h3=> ?_,fun h3=> ?_⟩⟩⟩
 ·rw [ZcP h1];simp
 ·rw [ZcQ h1 h2];simp [b8m hn]
 ·rw [ZcR h1 h2 h3];simp [b8m hn]
 ·rw [ZcS h1 h2 h3];simp [b8m hn]
def Z9D (W:Int->List Int):ZN:=fun args h K=>match args with
 | [.int .i64 n]=>Z6 (0<=n) (K (.ret (.nslice ⟨h.next,0,0,0,0⟩ 1 (W n).length (W n).length)) ⟨h.next+1,(h.next,.ints .u8 (W n))::h.bs⟩)
 | _=>False
theorem Z6R (args:List AV) (h:Z8) (K:KO) (hl:Z9D Zu args h K):Ze PP 137 args h K:=by
 unfold Z9D at hl
 split at hl
 ·obtain ⟨hn,hK⟩:=Zb hl
  exact (Zs.evM Zm (Zis _ _ _ hn rfl rfl)).calls (fun E w rs he hr=>by
   cases hr with
   | cons v r vs rs h1 h2=>cases h2;exact .cons _ _ _ _ (h1.plain rfl) .nil) rfl ⟨JN,.ints _ _,trivial⟩ hK
 ·exact hl.elim
structure Bytes (xs:List Int):Prop where
 h:∀i:Nat,0<=xs.getD i 0/\xs.getD i 0<=255
def inZ:InS:=⟨Z5,0,0,Z5,Z5,Z5⟩
def ZmW:ZE:=⟨0,0,Z5,Z5,Z5,Z5,0,0⟩
end Go.Tk
end
