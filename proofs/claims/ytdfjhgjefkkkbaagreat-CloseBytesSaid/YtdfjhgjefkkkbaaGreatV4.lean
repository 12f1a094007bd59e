/- V: part 4 of an engine (a symbolic evaluator, proved against the model) and of the walk by it. -/
import Derived.Test.YtdfjhgjefkkkbaaGreatV3
import Derived.OpenShut
import Derived.WideShapes
import Derived.ChangeSlices
import Derived.WalkKit
import Derived.ProofKit
import Derived.Below
import Derived.Handed
import Derived.Carry
set_option linter.unusedVariables false
set_option linter.unusedSimpArgs false
set_option maxRecDepth 100000
set_option maxHeartbeats 0
section
namespace Go.Tk
open IntKind (i64 u8 u32 u64 wrap)
noncomputable def G9 (W:Zy→List Int→Zy) (F:Zy→List Int) (r0:Zy) (B:Int) (H1:List Int→List Int) (H2:List Int→List Int→List Int) (N:Nat):Ze:=(G7 W F B r0).withP 190 (ZdA H1 H2 N)
theorem Zf5 (B:Int) (hB:B<1000000000000) (N:Nat) (hN:N<100000000000):(G9 Zy.write Zy.fin YM B Z0x Z0y N).Ok:=Ze.withP_ok (Z9H B hB) (Z71 N hN)
end Go.Tk
end
section
namespace Go.Tk
open IntKind (i64 u8 u32 u64 wrap)
def Z4Q (c:Int) (b:List Int) (i:Int):St:=⟨16,[(1,.pview [.int .u8 c] 0),(2,pt 0),(3,.nilslice),(5,.int .i64 i)],⟨1,[(0,.flat [.arr .u8 64 b])]⟩,[]⟩
def Z2O (c:Int) (b:List Int) (i:Nat):List Int:=b.set (0+i) (XG .u8 (b.getD (0+i) 0) c)
theorem Zf6 (c:Int) (b:List Int) (i:Nat) (Z Z2:Prop) (hi:i≤64) (hb:b.length=64) (hZ:i=64→Z) (hZ2:i<64→Z2):
  Yf G0 20 292 0 0 (Z4Q c b i) (fun e s=>match e with|.normal=>ZR 0 [(0,0)] (Z4Q c (Z2O c b i) (i+1)) s Z2|.exit 0=>ZR 0 [(0,0)] (Z4Q c b i) s Z|_=>False):=by
 refine @Eq.mpr _ (let q1:=decide (0≤(↑i:Int)∧(↑i:Int)<64);
 let q2:=0+Int.toNat (↑i:Int);
 let q3:=[AV.int u8 c];
 let q4:=q3=q3;
 let q5:=(↑i:Int)+1;
 Z0 (decide ((↑i:Int)<64)) (Z0 q1 (Z0 (decide (q2<64)) (Z0 q1 (Z0 (decide (u8=u8∧q2<64∧q2<List.length b)) (q4∧Z0 (decide (wrap i64 q5=q5)) (List.set b q2 (XG u8 (List.getD b q2 0) c)=Z2O c b i∧Z2) False) False) False) False) False) (q4∧Z0 (decide ((↑i:Int)=(↑i:Int))) (b=b∧Z) False)) (by kernel_rfl) ?_
 conv=>zeta
 have e1:i64.wrap ((i:Int)+1)=(i:Int)+1:=w64 (by omega)
 refine ifD (fun h=> ?_) (fun h=> ?_)
 ·refine nd (by omega) (nd (by omega) (nd (by omega) (nd ⟨rfl,by omega,by omega⟩ ⟨rfl,nd e1 ⟨?_,hZ2 (by omega)⟩⟩)))
  unfold Z2O
  rw [Int.toNat_natCast]
 ·exact ⟨rfl,nd rfl ⟨rfl,hZ (by omega)⟩⟩
def Z1J (c:Int) (b:List Int):Nat→List Int
 | 0=>b
 | i+1=>Z2O c (Z1J c b i) i
theorem Z8d (c:Int) (b:List Int):Z1J c b 0=b:=rfl
theorem Z2P (c:Int) (b:List Int) (i:Nat):Z1J c b (i+1)=Z2O c (Z1J c b i) i:=rfl
theorem Z1K (c:Int) (b:List Int):∀i,(Z1J c b i).length=b.length
 | 0=>rfl
 | i+1=>by rw [Z2P];unfold Z2O;rw [List.length_set];exact Z1K c b i
@[irreducible] def UT (c:Int) (b:List Int):List Int:=Z1J c b 64
theorem Z4R (c:Int) (b:List Int) (h:b.length=64):(UT c b).length=64:=by unfold UT;rw [Z1K,h]
attribute [irreducible] Z1J
def Zd8 (c:Int) (b b':List Int) (C:Prop):Nat→St→KE→Prop:=fun k s X=>match Nat.beq k 0 with
 | true=>ZR 0 [(0,0)] (Z4Q c b 0) s (C∧X (.exit 0) (Z4Q c b' 64))
 | false=>False
noncomputable def GX0 (c:Int) (b b':List Int) (C:Prop):Ze:=G0.withL 292 0 (Zd8 c b b' C)
theorem ZdC (c:Int) (b b':List Int) (C:Prop) (hC:C→b.length=64∧b'=UT c b):(GX0 c b b' C).Ok:=by
 refine Ze.withL_ok Zu (by kernel_rfl) ?_
 intro k s X hl
 unfold Zd8 at hl
 split at hl
 ·rename_i hk
  have:=Nat.eq_of_beq_eq_true hk
  subst this
  obtain ⟨⟨hc,hX⟩,hw⟩:=Y3 hl
  obtain ⟨hb,hb'⟩:=hC hc
  refine ⟨{ t:Nat//t≤64},fun t=>64-t.1,fun t=>Z4Q c (Z1J c b t.1) t.1,⟨0,by omega⟩,20,by show VL 0 s (Z4Q c (Z1J c b 0) ((0:Nat):Int));rw [Z8d];exact hw, ?_⟩
  rintro ⟨t,ht⟩
  refine ⟨_,Zf6 c (Z1J c b t) t (t=64) (t<64) ht (by rw [Z1K];exact hb) id id, ?_⟩
  intro e s' hY
  split at hY
  ·obtain ⟨h64,hw'⟩:=Y3 hY
   refine ⟨⟨t+1,by omega⟩,by show 64-(t+1)<64-t;omega, ?_⟩
   show VL 0 s' (Z4Q c (Z1J c b (t+1)) ((t+1:Nat):Int))
   rw [Z2P]
   exact hw'
  ·obtain ⟨h64,hw'⟩:=Y3 hY
   subst h64
   refine ⟨_,hw', ?_⟩
   rw [hb'] at hX
   unfold UT at hX
   exact hX
  ·exact hY.elim
 ·exact hl.elim
theorem Zh4 (c:Int) (b b':List Int) (C:Prop) (hC:C):
  evF (GX0 c b b' C) 20 292 [.agg [.arr .u8 64 b],.pview [.int .u8 c] 0] ⟨0,[]⟩ (Yy 0 [(0,0)] (.nslice ⟨0,0,0,0,0⟩ 1 64 64) 1 [(0,.flat [.arr .u8 64 b'])]):=by
 refine @Eq.mpr _ (let q1:=[AV.int u8 c];
 q1=q1∧b=b∧C∧b'=b'∧True) (by kernel_rfl) ?_
 conv=>zeta
 exact ⟨rfl,rfl,hC,rfl,trivial⟩
def byF (X:Int→List Int→List Int):ZQ:=fun args h K=>ZL none h true 20 args fun a=>match a with
 | [.agg [.arr .u8 64 b],.pview [.int .u8 c] 0]=>Zo (b.length=64) (K (.ret (.nslice ⟨h.next+0,0,0,0,0⟩ 1 64 64)) ⟨h.next+1,(h.next+0,.flat [.arr .u8 64 (X c b)])::h.bs⟩)
 | _=>False
theorem ZdD (args:List AV) (h:Z7) (K:KO) (hl:byF UT args h K):Zg PP 292 args h K:=by
 obtain ⟨a₀,ha,hr⟩:=X3 (fun x hx=>by cases hx) _ _ _ _ hl
 split at ha
 ·rename_i b c
  obtain ⟨hb,hK⟩:=Z9 ha
  exact (ZD.ev (ZdC c b (UT c b) True (fun _=>⟨hb,rfl⟩)) (Zh4 c b _ True trivial)).calls (fun E w rs he hrr=>hr E w rs he hrr) rfl ⟨Nat.one_pos,.flat _ rfl,trivial⟩ hK
 ·exact ha.elim
def QT (key:List Int):List Int:=spl (List.replicate 64 0) 0 (List.take 64 (List.take 32 key))
theorem Z9O (key:List Int):(QT key).length=64:=by
 unfold QT
 rw [UE]
 ·rfl
 ·simp;omega
theorem Zh5 (key l:List Int) (hl:l=QT key) (hk:key.length=32):
  evF G0 20 273 [.vints .u8 key 32] ⟨0,[]⟩ (Yy 0 [] (.agg [.arr .u8 64 l]) 0 []):=by
 refine @Eq.mpr _ (spl [(0:Int),(0:Int),(0:Int),(0:Int),(0:Int),(0:Int),(0:Int),(0:Int),(0:Int),(0:Int),(0:Int),(0:Int),(0:Int),(0:Int),(0:Int),(0:Int),(0:Int),(0:Int),(0:Int),(0:Int),(0:Int),(0:Int),(0:Int),(0:Int),(0:Int),(0:Int),(0:Int),(0:Int),(0:Int),(0:Int),(0:Int),(0:Int),(0:Int),(0:Int),(0:Int),(0:Int),(0:Int),(0:Int),(0:Int),(0:Int),(0:Int),(0:Int),(0:Int),(0:Int),(0:Int),(0:Int),(0:Int),(0:Int),(0:Int),(0:Int),(0:Int),(0:Int),(0:Int),(0:Int),(0:Int),(0:Int),(0:Int),(0:Int),(0:Int),(0:Int),(0:Int),(0:Int),(0:Int),(0:Int)] (0:Nat) (List.take (64:Nat) (List.take (32:Nat) key))=l∧True) (by kernel_rfl) ?_
 exact ⟨hl▸rfl,trivial⟩
def ofS (KB:List Int→List Int):ZZ:=fun args h K=>ZL none h true 20 args fun a=>match a with
 | [.vints .u8 key len]=>match Nat.beq len 32 with
  | true=>Zo (key.length=32) (K (.agg [.arr .u8 64 (KB key)]))
  | false=>False
 | _=>False
theorem ZdE (args:List AV) (h:Z7) (K:AV→Prop) (hl:ofS QT args h K):Zg PP 273 args h fun o h'=>∃v,o=.ret v∧h'=h∧K v:=by
 refine Z4M hl fun a ha=> ?_
 split at ha
 ·rename_i key len
  split at ha
  ·rename_i hb
   have:=Nat.eq_of_beq_eq_true hb
   subst this
   obtain ⟨hk,hK⟩:=Z9 ha
   exact ⟨_,ZD.ev Zu (Zh5 key _ rfl hk),fun _=>rfl,hK⟩
  ·exact ha.elim
 ·exact ha.elim
noncomputable def G10 (W:Zy→List Int→Zy) (F:Zy→List Int) (r0:Zy) (B:Int) (H1:List Int→List Int) (H2:List Int→List Int→List Int) (N:Nat) (X:Int→List Int→List Int) (KB:List Int→List Int):Ze:=((G9 W F r0 B H1 H2 N).withF 292 (byF X)).withP 273 (ofS KB)
theorem ZdF (B:Int) (hB:B<1000000000000) (N:Nat) (hN:N<100000000000):(G10 Zy.write Zy.fin YM B Z0x Z0y N UT QT).Ok:=Ze.withP_ok (Ze.withF_ok (Zf5 B hB N hN) ZdD) ZdE
@[irreducible] def Z0g (key msg:List Int):List Int:=Z0y (UT 92 (QT key)) (((YM.write (UT 54 (QT key))).write msg).fin)
theorem Z8e (k m:List Int):(Z0g k m).length=32:=by unfold Z0g;exact Z9I _ _
theorem Zf7 (W:Zy→List Int→Zy) (F:Zy→List Int) (r0:Zy) (B:Int) (H1:List Int→List Int) (H2:List Int→List Int→List Int) (N:Nat) (X:Int→List Int→List Int) (KB:List Int→List Int) (key msg hh:List Int) (hB:B=900000000000) (hr0:r0=YM) (hW:W=Zy.write) (hF:F=Zy.fin) (hH:H2=Z0y) (hX:X=UT) (hKB:KB=QT) (hN:64≤N) (hk:key.length=32) (hm:msg.length=32) (hh':hh=Z0g key msg):
  evF (G10 W F r0 B H1 H2 N X KB) 20 167 [.vints .u8 key 32,.vrows 1 1 (fun _=>[.vints .u8 msg 32]) 1] ⟨0,[]⟩ (Yy 0 [] (.agg [.arr .u8 32 hh]) 0 []):=by
 refine @Eq.mpr _ (let q1:=decide (List.length (KB key)=64);
 let q2:=List.length (X 54 (KB key));
 let q3:=r0.came;
 let q4:=W (Zy.mk r0.st r0.part q3) (X 54 (KB key));
 let q5:=q4.st;
 let q6:=q4.part;
 let q7:=q4.came;
 let q8:=W (Zy.mk q5 q6 q7) msg;
 let q9:=q8.st;
 let q10:=q8.part;
 let q11:=q8.came;
 let q12:=List.length (X 92 (KB key));
 let q13:=F (Zy.mk q9 q10 q11);
 let q14:=List.length q13;
 Z0 (decide (List.length key=32)) (KB key=KB key∧Z0 q1 (Z0 (decide (q2=64)) (Z0 (decide (64=q2)) (Z0 (decide (List.length r0.st=8∧List.length r0.part=64∧0≤q3∧q3+ ↑q2≤B)) (Z0 (decide (32=List.length msg)) (Z0 (decide (List.length q5=8∧List.length q6=64∧0≤q7∧q7+ ↑(List.length msg)≤B)) (Z0 (decide (List.length q9=8∧List.length q10=64∧0≤q11∧q11≤B)) (KB key=KB key∧Z0 q1 (Z0 (decide (q12=64)) (Z0 (decide (q14=32)) (Z0 (decide (64=q12)) (Z0 (decide (32=q14)) (Z0 (decide (q12≤N∧q14≤N)) (H2 (X 92 (KB key)) q13=hh∧True) False) False) False) False) False) False) False) False) False) False) False) False) False) False) (by kernel_rfl) ?_
 conv=>zeta
 subst hB hr0 hW hF hH hX hKB
 have hkb:=Z9O key
 have x1:=Z4R 54 _ hkb
 have x2:=Z4R 92 _ hkb
 have i0:YM.came=0:=rfl
 have ok1:=WT YM (UT 54 (QT key)) WU
 have c1:=Xy YM (UT 54 (QT key)) WU
 have ok2:=WT _ msg ok1
 have c2:=Xy _ msg ok1
 rw [x1] at c1
 rw [hm] at c2
 have hf:=Z3N ((YM.write (UT 54 (QT key))).write msg)
 have b1:(YM.write (UT 54 (QT key))).came+(msg.length:Int)≤900000000000:=by rw [hm];omega
 have b2:((YM.write (UT 54 (QT key))).write msg).came≤900000000000:=by omega
 refine nd hk ⟨rfl,nd hkb (nd x1 (nd x1.symm (nd ⟨rfl,rfl,by decide,by rw [x1];decide⟩ (nd hm.symm (nd ⟨ok1.st,ok1.part,ok1.came,b1⟩ (nd ⟨ok2.st,ok2.part,ok2.came,b2⟩ ⟨rfl,nd hkb (nd x2 (nd hf (nd x2.symm (nd hf.symm (nd ⟨by omega, ?_⟩ ⟨?_,trivial⟩)))))⟩))))))⟩
 ·exact Nat.le_trans (Nat.le_of_eq hf) (by omega)
 ·rw [hh'];unfold Z0g;rfl
def Zf8 (T:List Int→List Int→List Int):ZZ:=fun args h K=>ZL none h true 20 args fun a=>match a with
 | [.vints .u8 key len,.vrows 1 n f m]=>match Nat.beq len 32&&Nat.beq n 1&&Nat.beq m 1 with
  | true=>US (f 0) fun msg=>Zo (key.length=32∧msg.length=32) (K (.agg [.arr .u8 32 (T key msg)]))
  | false=>False
 | _=>False
theorem Zbz (args:List AV) (h:Z7) (K:AV→Prop) (hl:Zf8 Z0g args h K):Zg PP 167 args h fun o h'=>∃v,o=.ret v∧h'=h∧K v:=by
 obtain ⟨a₀,ha,hr⟩:=X3 (fun x hx=>by cases hx) _ _ _ _ hl
 split at ha
 ·rename_i key len n f m
  split at ha
  ·rename_i hb
   simp only [Bool.and_eq_true] at hb
   obtain ⟨⟨e1,e2⟩,e3⟩:=hb
   have e1:=Nat.eq_of_beq_eq_true e1
   have e2:=Nat.eq_of_beq_eq_true e2
   have e3:=Nat.eq_of_beq_eq_true e3
   subst e1 e2 e3
   obtain ⟨msg,hf,hK⟩:=WV ha
   obtain ⟨⟨hk,hm⟩,hK⟩:=Z9 hK
   refine (ZD.ev (ZdF 900000000000 (by decide) 64 (by decide)) (Zf7 _ _ _ _ _ _ 64 _ _ key msg _ rfl rfl rfl rfl rfl rfl rfl (by decide) hk hm rfl)).calls (v':=.agg [.arr .u8 32 (Z0g key msg)]) (fun E w rs he hrr=> ?_) rfl trivial ⟨_,rfl,rfl,hK⟩
   have:=hr E w rs he hrr
   cases this with
   | cons v c vs cs h1 h2=>cases h2 with
    | cons v2 c2 vs2 cs2 h3 h4=>
     cases h4
     refine .cons _ _ _ _ h1 (.cons _ _ _ _ (h3.rows (fun i hi=> ?_)) .nil)
     match i,hi with
     | 0,_=>rw [hf,hm]
  ·exact ha.elim
 ·exact ha.elim
end Go.Tk
end
section
namespace Go.Tk
open IntKind (i64 u8 u32 u64 wrap)
structure InS where
 name:List Int
 index:Int
 way:Int
 tag:List Int
 also:List Int
 secret:List Int
structure ZM where
 kind:Int
 amount:Int
 owner:List Int
 other:List Int
 point:List Int
 hash:List Int
 delay:Int
 expiry:Int
def InS.c (x:InS):List AV:=[.arr .u8 32 x.name,.int .i64 x.index,.int .i64 x.way,.arr .u8 32 x.tag,.arr .u8 32 x.also,.arr .u8 32 x.secret]
def ZM.c (o:ZM):List AV:=[.int .i64 o.kind,.int .i64 o.amount,.arr .u8 32 o.owner,.arr .u8 32 o.other,.arr .u8 32 o.point,.arr .u8 32 o.hash,.int .i64 o.delay,.int .i64 o.expiry]
structure InS.Ok (x:InS):Prop where
 name:x.name.length=32
 tag:x.tag.length=32
 also:x.also.length=32
 secret:x.secret.length=32
structure ZM.Ok (o:ZM):Prop where
 owner:o.owner.length=32
 other:o.other.length=32
 point:o.point.length=32
 hash:o.hash.length=32
def Z5:List Int:=List.replicate 32 0
theorem Z72 (b:Bool) (x y:Prop):Z0 b x y=((b=true→x)∧(b=false→y)):=by
 cases b<;>simp [Z0]
@[irreducible] def Ya (x:InS):Bool:=
 (decide (1≤x.way∧x.way≤6)&&(decide (x.way≠4)||x.tag==Z5)&&(decide (x.way=1)||x.also==Z5)&&(decide (x.way=4)||decide (x.way=5)||x.secret==Z5))&&decide (0≤x.index∧x.index≤23)
theorem ZbA (x:InS) (b:Bool) (hx:x.Ok) (hb:b=Ya x):
  evF G0 20 182 [.agg x.c] ⟨0,[]⟩ (Yy 0 [] (.bool b) 0 []):=by
 refine @Eq.mpr _ (let q1:=x.way;
 let q2:=x.name;
 let q3:=decide (List.length q2=32∧List.length q2=32);
 let q4:=decide (List.length x.secret=32∧(32:Nat)=32);
 let q5:=q2==q2;
 let q6:=x.index;
 let q7:=q6==q6;
 let q8:=q1==q1;
 let q9:=x.secret==Z5;
 let q10:=Z0 (decide (false=b)) True False;
 let q11:=Z0 (decide (0≤q6)) (Z0 (decide (decide (q6≤23)=b)) True False) q10;
 let q12:=decide (List.length x.also=32∧(32:Nat)=32);
 let q13:=x.also==Z5;
 let q14:=Z0 q3 (Z0 q12 (Z0 q4 (Z0 (q5&&(q7&&(q8&&(true&&(q13&&q9))))) q11 q10) False) False) False;
 let q15:=q13&&true;
 Z0 (decide (q1=q1)) (Z0 (decide (q1=1)) (Z0 q3 (Z0 q4 (Z0 (q5&&(q7&&(q8&&(true&&(true&&q9))))) q11 q10) False) False) (Z0 (decide (q1=2)) q14 (Z0 (decide (q1=3)) q14 (Z0 (decide (q1=4)) (Z0 q3 (Z0 (decide (List.length x.tag=32∧(32:Nat)=32)) (Z0 q12 (Z0 (q5&&(q7&&(q8&&(x.tag==Z5&&q15)))) q11 q10) False) False) False) (Z0 (decide (q1=5)) (Z0 q3 (Z0 q12 (Z0 (q5&&(q7&&(q8&&(true&&q15)))) q11 q10) False) False) (Z0 (decide (q1=6)) q14 q10)))))) False) (by kernel_rfl) ?_
 conv=>zeta
 obtain ⟨h1,h2,h3,h4⟩:=hx
 subst hb
 have hz:[(0:Int),0,0,0,0,0,0,0,0,0,0,0,0,0,0,0,0,0,0,0,0,0,0,0,0,0,0,0,0,0,0,0]=Z5:=rfl
 simp only [hz,Z72]
 unfold Ya
 generalize (x.secret==Z5)=bs
 generalize (x.also==Z5)=ba
 generalize (x.tag==Z5)=bt
 by_cases w1:x.way=1
 ·cases bs<;>simp [w1,h1,h2,h3,h4]<;>omega
 by_cases w2:x.way=2
 ·cases bs<;>cases ba<;>simp [w2,h1,h2,h3,h4]<;>omega
 by_cases w3:x.way=3
 ·cases bs<;>cases ba<;>simp [w3,h1,h2,h3,h4]<;>omega
 by_cases w4:x.way=4
 ·cases bt<;>cases ba<;>simp [w4,h1,h2,h3,h4]<;>omega
 by_cases w5:x.way=5
 ·cases ba<;>simp [w5,h1,h2,h3,h4]<;>omega
 by_cases w6:x.way=6
 ·cases bs<;>cases ba<;>simp [w6,h1,h2,h3,h4]<;>omega
 simp [w1,w2,w3,w4,w5,w6]
 omega
def inS (R:InS→Bool):ZZ:=fun args _ K=>match args with
 | [.agg [.arr .u8 32 n,.int .i64 i,.int .i64 w,.arr .u8 32 t,.arr .u8 32 a,.arr .u8 32 s]]=>Zo (n.length=32∧t.length=32∧a.length=32∧s.length=32) (K (.bool (R ⟨n,i,w,t,a,s⟩)))
 | _=>False
theorem Za.aggPlain {E E':Env} {cs:List AV} {r:Value} (h:Za E (.agg cs) r) (hp:plainC cs=true):Za E' (.agg cs) r:=by
 cases h with
 | agg cs vs hc=>exact .agg _ _ (hc.plain hp)
theorem ZdG (args:List AV) (h:Z7) (K:AV→Prop) (hl:inS Ya args h K):Zg PP 182 args h fun o h'=>∃v,o=.ret v∧h'=h∧K v:=by
 unfold inS at hl
 split at hl
 ·rename_i n i w t a s
  obtain ⟨⟨h1,h2,h3,h4⟩,hK⟩:=Z9 hl
  refine (ZD.ev Zu (ZbA ⟨n,i,w,t,a,s⟩ _ ⟨h1,h2,h3,h4⟩ rfl)).calls (v':=.bool (Ya ⟨n,i,w,t,a,s⟩)) (fun E w rs he hr=> ?_) rfl trivial ⟨_,rfl,rfl,hK⟩
  cases hr with
  | cons v r1 vs rs1 h1 hr=>
   cases hr
   exact .cons _ _ _ _ (h1.aggPlain rfl) .nil
 ·exact hl.elim
@[irreducible] def Yb (o:ZM):Bool:=
 decide (1≤o.kind∧o.kind≤5)&&(decide (o.kind=2)||decide (o.kind=4)||decide (o.kind=5)||o.other==Z5)&&(decide (3≤o.kind)||o.point==Z5)&&(decide (4≤o.kind)||o.hash==Z5)&&
 (decide (3≤o.kind)||decide (o.delay=0))&&(decide (4≤o.kind)||decide (o.expiry=0))&&
 (decide (o.kind≠2)||decide (WC o.owner o.other≤0))&&decide (0<o.amount∧o.amount≤1125899906842624)&&decide (0≤o.delay∧o.delay≤2147483647)&&decide (0≤o.expiry∧o.expiry≤2147483647)
theorem Z9P (o:ZM) (b:Bool) (ho:o.Ok) (hb:b=Yb o):
  evF G0 20 49 [.agg o.c] ⟨0,[]⟩ (Yy 0 [] (.bool b) 0 []):=by
 refine @Eq.mpr _ (let q1:=o.kind;
 let q2:=q1 !=2;
 let q3:=o.other;
 let q4:=decide (List.length q3=32∧(32:Nat)=32);
 let q5:=decide (List.length o.point=32∧(32:Nat)=32);
 let q6:=decide (List.length o.hash=32∧(32:Nat)=32);
 let q7:=q1==q1;
 let q8:=o.amount;
 let q9:=q8==q8;
 let q10:=q3==Z5;
 let q11:=o.hash==Z5;
 let q12:=o.delay;
 let q13:=o.expiry;
 let q14:=q13==0;
 let q15:=o.point==Z5&&(q11&&(q12==0&&q14));
 let q16:=q7&&(q9&&(true&&(q10&&q15)));
 let q17:=decide (q8>0);
 let q18:=Z0 (decide (false=b)) True False;
 let q19:=Z0 (decide (0≤q12)) (Z0 (decide (q12≤2147483647)) (Z0 (decide (0≤q13)) (Z0 (decide (decide (q13≤2147483647)=b)) True False) q18) q18) q18;
 let q20:=decide (u8=u8∧List.length o.owner=32);
 let q21:=decide (u8=u8∧List.length q3=32);
 let q22:=decide (WC o.owner q3≤0);
 let q23:=q7&&(q9&&(true&&(true&&q15)));
 let q24:=q7&&(q9&&(true&&(q10&&(true&&(q11&&(true&&q14))))));
 let q25:=q7&&(q9&&true);
 Z0 (decide (q1=q1))
 (Z0 (decide (q1=1)) (Z0 q2 (Z0 q4 (Z0 q5 (Z0 q6 (Z0 q16 (Z0 q17 (Z0 (decide (q8<0)) q18 (Z0 (decide (q8>1125899906842624)) q18 q19)) q18) q18) False) False) False) (Z0 q20 (Z0 q21 (Z0 q22 (Z0 q4 (Z0 q5 (Z0 q6 (Z0 q16 (Z0 q17 (Z0 (decide (q8<0)) q18 (Z0 (decide (q8>1125899906842624)) q18 q19)) q18) q18) False) False) False) q18) False) False))
 (Z0 (decide (q1=2)) (Z0 q2 (Z0 q5 (Z0 q6 (Z0 q23 (Z0 q17 (Z0 (decide (q8<0)) q18 (Z0 (decide (q8>1125899906842624)) q18 q19)) q18) q18) False) False) (Z0 q20 (Z0 q21 (Z0 q22 (Z0 q5 (Z0 q6 (Z0 q23 (Z0 q17 (Z0 (decide (q8<0)) q18 (Z0 (decide (q8>1125899906842624)) q18 q19)) q18) q18) False) False) q18) False) False))
 (Z0 (decide (q1=3)) (Z0 q2 (Z0 q4 (Z0 q6 (Z0 q24 (Z0 q17 (Z0 (decide (q8<0)) q18 (Z0 (decide (q8>1125899906842624)) q18 q19)) q18) q18) False) False) (Z0 q20 (Z0 q21 (Z0 q22 (Z0 q4 (Z0 q6 (Z0 q24 (Z0 q17 (Z0 (decide (q8<0)) q18 (Z0 (decide (q8>1125899906842624)) q18 q19)) q18) q18) False) False) q18) False) False))
 (Z0 (decide (q1=4)) (Z0 q2 (Z0 q25 (Z0 q17 (Z0 (decide (q8<0)) q18 (Z0 (decide (q8>1125899906842624)) q18 q19)) q18) q18) (Z0 q20 (Z0 q21 (Z0 q22 (Z0 q25 (Z0 q17 (Z0 (decide (q8<0)) q18 (Z0 (decide (q8>1125899906842624)) q18 q19)) q18) q18) q18) False) False)) (Z0 (decide (q1=5)) (Z0 q2 (Z0 q25 (Z0 q17 (Z0 (decide (q8<0)) q18 (Z0 (decide (q8>1125899906842624)) q18 q19)) q18) q18) (Z0 q20 (Z0 q21 (Z0 q22 (Z0 q25 (Z0 q17 (Z0 (decide (q8<0)) q18 (Z0 (decide (q8>1125899906842624)) q18 q19)) q18) q18) q18) False) False)) (Z0 q2 q18 (Z0 q20 (Z0 q21 q18 False) False)))))))
 False) (by kernel_rfl) ?_
 conv=>zeta
 obtain ⟨h1,h2,h3,h4⟩:=ho
 subst hb
 have hz:[(0:Int),0,0,0,0,0,0,0,0,0,0,0,0,0,0,0,0,0,0,0,0,0,0,0,0,0,0,0,0,0,0,0]=Z5:=rfl
 have hg:List.getD [o.amount] 0 0=o.amount:=rfl
 simp only [hz,hg,Z72]
 unfold Yb
 generalize (o.other==Z5)=bo
 generalize (o.point==Z5)=bp
 generalize (o.hash==Z5)=bh
 generalize WC o.owner o.other=cc
 by_cases k1:o.kind=1
 ·cases bo<;>cases bp<;>cases bh<;>simp [k1,h1,h2,h3,h4]<;>first|omega|grind
 by_cases k2:o.kind=2
 ·cases bp<;>cases bh<;>simp [k2,h1,h2,h3,h4]<;>first|omega|grind
 by_cases k3:o.kind=3
 ·cases bo<;>cases bh<;>simp [k3,h1,h2,h3,h4]<;>first|omega|grind
 by_cases k4:o.kind=4
 ·simp [k4,h1,h2,h3,h4]<;>first|omega|grind
 by_cases k5:o.kind=5
 ·simp [k5,h1,h2,h3,h4]<;>first|omega|grind
 simp [k1,k2,k3,k4,k5]
 omega
def ZdH (R:ZM→Bool):ZZ:=fun args _ K=>match args with
 | [.agg [.int .i64 kd,.int .i64 am,.arr .u8 32 ow,.arr .u8 32 ot,.arr .u8 32 po,.arr .u8 32 ha,.int .i64 de,.int .i64 ex]]=>Zo (ow.length=32∧ot.length=32∧po.length=32∧ha.length=32) (K (.bool (R ⟨kd,am,ow,ot,po,ha,de,ex⟩)))
 | _=>False
theorem ZbB (args:List AV) (h:Z7) (K:AV→Prop) (hl:ZdH Yb args h K):Zg PP 49 args h fun o h'=>∃v,o=.ret v∧h'=h∧K v:=by
 unfold ZdH at hl
 split at hl
 ·rename_i kd am ow ot po ha de ex
  obtain ⟨⟨h1,h2,h3,h4⟩,hK⟩:=Z9 hl
  refine (ZD.ev Zu (Z9P ⟨kd,am,ow,ot,po,ha,de,ex⟩ _ ⟨h1,h2,h3,h4⟩ rfl)).calls (v':=.bool (Yb ⟨kd,am,ow,ot,po,ha,de,ex⟩)) (fun E w rs he hr=> ?_) rfl trivial ⟨_,rfl,rfl,hK⟩
  cases hr with
  | cons v r1 vs rs1 h1 hr=>
   cases hr
   exact .cons _ _ _ _ (h1.aggPlain rfl) .nil
 ·exact hl.elim
end Go.Tk
end
section
namespace Go.Tk
open IntKind (i64 u8 u32 u64 wrap)
def X9:List Nat→Nat→Option Nat
 | [],_=>none
 | x::_,0=>some x
 | _::r,n+1=>X9 r n
def Xp:List Nat→Nat→Option Nat
 | [],_=>none
 | y::r,x=>match Nat.beq y x with
  | true=>some 0
  | false=>match Xp r x with|some i=>some (i+1)|none=>none
theorem WW:∀{σ:List Nat} {x i:Nat},Xp σ x=some i→X9 σ i=some x
 | [],_,_,h=>by simp [Xp] at h
 | y::r,x,i,h=>by
  unfold Xp at h
  split at h
  ·rename_i hb
   have:=Nat.eq_of_beq_eq_true hb
   cases h
   simp [X9,this]
  ·split at h
   ·rename_i j hj
    cases h
    exact (WW (σ:=r) hj:X9 r _=some x)
   ·cases h
theorem QU:∀{σ:List Nat} {x:Nat},Xp σ x=none→x∉σ
 | [],_,_=>by simp
 | y::r,x,h=>by
  unfold Xp at h
  split at h
  ·cases h
  ·rename_i hb
   split at h
   ·cases h
   ·rename_i hj
    intro hm
    rcases List.mem_cons.1 hm with rfl|hm
    ·simp [Nat.beq_refl] at hb
    ·exact QU hj hm
theorem Xq:∀{σ:List Nat} {i x:Nat},X9 σ i=some x→x∈σ
 | [],_,_,h=>by simp [X9] at h
 | y::r,0,x,h=>by simp [X9] at h;simp [h]
 | y::r,i+1,x,h=>List.mem_cons_of_mem _ (Xq (σ:=r) h)
theorem Z73:∀{σ:List Nat} {i x:Nat},X9 σ i=some x→i<σ.length
 | [],_,_,h=>by simp [X9] at h
 | y::r,0,x,h=>by simp
 | y::r,i+1,x,h=>by have:=Z73 (σ:=r) h;simp;omega
theorem Z74:∀{σ:List Nat} {i:Nat},σ.length≤i→X9 σ i=none
 | [],_,_=>by simp [X9]
 | y::r,0,h=>by simp at h
 | y::r,i+1,h=>by simp at h;exact Z74 (σ:=r) h
def Env.borL (E:Env) (σ:List Nat) (w:World) (t:Bool):Env:=
 ⟨fun y=>match t with|true=>(match X9 σ y with|some x=>E.blk x|none=>none)|false=>none,fun a c=>w.cell? a=some c∧∀x,x∈σ→∀N,E.blk x=some (a.block,N)→False⟩
mutual
def vwV (σ:List Nat) (h:Z7) (t:Bool):Nat→AV→(AV→Prop)→Prop
 | 0,_,_=>False
 | d+1,v,K=>match v with
  | .top=>K .top
  | .bool b=>K (.bool b)
  | .int k n=>K (.int k n)
  | .str s=>K (.str s)
  | .ptr none=>K (.ptr none)
  | .eslice=>K .eslice
  | .fslice=>K .fslice
  | .nilslice=>K .nilslice
  | .map none=>K (.map none)
  | .nilFunc=>K .nilFunc
  | .nilIface=>K .nilIface
  | .pview cs inn=>K (.pview cs inn)
  | .vints k xs len=>K (.vints k xs len)
  | .vrows esz n f len=>K (.vrows esz n f len)
  | .ptr (some p)=>match Xp σ p.blk with
   | some i=>match t with|false=>False|true=>K (.ptr (some ⟨i,p.row,p.sz,p.off,p.inn⟩))
   | none=>match h.get p.blk with
    | some (.flat cs)=>match p.row,Yu p.off cs with
     | 0,some rest=>vwC σ h false d rest fun rest'=>K (.pview rest' p.inn)
     | _,_=>False
    | some (.rows sz n f)=>match Nat.beq sz p.sz with
     | true=>Zo (p.row<n) (match Yu p.off (f p.row) with
      | some rest=>vwC σ h false d rest fun rest'=>K (.pview rest' p.inn)
      | none=>False)
     | false=>False
    | _=>False
  | .nslice p esz len lo=>match Xp σ p.blk with
   | some i=>match t with|false=>False|true=>K (.nslice ⟨i,p.row,p.sz,p.off,p.inn⟩ esz len lo)
   | none=>match h.get p.blk with
    | some (.ints k xs)=>match Nat.beq esz 1 with
     | true=>Zo (p.tot+len≤xs.length) (K (.vints k ((Yo p.tot xs).take len) len))
     | false=>False
    | some (.rows sz n f)=>match Nat.beq sz esz&&Nat.beq p.off 0&&Nat.beq p.inn 0&&(Nat.beq p.sz esz||Nat.beq p.row 0) with
     | true=>Zo (p.row+len≤n) ((∀i,i<len→plainC (Yp p.row f i)=true)∧K (.vrows esz len (Yp p.row f) len))
     | false=>False
    | some (.flat cs)=>match p.row,Yu p.off cs with
     | 0,some rest=>match Z6Y rest&&Nat.beq esz 1 with
      | true=>match rest with
       | .arr k n xs::_=>match Nat.beq esz 1,Nat.beq p.inn 0&&Nat.beq len n with
        | true,true=>Zo (xs.length=n) (K (.vints k xs len))
        | true,false=>Zo (xs.length=n∧p.inn+len≤n) (K (.vints k ((Yo p.inn xs).take len) len))
        | false,_=>False
       | _=>False
      | false=>match Nat.beq p.inn 0,takeC (len*esz) rest with
       | true,some part=>vwC σ h false d part fun part'=>match UD part' 0 esz len with
        | true=>K (.vrows esz len (ZO part' 0 esz) len)
        | false=>False
       | _,_=>False
     | _,_=>False
    | _=>False
  | .func (.func g) fs cs=>vwL σ h t d fs fun fs'=>vwL σ h t d cs fun cs'=>K (.func (.func g) fs' cs')
  | .iface T u=>vwV σ h t d u fun u'=>K (.iface T u')
  | .agg cs=>vwC σ h t d cs fun cs'=>K (.agg cs')
  | .tuple vs=>vwL σ h t d vs fun vs'=>K (.tuple vs')
  | _=>False
def vwC (σ:List Nat) (h:Z7) (t:Bool):Nat→List AV→(List AV→Prop)→Prop
 | 0,_,_=>False
 | d+1,l,K=>match l with
  | []=>K []
  | .arr k n xs::r=>vwC σ h t d r fun r'=>K (.arr k n xs::r')
  | v::r=>vwV σ h t d v fun v'=>match v'.isCell with
   | true=>vwC σ h t d r fun r'=>K (v'::r')
   | false=>False
def vwL (σ:List Nat) (h:Z7) (t:Bool):Nat→List AV→(List AV→Prop)→Prop
 | 0,_,_=>False
 | d+1,l,K=>match l with
  | []=>K []
  | v::r=>vwV σ h t d v fun v'=>vwL σ h t d r fun r'=>K (v'::r')
end
theorem Z1L {E:Env} {σ:List Nat} {w:World} {t:Bool} {h:Z7} (he:Emb E h w) (hm:∀x,x∈σ→∃B,h.get x=some B):E.views.le (E.borL σ w t).views:=
 ⟨fun _ _ hq=>by simp [Env.views] at hq,fun a c hi=>⟨he.imm a c hi,fun x hx N hb=>let ⟨B,hB⟩:=hm x hx;he.sep a c x B N hi hB hb⟩⟩
theorem Z1M {E:Env} {σ:List Nat} {w:World} {t:Bool} {h:Z7} (he:Emb E h w) (hm:∀x,x∈σ→∃B,h.get x=some B) {a:Addr} {c:Value} (hi:E.imm a c):(E.borL σ w t).imm a c:=
 ⟨he.imm a c hi,fun x hx N hb=>let ⟨B,hB⟩:=hm x hx;he.sep a c x B N hi hB hb⟩
theorem Xz {E:Env} {σ:List Nat} {w:World} {t:Bool} {h:Z7} (he:Emb E h w) (hm:∀x,x∈σ→∃B,h.get x=some B) {y b N o:Nat} {B:Blk} (hy:h.get y=some B) (hb:E.blk y=some (b,N)) (hn:Xp σ y=none) {c:Value}
  (hc:w.cell? ⟨b,o,none⟩=some c):(E.borL σ w t).imm ⟨b,o,none⟩ c:=
 ⟨hc,fun x hx N' hbx=>by
  obtain ⟨C,hC⟩:=hm x hx
  have:=he.disj x y C B b N' N hC hy hbx hb
  subst this
  exact QU hn hx⟩
theorem Wd {E:Env} {σ:List Nat} {w:World} {x i:Nat} (h:Xp σ x=some i):(E.borL σ w true).blk i=E.blk x:=by
 show (match X9 σ i with|some x=>E.blk x|none=>none)=_
 rw [WW h]
set_option maxHeartbeats 2000000 in
mutual
theorem Z63 {σ:List Nat} {h:Z7} (hm:∀x,x∈σ→∃B,h.get x=some B):∀(d:Nat) (t:Bool) (v:AV) (K:AV→Prop),vwV σ h t d v K→∃v₀,K v₀∧∀(E:Env) (w:World) (r:Value),Emb E h w→Za E v r→Za (E.borL σ w t) v₀ r
 | 0,t,v,K,hl=>by unfold vwV at hl;exact hl.elim
 | d+1,t,v,K,hl=>by
  unfold vwV at hl
  split at hl
  ·exact ⟨_,hl,fun E w r he hv=>.top r⟩
  ·exact ⟨_,hl,fun E w r he hv=>hv.plain rfl⟩
  ·exact ⟨_,hl,fun E w r he hv=>hv.plain rfl⟩
  ·exact ⟨_,hl,fun E w r he hv=>hv.plain rfl⟩
  ·exact ⟨_,hl,fun E w r he hv=>hv.plain rfl⟩
  ·exact ⟨_,hl,fun E w r he hv=>hv.plain rfl⟩
  ·exact ⟨_,hl,fun E w r he hv=>hv.plain rfl⟩
  ·exact ⟨_,hl,fun E w r he hv=>hv.plain rfl⟩
  ·exact ⟨_,hl,fun E w r he hv=>hv.plain rfl⟩
  ·exact ⟨_,hl,fun E w r he hv=>hv.plain rfl⟩
  ·exact ⟨_,hl,fun E w r he hv=>hv.plain rfl⟩
  ·refine ⟨_,hl,fun E w r he hv=> ?_⟩
   cases hv with
   | pview cs inn a vs hc hi=>exact .pview _ _ a vs (hc.mono (Z1L he hm)) (fun j c hj=>Z1M he hm (hi j c hj))
  ·refine ⟨_,hl,fun E w r he hv=> ?_⟩
   cases hv with
   | vintsNil k xs len h1 h2=>exact .vintsNil _ _ _ h1 h2
   | vints k xs len a cap h1 h2 hi=>exact .vints _ _ _ a cap h1 h2 (fun i hi'=>Z1M he hm (hi i hi'))
  ·refine ⟨_,hl,fun E w r he hv=> ?_⟩
   cases hv with
   | vrowsNil esz n f len h1 h2=>exact .vrowsNil _ _ _ _ h1 h2
   | vrows esz n f len a cap g h1 h2 hc hl' hi=>exact .vrows _ _ _ _ a cap g h1 h2 (fun i hi'=>(hc i hi').mono (Z1L he hm)) hl' (fun i j c hi' hj=>Z1M he hm (hi i j c hi' hj))
  ·rename_i p
   split at hl
   ·rename_i ix hmv
    split at hl
    ·exact hl.elim
    ·refine ⟨_,hl,fun E w r he hv=> ?_⟩
     cases hv with
     | ptr p b N hb=>exact .ptr ⟨ix,p.row,p.sz,p.off,p.inn⟩ b N (by rw [Wd hmv];exact hb)
   ·rename_i hmv
    split at hl
    ·rename_i cs hg
     split at hl
     ·rename_i rest hrow hrest
      obtain ⟨rest',hK,hr⟩:=UU hm d false rest _ hl
      refine ⟨_,hK,fun E w r he hv=> ?_⟩
      cases hv with
      | ptr p b N hb=>
       cases he.own _ _ hg with
       | flat0 cs h0 hn=>rw [hn] at hb;cases hb
       | flat cs b' cells elem fr vs hb' hw hf hc hvs=>
        rw [hb] at hb'
        cases hb'
        have hd:=(ZU _ _ _ _ hrest hc).1
        have e:(⟨b,p.tot,none⟩:Addr)=(⟨b,p.off,none⟩:Addr).add p.inn:=by rw [addr_add];simp [Zs.tot,hrow]
        rw [e]
        refine .pview _ _ ⟨b,p.off,none⟩ _ (hr E w _ he hd) (fun j c hj=> ?_)
        rw [addr_add]
        refine Xz he hm hg hb hmv (Z0H hvs hw ?_)
        rw [List.getElem?_drop] at hj
        exact hj
     ·exact hl.elim
    ·rename_i sz n f hg
     split at hl
     ·rename_i hsz
      have hsz:=Nat.eq_of_beq_eq_true hsz
      obtain ⟨hrow,hl⟩:=Z9 hl
      split at hl
      ·rename_i rest hrest
       obtain ⟨rest',hK,hr⟩:=UU hm d false rest _ hl
       refine ⟨_,hK,fun E w r he hv=> ?_⟩
       cases hv with
       | ptr p b N hb=>
        cases he.own _ _ hg with
        | rows0 sz n f h0 hn=>omega
        | rows sz n f b' cells elem fr g hb' hw hf hc hlg hvs=>
         rw [hb] at hb'
         cases hb'
         have hd:=(ZU _ _ _ _ hrest (hc _ hrow)).1
         have e:(⟨b,p.tot,none⟩:Addr)=(⟨b,p.row*sz+p.off,none⟩:Addr).add p.inn:=by rw [addr_add];simp [Zs.tot,hsz]
         rw [e]
         refine .pview _ _ ⟨b,p.row*sz+p.off,none⟩ _ (hr E w _ he hd) (fun j c hj=> ?_)
         rw [addr_add]
         refine Xz he hm hg hb hmv ?_
         rw [List.getElem?_drop] at hj
         rw [cell_of_heap hw,Nat.add_assoc]
         exact hvs _ _ _ hrow hj
      ·exact hl.elim
     ·exact hl.elim
    ·exact hl.elim
  ·rename_i p esz len lo
   split at hl
   ·rename_i ix hmv
    split at hl
    ·exact hl.elim
    ·refine ⟨_,hl,fun E w r he hv=> ?_⟩
     cases hv with
     | nslice0 p esz len lo a h1 h2=>exact .nslice0 _ _ _ _ a h1 h2
     | nslice p esz len lo b N cap hb h1 h2 h3=>exact .nslice ⟨ix,p.row,p.sz,p.off,p.inn⟩ _ _ _ b N cap (by rw [Wd hmv];exact hb) h1 h2 h3
   ·rename_i hmv
    split at hl
    ·rename_i k xs hg
     split at hl
     ·rename_i hes
      have hes:=Nat.eq_of_beq_eq_true hes
      subst hes
      obtain ⟨hle,hK⟩:=Z9 hl
      have hlen:((Yo p.tot xs).take len).length=len:=by rw [Y6,List.length_take,List.length_drop];omega
      refine ⟨_,hK,fun E w r he hv=> ?_⟩
      cases hv with
      | nslice0 p esz len lo a h1 h2=>
       subst h1
       cases a with
       | none=>exact .vintsNil _ _ _ (by simp) rfl
       | some a=>exact .vints _ _ _ a 0 (by simp) (by simp) (fun i hi=>by simp at hi)
      | nslice p esz len lo b N cap hb h1 h2 h3=>
       refine .vints _ _ _ _ cap (by omega) (by omega) (fun i hi=> ?_)
       rw [hlen] at hi
       rw [addr_add]
       refine Xz he hm hg hb hmv ?_
       cases he.own _ _ hg with
       | ints0 k xs h0 hn=>rw [hn] at hb;cases hb
       | ints k xs b' cells elem fr hb' hw hf hvs=>
        rw [hb] at hb'
        cases hb'
        rw [cell_of_heap hw,hvs _ (by omega)]
        congr 2
        rw [Y6]
        simp [List.getD_eq_getElem?_getD,hi,List.getElem?_drop]
     ·exact hl.elim
    ·rename_i sz n f hg
     split at hl
     ·rename_i hb
      simp only [Bool.and_eq_true,Bool.or_eq_true] at hb
      obtain ⟨⟨⟨q1,q2⟩,q3⟩,q4⟩:=hb
      have q1:=Nat.eq_of_beq_eq_true q1
      have q2:=Nat.eq_of_beq_eq_true q2
      have q3:=Nat.eq_of_beq_eq_true q3
      obtain ⟨hle,hpl,hK⟩:=Z9 hl
      refine ⟨_,hK,fun E w r he hv=> ?_⟩
      have htot:p.tot=p.row*sz:=by
       rcases q4 with q4|q4
       ·have:=Nat.eq_of_beq_eq_true q4;simp [Zs.tot,q2,q3,this,q1]
       ·have:=Nat.eq_of_beq_eq_true q4;simp [Zs.tot,q2,q3,this]
      cases hv with
      | nslice0 p esz len lo a h1 h2=>
       subst h1
       cases a with
       | none=>exact .vrowsNil _ _ _ _ rfl rfl
       | some a=>exact .vrows _ _ _ _ a 0 (fun _=>[]) (by omega) (by omega) (fun i hi=>by omega) (fun i hi=>by omega) (fun i j c hi=>by omega)
      | nslice p esz len lo b N cap hb h1 h2 h3=>
       cases he.own _ _ hg with
       | rows0 sz n f h0 hn=>rw [hn] at hb;cases hb
       | rows sz n f b' cells elem fr g hb' hw hf hc hlg hvs=>
        rw [hb] at hb'
        cases hb'
        refine .vrows _ _ _ _ _ cap (fun i=>g (p.row+i)) (by omega) h1 (fun i hi=> ?_) (fun i hi=>by rw [←q1];exact hlg _ (by omega)) (fun i j c hi hj=> ?_)
        ·have:=hc (p.row+i) (by omega)
         have hp:=hpl i hi
         rw [QD] at hp⊢
         exact this.plain hp
        ·rw [addr_add]
         refine Xz he hm hg hb hmv ?_
         rw [cell_of_heap hw,htot,←q1]
         have:=hvs (p.row+i) j c (by omega) hj
         rw [Nat.add_mul] at this
         rw [show p.row*sz+(i*sz+j)=p.row*sz+i*sz+j by omega]
         exact this
     ·exact hl.elim
    ·rename_i cs hg
     split at hl
     ·rename_i rest hrow hrest
      have hbase:∀(E:Env) (w:World) (b N:Nat),Emb E h w→E.blk p.blk=some (b,N)→∃vs,Zp E rest vs∧∀j c,vs[j]? =some c→w.cell? ⟨b,p.off+j,none⟩=some c:=by
       intro E w b N he hb
       cases he.own _ _ hg with
       | flat0 cs h0 hn=>rw [hn] at hb;cases hb
       | flat cs b' cells elem fr vs hb' hw hf hc hvs=>
        rw [hb] at hb'
        cases hb'
        refine ⟨_,(ZU _ _ _ _ hrest hc).1,fun j c hj=> ?_⟩
        rw [List.getElem?_drop] at hj
        exact Z0H hvs hw hj
      split at hl
      ·split at hl
       ·rename_i k n xs rest2 harr
        split at hl
        ·rename_i hes hbb
         have hes:=Nat.eq_of_beq_eq_true hes
         subst hes
         rw [Bool.and_eq_true] at hbb
         have e1:=Nat.eq_of_beq_eq_true hbb.1
         have e2:=Nat.eq_of_beq_eq_true hbb.2
         obtain ⟨hxl,hK⟩:=Z9 hl
         refine ⟨_,hK,fun E w r he hv=> ?_⟩
         cases hv with
         | nslice0 p esz len lo a h1 h2=>
          have hx0:xs=[]:=by
           have:xs.length=0:=by omega
           exact List.length_eq_zero_iff.1 this
          subst hx0
          subst h1
          cases a with
          | none=>exact .vintsNil _ _ _ rfl rfl
          | some a=>exact .vints _ _ _ a 0 (by simp) (by simp) (fun i hi=>by simp at hi)
         | nslice p esz len lo b N cap hb h1 h2 h3=>
          obtain ⟨vs,hcr,hcell⟩:=hbase E w b N he hb
          obtain ⟨ws,rfl,_⟩:=Zp.cons_arr hcr
          refine .vints _ _ _ _ cap (by omega) (by omega) (fun i hi=> ?_)
          rw [addr_add]
          refine Xz he hm hg hb hmv ?_
          have:=hcell i (.int k (xs.getD i 0)) (by
           rw [List.getElem?_append_left (by rw [Z6];omega),Zm (by omega)])
          rw [show p.tot+i=p.off+i by simp [Zs.tot,hrow,e1]]
          exact this
        ·rename_i hes hbb
         have hes:=Nat.eq_of_beq_eq_true hes
         subst hes
         obtain ⟨⟨hxl,hle⟩,hK⟩:=Z9 hl
         have hlen:((Yo p.inn xs).take len).length=len:=by rw [Y6,List.length_take,List.length_drop];omega
         refine ⟨_,hK,fun E w r he hv=> ?_⟩
         cases hv with
         | nslice0 p esz len lo a h1 h2=>
          subst h1
          cases a with
          | none=>exact .vintsNil _ _ _ (by simp) rfl
          | some a=>exact .vints _ _ _ a 0 (by simp) (by simp) (fun i hi=>by simp at hi)
         | nslice p esz len lo b N cap hb h1 h2 h3=>
          obtain ⟨vs,hcr,hcell⟩:=hbase E w b N he hb
          obtain ⟨ws,rfl,_⟩:=Zp.cons_arr hcr
          refine .vints _ _ _ _ cap (by omega) (by omega) (fun i hi=> ?_)
          rw [hlen] at hi
          rw [addr_add]
          refine Xz he hm hg hb hmv ?_
          have:=hcell (p.inn+i) (.int k (xs.getD (p.inn+i) 0)) (by
           rw [List.getElem?_append_left (by rw [Z6];omega),Zm (by omega)])
          rw [show p.tot+i=p.off+(p.inn+i) by simp [Zs.tot,hrow];omega]
          rw [this]
          congr 2
          rw [Y6]
          simp [List.getD_eq_getElem?_getD,hi,List.getElem?_drop]
        ·exact hl.elim
       ·exact hl.elim
      ·split at hl
       ·rename_i part hinn hpart
        have hinn:=Nat.eq_of_beq_eq_true hinn
        obtain ⟨part',hK,hr⟩:=UU hm d false part _ hl
        split at hK
        ·rename_i hrows
         refine ⟨_,hK,fun E w r he hv=> ?_⟩
         cases hv with
         | nslice0 p esz len lo a h1 h2=>
          subst h1
          cases a with
          | none=>exact .vrowsNil _ _ _ _ rfl rfl
          | some a=>exact .vrows _ _ _ _ a 0 (fun _=>[]) (by omega) (by omega) (fun i hi=>by omega) (fun i hi=>by omega) (fun i j c hi=>by omega)
         | nslice p esz len lo b N cap hb h1 h2 h3=>
          obtain ⟨vs,hcr,hcell⟩:=hbase E w b N he hb
          have hpr:=(WG _ _ _ _ hpart hcr).1
          have hpr':=hr E w _ he hpr
          refine .vrows _ _ _ _ _ cap (fun i=>((vs.take (len*esz)).drop (0+i*esz)).take esz) (by omega) h1 (fun i hi=>(Xe (YP hrows i hi) hpr').1) (fun i hi=>(Xe (YP hrows i hi) hpr').2) (fun i j c hi hj=> ?_)
          rw [addr_add]
          refine Xz he hm hg hb hmv ?_
          rw [List.getElem?_take] at hj
          split at hj
          ·rw [List.getElem?_drop,List.getElem?_take] at hj
           split at hj
           ·have:=hcell _ _ hj
            rw [show p.tot+(i*esz+j)=p.off+(0+i*esz+j) by simp [Zs.tot,hrow,hinn]]
            exact this
           ·cases hj
          ·cases hj
        ·exact hK.elim
       ·exact hl.elim
     ·exact hl.elim
    ·exact hl.elim
  ·obtain ⟨fs',hl,h1⟩:=Z1N hm d t _ _ hl
   obtain ⟨cs',hl,h2⟩:=Z1N hm d t _ _ hl
   refine ⟨_,hl,fun E w r he hv=> ?_⟩
   cases hv with
   | func fn first captured fs cs ha hb=>exact .func _ _ _ _ _ (h1 E w _ he ha) (h2 E w _ he hb)
  ·obtain ⟨u',hl,h1⟩:=Z63 hm d t _ _ hl
   refine ⟨_,hl,fun E w r he hv=> ?_⟩
   cases hv with
   | iface T v x hx=>exact .iface _ _ _ (h1 E w _ he hx)
  ·obtain ⟨cs',hl,h1⟩:=UU hm d t _ _ hl
   refine ⟨_,hl,fun E w r he hv=> ?_⟩
   cases hv with
   | agg cs vs hc=>exact .agg _ _ (h1 E w _ he hc)
  ·obtain ⟨vs',hl,h1⟩:=Z1N hm d t _ _ hl
   refine ⟨_,hl,fun E w r he hv=> ?_⟩
   cases hv with
   | tuple vs rs hc=>exact .tuple _ _ (h1 E w _ he hc)
  ·exact hl.elim
theorem UU {σ:List Nat} {h:Z7} (hm:∀x,x∈σ→∃B,h.get x=some B):∀(d:Nat) (t:Bool) (l:List AV) (K:List AV→Prop),vwC σ h t d l K→∃l₀,K l₀∧∀(E:Env) (w:World) (r:List Value),Emb E h w→Zp E l r→Zp (E.borL σ w t) l₀ r
 | 0,t,l,K,hl=>by unfold vwC at hl;exact hl.elim
 | d+1,t,l,K,hl=>by
  unfold vwC at hl
  split at hl
  ·exact ⟨_,hl,fun E w r he hv=>by cases hv;exact .nil⟩
  ·obtain ⟨r',hl,h1⟩:=UU hm d t _ _ hl
   refine ⟨_,hl,fun E w r he hv=> ?_⟩
   obtain ⟨ws,rfl,ht⟩:=Zp.cons_arr hv
   exact .arr _ _ _ _ _ (h1 E w _ he ht)
  ·rename_i v r hna
   obtain ⟨v',hl,h1⟩:=Z63 hm d t _ _ hl
   split at hl
   ·rename_i hcell
    obtain ⟨r',hl,h2⟩:=UU hm d t _ _ hl
    refine ⟨_,hl,fun E w q he hv=> ?_⟩
    obtain ⟨c,ws,rfl,q1,q2,q3,q4⟩:=Zp.cons_cell hv (fun k m xs e=>hna k m xs e)
    exact .one _ _ _ _ hcell q2 (h1 E w _ he q3) (h2 E w _ he q4)
   ·exact hl.elim
theorem Z1N {σ:List Nat} {h:Z7} (hm:∀x,x∈σ→∃B,h.get x=some B):∀(d:Nat) (t:Bool) (l:List AV) (K:List AV→Prop),vwL σ h t d l K→∃l₀,K l₀∧∀(E:Env) (w:World) (r:List Value),Emb E h w→ZA E l r→ZA (E.borL σ w t) l₀ r
 | 0,t,l,K,hl=>by unfold vwL at hl;exact hl.elim
 | d+1,t,l,K,hl=>by
  unfold vwL at hl
  split at hl
  ·exact ⟨_,hl,fun E w r he hv=>by cases hv;exact .nil⟩
  ·obtain ⟨v',hl,h1⟩:=Z63 hm d t _ _ hl
   obtain ⟨r',hl,h2⟩:=Z1N hm d t _ _ hl
   refine ⟨_,hl,fun E w q he hv=> ?_⟩
   cases hv with
   | cons v c vs cs ha hb=>exact .cons _ _ _ _ (h1 E w _ he ha) (h2 E w _ he hb)
end
def vwB (σ:List Nat) (h:Z7) (d:Nat) (B:Blk) (K:Blk→Prop):Prop:=
 match B with
 | .ints k xs=>K (.ints k xs)
 | .flat cs=>vwC σ h true d cs fun cs'=>match Nat.beq (csz cs') (csz cs) with|true=>K (.flat cs')|false=>False
 | .rows sz n f=>(∀i,i<n→plainC (f i)=true)∧K (.rows sz n f)
 | _=>False
theorem ZdI {σ:List Nat} {h:Z7} (hm:∀x,x∈σ→∃B,h.get x=some B) {d:Nat} {B:Blk} {K:Blk→Prop} (hl:vwB σ h d B K):
  ∃B₀,K B₀∧∀(E:Env) (w:World) (x i:Nat),Emb E h w→Xp σ x=some i→Yh E w x B→Yh (E.borL σ w true) w i B₀:=by
 unfold vwB at hl
 split at hl
 ·refine ⟨_,hl,fun E w x i he hi hb=> ?_⟩
  have hq:=Wd (E:=E) (w:=w) hi
  cases hb with
  | ints0 k xs h0 hn=>exact .ints0 _ _ h0 (hq.trans hn)
  | ints k xs b cells elem fr hb hw hf hv=>exact .ints _ _ b cells elem fr (hq.trans hb) hw hf hv
 ·obtain ⟨cs',hl,hr⟩:=UU hm _ _ _ _ hl
  split at hl
  ·rename_i hz
   have hz:=Nat.eq_of_beq_eq_true hz
   refine ⟨_,hl,fun E w x i he hi hb=> ?_⟩
   have hq:=Wd (E:=E) (w:=w) hi
   cases hb with
   | flat0 cs h0 hn=>exact .flat0 _ (hz.trans h0) (hq.trans hn)
   | flat cs b cells elem fr vs hb hw hf hc hv=>exact .flat _ b cells elem fr vs (hq.trans hb) hw hf (hr E w vs he hc) hv
  ·exact hl.elim
 ·obtain ⟨hp,hl⟩:=hl
  refine ⟨_,hl,fun E w x i he hi hb=> ?_⟩
  have hq:=Wd (E:=E) (w:=w) hi
  cases hb with
  | rows0 sz n f h0 hn=>exact .rows0 _ _ _ h0 (hq.trans hn)
  | rows sz n f b cells elem fr g hb hw hf hc hl hv=>exact .rows _ _ _ b cells elem fr g (hq.trans hb) hw hf (fun i hi=>(hc i hi).plain (hp i hi)) hl hv
 ·exact hl.elim
def ZbC (σ:List Nat) (h:Z7) (d:Nat):List Nat→(List Blk→Prop)→Prop
 | [],K=>K []
 | x::r,K=>match h.get x with
  | some B=>vwB σ h d B fun B'=>ZbC σ h d r fun Bs=>K (B'::Bs)
  | none=>False
theorem Z75 {σ:List Nat} {h:Z7} (hm:∀x,x∈σ→∃B,h.get x=some B) {d:Nat}:∀(r:List Nat) (K:List Blk→Prop),ZbC σ h d r K→
  ∃Bs,K Bs∧Bs.length=r.length∧∀(i x:Nat) (B:Blk),r[i]? =some x→Bs[i]? =some B→∃B',h.get x=some B'∧∀(E:Env) (w:World) (j:Nat),Emb E h w→Xp σ x=some j→Yh E w x B'→Yh (E.borL σ w true) w j B
 | [],K,hl=>⟨[],hl,rfl,fun i x B h=>by simp at h⟩
 | y::r,K,hl=>by
  unfold ZbC at hl
  split at hl
  ·rename_i B' hB'
   obtain ⟨B₀,hl,hr⟩:=ZdI hm hl
   obtain ⟨Bs,hK,hlen,hall⟩:=Z75 hm r _ hl
   refine ⟨B₀::Bs,hK,by simp [hlen],fun i x B h1 h2=> ?_⟩
   match i with
   | 0=>simp at h1 h2;subst h1;subst h2;exact ⟨B',hB',fun E w j he hj hb=>hr E w _ j he hj hb⟩
   | i+1=>exact hall i x B (by simpa using h1) (by simpa using h2)
  ·exact hl.elim
def hasB (h:Z7):List Nat→Bool
 | []=>true
 | x::r=>match h.get x with|some _=>hasB h r|none=>false
theorem Z76 {h:Z7}:∀{σ:List Nat},hasB h σ=true→∀x,x∈σ→∃B,h.get x=some B
 | [],_,x,hx=>by simp at hx
 | y::r,hl,x,hx=>by
  unfold hasB at hl
  split at hl
  ·rename_i B hB
   rcases List.mem_cons.1 hx with rfl|hx
   ·exact ⟨B,hB⟩
   ·exact Z76 hl x hx
  ·cases hl
def Z2Q:List Nat→Bool
 | []=>true
 | x::r=>match Xp r x with|some _=>false|none=>Z2Q r
theorem VQ:∀{σ:List Nat},Z2Q σ=true→∀(i x:Nat),X9 σ i=some x→Xp σ x=some i
 | [],_,i,x,h=>by simp [X9] at h
 | y::r,hd,0,x,h=>by simp [X9] at h;subst h;simp [Xp,Nat.beq_refl]
 | y::r,hd,i+1,x,h=>by
  unfold Z2Q at hd
  split at hd
  ·cases hd
  ·rename_i hn
   have h1:X9 r i=some x:=h
   have h2:=VQ hd i x h1
   have hne:y≠x:=fun e=>QU hn (e▸Xq h1)
   simp [Xp,Zw hne,h2]
def frA (σ:List Nat) (h:Z7) (d:Nat) (args:List AV) (K0:List Blk→List AV→Prop):Prop:=
 match hasB h σ&&Z2Q σ with
 | true=>ZbC σ h d σ fun Bs=>vwL σ h true d args fun a=>K0 Bs a
 | false=>False
theorem Z1O:∀{σ:List Nat} {i:Nat},X9 σ i=σ[i]?
 | [],_=>by simp [X9]
 | x::r,0=>by simp [X9]
 | x::r,i+1=>by simp [X9,Z1O (σ:=r)]
theorem ZdJ {σ:List Nat} {h:Z7} {d:Nat} {args:List AV} {K0:List Blk→List AV→Prop} (hl:frA σ h d args K0):
  (∀x,x∈σ→∃B,h.get x=some B)∧Z2Q σ=true∧∃Bs a,K0 Bs a∧Bs.length=σ.length∧
   (∀(i x:Nat) (B:Blk),X9 σ i=some x→Bs[i]? =some B→∃B',h.get x=some B'∧∀(E:Env) (w:World),Emb E h w→Yh E w x B'→Yh (E.borL σ w true) w i B)∧
   ∀(E:Env) (w:World) (r:List Value),Emb E h w→ZA E args r→ZA (E.borL σ w true) a r:=by
 unfold frA at hl
 split at hl
 ·rename_i hc
  rw [Bool.and_eq_true] at hc
  have hm:=Z76 hc.1
  obtain ⟨Bs,hl,hlen,hall⟩:=Z75 hm _ _ hl
  obtain ⟨a,hK,ha⟩:=Z1N hm _ _ _ _ hl
  refine ⟨hm,hc.2,Bs,a,hK,hlen,fun i x B h1 h2=> ?_,ha⟩
  obtain ⟨B',hB',hr⟩:=hall i x B (by rw [←Z1O];exact h1) h2
  exact ⟨B',hB',fun E w he hb=>hr E w i he (VQ hc.2 i x h1) hb⟩
 ·exact hl.elim
end Go.Tk
end
section
namespace Go.Tk
open IntKind (i64 u8 u32 u64 wrap)
def Spec (P:Program) (f:FuncId) (args:List AV) (h0:Z7) (o:Out) (nx:Nat) (bs:List (Nat×Blk)):Prop:=
 ∀(E:Env) (w:World) (rs:List Value),Emb E h0 w→ZA E args rs→Calls P f rs.toArray w fun e w'=>∃E',Evo E h0 w E' ⟨nx,bs⟩ w'∧UH E' o e
def Zf9 (k:Nat) (τ:Ren) (o:Out) (nx:Nat) (bs:List (Nat×Blk)):KO:=fun o' h=>match o with
 | .ret v=>match o' with
  | .ret u=>ZR k τ ⟨1,[(0,v)],⟨nx,bs⟩,[]⟩ ⟨1,[(0,u)],h,[]⟩ True
  | .panic _=>False
 | .panic v=>match o' with
  | .panic u=>ZR k τ ⟨1,[(0,v)],⟨nx,bs⟩,[]⟩ ⟨1,[(0,u)],h,[]⟩ True
  | .ret _=>False
theorem U7 {k:Nat} {τ:Ren} {v u:AV} {nx:Nat} {bs:List (Nat×Blk)} {h0 h:Z7} (hk:k=h0.next) (hl:ZR k τ ⟨1,[(0,v)],⟨nx,bs⟩,[]⟩ ⟨1,[(0,u)],h,[]⟩ True) {E0 E:Env} {w0 w:World} {r:Value}
  (he0:Emb E0 h0 w0) (hev:Evo E0 h0 w0 E h w) (hr:Za E u r):∃E',Evo E0 h0 w0 E' ⟨nx,bs⟩ w∧Za E' v r:=by
 obtain ⟨_,hw⟩:=Y3 hl
 have hs:WD E ⟨1,[(0,u)],h,[]⟩ { tmps:= #[r],defers:=[]} w:=by
  refine ⟨hev.emb,⟨rfl,fun x v' hx=> ?_⟩,.nil⟩
  simp only [ZF] at hx
  split at hx
  ·rename_i hb
   have:=Nat.eq_of_beq_eq_true hb
   subst this
   cases hx
   exact hr
  ·cases hx
 obtain ⟨E₂,hs2,hev2⟩:=hw E0 h0 w0 E _ w (fun x hx=>he0.fresh x (hk▸hx)) hs hev
 refine ⟨E₂,hev2, ?_⟩
 have:=hs2.tmps.get 0 v (by simp [ZF])
 simpa using this
theorem Spec.of {P:Program} {f:FuncId} {args:List AV} {h0:Z7} {τ:Ren} {o:Out} {nx:Nat} {bs:List (Nat×Blk)} (h:Zg P f args h0 (Zf9 h0.next τ o nx bs)):Spec P f args h0 o nx bs:=by
 intro E w rs he hl
 refine (h E w rs he hl).mono ?_
 rintro e w' ⟨E',o',h',hK,hev,hor⟩
 unfold Zf9 at hK
 cases o with
 | ret v=>
  cases hor with
  | ret u r hr=>
   obtain ⟨E₂,h1,h2⟩:=U7 rfl hK he hev hr
   exact ⟨E₂,h1,.ret _ _ h2⟩
  | panic u r hr=>exact hK.elim
 | panic v=>
  cases hor with
  | panic u r hr=>
   obtain ⟨E₂,h1,h2⟩:=U7 rfl hK he hev hr
   exact ⟨E₂,h1,.panic _ _ h2⟩
  | ret u r hr=>exact hK.elim
def mvN:List Nat→Nat→Nat→Nat
 | [],d,y=>d+y
 | x::_,_,0=>x
 | _::r,d,y+1=>mvN r d y
theorem Z64:∀{σ:List Nat} {d y x:Nat},X9 σ y=some x→mvN σ d y=x
 | [],_,_,_,h=>by simp [X9] at h
 | x::r,d,0,_,h=>by simpa [X9,mvN] using h
 | x::r,d,y+1,_,h=>Z64 (σ:=r) h
theorem Z65:∀{σ:List Nat} {d y:Nat},σ.length≤y→mvN σ d y=d+(y-σ.length)
 | [],d,y,_=>by simp [mvN]
 | x::r,d,0,h=>by simp at h
 | x::r,d,y+1,h=>by
  simp at h
  have:=Z65 (σ:=r) (d:=d) h
  simp [mvN,this]
theorem UV:∀{σ:List Nat} {y:Nat},y<σ.length→∃x,X9 σ y=some x
 | [],_,h=>by simp at h
 | x::r,0,_=>⟨x,rfl⟩
 | x::r,y+1,h=>UV (σ:=r) (by simpa using h)
mutual
/-- Names moved. -/
def mvV (σ:List Nat) (d:Nat):AV→Option AV
 | .top=>some .top
 | .bool b=>some (.bool b)
 | .int k n=>some (.int k n)
 | .str s=>some (.str s)
 | .ptr none=>some (.ptr none)
 | .ptr (some p)=>some (.ptr (some ⟨mvN σ d p.blk,p.row,p.sz,p.off,p.inn⟩))
 | .nslice p esz len lo=>some (.nslice ⟨mvN σ d p.blk,p.row,p.sz,p.off,p.inn⟩ esz len lo)
 | .eslice=>some .eslice
 | .fslice=>some .fslice
 | .nilslice=>some .nilslice
 | .map none=>some (.map none)
 | .map (some x)=>some (.map (some (mvN σ d x)))
 | .nilFunc=>some .nilFunc
 | .nilIface=>some .nilIface
 | .func (.func g) fs cs=>match mvL σ d fs,mvL σ d cs with
  | some fs',some cs'=>some (.func (.func g) fs' cs')
  | _,_=>none
 | .iface t v=>match mvV σ d v with|some v'=>some (.iface t v')|none=>none
 | .agg cs=>match mvC σ d cs with|some cs'=>some (.agg cs')|none=>none
 | .tuple vs=>match mvL σ d vs with|some vs'=>some (.tuple vs')|none=>none
 | _=>none
def mvC (σ:List Nat) (d:Nat):List AV→Option (List AV)
 | []=>some []
 | .arr k n xs::r=>match mvC σ d r with|some r'=>some (.arr k n xs::r')|none=>none
 | v::r=>match mvV σ d v,mvC σ d r with
  | some v',some r'=>match v'.isCell with|true=>some (v'::r')|false=>none
  | _,_=>none
def mvL (σ:List Nat) (d:Nat):List AV→Option (List AV)
 | []=>some []
 | v::r=>match mvV σ d v,mvL σ d r with
  | some v',some r'=>some (v'::r')
  | _,_=>none
end
theorem U9 {v:AV} (h:v.isCell=true) (r:List AV):csz (v::r)=1+csz r:=by
 cases v<;>simp_all [AV.isCell,csz]
set_option maxHeartbeats 1000000 in
mutual
theorem Z1P {σ:List Nat} {d:Nat} {E E':Env} (hb:∀x r,E.blk x=some r→E'.blk (mvN σ d x)=some r):∀(v v':AV) (r:Value),mvV σ d v=some v'→Za E v r→Za E' v' r:=by
 intro v v' r h hv
 unfold mvV at h
 split at h
 ·cases h;exact .top r
 ·cases h;exact hv.plain rfl
 ·cases h;exact hv.plain rfl
 ·cases h;exact hv.plain rfl
 ·cases h;exact hv.plain rfl
 ·cases h
  cases hv with
  | ptr p b N hq=>exact .ptr ⟨mvN σ d _,_,_,_,_⟩ b N (hb _ _ hq)
 ·cases h
  cases hv with
  | nslice0 p esz len lo a h1 h2=>exact .nslice0 _ _ _ _ a h1 h2
  | nslice p esz len lo b N cap hq h1 h2 h3=>exact .nslice ⟨mvN σ d _,_,_,_,_⟩ _ _ _ b N cap (hb _ _ hq) h1 h2 h3
 ·cases h;exact hv.plain rfl
 ·cases h;exact hv.plain rfl
 ·cases h;exact hv.plain rfl
 ·cases h;exact hv.plain rfl
 ·cases h
  cases hv with
  | map x b N hq=>exact .map _ b N (hb _ _ hq)
 ·cases h;exact hv.plain rfl
 ·cases h;exact hv.plain rfl
 ·split at h
  ·rename_i fs' cs' h1 h2
   cases h
   cases hv with
   | func fn first captured fs cs ha hc=>exact .func _ _ _ _ _ (QV hb _ _ _ h1 ha) (QV hb _ _ _ h2 hc)
  ·cases h
 ·split at h
  ·rename_i v1 h1
   cases h
   cases hv with
   | iface t v x hx=>exact .iface _ _ _ (Z1P hb _ _ _ h1 hx)
  ·cases h
 ·split at h
  ·rename_i cs' h1
   cases h
   cases hv with
   | agg cs vs hc=>exact .agg _ _ (Z1Q hb _ _ _ h1 hc).1
  ·cases h
 ·split at h
  ·rename_i vs' h1
   cases h
   cases hv with
   | tuple vs rs hc=>exact .tuple _ _ (QV hb _ _ _ h1 hc)
  ·cases h
 ·cases h
theorem Z1Q {σ:List Nat} {d:Nat} {E E':Env} (hb:∀x r,E.blk x=some r→E'.blk (mvN σ d x)=some r):∀(l l':List AV) (r:List Value),mvC σ d l=some l'→Zp E l r→Zp E' l' r∧csz l'=csz l:=by
 intro l l' r h hv
 unfold mvC at h
 split at h
 ·cases h;cases hv;exact ⟨.nil,rfl⟩
 ·split at h
  ·rename_i r' h1
   cases h
   obtain ⟨ws,rfl,ht⟩:=Zp.cons_arr hv
   have:=Z1Q hb _ _ _ h1 ht
   exact ⟨.arr _ _ _ _ _ this.1,by simp [csz,this.2]⟩
  ·cases h
 ·rename_i v r2 hna
  split at h
  ·rename_i v1 r1 h1 h2
   split at h
   ·rename_i hcell
    cases h
    obtain ⟨c,ws,rfl,q1,q2,q3,q4⟩:=Zp.cons_cell hv (fun k m xs e=>hna k m xs e)
    have:=Z1Q hb _ _ _ h2 q4
    exact ⟨.one _ _ _ _ hcell q2 (Z1P hb _ _ _ h1 q3) this.1,by rw [U9 hcell,U9 q1,this.2]⟩
   ·cases h
  ·cases h
theorem QV {σ:List Nat} {d:Nat} {E E':Env} (hb:∀x r,E.blk x=some r→E'.blk (mvN σ d x)=some r):∀(l l':List AV) (r:List Value),mvL σ d l=some l'→ZA E l r→ZA E' l' r:=by
 intro l l' r h hv
 unfold mvL at h
 split at h
 ·cases h;cases hv;exact .nil
 ·split at h
  ·rename_i v1 r1 h1 h2
   cases h
   cases hv with
   | cons v c vs cs ha hc=>exact .cons _ _ _ _ (Z1P hb _ _ _ h1 ha) (QV hb _ _ _ h2 hc)
  ·cases h
end
theorem ZbD {σ:List Nat} {d:Nat}:∀(l l':List AV),mvC σ d l=some l'→csz l'=csz l:=by
 intro l
 induction l with
 | nil=>intro l' h;unfold mvC at h;cases h;rfl
 | cons v r ih=>
  intro l' h
  unfold mvC at h
  split at h
  ·rename_i hq;cases hq
  ·rename_i hq
   cases hq
   split at h
   ·rename_i r' h1
    cases h
    simp [csz,ih _ h1]
   ·cases h
  ·rename_i hna hq
   cases hq
   split at h
   ·rename_i v1 r1 h1 h2
    split at h
    ·rename_i hcell
     cases h
     have hv:v.isCell=true∨v.isCell=false:=by cases v.isCell<;>simp
     rcases hv with hv|hv
     ·rw [U9 hcell,U9 hv,ih _ h2]
     ·cases v with
      | arr k n xs=>exact absurd rfl (hna k n xs)
      | agg cs=>unfold mvV at h1;split at h1<;>cases h1;simp [AV.isCell] at hcell
      | tuple cs=>unfold mvV at h1;split at h1<;>cases h1;simp [AV.isCell] at hcell
      | _=>simp [AV.isCell] at hv
    ·cases h
   ·cases h
inductive MvB (σ:List Nat) (d:Nat):Blk→Blk→Prop
 | ints (k:IntKind) (xs:List Int):MvB σ d (.ints k xs) (.ints k xs)
 | flat (cs cs':List AV) (h:mvC σ d cs=some cs'):MvB σ d (.flat cs) (.flat cs')
 | rows (sz n:Nat) (f:Nat→List AV) (h:∀i,i<n→plainC (f i)=true):MvB σ d (.rows sz n f) (.rows sz n f)
 | rowsM (sz n:Nat) (f f':Nat→List AV) (h:∀i,i<n→mvC σ d (f i)=some (f' i)):MvB σ d (.rows sz n f) (.rows sz n f')
 | pmap (es es':List (AV×AV)) (h1:mvL σ d (es.map (·.1))=some (es'.map (·.1))) (h2:mvL σ d (es.map (·.2))=some (es'.map (·.2))):MvB σ d (.pmap es) (.pmap es')
inductive Z66 (σ:List Nat) (d:Nat):List (Nat×Blk)→List (Nat×Blk)→Prop
 | nil:Z66 σ d [] []
 | cons (y x:Nat) (B B':Blk) (r r':List (Nat×Blk)) (hx:mvN σ d y=x) (h:MvB σ d B B') (t:Z66 σ d r r'):Z66 σ d ((y,B)::r) ((x,B')::r')
inductive MvO (σ:List Nat) (d:Nat):Out→Out→Prop
 | ret (v v':AV) (h:mvV σ d v=some v'):MvO σ d (.ret v) (.ret v')
 | panic (v v':AV) (h:mvV σ d v=some v'):MvO σ d (.panic v) (.panic v')
theorem Z66.get {σ:List Nat} {d:Nat}:∀{bs bs':List (Nat×Blk)},Z66 σ d bs bs'→∀x B',ZH bs' x=some B'→∃y B,mvN σ d y=x∧ZH bs y=some B∧MvB σ d B B'
 | _,_,.nil,x,B',h=>by simp [ZH] at h
 | _,_,.cons y x0 B B0 r r' hx hm t,x,B',h=>by
  unfold ZH at h
  split at h
  ·rename_i hb
   have:=Nat.eq_of_beq_eq_true hb
   cases h
   exact ⟨y,B,hx.trans this,by simp [ZH,Nat.beq_refl],hm⟩
  ·rename_i hb
   obtain ⟨z,C,h1,h2,h3⟩:=t.get x B' h
   refine ⟨z,C,h1, ?_,h3⟩
   have hne:y≠z:=fun e=>by subst e;rw [hx] at h1;subst h1;simp [Nat.beq_refl] at hb
   simp [ZH,Zw hne,h2]
theorem MvB.move {σ:List Nat} {d:Nat} {B B':Blk} (hm:MvB σ d B B') {E E':Env} {w:World} {y:Nat} (hb:∀x r,E.blk x=some r→E'.blk (mvN σ d x)=some r) (hn:E.blk y=none→E'.blk (mvN σ d y)=none) (h:Yh E w y B):Yh E' w (mvN σ d y) B':=by
 cases hm with
 | ints k xs=>cases h with
  | ints0 k xs h0 hq=>exact .ints0 _ _ h0 (hn hq)
  | ints k xs b cells elem fr hq hw hf hv=>exact .ints _ _ b cells elem fr (hb _ _ hq) hw hf hv
 | flat cs cs' hc=>cases h with
  | flat0 cs h0 hq=>exact .flat0 _ ((ZbD _ _ hc).trans h0) (hn hq)
  | flat cs b cells elem fr vs hq hw hf hcr hv=>exact .flat _ b cells elem fr vs (hb _ _ hq) hw hf (Z1Q hb _ _ _ hc hcr).1 hv
 | rows sz n f hp=>cases h with
  | rows0 sz n f h0 hq=>exact .rows0 _ _ _ h0 (hn hq)
  | rows sz n f b cells elem fr g hq hw hf hcr hl hv=>exact .rows _ _ _ b cells elem fr g (hb _ _ hq) hw hf (fun i hi=>(hcr i hi).plain (hp i hi)) hl hv
 | rowsM sz n f f' hp=>cases h with
  | rows0 sz n f h0 hq=>exact .rows0 _ _ _ h0 (hn hq)
  | rows sz n f b cells elem fr g hq hw hf hcr hl hv=>exact .rows _ _ _ b cells elem fr g (hb _ _ hq) hw hf (fun i hi=>(Z1Q hb _ _ _ (hp i hi) (hcr i hi)).1) hl hv
 | pmap es es' h1 h2=>cases h with
  | pmap es b k ents ents' clock hq hw hpp hnn hi hk hv=>exact .pmap _ b k ents ents' clock (hb _ _ hq) hw hpp hnn hi (QV hb _ _ _ h1 hk) (QV hb _ _ _ h2 hv)
def Ua (σ:List Nat) (bs:List (Nat×Blk)):List (Nat×Blk):=match σ with
 | []=>bs
 | x::r=>Ua r (ZX bs x)
theorem Z0h:∀{σ:List Nat} {bs:List (Nat×Blk)} {x:Nat} {B:Blk},ZH (Ua σ bs) x=some B→ZH bs x=some B∧x∉σ
 | [],bs,x,B,h=>⟨h,by simp⟩
 | y::r,bs,x,B,h=>by
  obtain ⟨h1,h2⟩:=Z0h (σ:=r) h
  by_cases hn:y=x
  ·subst hn;rw [Uk] at h1;cases h1
  ·rw [W0 _ _ _ hn] at h1
   exact ⟨h1,by simp [h2,Ne.symm hn]⟩
theorem Spec.calls {P:Program} {f:FuncId} {args₀ args:List AV} {σ:List Nat} {Bs:List Blk} {o o':Out} {nx:Nat} {bs bs':List (Nat×Blk)} {h:Z7} {K:KO} (hc:Spec P f args₀ ⟨σ.length,XT 0 σ Bs⟩ o nx bs)
  (hlen:Bs.length=σ.length) (hm:∀x,x∈σ→∃B,h.get x=some B) (hd:Z2Q σ=true)
  (hx:∀(i x:Nat) (B:Blk),X9 σ i=some x→Bs[i]? =some B→∃B',h.get x=some B'∧∀(E:Env) (w:World),Emb E h w→Yh E w x B'→Yh (E.borL σ w true) w i B)
  (ha:∀(E:Env) (w:World) (r:List Value),Emb E h w→ZA E args r→ZA (E.borL σ w true) args₀ r)
  (hnx:σ.length≤nx) (ho:MvO σ h.next o o') (hb:Z66 σ h.next bs bs') (hK:K o' ⟨h.next+(nx-σ.length),VO bs' (Ua σ h.bs)⟩):Zg P f args h K:=by
 intro E w rs he hr
 let E0:=E.borL σ w true
 have hsub:∀i x,X9 σ i=some x→E0.blk i=E.blk x:=fun i x hi=>by
  show (match X9 σ i with|some x=>E.blk x|none=>none)=_
  rw [hi]
 have hnone:∀i,σ.length≤i→E0.blk i=none:=fun i hi=>by
  show (match X9 σ i with|some x=>E.blk x|none=>none)=_
  rw [Z74 hi]
 have hσlt:∀x,x∈σ→x<h.next:=fun x hx=>let ⟨B,hB⟩:=hm x hx;he.lt x B hB
 have hsb:∀y B,ZH (XT 0 σ Bs) y=some B→∃x,X9 σ y=some x∧Bs[y]? =some B:=fun y B hy=>by
  obtain ⟨i,x,rfl,h1,h2⟩:=Xx σ Bs 0 y B hy
  rw [Nat.zero_add]
  exact ⟨x,by rw [Z1O];exact h1,h2⟩
 have hinj:∀y z x,X9 σ y=some x→X9 σ z=some x→y=z:=fun y z x h1 h2=>by
  have a:=VQ hd y x h1
  have b:=VQ hd z x h2
  rw [a] at b
  cases b
  rfl
 have hemb:Emb E0 ⟨σ.length,XT 0 σ Bs⟩ w:=by
  refine ⟨hnone, ?_, ?_, ?_,fun _ _ h=>h.1, ?_⟩
  ·intro y B hy
   obtain ⟨x,h1,_⟩:=hsb y B hy
   exact Z73 h1
  ·intro y B hy
   obtain ⟨x,h1,h2⟩:=hsb y B hy
   obtain ⟨B',hB',hq⟩:=hx y x B h1 h2
   exact hq E w he (he.own x B' hB')
  ·intro y z B C b N N' hy hz hby hbz
   obtain ⟨x,h1,h2⟩:=hsb y B hy
   obtain ⟨x',h3,h4⟩:=hsb z C hz
   rw [hsub y x h1] at hby
   rw [hsub z x' h3] at hbz
   obtain ⟨B',hB'⟩:=hm x (Xq h1)
   obtain ⟨C',hC'⟩:=hm x' (Xq h3)
   have:=he.disj x x' B' C' b N N' hB' hC' hby hbz
   subst this
   exact hinj y z x h1 h3
  ·intro a c y B N hi hy hbb
   obtain ⟨x,h1,_⟩:=hsb y B hy
   rw [hsub y x h1] at hbb
   exact hi.2 x (Xq h1) N hbb
 refine (hc E0 w rs hemb (ha E w rs he hr)).mono ?_
 rintro e w' ⟨E₁,hev,hor⟩
 let E':Env:=⟨fun x=>match Xp σ x with
  | some i=>E₁.blk i
  | none=>if x<h.next then E.blk x else E₁.blk (x-h.next+σ.length),E.imm⟩
 have hρ:∀y,E'.blk (mvN σ h.next y)=E₁.blk y:=fun y=>by
  rcases Nat.lt_or_ge y σ.length with hlt|hge
  ·obtain ⟨x,hx'⟩:=UV hlt
   rw [Z64 hx']
   show (match Xp σ x with|some i=>_|none=>_)=_
   rw [VQ hd y x hx']
  ·rw [Z65 hge]
   have hn:Xp σ (h.next+(y-σ.length))=none:=by
    cases hq:Xp σ (h.next+(y-σ.length)) with
    | none=>rfl
    | some i=>have:=hσlt _ (Xq (WW hq));omega
   show (match Xp σ _ with|some i=>_|none=>_)=_
   rw [hn]
   show (if _ then _ else _)=_
   rw [if_neg (by omega)]
   congr 1
   omega
 have hold:∀x,x<h.next→Xp σ x=none→E'.blk x=E.blk x:=fun x hx hn=>by
  show (match Xp σ x with|some i=>_|none=>_)=_
  rw [hn]
  exact if_pos hx
 have hfresh:∀x,E.blk x≠none→x<h.next:=fun x hx=>by
  rcases Nat.lt_or_ge x h.next with hl|hg
  ·exact hl
  ·exact absurd (he.fresh x hg) hx
 have hle:E.le E':=⟨fun x q hq=>by
  cases hi:Xp σ x with
  | some i=>
   show (match Xp σ x with|some i=>_|none=>_)=_
   rw [hi]
   exact hev.le.blk i q ((hsub i x (WW hi)).trans hq)
  | none=>rw [hold x (hfresh x (by rw [hq];simp)) hi];exact hq,fun _ _ h=>h⟩
 have hown0:∀b,YZ E0 ⟨σ.length,XT 0 σ Bs⟩ b→∃x N,x∈σ∧E.blk x=some (b,N):=fun b ⟨y,B,N,hy,hbb⟩=>by
  obtain ⟨x,h1,_⟩:=hsb y B hy
  exact ⟨x,N,Xq h1,by rw [←hsub y x h1];exact hbb⟩
 have hkeep:∀b,b<w.heap.size→(∀x N,x∈σ→E.blk x=some (b,N)→False)→w'.heap[b]? =w.heap[b]?:=fun b hb hn=>hev.keep b hb (fun ho=>let ⟨x,N,h1,h2⟩:=hown0 b ho;hn x N h1 h2)
 have hget:∀x B',Z7.get ⟨h.next+(nx-σ.length),VO bs' (Ua σ h.bs)⟩ x=some B'→
   (∃y B,mvN σ h.next y=x∧ZH bs y=some B∧MvB σ h.next B B')∨(x<h.next∧x∉σ∧h.get x=some B'):=fun x B' hx=>by
  simp only [Z7.get,Z2J] at hx
  split at hx
  ·rename_i B0 hq
   cases hx
   exact .inl (hb.get x _ hq)
  ·obtain ⟨h1,h2⟩:=Z0h hx
   exact .inr ⟨he.lt x B' h1,h2,h1⟩
 have hni:∀x,x∉σ→Xp σ x=none:=fun x hx=>by
  cases hq:Xp σ x with
  | none=>rfl
  | some i=>exact absurd (Xq (WW hq)) hx
 have hmix:∀y B z C b N N',ZH bs y=some B→E₁.blk y=some (b,N)→z∉σ→h.get z=some C→E.blk z=some (b,N')→False:=fun y B z C b N N' hy hby hz hz' hbz=>by
  rcases hev.own b ⟨y,B,N,hy,hby⟩ with ho|hs
  ·obtain ⟨x,M,h1,h2⟩:=hown0 b ho
   obtain ⟨D,hD⟩:=hm x h1
   have:=he.disj x z D C b M N' hD hz' h2 hbz
   subst this
   exact hz h1
  ·have:=(he.own z C hz').lt hbz
   omega
 have himm0:∀a c,E.imm a c→E0.imm a c:=fun a c hi=>⟨he.imm a c hi,fun x hx N hbb=>let ⟨B,hB⟩:=hm x hx;he.sep a c x B N hi hB hbb⟩
 have hemb':Emb E' ⟨h.next+(nx-σ.length),VO bs' (Ua σ h.bs)⟩ w':=by
  refine ⟨?_, ?_, ?_, ?_, ?_, ?_⟩
  ·intro x hx
   have hx':h.next+(nx-σ.length)≤x:=hx
   have hn:Xp σ x=none:=hni x (fun hq=>by have:=hσlt x hq;omega)
   show (match Xp σ x with|some i=>_|none=>_)=_
   rw [hn]
   show (if _ then _ else _)=_
   rw [if_neg (by omega)]
   exact hev.emb.fresh _ (by show nx≤_;omega)
  ·intro x B hx
   show x<h.next+(nx-σ.length)
   rcases hget x B hx with ⟨y,B0,rfl,hy,_⟩|⟨hlt,_,_⟩
   ·have hyn:y<nx:=hev.emb.lt y B0 hy
    rcases Nat.lt_or_ge y σ.length with hlt|hge
    ·obtain ⟨x,hx'⟩:=UV hlt
     rw [Z64 hx']
     have:=hσlt x (Xq hx')
     omega
    ·rw [Z65 hge]
     omega
   ·omega
  ·intro x B hx
   rcases hget x B hx with ⟨y,B0,rfl,hy,hmv⟩|⟨hlt,hnσ,hx'⟩
   ·exact hmv.move (E:=E₁) (fun x r hq=>by rw [hρ];exact hq) (fun hq=>by rw [hρ];exact hq) (hev.emb.own y B0 hy)
   ·have h1:=(he.own x B hx').mono hle (fun hn=>by rw [hold x hlt (hni x hnσ)];exact hn)
    refine h1.congr fun b N hbb=> ?_
    rw [hold x hlt (hni x hnσ)] at hbb
    refine hkeep b ((he.own x B hx').lt hbb) fun z M hz hbz=> ?_
    obtain ⟨D,hD⟩:=hm z hz
    have:=he.disj x z B D b N M hx' hD hbb hbz
    subst this
    exact hnσ hz
  ·intro x z B C b N N' hx hz hbx hbz
   rcases hget x B hx with ⟨y,B0,rfl,hy,hmv⟩|⟨hlt,hnσ,hx'⟩<;>rcases hget z C hz with ⟨y',C0,rfl,hy',hmv'⟩|⟨hlt',hnσ',hz'⟩
   ·rw [hρ] at hbx hbz
    rw [hev.emb.disj y y' B0 C0 b N N' hy hy' hbx hbz]
   ·rw [hρ] at hbx
    rw [hold z hlt' (hni z hnσ')] at hbz
    exact (hmix y B0 z C b N N' hy hbx hnσ' hz' hbz).elim
   ·rw [hρ] at hbz
    rw [hold x hlt (hni x hnσ)] at hbx
    exact (hmix y' C0 x B b N' N hy' hbz hnσ hx' hbx).elim
   ·rw [hold x hlt (hni x hnσ)] at hbx
    rw [hold z hlt' (hni z hnσ')] at hbz
    exact he.disj x z B C b N N' hx' hz' hbx hbz
  ·intro a c hi
   exact hev.emb.imm a c (hev.le.imm a c (himm0 a c hi))
  ·intro a c x B N hi hx hbx
   rcases hget x B hx with ⟨y,B0,rfl,hy,hmv⟩|⟨hlt,hnσ,hx'⟩
   ·rw [hρ] at hbx
    exact hev.emb.sep a c y B0 N (hev.le.imm a c (himm0 a c hi)) hy hbx
   ·rw [hold x hlt (hni x hnσ)] at hbx
    exact he.sep a c x B N hi hx' hbx
 refine ⟨E',o',_,hK,⟨hle,hemb',hev.size,hev.os,hev.tape,hev.output,fun b hb' hno=>hkeep b hb' (fun x N hx hbx=> ?_), ?_,fun _ _ h=>h⟩, ?_⟩
 ·obtain ⟨B,hB⟩:=hm x hx
  exact hno ⟨x,B,N,hB,hbx⟩
 ·rintro b ⟨x,B,N,hx,hbx⟩
  rcases hget x B hx with ⟨y,B0,rfl,hy,hmv⟩|⟨hlt,hnσ,hx'⟩
  ·rw [hρ] at hbx
   rcases hev.own b ⟨y,B0,N,hy,hbx⟩ with ho|hs
   ·obtain ⟨z,M,h1,h2⟩:=hown0 b ho
    obtain ⟨D,hD⟩:=hm z h1
    exact .inl ⟨z,D,M,hD,h2⟩
   ·exact .inr hs
  ·rw [hold x hlt (hni x hnσ)] at hbx
   exact .inl ⟨x,B,N,hx',hbx⟩
 ·cases ho with
  | ret v v' hv=>cases hor with
   | ret v r hr=>exact .ret _ _ (Z1P (fun x q hq=>by rw [hρ];exact hq) _ _ _ hv hr)
  | panic v v' hv=>cases hor with
   | panic v r hr=>exact .panic _ _ (Z1P (fun x q hq=>by rw [hρ];exact hq) _ _ _ hv hr)
theorem Spec.fsumm {P:Program} {f:FuncId} {args:List AV} {σ:List Nat} {h:Z7} {d:Nat} {K0:List Blk→List AV→Prop} {K:KO} (hl:frA σ h d args K0)
  (hK:∀Bs a₀,Bs.length=σ.length→K0 Bs a₀→∃o nx bs o' bs',Spec P f a₀ ⟨σ.length,XT 0 σ Bs⟩ o nx bs∧σ.length≤nx∧MvO σ h.next o o'∧Z66 σ h.next bs bs'∧K o' ⟨h.next+(nx-σ.length),VO bs' (Ua σ h.bs)⟩):Zg P f args h K:=by
 obtain ⟨hm,hd,Bs,a,hK0,hlen,hx,ha⟩:=ZdJ hl
 obtain ⟨o,nx,bs,o',bs',h1,h2,h3,h4,h5⟩:=hK Bs a hlen hK0
 exact Spec.calls h1 hlen hm hd hx ha h2 h3 h4 h5
end Go.Tk
end
section
namespace Go.Tk
open IntKind (i64 u8 u32 u64 wrap)
def goL (k:Nat) (τ:Ren) (S0:St) (C:Prop) (ends:KE→Prop):Nat→St→KE→Prop:=fun k' s X=>match Nat.beq k' k with
 | true=>ZR k τ S0 s (C∧ends X)
 | false=>False
def Z0i (id n:Nat) (go ex re:Nat→Prop) (En Rn:Nat→St):KE→Prop:=fun X=>
 ∀i,i≤n→(∀j,j<i→go j)→(ex i→X (.exit id) (En i))∧(re i→X .ret (Rn i))
theorem Ze.withGo {G:Ze} (hG:G.Ok) {f:FuncId} {id k N n:Nat} {τ0 τ1 τ2 τ3:Ren} {S En Rn:Nat→St} {S0:St} {C:Prop} {go ex re:Nat→Prop} (h1:WP G.P f id=true) (hC:C→S 0=S0∧
   ∀i,i≤n→(∀j,j<i→go j)→Yf G N f id k (S i) fun e s=>match e with
    | .normal=>ZR k τ1 (S (i+1)) s (go i∧i<n)
    | .exit x=>(match Nat.beq x id with|true=>ZR k τ2 (En i) s (ex i)|false=>False)
    | .ret=>ZR k τ3 (Rn i) s (re i)
    | _=>False):
  (G.withL f id (goL k τ0 S0 C (Z0i id n go ex re En Rn))).Ok:=by
 refine Ze.withL_ok hG h1 ?_
 intro k' s X hl
 unfold goL at hl
 split at hl
 ·rename_i hk
  have:=Nat.eq_of_beq_eq_true hk
  subst this
  obtain ⟨⟨hc,hX⟩,hw⟩:=Y3 hl
  obtain ⟨e0,hr⟩:=hC hc
  refine ⟨{ t:Nat//t≤n∧∀j,j<t→go j},fun t=>n-t.1,fun t=>S t.1,⟨0,Nat.zero_le _,fun j hj=>by omega⟩,N,by show VL k' s (S 0);rw [e0];exact hw, ?_⟩
  rintro ⟨t,ht,hgo⟩
  refine ⟨_,hr t ht hgo, ?_⟩
  intro e s' hY
  split at hY
  ·obtain ⟨⟨hg,hlt⟩,hw'⟩:=Y3 hY
   refine ⟨⟨t+1,hlt,fun j hj=> ?_⟩,by show n-(t+1)<n-t;omega,hw'⟩
   by_cases hjt:j=t
   ·rw [hjt];exact hg
   ·exact hgo j (by omega)
  ·split at hY
   ·rename_i hi
    have:=Nat.eq_of_beq_eq_true hi
    subst this
    obtain ⟨hex,hw'⟩:=Y3 hY
    exact ⟨_,hw',(hX t ht hgo).1 hex⟩
   ·exact hY.elim
  ·obtain ⟨hre,hw'⟩:=Y3 hY
   exact ⟨_,hw',(hX t ht hgo).2 hre⟩
  ·exact hY.elim
 ·exact hl.elim
def WX (id n l:Nat) (go ex re jm:Nat→Prop) (En Rn Jn:Nat→St):KE→Prop:=fun X=>
 ∀i,i≤n→(∀j,j<i→go j)→(ex i→X (.exit id) (En i))∧(re i→X .ret (Rn i))∧(jm i→X (.goto l) (Jn i))
theorem Ze.withGoJ {G:Ze} (hG:G.Ok) {f:FuncId} {id k N n l:Nat} {τ0 τ1 τ2 τ3 τ4:Ren} {S En Rn Jn:Nat→St} {S0:St} {C:Prop} {go ex re jm:Nat→Prop} (h1:WP G.P f id=true) (hC:C→S 0=S0∧
   ∀i,i≤n→(∀j,j<i→go j)→Yf G N f id k (S i) fun e s=>match e with
    | .normal=>ZR k τ1 (S (i+1)) s (go i∧i<n)
    | .exit x=>(match Nat.beq x id with|true=>ZR k τ2 (En i) s (ex i)|false=>False)
    | .ret=>ZR k τ3 (Rn i) s (re i)
    | .goto x=>(match Nat.beq x l with|true=>ZR k τ4 (Jn i) s (jm i)|false=>False)
    | _=>False):
  (G.withL f id (goL k τ0 S0 C (WX id n l go ex re jm En Rn Jn))).Ok:=by
 refine Ze.withL_ok hG h1 ?_
 intro k' s X hl
 unfold goL at hl
 split at hl
 ·rename_i hk
  have:=Nat.eq_of_beq_eq_true hk
  subst this
  obtain ⟨⟨hc,hX⟩,hw⟩:=Y3 hl
  obtain ⟨e0,hr⟩:=hC hc
  refine ⟨{ t:Nat//t≤n∧∀j,j<t→go j},fun t=>n-t.1,fun t=>S t.1,⟨0,Nat.zero_le _,fun j hj=>by omega⟩,N,by show VL k' s (S 0);rw [e0];exact hw, ?_⟩
  rintro ⟨t,ht,hgo⟩
  refine ⟨_,hr t ht hgo, ?_⟩
  intro e s' hY
  split at hY
  ·obtain ⟨⟨hg,hlt⟩,hw'⟩:=Y3 hY
   refine ⟨⟨t+1,hlt,fun j hj=> ?_⟩,by show n-(t+1)<n-t;omega,hw'⟩
   by_cases hjt:j=t
   ·rw [hjt];exact hg
   ·exact hgo j (by omega)
  ·split at hY
   ·rename_i hi
    have:=Nat.eq_of_beq_eq_true hi
    subst this
    obtain ⟨hex,hw'⟩:=Y3 hY
    exact ⟨_,hw',(hX t ht hgo).1 hex⟩
   ·exact hY.elim
  ·obtain ⟨hre,hw'⟩:=Y3 hY
   exact ⟨_,hw',(hX t ht hgo).2.1 hre⟩
  ·split at hY
   ·rename_i hi
    have:=Nat.eq_of_beq_eq_true hi
    subst this
    obtain ⟨hjm,hw'⟩:=Y3 hY
    exact ⟨_,hw',(hX t ht hgo).2.2 hjm⟩
   ·exact hY.elim
  ·exact hY.elim
 ·exact hl.elim
theorem Zc {p x:Prop} [Decidable p]:Z0 (decide p) x False=(p∧x):=by
 by_cases h:p
 ·rw [decide_eq_true h];simp [Z0,h]
 ·rw [decide_eq_false h];simp [Z0,h]
theorem Zj {p x:Prop} [Decidable p]:Z0 (decide p) False x=(¬p∧x):=by
 by_cases h:p
 ·rw [decide_eq_true h];simp [Z0,h]
 ·rw [decide_eq_false h];simp [Z0,h]
theorem Zd {p x y:Prop} [Decidable p]:Z0 (decide p) x y=((p→x)∧(¬p→y)):=by
 by_cases h:p
 ·rw [decide_eq_true h];simp [Z0,h]
 ·rw [decide_eq_false h];simp [Z0,h]
theorem Zk {b:Bool} {x:Prop}:Z0 b x False=(b=true∧x):=by cases b<;>simp [Z0]
theorem Zl {b:Bool} {x:Prop}:Z0 b False x=(b=false∧x):=by cases b<;>simp [Z0]
theorem Zb {b:Bool} {x y:Prop}:Z0 b x y=((b=true→x)∧(b=false→y)):=by cases b<;>simp [Z0]
theorem Z8f {k:Nat} {τ:Ren} {v:AV} (hp:v.plain=true) (hc:v.isCell=true) {Z:Prop} (hZ:Z):eqV k τ v v Z:=by
 cases v with
 | ptr p=>cases p<;>simp_all [AV.plain,eqV]
 | map r=>cases r<;>simp_all [AV.plain,eqV]
 | _=>simp_all [AV.plain,eqV,VW,AV.isCell]
theorem Z2R {k:Nat} {τ:Ren}:∀{l:List AV},plainC l=true→∀{Z:Prop},Z→(∀v∈l,v.isCell=true∨∃k n xs,v=.arr k n xs)→eqC k τ l l Z
 | [],_,Z,hZ,_=>by simp [eqC,hZ]
 | v::r,hp,Z,hZ,hc=>by
  simp only [plainC,Bool.and_eq_true] at hp
  have hr:=Z2R (k:=k) (τ:=τ) hp.2 hZ (fun u hu=>hc u (List.mem_cons_of_mem _ hu))
  rcases hc v (by simp) with hv|⟨kk,n,xs,rfl⟩
  ·have hna:∀a b c,v≠.arr a b c:=fun a b c e=>by subst e;simp [AV.isCell] at hv
   cases v with
   | arr a b c=>exact absurd rfl (hna a b c)
   | agg cs=>simp [AV.isCell] at hv
   | tuple cs=>simp [AV.isCell] at hv
   | _=>simp only [eqC,hv,Bool.and_self];exact Z8f hp.1 hv hr
  ·unfold eqC
   simp [hr,Nat.beq_refl]
theorem QW {k:Nat} {τ:Ren} {n:Nat} {f f':Nat→List AV} (h:∀i,i<n→f' i=f i) (hp:∀i,i<n→plainC (f i)=true) (hc:∀i,i<n→∀v∈f i,v.isCell=true∨∃k n xs,v=.arr k n xs):Zz k τ n f f':=
 ⟨fun i hi=>by rw [h i hi];exact Z2R (hp i hi) trivial (hc i hi)⟩
theorem ZdK {a b:Nat} (h:a<b):Nat.blt a b=true:=by rw [Nat.blt_eq];exact h
theorem ZdL {a b:Nat} (h:Nat.blt a b=true):a<b:=by rw [Nat.blt_eq] at h;exact h
theorem Z3O {n i:Nat} {f g:Nat→List AV} (h:i<n):ZE n f g i=f i:=by unfold ZE;rw [ZdK h]
theorem Ub {n i:Nat} {f g:Nat→List AV} (h:n≤i):ZE n f g i=g (i-n):=by
 unfold ZE
 have:Nat.blt i n=false:=by
  cases hq:Nat.blt i n with
  | false=>rfl
  | true=>have:=ZdL hq;omega
 rw [this]
theorem ZD.vrows0 {P:Program} {f:FuncId} {esz:Nat} {g:Nat→List AV} {v:AV} {nx:Nat} {bs:List (Nat×Blk)} (h1:ZD P f [.nilslice] v nx bs) (h2:ZD P f [.fslice] v nx bs):ZD P f [.vrows esz 0 g 0] v nx bs:=by
 intro E w rs he hr
 cases hr with
 | cons v r vs rs hv ht=>cases ht with
  | nil=>cases hv with
   | vrowsNil esz n f len _ _=>exact h1 E w _ he (.cons _ _ _ _ .nilslice .nil)
   | vrows esz n f len a cap g _ _ _ _ _=>exact h2 E w _ he (.cons _ _ _ _ (.fslice a cap) .nil)
theorem ZD.vints0 {P:Program} {f:FuncId} {k:IntKind} {v:AV} {nx:Nat} {bs:List (Nat×Blk)} (h1:ZD P f [.nilslice] v nx bs) (h2:ZD P f [.fslice] v nx bs):ZD P f [.vints k [] 0] v nx bs:=by
 intro E w rs he hr
 cases hr with
 | cons v r vs rs hv ht=>cases ht with
  | nil=>cases hv with
   | vintsNil k xs len _ _=>exact h1 E w _ he (.cons _ _ _ _ .nilslice .nil)
   | vints k xs len a cap _ _ _=>exact h2 E w _ he (.cons _ _ _ _ (.fslice a cap) .nil)
end Go.Tk
namespace Go.Tk
open IntKind (i64 u8 u32 u64 wrap)
mutual
theorem UW {mv:Option Nat} {h:Z7}:∀(d:Nat) (t:Bool) (v:AV) (K K':AV→Prop),VN mv h t d v K→(∀a,K a→K' a)→VN mv h t d v K'
 | 0,t,v,K,K',hl,hK=>by unfold VN at hl;exact hl.elim
 | d+1,t,v,K,K',hl,hK=>by
  unfold VN at hl⊢
  split at hl
  all_goals try exact hK _ hl
  all_goals try exact hl.elim
  ·split at hl
   ·split at hl
    ·exact hl.elim
    ·exact hK _ hl
   ·split at hl
    ·split at hl
     ·exact XA _ _ _ _ _ hl fun _ h=>hK _ h
     ·exact hl.elim
    ·split at hl
     ·obtain ⟨h1,h2⟩:=Z9 hl
      refine VW h1 ?_
      split at h2
      ·exact XA _ _ _ _ _ h2 fun _ h=>hK _ h
      ·exact h2.elim
     ·exact hl.elim
    ·exact hl.elim
  ·split at hl
   ·split at hl
    ·exact hl.elim
    ·exact hK _ hl
   ·split at hl
    ·split at hl
     ·obtain ⟨h1,h2⟩:=Z9 hl
      exact VW h1 (hK _ h2)
     ·exact hl.elim
    ·split at hl
     ·obtain ⟨h1,h2,h3⟩:=Z9 hl
      exact VW h1 ⟨h2,hK _ h3⟩
     ·exact hl.elim
    ·split at hl
     ·split at hl
      ·split at hl
       ·split at hl
        ·obtain ⟨h1,h2⟩:=Z9 hl
         exact VW h1 (hK _ h2)
        ·obtain ⟨h1,h2⟩:=Z9 hl
         exact VW h1 (hK _ h2)
        ·exact hl.elim
       ·exact hl.elim
      ·split at hl
       ·refine XA _ _ _ _ _ hl fun _ h=> ?_
        split at h
        ·exact hK _ h
        ·exact h.elim
       ·exact hl.elim
     ·exact hl.elim
    ·exact hl.elim
  ·exact Zn _ _ _ _ _ hl fun _ h=>Zn _ _ _ _ _ h fun _ h=>hK _ h
  ·exact UW _ _ _ _ _ hl fun _ h=>hK _ h
  ·exact XA _ _ _ _ _ hl fun _ h=>hK _ h
  ·exact Zn _ _ _ _ _ hl fun _ h=>hK _ h
theorem XA {mv:Option Nat} {h:Z7}:∀(d:Nat) (t:Bool) (l:List AV) (K K':List AV→Prop),WQ mv h t d l K→(∀a,K a→K' a)→WQ mv h t d l K'
 | 0,t,l,K,K',hl,hK=>by unfold WQ at hl;exact hl.elim
 | d+1,t,l,K,K',hl,hK=>by
  unfold WQ at hl⊢
  split at hl
  ·exact hK _ hl
  ·exact XA _ _ _ _ _ hl fun _ h=>hK _ h
  ·refine UW _ _ _ _ _ hl fun _ h=> ?_
   split at h
   ·exact XA _ _ _ _ _ h fun _ h=>hK _ h
   ·exact h.elim
theorem Zn {mv:Option Nat} {h:Z7}:∀(d:Nat) (t:Bool) (l:List AV) (K K':List AV→Prop),ZL mv h t d l K→(∀a,K a→K' a)→ZL mv h t d l K'
 | 0,t,l,K,K',hl,hK=>by unfold ZL at hl;exact hl.elim
 | d+1,t,l,K,K',hl,hK=>by
  unfold ZL at hl⊢
  split at hl
  ·exact hK _ hl
  ·exact UW _ _ _ _ _ hl fun _ h=>Zn _ _ _ _ _ h fun _ h=>hK _ h
end
end Go.Tk
end
section
namespace Go.Tk
open IntKind (i64 u8 u32 u64 wrap)
def Zf (g:Nat→InS):Nat→List AV:=fun q=>(g q).c
def Zi (g:Nat→ZM):Nat→List AV:=fun q=>(g q).c
theorem InS.plainC (x:InS):plainC x.c=true:=rfl
theorem ZM.plainC (x:ZM):plainC x.c=true:=rfl
theorem InS.cells (x:InS):∀v∈x.c,v.isCell=true∨∃k n xs,v=.arr k n xs:=by simp [InS.c,AV.isCell]
theorem ZM.cells (x:ZM):∀v∈x.c,v.isCell=true∨∃k n xs,v=.arr k n xs:=by simp [ZM.c,AV.isCell]
theorem Ys {k:Nat} {τ:Ren} {n:Nat} {g:Nat→InS} {f:Nat→List AV} (h:∀i,i<n→f i=(g i).c):Zz k τ n (Zf g) f:=QW h (fun i _=>(g i).plainC) (fun i _=>(g i).cells)
theorem Yn {k:Nat} {τ:Ren} {n:Nat} {g:Nat→ZM} {f:Nat→List AV} (h:∀i,i<n→f i=(g i).c):Zz k τ n (Zi g) f:=QW h (fun i _=>(g i).plainC) (fun i _=>(g i).cells)
theorem ZbE (N:Nat) (g:Nat→InS) (hN:N+1<900000000000):
  evF G0 20 91 [.vrows 130 (N+1) (Zf g) (N+1)] ⟨0,[]⟩ (Yy 0 [(0,0)] (.nslice ⟨0,0,130,0,0⟩ 130 (N+1) (N+1)) 1 [(0,.rows 130 (N+1) (Zf g))]):=by
 refine @Eq.mpr _ (let q1:=N+1;
 let q2:=0+q1;
 let q3:=decide (q2=q1);
 Z0 (decide (q2*144≤140737488355328)) (Z0 q3 (Z0 (decide (q1≤q2)) (Z0 q3 (Zz 0 [(0,0)] q1 (Zf g) (ZE 0 (fun (x:Nat)=>[]) (Zf g))∧True) False) False) False) False) (by kernel_rfl) ?_
 conv=>zeta
 refine nd (by omega) (nd (by omega) (nd (by omega) (nd (by omega) ⟨Ys fun i hi=> ?_,trivial⟩)))
 rw [Ub (Nat.zero_le _)];rfl
theorem ZbF (g:Nat→InS) :
  evF G0 20 91 [.nilslice] ⟨0,[]⟩ (Yy 0 [] (.nslice ⟨0,0,130,0,0⟩ 130 0 0) 1 [(0,.rows 130 0 (Zf g))]):=by
 refine @Eq.mpr _ (True) (by kernel_rfl) ?_
 trivial
theorem ZbG (g:Nat→InS) :
  evF G0 20 91 [.fslice] ⟨0,[]⟩ (Yy 0 [(0,0)] (.nslice ⟨0,0,130,0,0⟩ 130 0 0) 1 [(0,.rows 130 0 (Zf g))]):=by
 refine @Eq.mpr _ (Zz 0 [(0,0)] 0 (Zf g) (ZE 0 (fun (x:Nat)=>[]) fun (x:Nat)=>[])∧True) (by kernel_rfl) ?_
 exact ⟨Ys fun i hi=>by omega,trivial⟩
theorem Z67 (N:Nat) (g:Nat→InS) (hN:N<900000000000):ZD PP 91 [.vrows 130 N (Zf g) N] (.nslice ⟨0,0,130,0,0⟩ 130 N N) 1 [(0,.rows 130 N (Zf g))]:=by
 cases N with
 | zero=>exact ZD.vrows0 (.ev Zu (ZbF g)) (.ev Zu (ZbG g))
 | succ n=>exact .ev Zu (ZbE n g hN)
def Z9Q (N:Nat) (g:Nat→InS) (Z:Prop):ZQ:=fun args h K=>ZL none h true 20 args fun a=>match a with
 | [.vrows 130 n f m]=>Zo (n=N) (Zo (m=N) (f=Zf g∧Z∧K (.ret (.nslice ⟨h.next,0,130,0,0⟩ 130 N N)) ⟨h.next+1,(h.next,.rows 130 N (Zf g))::h.bs⟩))
 | _=>False
theorem Z8g (N:Nat) (g:Nat→InS) (args:List AV) (h:Z7) (K:KO) (hl:Z9Q N g (N<900000000000) args h K):Zg PP 91 args h K:=by
 refine ZD.fsumm (d:=20) (Zn _ _ _ _ _ hl fun a ha=> ?_)
 split at ha
 ·obtain ⟨rfl,ha⟩:=Z9 ha
  obtain ⟨rfl,rfl,hN,hK⟩:=Z9 ha
  exact ⟨_,_,_,_,Z67 _ _ hN,rfl,⟨Nat.one_pos,.rows _ _ _ (fun i _=>(g i).plainC),trivial⟩,hK⟩
 ·exact ha.elim
def WY (N:Nat) (g:Nat→InS) (t:Nat):Nat→InS:=fun q=>if q<t∨N<q+t+1 then g (N-1-q) else g q
def UX (N:Nat) (g:Nat→InS):Nat→InS:=fun q=>g (N-1-q)
def Z68 (N:Nat) (g:Nat→InS) (t:Nat):St:=⟨28,[(0,.nslice ⟨0,0,130,0,0⟩ 130 N N),(3,.int .i64 ((N:Int)-1-t)),(2,.int .i64 t)],⟨1,[(0,.rows 130 N (Zf (WY N g t)))]⟩,[]⟩
theorem Zfa (N:Nat) (g:Nat→InS) (t:Nat) (hN:N<900000000000) (ht:t≤N) (hgo:∀j:Nat,j<t→(j:Int)<(N:Int)-1-j):
  Yf G0 20 244 0 1 (Z68 N g t) (fun e s=>match e with|.normal=>ZR 1 [] (Z68 N g (t+1)) s (((t:Int)<(N:Int)-1-t)∧t<N)|.exit x=>(match Nat.beq x 0 with|true=>ZR 1 [] (Z68 N g t) s (¬(t:Int)<(N:Int)-1-t)|false=>False)|.ret=>ZR 1 [] (Z68 N g t) s False|_=>False):=by
 refine @Eq.mpr _ (let q1:=(↑N:Int)-1;
 let q2:=q1-(↑t:Int);
 let q3:=decide (0≤q2∧q2<(↑N:Int));
 let q4:=0+Int.toNat q2;
 let q5:=decide (0≤(↑t:Int)∧(↑t:Int)<(↑N:Int));
 let q6:=0+Int.toNat (↑t:Int);
 let q7:=decide (N=N);
 let q8:=decide (N≤N);
 let q9:=(↑(t+1):Int);
 let q10:=Zf (WY N g t);
 let q11:=WY N g t q4;
 let q12:=WY N g t q6;
 Z0 (decide ((↑t:Int)<q2)) (Z0 q3 (Z0 (decide (q4<N)) (Z0 q5 (Z0 (decide (q6<N)) (Z0 q5 (Z0 (decide (q6<N)) (Z0 q3 (Z0 (decide (q4<N)) (Z0 q7 (Z0 q8 (Z0 (decide (wrap i64 (q2-1)=q1-q9)) (Z0 (decide (wrap i64 ((↑t:Int)+1)=q9)) (Z0 q7 (Zz 1 [] N (Zf (WY N g (t+1))) (Uy (Uy q10 q6 [AV.arr u8 32 q11.name,AV.int i64 q11.index,AV.int i64 q11.way,AV.arr u8 32 q11.tag,AV.arr u8 32 q11.also,AV.arr u8 32 q11.secret]) q4 [AV.arr u8 32 q12.name,AV.int i64 q12.index,AV.int i64 q12.way,AV.arr u8 32 q12.tag,AV.arr u8 32 q12.also,AV.arr u8 32 q12.secret])∧(↑t:Int)<q2∧t<N) False) False) False) False) False) False) False) False) False) False) False) False) False)
 (Z0 q7 (Z0 q8 (Z0 (decide (q2=q2)) (Z0 (decide ((↑t:Int)=(↑t:Int))) (Z0 q7 (Zz 1 [] N q10 q10∧((↑t:Int)<q2→False)) False) False) False) False) False)) (by kernel_rfl) ?_
 conv=>zeta
 simp only [Zc]
 simp only [Zd]
 have hrows:Zz 1 [] N (Zf (WY N g t)) (Zf (WY N g t)):=Ys fun _ _=>rfl
 refine ⟨fun h1=> ?_,fun h1=>by simp [hrows,h1]⟩
 have hw1:i64.wrap ((t:Int)+1)=(t:Int)+1:=w64 (by omega)
 have hw2:i64.wrap ((N:Int)-1-t-1)=(N:Int)-1-t-1:=w64 (by omega)
 have e1:0+((N:Int)-1-t).toNat=N-1-t:=by omega
 have e2:0+(t:Int).toNat=t:=by omega
 simp only [e1,e2,hw1,hw2]
 refine ⟨by omega,by omega,by omega,by omega,by omega,by omega,by omega,by omega,trivial,by omega,by omega,by omega,trivial,Ys fun q hq=> ?_,h1,by omega⟩
 rw [XV,XV]
 have g1:WY N g t (N-1-t)=g (N-1-t):=by unfold WY;rw [if_neg (by omega)]
 have g2:WY N g t t=g t:=by unfold WY;rw [if_neg (by omega)]
 rw [g1,g2]
 by_cases q1:q=N-1-t
 ·subst q1
  rw [Nat.beq_refl]
  show (g t).c=_
  unfold WY
  rw [if_pos (by omega)]
  congr 2;omega
 ·rw [Zw q1]
  by_cases q2:q=t
  ·subst q2
   rw [Nat.beq_refl]
   show (g (N-1-q)).c=_
   unfold WY
   rw [if_pos (by omega)]
  ·rw [Zw q2]
   show (WY N g t q).c=_
   unfold WY
   congr 1
   by_cases c:q<t∨N<q+t+1
   ·rw [if_pos c,if_pos (by omega)]
   ·rw [if_neg c,if_neg (by omega)]
noncomputable def E10 (N:Nat) (g:Nat→InS):Ze:=(G0.withL 244 0 (goL 1 [] (Z68 N g 0) (N<900000000000) (Z0i 0 N (fun t=>(t:Int)<(N:Int)-1-t) (fun t=>¬(t:Int)<(N:Int)-1-t) (fun _=>False) (Z68 N g) (Z68 N g)))).withF 91 (Z9Q N g (N<900000000000))
theorem ZdM (N:Nat) (g:Nat→InS):(E10 N g).Ok:=
 Ze.withF_ok (Ze.withGo (τ1:=[]) (τ2:=[]) (τ3:=[]) (N:=20) Zu (by kernel_rfl) fun hC=>⟨rfl,fun i hi hgo=>Zfa N g i hC hi hgo⟩) (Z8g N g)
theorem Z69 (N:Nat) (g:Nat→InS) (hN:N<900000000000):
  evF (E10 N g) 20 180 [.vrows 130 N (Zf g) N] ⟨0,[]⟩ (Yy 0 [(0,0)] (.nslice ⟨0,0,130,0,0⟩ 130 N N) 1 [(0,.rows 130 N (Zf (UX N g)))]):=by
 refine @Eq.mpr _ (let q1:=decide (N=N);
 let q2:=Zf g;
 let q3:=decide (N≤N);
 let q4:=(↑N:Int)-1;
 Z0 q1
 (Z0 q1
 (q2=q2∧
 N<900000000000∧
 Z0 q1
 (Z0 q3
 (Z0 (decide (wrap i64 q4=q4-0))
 (Z0 q1
 (Zz 1 [] N (Zf (WY N g 0)) q2∧
 N<900000000000∧
 ∀(i:Nat),
 let q9:=Z0 q1 (Z0 q3 (Z0 q1 (Zz 0 [(0,0)] N (Zf (UX N g)) (Zf (WY N g i))∧True) False) False) False;
 i≤N→(∀(j:Nat),j<i→(fun (t:Nat)=>(↑t:Int)<q4-(↑t:Int)) j)→(¬(↑i:Int)<q4-(↑i:Int)→q9)∧(False→q9))
 False)
 False)
 False)
 False)
 False)
 False) (by kernel_rfl) ?_
 conv=>zeta
 simp only [Zc,true_and,and_true]
 refine ⟨hN,by omega,by rw [w64 (by omega)];omega,Ys fun i hi=> ?_,hN,fun i hi hgo=>⟨fun hex=>⟨by omega,Ys fun q hq=> ?_⟩,fun h=>h.elim⟩⟩
 ·show (g i).c=_
  unfold WY
  rw [if_neg (by omega)]
 ·show (WY N g i q).c=_
  unfold WY UX
  by_cases c:q<i∨N<q+i+1
  ·rw [if_pos c]
  ·rw [if_neg c]
   congr 2;omega
theorem Z2h (N:Nat) (g:Nat→InS) (hN:N<900000000000):ZD PP 180 [.vrows 130 N (Zf g) N] (.nslice ⟨0,0,130,0,0⟩ 130 N N) 1 [(0,.rows 130 N (Zf (UX N g)))]:=.ev (ZdM N g) (Z69 N g hN)
end Go.Tk
end
section
namespace Go.Tk
open IntKind (i64 u8 u32 u64 wrap)
def Yl (p:Nat→Bool) (n:Nat):Int:=match (List.range n).find? p with|some i=>i|none=> -1
theorem We {p:Nat→Bool} {n i:Nat} (hi:i<n) (hgo:∀j,j<i→p j=false) (hp:p i=true):Yl p n=i:=by
 unfold Yl
 have:(List.range n).find? p=some i:=by
  rw [List.find?_range_eq_some]
  exact ⟨hp,List.mem_range.2 hi,fun j hj=>by simp [hgo j hj]⟩
 rw [this]
theorem Wf {p:Nat→Bool} {n:Nat} (hgo:∀j,j<n→p j=false):Yl p n= -1:=by
 unfold Yl
 have:(List.range n).find? p=none:=by
  rw [List.find?_eq_none]
  intro j hj
  simp [hgo j (List.mem_range.1 hj)]
 rw [this]
theorem Wv (p:Nat→Bool) (n:Nat):(Yl p n= -1∧∀j,j<n→p j=false)∨∃i,i<n∧Yl p n=(i:Nat)∧p i=true∧∀j,j<i→p j=false:=by
 unfold Yl
 cases h:(List.range n).find? p with
 | none=>
  refine .inl ⟨rfl,fun j hj=> ?_⟩
  have:=List.find?_eq_none.1 h j (List.mem_range.2 hj)
  simpa using this
 | some i=>
  rw [List.find?_range_eq_some] at h
  exact .inr ⟨i,List.mem_range.1 h.2.1,rfl,h.1,fun j hj=>by simpa using h.2.2 j hj⟩
theorem Z4S (p:Nat→Bool) (n:Nat): -1≤Yl p n∧Yl p n<n+1:=by
 rcases Wv p n with ⟨h,_⟩|⟨i,hi,h,_⟩<;>omega
def Uv (x y:InS):Bool:=(y.name==x.name)&&(y.index==x.index)
theorem ZdN (x y:InS) (hx:x.Ok) (hy:y.Ok):
  evF G0 20 178 [.agg y.c,.pview x.c 0] ⟨0,[]⟩ (Yy 0 [] (.bool (Uv x y)) 0 []):=by
 refine @Eq.mpr _ (Z0 (decide (List.length y.name=32∧List.length x.name=32)) (Z0 (y.name==x.name) (Z0 (decide ((y.index==x.index)=Uv x y)) True False) (Z0 (decide (false=Uv x y)) True False)) False) (by kernel_rfl) ?_
 try simp only [Zc]
 try simp only [Zd]
 try simp only [Zb]
 try simp only [Int.toNat_natCast,Nat.zero_add,true_and,and_true,Nat.le_refl]
 unfold Uv
 refine ⟨⟨hy.name,hx.name⟩,fun h=> ?_,fun h=> ?_⟩<;>simp [h]
def Zd9:ZZ:=fun args h K=>ZL none h true 20 args fun a=>match a with
 | [.agg cs,.pview ds 0]=>∃x y,cs=InS.c y∧ds=InS.c x∧(x.Ok∧y.Ok)∧K (.bool (Uv x y))
 | _=>False
theorem Z9R (args:List AV) (h:Z7) (K:AV→Prop) (hl:Zd9 args h K):Zg PP 178 args h fun o h'=>∃v,o=.ret v∧h'=h∧K v:=by
 refine ZD.psumm (d:=20) (Zn _ _ _ _ _ hl fun a ha=> ?_)
 split at ha
 ·obtain ⟨x,y,rfl,rfl,⟨h1,h2⟩,hK⟩:=ha
  exact ⟨_,.ev Zu (ZdN x y h1 h2),fun _=>rfl,hK⟩
 ·exact ha.elim
noncomputable def ZdO:Ze:=G0.withP 178 Zd9
theorem ZbH:ZdO.Ok:=Ze.withP_ok Zu Z9R
def ixS (N:Nat) (g:Nat→InS) (x:InS) (i:Nat):St:=⟨19,[(1,.func (Fn.func 178) [] [.pview (InS.c x) 0]),(0,.vrows 130 N (Zf g) N),(7,.int .i64 N),(8,.int .i64 i)],⟨0,[]⟩,[]⟩
def ixR (i:Nat):St:=⟨19,[(4,.int .i64 i)],⟨0,[]⟩,[]⟩
def ixE (_:Nat):St:=⟨19,[],⟨0,[]⟩,[]⟩
theorem Zh6 (N:Nat) (g:Nat→InS) (x:InS) (i:Nat) (Z1 Z2 Z3:Prop) (hN:N<900000000000) (hx:x.Ok) (hg:∀i,i<N→(g i).Ok) (hi:i≤N) (h1:i<N→Uv x (g i)=false→Z1) (h2:i=N→Z2) (h3:i<N→Uv x (g i)=true→Z3):
  Yf ZdO 20 179 0 0 (ixS N g x i) (fun e s=>match e with|.normal=>ZR 0 [] (ixS N g x (i+1)) s Z1|.exit x=>(match Nat.beq x 0 with|true=>ZR 0 [] (ixE i) s Z2|false=>False)|.ret=>ZR 0 [] (ixR i) s Z3|_=>False):=by
 refine @Eq.mpr _ (let q1:=g (Int.toNat (↑i:Int));
 let q2:=InS.c x;
 let q3:=decide (N=N);
 Z0 (decide ((↑i:Int)<(↑N:Int))) (Z0 (decide (0≤(↑i:Int)∧(↑i:Int)<(↑N:Int))) (∃(x:InS),∃(y:InS),[AV.arr u8 32 q1.name,AV.int i64 q1.index,AV.int i64 q1.way,AV.arr u8 32 q1.tag,AV.arr u8 32 q1.also,AV.arr u8 32 q1.secret]=InS.c y∧q2=InS.c x∧(InS.Ok x∧InS.Ok y)∧Z0 (Uv x y) (Z0 (decide ((↑i:Int)=(↑i:Int))) Z3 False) (q2=q2∧Z0 q3 (Zf g=Zf g∧Z0 q3 (Z0 (decide ((↑N:Int)=(↑N:Int))) (Z0 (decide (wrap i64 ((↑i:Int)+1)=(↑(i+1):Int))) Z1 False) False) False) False)) False) Z2) (by kernel_rfl) ?_
 conv=>zeta
 try simp only [Zc]
 try simp only [Zd]
 try simp only [Zb]
 try simp only [Int.toNat_natCast,Nat.zero_add,true_and,and_true,Nat.le_refl]
 refine ⟨fun hlt=>⟨by omega,x,g i,rfl,rfl,⟨hx,hg i (by omega)⟩,fun h=>h3 (by omega) h,fun h=>⟨w64 (by omega),h1 (by omega) h⟩⟩,fun hge=>h2 (by omega)⟩
def sameAt (g:Nat→InS) (x:InS):Nat→Bool:=fun j=>Uv x (g j)
noncomputable def Zfb (N:Nat) (g:Nat→InS) (x:InS):Ze:=ZdO.withL 179 0 (goL 0 [] (ixS N g x 0) (N<900000000000∧x.Ok∧∀i,i<N→(g i).Ok) (Z0i 0 N (fun i=>sameAt g x i=false) (fun i=>i=N) (fun i=>i<N∧sameAt g x i=true) ixE ixR))
theorem ZbI (N:Nat) (g:Nat→InS) (x:InS):(Zfb N g x).Ok:=
 Ze.withGo (τ1:=[]) (τ2:=[]) (τ3:=[]) (N:=20) ZbH (by kernel_rfl) fun hC=>⟨rfl,fun i hi _=>Zh6 N g x i _ _ _ hC.1 hC.2.1 hC.2.2 hi (fun h1 h2=>⟨h2,h1⟩) (fun h=>h) (fun h1 h2=>⟨h1,h2⟩)⟩
theorem ZbJ (N:Nat) (g:Nat→InS) (x:InS) (F:Int) (hN:N<900000000000) (hx:x.Ok) (hg:∀i,i<N→(g i).Ok) (hF:F=Yl (sameAt g x) N):
  evF (Zfb N g x) 20 179 [.vrows 130 N (Zf g) N,.func (.func 178) [] [.pview x.c 0]] ⟨0,[]⟩ (Yy 0 [] (.int .i64 F) 0 []):=by
 refine @Eq.mpr _ (let q1:=decide (N=N);
 InS.c x=InS.c x∧Z0 q1 (Zf g=Zf g∧Z0 q1 (Z0 (decide ((↑N:Int)=(↑N:Int))) ((N<900000000000∧InS.Ok x∧∀(i:Nat),i<N→InS.Ok (g i))∧∀(i:Nat),i≤N→(∀(j:Nat),j<i→(fun (i:Nat)=>sameAt g x i=false) j)→(i=N→Z0 (decide (-1=F)) True False)∧(i<N∧sameAt g x i=true→Z0 (decide ((↑i:Int)=F)) True False)) False) False) False) (by kernel_rfl) ?_
 conv=>zeta
 try simp only [Zc]
 try simp only [Zd]
 try simp only [Zb]
 try simp only [Int.toNat_natCast,Nat.zero_add,true_and,and_true,Nat.le_refl]
 subst hF
 exact ⟨⟨hN,hx,hg⟩,fun i hi hgo=>⟨fun h=>by subst h;exact (Wf hgo).symm,fun h=>(We h.1 hgo h.2).symm⟩⟩
theorem Z6a (N:Nat) (g:Nat→InS) (x:InS) (hN:N<900000000000) (hx:x.Ok) (hg:∀i,i<N→(g i).Ok):ZD PP 179 [.vrows 130 N (Zf g) N,.func (.func 178) [] [.pview x.c 0]] (.int .i64 (Yl (sameAt g x) N)) 0 []:=.ev (ZbI N g x) (ZbJ N g x _ hN hx hg rfl)
def Z9S:ZZ:=fun args h K=>ZL none h true 20 args fun a=>match a with
 | [.vrows 130 n f m,.func (.func 178) [] [.pview cs 0]]=>∃g x,f=Zf g∧cs=InS.c x∧(m=n∧n<900000000000∧x.Ok∧∀i,i<n→(g i).Ok)∧K (.int .i64 (Yl (sameAt g x) n))
 | _=>False
theorem Z8h (args:List AV) (h:Z7) (K:AV→Prop) (hl:Z9S args h K):Zg PP 179 args h fun o h'=>∃v,o=.ret v∧h'=h∧K v:=by
 refine ZD.psumm (d:=20) (Zn _ _ _ _ _ hl fun a ha=> ?_)
 split at ha
 ·obtain ⟨g,x,rfl,rfl,⟨rfl,h1,h2,h3⟩,hK⟩:=ha
  exact ⟨_,Z6a _ g x h1 h2 h3,fun _=>rfl,hK⟩
 ·exact ha.elim
def Z2S:ZQ:=fun args h K=>ZL none h true 20 args fun a=>match a with
 | [.vrows 130 n f m]=>∃g,f=Zf g∧(m=n∧n<900000000000)∧K (.ret (.nslice ⟨h.next,0,130,0,0⟩ 130 n n)) ⟨h.next+1,(h.next,.rows 130 n (Zf (UX n g)))::h.bs⟩
 | _=>False
theorem Z3P (args:List AV) (h:Z7) (K:KO) (hl:Z2S args h K):Zg PP 180 args h K:=by
 refine ZD.fsumm (d:=20) (Zn _ _ _ _ _ hl fun a ha=> ?_)
 split at ha
 ·obtain ⟨g,rfl,⟨rfl,hN⟩,hK⟩:=ha
  exact ⟨_,_,_,_,Z2h _ _ hN,rfl,⟨Nat.one_pos,.rows _ _ _ (fun i _=>(UX _ g i).plainC),trivial⟩,hK⟩
 ·exact ha.elim
noncomputable def Zfc:Ze:=(G0.withP 179 Z9S).withF 180 Z2S
theorem ZbK:Zfc.Ok:=Ze.withF_ok (Ze.withP_ok Zu Z8h) Z3P
@[irreducible] def VR (N:Nat) (g:Nat→InS) (x:InS):Bool:=Yl (sameAt g x) N !=(N:Int)-1-Yl (sameAt (UX N g) x) N
theorem ZbL (N:Nat) (g:Nat→InS) (x:InS) (num:Int) (outs:AV) (F:Bool) (hN:N<900000000000) (hx:x.Ok) (hg:∀i,i<N→(g i).Ok) (hF:F=VR N g x):
  evF Zfc 20 177 [.agg x.c,.pview [.int .i64 num,.vrows 130 N (Zf g) N,outs] 0] ⟨0,[]⟩ (Yy 0 [] (.bool F) 0 []):=by
 refine @Eq.mpr _ (let q1:=Zf g;
 let q2:=decide (N=N);
 ∃(g:Nat→InS),
 ∃(x_1:InS),
 let q5:=[AV.arr u8 32 x.name,AV.int i64 x.index,AV.int i64 x.way,AV.arr u8 32 x.tag,AV.arr u8 32 x.also,AV.arr u8 32 x.secret];
 q1=Zf g∧q5=InS.c x_1∧(N=N∧N<900000000000∧InS.Ok x_1∧∀(i:Nat),i<N→InS.Ok (g i))∧∃(g_1:Nat→InS),q1=Zf g_1∧(N=N∧N<900000000000)∧Z0 (decide ((↑N:Int)=(↑N:Int))) (Z0 q2 (q1=q1∧Z0 q2 (Z0 (decide (0+N≤N)) ((∀(i:Nat),i<N→true=true)∧∃(g_2:Nat→InS),∃(x:InS),Yp 0 (Zf (UX N g_1))=Zf g_2∧q5=InS.c x∧(N=N∧N<900000000000∧InS.Ok x∧∀(i:Nat),i<N→InS.Ok (g_2 i))∧Z0 (decide ((Yl (sameAt g x_1) N !=wrap i64 (wrap i64 ((↑N:Int)-1)-Yl (sameAt g_2 x) N))=F)) True False) False) False) False) False) (by kernel_rfl) ?_
 conv=>zeta
 try simp only [Zc]
 try simp only [Zd]
 try simp only [Zb]
 try simp only [Int.toNat_natCast,Nat.zero_add,true_and,and_true,Nat.le_refl]
 subst hF
 have hr:∀i,i<N→(UX N g i).Ok:=fun i hi=>hg _ (by omega)
 refine ⟨g,x,rfl,rfl,⟨hN,hx,hg⟩,g,rfl,hN,fun _ _=>trivial,UX N g,x,rfl,rfl,⟨hN,hx,hr⟩, ?_⟩
 have hb:=Z4S (sameAt (UX N g) x) N
 rw [w64 (x:=(N:Int)-1) (by omega),w64 (by omega)]
 unfold VR
 rfl
theorem Z6b (N:Nat) (g:Nat→InS) (x:InS) (num:Int) (outs:AV) (hN:N<900000000000) (hx:x.Ok) (hg:∀i,i<N→(g i).Ok):ZD PP 177 [.agg x.c,.pview [.int .i64 num,.vrows 130 N (Zf g) N,outs] 0] (.bool (VR N g x)) 0 []:=.ev ZbK (ZbL N g x num outs _ hN hx hg rfl)
def Z9T:ZZ:=fun args h K=>ZL none h true 20 args fun a=>match a with
 | [.agg cs,.pview [.int .i64 num,.vrows 130 n f m,outs] 0]=>∃g x,f=Zf g∧cs=InS.c x∧(m=n∧n<900000000000∧x.Ok∧∀i,i<n→(g i).Ok)∧K (.bool (VR n g x))
 | _=>False
theorem Z8i (args:List AV) (h:Z7) (K:AV→Prop) (hl:Z9T args h K):Zg PP 177 args h fun o h'=>∃v,o=.ret v∧h'=h∧K v:=by
 refine ZD.psumm (d:=20) (Zn _ _ _ _ _ hl fun a ha=> ?_)
 split at ha
 ·obtain ⟨g,x,rfl,rfl,⟨rfl,h1,h2,h3⟩,hK⟩:=ha
  exact ⟨_,Z6b _ g x _ _ h1 h2 h3,fun _=>rfl,hK⟩
 ·exact ha.elim
end Go.Tk
end
section
namespace Go.Tk
open IntKind (i64 u8 u32 u64 wrap)
def Vh (N:Nat) (g:Nat→InS) (y:InS):Bool:= !Ya y||VR N g y
noncomputable def Zfd:Ze:=(G0.withP 177 Z9T).withP 182 (inS Ya)
theorem ZbM:Zfd.Ok:=Ze.withP_ok (Ze.withP_ok Zu Z8i) ZdG
theorem ZbN (N:Nat) (g:Nat→InS) (y:InS) (num:Int) (outs:AV) (F:Bool) (hN:N<900000000000) (hy:y.Ok) (hg:∀i,i<N→(g i).Ok) (hF:F=Vh N g y):
  evF Zfd 20 181 [.agg y.c,.pview [.func (.func 177) [] [.pview [.int .i64 num,.vrows 130 N (Zf g) N,outs] 0]] 0] ⟨0,[]⟩ (Yy 0 [] (.bool F) 0 []):=by
 refine @Eq.mpr _ (let q1:=y.name;
 let q2:=y.tag;
 let q3:=y.also;
 let q4:=y.secret;
 Z0 (decide (List.length q1=32∧List.length q2=32∧List.length q3=32∧List.length q4=32)) (Z0 (!Ya (InS.mk q1 y.index y.way q2 q3 q4)) (Z0 (decide (true=F)) True False) (∃(g_1:Nat→InS),∃(x:InS),Zf g=Zf g_1∧[AV.arr u8 32 q1,AV.int i64 y.index,AV.int i64 y.way,AV.arr u8 32 q2,AV.arr u8 32 q3,AV.arr u8 32 q4]=InS.c x∧(N=N∧N<900000000000∧InS.Ok x∧∀(i:Nat),i<N→InS.Ok (g_1 i))∧Z0 (decide (VR N g_1 x=F)) True False)) False) (by kernel_rfl) ?_
 conv=>zeta
 try simp only [Zc]
 try simp only [Zd]
 try simp only [Zb]
 try simp only [Int.toNat_natCast,Nat.zero_add,true_and,and_true,Nat.le_refl]
 subst hF
 refine ⟨⟨hy.name,hy.tag,hy.also,hy.secret⟩, ?_, ?_⟩
 ·intro h
  have h':Ya y=false:=by simpa using h
  unfold Vh
  rw [h']
  rfl
 ·intro h
  refine ⟨g,y,rfl,rfl,⟨hN,hy,hg⟩, ?_⟩
  have h':Ya y=true:=by simpa using h
  unfold Vh
  rw [h']
  rfl
def Z9U:ZZ:=fun args h K=>ZL none h true 20 args fun a=>match a with
 | [.agg cs,.pview [.func (.func 177) [] [.pview [.int .i64 num,.vrows 130 n f m,outs] 0]] 0]=>∃g y,f=Zf g∧cs=InS.c y∧(m=n∧n<900000000000∧y.Ok∧∀i,i<n→(g i).Ok)∧K (.bool (Vh n g y))
 | _=>False
theorem Z8j (args:List AV) (h:Z7) (K:AV→Prop) (hl:Z9U args h K):Zg PP 181 args h fun o h'=>∃v,o=.ret v∧h'=h∧K v:=by
 refine ZD.psumm (d:=20) (Zn _ _ _ _ _ hl fun a ha=> ?_)
 split at ha
 ·obtain ⟨g,x,rfl,rfl,⟨rfl,h1,h2,h3⟩,hK⟩:=ha
  exact ⟨_,.ev ZbM (ZbN _ g x _ _ _ h1 h2 h3 rfl),fun _=>rfl,hK⟩
 ·exact ha.elim
noncomputable def ZdP:Ze:=G0.withP 181 Z9U
theorem ZbO:ZdP.Ok:=Ze.withP_ok Zu Z8j
def YJ (N:Nat) (g:Nat→InS):Nat→Bool:=fun j=>Vh N g (g j)
def ZdQ (N:Nat) (g:Nat→InS) (num:Int) (outs:AV) (i:Nat):St:=⟨19,[(1,.func (.func 181) [] [.pview [.func (.func 177) [] [.pview [.int .i64 num,.vrows 130 N (Zf g) N,outs] 0]] 0]),(0,.vrows 130 N (Zf g) N),(7,.int .i64 N),(8,.int .i64 i)],⟨0,[]⟩,[]⟩
def Zfe (i:Nat):St:=⟨19,[(4,.int .i64 i)],⟨0,[]⟩,[]⟩
def Zff (_:Nat):St:=⟨19,[],⟨0,[]⟩,[]⟩
theorem Zfg (N:Nat) (g:Nat→InS) (num:Int) (outs:AV) (i:Nat) (Z1 Z2 Z3:Prop) (hC:N<900000000000∧∀i,i<N→(g i).Ok) (hi:i≤N) (h1:i<N→YJ N g i=false→Z1) (h2:i=N→Z2) (h3:i<N→YJ N g i=true→Z3):
  Yf ZdP 20 179 0 0 (ZdQ N g num outs i) (fun e s=>match e with|.normal=>ZR 0 [] (ZdQ N g num outs (i+1)) s Z1|.exit x=>(match Nat.beq x 0 with|true=>ZR 0 [] (Zff i) s Z2|false=>False)|.ret=>ZR 0 [] (Zfe i) s Z3|_=>False):=by
 refine @Eq.mpr _ (let q1:=Zf g;
 let q2:=g (Int.toNat (↑i:Int));
 let q3:=[AV.func (Fn.func 177) [] [AV.pview [AV.int i64 num,AV.vrows 130 N q1 N,outs] 0]];
 let q4:=decide (N=N);
 Z0 (decide ((↑i:Int)<(↑N:Int))) (Z0 (decide (0≤(↑i:Int)∧(↑i:Int)<(↑N:Int))) (∃(g:Nat→InS),∃(y:InS),q1=Zf g∧[AV.arr u8 32 q2.name,AV.int i64 q2.index,AV.int i64 q2.way,AV.arr u8 32 q2.tag,AV.arr u8 32 q2.also,AV.arr u8 32 q2.secret]=InS.c y∧(N=N∧N<900000000000∧InS.Ok y∧∀(i:Nat),i<N→InS.Ok (g i))∧Z0 (Vh N g y) (Z0 (decide ((↑i:Int)=(↑i:Int))) Z3 False) (q3=q3∧Z0 q4 (q1=q1∧Z0 q4 (Z0 (decide ((↑N:Int)=(↑N:Int))) (Z0 (decide (wrap i64 ((↑i:Int)+1)=(↑(i+1):Int))) Z1 False) False) False) False)) False) Z2) (by kernel_rfl) ?_
 conv=>zeta
 try simp only [Zc]
 try simp only [Zd]
 try simp only [Zb]
 try simp only [Int.toNat_natCast,Nat.zero_add,true_and,and_true,Nat.le_refl]
 refine ⟨fun hlt=>⟨by omega,g,g i,rfl,rfl,⟨hC.1,hC.2 i (by omega),hC.2⟩,fun h=>h3 (by omega) h,fun h=>⟨w64 (by omega),h1 (by omega) h⟩⟩,fun hge=>h2 (by omega)⟩
noncomputable def Zfh (N:Nat) (g:Nat→InS) (num:Int) (outs:AV):Ze:=ZdP.withL 179 0 (goL 0 [] (ZdQ N g num outs 0) (N<900000000000∧∀i,i<N→(g i).Ok) (Z0i 0 N (fun i=>YJ N g i=false) (fun i=>i=N) (fun i=>i<N∧YJ N g i=true) Zff Zfe))
theorem ZbP (N:Nat) (g:Nat→InS) (num:Int) (outs:AV):(Zfh N g num outs).Ok:=
 Ze.withGo (τ1:=[]) (τ2:=[]) (τ3:=[]) (N:=20) ZbO (by kernel_rfl) fun hC=>⟨rfl,fun i hi _=>Zfg N g num outs i _ _ _ hC hi (fun h1 h2=>⟨h2,h1⟩) (fun h=>h) (fun h1 h2=>⟨h1,h2⟩)⟩
theorem Zfi (N:Nat) (g:Nat→InS) (num:Int) (outs:AV) (F:Int) (hC:N<900000000000∧∀i,i<N→(g i).Ok) (hF:F=Yl (YJ N g) N):
  evF (Zfh N g num outs) 20 179 [.vrows 130 N (Zf g) N,.func (.func 181) [] [.pview [.func (.func 177) [] [.pview [.int .i64 num,.vrows 130 N (Zf g) N,outs] 0]] 0]] ⟨0,[]⟩ (Yy 0 [] (.int .i64 F) 0 []):=by
 refine @Eq.mpr _ (let q1:=Zf g;
 let q2:=[AV.func (Fn.func 177) [] [AV.pview [AV.int i64 num,AV.vrows 130 N q1 N,outs] 0]];
 let q3:=decide (N=N);
 q2=q2∧Z0 q3 (q1=q1∧Z0 q3 (Z0 (decide ((↑N:Int)=(↑N:Int))) ((N<900000000000∧∀(i:Nat),i<N→InS.Ok (g i))∧∀(i:Nat),i≤N→(∀(j:Nat),j<i→(fun (i:Nat)=>YJ N g i=false) j)→(i=N→Z0 (decide (-1=F)) True False)∧(i<N∧YJ N g i=true→Z0 (decide ((↑i:Int)=F)) True False)) False) False) False) (by kernel_rfl) ?_
 conv=>zeta
 try simp only [Zc]
 try simp only [Zd]
 try simp only [Zb]
 try simp only [Int.toNat_natCast,Nat.zero_add,true_and,and_true,Nat.le_refl]
 subst hF
 exact ⟨hC,fun i hi hgo=>⟨fun h=>by subst h;exact (Wf hgo).symm,fun h=>(We h.1 hgo h.2).symm⟩⟩
theorem Z9V (N:Nat) (g:Nat→InS) (num:Int) (outs:AV) (hC:N<900000000000∧∀i,i<N→(g i).Ok):ZD PP 179 [.vrows 130 N (Zf g) N,.func (.func 181) [] [.pview [.func (.func 177) [] [.pview [.int .i64 num,.vrows 130 N (Zf g) N,outs] 0]] 0]] (.int .i64 (Yl (YJ N g) N)) 0 []:=.ev (ZbP N g num outs) (Zfi N g num outs _ hC rfl)
theorem WZ (p:Nat→Bool) (n:Nat):decide (0≤Yl p n)=(List.range n).any p:=by
 rcases Wv p n with ⟨h,h2⟩|⟨i,hi,h,h2,_⟩
 ·rw [h]
  have:(List.range n).any p=false:=by
   rw [List.any_eq_false]
   intro j hj
   simp [h2 j (List.mem_range.1 hj)]
  rw [this];rfl
 ·rw [h]
  have:(List.range n).any p=true:=List.any_eq_true.2 ⟨i,List.mem_range.2 hi,h2⟩
  rw [this];simp
def Zfj:ZZ:=fun args h K=>ZL none h true 20 args fun a=>match a with
 | [.vrows 130 n f m,.func (.func 181) [] [.pview [.func (.func 177) [] [.pview [.int .i64 num,.vrows 130 n' f' m',outs] 0]] 0]]=>∃g,f=Zf g∧f'=Zf g∧(m=n∧n'=n∧m'=n∧n<900000000000∧∀i,i<n→(g i).Ok)∧K (.int .i64 (Yl (YJ n g) n))
 | _=>False
theorem ZbQ (args:List AV) (h:Z7) (K:AV→Prop) (hl:Zfj args h K):Zg PP 179 args h fun o h'=>∃v,o=.ret v∧h'=h∧K v:=by
 refine ZD.psumm (d:=20) (Zn _ _ _ _ _ hl fun a ha=> ?_)
 split at ha
 ·obtain ⟨g,rfl,rfl,⟨rfl,rfl,rfl,h1,h2⟩,hK⟩:=ha
  exact ⟨_,Z9V _ g _ _ ⟨h1,h2⟩,fun _=>rfl,hK⟩
 ·exact ha.elim
noncomputable def Zfk:Ze:=G0.withP 49 (ZdH Yb)
theorem ZbR:Zfk.Ok:=Ze.withP_ok Zu ZbB
def UY (o:ZM):Bool:= !Yb o
theorem Z9W (o:ZM) (F:Bool) (ho:o.Ok) (hF:F=UY o):
  evF Zfk 20 186 [.agg o.c] ⟨0,[]⟩ (Yy 0 [] (.bool F) 0 []):=by
 refine @Eq.mpr _ (Z0 (decide (List.length o.owner=32∧List.length o.other=32∧List.length o.point=32∧List.length o.hash=32)) (Z0 (decide ((!Yb (ZM.mk o.kind o.amount o.owner o.other o.point o.hash o.delay o.expiry))=F)) True False) False) (by kernel_rfl) ?_
 try simp only [Zc]
 try simp only [Zd]
 try simp only [Zb]
 try simp only [Int.toNat_natCast,Nat.zero_add,true_and,and_true,Nat.le_refl]
 subst hF
 exact ⟨⟨ho.owner,ho.other,ho.point,ho.hash⟩,rfl⟩
def Z77:ZZ:=fun args h K=>ZL none h true 20 args fun a=>match a with
 | [.agg cs]=>∃o,cs=ZM.c o∧o.Ok∧K (.bool (UY o))
 | _=>False
theorem Z6c (args:List AV) (h:Z7) (K:AV→Prop) (hl:Z77 args h K):Zg PP 186 args h fun o h'=>∃v,o=.ret v∧h'=h∧K v:=by
 refine ZD.psumm (d:=20) (Zn _ _ _ _ _ hl fun a ha=> ?_)
 split at ha
 ·obtain ⟨x,rfl,h1,hK⟩:=ha
  exact ⟨_,.ev ZbR (Z9W x _ h1 rfl),fun _=>rfl,hK⟩
 ·exact ha.elim
noncomputable def ZdR:Ze:=G0.withP 186 Z77
theorem ZbS:ZdR.Ok:=Ze.withP_ok Zu Z6c
def Yj (g:Nat→ZM):Nat→Bool:=fun j=>UY (g j)
def ZdS (N:Nat) (g:Nat→ZM) (i:Nat):St:=⟨19,[(1,.func (.func 186) [] []),(0,.vrows 132 N (Zi g) N),(7,.int .i64 N),(8,.int .i64 i)],⟨0,[]⟩,[]⟩
def Zfl (i:Nat):St:=⟨19,[(4,.int .i64 i)],⟨0,[]⟩,[]⟩
def Zfm (_:Nat):St:=⟨19,[],⟨0,[]⟩,[]⟩
theorem Zfn (N:Nat) (g:Nat→ZM) (i:Nat) (Z1 Z2 Z3:Prop) (hC:N<900000000000∧∀i,i<N→(g i).Ok) (hi:i≤N) (h1:i<N→Yj g i=false→Z1) (h2:i=N→Z2) (h3:i<N→Yj g i=true→Z3):
  Yf ZdR 20 245 0 0 (ZdS N g i) (fun e s=>match e with|.normal=>ZR 0 [] (ZdS N g (i+1)) s Z1|.exit x=>(match Nat.beq x 0 with|true=>ZR 0 [] (Zfm i) s Z2|false=>False)|.ret=>ZR 0 [] (Zfl i) s Z3|_=>False):=by
 refine @Eq.mpr _ (let q1:=g (Int.toNat (↑i:Int));
 let q2:=decide (N=N);
 Z0 (decide ((↑i:Int)<(↑N:Int))) (Z0 (decide (0≤(↑i:Int)∧(↑i:Int)<(↑N:Int))) (∃(o:ZM),[AV.int i64 q1.kind,AV.int i64 q1.amount,AV.arr u8 32 q1.owner,AV.arr u8 32 q1.other,AV.arr u8 32 q1.point,AV.arr u8 32 q1.hash,AV.int i64 q1.delay,AV.int i64 q1.expiry]=ZM.c o∧ZM.Ok o∧Z0 (UY o) (Z0 (decide ((↑i:Int)=(↑i:Int))) Z3 False) (Z0 q2 (Zi g=Zi g∧Z0 q2 (Z0 (decide ((↑N:Int)=(↑N:Int))) (Z0 (decide (wrap i64 ((↑i:Int)+1)=(↑(i+1):Int))) Z1 False) False) False) False)) False) Z2) (by kernel_rfl) ?_
 conv=>zeta
 try simp only [Zc]
 try simp only [Zd]
 try simp only [Zb]
 try simp only [Int.toNat_natCast,Nat.zero_add,true_and,and_true,Nat.le_refl]
 refine ⟨fun hlt=>⟨by omega,g i,rfl,hC.2 i (by omega),fun h=>h3 (by omega) h,fun h=>⟨w64 (by omega),h1 (by omega) h⟩⟩,fun hge=>h2 (by omega)⟩
noncomputable def Zfo (N:Nat) (g:Nat→ZM):Ze:=ZdR.withL 245 0 (goL 0 [] (ZdS N g 0) (N<900000000000∧∀i,i<N→(g i).Ok) (Z0i 0 N (fun i=>Yj g i=false) (fun i=>i=N) (fun i=>i<N∧Yj g i=true) Zfm Zfl))
theorem ZbT (N:Nat) (g:Nat→ZM):(Zfo N g).Ok:=
 Ze.withGo (τ1:=[]) (τ2:=[]) (τ3:=[]) (N:=20) ZbS (by kernel_rfl) fun hC=>⟨rfl,fun i hi _=>Zfn N g i _ _ _ hC hi (fun h1 h2=>⟨h2,h1⟩) (fun h=>h) (fun h1 h2=>⟨h1,h2⟩)⟩
theorem Zfp (N:Nat) (g:Nat→ZM) (F:Int) (hC:N<900000000000∧∀i,i<N→(g i).Ok) (hF:F=Yl (Yj g) N):
  evF (Zfo N g) 20 245 [.vrows 132 N (Zi g) N,.func (.func 186) [] []] ⟨0,[]⟩ (Yy 0 [] (.int .i64 F) 0 []):=by
 refine @Eq.mpr _ (let q1:=decide (N=N);
 Z0 q1 (Zi g=Zi g∧Z0 q1 (Z0 (decide ((↑N:Int)=(↑N:Int))) ((N<900000000000∧∀(i:Nat),i<N→ZM.Ok (g i))∧∀(i:Nat),i≤N→(∀(j:Nat),j<i→(fun (i:Nat)=>Yj g i=false) j)→(i=N→Z0 (decide (-1=F)) True False)∧(i<N∧Yj g i=true→Z0 (decide ((↑i:Int)=F)) True False)) False) False) False) (by kernel_rfl) ?_
 conv=>zeta
 try simp only [Zc]
 try simp only [Zd]
 try simp only [Zb]
 try simp only [Int.toNat_natCast,Nat.zero_add,true_and,and_true,Nat.le_refl]
 subst hF
 exact ⟨hC,fun i hi hgo=>⟨fun h=>by subst h;exact (Wf hgo).symm,fun h=>(We h.1 hgo h.2).symm⟩⟩
theorem Z9X (N:Nat) (g:Nat→ZM) (hC:N<900000000000∧∀i,i<N→(g i).Ok):ZD PP 245 [.vrows 132 N (Zi g) N,.func (.func 186) [] []] (.int .i64 (Yl (Yj g) N)) 0 []:=.ev (ZbT N g) (Zfp N g _ hC rfl)
def Zfq:ZZ:=fun args h K=>ZL none h true 20 args fun a=>match a with
 | [.vrows 132 n f m,.func (.func 186) [] []]=>∃g,f=Zi g∧(m=n∧n<900000000000∧∀i,i<n→(g i).Ok)∧K (.int .i64 (Yl (Yj g) n))
 | _=>False
theorem ZbU (args:List AV) (h:Z7) (K:AV→Prop) (hl:Zfq args h K):Zg PP 245 args h fun o h'=>∃v,o=.ret v∧h'=h∧K v:=by
 refine ZD.psumm (d:=20) (Zn _ _ _ _ _ hl fun a ha=> ?_)
 split at ha
 ·obtain ⟨g,rfl,⟨rfl,h1,h2⟩,hK⟩:=ha
  exact ⟨_,Z9X _ g ⟨h1,h2⟩,fun _=>rfl,hK⟩
 ·exact ha.elim
end Go.Tk
end
section
namespace Go.Tk
open IntKind (i64 u8 u32 u64 wrap)
def Vk (m x:Int):Bool:=decide (x<0∨x>m)
theorem ZdT (m x:Int) (F:Bool) (hF:F=Vk m x):
  evF G0 20 236 [.int .i64 x,.pview [.int .i64 m] 0] ⟨0,[]⟩ (Yy 0 [] (.bool F) 0 []):=by
 refine @Eq.mpr _ (Z0 (decide (x<0)) (Z0 (decide (true=F)) True False) (Z0 (decide (decide (x>m)=F)) True False)) (by kernel_rfl) ?_
 try simp only [Zc]
 try simp only [Zd]
 try simp only [Zb]
 try simp only [Int.toNat_natCast,Nat.zero_add,true_and,and_true,Nat.le_refl]
 subst hF
 unfold Vk
 refine ⟨fun h=> ?_,fun h=> ?_⟩<;>simp [h]
theorem ZbV (x:Int) (F:Bool) (hF:F=Vk 4611686018427387904 x):
  evF G0 20 117 [.int .i64 x] ⟨0,[]⟩ (Yy 0 [] (.bool F) 0 []):=by
 refine @Eq.mpr _ (Z0 (decide (x<0)) (Z0 (decide (true=F)) True False) (Z0 (decide (decide (x>4611686018427387904)=F)) True False)) (by kernel_rfl) ?_
 try simp only [Zc]
 try simp only [Zd]
 try simp only [Zb]
 try simp only [Int.toNat_natCast,Nat.zero_add,true_and,and_true,Nat.le_refl]
 subst hF
 unfold Vk
 refine ⟨fun h=> ?_,fun h=> ?_⟩<;>simp [h]
def Zda:ZZ:=fun args h K=>ZL none h true 20 args fun a=>match a with
 | [.int .i64 x,.pview [.int .i64 m] 0]=>K (.bool (Vk m x))
 | _=>False
theorem Z9Y (args:List AV) (h:Z7) (K:AV→Prop) (hl:Zda args h K):Zg PP 236 args h fun o h'=>∃v,o=.ret v∧h'=h∧K v:=by
 refine ZD.psumm (d:=20) (Zn _ _ _ _ _ hl fun a ha=> ?_)
 split at ha
 ·exact ⟨_,.ev Zu (ZdT _ _ _ rfl),fun _=>rfl,ha⟩
 ·exact ha.elim
def Z9Z (T:Int):ZZ:=fun args h K=>ZL none h true 20 args fun a=>match a with
 | [.int .i64 x]=>K (.bool (Vk T x))
 | _=>False
theorem Z8k (args:List AV) (h:Z7) (K:AV→Prop) (hl:Z9Z 4611686018427387904 args h K):Zg PP 117 args h fun o h'=>∃v,o=.ret v∧h'=h∧K v:=by
 refine ZD.psumm (d:=20) (Zn _ _ _ _ _ hl fun a ha=> ?_)
 split at ha
 ·exact ⟨_,.ev Zu (ZbV _ _ rfl),fun _=>rfl,ha⟩
 ·exact ha.elim
noncomputable def Zfr (T:Int):Ze:=(G0.withP 236 Zda).withP 117 (Z9Z T)
theorem ZbW:(Zfr 4611686018427387904).Ok:=Ze.withP_ok (Ze.withP_ok Zu Z9Y) Z8k
def Yk (m:Int) (xs:List Int):Nat→Bool:=fun j=>Vk m (xs.getD j 0)
noncomputable def Za0:Ze:=Zfr 4611686018427387904
theorem Z78:Za0.Ok:=ZbW
def ZdU (xs:List Int) (N:Nat) (m:Int) (i:Nat):St:=⟨19,[(1,.func (.func 236) [] [.pview [.int .i64 m] 0]),(0,.vints .i64 xs N),(7,.int .i64 N),(8,.int .i64 i)],⟨0,[]⟩,[]⟩
def Zfs (i:Nat):St:=⟨19,[(4,.int .i64 i)],⟨0,[]⟩,[]⟩
def Zft (_:Nat):St:=⟨19,[],⟨0,[]⟩,[]⟩
theorem Zfu (xs:List Int) (N:Nat) (m:Int) (i:Nat) (Z1 Z2 Z3:Prop) (hC:N<900000000000∧xs.length=N) (hi:i≤N) (h1:i<N→Yk m xs i=false→Z1) (h2:i=N→Z2) (h3:i<N→Yk m xs i=true→Z3):
  Yf Za0 20 165 0 0 (ZdU xs N m i) (fun e s=>match e with|.normal=>ZR 0 [] (ZdU xs N m (i+1)) s Z1|.exit x=>(match Nat.beq x 0 with|true=>ZR 0 [] (Zft i) s Z2|false=>False)|.ret=>ZR 0 [] (Zfs i) s Z3|_=>False):=by
 refine @Eq.mpr _ (let q1:=[AV.int i64 m];
 Z0 (decide ((↑i:Int)<(↑N:Int))) (Z0 (decide (0≤(↑i:Int)∧(↑i:Int)<(↑N:Int))) (Z0 (Vk m (List.getD xs (Int.toNat (↑i:Int)) 0)) (Z0 (decide ((↑i:Int)=(↑i:Int))) Z3 False) (q1=q1∧xs=xs∧Z0 (decide (N=N)) (Z0 (decide ((↑N:Int)=(↑N:Int))) (Z0 (decide (wrap i64 ((↑i:Int)+1)=(↑(i+1):Int))) Z1 False) False) False)) False) Z2) (by kernel_rfl) ?_
 conv=>zeta
 try simp only [Zc]
 try simp only [Zd]
 try simp only [Zb]
 try simp only [Int.toNat_natCast,Nat.zero_add,true_and,and_true,Nat.le_refl]
 refine ⟨fun hlt=>⟨by omega,fun h=>h3 (by omega) h,fun h=>⟨w64 (by omega),h1 (by omega) h⟩⟩,fun hge=>h2 (by omega)⟩
noncomputable def Zfv (xs:List Int) (N:Nat) (m:Int):Ze:=Za0.withL 165 0 (goL 0 [] (ZdU xs N m 0) (N<900000000000∧xs.length=N) (Z0i 0 N (fun i=>Yk m xs i=false) (fun i=>i=N) (fun i=>i<N∧Yk m xs i=true) Zft Zfs))
theorem ZbX (xs:List Int) (N:Nat) (m:Int):(Zfv xs N m).Ok:=
 Ze.withGo (τ1:=[]) (τ2:=[]) (τ3:=[]) (N:=20) Z78 (by kernel_rfl) fun hC=>⟨rfl,fun i hi _=>Zfu xs N m i _ _ _ hC hi (fun h1 h2=>⟨h2,h1⟩) (fun h=>h) (fun h1 h2=>⟨h1,h2⟩)⟩
theorem Zfw (xs:List Int) (N:Nat) (m:Int) (F:Int) (hC:N<900000000000∧xs.length=N) (hF:F=Yl (Yk m xs) N):
  evF (Zfv xs N m) 20 165 [.vints .i64 xs N,.func (.func 236) [] [.pview [.int .i64 m] 0]] ⟨0,[]⟩ (Yy 0 [] (.int .i64 F) 0 []):=by
 refine @Eq.mpr _ (let q1:=[AV.int i64 m];
 q1=q1∧xs=xs∧Z0 (decide (N=N)) (Z0 (decide ((↑N:Int)=(↑N:Int))) ((N<900000000000∧List.length xs=N)∧∀(i:Nat),i≤N→(∀(j:Nat),j<i→(fun (i:Nat)=>Yk m xs i=false) j)→(i=N→Z0 (decide (-1=F)) True False)∧(i<N∧Yk m xs i=true→Z0 (decide ((↑i:Int)=F)) True False)) False) False) (by kernel_rfl) ?_
 conv=>zeta
 try simp only [Zc]
 try simp only [Zd]
 try simp only [Zb]
 try simp only [Int.toNat_natCast,Nat.zero_add,true_and,and_true,Nat.le_refl]
 subst hF
 exact ⟨hC,fun i hi hgo=>⟨fun h=>by subst h;exact (Wf hgo).symm,fun h=>(We h.1 hgo h.2).symm⟩⟩
theorem Za1 (xs:List Int) (N:Nat) (m:Int) (hC:N<900000000000∧xs.length=N):ZD PP 165 [.vints .i64 xs N,.func (.func 236) [] [.pview [.int .i64 m] 0]] (.int .i64 (Yl (Yk m xs) N)) 0 []:=.ev (ZbX xs N m) (Zfw xs N m _ hC rfl)
def ZdV (xs:List Int) (N:Nat) (i:Nat):St:=⟨19,[(1,.func (.func 117) [] []),(0,.vints .i64 xs N),(7,.int .i64 N),(8,.int .i64 i)],⟨0,[]⟩,[]⟩
def Zfx (i:Nat):St:=⟨19,[(4,.int .i64 i)],⟨0,[]⟩,[]⟩
def Zfy (_:Nat):St:=⟨19,[],⟨0,[]⟩,[]⟩
theorem Zfz (xs:List Int) (N:Nat) (i:Nat) (Z1 Z2 Z3:Prop) (hC:N<900000000000∧xs.length=N) (hi:i≤N) (h1:i<N→Yk 4611686018427387904 xs i=false→Z1) (h2:i=N→Z2) (h3:i<N→Yk 4611686018427387904 xs i=true→Z3):
  Yf Za0 20 165 0 0 (ZdV xs N i) (fun e s=>match e with|.normal=>ZR 0 [] (ZdV xs N (i+1)) s Z1|.exit x=>(match Nat.beq x 0 with|true=>ZR 0 [] (Zfy i) s Z2|false=>False)|.ret=>ZR 0 [] (Zfx i) s Z3|_=>False):=by
 refine @Eq.mpr _ (Z0 (decide ((↑i:Int)<(↑N:Int))) (Z0 (decide (0≤(↑i:Int)∧(↑i:Int)<(↑N:Int))) (Z0 (Vk 4611686018427387904 (List.getD xs (Int.toNat (↑i:Int)) 0)) (Z0 (decide ((↑i:Int)=(↑i:Int))) Z3 False) (xs=xs∧Z0 (decide (N=N)) (Z0 (decide ((↑N:Int)=(↑N:Int))) (Z0 (decide (wrap i64 ((↑i:Int)+1)=(↑(i+1):Int))) Z1 False) False) False)) False) Z2) (by kernel_rfl) ?_
 try simp only [Zc]
 try simp only [Zd]
 try simp only [Zb]
 try simp only [Int.toNat_natCast,Nat.zero_add,true_and,and_true,Nat.le_refl]
 refine ⟨fun hlt=>⟨by omega,fun h=>h3 (by omega) h,fun h=>⟨w64 (by omega),h1 (by omega) h⟩⟩,fun hge=>h2 (by omega)⟩
noncomputable def ZfA (xs:List Int) (N:Nat):Ze:=Za0.withL 165 0 (goL 0 [] (ZdV xs N 0) (N<900000000000∧xs.length=N) (Z0i 0 N (fun i=>Yk 4611686018427387904 xs i=false) (fun i=>i=N) (fun i=>i<N∧Yk 4611686018427387904 xs i=true) Zfy Zfx))
theorem ZbY (xs:List Int) (N:Nat):(ZfA xs N).Ok:=
 Ze.withGo (τ1:=[]) (τ2:=[]) (τ3:=[]) (N:=20) Z78 (by kernel_rfl) fun hC=>⟨rfl,fun i hi _=>Zfz xs N i _ _ _ hC hi (fun h1 h2=>⟨h2,h1⟩) (fun h=>h) (fun h1 h2=>⟨h1,h2⟩)⟩
theorem ZfB (xs:List Int) (N:Nat) (F:Int) (hC:N<900000000000∧xs.length=N) (hF:F=Yl (Yk 4611686018427387904 xs) N):
  evF (ZfA xs N) 20 165 [.vints .i64 xs N,.func (.func 117) [] []] ⟨0,[]⟩ (Yy 0 [] (.int .i64 F) 0 []):=by
 refine @Eq.mpr _ (xs=xs∧Z0 (decide (N=N)) (Z0 (decide ((↑N:Int)=(↑N:Int))) ((N<900000000000∧List.length xs=N)∧∀(i:Nat),i≤N→(∀(j:Nat),j<i→(fun (i:Nat)=>Yk 4611686018427387904 xs i=false) j)→(i=N→Z0 (decide (-1=F)) True False)∧(i<N∧Yk 4611686018427387904 xs i=true→Z0 (decide ((↑i:Int)=F)) True False)) False) False) (by kernel_rfl) ?_
 try simp only [Zc]
 try simp only [Zd]
 try simp only [Zb]
 try simp only [Int.toNat_natCast,Nat.zero_add,true_and,and_true,Nat.le_refl]
 subst hF
 exact ⟨hC,fun i hi hgo=>⟨fun h=>by subst h;exact (Wf hgo).symm,fun h=>(We h.1 hgo h.2).symm⟩⟩
theorem Za2 (xs:List Int) (N:Nat) (hC:N<900000000000∧xs.length=N):ZD PP 165 [.vints .i64 xs N,.func (.func 117) [] []] (.int .i64 (Yl (Yk 4611686018427387904 xs) N)) 0 []:=.ev (ZbY xs N) (ZfB xs N _ hC rfl)
def ZfC (T:Int):ZZ:=fun args h K=>ZL none h true 20 args fun a=>match a with
 | [.vints .i64 xs n,.func (.func 236) [] [.pview [.int .i64 m] 0]]=>Zo (xs.length=n∧n<900000000000) (K (.int .i64 (Yl (Yk m xs) n)))
 | [.vints .i64 xs n,.func (.func 117) [] []]=>Zo (xs.length=n∧n<900000000000) (K (.int .i64 (Yl (Yk T xs) n)))
 | _=>False
theorem ZbZ (args:List AV) (h:Z7) (K:AV→Prop) (hl:ZfC 4611686018427387904 args h K):Zg PP 165 args h fun o h'=>∃v,o=.ret v∧h'=h∧K v:=by
 refine ZD.psumm (d:=20) (Zn _ _ _ _ _ hl fun a ha=> ?_)
 split at ha
 ·obtain ⟨⟨h1,h2⟩,hK⟩:=Z9 ha
  exact ⟨_,Za1 _ _ _ ⟨h2,h1⟩,fun _=>rfl,hK⟩
 ·obtain ⟨⟨h1,h2⟩,hK⟩:=Z9 ha
  exact ⟨_,Za2 _ _ ⟨h2,h1⟩,fun _=>rfl,hK⟩
 ·exact ha.elim
noncomputable def ZfD (T:Int):Ze:=G0.withP 165 (ZfC T)
theorem Zc0:(ZfD 4611686018427387904).Ok:=Ze.withP_ok Zu ZbZ
@[irreducible] def allIn (m:Int) (xs:List Int):Bool:= !((List.range xs.length).any (Yk m xs))
theorem Zc1 (T:Int) (xs:List Int) (N:Nat) (F:Int) (hC:N<900000000000∧xs.length=N) (hF:F=if allIn 1125899906842624 xs then 0 else 2):
  evF (ZfD T) 20 80 [.vints .i64 xs N] ⟨0,[]⟩ (Yy 0 [] (.int .i64 F) 0 []):=by
 refine @Eq.mpr _ (Z0 (decide (List.length xs=N∧N<900000000000)) (Z0 (!!decide (Yl (Yk 1125899906842624 xs) N≥0)) (Z0 (decide (2=F)) True False) (Z0 (decide (0=F)) True False)) False) (by kernel_rfl) ?_
 try simp only [Zc]
 try simp only [Zd]
 try simp only [Zb]
 try simp only [Int.toNat_natCast,Nat.zero_add,true_and,and_true,Nat.le_refl]
 obtain ⟨h1,h2⟩:=hC
 subst h2
 have hb:=WZ (Yk 1125899906842624 xs) xs.length
 refine ⟨⟨rfl,h1⟩,fun h=> ?_,fun h=> ?_⟩
 ·rw [hF]
  unfold allIn
  rw [←hb]
  simp at h
  simp [h]
 ·rw [hF]
  unfold allIn
  rw [←hb]
  simp at h
  simp [h]
def Za3 (m:Int):ZZ:=fun args h K=>ZL none h true 20 args fun a=>match a with
 | [.vints .i64 xs n]=>Zo (xs.length=n∧n<900000000000) (Z0 (allIn m xs) (K (.int .i64 0)) (K (.int .i64 2)))
 | _=>False
theorem Z8l (args:List AV) (h:Z7) (K:AV→Prop) (hl:Za3 1125899906842624 args h K):Zg PP 80 args h fun o h'=>∃v,o=.ret v∧h'=h∧K v:=by
 refine ZD.psumm (d:=20) (Zn _ _ _ _ _ hl fun a ha=> ?_)
 split at ha
 ·obtain ⟨⟨h1,h2⟩,hK⟩:=Z9 ha
  refine ⟨_,.ev (Zc0) (Zc1 _ _ _ _ ⟨h2,h1⟩ rfl),fun _=>rfl, ?_⟩
  rw [Zb] at hK
  split
  ·rename_i h;exact hK.1 h
  ·rename_i h;exact hK.2 (by simpa using h)
 ·exact ha.elim
end Go.Tk
end
section
namespace Go.Tk
open IntKind (i64 u8 u32 u64 wrap)
def XJ (xs:List Int) (i:Nat):Int:=(xs.take i).sum
theorem QX {xs:List Int} {i:Nat} (h:i<xs.length):XJ xs (i+1)=XJ xs i+xs.getD i 0:=by
 unfold XJ
 rw [List.take_succ_eq_append_getElem h,List.sum_append]
 simp [List.getD_eq_getElem?_getD,h]
theorem QY {m:Int} {xs:List Int} (h:allIn m xs=true) {i:Nat} (hi:i<xs.length):0≤xs.getD i 0∧xs.getD i 0≤m:=by
 unfold allIn at h
 rw [Bool.not_eq_true'] at h
 rw [List.any_eq_false] at h
 have:=h i (List.mem_range.2 hi)
 simp [Yk,Vk, -List.getD_eq_getElem?_getD] at this
 exact this
theorem Z4T {m:Int} {xs:List Int} (h:allIn m xs=true):∀{i:Nat},i≤xs.length→0≤XJ xs i
 | 0,_=>by simp [XJ]
 | i+1,hi=>by
  rw [QX (by omega)]
  have:=QY h (i:=i) (by omega)
  have:=Z4T h (i:=i) (by omega)
  omega
theorem Z2T {m:Int} {xs:List Int} (h:allIn m xs=true):∀(d i:Nat),i+d≤xs.length→XJ xs i≤XJ xs (i+d)
 | 0,i,_=>Int.le_refl _
 | d+1,i,hi=>by
  have h1:=Z2T h d i (by omega)
  rw [←Nat.add_assoc,QX (by omega)]
  have:=QY h (i:=i+d) (by omega)
  omega
def adS (xs:List Int) (i:Nat):St:=⟨24,[(10,.vints .i64 xs xs.length),(3,.int .i64 150),(11,.int .i64 xs.length),(12,.int .i64 i),(2,.int .i64 (XJ xs i))],⟨0,[]⟩,[]⟩
def adE (xs:List Int) (i:Nat):St:=⟨24,[(3,.int .i64 150),(2,.int .i64 (XJ xs i))],⟨0,[]⟩,[]⟩
def adJ (_:Nat):St:=⟨24,[(3,.int .i64 150)],⟨0,[]⟩,[]⟩
theorem ZfE (xs:List Int) (i:Nat) (Z1 Z2 Z4:Prop) (M:Int) (hM:M=1125899906842624) (hn:xs.length<900000000000) (hall:allIn M xs=true) (hi:i≤xs.length) (hgo:∀j,j<i→XJ xs (j+1)≤M) (h1:i<xs.length→XJ xs (i+1)≤M→Z1) (h2:i=xs.length→Z2) (h4:i<xs.length→M<XJ xs (i+1)→Z4):
  Yf G0 20 74 0 0 (adS xs i) (fun e s=>match e with|.normal=>ZR 0 [] (adS xs (i+1)) s Z1|.exit x=>(match Nat.beq x 0 with|true=>ZR 0 [] (adE xs i) s Z2|false=>False)|.ret=>ZR 0 [] (adJ i) s False|.goto x=>(match Nat.beq x 0 with|true=>ZR 0 [] (adJ i) s Z4|false=>False)|_=>False):=by
 refine @Eq.mpr _ (let q1:=List.length xs;
 let q2:=(↑q1:Int);
 let q3:=XJ xs i;
 let q4:=wrap i64 (q3+List.getD xs (Int.toNat (↑i:Int)) 0);
 Z0 (decide ((↑i:Int)<q2)) (Z0 (decide (0≤(↑i:Int)∧(↑i:Int)<q2)) (Z0 (decide (q4>1125899906842624)) Z4 (xs=xs∧Z0 (decide (q1=q1)) (Z0 (decide (q2=q2)) (Z0 (decide (wrap i64 ((↑i:Int)+1)=(↑(i+1):Int))) (Z0 (decide (q4=XJ xs (i+1))) Z1 False) False) False) False)) False) (Z0 (decide (q3=q3)) Z2 False)) (by kernel_rfl) ?_
 conv=>zeta
 try simp only [Zc]
 try simp only [Zd]
 try simp only [Zb]
 try simp only [Int.toNat_natCast,Nat.zero_add,true_and,and_true,Nat.le_refl]
 subst hM
 refine ⟨fun hlt=>⟨by omega, ?_⟩,fun hge=>h2 (by omega)⟩
 have hs:=QX (xs:=xs) (i:=i) (by omega)
 have hx:=QY hall (i:=i) (by omega)
 have hp:=Z4T hall hi
 have hq:XJ xs i≤1125899906842624:=by
  cases i with
  | zero=>simp [XJ]
  | succ j=>exact hgo j (by omega)
 have hw:i64.wrap (XJ xs i+xs.getD i 0)=XJ xs (i+1):=by rw [w64 (by omega)];exact hs.symm
 rw [hw]
 have hw2:i64.wrap ((i:Int)+1)=((i+1:Nat):Int):=w64 (by omega)
 refine ⟨fun h=>h4 (by omega) (by omega),fun h=> ?_⟩
 rw [hw2]
 simp [h1 (by omega) (by omega)]
noncomputable def ZfF (m M:Int) (xs:List Int):Ze:=(G0.withL 74 0 (goL 0 [] (adS xs 0) (allIn M xs=true∧xs.length<900000000000) (WX 0 xs.length 0 (fun i=>XJ xs (i+1)≤M) (fun i=>i=xs.length) (fun _=>False) (fun i=>i<xs.length∧M<XJ xs (i+1)) (adE xs) adJ adJ))).withP 80 (Za3 m)
theorem Zc2 (xs:List Int):(ZfF 1125899906842624 1125899906842624 xs).Ok:=
 Ze.withP_ok (Ze.withGoJ (τ1:=[]) (τ2:=[]) (τ3:=[]) (τ4:=[]) (N:=20) Zu (by kernel_rfl) fun hC=>⟨rfl,fun i hi hgo=>ZfE xs i _ _ _ _ rfl hC.2 hC.1 hi hgo (fun h1 h2=>⟨h2,h1⟩) (fun h=>h) (fun h1 h2=>⟨h1,h2⟩)⟩) Z8l
@[irreducible] def ZS (xs:List Int):Int×Int:=if allIn 1125899906842624 xs=true then (if xs.sum≤1125899906842624 then (xs.sum,0) else (0,150)) else (0,2)
theorem ZfG (xs:List Int) (m M:Int) (F:Int×Int) (hm:m=1125899906842624) (hM:M=1125899906842624) (hn:xs.length<900000000000) (hF:F=ZS xs):
  evF (ZfF m M xs) 20 74 [.vints .i64 xs xs.length] ⟨0,[]⟩ (Yy 0 [] (.tuple [.int .i64 F.1,.int .i64 F.2]) 0 []):=by
 refine @Eq.mpr _ (let q1:=List.length xs;
 let q2:=(↑q1:Int);
 let q3:=decide (0=F.fst);
 Z0 (decide (q1=q1∧q1<900000000000)) (Z0 (allIn m xs) (xs=xs∧Z0 (decide (q1=q1)) (Z0 (decide (q2=q2)) ((allIn M xs=true∧q1<900000000000)∧∀(i:Nat),i≤q1→(∀(j:Nat),j<i→(fun (i:Nat)=>XJ xs (i+1)≤M) j)→(i=q1→Z0 (decide (XJ xs i=F.fst)) (Z0 (decide (0=F.snd)) True False) False)∧(False→False)∧(i<q1∧M<XJ xs (i+1)→Z0 q3 (Z0 (decide (150=F.snd)) True False) False)) False) False) (Z0 q3 (Z0 (decide (2=F.snd)) True False) False)) False) (by kernel_rfl) ?_
 conv=>zeta
 try simp only [Zc]
 try simp only [Zd]
 try simp only [Zb]
 try simp only [Int.toNat_natCast,Nat.zero_add,true_and,and_true,Nat.le_refl]
 subst hm hM hF
 have ht:XJ xs xs.length=xs.sum:=by simp [XJ]
 refine ⟨hn,fun hall=>⟨⟨hall,hn⟩,fun i hi hgo=>⟨fun he=> ?_,fun h=>h.elim,fun he=> ?_⟩⟩,fun hall=> ?_⟩
 ·subst he
  have hle:xs.sum≤1125899906842624:=by
   rw [←ht]
   rcases Nat.eq_zero_or_pos xs.length with h0|h0
   ·rw [h0];simp [XJ]
   ·have:=hgo (xs.length-1) (by omega)
    rw [Nat.sub_add_cancel h0] at this
    exact this
  unfold ZS
  rw [if_pos hall,if_pos hle]
  exact ⟨ht,rfl⟩
 ·have hmono:=Z2T hall (xs.length-(i+1)) (i+1) (by omega)
  rw [show i+1+(xs.length-(i+1))=xs.length by omega,ht] at hmono
  unfold ZS
  rw [if_pos hall,if_neg (by omega)]
  exact ⟨rfl,rfl⟩
 ·unfold ZS
  rw [if_neg (by simp [hall])]
  exact ⟨rfl,rfl⟩
def Z79 (A:List Int→Int×Int):ZZ:=fun args h K=>ZL none h true 20 args fun a=>match a with
 | [.vints .i64 xs n]=>Zo (n=xs.length∧n<900000000000) (K (.tuple [.int .i64 (A xs).1,.int .i64 (A xs).2]))
 | _=>False
theorem Z1R (args:List AV) (h:Z7) (K:AV→Prop) (hl:Z79 ZS args h K):Zg PP 74 args h fun o h'=>∃v,o=.ret v∧h'=h∧K v:=by
 refine ZD.psumm (d:=20) (Zn _ _ _ _ _ hl fun a ha=> ?_)
 split at ha
 ·obtain ⟨⟨rfl,h1⟩,hK⟩:=Z9 ha
  exact ⟨_,.ev (Zc2 _) (ZfG _ _ _ _ rfl rfl h1 rfl),fun _=>rfl,hK⟩
 ·exact ha.elim
def amL (g:Nat→ZM) (n:Nat):List Int:=(List.range n).map fun j=>(g j).amount
theorem Za4 (g:Nat→ZM) (n:Nat):amL g (n+1)=amL g n++[(g n).amount]:=by simp [amL,List.range_succ]
theorem Qp (g:Nat→ZM) (n:Nat):(amL g n).length=n:=by simp [amL]
def suS (M:Nat) (g:Nat→ZM) (i:Nat):St:=⟨24,[(8,.vrows 132 M (Zi g) M),(9,.int .i64 M),(10,.int .i64 i),(4,.nslice ⟨0,0,0,0,0⟩ 1 i i)],⟨1,[(0,.ints .i64 (amL g i))]⟩,[]⟩
def suE (g:Nat→ZM) (i:Nat):St:=⟨24,[(4,.nslice ⟨0,0,0,0,0⟩ 1 i i)],⟨1,[(0,.ints .i64 (amL g i))]⟩,[]⟩
theorem ZfH (M i:Nat) (g:Nat→ZM) (Z1 Z2:Prop) (hn:M<900000000000) (hi:i≤M) (h1:i<M→Z1) (h2:i=M→Z2):
  Yf G0 20 187 0 0 (suS M g i) (fun e s=>match e with|.normal=>ZR 0 [(0,3)] (suS M g (i+1)) s Z1|.exit x=>(match Nat.beq x 0 with|true=>ZR 0 [(0,0)] (suE g i) s Z2|false=>False)|.ret=>ZR 0 [] (suE g i) s False|_=>False):=by
 refine @Eq.mpr _ (let q1:=amL g i;
 let q2:=q1++[(g (Int.toNat (↑i:Int))).amount];
 let q3:=List.length q2;
 let q4:=decide (M=M);
 let q5:=i+1;
 Z0 (decide ((↑i:Int)<(↑M:Int))) (Z0 (decide (0≤(↑i:Int)∧(↑i:Int)<(↑M:Int))) (Z0 (decide (i64=i64∧List.length q1=i)) (Z0 (decide (q3*8≤140737488355328)) (Z0 q4 (Zi g=Zi g∧Z0 q4 (Z0 (decide ((↑M:Int)=(↑M:Int))) (Z0 (decide (wrap i64 ((↑i:Int)+1)=(↑q5:Int))) (Z0 (decide (q3=q5)) (Z0 (decide (q5≤q3)) (q2=amL g q5∧Z1) False) False) False) False) False) False) False) False) False) (Z0 (decide (i=i)) (Z0 (decide (i≤i)) (q1=q1∧Z2) False) False)) (by kernel_rfl) ?_
 conv=>zeta
 try simp only [Zc]
 try simp only [Zd]
 try simp only [Zb]
 try simp only [Int.toNat_natCast,Nat.zero_add,true_and,and_true,Nat.le_refl]
 refine ⟨fun hlt=>⟨by omega,Qp g i, ?_⟩,fun hge=>h2 (by omega)⟩
 rw [←Za4,Qp]
 exact ⟨by omega,w64 (by omega),rfl,Nat.le_refl _,rfl,h1 (by omega)⟩
noncomputable def ZfI (A:List Int→Int×Int) (M:Nat) (g:Nat→ZM):Ze:=(G0.withL 187 0 (goL 0 [] (suS M g 0) (M<900000000000) (Z0i 0 M (fun i=>i<M) (fun i=>i=M) (fun _=>False) (suE g) (suE g)))).withP 74 (Z79 A)
theorem Zc3 (M:Nat) (g:Nat→ZM):(ZfI ZS M g).Ok:=
 Ze.withP_ok (Ze.withGo (τ1:=[(0,3)]) (τ2:=[(0,0)]) (τ3:=[]) (N:=20) Zu (by kernel_rfl) fun hC=>⟨rfl,fun i hi hgo=>ZfH M i g _ _ hC hi (fun h=>⟨h,h⟩) (fun h=>h)⟩) Z1R
theorem ZfJ (A:List Int→Int×Int) (M N:Nat) (f:Nat→InS) (g:Nat→ZM) (num:Int) (F:Int×Int) (hn:M<900000000000) (hF:F=A (amL g M)):
  evF (ZfI A M g) 20 187 [.agg [.int .i64 num,.vrows 130 N (Zf f) N,.vrows 132 M (Zi g) M]] ⟨0,[]⟩ (Yy 0 [] (.tuple [.int .i64 F.1,.int .i64 F.2]) 0 []):=by
 refine @Eq.mpr _ (let q1:=decide (M=M);
 Z0 q1
 (Zi g=Zi g∧
 Z0 q1
 (Z0 (decide ((↑M:Int)=(↑M:Int)))
 (amL g 0=[]∧
 M<900000000000∧
 ∀(i:Nat),
 let q3:=List.take i (Yo 0 (amL g i));
 let q4:=A q3;
 i≤M→(∀(j:Nat),j<i→(fun (i:Nat)=>i<M) j)→(i=M→Z0 (decide (0+i≤List.length (amL g i))) (Z0 (decide (i=List.length q3∧i<900000000000)) (Z0 (decide (q4.fst=F.fst)) (Z0 (decide (q4.snd=F.snd)) True False) False) False) False)∧(False→False))
 False)
 False)
 False) (by kernel_rfl) ?_
 conv=>zeta
 try simp only [Zc]
 try simp only [Zd]
 try simp only [Zb]
 try simp only [Int.toNat_natCast,Nat.zero_add,true_and,and_true,Nat.le_refl]
 subst hF
 refine ⟨rfl,hn,fun i hi hgo=>⟨fun he=> ?_,fun h=>h.elim⟩⟩
 subst he
 rw [Y6,List.drop_zero,List.take_of_length_le (by rw [Qp];exact Nat.le_refl _),Qp]
 exact ⟨Nat.le_refl _,⟨rfl,hn⟩,rfl,rfl⟩
def Z6d (A:List Int→Int×Int):ZZ:=fun args h K=>ZL none h true 20 args fun a=>match a with
 | [.agg [.int .i64 num,.vrows 130 N f n,.vrows 132 M f' m]]=>∃g g',f=Zf g∧f'=Zi g'∧(n=N∧m=M∧M<900000000000)∧K (.tuple [.int .i64 (A (amL g' M)).1,.int .i64 (A (amL g' M)).2])
 | _=>False
theorem Z2U (args:List AV) (h:Z7) (K:AV→Prop) (hl:Z6d ZS args h K):Zg PP 187 args h fun o h'=>∃v,o=.ret v∧h'=h∧K v:=by
 refine ZD.psumm (d:=20) (Zn _ _ _ _ _ hl fun a ha=> ?_)
 split at ha
 ·obtain ⟨g,g',rfl,rfl,⟨rfl,rfl,h1⟩,hK⟩:=ha
  exact ⟨_,.ev (Zc3 _ g') (ZfJ _ _ _ g g' _ _ h1 rfl),fun _=>rfl,hK⟩
 ·exact ha.elim
end Go.Tk
end
section
namespace Go.Tk
open IntKind (i64 u8 u32 u64 wrap)
def Z4U (v:AV) (N:Nat) (g:Nat→InS):Prop:=match v with
 | .vrows 130 n f m=>(m=n∧N=n)∧∀i,i<n→f i=(g i).c
 | .nilslice=>N=0
 | .eslice=>N=0
 | .fslice=>N=0
 | _=>False
def Z0j (v:AV) (N:Nat) (g:Nat→ZM):Prop:=match v with
 | .vrows 132 n f m=>(m=n∧N=n)∧∀i,i<n→f i=(g i).c
 | .nilslice=>N=0
 | .eslice=>N=0
 | .fslice=>N=0
 | _=>False
theorem Za.rows0 {E:Env} {esz:Nat} {f:Nat→List AV} {r:Value} {a:Option Addr} {c:Nat} (h:r=.slice a 0 c) (hc:a=none→c=0):Za E (.vrows esz 0 f 0) r:=by
 subst h
 cases a with
 | none=>rw [hc rfl];exact .vrowsNil _ _ _ _ rfl rfl
 | some a=>exact .vrows _ _ _ _ a c (fun _=>[]) (Nat.le_refl _) (Nat.zero_le _) (fun i h=>by omega) (fun i h=>by omega) (fun i j c h=>by omega)
theorem Za.rowsC {E:Env} {esz n:Nat} {f f':Nat→List AV} {r:Value} (h:Za E (.vrows esz n f n) r) (hf:∀i,i<n→f i=f' i):Za E (.vrows esz n f' n) r:=by
 cases h with
 | vrowsNil esz n f len h1 h2=>exact .vrowsNil _ _ _ _ h1 h2
 | vrows esz n f len a cap g h1 h2 hc hl hi=>exact .vrows _ _ _ _ a cap g h1 h2 (fun i h=>by rw [←hf i h];exact hc i h) hl hi
theorem Z4U.rel {v:AV} {N:Nat} {g:Nat→InS} (h:Z4U v N g) {E:Env} {r:Value} (hv:Za E v r):Za E (.vrows 130 N (Zf g) N) r:=by
 unfold Z4U at h
 split at h
 ·obtain ⟨⟨rfl,rfl⟩,hf⟩:=h
  exact hv.rowsC hf
 ·subst h;cases hv;exact .rows0 rfl (fun _=>rfl)
 ·subst h;cases hv with|eslice a=>exact .rows0 rfl (fun _=>rfl)
 ·subst h;cases hv with|fslice a c=>exact .rows0 rfl (fun h=>by cases h)
 ·exact h.elim
theorem Z0j.rel {v:AV} {N:Nat} {g:Nat→ZM} (h:Z0j v N g) {E:Env} {r:Value} (hv:Za E v r):Za E (.vrows 132 N (Zi g) N) r:=by
 unfold Z0j at h
 split at h
 ·obtain ⟨⟨rfl,rfl⟩,hf⟩:=h
  exact hv.rowsC hf
 ·subst h;cases hv;exact .rows0 rfl (fun _=>rfl)
 ·subst h;cases hv with|eslice a=>exact .rows0 rfl (fun _=>rfl)
 ·subst h;cases hv with|fslice a c=>exact .rows0 rfl (fun h=>by cases h)
 ·exact h.elim
theorem Z4U.cell {v:AV} {N:Nat} {g:Nat→InS} (h:Z4U v N g):v.isCell=true∧∀k n xs,v≠.arr k n xs:=by
 unfold Z4U at h;split at h<;>simp_all [AV.isCell]
theorem Z0j.cell {v:AV} {N:Nat} {g:Nat→ZM} (h:Z0j v N g):v.isCell=true∧∀k n xs,v≠.arr k n xs:=by
 unfold Z0j at h;split at h<;>simp_all [AV.isCell]
structure TxS where
 num:Int
 N:Nat
 ins:Nat→InS
 M:Nat
 outs:Nat→ZM
def TxS.c (t:TxS):List AV:=[.int .i64 t.num,.vrows 130 t.N (Zf t.ins) t.N,.vrows 132 t.M (Zi t.outs) t.M]
structure TxS.Ok (t:TxS):Prop where
 n:t.N<900000000000
 m:t.M<900000000000
 ins:∀i,i<t.N→(t.ins i).Ok
 outs:∀i,i<t.M→(t.outs i).Ok
def Z3Q (l:List AV) (t:TxS):Prop:=match l with
 | [.int .i64 num,a,b]=>t.num=num∧Z4U a t.N t.ins∧Z0j b t.M t.outs
 | _=>False
theorem Z3Q.rel {l:List AV} {t:TxS} (h:Z3Q l t) {E:Env} {r:Value} (hv:Za E (.agg l) r):Za E (.agg t.c) r:=by
 unfold Z3Q at h
 split at h
 ·rename_i num a b
  obtain ⟨h0,h1,h2⟩:=h
  cases hv with
  | agg cs vs hc=>
   obtain ⟨c1,ws,rfl,_,q1,p1,hc⟩:=Zp.cons_cell hc (fun _ _ _ h=>by cases h)
   obtain ⟨c2,ws,rfl,_,q2,p2,hc⟩:=Zp.cons_cell hc h1.cell.2
   obtain ⟨c3,ws,rfl,_,q3,p3,hc⟩:=Zp.cons_cell hc h2.cell.2
   cases hc
   refine .agg _ _ (.one _ _ _ _ rfl q1 (by rw [h0];exact p1) (.one _ _ _ _ rfl q2 (h1.rel p2) (.one _ _ _ _ rfl q3 (h2.rel p3) .nil)))
 ·exact h.elim
theorem ZD.conv {P:Program} {f:FuncId} {args args₀:List AV} {v:AV} {nx:Nat} {bs:List (Nat×Blk)} (h:ZD P f args₀ v nx bs) (hc:∀E r,ZA E args r→ZA E args₀ r):ZD P f args v nx bs:=
 fun E w rs he hr=>h E w rs he (hc E rs hr)
theorem ZA.head {E:Env} {v v':AV} {r l:List AV} {rs:List Value} (h:ZA E (v::l) rs) (hv:∀c,Za E v c→Za E v' c) (ht:∀cs,ZA E l cs→ZA E r cs):ZA E (v'::r) rs:=by
 cases h with
 | cons v c vs cs h t=>exact .cons _ _ _ _ (hv c h) (ht cs t)
@[irreducible] def Yt (A:List Int→Int×Int) (t:TxS):Bool:=
 decide (0≤t.num∧t.num≤2147483647)&&decide (1≤t.N∧t.N≤24)&&decide (1≤t.M∧t.M≤24)&& !((List.range t.N).any (YJ t.N t.ins))&& !((List.range t.M).any (Yj t.outs))&&((A (amL t.outs t.M)).2==0)
noncomputable def ZfK (A:List Int→Int×Int):Ze:=((G0.withP 179 Zfj).withP 245 Zfq).withP 187 (Z6d A)
theorem Zc4:(ZfK ZS).Ok:=Ze.withP_ok (Ze.withP_ok (Ze.withP_ok Zu ZbQ) ZbU) Z2U
theorem Zh7 (A:List Int→Int×Int) (t:TxS) (F:Int) (ht:t.Ok) (hF:F=if Yt A t=true then 0 else 2):
  evF (ZfK A) 20 89 [.agg t.c] ⟨0,[]⟩ (Yy 0 [] (.int .i64 F) 0 []):=by
 refine @Eq.mpr _ (let q1:=Z0 (decide (2=F)) True False;
 let q2:=t.N;
 let q3:=(↑q2:Int);
 let q4:=t.M;
 let q5:=(↑q4:Int);
 let q6:=Zf t.ins;
 let q7:=q2=q2;
 let q8:=q4=q4;
 let q9:=q4<900000000000;
 Z0 (decide (0≤t.num))
 (Z0 (!decide (t.num≤2147483647)) q1
 (Z0 (decide (1≤q3))
 (Z0 (!decide (q3≤24)) q1
 (Z0 (decide (1≤q5))
 (Z0 (!decide (q5≤24)) q1
 (∃(g:Nat→InS),
 let q19:=q6=Zf g;
 q19∧
 q19∧
 (q7∧q7∧q7∧q2<900000000000∧∀(i:Nat),i<q2→InS.Ok (g i))∧
 Z0 (decide (Yl (YJ q2 g) q2≥0)) q1
 (∃(g:Nat→ZM),
 let q21:=Zi t.outs;
 q21=Zi g∧(q8∧q9∧∀(i:Nat),i<q4→ZM.Ok (g i))∧Z0 (decide (Yl (Yj g) q4≥0)) q1 (∃(g:Nat→InS),∃(g':Nat→ZM),q6=Zf g∧q21=Zi g'∧(q7∧q8∧q9)∧Z0 ((A (amL g' q4)).snd !=0) q1 (Z0 (decide (0=F)) True False)))))
 q1))
 q1))
 q1) (by kernel_rfl) ?_
 conv=>zeta
 try simp only [Zc]
 try simp only [Zd]
 try simp only [Zb]
 try simp only [Int.toNat_natCast,Nat.zero_add,true_and,and_true,Nat.le_refl]
 have h2:Yt A t=false→2=F:=fun h=>by rw [hF,h];rfl
 have h0:Yt A t=true→0=F:=fun h=>by rw [hF,h];rfl
 clear hF
 refine ⟨fun a1=>⟨fun a2=>h2 ?_,fun a2=>⟨fun a3=>⟨fun a4=>h2 ?_,fun a4=>⟨fun a5=>⟨fun a6=>h2 ?_,fun a6=> ?_⟩,fun a5=>h2 ?_⟩⟩,fun a3=>h2 ?_⟩⟩,fun a1=>h2 ?_⟩
 ·unfold Yt;rw [decide_eq_false (p:=0≤t.num∧_) (by simp at a2;omega)];simp
 ·unfold Yt;rw [decide_eq_false (p:=1≤t.N∧_) (by simp at a4;omega)];simp
 ·unfold Yt;rw [decide_eq_false (p:=1≤t.M∧_) (by simp at a6;omega)];simp
 ·refine ⟨t.ins,rfl,rfl,⟨ht.n,ht.ins⟩,fun b1=>h2 ?_,fun b1=>⟨t.outs,rfl,⟨ht.m,ht.outs⟩,fun b2=>h2 ?_,fun b2=>⟨t.ins,t.outs,rfl,rfl,ht.m,fun b3=>h2 ?_,fun b3=>h0 ?_⟩⟩⟩
  ·have:=WZ (YJ t.N t.ins) t.N
   rw [decide_eq_true b1] at this
   unfold Yt;rw [←this];simp
  ·have:=WZ (Yj t.outs) t.M
   rw [decide_eq_true b2] at this
   unfold Yt;rw [←this];simp
  ·unfold Yt;simp at b3;simp [b3]
  ·have e1:=WZ (YJ t.N t.ins) t.N
   rw [decide_eq_false b1] at e1
   have e2:=WZ (Yj t.outs) t.M
   rw [decide_eq_false b2] at e2
   unfold Yt
   rw [←e1,←e2]
   simp at a2 a4 a6 b3
   simp [b3]
   omega
 ·unfold Yt;rw [decide_eq_false (p:=1≤t.M∧_) (by omega)];simp
 ·unfold Yt;rw [decide_eq_false (p:=1≤t.N∧_) (by omega)];simp
 ·unfold Yt;rw [decide_eq_false (p:=0≤t.num∧_) (by omega)];simp
def ckS (A:List Int→Int×Int):ZZ:=fun args h K=>ZL none h true 20 args fun a=>match a with
 | [.agg l]=>∃t,Z3Q l t∧t.Ok∧Z0 (Yt A t) (K (.int .i64 0)) (K (.int .i64 2))
 | _=>False
theorem Za5 (args:List AV) (h:Z7) (K:AV→Prop) (hl:ckS ZS args h K):Zg PP 89 args h fun o h'=>∃v,o=.ret v∧h'=h∧K v:=by
 refine ZD.psumm (d:=20) (Zn _ _ _ _ _ hl fun a ha=> ?_)
 split at ha
 ·obtain ⟨t,h1,h2,hK⟩:=ha
  refine ⟨_,(ZD.ev Zc4 (Zh7 _ t _ h2 rfl)).conv fun E r hr=>hr.head (fun _ hc=>h1.rel hc) (fun _ hc=>hc),fun _=>rfl, ?_⟩
  rw [Zb] at hK
  split
  ·rename_i h;exact hK.1 h
  ·rename_i h;exact hK.2 (by simpa using h)
 ·exact ha.elim
end Go.Tk
end
section
namespace Go.Tk
open IntKind (i64 u8 u32 u64 wrap)
def Za6 (k:Nat) (τ:Ren) (y x:Nat):Ren:=match Nat.blt y k with
 | true=>τ
 | false=>match Z5S τ y with
  | some _=>τ
  | none=>(y,x)::τ
mutual
def ZdW (k:Nat) (τ:Ren):AV→AV→Ren
 | .ptr (some q),v=>match v with|.ptr (some p)=>Za6 k τ q.blk p.blk|_=>τ
 | .nslice q _ _ _,v=>match v with|.nslice p _ _ _=>Za6 k τ q.blk p.blk|_=>τ
 | .map (some y),v=>match v with|.map (some x)=>Za6 k τ y x|_=>τ
 | .yield y,v=>match v with|.yield x=>Za6 k τ y x|_=>τ
 | .func _ fs cs,v=>match v with|.func _ fs' cs'=>Z1S k (Z1S k τ fs fs') cs cs'|_=>τ
 | .iface _ u,v=>match v with|.iface _ u'=>ZdW k τ u u'|_=>τ
 | .agg cs,v=>match v with|.agg cs'=>Z1S k τ cs cs'|_=>τ
 | .tuple cs,v=>match v with|.tuple cs'=>Z1S k τ cs cs'|_=>τ
 | _,_=>τ
def Z1S (k:Nat) (τ:Ren):List AV→List AV→Ren
 | [],_=>τ
 | v::r,l=>match l with|v'::r'=>Z1S k (ZdW k τ v v') r r'|[]=>τ
end
def Zh8 (k:Nat) (τ:Ren):Blk→Blk→Ren
 | .flat cs,B=>match B with|.flat cs'=>Z1S k τ cs cs'|_=>τ
 | .map es,B=>match B with|.map es'=>Z1S k (Z1S k τ (es.map (·.1)) (es'.map (·.1))) (es.map (·.2)) (es'.map (·.2))|_=>τ
 | .pmap es,B=>match B with|.pmap es'=>Z1S k (Z1S k τ (es.map (·.1)) (es'.map (·.1))) (es.map (·.2)) (es'.map (·.2))|_=>τ
 | _,_=>τ
def ZfL (k:Nat) (t:ZP):ZP→Ren→Ren
 | [],τ=>τ
 | (x,v)::r,τ=>ZfL k t r (match ZF t x with|some u=>ZdW k τ v u|none=>τ)
def ZdX (k:Nat):List Vy→List Vy→Ren→Ren
 | .call _ a::r,l,τ=>match l with|.call _ b::r'=>ZdX k r r' (Z1S k τ a b)|_=>τ
 | .mark y::r,l,τ=>match l with|.mark x::r'=>ZdX k r r' (Za6 k τ y x)|_=>τ
 | [],_,τ=>τ
def Zc5 (k:Nat) (bs:List (Nat×Blk)):List (Nat×Blk)→Ren→Ren
 | [],τ=>τ
 | (y,B)::r,τ=>Zc5 k bs r (match rn k τ y with
  | some x=>match ZH bs x with|some C=>Zh8 k τ B C|none=>τ
  | none=>τ)
def Zh9 (k:Nat) (s₂ s:St):Ren:=Zc5 k s.h.bs s₂.h.bs (Zc5 k s.h.bs s₂.h.bs (Zc5 k s.h.bs s₂.h.bs (ZdX k s₂.d s.d (ZfL k s.t s₂.t []))))
def Uw (k:Nat) (s₂ s:St) (Z:Prop):Prop:=ZR k (Zh9 k s₂ s) s₂ s Z
theorem Wg {k:Nat} {s₂ s:St} {Z:Prop} (hl:Uw k s₂ s Z):Z∧VL k s s₂:=Y3 hl
def Y2 (k:Nat) (o:Out) (nx:Nat) (bs:List (Nat×Blk)):KO:=fun o' h=>match o with
 | .ret v=>match o' with
  | .ret u=>Uw k ⟨1,[(0,v)],⟨nx,bs⟩,[]⟩ ⟨1,[(0,u)],h,[]⟩ True
  | .panic _=>False
 | .panic v=>match o' with
  | .panic u=>Uw k ⟨1,[(0,v)],⟨nx,bs⟩,[]⟩ ⟨1,[(0,u)],h,[]⟩ True
  | .ret _=>False
theorem Spec.evM {G:Ze} (hG:G.Ok) {n:Nat} {f:FuncId} {args:List AV} {h0:Z7} {o:Out} {nx:Nat} {bs:List (Nat×Blk)} (h:evF G n f args h0 (Y2 h0.next o nx bs)):Spec G.P f args h0 o nx bs:=by
 intro E w rs he hl
 refine (Yw hG h E w rs he hl).mono ?_
 rintro e w' ⟨E',o',h',hK,hev,hor⟩
 unfold Y2 at hK
 cases o with
 | ret v=>
  cases hor with
  | ret u r hr=>
   obtain ⟨E₂,h1,h2⟩:=U7 rfl hK he hev hr
   exact ⟨E₂,h1,.ret _ _ h2⟩
  | panic u r hr=>exact hK.elim
 | panic v=>
  cases hor with
  | panic u r hr=>
   obtain ⟨E₂,h1,h2⟩:=U7 rfl hK he hev hr
   exact ⟨E₂,h1,.panic _ _ h2⟩
  | ret u r hr=>exact hK.elim
theorem Spec.pure {P:Program} {f:FuncId} {args:List AV} {v:AV} {nx:Nat} {bs:List (Nat×Blk)} (h:Spec P f args ⟨0,[]⟩ (.ret v) nx bs):ZD P f args v nx bs:=by
 intro E w rs he hl
 refine (h E w rs he hl).mono ?_
 rintro e w' ⟨E',hev,hor⟩
 cases hor with
 | ret v r hr=>exact ⟨E',r,rfl,hev,hr⟩
theorem ZD.evM {G:Ze} (hG:G.Ok) {n:Nat} {f:FuncId} {args:List AV} {v:AV} {nx:Nat} {bs:List (Nat×Blk)} (h:evF G n f args ⟨0,[]⟩ (Y2 0 (.ret v) nx bs)):ZD G.P f args v nx bs:=(Spec.evM hG h).pure
def goM (k:Nat) (S0:St) (C:Prop) (ends:KE→Prop):Nat→St→KE→Prop:=fun k' s X=>match Nat.beq k' k with
 | true=>Uw k S0 s (C∧ends X)
 | false=>False
def rdM (k id l:Nat) (S1 En Rn Jn:St) (go ex re jm:Prop):KE:=fun e s=>match e with
 | .normal=>Uw k S1 s go
 | .exit x=>(match Nat.beq x id with|true=>Uw k En s ex|false=>False)
 | .ret=>Uw k Rn s re
 | .goto x=>(match Nat.beq x l with|true=>Uw k Jn s jm|false=>False)
 | .panic _=>False
theorem Ze.withGoM {G:Ze} (hG:G.Ok) {f:FuncId} {id k N n l:Nat} {S En Rn Jn:Nat→St} {S0:St} {C:Prop} {go ex re jm:Nat→Prop} (h1:WP G.P f id=true) (hC:C→S 0=S0∧
   ∀i,i≤n→(∀j,j<i→go j)→Yf G N f id k (S i) (rdM k id l (S (i+1)) (En i) (Rn i) (Jn i) (go i∧i<n) (ex i) (re i) (jm i))):
  (G.withL f id (goM k S0 C (WX id n l go ex re jm En Rn Jn))).Ok:=by
 refine Ze.withL_ok hG h1 ?_
 intro k' s X hl
 unfold goM at hl
 split at hl
 ·rename_i hk
  have:=Nat.eq_of_beq_eq_true hk
  subst this
  obtain ⟨⟨hc,hX⟩,hw⟩:=Wg hl
  obtain ⟨e0,hr⟩:=hC hc
  refine ⟨{ t:Nat//t≤n∧∀j,j<t→go j},fun t=>n-t.1,fun t=>S t.1,⟨0,Nat.zero_le _,fun j hj=>by omega⟩,N,by show VL k' s (S 0);rw [e0];exact hw, ?_⟩
  rintro ⟨t,ht,hgo⟩
  refine ⟨_,hr t ht hgo, ?_⟩
  intro e s' hY
  unfold rdM at hY
  split at hY
  ·obtain ⟨⟨hg,hlt⟩,hw'⟩:=Wg hY
   refine ⟨⟨t+1,hlt,fun j hj=> ?_⟩,by show n-(t+1)<n-t;omega,hw'⟩
   by_cases hjt:j=t
   ·rw [hjt];exact hg
   ·exact hgo j (by omega)
  ·split at hY
   ·rename_i hi
    have:=Nat.eq_of_beq_eq_true hi
    subst this
    obtain ⟨hex,hw'⟩:=Wg hY
    exact ⟨_,hw',(hX t ht hgo).1 hex⟩
   ·exact hY.elim
  ·obtain ⟨hre,hw'⟩:=Wg hY
   exact ⟨_,hw',(hX t ht hgo).2.1 hre⟩
  ·split at hY
   ·rename_i hi
    have:=Nat.eq_of_beq_eq_true hi
    subst this
    obtain ⟨hjm,hw'⟩:=Wg hY
    exact ⟨_,hw',(hX t ht hgo).2.2 hjm⟩
   ·exact hY.elim
  ·exact hY.elim
 ·exact hl.elim
end Go.Tk
namespace Go.Tk
open IntKind (i64 u8 u32 u64 wrap)
theorem Ze.withL_join {G H:Ze} (hG:G.Ok) (hP:G.P=H.P) {f:FuncId} {id:Nat} {S:Nat→St→KE→Prop} (h:(H.withL f id S).Ok):(G.withL f id S).Ok where
 draw:=hG.draw
 psumm:=hG.psumm
 fsumm:=hG.fsumm
 lsumm:=fun f' id' S' fn c body hS hf hb hm k s X hs=>by
  have hS0:=hS
  simp only [Ze.withL] at hS
  split at hS
  ·have:=h.lsumm f' id' S' fn c body
   simp only [Ze.withL] at this
   rename_i hq
   rw [hq] at this
   have:=this hS (hP▸hf) hb hm k s X hs
   rw [←hP] at this
   exact this
  ·exact hG.lsumm f' id' S' fn c body hS hf hb hm k s X hs
end Go.Tk
end
section
namespace Go.Tk
open IntKind (i64 u8 u32 u64 wrap)
def b8 (n k:Int):Int:=u8.wrap (ZC .i64 n k)
@[irreducible] def ZB (n:Int):List Int:=
 if n<253 then [u8.wrap n] else if n<65536 then [253,b8 n 8,b8 n 0] else if n<4294967296 then [254,b8 n 24,b8 n 16,b8 n 8,b8 n 0]
 else [255,b8 n 56,b8 n 48,b8 n 40,b8 n 32,b8 n 24,b8 n 16,b8 n 8,b8 n 0]
theorem Y5 (n:Int):1≤(ZB n).length∧(ZB n).length≤9:=by
 unfold ZB
 split
 ·simp
 ·split
  ·simp
  ·split<;>simp
theorem Z1T {n:Int} (h:n<253):ZB n=[u8.wrap n]:=by unfold ZB;rw [if_pos h]
theorem Z4V {n:Int} (h:¬n<253) (h2:n<65536):ZB n=[253,b8 n 8,b8 n 0]:=by unfold ZB;rw [if_neg h,if_pos h2]
theorem Z4W {n:Int} (h:¬n<253) (h2:¬n<65536) (h3:n<4294967296):ZB n=[254,b8 n 24,b8 n 16,b8 n 8,b8 n 0]:=by unfold ZB;rw [if_neg h,if_neg h2,if_pos h3]
theorem Z4X {n:Int} (h:¬n<253) (h2:¬n<65536) (h3:¬n<4294967296):ZB n=[255,b8 n 56,b8 n 48,b8 n 40,b8 n 32,b8 n 24,b8 n 16,b8 n 8,b8 n 0]:=by unfold ZB;rw [if_neg h,if_neg h2,if_neg h3]
theorem ZfM (xs ys:List Int) (N L s lo:Nat) (n:Int) (hN:xs.length=N) (hB:N<90000000000000) (hy:ys=ZB n) (hL:L=(xs++ys).length):
  evF G0 20 118 [.nslice ⟨0,0,s,0,0⟩ 1 N lo,.int .i64 n] ⟨1,[(0,.ints .u8 xs)]⟩ (Y2 1 (.ret (.nslice ⟨1,0,0,0,0⟩ 1 L L)) 2 [(1,.ints .u8 (xs++ys))]):=by
 refine @Eq.mpr _ (let q1:=decide (u8=u8∧List.length xs=N);
 let q2:=xs++[wrap u8 n];
 let q3:=List.length q2;
 let q4:=xs++ys;
 let q5:=xs++[(253:Int)];
 let q6:=List.length q5;
 let q7:=[wrap u8 (ZC i64 n 8)];
 let q8:=q5++q7;
 let q9:=List.length q8;
 let q10:=[wrap u8 (ZC i64 n 0)];
 let q11:=q8++q10;
 let q12:=List.length q11;
 let q13:=xs++[(254:Int)];
 let q14:=List.length q13;
 let q15:=[wrap u8 (ZC i64 n 24)];
 let q16:=q13++q15;
 let q17:=List.length q16;
 let q18:=[wrap u8 (ZC i64 n 16)];
 let q19:=q16++q18;
 let q20:=List.length q19;
 let q21:=q19++q7;
 let q22:=List.length q21;
 let q23:=q21++q10;
 let q24:=List.length q23;
 let q25:=xs++[(255:Int)];
 let q26:=List.length q25;
 let q27:=q25++[wrap u8 (ZC i64 n 56)];
 let q28:=List.length q27;
 let q29:=q27++[wrap u8 (ZC i64 n 48)];
 let q30:=List.length q29;
 let q31:=q29++[wrap u8 (ZC i64 n 40)];
 let q32:=List.length q31;
 let q33:=q31++[wrap u8 (ZC i64 n 32)];
 let q34:=List.length q33;
 let q35:=q33++q15;
 let q36:=List.length q35;
 let q37:=q35++q18;
 let q38:=List.length q37;
 let q39:=q37++q7;
 let q40:=List.length q39;
 let q41:=q39++q10;
 let q42:=List.length q41;
 Z0 (decide (n<253)) (Z0 q1 (Z0 (decide (q3*1≤140737488355328)) (Z0 (decide (q3=L)) (Z0 (decide (L≤q3)) (q2=q4∧True) False) False) False) False)
 (Z0 (decide (n<65536)) (Z0 q1 (Z0 (decide (q6*1≤140737488355328)) (Z0 (decide (u8=u8∧q6=q6)) (Z0 (decide (q9*1≤140737488355328)) (Z0 (decide (u8=u8∧q9=q9)) (Z0 (decide (q12*1≤140737488355328)) (Z0 (decide (q12=L)) (Z0 (decide (L≤q12)) (q11=q4∧True) False) False) False) False) False) False) False) False)
 (Z0 (decide (n<4294967296)) (Z0 q1 (Z0 (decide (q14*1≤140737488355328)) (Z0 (decide (u8=u8∧q14=q14)) (Z0 (decide (q17*1≤140737488355328)) (Z0 (decide (u8=u8∧q17=q17)) (Z0 (decide (q20*1≤140737488355328)) (Z0 (decide (u8=u8∧q20=q20)) (Z0 (decide (q22*1≤140737488355328)) (Z0 (decide (u8=u8∧q22=q22)) (Z0 (decide (q24*1≤140737488355328)) (Z0 (decide (q24=L)) (Z0 (decide (L≤q24)) (q23=q4∧True) False) False) False) False) False) False) False) False) False) False) False) False)
 (Z0 q1
 (Z0 (decide (q26*1≤140737488355328))
 (Z0 (decide (u8=u8∧q26=q26)) (Z0 (decide (q28*1≤140737488355328)) (Z0 (decide (u8=u8∧q28=q28)) (Z0 (decide (q30*1≤140737488355328)) (Z0 (decide (u8=u8∧q30=q30)) (Z0 (decide (q32*1≤140737488355328)) (Z0 (decide (u8=u8∧q32=q32)) (Z0 (decide (q34*1≤140737488355328)) (Z0 (decide (u8=u8∧q34=q34)) (Z0 (decide (q36*1≤140737488355328)) (Z0 (decide (u8=u8∧q36=q36)) (Z0 (decide (q38*1≤140737488355328)) (Z0 (decide (u8=u8∧q38=q38)) (Z0 (decide (q40*1≤140737488355328)) (Z0 (decide (u8=u8∧q40=q40)) (Z0 (decide (q42*1≤140737488355328)) (Z0 (decide (q42=L)) (Z0 (decide (L≤q42)) (q41=q4∧True) False) False) False) False) False) False) False) False) False) False) False) False) False) False) False) False) False) False) False)
 False)))) (by kernel_rfl) ?_
 conv=>zeta
 try simp only [Zc]
 try simp only [Zd]
 try simp only [Zb]
 try simp only [Int.toNat_natCast,Nat.zero_add,true_and,and_true,Nat.le_refl]
 subst hy hL hN
 refine ⟨fun h1=> ?_,fun h1=>⟨fun h2=> ?_,fun h2=>⟨fun h3=> ?_,fun h3=> ?_⟩⟩⟩
 ·rw [Z1T h1]
  simp only [List.length_append,List.length_cons,List.length_nil]
  and_intros<;>first|trivial|omega
 ·rw [Z4V h1 h2]
  simp only [List.length_append,List.length_cons,List.length_nil]
  and_intros<;>first|trivial|omega|simp [b8]
 ·rw [Z4W h1 h2 h3]
  simp only [List.length_append,List.length_cons,List.length_nil]
  and_intros<;>first|trivial|omega|simp [b8]
 ·rw [Z4X h1 h2 h3]
  simp only [List.length_append,List.length_cons,List.length_nil]
  and_intros<;>first|trivial|omega|simp [b8]
theorem ZfN (ys:List Int) (L:Nat) (n:Int) (hy:ys=ZB n) (hL:L=ys.length):
  evF G0 20 118 [.nilslice,.int .i64 n] ⟨0,[]⟩ (Y2 0 (.ret (.nslice ⟨0,0,0,0,0⟩ 1 L L)) 1 [(0,.ints .u8 ys)]):=by
 refine @Eq.mpr _ (let q1:=[wrap u8 (ZC i64 n 8),wrap u8 (ZC i64 n 0)];
 let q2:=wrap u8 (ZC i64 n 24)::wrap u8 (ZC i64 n 16)::q1;
 Z0 (decide (n<253)) (Z0 (decide (1=L)) (Z0 (decide (L≤1)) ([wrap u8 n]=ys∧True) False) False) (Z0 (decide (n<65536)) (Z0 (decide (3=L)) (Z0 (decide (L≤3)) ((253:Int)::q1=ys∧True) False) False) (Z0 (decide (n<4294967296)) (Z0 (decide (5=L)) (Z0 (decide (L≤5)) ((254:Int)::q2=ys∧True) False) False) (Z0 (decide (9=L)) (Z0 (decide (L≤9)) ((255:Int)::wrap u8 (ZC i64 n 56)::wrap u8 (ZC i64 n 48)::wrap u8 (ZC i64 n 40)::wrap u8 (ZC i64 n 32)::q2=ys∧True) False) False)))) (by kernel_rfl) ?_
 conv=>zeta
 try simp only [Zc]
 try simp only [Zd]
 try simp only [Zb]
 try simp only [Int.toNat_natCast,Nat.zero_add,true_and,and_true,Nat.le_refl]
 subst hy hL
 refine ⟨fun h1=> ?_,fun h1=>⟨fun h2=> ?_,fun h2=>⟨fun h3=> ?_,fun h3=> ?_⟩⟩⟩
 ·rw [Z1T h1];simp
 ·rw [Z4V h1 h2];simp [b8]
 ·rw [Z4W h1 h2 h3];simp [b8]
 ·rw [Z4X h1 h2 h3];simp [b8]
def ZdY (W:Int→List Int):ZQ:=fun args h K=>match args with
 | [.nslice ⟨b,0,_,0,0⟩ 1 _ _,.int .i64 _]=>frA [b] h 20 args fun Bs a=>match Bs,a with
  | [.ints .u8 xs],[.nslice ⟨0,0,_,0,0⟩ 1 len _,.int .i64 n]=>Zo (xs.length=len∧len<90000000000000) (K (.ret (.nslice ⟨h.next,0,0,0,0⟩ 1 (xs++W n).length (xs++W n).length)) ⟨h.next+1,(h.next,.ints .u8 (xs++W n))::ZX h.bs b⟩)
  | _,_=>False
 | [.nilslice,.int .i64 n]=>K (.ret (.nslice ⟨h.next,0,0,0,0⟩ 1 (W n).length (W n).length)) ⟨h.next+1,(h.next,.ints .u8 (W n))::h.bs⟩
 | _=>False
theorem Zc6 (args:List AV) (h:Z7) (K:KO) (hl:ZdY ZB args h K):Zg PP 118 args h K:=by
 unfold ZdY at hl
 split at hl
 ·refine Spec.fsumm hl fun Bs a hlen hK0=> ?_
  split at hK0
  ·obtain ⟨⟨h1,h2⟩,hK⟩:=Z9 hK0
   exact ⟨_,_,_,_,_,.evM Zu (ZfM _ _ _ _ _ _ _ h1 h2 rfl rfl),by simp,.ret _ _ rfl,.cons _ _ _ _ _ _ rfl (.ints _ _) .nil,hK⟩
  ·exact hK0.elim
 ·exact (ZD.evM Zu (ZfN _ _ _ rfl rfl)).calls (fun E w rs he hr=>by
   cases hr with
   | cons v r vs rs h1 h2=>cases h2 with
    | cons v r vs rs h2 h3=>cases h3;exact .cons _ _ _ _ (h1.plain rfl) (.cons _ _ _ _ (h2.plain rfl) .nil)) rfl ⟨Nat.one_pos,.ints _ _,trivial⟩ hl
 ·exact hl.elim
theorem Za7 (x:Int) (xs:List Int) (N:Nat) (hN:(x::xs).length=N) (hB:N<90000000000000):
  evF G0 20 119 [.vints .u8 (x::xs) N] ⟨0,[]⟩ (Y2 0 (.ret (.nslice ⟨0,0,0,0,0⟩ 1 N N)) 1 [(0,.ints .u8 (x::xs))]):=by
 refine @Eq.mpr _ (let q1:=[]++List.take N (x::xs);
 let q2:=List.length q1;
 Z0 (decide (q2*1≤140737488355328)) (Z0 (decide (q2=N)) (Z0 (decide (N≤q2)) (q1=x::xs∧True) False) False) False) (by kernel_rfl) ?_
 conv=>zeta
 try simp only [Zc]
 try simp only [Zj]
 try simp only [Zd]
 try simp only [Zk]
 try simp only [Zl]
 try simp only [Zb]
 try simp only [Int.toNat_natCast,Nat.zero_add,true_and,and_true,Nat.le_refl]
 subst hN
 simp only [List.nil_append,List.take_length]
 and_intros<;>first|trivial|omega
theorem Za8 (u:Unit) :
  evF G0 20 119 [.nilslice] ⟨0,[]⟩ (Y2 0 (.ret (.nslice ⟨0,0,0,0,0⟩ 1 0 0)) 1 [(0,.ints .u8 [])]):=by
 refine @Eq.mpr _ (([]:List Int)=[]∧True) (by kernel_rfl) ?_
 trivial
theorem Za9 (u:Unit) :
  evF G0 20 119 [.fslice] ⟨0,[]⟩ (Y2 0 (.ret (.nslice ⟨0,0,0,0,0⟩ 1 0 0)) 1 [(0,.ints .u8 [])]):=by
 refine @Eq.mpr _ (([]:List Int)=[]∧True) (by kernel_rfl) ?_
 trivial
theorem Z4Y (xs:List Int) (N:Nat) (hN:xs.length=N) (hB:N<90000000000000):ZD PP 119 [.vints .u8 xs N] (.nslice ⟨0,0,0,0,0⟩ 1 N N) 1 [(0,.ints .u8 xs)]:=by
 cases xs with
 | nil=>subst hN;exact ZD.vints0 (.evM Zu (Za8 ())) (.evM Zu (Za9 ()))
 | cons x r=>exact .evM Zu (Za7 x r N hN hB)
def Qq:ZQ:=fun args h K=>ZL none h true 20 args fun a=>match a with
 | [.vints .u8 xs n]=>Zo (xs.length=n∧n<90000000000000) (K (.ret (.nslice ⟨h.next,0,0,0,0⟩ 1 n n)) ⟨h.next+1,(h.next,.ints .u8 xs)::h.bs⟩)
 | _=>False
theorem UZ (args:List AV) (h:Z7) (K:KO) (hl:Qq args h K):Zg PP 119 args h K:=by
 refine ZD.fsumm (d:=20) (Zn _ _ _ _ _ hl fun a ha=> ?_)
 split at ha
 ·obtain ⟨⟨h1,h2⟩,hK⟩:=Z9 ha
  exact ⟨_,_,_,_,Z4Y _ _ h1 h2,rfl,⟨Nat.one_pos,.ints _ _,trivial⟩,hK⟩
 ·exact ha.elim
end Go.Tk
end
section
namespace Go.Tk
open IntKind (i64 u8 u32 u64 wrap)
theorem Spec.conv {P:Program} {f:FuncId} {args args₀:List AV} {h0:Z7} {o:Out} {nx:Nat} {bs:List (Nat×Blk)} (h:Spec P f args₀ h0 o nx bs) (hc:∀E r,ZA E args r→ZA E args₀ r):Spec P f args h0 o nx bs:=
 fun E w rs he hr=>h E w rs he (hc E rs hr)
noncomputable def Zaa (W:Int→List Int):Ze:=G0.withF 118 (ZdY W)
theorem Qr:(Zaa ZB).Ok:=Ze.withF_ok Zu Zc6
theorem Zab (W:Int→List Int) (T:Int) (xs ys:List Int) (N L lo:Nat) (n:Int) (hT:T=4611686018427387904) (hN:xs.length=N) (hB:N<90000000000000) (hn:0≤n∧n≤T) (hy:ys=xs++W n) (hL:L=ys.length):
  evF (Zaa W) 20 54 [.ptr (some ⟨0,0,0,0,0⟩),.vints .i64 [n] 1] ⟨2,[(0,.flat [.nslice ⟨1,0,0,0,0⟩ 1 N lo,.bool true]),(1,.ints .u8 xs)]⟩ (Y2 2 (.ret (.int .i64 0)) 3 [(0,.flat [.nslice ⟨2,0,0,0,0⟩ 1 L L,.bool true]),(2,.ints .u8 ys)]):=by
 refine @Eq.mpr _ (let q1:=xs++W n;
 let q2:=List.length q1;
 Z0 (decide (n<0)) False (Z0 (decide (n>4611686018427387904)) False (Z0 (decide (List.length xs=N∧N<90000000000000)) (Z0 (decide (q2=L)) (Z0 (decide (L≤q2)) (q1=ys∧True) False) False) False))) (by kernel_rfl) ?_
 conv=>zeta
 try simp only [Zc]
 try simp only [Zj]
 try simp only [Zd]
 try simp only [Zk]
 try simp only [Zl]
 try simp only [Zb]
 try simp only [Int.toNat_natCast,Nat.zero_add,true_and,and_true,Nat.le_refl]
 subst hT hN hy hL
 exact ⟨by omega,by omega,⟨rfl,hB⟩,rfl,Nat.le_refl _,rfl⟩
theorem ZdZ (W:Int→List Int) (T:Int) (xs ys:List Int) (N L lo:Nat) (n m:Int) (hT:T=4611686018427387904) (hW:W=ZB) (hN:xs.length=N) (hB:N<80000000000000) (hn:0≤n∧n≤T) (hm:0≤m∧m≤T) (hy:ys=xs++W n++W m) (hL:L=ys.length):
  evF (Zaa W) 20 54 [.ptr (some ⟨0,0,0,0,0⟩),.vints .i64 [n,m] 2] ⟨2,[(0,.flat [.nslice ⟨1,0,0,0,0⟩ 1 N lo,.bool true]),(1,.ints .u8 xs)]⟩ (Y2 2 (.ret (.int .i64 0)) 3 [(0,.flat [.nslice ⟨2,0,0,0,0⟩ 1 L L,.bool true]),(2,.ints .u8 ys)]):=by
 refine @Eq.mpr _ (let q1:=xs++W n;
 let q2:=List.length q1;
 let q3:=q1++W m;
 let q4:=List.length q3;
 Z0 (decide (n<0)) False (Z0 (decide (n>4611686018427387904)) False (Z0 (decide (m<0)) False (Z0 (decide (m>4611686018427387904)) False (Z0 (decide (List.length xs=N∧N<90000000000000)) (Z0 (decide (q2=q2∧q2<90000000000000)) (Z0 (decide (q4=L)) (Z0 (decide (L≤q4)) (q3=ys∧True) False) False) False) False))))) (by kernel_rfl) ?_
 conv=>zeta
 try simp only [Zc]
 try simp only [Zj]
 try simp only [Zd]
 try simp only [Zk]
 try simp only [Zl]
 try simp only [Zb]
 try simp only [Int.toNat_natCast,Nat.zero_add,true_and,and_true,Nat.le_refl]
 subst hT hN hy hL hW
 have:=Y5 n
 refine ⟨by omega,by omega,by omega,by omega,⟨rfl,by omega⟩, ?_⟩
 simp only [List.length_append]
 and_intros<;>first|trivial|omega
theorem Ze0 (W:Int→List Int) (T:Int) (ys:List Int) (L:Nat) (n m:Int) (hT:T=4611686018427387904) (hW:W=ZB) (hn:0≤n∧n≤T) (hm:0≤m∧m≤T) (hy:ys=W n++W m) (hL:L=ys.length):
  evF (Zaa W) 20 54 [.ptr (some ⟨0,0,0,0,0⟩),.vints .i64 [n,m] 2] ⟨1,[(0,.flat [.nilslice,.bool true])]⟩ (Y2 1 (.ret (.int .i64 0)) 2 [(0,.flat [.nslice ⟨1,0,0,0,0⟩ 1 L L,.bool true]),(1,.ints .u8 ys)]):=by
 refine @Eq.mpr _ (let q1:=List.length (W n);
 let q2:=W n++W m;
 let q3:=List.length q2;
 Z0 (decide (n<0)) False (Z0 (decide (n>4611686018427387904)) False (Z0 (decide (m<0)) False (Z0 (decide (m>4611686018427387904)) False (Z0 (decide (q1=q1∧q1<90000000000000)) (Z0 (decide (q3=L)) (Z0 (decide (L≤q3)) (q2=ys∧True) False) False) False))))) (by kernel_rfl) ?_
 conv=>zeta
 try simp only [Zc]
 try simp only [Zj]
 try simp only [Zd]
 try simp only [Zk]
 try simp only [Zl]
 try simp only [Zb]
 try simp only [Int.toNat_natCast,Nat.zero_add,true_and,and_true,Nat.le_refl]
 subst hT hy hL hW
 have:=Y5 n
 refine ⟨by omega,by omega,by omega,by omega, ?_⟩
 simp only [List.length_append]
 and_intros<;>first|trivial|omega
theorem Z7a (xs hh ys:List Int) (N L lo:Nat) (hN:xs.length=N) (hB:N<90000000000000) (hq:hh.length=32) (hy:ys=xs++hh) (hL:L=ys.length):
  evF G0 20 55 [.ptr (some ⟨0,0,0,0,0⟩),.vrows 32 1 (fun _=>[.arr .u8 32 hh]) 1] ⟨2,[(0,.flat [.nslice ⟨1,0,0,0,0⟩ 1 N lo,.bool true]),(1,.ints .u8 xs)]⟩ (Y2 2 (.ret (.int .i64 0)) 3 [(0,.flat [.nslice ⟨2,0,0,0,0⟩ 1 L L,.bool true]),(2,.ints .u8 ys)]):=by
 refine @Eq.mpr _ (let q1:=xs++hh;
 let q2:=List.length q1;
 Z0 (decide (u8=u8∧List.length hh=32)) (Z0 (decide (u8=u8∧List.length xs=N)) (Z0 (decide (q2*1≤140737488355328)) (Z0 (decide (q2=L)) (Z0 (decide (L≤q2)) (q1=ys∧True) False) False) False) False) False) (by kernel_rfl) ?_
 conv=>zeta
 try simp only [Zc]
 try simp only [Zj]
 try simp only [Zd]
 try simp only [Zk]
 try simp only [Zl]
 try simp only [Zb]
 try simp only [Int.toNat_natCast,Nat.zero_add,true_and,and_true,Nat.le_refl]
 subst hN hy hL
 refine ⟨hq,rfl, ?_⟩
 simp only [List.length_append]
 and_intros<;>first|trivial|omega
def Zac (W:Int→List Int) (T:Int):ZQ:=fun args h K=>match args with
 | [.ptr (some ⟨w,0,0,0,0⟩),_]=>match h.get w with
  |some (.flat [.nslice ⟨b,0,0,0,0⟩ 1 _ _,.bool true])=>frA [w,b] h 20 args fun Bs a=>match Bs,a with
   | [.flat [.nslice ⟨1,0,0,0,0⟩ 1 N _,.bool true],.ints .u8 xs],[.ptr (some ⟨0,0,0,0,0⟩),.vints .i64 [n] 1]=>
    Zo (xs.length=N∧N<80000000000000∧0≤n∧n≤T) (K (.ret (.int .i64 0)) ⟨h.next+1,(w,.flat [.nslice ⟨h.next,0,0,0,0⟩ 1 (xs++W n).length (xs++W n).length,.bool true])::(h.next,.ints .u8 (xs++W n))::ZX (ZX h.bs w) b⟩)
   | [.flat [.nslice ⟨1,0,0,0,0⟩ 1 N _,.bool true],.ints .u8 xs],[.ptr (some ⟨0,0,0,0,0⟩),.vints .i64 [n,m] 2]=>
    Zo (xs.length=N∧N<80000000000000∧(0≤n∧n≤T)∧0≤m∧m≤T) (K (.ret (.int .i64 0)) ⟨h.next+1,(w,.flat [.nslice ⟨h.next,0,0,0,0⟩ 1 (xs++W n++W m).length (xs++W n++W m).length,.bool true])::(h.next,.ints .u8 (xs++W n++W m))::ZX (ZX h.bs w) b⟩)
   | _,_=>False
  | some (.flat [.nilslice,.bool true])=>frA [w] h 20 args fun Bs a=>match Bs,a with
   | [.flat [.nilslice,.bool true]],[.ptr (some ⟨0,0,0,0,0⟩),.vints .i64 [n,m] 2]=>
    Zo ((0≤n∧n≤T)∧0≤m∧m≤T) (K (.ret (.int .i64 0)) ⟨h.next+1,(w,.flat [.nslice ⟨h.next,0,0,0,0⟩ 1 (W n++W m).length (W n++W m).length,.bool true])::(h.next,.ints .u8 (W n++W m))::ZX h.bs w⟩)
   | _,_=>False
  | _=>False
 | _=>False
theorem Zad (args:List AV) (h:Z7) (K:KO) (hl:Zac ZB 4611686018427387904 args h K):Zg PP 54 args h K:=by
 unfold Zac at hl
 split at hl
 ·split at hl
  ·refine Spec.fsumm hl fun Bs a hlen hK0=> ?_
   split at hK0
   ·obtain ⟨⟨h1,h2,h3⟩,hK⟩:=Z9 hK0
    exact ⟨_,_,_,_,_,.evM Qr (Zab _ _ _ _ _ _ _ _ rfl h1 (by omega) h3 rfl rfl),by simp,.ret _ _ rfl,.cons _ _ _ _ _ _ rfl (.flat _ _ rfl) (.cons _ _ _ _ _ _ rfl (.ints _ _) .nil),hK⟩
   ·obtain ⟨⟨h1,h2,h3,h4⟩,hK⟩:=Z9 hK0
    exact ⟨_,_,_,_,_,.evM Qr (ZdZ _ _ _ _ _ _ _ _ _ rfl rfl h1 h2 h3 h4 rfl rfl),by simp,.ret _ _ rfl,.cons _ _ _ _ _ _ rfl (.flat _ _ rfl) (.cons _ _ _ _ _ _ rfl (.ints _ _) .nil),hK⟩
   ·exact hK0.elim
  ·refine Spec.fsumm hl fun Bs a hlen hK0=> ?_
   split at hK0
   ·obtain ⟨⟨h3,h4⟩,hK⟩:=Z9 hK0
    exact ⟨_,_,_,_,_,.evM Qr (Ze0 _ _ _ _ _ _ rfl rfl h3 h4 rfl rfl),by simp,.ret _ _ rfl,.cons _ _ _ _ _ _ rfl (.flat _ _ rfl) (.cons _ _ _ _ _ _ rfl (.ints _ _) .nil),hK⟩
   ·exact hK0.elim
  ·exact hl.elim
 ·exact hl.elim
def Z6e:ZQ:=fun args h K=>match args with
 | [.ptr (some ⟨w,0,0,0,0⟩),_]=>match h.get w with
  |some (.flat [.nslice ⟨b,0,0,0,0⟩ 1 _ _,.bool true])=>frA [w,b] h 20 args fun Bs a=>match Bs,a with
   | [.flat [.nslice ⟨1,0,0,0,0⟩ 1 N _,.bool true],.ints .u8 xs],[.ptr (some ⟨0,0,0,0,0⟩),.vrows 32 1 f 1]=>match f 0 with
    | [.arr .u8 32 hh]=>Zo (xs.length=N∧N<80000000000000∧hh.length=32) (K (.ret (.int .i64 0)) ⟨h.next+1,(w,.flat [.nslice ⟨h.next,0,0,0,0⟩ 1 (xs++hh).length (xs++hh).length,.bool true])::(h.next,.ints .u8 (xs++hh))::ZX (ZX h.bs w) b⟩)
    | _=>False
   | _,_=>False
  | _=>False
 | _=>False
theorem Z8m (args:List AV) (h:Z7) (K:KO) (hl:Z6e args h K):Zg PP 55 args h K:=by
 unfold Z6e at hl
 split at hl
 ·split at hl
  ·refine Spec.fsumm hl fun Bs a hlen hK0=> ?_
   split at hK0
   ·split at hK0
    case h_2=>exact hK0.elim
    rename_i hh hf
    obtain ⟨⟨h1,h2,h3⟩,hK⟩:=Z9 hK0
    refine ⟨_,_,_,_,_,(Spec.evM Zu (Z7a _ hh _ _ _ _ h1 (by omega) h3 rfl rfl)).conv fun E r hr=>hr.head (fun _ hc=>hc) fun _ hc=>hc.head (fun _ hc=>hc.rowsC ?_) fun _ hc=>hc,by simp,.ret _ _ rfl,.cons _ _ _ _ _ _ rfl (.flat _ _ rfl) (.cons _ _ _ _ _ _ rfl (.ints _ _) .nil),hK⟩
    intro i hi
    have:i=0:=by omega
    subst this
    exact hf
   ·exact hK0.elim
  ·exact hl.elim
 ·exact hl.elim
end Go.Tk
end
section
namespace Go.Tk
open IntKind (i64 u8 u32 u64 wrap)
theorem Z0k {x:InS} (h:Ya x=true):(1≤x.way∧x.way≤6)∧0≤x.index∧x.index≤23:=by
 unfold Ya at h
 simp only [Bool.and_eq_true,decide_eq_true_eq] at h
 exact ⟨h.1.1.1.1,h.2⟩
noncomputable def Z6f (W:Int→List Int) (T:Int):Ze:=(G0.withF 54 (Zac W T)).withF 55 Z6e
theorem Z7b:(Z6f ZB 4611686018427387904).Ok:=Ze.withF_ok (Ze.withF_ok Zu Zad) Z8m
def inW (W:Int→List Int) (core:Bool) (x:InS):List Int:=x.name++W x.index++(match core with
 | true=>[]
 | false=>W x.way++((if x.way=4 then [] else x.tag)++(if x.way=1 then x.also else [])++(if x.way=4∨x.way=5 then x.secret else [])))
def Z6g (W:Int→List Int) (o:ZM):List Int:=W o.kind++W o.amount++o.owner++(if o.kind=2∨o.kind=4∨o.kind=5 then o.other else [])++(if 3≤o.kind then o.point else [])++(if 4≤o.kind then o.hash else [])
 ++(if 3≤o.kind then W o.delay else [])++(if 4≤o.kind then W o.expiry else [])
def Z8n (t:TxS) (core:Bool) (i:Nat) (xs:List Int) (n:Nat):St:=⟨120,[(26,.int .i64 i),(25,.int .i64 t.N),(2,.ptr (some ⟨0,0,0,0,0⟩)),(5,.ptr (some ⟨1,0,0,0,0⟩)),(1,.bool core)],⟨3,[(0,.flat t.c),(1,.flat [.nslice ⟨2,0,0,0,0⟩ 1 n n,.bool true]),(2,.ints .u8 xs)]⟩,[]⟩
def Vp (t:TxS) (xs:List Int) (n:Nat):St:=⟨120,[(2,.ptr (some ⟨0,0,0,0,0⟩)),(5,.ptr (some ⟨1,0,0,0,0⟩))],⟨3,[(0,.flat t.c),(1,.flat [.nslice ⟨2,0,0,0,0⟩ 1 n n,.bool true]),(2,.ints .u8 xs)]⟩,[]⟩
theorem Ze1 (W:Int→List Int) (T:Int) (t:TxS) (i:Nat) (xs ys:List Int) (n m:Nat) (Z1 Z2:Prop) (hT:T=4611686018427387904) (ht:t.Ok) (hi:i≤t.N) (hr:∀j,j<t.N→Ya (t.ins j)=true) (hW:W=ZB) (hn:xs.length=n) (hs:n<10000000000000) (hy:ys=xs++inW W true (t.ins i)) (hm:ys.length=m) (h1:i<t.N→Z1) (h2:i=t.N→Z2):
  Yf (Z6f W T) 20 96 0 0 (Z8n t true i xs n) (rdM 0 0 9 (Z8n t true (i+1) ys m) (Vp t xs n) (Vp t xs n) (Vp t xs n) Z1 Z2 False False):=by
 refine @Eq.mpr _ (let q1:=t.N;
 let q2:=(↑q1:Int);
 let q3:=t.ins (Int.toNat (↑i:Int));
 let q4:=q3.name;
 let q5:=xs++q4;
 let q6:=List.length q5;
 let q7:=q3.index;
 let q8:=decide (t.num=t.num);
 let q9:=decide (q1=q1);
 let q10:=Zf t.ins;
 let q11:=q10=q10;
 let q12:=decide (t.M=t.M);
 let q13:=Zi t.outs;
 let q14:=q13=q13;
 let q15:=q5++W q7;
 let q16:=List.length q15;
 Z0 (decide ((↑i:Int)<q2)) (Z0 (decide (0≤(↑i:Int)∧(↑i:Int)<q2)) (Z0 (decide (List.length xs=n∧n<80000000000000∧List.length q4=32)) (Z0 (decide (q6=q6∧q6<80000000000000∧0≤q7∧q7≤T)) (Z0 (decide (wrap i64 ((↑i:Int)+1)=(↑(i+1):Int))) (Z0 (decide (q2=q2)) (Z0 q8 (Z0 q9 (q11∧Z0 q9 (Z0 q12 (q14∧Z0 q12 (Z0 (decide (q16=m)) (Z0 (decide (m≤q16)) (q15=ys∧Z1) False) False) False) False) False) False) False) False) False) False) False) False) (Z0 q8 (Z0 q9 (q11∧Z0 q9 (Z0 q12 (q14∧Z0 q12 (Z0 (decide (n=n)) (Z0 (decide (n≤n)) (xs=xs∧Z2) False) False) False) False) False) False) False)) (by kernel_rfl) ?_
 conv=>zeta
 try simp only [Zc]
 try simp only [Zj]
 try simp only [Zd]
 try simp only [Zk]
 try simp only [Zl]
 try simp only [Zb]
 try simp only [Int.toNat_natCast,Nat.zero_add,true_and,and_true,Nat.le_refl]
 refine ⟨fun hlt=> ?_,fun hge=>h2 (by omega)⟩
 obtain ⟨⟨w1,w2⟩,w3,w4⟩:=Z0k (hr i (by omega))
 obtain ⟨l1,l2,l3,l4⟩:=ht.ins i (by omega)
 have hw:=h1 (by omega)
 have hnn:=ht.n
 have hwr:i64.wrap ((i:Int)+1)=((i+1:Nat):Int):=w64 (by omega)
 have u1:=Y5 (t.ins i).index
 have u2:=Y5 (t.ins i).way
 subst hW hT
 rw [hwr]
 unfold inW at hy
 generalize t.ins i=x at*
 simp only [List.length_append]
 repeat' (first|(refine And.intro ?_ ?_)|intro _)
 all_goals first|omega|assumption|trivial|skip
 all_goals first|(rw [hy];simp [*];done)|(rw [←hm,hy];simp [*];try omega;done)|skip
theorem Ze2 (W:Int→List Int) (T:Int) (t:TxS) (i:Nat) (xs ys:List Int) (n m:Nat) (Z1 Z2:Prop) (hT:T=4611686018427387904) (ht:t.Ok) (hi:i≤t.N) (hr:∀j,j<t.N→Ya (t.ins j)=true) (hW:W=ZB) (hn:xs.length=n) (hs:n<10000000000000) (hy:ys=xs++inW W false (t.ins i)) (hm:ys.length=m) (h1:i<t.N→Z1) (h2:i=t.N→Z2):
  Yf (Z6f W T) 20 96 0 0 (Z8n t false i xs n) (rdM 0 0 9 (Z8n t false (i+1) ys m) (Vp t xs n) (Vp t xs n) (Vp t xs n) Z1 Z2 False False):=by
 refine @Eq.mpr _ (let q1:=t.N;
 let q2:=(↑q1:Int);
 let q3:=t.ins (Int.toNat (↑i:Int));
 let q4:=q3.name;
 let q5:=xs++q4;
 let q6:=List.length q5;
 let q7:=q3.index;
 let q8:=q5++W q7;
 let q9:=List.length q8;
 let q10:=q3.way;
 let q11:=q8++W q10;
 let q12:=List.length q11;
 let q13:=q3.tag;
 let q14:=decide (q12=q12∧q12<80000000000000∧List.length q13=32);
 let q15:=q11++q13;
 let q16:=List.length q15;
 let q17:=q3.also;
 let q18:=decide (wrap i64 ((↑i:Int)+1)=(↑(i+1):Int));
 let q19:=decide (q2=q2);
 let q20:=decide (t.num=t.num);
 let q21:=decide (q1=q1);
 let q22:=Zf t.ins;
 let q23:=q22=q22;
 let q24:=decide (t.M=t.M);
 let q25:=Zi t.outs;
 let q26:=q25=q25;
 let q27:=q15++q17;
 let q28:=List.length q27;
 let q29:=Z0 q14 (Z0 q18 (Z0 q19 (Z0 q20 (Z0 q21 (q23∧Z0 q21 (Z0 q24 (q26∧Z0 q24 (Z0 (decide (q16=m)) (Z0 (decide (m≤q16)) (q15=ys∧Z1) False) False) False) False) False) False) False) False) False) False;
 let q30:=q3.secret;
 let q31:=q11++q30;
 let q32:=List.length q31;
 let q33:=q15++q30;
 let q34:=List.length q33;
 Z0 (decide ((↑i:Int)<q2))
 (Z0 (decide (0≤(↑i:Int)∧(↑i:Int)<q2))
 (Z0 (decide (List.length xs=n∧n<80000000000000∧List.length q4=32))
 (Z0 (decide (q6=q6∧q6<80000000000000∧0≤q7∧q7≤T))
 (Z0 (decide (q9=q9∧q9<80000000000000∧0≤q10∧q10≤T))
 (Z0 (decide (q10=q10))
 (Z0 (decide (q10=1)) (Z0 q14 (Z0 (decide (q16=q16∧q16<80000000000000∧List.length q17=32)) (Z0 q18 (Z0 q19 (Z0 q20 (Z0 q21 (q23∧Z0 q21 (Z0 q24 (q26∧Z0 q24 (Z0 (decide (q28=m)) (Z0 (decide (m≤q28)) (q27=ys∧Z1) False) False) False) False) False) False) False) False) False) False) False)
 (Z0 (decide (q10=2)) q29 (Z0 (decide (q10=3)) q29 (Z0 (decide (q10=4)) (Z0 (decide (q12=q12∧q12<80000000000000∧List.length q30=32)) (Z0 q18 (Z0 q19 (Z0 q20 (Z0 q21 (q23∧Z0 q21 (Z0 q24 (q26∧Z0 q24 (Z0 (decide (q32=m)) (Z0 (decide (m≤q32)) (q31=ys∧Z1) False) False) False) False) False) False) False) False) False) False) (Z0 (decide (q10=5)) (Z0 q14 (Z0 (decide (q16=q16∧q16<80000000000000∧List.length q30=32)) (Z0 q18 (Z0 q19 (Z0 q20 (Z0 q21 (q23∧Z0 q21 (Z0 q24 (q26∧Z0 q24 (Z0 (decide (q34=m)) (Z0 (decide (m≤q34)) (q33=ys∧Z1) False) False) False) False) False) False) False) False) False) False) False) (Z0 (decide (q10=6)) q29 (Z0 q18 (Z0 q19 (Z0 q20 (Z0 q21 (q23∧Z0 q21 (Z0 q24 (q26∧Z0 q24 (Z0 (decide (q12=m)) (Z0 (decide (m≤q12)) (q11=ys∧Z1) False) False) False) False) False) False) False) False) False)))))))
 False)
 False)
 False)
 False)
 False)
 (Z0 q20 (Z0 q21 (q23∧Z0 q21 (Z0 q24 (q26∧Z0 q24 (Z0 (decide (n=n)) (Z0 (decide (n≤n)) (xs=xs∧Z2) False) False) False) False) False) False) False)) (by kernel_rfl) ?_
 conv=>zeta
 try simp only [Zc]
 try simp only [Zj]
 try simp only [Zd]
 try simp only [Zk]
 try simp only [Zl]
 try simp only [Zb]
 try simp only [Int.toNat_natCast,Nat.zero_add,true_and,and_true,Nat.le_refl]
 refine ⟨fun hlt=> ?_,fun hge=>h2 (by omega)⟩
 obtain ⟨⟨w1,w2⟩,w3,w4⟩:=Z0k (hr i (by omega))
 obtain ⟨l1,l2,l3,l4⟩:=ht.ins i (by omega)
 have hw:=h1 (by omega)
 have hnn:=ht.n
 have hwr:i64.wrap ((i:Int)+1)=((i+1:Nat):Int):=w64 (by omega)
 have u1:=Y5 (t.ins i).index
 have u2:=Y5 (t.ins i).way
 subst hW hT
 rw [hwr]
 unfold inW at hy
 generalize t.ins i=x at*
 simp only [List.length_append]
 repeat' (first|(refine And.intro ?_ ?_)|intro _)
 all_goals first|omega|assumption|trivial|skip
 all_goals first|(rw [hy];simp [*];done)|(rw [←hm,hy];simp [*];try omega;done)|skip
theorem VS {o:ZM} (h:Yb o=true):(1≤o.kind∧o.kind≤5)∧(0<o.amount∧o.amount≤1125899906842624)∧(0≤o.delay∧o.delay≤2147483647)∧0≤o.expiry∧o.expiry≤2147483647:=by
 unfold Yb at h
 simp only [Bool.and_eq_true,decide_eq_true_eq] at h
 obtain ⟨⟨⟨⟨h1,_⟩,h2⟩,h3⟩,h4⟩:=h
 refine ⟨?_,h2,h3,h4⟩
 revert h1
 simp only [and_imp]
 intros
 omega
def Z4Z (t:TxS) (i:Nat) (xs:List Int) (n:Nat):St:=⟨120,[(82,.int .i64 i),(81,.int .i64 t.M),(2,.ptr (some ⟨0,0,0,0,0⟩)),(5,.ptr (some ⟨1,0,0,0,0⟩))],⟨3,[(0,.flat t.c),(1,.flat [.nslice ⟨2,0,0,0,0⟩ 1 n n,.bool true]),(2,.ints .u8 xs)]⟩,[]⟩
theorem Ze3 (W:Int→List Int) (T:Int) (t:TxS) (i:Nat) (xs ys:List Int) (n m:Nat) (Z1 Z2:Prop) (hT:T=4611686018427387904) (ht:t.Ok) (hi:i≤t.M) (hr:∀j,j<t.M→Yb (t.outs j)=true) (hW:W=ZB) (hn:xs.length=n) (hs:n<10000000000000) (hy:ys=xs++Z6g W (t.outs i)) (hm:ys.length=m) (h1:i<t.M→Z1) (h2:i=t.M→Z2):
  Yf (Z6f W T) 20 96 4 0 (Z4Z t i xs n) (rdM 0 4 9 (Z4Z t (i+1) ys m) (Vp t xs n) (Vp t xs n) (Vp t xs n) Z1 Z2 False False):=by
 refine @Eq.mpr _ (let q1:=t.M;
 let q2:=(↑q1:Int);
 let q3:=t.outs (Int.toNat (↑i:Int));
 let q4:=q3.kind;
 let q5:=q3.amount;
 let q6:=xs++W q4++W q5;
 let q7:=List.length q6;
 let q8:=q3.owner;
 let q9:=decide (q7=q7∧q7<80000000000000∧List.length q8=32);
 let q10:=decide (wrap i64 ((↑i:Int)+1)=(↑(i+1):Int));
 let q11:=decide (q2=q2);
 let q12:=decide (t.num=t.num);
 let q13:=decide (t.N=t.N);
 let q14:=Zf t.ins;
 let q15:=q14=q14;
 let q16:=decide (q1=q1);
 let q17:=Zi t.outs;
 let q18:=q17=q17;
 let q19:=q6++q8;
 let q20:=List.length q19;
 let q21:=q3.other;
 let q22:=decide (q20=q20∧q20<80000000000000∧List.length q21=32);
 let q23:=q19++q21;
 let q24:=List.length q23;
 let q25:=q3.point;
 let q26:=q19++q25;
 let q27:=List.length q26;
 let q28:=q3.delay;
 let q29:=W q28;
 let q30:=q26++q29;
 let q31:=List.length q30;
 let q32:=q23++q25;
 let q33:=List.length q32;
 let q34:=q3.hash;
 let q35:=q32++q34;
 let q36:=List.length q35;
 let q37:=q35++q29;
 let q38:=List.length q37;
 let q39:=q3.expiry;
 let q40:=q37++W q39;
 let q41:=List.length q40;
 let q42:=Z0 q9 (Z0 q22 (Z0 (decide (q24=q24∧q24<80000000000000∧List.length q25=32)) (Z0 (decide (q33=q33∧q33<80000000000000∧List.length q34=32)) (Z0 (decide (q36=q36∧q36<80000000000000∧0≤q28∧q28≤T)) (Z0 (decide (q38=q38∧q38<80000000000000∧0≤q39∧q39≤T)) (Z0 q10 (Z0 q11 (Z0 q12 (Z0 q13 (q15∧Z0 q13 (Z0 q16 (q18∧Z0 q16 (Z0 (decide (q41=m)) (Z0 (decide (m≤q41)) (q40=ys∧Z1) False) False) False) False) False) False) False) False) False) False) False) False) False) False) False;
 Z0 (decide ((↑i:Int)<q2))
 (Z0 (decide (0≤(↑i:Int)∧(↑i:Int)<q2))
 (Z0 (decide (List.length xs=n∧n<80000000000000∧(0≤q4∧q4≤T)∧0≤q5∧q5≤T))
 (Z0 (decide (q4=q4))
 (Z0 (decide (q4=1)) (Z0 q9 (Z0 q10 (Z0 q11 (Z0 q12 (Z0 q13 (q15∧Z0 q13 (Z0 q16 (q18∧Z0 q16 (Z0 (decide (q20=m)) (Z0 (decide (m≤q20)) (q19=ys∧Z1) False) False) False) False) False) False) False) False) False) False)
 (Z0 (decide (q4=2)) (Z0 q9 (Z0 q22 (Z0 q10 (Z0 q11 (Z0 q12 (Z0 q13 (q15∧Z0 q13 (Z0 q16 (q18∧Z0 q16 (Z0 (decide (q24=m)) (Z0 (decide (m≤q24)) (q23=ys∧Z1) False) False) False) False) False) False) False) False) False) False) False) (Z0 (decide (q4=3)) (Z0 q9 (Z0 (decide (q20=q20∧q20<80000000000000∧List.length q25=32)) (Z0 (decide (q27=q27∧q27<80000000000000∧0≤q28∧q28≤T)) (Z0 q10 (Z0 q11 (Z0 q12 (Z0 q13 (q15∧Z0 q13 (Z0 q16 (q18∧Z0 q16 (Z0 (decide (q31=m)) (Z0 (decide (m≤q31)) (q30=ys∧Z1) False) False) False) False) False) False) False) False) False) False) False) False) (Z0 (decide (q4=4)) q42 (Z0 (decide (q4=5)) q42 (Z0 q10 (Z0 q11 (Z0 q12 (Z0 q13 (q15∧Z0 q13 (Z0 q16 (q18∧Z0 q16 (Z0 (decide (q7=m)) (Z0 (decide (m≤q7)) (q6=ys∧Z1) False) False) False) False) False) False) False) False) False))))))
 False)
 False)
 False)
 (Z0 q12 (Z0 q13 (q15∧Z0 q13 (Z0 q16 (q18∧Z0 q16 (Z0 (decide (n=n)) (Z0 (decide (n≤n)) (xs=xs∧Z2) False) False) False) False) False) False) False)) (by kernel_rfl) ?_
 conv=>zeta
 try simp only [Zc]
 try simp only [Zj]
 try simp only [Zd]
 try simp only [Zk]
 try simp only [Zl]
 try simp only [Zb]
 try simp only [Int.toNat_natCast,Nat.zero_add,true_and,and_true,Nat.le_refl]
 refine ⟨fun hlt=> ?_,fun hge=>h2 (by omega)⟩
 obtain ⟨⟨w1,w2⟩,⟨w3,w4⟩,⟨w5,w6⟩,w7,w8⟩:=VS (hr i (by omega))
 obtain ⟨l1,l2,l3,l4⟩:=ht.outs i (by omega)
 have hw:=h1 (by omega)
 have hnn:=ht.m
 have hwr:i64.wrap ((i:Int)+1)=((i+1:Nat):Int):=w64 (by omega)
 have u1:=Y5 (t.outs i).kind
 have u2:=Y5 (t.outs i).amount
 have u3:=Y5 (t.outs i).delay
 have u4:=Y5 (t.outs i).expiry
 subst hW hT
 rw [hwr]
 unfold Z6g at hy
 generalize t.outs i=x at*
 simp only [List.length_append]
 repeat' (first|(refine And.intro ?_ ?_)|intro _)
 all_goals first|omega|assumption|trivial|skip
 all_goals first|(rw [hy];simp [*];done)|(rw [←hm,hy];simp [*];try omega;done)|skip
def QZ (f:Nat→List Int):Nat→List Int
 | 0=>[]
 | n+1=>QZ f n++f n
theorem Zae {f:Nat→List Int} {b:Nat} (h:∀i,(f i).length≤b):∀n,(QZ f n).length≤n*b
 | 0=>by simp [QZ]
 | n+1=>by
  have:=Zae h n
  have:=h n
  simp only [QZ,List.length_append,Nat.add_mul]
  omega
@[irreducible] def XQ (W:Int→List Int) (t:TxS) (core:Bool) (i:Nat):List Int:=W t.num++W t.N++QZ (fun j=>inW W core (t.ins j)) i
@[irreducible] def Xi (W:Int→List Int) (t:TxS) (core:Bool) (i:Nat):List Int:=XQ W t core t.N++W t.M++QZ (fun j=>Z6g W (t.outs j)) i
def Z0z (W:Int→List Int) (t:TxS) (core:Bool):List Int:=Xi W t core t.M
theorem Z2V (W:Int→List Int) (t:TxS) (core:Bool) (i:Nat):XQ W t core (i+1)=XQ W t core i++inW W core (t.ins i):=by unfold XQ;simp [QZ]
theorem Z8o (W:Int→List Int) (t:TxS) (core:Bool) (i:Nat):Xi W t core (i+1)=Xi W t core i++Z6g W (t.outs i):=by unfold Xi;simp [QZ]
structure TxS.Fine (t:TxS):Prop where
 ok:t.Ok
 num:0≤t.num∧t.num≤2147483647
 n:t.N≤24
 m:t.M≤24
 ins:∀j,j<t.N→Ya (t.ins j)=true
 outs:∀j,j<t.M→Yb (t.outs j)=true
theorem Z00 {f:Nat→List Int} {b:Nat}:∀n,(∀i,i<n→(f i).length≤b)→(QZ f n).length≤n*b
 | 0,_=>by simp [QZ]
 | n+1,h=>by
  have:=Z00 n (fun i hi=>h i (by omega))
  have:=h n (by omega)
  simp only [QZ,List.length_append,Nat.add_mul]
  omega
theorem Zc7 {core:Bool} {x:InS} (h:x.Ok):(inW ZB core x).length≤200:=by
 obtain ⟨l1,l2,l3,l4⟩:=h
 have u1:=Y5 x.index
 have u2:=Y5 x.way
 unfold inW
 cases core
 ·simp only [List.length_append]
  repeat' split
  all_goals (try simp only [List.length_nil])
  all_goals omega
 ·simp [*];omega
theorem Zaf {x:ZM} (h:x.Ok):(Z6g ZB x).length≤200:=by
 obtain ⟨l1,l2,l3,l4⟩:=h
 have u1:=Y5 x.kind
 have u2:=Y5 x.amount
 have u3:=Y5 x.delay
 have u4:=Y5 x.expiry
 unfold Z6g
 simp only [List.length_append]
 repeat' split
 all_goals (try simp only [List.length_nil])
 all_goals omega
theorem Z1U {t:TxS} (h:t.Fine) (core:Bool) {i:Nat} (hi:i≤t.N):(XQ ZB t core i).length≤10000:=by
 have h1:=Y5 t.num
 have h2:=Y5 t.N
 have h3:=Z00 (f:=fun j=>inW ZB core (t.ins j)) (b:=200) i (fun j hj=>Zc7 (h.ok.ins j (by omega)))
 have:=h.n
 unfold XQ
 simp only [List.length_append]
 omega
theorem Qs {t:TxS} (h:t.Fine) (core:Bool) {i:Nat} (hi:i≤t.M):(Xi ZB t core i).length≤20000:=by
 have h1:=Z1U h core (Nat.le_refl t.N)
 have h2:=Y5 t.M
 have h3:=Z00 (f:=fun j=>Z6g ZB (t.outs j)) (b:=200) i (fun j hj=>Zaf (h.ok.outs j (by omega)))
 have:=h.m
 unfold Xi
 simp only [List.length_append]
 omega
noncomputable def Zc8 (W:Int→List Int) (T:Int) (t:TxS) (core:Bool):Ze:=
 (Z6f W T).withL 96 0 (goM 0 (Z8n t core 0 (XQ W t core 0) (XQ W t core 0).length) t.Fine (WX 0 t.N 9 (fun i=>i<t.N) (fun i=>i=t.N) (fun _=>False) (fun _=>False) (fun i=>Vp t (XQ W t core i) (XQ W t core i).length) (fun i=>Vp t (XQ W t core i) (XQ W t core i).length) (fun i=>Vp t (XQ W t core i) (XQ W t core i).length)))
noncomputable def ZfO (W:Int→List Int) (T:Int) (t:TxS) (core:Bool):Ze:=
 (Z6f W T).withL 96 4 (goM 0 (Z4Z t 0 (Xi W t core 0) (Xi W t core 0).length) t.Fine (WX 4 t.M 9 (fun i=>i<t.M) (fun i=>i=t.M) (fun _=>False) (fun _=>False) (fun i=>Vp t (Xi W t core i) (Xi W t core i).length) (fun i=>Vp t (Xi W t core i) (Xi W t core i).length) (fun i=>Vp t (Xi W t core i) (Xi W t core i).length)))
theorem Zc9 (t:TxS) (core:Bool) (T:Int) (hT:T=4611686018427387904):(Zc8 ZB T t core).Ok:=by
 unfold Zc8
 refine Ze.withGoM (N:=20) (S:=fun i=>Z8n t core i (XQ ZB t core i) (XQ ZB t core i).length) (by subst hT;exact Z7b) (by kernel_rfl) fun hC=>⟨rfl,fun i hi hgo=> ?_⟩
 have h1:=Z1U hC core hi
 cases core
 ·exact Ze2 ZB T t i (XQ ZB t false i) (XQ ZB t false (i+1)) _ _ _ _ hT hC.ok hi hC.ins rfl rfl (by omega) (Z2V _ _ _ _) rfl (fun h=>⟨h,h⟩) (fun h=>h)
 ·exact Ze1 ZB T t i (XQ ZB t true i) (XQ ZB t true (i+1)) _ _ _ _ hT hC.ok hi hC.ins rfl rfl (by omega) (Z2V _ _ _ _) rfl (fun h=>⟨h,h⟩) (fun h=>h)
theorem Zca (t:TxS) (core:Bool) (T:Int) (hT:T=4611686018427387904):(ZfO ZB T t core).Ok:=by
 unfold ZfO
 refine Ze.withGoM (N:=20) (S:=fun i=>Z4Z t i (Xi ZB t core i) (Xi ZB t core i).length) (by subst hT;exact Z7b) (by kernel_rfl) fun hC=>⟨rfl,fun i hi hgo=> ?_⟩
 have h1:=Qs hC core hi
 exact Ze3 ZB T t i (Xi ZB t core i) (Xi ZB t core (i+1)) _ _ _ _ hT hC.ok hi hC.outs rfl rfl (by omega) (Z8o _ _ _ _) rfl (fun h=>⟨h,h⟩) (fun h=>h)
noncomputable def Ze4 (W:Int→List Int) (T:Int) (t:TxS) (core:Bool):Ze:=
 ((Zc8 W T t core).withL 96 4 (goM 0 (Z4Z t 0 (Xi W t core 0) (Xi W t core 0).length) t.Fine (WX 4 t.M 9 (fun i=>i<t.M) (fun i=>i=t.M) (fun _=>False) (fun _=>False) (fun i=>Vp t (Xi W t core i) (Xi W t core i).length) (fun i=>Vp t (Xi W t core i) (Xi W t core i).length) (fun i=>Vp t (Xi W t core i) (Xi W t core i).length)))).withF 119 Qq
theorem ZfP (W:Int→List Int) (T:Int) (t:TxS) (core:Bool) (ys:List Int) (L:Nat) (hT:T=4611686018427387904) (hW:W=ZB) (ht:t.Fine) (hy:ys=Z0z W t core) (hL:L=ys.length):
  evF (Ze4 W T t core) 20 96 [.agg t.c,.bool core] ⟨0,[]⟩ (Y2 0 (.ret (.nslice ⟨0,0,0,0,0⟩ 1 L L)) 1 [(0,.ints .u8 ys)]):=by
 refine @Eq.mpr _ (let q1:=t.num;
 let q2:=t.N;
 let q3:=↑q2;
 let q4:=decide (q1=q1);
 let q5:=decide (q2=q2);
 let q6:=Zf t.ins;
 let q7:=q6=q6;
 let q8:=t.M;
 let q9:=decide (q8=q8);
 let q10:=Zi t.outs;
 let q11:=q10=q10;
 let q12:=W q1++W q3;
 let q13:=List.length q12;
 let q14:=XQ W t core 0;
 let q15:=List.length q14;
 let q16:=↑q8;
 let q17:=Xi W t core 0;
 let q18:=List.length q17;
 let q19:=(False→False)∧(False→False);
 Z0 (decide ((0≤q1∧q1≤T)∧0≤q3∧q3≤T))
 (Z0 (decide (q3=q3))
 (Z0 (decide (core=core))
 (Z0 q4
 (Z0 q5
 (q7∧
 Z0 q5
 (Z0 q9
 (q11∧
 Z0 q9
 (Z0 (decide (q13=q15))
 (Z0 (decide (q15≤q13))
 (q12=q14∧
 TxS.Fine t∧
 ∀(i:Nat),
 let q39:=XQ W t core i;
 let q40:=List.length q39;
 let q41:=q39++W q16;
 let q42:=List.length q41;
 i≤q2→
 (∀(j:Nat),j<i→(fun (i:Nat)=>i<q2) j)→
 (i=q2→
 Z0 (decide (q40=q40∧q40<80000000000000∧0≤q16∧q16≤T))
 (Z0 (decide (q16=q16))
 (Z0 q4
 (Z0 q5
 (q7∧
 Z0 q5
 (Z0 q9
 (q11∧
 Z0 q9
 (Z0 (decide (q42=q18))
 (Z0 (decide (q18≤q42))
 (q41=q17∧
 TxS.Fine t∧
 ∀(i:Nat),
 let q47:=Xi W t core i;
 let q48:=List.length q47;
 let q49:=List.take q48 (Yo 0 q47);
 i≤q8→(∀(j:Nat),j<i→(fun (i:Nat)=>i<q8) j)→(i=q8→Z0 (decide (0+q48≤q48)) (Z0 (decide (List.length q49=q48∧q48<90000000000000)) (Z0 (decide (q48=L)) (Z0 (decide (L≤q48)) (q49=ys∧True) False) False) False) False)∧q19)
 False)
 False)
 False)
 False)
 False)
 False)
 False)
 False)
 False)∧
 q19)
 False)
 False)
 False)
 False)
 False)
 False)
 False)
 False)
 False)
 False) (by kernel_rfl) ?_
 conv=>zeta
 try simp only [Zc]
 try simp only [Zj]
 try simp only [Zd]
 try simp only [Zk]
 try simp only [Zl]
 try simp only [Zb]
 try simp only [Int.toNat_natCast,Nat.zero_add,true_and,and_true,Nat.le_refl]
 subst hT hW hy hL
 have e1:ZB t.num++ZB ↑t.N=XQ ZB t core 0:=by unfold XQ;simp [QZ]
 have e2:XQ ZB t core t.N++ZB ↑t.M=Xi ZB t core 0:=by unfold Xi;simp [QZ]
 have b1:=Z1U ht core (Nat.le_refl t.N)
 have b2:=Qs ht core (Nat.le_refl t.M)
 have hN:=ht.n
 have hM:=ht.m
 have hq:=ht.num
 rw [e1]
 refine ⟨⟨⟨by omega,by omega⟩,by omega,by omega⟩,rfl,Nat.le_refl _,rfl,ht,fun i hi _=>⟨fun he=> ?_,fun h=>h.elim,fun h=>h.elim⟩⟩
 subst he
 rw [e2]
 refine ⟨⟨by omega,by omega,by omega⟩,rfl,Nat.le_refl _,rfl,ht,fun i hi _=>⟨fun he=> ?_,fun h=>h.elim,fun h=>h.elim⟩⟩
 subst he
 rw [Y6,List.drop_zero,List.take_length]
 exact ⟨⟨rfl,by omega⟩,rfl,Nat.le_refl _,rfl⟩
theorem Zcb (t:TxS) (core:Bool) (T:Int) (hT:T=4611686018427387904):(Ze4 ZB T t core).Ok:=by
 unfold Ze4
 exact Ze.withF_ok (Ze.withL_join (G:=Zc8 ZB T t core) (H:=Z6f ZB T) (Zc9 t core T hT) rfl (Zca t core T hT)) UZ
theorem Zag (t:TxS) (core:Bool) (ht:t.Fine):ZD PP 96 [.agg t.c,.bool core] (.nslice ⟨0,0,0,0,0⟩ 1 (Z0z ZB t core).length (Z0z ZB t core).length) 1 [(0,.ints .u8 (Z0z ZB t core))]  :=.evM (Zcb t core _ rfl) (ZfP _ _ t core _ _ rfl rfl ht rfl rfl)
def ZfQ (R:TxS→Bool→List Int):ZQ:=fun args h K=>ZL none h true 20 args fun a=>match a with
 | [.agg l,.bool core]=>∃t,Z3Q l t∧t.Fine∧K (.ret (.nslice ⟨h.next,0,0,0,0⟩ 1 (R t core).length (R t core).length)) ⟨h.next+1,(h.next,.ints .u8 (R t core))::h.bs⟩
 | _=>False
theorem Zcc (args:List AV) (h:Z7) (K:KO) (hl:ZfQ (Z0z ZB) args h K):Zg PP 96 args h K:=by
 refine ZD.fsumm (d:=20) (Zn _ _ _ _ _ hl fun a ha=> ?_)
 split at ha
 ·obtain ⟨t,h1,h2,hK⟩:=ha
  exact ⟨_,_,_,_,(Zag t _ h2).conv fun E r hr=>hr.head (fun _ hc=>h1.rel hc) (fun _ hc=>hc),rfl,⟨Nat.one_pos,.ints _ _,trivial⟩,hK⟩
 ·exact ha.elim
theorem V0 {t:TxS} (ht:t.Ok) (h:Yt ZS t=true):t.Fine:=by
 unfold Yt at h
 simp only [Bool.and_eq_true,decide_eq_true_eq,Bool.not_eq_true',List.any_eq_false,List.mem_range,beq_iff_eq] at h
 obtain ⟨⟨⟨⟨⟨h1,h2⟩,h3⟩,h4⟩,h5⟩,_⟩:=h
 refine ⟨ht,h1,by omega,by omega,fun j hj=> ?_,fun j hj=> ?_⟩
 ·have:=h4 j hj
  simp [YJ,Vh] at this
  exact this.1
 ·have:=h5 j hj
  simpa [Yj,UY] using this
end Go.Tk
end
section
namespace Go.Tk
open IntKind (i64 u8 u32 u64 wrap)
noncomputable def E19 (A:List Int→Int×Int) (H:List Int→List Int) (T2:List Int→List Int→List Int) (R:TxS→Bool→List Int) (B:Nat):Ze:=
 ((((G0.withP 89 (ckS A)).withF 96 (ZfQ R)).withP 95 (Z9L H B)).withP 167 (Zf8 T2)).withP 187 (Z6d A)
theorem Zah (B:Nat) (hB:B<100000000000) (h32:32≤B):(E19 ZS Z2N Z0g (Z0z ZB) B).Ok:=
 Ze.withP_ok (Ze.withP_ok (Ze.withP_ok (Ze.withF_ok (Ze.withP_ok Zu Za5) Zcc) (Z9N B hB h32)) Zbz) Z2U
theorem Zha (A:List Int→Int×Int) (H:List Int→List Int) (T2:List Int→List Int→List Int) (R:TxS→Bool→List Int) (B:Nat) (t:TxS) (hh:List Int) (ht:t.Ok) (hc:Yt A t=true) (hA:A=ZS) (hR:R=Z0z ZB) (hB:20000≤B) (hHl:∀x,(H x).length=32) (hH:hh=H (R t true)):
  evF (E19 A H T2 R B) 20 48 [.agg t.c] ⟨0,[]⟩ (Y2 0 (.ret (.tuple [.agg [.arr .u8 32 hh],.int .i64 0])) 0 []):=by
 refine @Eq.mpr _ (let q1:=t.N;
 let q2:=t.M;
 ∃(t_1:TxS),
 (t_1.num=t.num∧((q1=q1∧t_1.N=q1)∧∀(i:Nat),i<q1→Zf t.ins i=InS.c (t_1.ins i))∧(q2=q2∧t_1.M=q2)∧∀(i:Nat),i<q2→Zi t.outs i=ZM.c (t_1.outs i))∧
 TxS.Ok t_1∧
 Z0 (Yt A t_1)
 (∃(t_2:TxS),
 let q5:=List.length (R t_2 true);
 let q6:=List.take q5 (Yo 0 (R t_2 true));
 let q7:=List.length q6;
 (t_2.num=t.num∧((q1=q1∧t_2.N=q1)∧∀(i:Nat),i<q1→Zf t.ins i=InS.c (t_2.ins i))∧(q2=q2∧t_2.M=q2)∧∀(i:Nat),i<q2→Zi t.outs i=ZM.c (t_2.outs i))∧TxS.Fine t_2∧Z0 (decide (0+q5≤q5)) (Z0 (decide (q5=q7)) (Z0 (decide (q7≤B)) (H q6=hh∧True) False) False) False)
 (Z5=hh∧False)) (by kernel_rfl) ?_
 conv=>zeta
 try simp only [Zc]
 try simp only [Zj]
 try simp only [Zd]
 try simp only [Zk]
 try simp only [Zl]
 try simp only [Zb]
 try simp only [Int.toNat_natCast,Nat.zero_add,true_and,and_true,Nat.le_refl]
 refine ⟨t,⟨rfl,⟨rfl,fun _ _=>rfl⟩,rfl,fun _ _=>rfl⟩,ht,fun h=>⟨t,⟨rfl,⟨rfl,fun _ _=>rfl⟩,rfl,fun _ _=>rfl⟩,V0 ht (by subst hA;exact hc), ?_⟩,fun h=>(by rw [hc] at h;cases h)⟩
 subst hR hA hH
 have hb:=Qs (V0 ht hc) true (Nat.le_refl t.M)
 have hb':(Z0z ZB t true).length≤20000:=hb
 rw [Y6,List.drop_zero,List.take_length]
 and_intros<;>first|trivial|rfl|omega
theorem ZfR (A:List Int→Int×Int) (H:List Int→List Int) (T2:List Int→List Int→List Int) (R:TxS→Bool→List Int) (B:Nat) (t:TxS) (key hh:List Int) (ht:t.Ok) (hc:Yt A t=true) (hA:A=ZS) (hR:R=Z0z ZB) (hB:20000≤B) (hHl:∀x,(H x).length=32) (hk:key.length=32) (hH:hh=T2 key (H (R t true))):
  evF (E19 A H T2 R B) 20 83 [.agg t.c,.agg [.arr .u8 32 key]] ⟨0,[]⟩ (Y2 0 (.ret (.tuple [.agg [.arr .u8 32 hh],.int .i64 0])) 0 []):=by
 refine @Eq.mpr _ (let q1:=t.N;
 let q2:=t.M;
 ∃(t_1:TxS),
 (t_1.num=t.num∧((q1=q1∧t_1.N=q1)∧∀(i:Nat),i<q1→Zf t.ins i=InS.c (t_1.ins i))∧(q2=q2∧t_1.M=q2)∧∀(i:Nat),i<q2→Zi t.outs i=ZM.c (t_1.outs i))∧
 TxS.Ok t_1∧
 Z0 (Yt A t_1)
 (∃(t_2:TxS),
 let q5:=List.length (R t_2 true);
 let q6:=List.take q5 (Yo 0 (R t_2 true));
 let q7:=List.length q6;
 let q8:=H q6;
 let q9:=List.length q8;
 (t_2.num=t.num∧((q1=q1∧t_2.N=q1)∧∀(i:Nat),i<q1→Zf t.ins i=InS.c (t_2.ins i))∧(q2=q2∧t_2.M=q2)∧∀(i:Nat),i<q2→Zi t.outs i=ZM.c (t_2.outs i))∧TxS.Fine t_2∧Z0 (decide (0+q5≤q5)) (Z0 (decide (q5=q7)) (Z0 (decide (q7≤B)) (Z0 (decide (List.length key=32)) (Z0 (decide (q9=32)) (Z0 (decide (32=q9)) (Z0 (decide (List.length key=32∧q9=32)) (T2 key q8=hh∧True) False) False) False) False) False) False) False)
 (Z5=hh∧False)) (by kernel_rfl) ?_
 conv=>zeta
 try simp only [Zc]
 try simp only [Zj]
 try simp only [Zd]
 try simp only [Zk]
 try simp only [Zl]
 try simp only [Zb]
 try simp only [Int.toNat_natCast,Nat.zero_add,true_and,and_true,Nat.le_refl]
 refine ⟨t,⟨rfl,⟨rfl,fun _ _=>rfl⟩,rfl,fun _ _=>rfl⟩,ht,fun h=>⟨t,⟨rfl,⟨rfl,fun _ _=>rfl⟩,rfl,fun _ _=>rfl⟩,V0 ht (by subst hA;exact hc), ?_⟩,fun h=>(by rw [hc] at h;cases h)⟩
 subst hR hA hH
 have hb:=Qs (V0 ht hc) true (Nat.le_refl t.M)
 have hb':(Z0z ZB t true).length≤20000:=hb
 rw [Y6,List.drop_zero,List.take_length]
 have:=hHl (Z0z ZB t true)
 and_intros<;>first|trivial|rfl|omega
theorem ZfS (A:List Int→Int×Int) (H:List Int→List Int) (T2:List Int→List Int→List Int) (R:TxS→Bool→List Int) (B:Nat) (t:TxS) (key:List Int) (ht:t.Ok) (hc:Yt A t=false):
  evF (E19 A H T2 R B) 20 83 [.agg t.c,.agg [.arr .u8 32 key]] ⟨0,[]⟩ (Y2 0 (.ret (.tuple [.agg [.arr .u8 32 Z5],.int .i64 2])) 0 []):=by
 refine @Eq.mpr _ (let q1:=t.N;
 let q2:=t.M;
 ∃(t_1:TxS),
 (t_1.num=t.num∧((q1=q1∧t_1.N=q1)∧∀(i:Nat),i<q1→Zf t.ins i=InS.c (t_1.ins i))∧(q2=q2∧t_1.M=q2)∧∀(i:Nat),i<q2→Zi t.outs i=ZM.c (t_1.outs i))∧
 TxS.Ok t_1∧
 Z0 (Yt A t_1)
 (∃(t_2:TxS),
 let q5:=List.length (R t_2 true);
 let q6:=List.take q5 (Yo 0 (R t_2 true));
 let q7:=List.length q6;
 let q8:=H q6;
 let q9:=List.length q8;
 (t_2.num=t.num∧((q1=q1∧t_2.N=q1)∧∀(i:Nat),i<q1→Zf t.ins i=InS.c (t_2.ins i))∧(q2=q2∧t_2.M=q2)∧∀(i:Nat),i<q2→Zi t.outs i=ZM.c (t_2.outs i))∧TxS.Fine t_2∧Z0 (decide (0+q5≤q5)) (Z0 (decide (q5=q7)) (Z0 (decide (q7≤B)) (Z0 (decide (List.length key=32)) (Z0 (decide (q9=32)) (Z0 (decide (32=q9)) (Z0 (decide (List.length key=32∧q9=32)) (T2 key q8=Z5∧False) False) False) False) False) False) False) False)
 (Z5=Z5∧True)) (by kernel_rfl) ?_
 conv=>zeta
 try simp only [Zc]
 try simp only [Zj]
 try simp only [Zd]
 try simp only [Zk]
 try simp only [Zl]
 try simp only [Zb]
 try simp only [Int.toNat_natCast,Nat.zero_add,true_and,and_true,Nat.le_refl]
 exact ⟨t,⟨rfl,⟨rfl,fun _ _=>rfl⟩,rfl,fun _ _=>rfl⟩,ht,fun h=>(by rw [hc] at h;cases h),fun h=>(by first|trivial|exact ⟨rfl,trivial⟩|rfl)⟩
def ZhR (A:List Int→Int×Int) (Nm:TxS→List Int):ZZ:=fun args h K=>ZL none h true 20 args fun a=>match a with
 | [.agg l]=>∃t,Z3Q l t∧t.Ok∧Z0 (Yt A t) (K (.tuple [.agg [.arr .u8 32 (Nm t)],.int .i64 0])) (K (.tuple [.agg [.arr .u8 32 Z5],.int .i64 2]))
 | _=>False
def Ze5 (A:List Int→Int×Int) (Tg:List Int→TxS→List Int):ZZ:=fun args h K=>ZL none h true 20 args fun a=>match a with
 | [.agg l,.agg [.arr .u8 32 key]]=>∃t,Z3Q l t∧(t.Ok∧key.length=32)∧Z0 (Yt A t) (K (.tuple [.agg [.arr .u8 32 (Tg key t)],.int .i64 0])) (K (.tuple [.agg [.arr .u8 32 Z5],.int .i64 2]))
 | _=>False
@[irreducible] def Y0 (key:List Int) (t:TxS):List Int:=Z0g key (Z2N (Z0z ZB t true))
theorem Z2W (k:List Int) (t:TxS):(Y0 k t).length=32:=by unfold Y0;exact Z8e _ _
theorem Z8p (args:List AV) (h:Z7) (K:AV→Prop) (hl:Ze5 ZS Y0 args h K):Zg PP 83 args h fun o h'=>∃v,o=.ret v∧h'=h∧K v:=by
 refine ZD.psumm (d:=20) (Zn _ _ _ _ _ hl fun a ha=> ?_)
 split at ha
 ·obtain ⟨t,h1,⟨h2,hk⟩,hK⟩:=ha
  rw [Zb] at hK
  cases hc:Yt ZS t with
  | true=>exact ⟨_,(ZD.evM (Zah 20000 (by decide) (by decide)) (ZfR _ _ _ _ _ t _ _ h2 hc rfl rfl (by decide) Z8c hk rfl)).conv fun E r hr=>hr.head (fun _ hc=>h1.rel hc) (fun _ hc=>hc),fun _=>rfl,by have:=hK.1 hc;unfold Y0 at this;exact this⟩
  | false=>exact ⟨_,(ZD.evM (Zah 20000 (by decide) (by decide)) (ZfS _ _ _ _ _ t _ h2 hc)).conv fun E r hr=>hr.head (fun _ hc=>h1.rel hc) (fun _ hc=>hc),fun _=>rfl,hK.2 hc⟩
 ·exact ha.elim
end Go.Tk
end
section
namespace Go.Tk
open IntKind (i64 u8 u32 u64 wrap)
end Go.Tk
end
section
namespace Go.Tk
open IntKind (i64 u8 u32 u64 wrap)
end Go.Tk
end
section
namespace Go.Tk
open IntKind (i64 u8 u32 u64 wrap)
end Go.Tk
end
section
namespace Go.Tk
open IntKind (i64 u8 u32 u64 wrap)
mutual
/-- Without names; views may be. -/
def AV.vplain:AV→Bool
 | .top|.bool _|.int _ _|.str _|.ptr none|.eslice|.fslice|.nilslice|.map none|.nilFunc|.nilIface|.arr _ _ _=>true
 | .vints _ _ _|.vrows _ _ _ _|.pview _ _=>true
 | .agg cs=>XX cs
 | .tuple cs=>XX cs
 | .iface _ v=>v.vplain
 | _=>false
def XX:List AV→Bool
 | []=>true
 | v::r=>v.vplain&&XX r
end
mutual
theorem Za.vplain {E E':Env} (hi:∀a c,E.imm a c→E'.imm a c):∀(v:AV) (r:Value),v.vplain=true→Za E v r→Za E' v r
 | .top,r,_,_=>.top r
 | .bool b,r,_,h=>h.plain rfl
 | .int k n,r,_,h=>h.plain rfl
 | .str s,r,_,h=>h.plain rfl
 | .ptr none,r,_,h=>h.plain rfl
 | .eslice,r,_,h=>h.plain rfl
 | .fslice,r,_,h=>h.plain rfl
 | .nilslice,r,_,h=>h.plain rfl
 | .map none,r,_,h=>h.plain rfl
 | .nilFunc,r,_,h=>h.plain rfl
 | .nilIface,r,_,h=>h.plain rfl
 | .arr k n xs,r,_,h=>h.plain rfl
 | .ptr (some p),r,hp,_=>by simp [AV.vplain] at hp
 | .nslice p a b c,r,hp,_=>by simp [AV.vplain] at hp
 | .map (some x),r,hp,_=>by simp [AV.vplain] at hp
 | .func a b c,r,hp,_=>by simp [AV.vplain] at hp
 | .yield x,r,hp,_=>by simp [AV.vplain] at hp
 | .pview cs inn,r,_,h=>by
  cases h with
  | pview cs inn a vs hc hq=>exact .pview cs inn a vs (Zp.mono (⟨fun _ _ h=>by simp [Env.views] at h,hi⟩:E.views.le E'.views) hc) (fun j c h=>hi _ _ (hq j c h))
 | .vints k xs len,r,_,h=>by
  cases h with
  | vintsNil k xs len h1 h2=>exact .vintsNil k xs len h1 h2
  | vints k xs len a cap h1 h2 hq=>exact .vints k xs len a cap h1 h2 (fun i h=>hi _ _ (hq i h))
 | .vrows esz n f len,r,_,h=>by
  cases h with
  | vrowsNil esz n f len h1 h2=>exact .vrowsNil esz n f len h1 h2
  | vrows esz n f len a cap g h1 h2 hc hl hq=>exact .vrows esz n f len a cap g h1 h2 (fun i h=>Zp.mono (⟨fun _ _ h=>by simp [Env.views] at h,hi⟩:E.views.le E'.views) (hc i h)) hl (fun i j c h h'=>hi _ _ (hq i j c h h'))
 | .iface t v,r,hp,h=>by
  cases h with
  | iface t v x hx=>exact .iface t v x (Za.vplain hi v x (by simpa [AV.vplain] using hp) hx)
 | .agg cs,r,hp,h=>by
  cases h with
  | agg cs vs hc=>exact .agg cs vs (Zp.vplain hi cs vs (by simpa [AV.vplain] using hp) hc)
 | .tuple cs,r,hp,h=>by
  cases h with
  | tuple _ rs hc=>exact .tuple _ rs (ZA.vplain hi cs rs (by simpa [AV.vplain] using hp) hc)
theorem Zp.vplain {E E':Env} (hi:∀a c,E.imm a c→E'.imm a c):∀(l:List AV) (r:List Value),XX l=true→Zp E l r→Zp E' l r
 | [],r,_,h=>by cases h;exact .nil
 | v::l,r,hp,h=>by
  simp only [XX,Bool.and_eq_true] at hp
  cases h with
  | one v c vs cs h0 h1 hv t=>exact .one v c _ cs h0 h1 (Za.vplain hi v c hp.1 hv) (Zp.vplain hi l cs hp.2 t)
  | arr k n xs vs cs t=>exact .arr k n xs _ cs (Zp.vplain hi l cs hp.2 t)
theorem ZA.vplain {E E':Env} (hi:∀a c,E.imm a c→E'.imm a c):∀(l:List AV) (r:List Value),XX l=true→ZA E l r→ZA E' l r
 | [],r,_,h=>by cases h;exact .nil
 | v::l,r,hp,h=>by
  simp only [XX,Bool.and_eq_true] at hp
  cases h with
  | cons v c vs cs hv t=>exact .cons v c _ cs (Za.vplain hi v c hp.1 hv) (ZA.vplain hi l cs hp.2 t)
end
def Uh (R:AV→Prop):KO:=fun o _=>match o with
 | .ret u=>(match u.vplain with|true=>R u|false=>False)
 | .panic _=>False
theorem Z1V {P:Program} {f:FuncId} {args:List AV} {h:Z7} {R:AV→Prop} {K:AV→Prop} (hp:XX args=true) (hc:Zg P f args ⟨0,[]⟩ (Uh R)) (hK:∀u,R u→K u):
  Zg P f args h fun o h'=>∃v,o=.ret v∧h'=h∧K v:=by
 intro E w rs he hr
 have hemb:Emb E.views ⟨0,[]⟩ w:=
  ⟨fun x _=>rfl,fun x B h=>by simp [Z7.get,ZH] at h,fun x B h=>by simp [Z7.get,ZH] at h,fun x y B B' b N N' h=>by simp [Z7.get,ZH] at h,he.imm,fun a c x B N _ h=>by simp [Z7.get,ZH] at h⟩
 refine (hc E.views w rs hemb (ZA.vplain (E:=E) (E':=E.views) (fun _ _ h=>h) _ _ hp hr)).mono ?_
 rintro e w' ⟨E₁,o,h',hK0,hev,hor⟩
 cases hor with
 | panic u r hr=>exact hK0.elim
 | ret u r hr=>
  unfold Uh at hK0
  simp only at hK0
  split at hK0
  ·rename_i hu
   have hkeep:∀b,b<w.heap.size→w'.heap[b]? =w.heap[b]?:=fun b hb=>hev.keep b hb (fun ⟨x,B,N,hx,_⟩=>by simp [Z7.get,ZH] at hx)
   have hemb':Emb E h w':=by
    refine ⟨he.fresh,he.lt,fun x B hx=>(he.own x B hx).congr fun b N hb=>hkeep b ((he.own x B hx).lt hb),he.disj,fun a c hi=> ?_,he.sep⟩
    have hcc:=he.imm a c hi
    have hlt:a.block<w.heap.size:=by
     rcases Nat.lt_or_ge a.block w.heap.size with hl|hg
     ·exact hl
     ·simp [World.cell?,Array.getElem?_eq_none hg] at hcc
    simpa [World.cell?,hkeep _ hlt] using hcc
   exact ⟨E,.ret u,h,⟨u,rfl,rfl,hK u hK0⟩,⟨.refl E,hemb',hev.size,hev.os,hev.tape,hev.output,fun b hb _=>hkeep b hb,fun b ho=>.inl ho,fun _ _ h=>h⟩,.ret _ _ (Za.vplain (E:=E₁) (E':=E) (fun a c hi=>hev.imm a c hi) _ _ hu hr)⟩
  ·exact hK0.elim
theorem Ww {G:Ze} (hG:G.Ok) {n:Nat} {f:FuncId} {args:List AV} {h:Z7} {R:AV→Prop} {K:AV→Prop} (hp:XX args=true) (hc:evF G n f args ⟨0,[]⟩ (Uh R)) (hK:∀u,R u→K u):
  Zg G.P f args h fun o h'=>∃v,o=.ret v∧h'=h∧K v:=Z1V hp (Yw hG hc) hK
end Go.Tk
end
section
namespace Go.Tk
open IntKind (i64 u8 u32 u64 wrap)
end Go.Tk
end
section
namespace Go.Tk
open IntKind (i64 u8 u32 u64 wrap)
inductive Ty where
 | bool
 | int (k:IntKind)
 | str
 | arr (k:IntKind) (n:Nat)
 | ints (k:IntKind)
 | rows (esz:Nat) (ts:List Ty)
def Zai (P:Program) (r:TypeId→Option (List Ty)) (sz:Nat):Nat→List Field→Option (List Ty)
 | o,[]=>if o=sz then some [] else none
 | o,f::fs=>if f.offset=o then (r f.type).bind fun a=>(Zai P r sz (o+P.cellsOf f.type) fs).bind fun b=>some (a++b) else none
def Z0A (P:Program):Nat→TypeId→Option (List Ty)
 | 0,_=>none
 | m+1,t=>match P.underlying t with
  | some .bool=>some [.bool]
  | some (.int k)=>some [.int k]
  | some .string=>some [.str]
  | some (.array n e)=>match P.underlying e with
   | some (.int k)=>if P.cellsOf t=n∧P.cellsOf e=1 then some [.arr k n] else none
   | _=>(Z0A P m e).bind fun ts=>if P.cellsOf t=n*P.cellsOf e then some (List.replicate n ts).flatten else none
  | some (.slice e)=>match P.underlying e with
   | some (.int k)=>if P.cellsOf e=1 then some [.ints k] else none
   | _=>(Z0A P m e).bind fun ts=>some [.rows (P.cellsOf e) ts]
  | some (.struct fs)=>Zai P (Z0A P m) (P.cellsOf t) 0 fs.toList
  | _=>none
mutual
inductive Z0l:Ty→AV→Prop
 | bool (b:Bool):Z0l .bool (.bool b)
 | int (k:IntKind) (n:Int) (h:(Lit.int k n).wf=true):Z0l (.int k) (.int k n)
 | str (s:ByteArray) (h:s.size≤maxLen):Z0l .str (.str s)
 | arr (k:IntKind) (n:Nat) (xs:List Int) (h:xs.length=n) (hw:∀i,i<n→(Lit.int k (xs.getD i 0)).wf=true):Z0l (.arr k n) (.arr k n xs)
 | ints (k:IntKind) (xs:List Int) (n:Nat) (h:xs.length=n) (hm:n≤maxLen) (hw:∀i,i<n→(Lit.int k (xs.getD i 0)).wf=true):Z0l (.ints k) (.vints k xs n)
 | rows (esz:Nat) (ts:List Ty) (n:Nat) (f:Nat→List AV) (hm:n≤maxLen) (h:∀i,i<n→Fits ts (f i)):Z0l (.rows esz ts) (.vrows esz n f n)
inductive Fits:List Ty→List AV→Prop
 | nil:Fits [] []
 | cons (t:Ty) (a:AV) (ts:List Ty) (vz:List AV) (h:Z0l t a) (r:Fits ts vz):Fits (t::ts) (a::vz)
end
theorem Fits.append:∀{ts wz:List Ty} {vz bs:List AV},Fits ts vz→Fits wz bs→Fits (ts++wz) (vz++bs)
 | _,_,_,_,.nil,h=>h
 | _,_,_,_,.cons t a ts vz h r,k=>.cons t a _ _ h (Fits.append r k)
def tE (w:World):Env:=⟨fun _=>none,fun a c=>w.cell? a=some c⟩
section
variable {H:Type} {enc:TypeId×Value→H} {P:Program} {w:World} {sp:Nat→Bool} {held:Bool}
theorem Ux {k:IntKind} {n:Nat} {cs:List Value} (hl:cs.length=n) (h:∀i,i<n→∃z,cs[i]? =some (.int k z)∧(Lit.int k z).wf=true):
  ∃xs:List Int,xs.length=n∧(∀i,i<n→(Lit.int k (xs.getD i 0)).wf=true)∧∀i,i<n→cs[i]? =some (.int k (xs.getD i 0)):=by
 refine ⟨cs.map fun v=>match v with|.int _ z=>z|_=>0,by simp [hl],fun i hi=> ?_,fun i hi=> ?_⟩
 ·obtain ⟨z,h1,h2⟩:=h i hi
  rw [List.getD_eq_getElem?_getD,List.getElem?_map,h1]
  exact h2
 ·obtain ⟨z,h1,h2⟩:=h i hi
  rw [List.getD_eq_getElem?_getD,List.getElem?_map,h1]
  rfl
theorem Zcd {α β:Type} {n:Nat} {p:Nat→α→β→Prop} [Inhabited α] [Inhabited β] (h:∀i,i<n→∃a b,p i a b):∃(f:Nat→α) (g:Nat→β),∀i,i<n→p i (f i) (g i):=
 ⟨fun i=>if hi:i<n then Classical.choose (h i hi) else default,fun i=>if hi:i<n then Classical.choose (Classical.choose_spec (h i hi)) else default,fun i hi=>by
  simp only [hi,dite_true]
  exact Classical.choose_spec (Classical.choose_spec (h i hi))⟩
theorem Z0J:∀(m:Nat) (t:TypeId) (ts:List Ty),Z0A P m t=some ts→∀(fuel:Nat) (cs:List Value) (x:DataW H×List MemPlace),DataW.trod enc P w 0 sp held fuel t cs=some x→∃vz,Fits ts vz∧Zp (tE w) vz cs
 | 0,_,_,ht=>by simp [Z0A] at ht
 | m+1,t,ts,ht=>by
  intro fuel cs x hx
  unfold Z0A at ht
  split at ht
  ·rename_i hu
   cases ht
   obtain ⟨b,rfl,_⟩:=DataW.trod_bool hu hx
   exact ⟨[.bool b],.cons _ _ _ _ (.bool b) .nil,.one _ _ _ _ rfl rfl (.bool b) .nil⟩
  ·rename_i k hu
   cases ht
   obtain ⟨n,rfl,_,hw⟩:=DataW.trod_int hu hx
   exact ⟨[.int k n],.cons _ _ _ _ (.int k n hw) .nil,.one _ _ _ _ rfl rfl (.int k n) .nil⟩
  ·rename_i hu
   cases ht
   obtain ⟨s,rfl,_,hw⟩:=DataW.trod_string hu hx
   exact ⟨[.str s],.cons _ _ _ _ (.str s hw) .nil,.one _ _ _ _ rfl rfl (.str s) .nil⟩
  ·rename_i n e hu
   split at ht
   ·rename_i k he
    split at ht
    ·rename_i hc
     obtain ⟨hc,h1⟩:=hc
     cases ht
     obtain ⟨xs,q,rfl,rfl,hl,hn,hi⟩:=DataW.trod_array hu hx
     rw [hc] at hl
     obtain ⟨zs,z1,z2,z3⟩:=Ux (k:=k) hl fun i hlt=>by
      have:=hi i hlt
      rw [List.getElem?_eq_getElem (by omega),h1] at this
      obtain ⟨z,e1,_,e2⟩:=DataW.trod_int he this
      refine ⟨z, ?_,e2⟩
      rw [Nat.mul_one] at e1
      have:=congrArg (fun l=>l[0]?) e1
      simpa using this
     refine ⟨[.arr k n zs],.cons _ _ _ _ (.arr k n zs z1 z2) .nil, ?_⟩
     have:cs=intCells k n zs++[]:=by
      rw [List.append_nil]
      refine List.ext_getElem? fun i=> ?_
      by_cases hlt:i<n
      ·rw [z3 i hlt]
       simp [intCells,hlt]
      ·rw [List.getElem?_eq_none (by omega),List.getElem?_eq_none (by rw [Z6];omega)]
     rw [this]
     exact .arr _ _ _ _ _ .nil
    ·cases ht
   ·obtain ⟨es,e1,e2⟩:=Option.bind_eq_some_iff.1 ht
    split at e2
    ·rename_i hc
     cases e2
     obtain ⟨xs,q,rfl,rfl,hl,hn,hi⟩:=DataW.trod_array hu hx
     rw [hc] at hl
     have key:∀j,j≤n→∃vz,Fits (List.replicate j es).flatten vz∧Zp (tE w) vz (cs.take (j*P.cellsOf e)):=by
      intro j
      induction j with
      | zero=>intro _;exact ⟨[],.nil,by simp;exact .nil⟩
      | succ j ih=>
       intro hj
       obtain ⟨vz,f1,f2⟩:=ih (by omega)
       have:=hi j (by omega)
       rw [List.getElem?_eq_getElem (by omega)] at this
       obtain ⟨bs,p1,p2⟩:=Z0J m _ _ e1 _ _ _ this
       refine ⟨vz++bs, ?_, ?_⟩
       ·rw [List.replicate_succ',List.flatten_append,List.flatten_singleton]
        exact f1.append p1
       ·rw [Nat.succ_mul,List.take_add]
        exact f2.append p2
     obtain ⟨vz,f1,f2⟩:=key n (Nat.le_refl _)
     rw [List.take_of_length_le (by omega)] at f2
     exact ⟨vz,f1,f2⟩
    ·cases e2
  ·rename_i e hu
   split at ht
   ·rename_i k he
    split at ht
    ·rename_i hc
     cases ht
     rcases DataW.trod_slice hu hx with ⟨rfl,_⟩|⟨a,len,cap,elems,rest,n,rfl,rfl,_,_,hl,hm,hlen,hi,_,_⟩
     ·exact ⟨[.vints k [] 0],.cons _ _ _ _ (.ints k [] 0 rfl (Nat.zero_le _) fun i hi=>absurd hi (Nat.not_lt_zero i)) .nil,.one _ _ _ _ rfl rfl (.vintsNil _ _ _ rfl rfl) .nil⟩
     ·obtain ⟨zs,z1,z2,z3⟩:=Ux (k:=k) (n:=len) (cs:=(List.range len).map fun i=>(w.cell? (a.add i)).getD undef) (by simp) fun i hlt=>by
       have:=hi i hlt
       rw [List.getElem?_eq_getElem (by omega),hc,Nat.mul_one] at this
       obtain ⟨cs',h1,h2⟩:=Option.bind_eq_some_iff.1 this
       obtain ⟨z,rfl,_,e2⟩:=DataW.trod_int he h2
       refine ⟨z, ?_,e2⟩
       simp [hlt,Go.ChangeShapes.cell_of_cells?_one h1]
      refine ⟨[.vints k zs len],.cons _ _ _ _ (.ints k zs len z1 (by omega) z2) .nil,.one _ _ _ _ rfl rfl (.vints k zs len a cap (by omega) (by omega) fun i hlt=> ?_) .nil⟩
      rw [z1] at hlt
      have:=hi i hlt
      rw [List.getElem?_eq_getElem (by omega),hc,Nat.mul_one] at this
      obtain ⟨cs',h1,h2⟩:=Option.bind_eq_some_iff.1 this
      obtain ⟨z,rfl,_,e2⟩:=DataW.trod_int he h2
      have h3:=z3 i hlt
      have h4:=Go.ChangeShapes.cell_of_cells?_one h1
      simp [hlt,h4] at h3
      show w.cell? (a.add i)=_
      rw [h4,h3,List.getD_eq_getElem?_getD]
    ·cases ht
   ·obtain ⟨es,h1,h2⟩:=Option.bind_eq_some_iff.1 ht
    cases h2
    rcases DataW.trod_slice hu hx with ⟨rfl,_⟩|⟨a,len,cap,elems,rest,n,rfl,rfl,_,_,hl,hm,hlen,hi,_,_⟩
    ·exact ⟨[.vrows (P.cellsOf e) 0 (fun _=>[]) 0],.cons _ _ _ _ (.rows _ _ 0 _ (Nat.zero_le _) fun i hi=>absurd hi (Nat.not_lt_zero i)) .nil,.one _ _ _ _ rfl rfl (.vrowsNil _ _ _ _ rfl rfl) .nil⟩
    ·obtain ⟨f,g,hfg⟩:=Zcd (n:=len) (p:=fun i (vz:List AV) (vs:List Value)=>Fits es vz∧Zp (tE w) vz vs∧w.cells? 0 (a.add (i*P.cellsOf e)) (P.cellsOf e)=some vs) fun i hlt=>by
      have:=hi i hlt
      rw [List.getElem?_eq_getElem (by omega)] at this
      obtain ⟨cs',k1,k2⟩:=Option.bind_eq_some_iff.1 this
      obtain ⟨vz,f1,f2⟩:=Z0J m _ _ h1 _ _ _ k2
      exact ⟨vz,cs',f1,f2,k1⟩
     refine ⟨[.vrows (P.cellsOf e) len f len],.cons _ _ _ _ (.rows _ _ len f (by omega) fun i hlt=>(hfg i hlt).1) .nil,.one _ _ _ _ rfl rfl (.vrows _ _ _ _ a cap g (Nat.le_refl _) hl (fun i hlt=>(hfg i hlt).2.1) (fun i hlt=>(World.cells?_some (hfg i hlt).2.2).2.1) fun i j c hlt hj=> ?_) .nil⟩
     obtain ⟨_,hl',hc'⟩:=World.cells?_some (hfg i hlt).2.2
     have hj':j<P.cellsOf e:=by
      rcases Nat.lt_or_ge j (P.cellsOf e) with h|h
      ·exact h
      ·rw [List.getElem?_eq_none (by omega)] at hj;cases hj
     have:=hc' j hj'
     rw [hj] at this
     show w.cell? (a.add (i*P.cellsOf e+j))=some c
     rw [←this]
     rw [Addr.add_add]
  ·rename_i fs hu
   obtain ⟨xs,n,rfl,rfl,hl,hn,hf⟩:=DataW.trod_struct hu hx
   have key:∀(l:List Field) (o:Nat) (ts:List Ty) (i0:Nat),Zai P (Z0A P m) (P.cellsOf t) o l=some ts→(∀i f,l[i]? =some f→fs[i0+i]? =some f)→∃vz,Fits ts vz∧Zp (tE w) vz (cs.drop o):=by
    intro l
    induction l with
    | nil=>
     intro o ts i0 h _
     unfold Zai at h
     split at h
     ·rename_i ho
      cases h
      exact ⟨[],.nil,by rw [List.drop_eq_nil_of_le (by omega)];exact .nil⟩
     ·cases h
    | cons f l ih=>
     intro o ts i0 h hl'
     unfold Zai at h
     split at h
     ·rename_i ho
      obtain ⟨a,h1,h2⟩:=Option.bind_eq_some_iff.1 h
      obtain ⟨b,h3,h4⟩:=Option.bind_eq_some_iff.1 h2
      cases h4
      have h0:fs[i0]? =some f:=hl' 0 f rfl
      have hlt:i0<fs.size:=by
       rcases Nat.lt_or_ge i0 fs.size with h|h
       ·exact h
       ·rw [Array.getElem?_eq_none (by omega)] at h0;cases h0
      have k:=hf i0 f h0
      rw [List.getElem?_eq_getElem (by omega),ho] at k
      obtain ⟨vz,p1,p2⟩:=Z0J m _ _ h1 _ _ _ k
      obtain ⟨bs,q1,q2⟩:=ih (o+P.cellsOf f.type) b (i0+1) h3 fun i g hg=>by
       have:=hl' (i+1) g hg
       rw [←this];congr 1;omega
      refine ⟨vz++bs,p1.append q1, ?_⟩
      have e:cs.drop o=(cs.drop o).take (P.cellsOf f.type)++cs.drop (o+P.cellsOf f.type):=by
       rw [←List.drop_drop,List.take_append_drop]
      rw [e]
      exact p2.append q2
     ·cases h
   obtain ⟨vz,h1,h2⟩:=key fs.toList 0 ts 0 ht fun i f h=>by simpa using h
   exact ⟨vz,h1,by simpa using h2⟩
  ·cases ht
def isAgg (P:Program) (t:TypeId):Bool:=match P.underlying t with
 | some (.struct _)|some (.array _ _)=>true
 | _=>false
inductive Z50:Bool→List Ty→AV→Prop
 | agg (ts:List Ty) (vz:List AV) (h:Fits ts vz):Z50 true ts (.agg vz)
 | one (t:Ty) (a:AV) (h:Z0l t a):Z50 false [t] a
theorem Zaj {m:Nat} {t:TypeId} {ts:List Ty} (ht:Z0A P m t=some ts) (hg:isAgg P t=false) {v:Value} {r:Reach} {b:Nat} (hv:Value.okWide P w r b t v):
  v.cells.toList=[v]∧∃τ,ts=[τ]∧∀k n,τ≠.arr k n:=by
 cases m with
 | zero=>simp [Z0A] at ht
 | succ m=>
  unfold Z0A at ht
  unfold isAgg at hg
  split at ht
  ·rename_i hu;cases ht;obtain ⟨b,rfl⟩:=Go.WideShapes.okWide_bool hu hv;exact ⟨rfl,_,rfl,fun _ _ h=>by cases h⟩
  ·rename_i hu;cases ht;obtain ⟨b,rfl⟩:=Go.WideShapes.okWide_int hu hv;exact ⟨rfl,_,rfl,fun _ _ h=>by cases h⟩
  ·rename_i hu;cases ht;obtain ⟨b,rfl⟩:=Go.WideShapes.okWide_string hu hv;exact ⟨rfl,_,rfl,fun _ _ h=>by cases h⟩
  ·rename_i hu;simp [hu] at hg
  ·rename_i hu
   obtain ⟨a,l,c,rfl⟩:=Go.WideShapes.okWide_slice hu hv
   split at ht
   ·split at ht
    ·cases ht;exact ⟨rfl,_,rfl,fun _ _ h=>by cases h⟩
    ·cases ht
   ·obtain ⟨es,h1,h2⟩:=Option.bind_eq_some_iff.1 ht
    cases h2;exact ⟨rfl,_,rfl,fun _ _ h=>by cases h⟩
  ·rename_i hu;simp [hu] at hg
  ·cases ht
theorem Zak {m:Nat} {t:TypeId} {ts:List Ty} {g:Bool} (ht:Z0A P m t=some ts) (hg:isAgg P t=g) {v:Value} {r:Reach} {b:Nat} (hv:Value.okWide P w r b t v) {d:DataW H} {ps:List MemPlace} (h:DataW.Trod enc P w 0 sp held t v d ps):
  ∃a,Z50 g ts a∧Za (tE w) a v:=by
 obtain ⟨fuel,hf⟩:=h
 obtain ⟨vz,f1,f2⟩:=Z0J m _ _ ht _ _ _ hf
 cases g with
 | true=>
  have:∃cs,v=.agg cs:=by
   unfold isAgg at hg
   unfold Value.okWide at hv
   split at hg
   ·rename_i hu;simp only [hu] at hv;obtain ⟨cs,rfl,_⟩:=hv;exact ⟨cs,rfl⟩
   ·rename_i hu;simp only [hu] at hv;obtain ⟨cs,rfl,_⟩:=hv;exact ⟨cs,rfl⟩
   ·cases hg
  obtain ⟨cs,rfl⟩:=this
  refine ⟨.agg vz,.agg _ _ f1, ?_⟩
  have:cs=(Value.cells (.agg cs)).toList.toArray:=by simp [Value.cells]
  rw [this]
  exact .agg _ _ f2
 | false=>
  obtain ⟨h1,τ,rfl,h2⟩:=Zaj ht hg hv
  rw [h1] at f2
  cases f1 with
  | cons _ a _ vz f r=>
   cases r
   generalize hL:[v]=L at f2
   cases f2 with
   | one _ _ _ _ h0 h1 h t=>cases hL;exact ⟨_,.one _ _ f,h⟩
   | arr k n xs _ cs t=>cases f;exact absurd rfl (h2 _ _)
end
end Go.Tk
end
section
namespace Go.Tk
open IntKind (i64 u8 u32 u64 wrap)
open Go.ChangeShapes Go.WideShapes Go.RowKit
theorem Ze6 (w:World):Emb (tE w) ⟨0,[]⟩ w where
 fresh:=fun _ _=>rfl
 lt:=fun x B h=>by simp [Z7.get,ZH] at h
 own:=fun x B h=>by simp [Z7.get,ZH] at h
 disj:=fun x y B B' b N N' h=>absurd h (by simp [Z7.get,ZH])
 imm:=fun _ _ h=>h
 sep:=fun a c x B N _ h=>absurd h (by simp [Z7.get,ZH])
theorem Zg.topT {P:Program} {f:FuncId} {args:List AV} (h:Zg P f args ⟨0,[]⟩ fun o h'=>∃v,o=.ret v∧h'=⟨0,[]⟩∧v=.bool true) {w:World} {rs:List Value} (hl:ZA (tE w) args rs):
  Calls P f rs.toArray w fun e w'=>e=.returned (.bool true)∧Go.RowKit.Below w.heap.size w w':=by
 refine (h (tE w) w rs (Ze6 w) hl).mono ?_
 rintro e w' ⟨E',o,h',⟨v,rfl,rfl,hv⟩,hev,hor⟩
 obtain rfl:=hv
 cases hor with
 | ret v r hr=>
  cases hr
  refine ⟨rfl,hev.os,hev.tape,hev.output.1,hev.size,fun k hk=>hev.keep k hk ?_⟩
  rintro ⟨x,B,N,hx,_⟩
  exact absurd hx (by simp [Z7.get,ZH])
def Z6h (P:Program) (m:Nat):List TypeId→Option (List (Bool×List Ty))
 | []=>some []
 | t::r=>(Z0A P m t).bind fun a=>(Z6h P m r).bind fun b=>some ((isAgg P t,a)::b)
inductive Z2X:List (Bool×List Ty)→List AV→Prop
 | nil:Z2X [] []
 | cons (g:Bool) (ts:List Ty) (a:AV) (r:List (Bool×List Ty)) (vz:List AV) (h:Z50 g ts a) (k:Z2X r vz):Z2X ((g,ts)::r) (a::vz)
section
variable {H:Type} {enc:TypeId×Value→H} {P:Program} {w:World}
theorem Z2Y {m:Nat} {r:Reach} {b:Nat}:∀{ts:List TypeId} {τs:List (Bool×List Ty)} {vs:List Value} {ds:List (DataW H)} {ps:List MemPlace},Z6h P m ts=some τs→(∀(j:Nat) t v,ts[j]? =some t→vs[j]? =some v→Value.okWide P w r b t v)→
  DataW.TrodAll enc P w 0 (fun _=>true) true ts vs ds ps→∃vz,Z2X τs vz∧ZA (tE w) vz vs
 | [],τs,vs,ds,ps,ha,_,h=>by
  cases ha
  obtain ⟨rfl,_,_⟩:=trodAll_nil h
  exact ⟨[],.nil,.nil⟩
 | t::ts,τs,vs,ds,ps,ha,hv,h=>by
  obtain ⟨a,h1,h2⟩:=Option.bind_eq_some_iff.1 ha
  obtain ⟨c,h3,h4⟩:=Option.bind_eq_some_iff.1 h2
  cases h4
  obtain ⟨v,vs',d,ds',p,q,rfl,rfl,rfl,k1,k2⟩:=trodAll_cons h
  obtain ⟨x,f1,f2⟩:=Zak h1 rfl (hv 0 t v rfl rfl) k1
  obtain ⟨vz,g1,g2⟩:=Z2Y h3 (fun j t' v' e1 e2=>hv (j+1) t' v' e1 e2) k2
  exact ⟨x::vz,.cons _ _ _ _ _ f1 g1,.cons _ _ _ _ f2 g2⟩
theorem Z0m {sp:Nat→Bool} {held:Bool}:∀{ts:List TypeId} {vs:List Value} {ds:List (DataW H)} {ps:List MemPlace},DataW.TrodAll enc P w 0 sp held ts vs ds ps→ds.length=ts.length
 | [],_,_,_,h=>by obtain ⟨_,rfl,_⟩:=trodAll_nil h;rfl
 | t::ts,_,_,_,h=>by
  obtain ⟨v,vs',d,ds',p,q,rfl,rfl,rfl,k1,k2⟩:=trodAll_cons h
  simp [Z0m k2]
theorem Z2Z {W':World} (laid:laidOutB P=true) (hb:Below w.heap.size w W'):∀{ts:List TypeId} {vs:List Value} {ds:List (DataW H)} {ps:List MemPlace},ts.all (fun t=>P.readableRec t&&decide (t<P.types.size))=true→
  DataW.TrodAll enc P w 0 (fun _=>true) true ts vs ds ps→DataW.TrodAll enc P W' 0 (fun b=>decide (b<w.heap.size)) true ts vs ds ps
 | [],_,_,_,_,h=>by obtain ⟨rfl,rfl,rfl⟩:=trodAll_nil h;exact trodAll_mk0
 | t::ts,_,_,_,hr,h=>by
  obtain ⟨v,vs',d,ds',p,q,rfl,rfl,rfl,k1,k2⟩:=trodAll_cons h
  simp only [List.all_cons,Bool.and_eq_true,decide_eq_true_eq] at hr
  have lt:∀x∈p,x.block<w.heap.size:=by obtain ⟨m,hm⟩:=k1;exact DataW.trod_lt m _ _ _ hm
  exact trodAll_cons_mk (Below.trod laid hr.1.1 hr.1.2 k1 hb lt) (Z2Z laid hb hr.2 k2)
end
theorem lifted_gen {H:Type} {enc:TypeId×Value→H} {C:Checked} {os:Os} {f:FuncId} {fn:Func} {s:ChangeSpec} {conds:List PathCond} {tb:TypeId} {m:Nat} {τs:List (Bool×List Ty)}
  (own:ownKnob C.prog.godebug=none) (laid:laidOutB C.prog=true) (started:os.Started) (noInit:C.prog.inits.idxOf? f=none) (hfn:C.prog.funcs[f]? =some fn)
  (witness:∃(w:World) (tape:Tape) (i:Input),w.os=os∧(w.forCall tape i).Shaped C.prog∧i.vars=[]∧Input.okWide C.prog (w.forCall tape i) .any w.heap.size f i∧
   s.pre6 enc C.prog fn conds false (w.forCall tape i).memory i.args∧({}:Assume).holds C.prog (lone (Frame.enter C.prog f i.args .normal) [] (w.forCall tape i)))
  (hvars:s.vars=[]) (hr:fn.resultTypes= #[tb]) (hb:C.prog.underlying tb=some .bool) (hread:fn.params.toList.all (fun t=>C.prog.readableRec t&&decide (t<C.prog.types.size))=true) (hτ:Z6h C.prog m fn.params.toList=some τs)
  (hs:∀ds:List (DataW H),ds.length=fn.params.toList.length→s.fn H ds={ results:=[.lit (.bool true)],args:=ds})
  (walk:∀vz,Z2X τs vz→Zg C.prog f vz ⟨0,[]⟩ fun o h'=>∃v,o=.ret v∧h'=⟨0,[]⟩∧v=.bool true):
  ReturnsInHanded {} C os f .any (s.pre6 enc C.prog fn conds false) (s.post enc C.prog fn false true false false):=by
 refine returnsInHanded_of_change own started noInit hfn witness ?_
 intro W base args ds gs before hval hW _ _
 have hW':=hW
 obtain ⟨p,q,hA,hV,rfl,hfz,hnd⟩:=hW
 have hV0:=hV
 rw [hvars] at hV
 obtain ⟨rfl,rfl⟩:=trodVars_none hV
 obtain ⟨vz,f1,f2⟩:=Z2Y hτ (fun j t v e1 e2=>hval j t v (by simpa using e1) (by simpa using e2)) hA
 have e0:args=args.toList.toArray:=by simp
 have key:=(walk vz f1).topT f2
 rw [←e0] at key
 refine key.mono fun e W' ⟨he,bel⟩=> ?_
 subst he
 have hfn':=hs ds (Z0m hA)
 refine ⟨_,rfl,ds,[],_,[],p,[],hW', ?_, ?_, ?_,bel.frame _,fun h=>by cases h⟩
 ·rw [List.append_nil,hfn',hr]
  exact trodAll_mk1 (shut_bool hb _)
 ·rw [List.append_nil,hfn']
  exact Z2Z laid bel hread hA
 ·rw [List.append_nil,hfn',hvars]
  rfl
end Go.Tk
end
section
namespace Go.Tk
open IntKind (i64 u8 u32 u64 wrap)
theorem Yi.join {P:Program} {k:Nat} {ro:Option Nat} {c:Code} {s:St} {X Y:KE} (h:Yi P k ro c s Y) (hxy:∀e s',Y e s'→∃s₂,e=.normal∧VL k s' s₂∧X .normal s₂):Yi P k ro c s X:=by
 intro E0 h0 w0 E a w n hk hs hev
 refine wpIn_mono (h E0 h0 w0 E a w n hk hs hev) ?_
 rintro e a' w' ⟨E',x,s',hx,hev',hs',he⟩
 obtain ⟨s₂,rfl,hw,hX⟩:=hxy x s' hx
 obtain ⟨E₂,hs₂,hev₂⟩:=hw E0 h0 w0 E' a' w' hk hs' hev'
 cases he
 exact ⟨E₂,_,s₂,hX,hev₂,hs₂,.normal⟩
def Z3R (P:Program) (f:FuncId) (id:Nat):Bool:=match P.funcs[f]? with
 | some fn=>match fn.body with
  | some b=>match Vf id (Zx b) with|[_]=>true|_=>false
  | none=>false
 | none=>false
theorem Z8q {P:Program} {f:FuncId} {id:Nat} (h:Z3R P f id=true) {fn:Func} {body c:Code} (hf:P.funcs[f]? =some fn) (hb:fn.body=some body) (hm:(id,c)∈Zx body):c=Wu P f id:=by
 have hc:=Wt hm
 simp only [Z3R,hf,hb] at h
 split at h
 ·rename_i d hd
  have hbo:UP P f=body:=by simp [UP,hf,hb]
  have hbl:Wu P f id=d:=by unfold Wu;rw [hbo,hd]
  rw [hd] at hc
  rw [List.mem_singleton] at hc
  rw [hbl];exact hc
 ·cases h
@[irreducible] def Z7c (G:Ze) (n:Nat) (f:FuncId) (id:Nat) (k:Nat) (s:St) (X:KE):Prop:=evC G (Z2c G n f none) k (Wu G.P f id) s X
def jnM (k:Nat) (S1:St):KE:=fun e s=>match e with
 | .normal=>Uw k S1 s True
 | _=>False
end Go.Tk
end
section
namespace Go.Tk
open IntKind (i64 u8 u32 u64 wrap)
def Qt:Nat→List Int→Nat→Int→Int
 | 0,_,_,n=>n
 | m+1,xs,k,n=>Qt m xs (k+1) (256*n+xs.getD k 0)
structure Bytes (xs:List Int):Prop where
 h:∀i:Nat,0≤xs.getD i 0∧xs.getD i 0≤255
theorem Bytes.drop {xs:List Int} (h:Bytes xs) (n:Nat):Bytes (xs.drop n):=⟨fun i=>by
 have:=h.h (n+i)
 rw [List.getD_eq_getElem?_getD] at this
 rw [List.getD_eq_getElem?_getD,List.getElem?_drop]
 exact this⟩
def inZ:InS:=⟨Z5,0,0,Z5,Z5,Z5⟩
def Zhb:ZM:=⟨0,0,Z5,Z5,Z5,Z5,0,0⟩
end Go.Tk
end
section
namespace Go.Tk
open IntKind (i64 u8 u32 u64 wrap)
theorem Bytes.getD {xs:List Int} (h:Bytes xs) (i:Nat):0≤xs.getD i 0∧xs.getD i 0<256:=by
 have:=h.h i
 omega
def Ze7 (R:ZM→Bool):ZZ:=fun args _ K=>match args with
 | [.agg [.int .i64 kd,.int .i64 am,.arr .u8 32 ow,.arr .u8 32 ot,.arr .u8 32 po,.arr .u8 32 ha,.int .i64 de,.int .i64 ex]]=>Zo (ow.length=32∧ot.length=32∧po.length=32∧ha.length=32) ((Bytes ow∧Bytes ot)∧K (.bool (R ⟨kd,am,ow,ot,po,ha,de,ex⟩)))
 | _=>False
noncomputable def E35:Ze:=(G0.withP 263 (inS Ya)).withP 264 (Ze7 Yb)
end Go.Tk
end
section
namespace Go.Tk
open IntKind (i64 u8 u32 u64 wrap)
def Ze8 {ι:Type} (S:ι→Nat→St→KE→Prop):Nat→St→KE→Prop:=fun k s X=>∃i,S i k s X
theorem Ze.withL_ex {ι:Type} {G:Ze} (hG:G.Ok) {f:FuncId} {id:Nat} {S:ι→Nat→St→KE→Prop} (h1:∀i,(G.withL f id (S i)).Ok):(G.withL f id (Ze8 S)).Ok where
 draw:=hG.draw
 psumm:=hG.psumm
 fsumm:=hG.fsumm
 lsumm:=fun f' id' S' fn c body hS hf hb hm k s X hs=>by
  have hS0:=hS
  simp only [Ze.withL] at hS
  split at hS
  ·rename_i hq
   cases hS
   obtain ⟨i,hs⟩:=hs
   have a1:=(h1 i).lsumm f' id' (S i) fn c body
   simp only [Ze.withL,hq] at a1
   exact a1 trivial hf hb hm k s X hs
  ·exact hG.lsumm f' id' S' fn c body hS hf hb hm k s X hs
def rgH (t:TxS):Z7:=⟨1,[(0,.flat t.c)]⟩
def rgP:AV:=.ptr (some ⟨0,0,0,0,0⟩)
def Ze9 (t:TxS) (i:Nat):St:=⟨106,[(3,.int .i64 i),(1,rgP)],rgH t,[]⟩
def Zhc (t:TxS) (i k:Nat):St:=⟨106,[(4,.int .i64 k),(3,.int .i64 i),(1,rgP)],rgH t,[]⟩
def rgR (t:TxS):St:=⟨106,[(2,.bool false),(1,rgP)],rgH t,[]⟩
def Zhd (t:TxS):St:=⟨106,[(1,rgP)],rgH t,[]⟩
noncomputable def Zhe (t:TxS):Ze:=E35.withL 203 2 (Ze8 fun i:Nat=>goM 0 (Zhc t i 0) (i<t.N∧t.N≤24∧t.Ok) (WX 2 i 9 (fun k=>sameAt t.ins (t.ins i) k=false) (fun k=>k=i) (fun k=>k<i∧sameAt t.ins (t.ins i) k=true) (fun _=>False) (fun _=>Ze9 t i) (fun _=>rgR t) (fun _=>rgR t)))
def okI (t:TxS) (i:Nat):Bool:=Ya (t.ins i)&& !((List.range i).any (sameAt t.ins (t.ins i)))
theorem ZhT (t:TxS) (i:Nat) (Z1 Z2 Z3:Prop) (hi:i≤t.N) (hN:t.N≤24) (ht:t.Ok) (h1:i<t.N→okI t i=true→Z1) (h2:i=t.N→Z2) (h3:i<t.N→okI t i=false→Z3):
  Yf (Zhe t) 20 203 0 0 (Ze9 t i) (rdM 0 0 9 (Ze9 t (i+1)) (Zhd t) (rgR t) (rgR t) Z1 Z2 Z3 False):=by
 refine @Eq.mpr _ (let q1:=t.N;
 let q2:=t.ins (Int.toNat (↑i:Int));
 let q3:=q2.name;
 let q4:=q2.tag;
 let q5:=q2.also;
 let q6:=q2.secret;
 let q7:=decide (t.num=t.num);
 let q8:=decide (q1=q1);
 let q9:=t.ins;
 let q10:=Zf q9;
 let q11:=q10=q10;
 let q12:=decide (t.M=t.M);
 let q13:=Zi t.outs;
 let q14:=q13=q13;
 let q15:=Z0 q7 (Z0 q8 (q11∧Z0 q8 (Z0 q12 (q14∧Z0 q12 Z3 False) False) False) False) False;
 Z0 (decide ((↑i:Int)<(↑q1:Int))) (Z0 (decide (0≤(↑i:Int)∧(↑i:Int)<(↑q1:Int))) (Z0 (decide (List.length q3=32∧List.length q4=32∧List.length q5=32∧List.length q6=32)) (Z0 (!Ya (InS.mk q3 q2.index q2.way q4 q5 q6)) q15 (∃(i_1:Nat),Z0 (decide ((↑i:Int)=(↑i_1:Int))) (Z0 q7 (Z0 q8 (q11∧Z0 q8 (Z0 q12 (q14∧Z0 q12 ((i_1<q1∧q1≤24∧TxS.Ok t)∧∀(i_2:Nat),i_2≤i_1→(∀(j:Nat),j<i_2→(fun (k:Nat)=>sameAt q9 (q9 i_1) k=false) j)→(i_2=i_1→Z0 (decide (wrap i64 ((↑i_1:Int)+1)=(↑(i+1):Int))) (Z0 q7 (Z0 q8 (q11∧Z0 q8 (Z0 q12 (q14∧Z0 q12 Z1 False) False) False) False) False) False)∧(i_2<i_1∧sameAt q9 (q9 i_1) i_2=true→q15)∧(False→Z0 q7 (Z0 q8 (q11∧Z0 q8 (Z0 q12 (q14∧Z0 q12 False False) False) False) False) False)) False) False) False) False) False) False)) False) False)
 (Z0 q7 (Z0 q8 (q11∧Z0 q8 (Z0 q12 (q14∧Z0 q12 Z2 False) False) False) False) False)) (by kernel_rfl) ?_
 conv=>zeta
 try simp only [Zc]
 try simp only [Zj]
 try simp only [Zd]
 try simp only [Zk]
 try simp only [Zl]
 try simp only [Zb]
 try simp only [Int.toNat_natCast,Nat.zero_add,true_and,and_true,Nat.le_refl]
 unfold okI at h1 h3
 refine ⟨fun hlt=> ?_,fun hge=>h2 (by omega)⟩
 have hlt:i<t.N:=by omega
 obtain ⟨e1,e2,e3,e4⟩:=ht.ins i hlt
 have h1:=h1 hlt
 have h3:=h3 hlt
 refine ⟨by omega,⟨e1,e2,e3,e4⟩,fun q=>h3 ?_,fun q=>⟨i,rfl,⟨hlt,hN,ht⟩,fun m hm hgo=>⟨fun hq=>⟨w64 (by omega),h1 ?_⟩,fun hq=>h3 ?_,fun h=>h⟩⟩⟩
 ·have q:Ya (t.ins i)=false:=by simpa using q
  rw [q,Bool.false_and]
 ·subst hq
  have q:Ya (t.ins m)=true:=by simpa using q
  rw [q,Bool.true_and]
  simp only [Bool.not_eq_true',List.any_eq_false,List.mem_range]
  intro j hj
  rw [hgo j hj]
  decide
 ·have:(List.range i).any (sameAt t.ins (t.ins i))=true:=by
   rw [List.any_eq_true]
   exact ⟨m,by simpa using hq.1,hq.2⟩
  rw [this,Bool.not_true,Bool.and_false]
def Zea (t:TxS) (i:Nat):Int:=(amL t.outs i).sum
structure TxB (t:TxS):Prop where
 h:∀i,i<t.M→Bytes (t.outs i).owner∧Bytes (t.outs i).other
def Z6i (t:TxS):Bool:=decide (0≤t.num∧t.num≤2147483647)&&decide (1≤t.N∧t.N≤24)&&decide (1≤t.M∧t.M≤24)&&(List.range t.N).all (okI t)&&(List.range t.M).all (fun i=>Yb (t.outs i))&&decide (Zea t t.M≤1125899906842624)
theorem Q0 {g:Nat→InS} {x:InS} {j:Nat}:sameAt g x j=true↔(g j).name=x.name∧(g j).index=x.index:=by
 unfold sameAt Uv;simp
theorem Z1W {N:Nat} {g:Nat→InS} {i:Nat} (hi:i<N):VR N g (g i)=true↔∃j,j<N∧j≠i∧sameAt g (g i) j=true:=by
 have hself:sameAt g (g i) i=true:=Q0.2 ⟨rfl,rfl⟩
 unfold VR
 rcases Wv (sameAt g (g i)) N with ⟨_,hn⟩|⟨f,hf,ef,pf,hb⟩
 ·rw [hn i hi] at hself;cases hself
 rcases Wv (sameAt (UX N g) (g i)) N with ⟨_,hn⟩|⟨l,hl,el,pl,hb'⟩
 ·have:=hn (N-1-i) (by omega)
  have e:sameAt (UX N g) (g i) (N-1-i)=sameAt g (g i) i:=by unfold sameAt UX;congr 1;congr 1;omega
  rw [e,hself] at this;cases this
 have er:∀q,q<N→sameAt (UX N g) (g i) q=sameAt g (g i) (N-1-q):=fun q _=>rfl
 rw [er l hl] at pl
 rw [ef,el,bne_iff_ne]
 have hfi:f≤i:=by
  rcases Nat.lt_or_ge i f with h|h
  ·rw [hb i h] at hself;cases hself
  ·exact h
 have hli:i≤N-1-l:=by
  rcases Nat.lt_or_ge (N-1-i) l with h|h
  ·have:=hb' _ h
   rw [er _ (by omega),show N-1-(N-1-i)=i by omega,hself] at this;cases this
  ·omega
 constructor
 ·intro h
  rcases Nat.lt_or_ge f i with h1|h1
  ·exact ⟨f,hf,by omega,pf⟩
  ·exact ⟨N-1-l,by omega,by omega,pl⟩
 ·rintro ⟨j,hj,hne,pj⟩ h
  rcases Nat.lt_or_ge j f with h1|h1
  ·rw [hb j h1] at pj;cases pj
  ·have:=hb' (N-1-j) (by omega)
   rw [er _ (by omega),show N-1-(N-1-j)=j by omega,pj] at this;cases this
theorem Z30 {t:TxS} (h:∀j,j<t.M→Yb (t.outs j)=true):allIn 1125899906842624 (amL t.outs t.M)=true:=by
 unfold allIn
 rw [Bool.not_eq_true',List.any_eq_false]
 intro j hj
 have hj:j<t.M:=by simpa [Qp] using hj
 have:=(VS (h j hj)).2.1
 have e:(amL t.outs t.M).getD j 0=(t.outs j).amount:=by simp [amL,List.getD_eq_getElem?_getD,hj]
 unfold Yk
 rw [e]
 unfold Vk
 simp
 omega
theorem Z8r (t:TxS):Z6i t=Yt ZS t:=by
 rw [Bool.eq_iff_iff]
 unfold Z6i Yt
 simp only [Bool.and_eq_true,decide_eq_true_eq,List.all_eq_true,List.mem_range,Bool.not_eq_true',List.any_eq_false,beq_iff_eq]
 constructor
 ·rintro ⟨⟨⟨⟨⟨h1,h2⟩,h3⟩,h4⟩,h5⟩,h6⟩
  refine ⟨⟨⟨⟨⟨h1,h2⟩,h3⟩,fun i hi=> ?_⟩,fun i hi=> ?_⟩, ?_⟩
  ·have h:=h4 i hi
   unfold okI at h
   simp only [Bool.and_eq_true,Bool.not_eq_true',List.any_eq_false,List.mem_range] at h
   unfold YJ Vh
   rw [h.1,Bool.not_true,Bool.false_or]
   intro hq
   obtain ⟨j,hj,hne,hs⟩:=(Z1W hi).1 hq
   rcases Nat.lt_or_gt_of_ne hne with h0|h0
   ·exact h.2 j h0 hs
   ·have h':=h4 j hj
    unfold okI at h'
    simp only [Bool.and_eq_true,Bool.not_eq_true',List.any_eq_false,List.mem_range] at h'
    refine h'.2 i h0 ?_
    rw [Q0] at hs⊢
    exact ⟨hs.1.symm,hs.2.symm⟩
  ·unfold Yj UY
   rw [h5 i hi]
   decide
  ·unfold ZS
   unfold Zea at h6;rw [if_pos (Z30 h5),if_pos h6]
 ·rintro ⟨⟨⟨⟨⟨h1,h2⟩,h3⟩,h4⟩,h5⟩,h6⟩
  have h5':∀j,j<t.M→Yb (t.outs j)=true:=fun j hj=>by
   have:=h5 j hj
   unfold Yj UY at this
   simpa using this
  refine ⟨⟨⟨⟨⟨h1,h2⟩,h3⟩,fun i hi=> ?_⟩,h5'⟩, ?_⟩
  ·have h:=h4 i hi
   unfold YJ Vh at h
   simp only [Bool.or_eq_true,not_or,Bool.not_eq_true',Bool.not_eq_false,Bool.not_eq_true] at h
   unfold okI
   rw [h.1,Bool.true_and]
   simp only [Bool.not_eq_true',List.any_eq_false,List.mem_range]
   intro j hj hs
   have:=(Z1W hi).2 ⟨j,by omega,by omega,hs⟩
   rw [h.2] at this;cases this
  ·unfold ZS at h6
   rw [if_pos (Z30 h5')] at h6
   split at h6
   ·assumption
   ·cases h6
end Go.Tk
end
section
namespace Go.Tk
open IntKind (i64 u8 u32 u64 wrap)
end Go.Tk
end
section
namespace Go.Tk
open IntKind (i64 u8 u32 u64 wrap)
end Go.Tk
end
section
namespace Go.Tk
open IntKind (i64 u8 u32 u64 wrap)
theorem Zal {n:Nat} {xs:List Int} (h:xs.length=n) (hw:∀i,i<n→(Lit.int .u8 (xs.getD i 0)).wf=true):Bytes xs:=⟨fun i=>by
 by_cases hi:i<n
 ·have:=hw i hi
  simp [Lit.wf] at this
  have m1:u8.min=0:=rfl
  have m2:u8.max=255:=rfl
  simp
  omega
 ·rw [List.getD_eq_getElem?_getD,List.getElem?_eq_none (by omega)];simp⟩
structure InS.By (x:InS):Prop where
 name:Bytes x.name
 tag:Bytes x.tag
 also:Bytes x.also
 secret:Bytes x.secret
structure ZM.By (x:ZM):Prop where
 owner:Bytes x.owner
 other:Bytes x.other
 point:Bytes x.point
 hash:Bytes x.hash
structure Zdb (t:TxS):Prop where
 ins:∀i,i<t.N→(t.ins i).By
 outs:∀i,i<t.M→(t.outs i).By
theorem Zdb.b {t:TxS} (h:Zdb t):TxB t:=⟨fun i hi=>⟨(h.outs i hi).owner,(h.outs i hi).other⟩⟩
theorem pick {α:Type} [Inhabited α] {n:Nat} {p:Nat→α→Prop} (h:∀i,i<n→∃a,p i a):∃f:Nat→α,∀i,i<n→p i (f i):=
 ⟨fun i=>if hi:i<n then Classical.choose (h i hi) else default,fun i hi=>by
  simp only [hi,dite_true]
  exact Classical.choose_spec (h i hi)⟩
instance:Inhabited InS:=⟨inZ⟩
instance:Inhabited ZM:=⟨Zhb⟩
theorem ZfT (x:Int):0≤u8.wrap x∧u8.wrap x≤255:=by
 unfold wrap
 simp [IntKind.bits,IntKind.signed]
 omega
end Go.Tk
end
section
namespace Go.Tk
open IntKind (i64 u8 u32 u64 wrap)
end Go.Tk
end
section
namespace Go.Tk
open IntKind (i64 u8 u32 u64 wrap)
end Go.Tk
end
section
namespace Go.Tk
open IntKind (i64 u8 u32 u64 wrap)
def rg3 (a b n:Int) (w:Int):Int:=XG .u32 (XG .u32 (Zds w (32-a)) (Zds w (32-b))) (ZC .u32 w n)
def Z8s (bl:List Int) (t:Nat):Int:=u32.wrap (u32.wrap (u32.wrap (ZK .u32 (u32.wrap (bl.getD (4*t) 0)) 24+ZK .u32 (u32.wrap (bl.getD (4*t+1) 0)) 16)+ZK .u32 (u32.wrap (bl.getD (4*t+2) 0)) 8)+u32.wrap (bl.getD (4*t+3) 0))
def Zeb (m:List Int) (t:Nat):Int:=u32.wrap (u32.wrap (u32.wrap (rg3 17 19 10 (m.getD (t-2) 0)+m.getD (t-7) 0)+rg3 7 18 3 (m.getD (t-15) 0))+m.getD (t-16) 0)
def Qu (bl:List Int):Nat→List Int
 | 0=>List.replicate 64 0
 | t+1=>(Qu bl t).set t (if t<16 then Z8s bl t else Zeb (Qu bl t) t)
theorem Z51 (bl:List Int):∀t,(Qu bl t).length=64
 | 0=>rfl
 | t+1=>by simp [Qu,Z51 bl t]
attribute [irreducible] Qu
end Go.Tk
end
section
namespace Go.Tk
open IntKind (i64 u8 u32 u64 wrap)
end Go.Tk
end
section
namespace Go.Tk
open IntKind (i64 u8 u32 u64 wrap)
end Go.Tk
end
section
namespace Go.Tk
open IntKind (i64 u8 u32 u64 wrap)
end Go.Tk
end
