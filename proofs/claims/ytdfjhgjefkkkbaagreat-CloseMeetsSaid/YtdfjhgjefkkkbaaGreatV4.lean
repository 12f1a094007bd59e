/- V: part 4 of an engine (a symbolic evaluator, proved against the model) and of the walk by it. -/
import Derived.Test.YtdfjhgjefkkkbaaGreatV3
set_option linter.unusedVariables false
set_option linter.unusedSimpArgs false
set_option maxRecDepth 100000
set_option maxHeartbeats 0
section
namespace Go.Tk
open IntKind (i64 u8 u32 u64 wrap)
variable {E':Env} {σ:List Nat} {B:Blk} {args:List AV} {K0:List Blk->List AV->Prop} {τ:Ren} {v:AV}
noncomputable def G9 (W:Zr->LI->Zr) (F:Zr->LI) (r0:Zr) (B:Int) (H1:LI->LI) (H2:LI->LI->LI) (N:Nat):Zf:=(G7 W F B r0).withP 190 (Zbw H1 H2 N)
theorem Zdg (B:Int) (hB:B<1000000000000) (N:Nat) (hN:N<100000000000):(G9 Zr.write Zr.fin Yd B Xb Z02 N).Ok:=Zf.withP_ok (Z9O B hB) (Z42 N hN)
def Z6k:LI:=[112,111,105,110,116]
@[irreducible] def Wp (sec:LI):LI:=(((Yd.write (Xb Z6k)).write (Xb Z6k)).write sec).fin
theorem Z6l (s:LI):(Wp s).length=32:=by unfold Wp;exact Z0V _
theorem ZdT (W:Zr->LI->Zr) (F:Zr->LI) (r0:Zr) (B:Int) (H1:LI->LI) (H2:LI->LI->LI) (N:Nat) (sec hh:LI) (hB:B=900000000000) (hN:5<=N) (hr0:r0=Yd) (hW:W=Zr.write) (hF:F=Zr.fin) (hH:H1=Xb) (hs:sec.length=32) (hh':hh=Wp sec):
  evF (G9 W F r0 B H1 H2 N) 20 100 [.agg [.arr .u8 32 sec]] ⟨0,[]⟩ (Yr 0 [] (.agg [.arr .u8 32 hh]) 0 []):=by
 refine @Eq.mpr _ (let j:=H1 [(112:Int),111,105,110,116];let c:=j.length;let o:=decide (c=32);let n:=decide (32=c);let b:=r0.came;let m:=↑c;let a:=W (Zr.mk r0.st r0.part b) j;let l:=a.st;let k:=a.part;let i:=a.came;let h:=sec.length;let g:=W (Zr.mk l k i) j;let s:=g.st;let r:=g.part;let f:=g.came;let e:=W (Zr.mk s r f) sec;let q:=e.st;let p:=e.part;let d:=e.came;
 Z7 (decide (5<=N)) (Z7 o (Z7 n (Z7 (decide (r0.st.length=8/\r0.part.length=64/\0<=b/\b+m<=B)) (Z7 o (Z7 n (Z7 (decide (l.length=8/\k.length=64/\0<=i/\i+m<=B)) (Z7 (decide (h=32)) (Z7 (decide (32=h)) (Z7 (decide (s.length=8/\r.length=64/\0<=f/\f+ ↑h<=B)) (Z7 (decide (q.length=8/\p.length=64/\0<=d/\d<=B)) (F (Zr.mk q p d)=hh/\True) False) False) False) False) False) False) False) False) False) False) False) (by kernel_rfl) ?_
 conv=>zeta
 subst hW hF hB hr0 hH
 have hT:=Qw [(112:Int),111,105,110,116]
 have ok1:=Xo Yd (Xb [112,111,105,110,116]) XK
 have c1:(Yd.write (Xb [112,111,105,110,116])).came=0+(Xb [112,111,105,110,116]).length:=YP _ _ XK
 have ok2:=Xo _ (Xb [112,111,105,110,116]) ok1
 have c2:=YP _ (Xb [112,111,105,110,116]) ok1
 have ok3:=Xo _ sec ok2
 have c3:=YP _ sec ok2
 rw [hT] at c1 c2
 rw [hs] at c3
 have hh2:(((Yd.write (Xb [112,111,105,110,116])).write (Xb [112,111,105,110,116])).write sec).fin=hh:=by rw [hh'];unfold Wp Z6k;rfl
 refine nd hN (nd hT (nd hT.symm (nd ⟨rfl,rfl,by decide, ?_⟩ (nd hT (nd hT.symm (nd ⟨ok1.st,ok1.part,ok1.came, ?_⟩ (nd hs (nd hs.symm (nd ⟨ok2.st,ok2.part,ok2.came, ?_⟩ (nd ⟨ok3.st,ok3.part,ok3.came, ?_⟩ ⟨hh2,trivial⟩))))))))))
 ·rw [hT];decide
 ·rw [hT];exact Int.le_trans (Int.le_of_eq (congrArg (· +(32:Int)) c1)) (by decide)
 ·rw [hs]
  have:((Yd.write (Xb [112,111,105,110,116])).write (Xb [112,111,105,110,116])).came+32<=900000000000:=by omega
  exact this
 ·have:(((Yd.write (Xb [112,111,105,110,116])).write (Xb [112,111,105,110,116])).write sec).came<=900000000000:=by omega
  exact this
def Z6m (H:LI->LI):ZJ:=fun args _ K=>match args with
 | [.agg [.arr .u8 32 s]]=>Z6 (s.length=32) (K (.agg [.arr .u8 32 (H s)]))
 | _=>False
theorem Z9V (args:List AV) (h:Z9) (K:AV->Prop) (hl:Z6m Wp args h K):Zh PP 100 args h fun o h'=>∃v,o=.ret v/\h'=h/\K v:=by
 unfold Z6m at hl
 split at hl
 ·rename_i s
  obtain ⟨hs,hK⟩:=Zb hl
  refine (Zx.ev (Zdg 900000000000 (by decide) 5 (by decide)) (ZdT _ _ _ _ _ _ 5 s _ rfl (by decide) rfl rfl rfl rfl hs rfl)).calls (v':=.agg [.arr .u8 32 (Wp s)]) (fun E w rs he hr=> ?_) rfl trivial ⟨_,rfl,rfl,hK⟩
  cases hr with
  | cons v r1 vs rs1 h1 hr=>
   cases hr
   exact .cons _ _ _ _ h1.hash .nil
 ·exact hl.elim
def Z59 (c:Int) (b:LI) (i:Int):St:=⟨16,[(1,.pview [.int .u8 c] 0),(2,pt 0),(3,.nilslice),(5,.int .i64 i)],⟨1,[(0,.flat [.arr .u8 64 b])]⟩,[]⟩
def Z2Z (c:Int) (b:LI) (i:Nat):LI:=b.set (0+i) (XH .u8 (b.getD (0+i) 0) c)
theorem Zfm (c:Int) (b:LI) (i:Nat) (Z Z2:Prop) (hi:i<=64) (hb:b.length=64) (hZ:i=64->Z) (hZ2:i<64->Z2):
  ZW G0 20 292 0 0 (Z59 c b i) (fun e s=>match e with|.normal=>ZK 0 [(0,0)] (Z59 c (Z2Z c b i) (i+1)) s Z2|.exit 0=>ZK 0 [(0,0)] (Z59 c b i) s Z|_=>False):=by
 refine @Eq.mpr _ (let g:=decide (0<=(↑i:Int)/\(↑i:Int)<64);let a:=0+Int.toNat (↑i:Int);let f:=[AV.int u8 c];let e:=f=f;let d:=(↑i:Int)+1;
 Z7 (decide ((↑i:Int)<64)) (Z7 g (Z7 (decide (a<64)) (Z7 g (Z7 (decide (u8=u8/\a<64/\a<b.length)) (e/\Z7 (decide (wrap i64 d=d)) (List.set b a (XH u8 (List.getD b a 0) c)=Z2Z c b i/\Z2) False) False) False) False) False) (e/\Z7 (decide ((↑i:Int)=(↑i:Int))) (b=b/\Z) False)) (by kernel_rfl) ?_
 conv=>zeta
 have e1:i64.wrap ((i:Int)+1)=(i:Int)+1:=w64 (by omega)
 refine ifD (fun h=> ?_) (fun h=> ?_)
 ·refine nd (by omega) (nd (by omega) (nd (by omega) (nd ⟨rfl,by omega,by omega⟩ ⟨rfl,nd e1 ⟨?_,hZ2 (by omega)⟩⟩)))
  unfold Z2Z
  rw [Kb]
 ·exact ⟨rfl,nd rfl ⟨rfl,hZ (by omega)⟩⟩
def Z1X (c:Int) (b:LI):Nat->LI
 | 0=>b
 | i+1=>Z2Z c (Z1X c b i) i
theorem Z8n (c:Int) (b:LI):Z1X c b 0=b:=rfl
theorem Z30 (c:Int) (b:LI) (i:Nat):Z1X c b (i+1)=Z2Z c (Z1X c b i) i:=rfl
theorem Z1Y (c:Int) (b:LI):∀i,(Z1X c b i).length=b.length
 | 0=>rfl
 | i+1=>by rw [Z30];unfold Z2Z;rw [List.length_set];exact Z1Y c b i
@[irreducible] def Q3 (c:Int) (b:LI):LI:=Z1X c b 64
theorem Z5a (c:Int) (b:LI) (h:b.length=64):(Q3 c b).length=64:=by unfold Q3;rw [Z1Y,h]
attribute [irreducible] Z1X
def Zdh (c:Int) (b b':LI) (C:Prop):Nat->St->KE->Prop:=fun k s X=>match Nat.beq k 0 with
 | true=>ZK 0 [(0,0)] (Z59 c b 0) s (C/\X (.exit 0) (Z59 c b' 64))
 | false=>False
noncomputable def GX0 (c:Int) (b b':LI) (C:Prop):Zf:=G0.withL 292 0 (Zdh c b b' C)
theorem ZdU (c:Int) (b b':LI) (C:Prop) (hC:C->b.length=64/\b'=Q3 c b):(GX0 c b b' C).Ok:=by
 refine Zf.withL_ok Zu (by kernel_rfl) ?_
 intro k s X hl
 unfold Zdh at hl
 split at hl
 ·rename_i hk
  have:=J0 hk
  subst this
  obtain ⟨⟨hc,hX⟩,hw⟩:=ZT hl
  obtain ⟨hb,hb'⟩:=hC hc
  refine ⟨{ t:Nat//t<=64},fun t=>64-t.1,fun t=>Z59 c (Z1X c b t.1) t.1,⟨0,by omega⟩,20,by show UZ 0 s (Z59 c (Z1X c b 0) ((0:Nat):Int));rw [Z8n];exact hw, ?_⟩
  rintro ⟨t,ht⟩
  refine ⟨_,Zfm c (Z1X c b t) t (t=64) (t<64) ht (by rw [Z1Y];exact hb) id id, ?_⟩
  intro e s' hY
  split at hY
  ·obtain ⟨h64,hw'⟩:=ZT hY
   refine ⟨⟨t+1,by omega⟩,by show 64-(t+1)<64-t;omega, ?_⟩
   show UZ 0 s' (Z59 c (Z1X c b (t+1)) ((t+1:Nat):Int))
   rw [Z30]
   exact hw'
  ·obtain ⟨h64,hw'⟩:=ZT hY
   subst h64
   refine ⟨_,hw', ?_⟩
   rw [hb'] at hX
   unfold Q3 at hX
   exact hX
  ·exact hY.elim
 ·exact hl.elim
theorem Zhi (c:Int) (b b':LI) (C:Prop) (hC:C):
  evF (GX0 c b b' C) 20 292 [.agg [.arr .u8 64 b],.pview [.int .u8 c] 0] ⟨0,[]⟩ (Yr 0 [(0,0)] (.nslice ⟨0,0,0,0,0⟩ 1 64 64) 1 [(0,.flat [.arr .u8 64 b'])]):=by
 refine @Eq.mpr _ (let a:=[AV.int u8 c];
 a=a/\b=b/\C/\b'=b'/\True) (by kernel_rfl) ?_
 conv=>zeta
 exact ⟨rfl,rfl,hC,rfl,trivial⟩
def byF (X:Int->LI->LI):Yb:=fun args h K=>ZD none h true 20 args fun a=>match a with
 | [.agg [.arr .u8 64 b],.pview [.int .u8 c] 0]=>Z6 (b.length=64) (K (.ret (.nslice ⟨h.next+0,0,0,0,0⟩ 1 64 64)) ⟨h.next+1,(h.next+0,.flat [.arr .u8 64 (X c b)])::h.bs⟩)
 | _=>False
theorem ZdV (args:List AV) (h:Z9) (K:KO) (hl:byF Q3 args h K):Zh PP 292 args h K:=by
 obtain ⟨a₀,ha,hr⟩:=X2 (fun x hx=>by cases hx) _ _ _ _ hl
 split at ha
 ·rename_i b c
  obtain ⟨hb,hK⟩:=Zb ha
  exact (Zx.ev (ZdU c b (Q3 c b) True (fun _=>⟨hb,rfl⟩)) (Zhi c b _ True trivial)).calls (fun E w rs he hrr=>hr E w rs he hrr) rfl ⟨JV,.flat _ rfl,trivial⟩ hK
 ·exact ha.elim
def Z04 (key:LI):LI:=spl (List.replicate 64 0) 0 (List.take 64 (List.take 32 key))
theorem Z9W (key:LI):(Z04 key).length=64:=by
 unfold Z04
 rw [UO]
 ·rfl
 ·simp;omega
theorem Zhj (key l:LI) (hl:l=Z04 key) (hk:key.length=32):
  evF G0 20 273 [.vints .u8 key 32] ⟨0,[]⟩ (Yr 0 [] (.agg [.arr .u8 64 l]) 0 []):=by
 refine @Eq.mpr _ (spl [(0:Int),(0:Int),(0:Int),(0:Int),(0:Int),(0:Int),(0:Int),(0:Int),(0:Int),(0:Int),(0:Int),(0:Int),(0:Int),(0:Int),(0:Int),(0:Int),(0:Int),(0:Int),(0:Int),(0:Int),(0:Int),(0:Int),(0:Int),(0:Int),(0:Int),(0:Int),(0:Int),(0:Int),(0:Int),(0:Int),(0:Int),(0:Int),(0:Int),(0:Int),(0:Int),(0:Int),(0:Int),(0:Int),(0:Int),(0:Int),(0:Int),(0:Int),(0:Int),(0:Int),(0:Int),(0:Int),(0:Int),(0:Int),(0:Int),(0:Int),(0:Int),(0:Int),(0:Int),(0:Int),(0:Int),(0:Int),(0:Int),(0:Int),(0:Int),(0:Int),(0:Int),(0:Int),(0:Int),(0:Int)] (0:Nat) (List.take (64:Nat) (List.take (32:Nat) key))=l/\True) (by kernel_rfl) ?_
 exact ⟨hl▸rfl,trivial⟩
def ofS (KB:LI->LI):ZJ:=fun args h K=>ZD none h true 20 args fun a=>match a with
 | [.vints .u8 key len]=>match Nat.beq len 32 with
  | true=>Z6 (key.length=32) (K (.agg [.arr .u8 64 (KB key)]))
  | false=>False
 | _=>False
theorem ZdW (args:List AV) (h:Z9) (K:AV->Prop) (hl:ofS Z04 args h K):Zh PP 273 args h fun o h'=>∃v,o=.ret v/\h'=h/\K v:=by
 refine Z56 hl fun a ha=> ?_
 split at ha
 ·rename_i key len
  split at ha
  ·rename_i hb
   have:=J0 hb
   subst this
   obtain ⟨hk,hK⟩:=Zb ha
   exact ⟨_,Zx.ev Zu (Zhj key _ rfl hk),fun _=>rfl,hK⟩
  ·exact ha.elim
 ·exact ha.elim
noncomputable def G10 (W:Zr->LI->Zr) (F:Zr->LI) (r0:Zr) (B:Int) (H1:LI->LI) (H2:LI->LI->LI) (N:Nat) (X:Int->LI->LI) (KB:LI->LI):Zf:=((G9 W F r0 B H1 H2 N).withF 292 (byF X)).withP 273 (ofS KB)
theorem ZdX (B:Int) (hB:B<1000000000000) (N:Nat) (hN:N<100000000000):(G10 Zr.write Zr.fin Yd B Xb Z02 N Q3 Z04).Ok:=Zf.withP_ok (Zf.withF_ok (Zdg B hB N hN) ZdV) ZdW
@[irreducible] def WI (key msg:LI):LI:=Z02 (Q3 92 (Z04 key)) (((Yd.write (Q3 54 (Z04 key))).write msg).fin)
theorem Z31 (k m:LI):(WI k m).length=32:=by unfold WI;exact Z9P _ _
theorem Zfn (W:Zr->LI->Zr) (F:Zr->LI) (r0:Zr) (B:Int) (H1:LI->LI) (H2:LI->LI->LI) (N:Nat) (X:Int->LI->LI) (KB:LI->LI) (key msg hh:LI) (hB:B=900000000000) (hr0:r0=Yd) (hW:W=Zr.write) (hF:F=Zr.fin) (hH:H2=Z02) (hX:X=Q3) (hKB:KB=Z04) (hN:64<=N) (hk:key.length=32) (hm:msg.length=32) (hh':hh=WI key msg):
  evF (G10 W F r0 B H1 H2 N X KB) 20 167 [.vints .u8 key 32,.vrows 1 1 (fun _=>[.vints .u8 msg 32]) 1] ⟨0,[]⟩ (Yr 0 [] (.agg [.arr .u8 32 hh]) 0 []):=by
 refine @Eq.mpr _ (let n:=decide (List.length (KB key)=64);let e:=List.length (X 54 (KB key));let d:=r0.came;let c:=W (Zr.mk r0.st r0.part d) (X 54 (KB key));let k:=c.st;let j:=c.part;let b:=c.came;let a:=W (Zr.mk k j b) msg;let i:=a.st;let m:=a.part;let h:=a.came;let g:=List.length (X 92 (KB key));let l:=F (Zr.mk i m h);let f:=l.length;
 Z7 (decide (key.length=32)) (KB key=KB key/\Z7 n (Z7 (decide (e=64)) (Z7 (decide (64=e)) (Z7 (decide (r0.st.length=8/\r0.part.length=64/\0<=d/\d+ ↑e<=B)) (Z7 (decide (32=msg.length)) (Z7 (decide (k.length=8/\j.length=64/\0<=b/\b+ ↑(msg.length)<=B)) (Z7 (decide (i.length=8/\m.length=64/\0<=h/\h<=B)) (KB key=KB key/\Z7 n (Z7 (decide (g=64)) (Z7 (decide (f=32)) (Z7 (decide (64=g)) (Z7 (decide (32=f)) (Z7 (decide (g<=N/\f<=N)) (H2 (X 92 (KB key)) l=hh/\True) False) False) False) False) False) False) False) False) False) False) False) False) False) False) (by kernel_rfl) ?_
 conv=>zeta
 subst hB hr0 hW hF hH hX hKB
 have hkb:=Z9W key
 have x1:=Z5a 54 _ hkb
 have x2:=Z5a 92 _ hkb
 have i0:Yd.came=0:=rfl
 have ok1:=Xo Yd (Q3 54 (Z04 key)) XK
 have c1:=YP Yd (Q3 54 (Z04 key)) XK
 have ok2:=Xo _ msg ok1
 have c2:=YP _ msg ok1
 rw [x1] at c1
 rw [hm] at c2
 have hf:=Z0V ((Yd.write (Q3 54 (Z04 key))).write msg)
 have b1:(Yd.write (Q3 54 (Z04 key))).came+(msg.length:Int)<=900000000000:=by rw [hm];omega
 have b2:((Yd.write (Q3 54 (Z04 key))).write msg).came<=900000000000:=by omega
 refine nd hk ⟨rfl,nd hkb (nd x1 (nd x1.symm (nd ⟨rfl,rfl,by decide,by rw [x1];decide⟩ (nd hm.symm (nd ⟨ok1.st,ok1.part,ok1.came,b1⟩ (nd ⟨ok2.st,ok2.part,ok2.came,b2⟩ ⟨rfl,nd hkb (nd x2 (nd hf (nd x2.symm (nd hf.symm (nd ⟨by omega, ?_⟩ ⟨?_,trivial⟩)))))⟩))))))⟩
 ·exact Kd (Nat.le_of_eq hf) (by omega)
 ·rw [hh'];unfold WI;rfl
def ZdY (T:LI->LI->LI):ZJ:=fun args h K=>ZD none h true 20 args fun a=>match a with
 | [.vints .u8 key len,.vrows 1 n f m]=>match Nat.beq len 32&&Nat.beq n 1&&Nat.beq m 1 with
  | true=>Q2 (f 0) fun msg=>Z6 (key.length=32/\msg.length=32) (K (.agg [.arr .u8 32 (T key msg)]))
  | false=>False
 | _=>False
theorem Z7l (args:List AV) (h:Z9) (K:AV->Prop) (hl:ZdY WI args h K):Zh PP 167 args h fun o h'=>∃v,o=.ret v/\h'=h/\K v:=by
 obtain ⟨a₀,ha,hr⟩:=X2 (fun x hx=>by cases hx) _ _ _ _ hl
 split at ha
 ·rename_i key len n f m
  split at ha
  ·rename_i hb
   simp only [J3] at hb
   obtain ⟨⟨e1,e2⟩,e3⟩:=hb
   have e1:=J0 e1
   have e2:=J0 e2
   have e3:=J0 e3
   subst e1 e2 e3
   obtain ⟨msg,hf,hK⟩:=V4 ha
   obtain ⟨⟨hk,hm⟩,hK⟩:=Zb hK
   refine (Zx.ev (ZdX 900000000000 (by decide) 64 (by decide)) (Zfn _ _ _ _ _ _ 64 _ _ key msg _ rfl rfl rfl rfl rfl rfl rfl (by decide) hk hm rfl)).calls (v':=.agg [.arr .u8 32 (WI key msg)]) (fun E w rs he hrr=> ?_) rfl trivial ⟨_,rfl,rfl,hK⟩
   have:=hr E w rs he hrr
   cases this with
   | cons v c vs cs h1 h2=>cases h2 with
    | cons v2 c2 vs2 cs2 h3 h4=>
     cases h4
     refine .cons _ _ _ _ h1 (.cons _ _ _ _ (h3.rows (fun i hi=> ?_)) .nil)
     match i,hi with
     | 0,_=>rw [hf,hm]
  ·exact ha.elim
 ·exact ha.elim
structure InS where
 name:LI
 index:Int
 way:Int
 tag:LI
 also:LI
 secret:LI
structure Zp where
 kind:Int
 amount:Int
 owner:LI
 other:LI
 point:LI
 hash:LI
 delay:Int
 expiry:Int
def InS.c (x:InS):List AV:=[.arr .u8 32 x.name,.int .i64 x.index,.int .i64 x.way,.arr .u8 32 x.tag,.arr .u8 32 x.also,.arr .u8 32 x.secret]
def Zp.c (o:Zp):List AV:=[.int .i64 o.kind,.int .i64 o.amount,.arr .u8 32 o.owner,.arr .u8 32 o.other,.arr .u8 32 o.point,.arr .u8 32 o.hash,.int .i64 o.delay,.int .i64 o.expiry]
structure InS.Ok (x:InS):Prop where
 name:x.name.length=32
 tag:x.tag.length=32
 also:x.also.length=32
 secret:x.secret.length=32
structure Zp.Ok (o:Zp):Prop where
 owner:o.owner.length=32
 other:o.other.length=32
 point:o.point.length=32
 hash:o.hash.length=32
def Z0:LI:=List.replicate 32 0
theorem Z7m (b:Bool) (x y:Prop):Z7 b x y=((b=true->x)/\(b=false->y)):=by
 cases b<;>simp [Z7]
@[irreducible] def ZU (x:InS):Bool:=
 (decide (1<=x.way/\x.way<=6)&&(decide (x.way≠4)||x.tag==Z0)&&(decide (x.way=1)||x.also==Z0)&&(decide (x.way=4)||decide (x.way=5)||x.secret==Z0))&&decide (0<=x.index/\x.index<=23)
theorem Zbx (x:InS) (b:Bool) (hx:x.Ok) (hb:b=ZU x):
  evF G0 20 182 [.agg x.c] ⟨0,[]⟩ (Yr 0 [] (.bool b) 0 []):=by
 refine @Eq.mpr _ (let a:=x.way;let i:=x.name;let h:=decide (i.length=32/\i.length=32);let n:=decide (x.secret.length=32/\(32:Nat)=32);let g:=i==i;let f:=x.index;let e:=f==f;let d:=a==a;let m:=x.secret==Z0;let c:=Z7 (decide (false=b)) True False;let j:=Z7 (decide (0<=f)) (Z7 (decide (decide (f<=23)=b)) True False) c;let l:=decide (x.also.length=32/\(32:Nat)=32);let p:=x.also==Z0;let k:=Z7 h (Z7 l (Z7 n (Z7 (g&&(e&&(d&&(true&&(p&&m))))) j c) False) False) False;let o:=p&&true;
 Z7 (decide (a=a)) (Z7 (decide (a=1)) (Z7 h (Z7 n (Z7 (g&&(e&&(d&&(true&&(true&&m))))) j c) False) False) (Z7 (decide (a=2)) k (Z7 (decide (a=3)) k (Z7 (decide (a=4)) (Z7 h (Z7 (decide (x.tag.length=32/\(32:Nat)=32)) (Z7 l (Z7 (g&&(e&&(d&&(x.tag==Z0&&o)))) j c) False) False) False) (Z7 (decide (a=5)) (Z7 h (Z7 l (Z7 (g&&(e&&(d&&(true&&o)))) j c) False) False) (Z7 (decide (a=6)) k c)))))) False) (by kernel_rfl) ?_
 conv=>zeta
 obtain ⟨h1,h2,h3,h4⟩:=hx
 subst hb
 have hz:[(0:Int),0,0,0,0,0,0,0,0,0,0,0,0,0,0,0,0,0,0,0,0,0,0,0,0,0,0,0,0,0,0,0]=Z0:=rfl
 simp only [hz,Z7m]
 unfold ZU
 generalize (x.secret==Z0)=bs
 generalize (x.also==Z0)=ba
 generalize (x.tag==Z0)=bt
 by_cases w1:x.way=1
 ·cases bs<;>simp [w1,h1,h2,h3,h4]<;>omega
 by_cases w2:x.way=2
 ·cases bs<;>cases ba<;>simp [w2,h1,h2,h3,h4]<;>omega
 by_cases w3:x.way=3
 ·cases bs<;>cases ba<;>simp [w3,h1,h2,h3,h4]<;>omega
 by_cases w4:x.way=4
 ·cases bt<;>cases ba<;>simp [w4,h1,h2,h3,h4]<;>omega
 by_cases w5:x.way=5
 ·cases ba<;>simp [w5,h1,h2,h3,h4]<;>omega
 by_cases w6:x.way=6
 ·cases bs<;>cases ba<;>simp [w6,h1,h2,h3,h4]<;>omega
 simp [w1,w2,w3,w4,w5,w6]
 omega
def inS (R:InS->Bool):ZJ:=fun args _ K=>match args with
 | [.agg [.arr .u8 32 n,.int .i64 i,.int .i64 w,.arr .u8 32 t,.arr .u8 32 a,.arr .u8 32 s]]=>Z6 (n.length=32/\t.length=32/\a.length=32/\s.length=32) (K (.bool (R ⟨n,i,w,t,a,s⟩)))
 | _=>False
theorem Zc.aggPlain {E:Env} {cs:List AV} {r:Value} (h:Zc E (.agg cs) r) (hp:plainC cs=true):Zc E' (.agg cs) r:=by
 cases h with
 | agg cs vs hc=>exact .agg _ _ (hc.plain hp)
theorem ZdZ (args:List AV) (h:Z9) (K:AV->Prop) (hl:inS ZU args h K):Zh PP 182 args h fun o h'=>∃v,o=.ret v/\h'=h/\K v:=by
 unfold inS at hl
 split at hl
 ·rename_i n i w t a s
  obtain ⟨⟨h1,h2,h3,h4⟩,hK⟩:=Zb hl
  refine (Zx.ev Zu (Zbx ⟨n,i,w,t,a,s⟩ _ ⟨h1,h2,h3,h4⟩ rfl)).calls (v':=.bool (ZU ⟨n,i,w,t,a,s⟩)) (fun E w rs he hr=> ?_) rfl trivial ⟨_,rfl,rfl,hK⟩
  cases hr with
  | cons v r1 vs rs1 h1 hr=>
   cases hr
   exact .cons _ _ _ _ (h1.aggPlain rfl) .nil
 ·exact hl.elim
@[irreducible] def ZH (o:Zp):Bool:=
 decide (1<=o.kind/\o.kind<=5)&&(decide (o.kind=2)||decide (o.kind=4)||decide (o.kind=5)||o.other==Z0)&&(decide (3<=o.kind)||o.point==Z0)&&(decide (4<=o.kind)||o.hash==Z0)&&
 (decide (3<=o.kind)||decide (o.delay=0))&&(decide (4<=o.kind)||decide (o.expiry=0))&&
 (decide (o.kind≠2)||decide (Xh o.owner o.other<=0))&&decide (0<o.amount/\o.amount<=1125899906842624)&&decide (0<=o.delay/\o.delay<=2147483647)&&decide (0<=o.expiry/\o.expiry<=2147483647)
theorem Z9X (o:Zp) (b:Bool) (ho:o.Ok) (hb:b=ZH o):
  evF G0 20 49 [.agg o.c] ⟨0,[]⟩ (Yr 0 [] (.bool b) 0 []):=by
 refine @Eq.mpr _ (let f:=o.kind;let j:=f !=2;let q:=o.other;let p:=decide (q.length=32/\(32:Nat)=32);let n:=decide (o.point.length=32/\(32:Nat)=32);let g:=decide (o.hash.length=32/\(32:Nat)=32);let m:=f==f;let c:=o.amount;let l:=c==c;let A:=q==Z0;let z:=o.hash==Z0;let t:=o.delay;let s:=o.expiry;let y:=s==0;let x:=o.point==Z0&&(z&&(t==0&&y));let w:=m&&(l&&(true&&(A&&x)));let e:=decide (c>0);let a:=Z7 (decide (false=b)) True False;let d:=Z7 (decide (0<=t)) (Z7 (decide (t<=2147483647)) (Z7 (decide (0<=s)) (Z7 (decide (decide (s<=2147483647)=b)) True False) a) a) a;let i:=decide (u8=u8/\o.owner.length=32);let h:=decide (u8=u8/\q.length=32);let k:=decide (Xh o.owner q<=0);let v:=m&&(l&&(true&&(true&&x)));let u:=m&&(l&&(true&&(A&&(true&&(z&&(true&&y))))));let r:=m&&(l&&true);
 Z7 (decide (f=f))
 (Z7 (decide (f=1)) (Z7 j (Z7 p (Z7 n (Z7 g (Z7 w (Z7 e (Z7 (decide (c<0)) a (Z7 (decide (c>1125899906842624)) a d)) a) a) False) False) False) (Z7 i (Z7 h (Z7 k (Z7 p (Z7 n (Z7 g (Z7 w (Z7 e (Z7 (decide (c<0)) a (Z7 (decide (c>1125899906842624)) a d)) a) a) False) False) False) a) False) False))
 (Z7 (decide (f=2)) (Z7 j (Z7 n (Z7 g (Z7 v (Z7 e (Z7 (decide (c<0)) a (Z7 (decide (c>1125899906842624)) a d)) a) a) False) False) (Z7 i (Z7 h (Z7 k (Z7 n (Z7 g (Z7 v (Z7 e (Z7 (decide (c<0)) a (Z7 (decide (c>1125899906842624)) a d)) a) a) False) False) a) False) False))
 (Z7 (decide (f=3)) (Z7 j (Z7 p (Z7 g (Z7 u (Z7 e (Z7 (decide (c<0)) a (Z7 (decide (c>1125899906842624)) a d)) a) a) False) False) (Z7 i (Z7 h (Z7 k (Z7 p (Z7 g (Z7 u (Z7 e (Z7 (decide (c<0)) a (Z7 (decide (c>1125899906842624)) a d)) a) a) False) False) a) False) False))
 (Z7 (decide (f=4)) (Z7 j (Z7 r (Z7 e (Z7 (decide (c<0)) a (Z7 (decide (c>1125899906842624)) a d)) a) a) (Z7 i (Z7 h (Z7 k (Z7 r (Z7 e (Z7 (decide (c<0)) a (Z7 (decide (c>1125899906842624)) a d)) a) a) a) False) False)) (Z7 (decide (f=5)) (Z7 j (Z7 r (Z7 e (Z7 (decide (c<0)) a (Z7 (decide (c>1125899906842624)) a d)) a) a) (Z7 i (Z7 h (Z7 k (Z7 r (Z7 e (Z7 (decide (c<0)) a (Z7 (decide (c>1125899906842624)) a d)) a) a) a) False) False)) (Z7 j a (Z7 i (Z7 h a False) False)))))))
 False) (by kernel_rfl) ?_
 conv=>zeta
 obtain ⟨h1,h2,h3,h4⟩:=ho
 subst hb
 have hz:[(0:Int),0,0,0,0,0,0,0,0,0,0,0,0,0,0,0,0,0,0,0,0,0,0,0,0,0,0,0,0,0,0,0]=Z0:=rfl
 have hg:List.getD [o.amount] 0 0=o.amount:=rfl
 simp only [hz,hg,Z7m]
 unfold ZH
 generalize (o.other==Z0)=bo
 generalize (o.point==Z0)=bp
 generalize (o.hash==Z0)=bh
 generalize Xh o.owner o.other=cc
 by_cases k1:o.kind=1
 ·cases bo<;>cases bp<;>cases bh<;>simp [k1,h1,h2,h3,h4]<;>first|omega|grind
 by_cases k2:o.kind=2
 ·cases bp<;>cases bh<;>simp [k2,h1,h2,h3,h4]<;>first|omega|grind
 by_cases k3:o.kind=3
 ·cases bo<;>cases bh<;>simp [k3,h1,h2,h3,h4]<;>first|omega|grind
 by_cases k4:o.kind=4
 ·simp [k4,h1,h2,h3,h4]<;>first|omega|grind
 by_cases k5:o.kind=5
 ·simp [k5,h1,h2,h3,h4]<;>first|omega|grind
 simp [k1,k2,k3,k4,k5]
 omega
def Zby (R:Zp->Bool):ZJ:=fun args _ K=>match args with
 | [.agg [.int .i64 kd,.int .i64 am,.arr .u8 32 ow,.arr .u8 32 ot,.arr .u8 32 po,.arr .u8 32 ha,.int .i64 de,.int .i64 ex]]=>Z6 (ow.length=32/\ot.length=32/\po.length=32/\ha.length=32) (K (.bool (R ⟨kd,am,ow,ot,po,ha,de,ex⟩)))
 | _=>False
theorem Z7n (args:List AV) (h:Z9) (K:AV->Prop) (hl:Zby ZH args h K):Zh PP 49 args h fun o h'=>∃v,o=.ret v/\h'=h/\K v:=by
 unfold Zby at hl
 split at hl
 ·rename_i kd am ow ot po ha de ex
  obtain ⟨⟨h1,h2,h3,h4⟩,hK⟩:=Zb hl
  refine (Zx.ev Zu (Z9X ⟨kd,am,ow,ot,po,ha,de,ex⟩ _ ⟨h1,h2,h3,h4⟩ rfl)).calls (v':=.bool (ZH ⟨kd,am,ow,ot,po,ha,de,ex⟩)) (fun E w rs he hr=> ?_) rfl trivial ⟨_,rfl,rfl,hK⟩
  cases hr with
  | cons v r1 vs rs1 h1 hr=>
   cases hr
   exact .cons _ _ _ _ (h1.aggPlain rfl) .nil
 ·exact hl.elim
def X6:List Nat->Nat->Option Nat
 | [],_=>none
 | x::_,0=>some x
 | _::r,n+1=>X6 r n
def Xp:List Nat->Nat->Option Nat
 | [],_=>none
 | y::r,x=>match Nat.beq y x with
  | true=>some 0
  | false=>match Xp r x with|some i=>some (i+1)|none=>none
theorem V5:∀{σ:List Nat} {x i:Nat},Xp σ x=some i->X6 σ i=some x
 | [],_,_,h=>by simp [Xp] at h
 | y::r,x,i,h=>by
  unfold Xp at h
  split at h
  ·rename_i hb
   have:=J0 hb
   cases h
   simp [X6,this]
  ·split at h
   ·rename_i j hj
    cases h
    exact (V5 (σ:=r) hj:X6 r _=some x)
   ·cases h
theorem Z05:∀{σ:List Nat} {x:Nat},Xp σ x=none->x∉σ
 | [],_,_=>by simp
 | y::r,x,h=>by
  unfold Xp at h
  split at h
  ·cases h
  ·rename_i hb
   split at h
   ·cases h
   ·rename_i hj
    intro hm
    rcases J9.1 hm with rfl|hm
    ·simp [Jg] at hb
    ·exact Z05 hj hm
theorem Xq:∀{σ:List Nat} {i x:Nat},X6 σ i=some x->x∈σ
 | [],_,_,h=>by simp [X6] at h
 | y::r,0,x,h=>by simp [X6] at h;simp [h]
 | y::r,i+1,x,h=>Jp _ (Xq (σ:=r) h)
theorem Z7o:∀{σ:List Nat} {i x:Nat},X6 σ i=some x->i<σ.length
 | [],_,_,h=>by simp [X6] at h
 | y::r,0,x,h=>by simp
 | y::r,i+1,x,h=>by have:=Z7o (σ:=r) h;simp;omega
theorem Z7p:∀{σ:List Nat} {i:Nat},σ.length<=i->X6 σ i=none
 | [],_,_=>by simp [X6]
 | y::r,0,h=>by simp at h
 | y::r,i+1,h=>by simp at h;exact Z7p (σ:=r) h
def Env.borL (E:Env) (σ:List Nat) (w:World) (t:Bool):Env:=
 ⟨fun y=>match t with|true=>(match X6 σ y with|some x=>E.blk x|none=>none)|false=>none,fun a c=>w.cell? a=some c/\∀x,x∈σ->∀N,E.blk x=some (a.block,N)->False⟩
mutual
def vwV (σ:List Nat) (h:Z9) (t:Bool):Nat->AV->(AV->Prop)->Prop
 | 0,_,_=>False
 | d+1,v,K=>match v with
  | .top=>K .top
  | .bool b=>K (.bool b)
  | .int k n=>K (.int k n)
  | .str s=>K (.str s)
  | .ptr none=>K (.ptr none)
  | .eslice=>K .eslice
  | .fslice=>K .fslice
  | .nilslice=>K .nilslice
  | .map none=>K (.map none)
  | .nilFunc=>K .nilFunc
  | .nilIface=>K .nilIface
  | .pview cs inn=>K (.pview cs inn)
  | .vints k xs len=>K (.vints k xs len)
  | .vrows esz n f len=>K (.vrows esz n f len)
  | .ptr (some p)=>match Xp σ p.blk with
   | some i=>match t with|false=>False|true=>K (.ptr (some ⟨i,p.row,p.sz,p.off,p.inn⟩))
   | none=>match h.get p.blk with
    | some (.flat cs)=>match p.row,Ys p.off cs with
     | 0,some rest=>vwC σ h false d rest fun rest'=>K (.pview rest' p.inn)
     | _,_=>False
    | some (.rows sz n f)=>match Nat.beq sz p.sz with
     | true=>Z6 (p.row<n) (match Ys p.off (f p.row) with
      | some rest=>vwC σ h false d rest fun rest'=>K (.pview rest' p.inn)
      | none=>False)
     | false=>False
    | _=>False
  | .nslice p esz len lo=>match Xp σ p.blk with
   | some i=>match t with|false=>False|true=>K (.nslice ⟨i,p.row,p.sz,p.off,p.inn⟩ esz len lo)
   | none=>match h.get p.blk with
    | some (.ints k xs)=>match Nat.beq esz 1 with
     | true=>Z6 (p.tot+len<=xs.length) (K (.vints k ((X9 p.tot xs).take len) len))
     | false=>False
    | some (.rows sz n f)=>match Nat.beq sz esz&&Nat.beq p.off 0&&Nat.beq p.inn 0&&(Nat.beq p.sz esz||Nat.beq p.row 0) with
     | true=>Z6 (p.row+len<=n) ((∀i,i<len->plainC (YZ p.row f i)=true)/\K (.vrows esz len (YZ p.row f) len))
     | false=>False
    | some (.flat cs)=>match p.row,Ys p.off cs with
     | 0,some rest=>match Z7i rest&&Nat.beq esz 1 with
      | true=>match rest with
       | .arr k n xs::_=>match Nat.beq esz 1,Nat.beq p.inn 0&&Nat.beq len n with
        | true,true=>Z6 (xs.length=n) (K (.vints k xs len))
        | true,false=>Z6 (xs.length=n/\p.inn+len<=n) (K (.vints k ((X9 p.inn xs).take len) len))
        | false,_=>False
       | _=>False
      | false=>match Nat.beq p.inn 0,takeC (len*esz) rest with
       | true,some part=>vwC σ h false d part fun part'=>match UN part' 0 esz len with
        | true=>K (.vrows esz len (YV part' 0 esz) len)
        | false=>False
       | _,_=>False
     | _,_=>False
    | _=>False
  | .func (.func g) fs cs=>vwL σ h t d fs fun fs'=>vwL σ h t d cs fun cs'=>K (.func (.func g) fs' cs')
  | .iface T u=>vwV σ h t d u fun u'=>K (.iface T u')
  | .agg cs=>vwC σ h t d cs fun cs'=>K (.agg cs')
  | .tuple vs=>vwL σ h t d vs fun vs'=>K (.tuple vs')
  | _=>False
def vwC (σ:List Nat) (h:Z9) (t:Bool):Nat->List AV->(List AV->Prop)->Prop
 | 0,_,_=>False
 | d+1,l,K=>match l with
  | []=>K []
  | .arr k n xs::r=>vwC σ h t d r fun r'=>K (.arr k n xs::r')
  | v::r=>vwV σ h t d v fun v'=>match v'.isCell with
   | true=>vwC σ h t d r fun r'=>K (v'::r')
   | false=>False
def vwL (σ:List Nat) (h:Z9) (t:Bool):Nat->List AV->(List AV->Prop)->Prop
 | 0,_,_=>False
 | d+1,l,K=>match l with
  | []=>K []
  | v::r=>vwV σ h t d v fun v'=>vwL σ h t d r fun r'=>K (v'::r')
end
theorem Z1Z {E:Env} {w:World} {t:Bool} {h:Z9} (he:Emb E h w) (hm:∀x,x∈σ->∃B,h.get x=some B):E.views.le (E.borL σ w t).views:=
 ⟨fun _ _ hq=>by simp [Env.views] at hq,fun a c hi=>⟨he.imm a c hi,fun x hx N hb=>let ⟨B,hB⟩:=hm x hx;he.sep a c x B N hi hB hb⟩⟩
theorem Z20 {E:Env} {w:World} {t:Bool} {h:Z9} (he:Emb E h w) (hm:∀x,x∈σ->∃B,h.get x=some B) {a:Addr} {c:Value} (hi:E.imm a c):(E.borL σ w t).imm a c:=
 ⟨he.imm a c hi,fun x hx N hb=>let ⟨B,hB⟩:=hm x hx;he.sep a c x B N hi hB hb⟩
theorem Xz {E:Env} {w:World} {t:Bool} {h:Z9} (he:Emb E h w) (hm:∀x,x∈σ->∃B,h.get x=some B) {y b N o:Nat} (hy:h.get y=some B) (hb:E.blk y=some (b,N)) (hn:Xp σ y=none) {c:Value}
  (hc:w.cell? ⟨b,o,none⟩=some c):(E.borL σ w t).imm ⟨b,o,none⟩ c:=
 ⟨hc,fun x hx N' hbx=>by
  obtain ⟨C,hC⟩:=hm x hx
  have:=he.disj x y C B b N' N hC hy hbx hb
  subst this
  exact Z05 hn hx⟩
theorem Wq {E:Env} {w:World} {x i:Nat} (h:Xp σ x=some i):(E.borL σ w true).blk i=E.blk x:=by
 show (match X6 σ i with|some x=>E.blk x|none=>none)=_
 rw [V5 h]
set_option maxHeartbeats 2000000 in
mutual
theorem Z6n {σ:List Nat} {h:Z9} (hm:∀x,x∈σ->∃B,h.get x=some B):∀(d:Nat) (t:Bool) (v:AV) (K:AV->Prop),vwV σ h t d v K->∃v₀,K v₀/\∀(E:Env) (w:World) (r:Value),Emb E h w->Zc E v r->Zc (E.borL σ w t) v₀ r
 | 0,t,v,K,hl=>by unfold vwV at hl;exact hl.elim
 | d+1,t,v,K,hl=>by
  unfold vwV at hl
  split at hl
  ·exact ⟨_,hl,fun E w r he hv=>.top r⟩
  ·exact ⟨_,hl,fun E w r he hv=>hv.plain rfl⟩
  ·exact ⟨_,hl,fun E w r he hv=>hv.plain rfl⟩
  ·exact ⟨_,hl,fun E w r he hv=>hv.plain rfl⟩
  ·exact ⟨_,hl,fun E w r he hv=>hv.plain rfl⟩
  ·exact ⟨_,hl,fun E w r he hv=>hv.plain rfl⟩
  ·exact ⟨_,hl,fun E w r he hv=>hv.plain rfl⟩
  ·exact ⟨_,hl,fun E w r he hv=>hv.plain rfl⟩
  ·exact ⟨_,hl,fun E w r he hv=>hv.plain rfl⟩
  ·exact ⟨_,hl,fun E w r he hv=>hv.plain rfl⟩
  ·exact ⟨_,hl,fun E w r he hv=>hv.plain rfl⟩
  ·refine ⟨_,hl,fun E w r he hv=> ?_⟩
   cases hv with
   | pview cs inn a vs hc hi=>exact .pview _ _ a vs (hc.mono (Z1Z he hm)) (fun j c hj=>Z20 he hm (hi j c hj))
  ·refine ⟨_,hl,fun E w r he hv=> ?_⟩
   cases hv with
   | vintsNil k xs len h1 h2=>exact .vintsNil _ _ _ h1 h2
   | vints k xs len a cap h1 h2 hi=>exact .vints _ _ _ a cap h1 h2 (fun i hi'=>Z20 he hm (hi i hi'))
  ·refine ⟨_,hl,fun E w r he hv=> ?_⟩
   cases hv with
   | vrowsNil esz n f len h1 h2=>exact .vrowsNil _ _ _ _ h1 h2
   | vrows esz n f len a cap g h1 h2 hc hl' hi=>exact .vrows _ _ _ _ a cap g h1 h2 (fun i hi'=>(hc i hi').mono (Z1Z he hm)) hl' (fun i j c hi' hj=>Z20 he hm (hi i j c hi' hj))
  ·rename_i p
   split at hl
   ·rename_i ix hmv
    split at hl
    ·exact hl.elim
    ·refine ⟨_,hl,fun E w r he hv=> ?_⟩
     cases hv with
     | ptr p b N hb=>exact .ptr ⟨ix,p.row,p.sz,p.off,p.inn⟩ b N (by rw [Wq hmv];exact hb)
   ·rename_i hmv
    split at hl
    ·rename_i cs hg
     split at hl
     ·rename_i rest hrow hrest
      obtain ⟨rest',hK,hr⟩:=Q4 hm d false rest _ hl
      refine ⟨_,hK,fun E w r he hv=> ?_⟩
      cases hv with
      | ptr p b N hb=>
       cases he.own _ _ hg with
       | flat0 cs h0 hn=>rw [hn] at hb;cases hb
       | flat cs b' cells elem fr vs hb' hw hf hc hvs=>
        rw [hb] at hb'
        cases hb'
        have hd:=(ZQ _ _ _ _ hrest hc).1
        have e:(⟨b,p.tot,none⟩:Addr)=(⟨b,p.off,none⟩:Addr).add p.inn:=by rw [addr_add];simp [ZN.tot,hrow]
        rw [e]
        refine .pview _ _ ⟨b,p.off,none⟩ _ (hr E w _ he hd) (fun j c hj=> ?_)
        rw [addr_add]
        refine Xz he hm hg hb hmv (Z0T hvs hw ?_)
        rw [Jf] at hj
        exact hj
     ·exact hl.elim
    ·rename_i sz n f hg
     split at hl
     ·rename_i hsz
      have hsz:=J0 hsz
      obtain ⟨hrow,hl⟩:=Zb hl
      split at hl
      ·rename_i rest hrest
       obtain ⟨rest',hK,hr⟩:=Q4 hm d false rest _ hl
       refine ⟨_,hK,fun E w r he hv=> ?_⟩
       cases hv with
       | ptr p b N hb=>
        cases he.own _ _ hg with
        | rows0 sz n f h0 hn=>omega
        | rows sz n f b' cells elem fr g hb' hw hf hc hlg hvs=>
         rw [hb] at hb'
         cases hb'
         have hd:=(ZQ _ _ _ _ hrest (hc _ hrow)).1
         have e:(⟨b,p.tot,none⟩:Addr)=(⟨b,p.row*sz+p.off,none⟩:Addr).add p.inn:=by rw [addr_add];simp [ZN.tot,hsz]
         rw [e]
         refine .pview _ _ ⟨b,p.row*sz+p.off,none⟩ _ (hr E w _ he hd) (fun j c hj=> ?_)
         rw [addr_add]
         refine Xz he hm hg hb hmv ?_
         rw [Jf] at hj
         rw [cell_of_heap hw,Nat.add_assoc]
         exact hvs _ _ _ hrow hj
      ·exact hl.elim
     ·exact hl.elim
    ·exact hl.elim
  ·rename_i p esz len lo
   split at hl
   ·rename_i ix hmv
    split at hl
    ·exact hl.elim
    ·refine ⟨_,hl,fun E w r he hv=> ?_⟩
     cases hv with
     | nslice0 p esz len lo a h1 h2=>exact .nslice0 _ _ _ _ a h1 h2
     | nslice p esz len lo b N cap hb h1 h2 h3=>exact .nslice ⟨ix,p.row,p.sz,p.off,p.inn⟩ _ _ _ b N cap (by rw [Wq hmv];exact hb) h1 h2 h3
   ·rename_i hmv
    split at hl
    ·rename_i k xs hg
     split at hl
     ·rename_i hes
      have hes:=J0 hes
      subst hes
      obtain ⟨hle,hK⟩:=Zb hl
      have hlen:((X9 p.tot xs).take len).length=len:=by rw [YA,Jm,Jo];omega
      refine ⟨_,hK,fun E w r he hv=> ?_⟩
      cases hv with
      | nslice0 p esz len lo a h1 h2=>
       subst h1
       cases a with
       | none=>exact .vintsNil _ _ _ (by simp) rfl
       | some a=>exact .vints _ _ _ a 0 (by simp) (by simp) (fun i hi=>by simp at hi)
      | nslice p esz len lo b N cap hb h1 h2 h3=>
       refine .vints _ _ _ _ cap (by omega) (by omega) (fun i hi=> ?_)
       rw [hlen] at hi
       rw [addr_add]
       refine Xz he hm hg hb hmv ?_
       cases he.own _ _ hg with
       | ints0 k xs h0 hn=>rw [hn] at hb;cases hb
       | ints k xs b' cells elem fr hb' hw hf hvs=>
        rw [hb] at hb'
        cases hb'
        rw [cell_of_heap hw,hvs _ (by omega)]
        congr 2
        rw [YA]
        simp [J2,hi,Jf]
     ·exact hl.elim
    ·rename_i sz n f hg
     split at hl
     ·rename_i hb
      simp only [J3,JH] at hb
      obtain ⟨⟨⟨q1,q2⟩,q3⟩,q4⟩:=hb
      have q1:=J0 q1
      have q2:=J0 q2
      have q3:=J0 q3
      obtain ⟨hle,hpl,hK⟩:=Zb hl
      refine ⟨_,hK,fun E w r he hv=> ?_⟩
      have htot:p.tot=p.row*sz:=by
       rcases q4 with q4|q4
       ·have:=J0 q4;simp [ZN.tot,q2,q3,this,q1]
       ·have:=J0 q4;simp [ZN.tot,q2,q3,this]
      cases hv with
      | nslice0 p esz len lo a h1 h2=>
       subst h1
       cases a with
       | none=>exact .vrowsNil _ _ _ _ rfl rfl
       | some a=>exact .vrows _ _ _ _ a 0 (fun _=>[]) (by omega) (by omega) (fun i hi=>by omega) (fun i hi=>by omega) (fun i j c hi=>by omega)
      | nslice p esz len lo b N cap hb h1 h2 h3=>
       cases he.own _ _ hg with
       | rows0 sz n f h0 hn=>rw [hn] at hb;cases hb
       | rows sz n f b' cells elem fr g hb' hw hf hc hlg hvs=>
        rw [hb] at hb'
        cases hb'
        refine .vrows _ _ _ _ _ cap (fun i=>g (p.row+i)) (by omega) h1 (fun i hi=> ?_) (fun i hi=>by rw [<-q1];exact hlg _ (by omega)) (fun i j c hi hj=> ?_)
        ·have:=hc (p.row+i) (by omega)
         have hp:=hpl i hi
         rw [QM] at hp⊢
         exact this.plain hp
        ·rw [addr_add]
         refine Xz he hm hg hb hmv ?_
         rw [cell_of_heap hw,htot,<-q1]
         have:=hvs (p.row+i) j c (by omega) hj
         rw [JD] at this
         rw [show p.row*sz+(i*sz+j)=p.row*sz+i*sz+j by omega]
         exact this
     ·exact hl.elim
    ·rename_i cs hg
     split at hl
     ·rename_i rest hrow hrest
      have hbase:∀(E:Env) (w:World) (b N:Nat),Emb E h w->E.blk p.blk=some (b,N)->∃vs,Zn E rest vs/\∀j c,vs[j]? =some c->w.cell? ⟨b,p.off+j,none⟩=some c:=by
       intro E w b N he hb
       cases he.own _ _ hg with
       | flat0 cs h0 hn=>rw [hn] at hb;cases hb
       | flat cs b' cells elem fr vs hb' hw hf hc hvs=>
        rw [hb] at hb'
        cases hb'
        refine ⟨_,(ZQ _ _ _ _ hrest hc).1,fun j c hj=> ?_⟩
        rw [Jf] at hj
        exact Z0T hvs hw hj
      split at hl
      ·split at hl
       ·rename_i k n xs rest2 harr
        split at hl
        ·rename_i hes hbb
         have hes:=J0 hes
         subst hes
         rw [J3] at hbb
         have e1:=J0 hbb.1
         have e2:=J0 hbb.2
         obtain ⟨hxl,hK⟩:=Zb hl
         refine ⟨_,hK,fun E w r he hv=> ?_⟩
         cases hv with
         | nslice0 p esz len lo a h1 h2=>
          have hx0:xs=[]:=by
           have:xs.length=0:=by omega
           exact Kf.1 this
          subst hx0
          subst h1
          cases a with
          | none=>exact .vintsNil _ _ _ rfl rfl
          | some a=>exact .vints _ _ _ a 0 (by simp) (by simp) (fun i hi=>by simp at hi)
         | nslice p esz len lo b N cap hb h1 h2 h3=>
          obtain ⟨vs,hcr,hcell⟩:=hbase E w b N he hb
          obtain ⟨ws,rfl,_⟩:=Zn.cons_arr hcr
          refine .vints _ _ _ _ cap (by omega) (by omega) (fun i hi=> ?_)
          rw [addr_add]
          refine Xz he hm hg hb hmv ?_
          have:=hcell i (.int k (xs.getD i 0)) (by
           rw [J8 (by rw [Z8];omega),Zj (by omega)])
          rw [show p.tot+i=p.off+i by simp [ZN.tot,hrow,e1]]
          exact this
        ·rename_i hes hbb
         have hes:=J0 hes
         subst hes
         obtain ⟨⟨hxl,hle⟩,hK⟩:=Zb hl
         have hlen:((X9 p.inn xs).take len).length=len:=by rw [YA,Jm,Jo];omega
         refine ⟨_,hK,fun E w r he hv=> ?_⟩
         cases hv with
         | nslice0 p esz len lo a h1 h2=>
          subst h1
          cases a with
          | none=>exact .vintsNil _ _ _ (by simp) rfl
          | some a=>exact .vints _ _ _ a 0 (by simp) (by simp) (fun i hi=>by simp at hi)
         | nslice p esz len lo b N cap hb h1 h2 h3=>
          obtain ⟨vs,hcr,hcell⟩:=hbase E w b N he hb
          obtain ⟨ws,rfl,_⟩:=Zn.cons_arr hcr
          refine .vints _ _ _ _ cap (by omega) (by omega) (fun i hi=> ?_)
          rw [hlen] at hi
          rw [addr_add]
          refine Xz he hm hg hb hmv ?_
          have:=hcell (p.inn+i) (.int k (xs.getD (p.inn+i) 0)) (by
           rw [J8 (by rw [Z8];omega),Zj (by omega)])
          rw [show p.tot+i=p.off+(p.inn+i) by simp [ZN.tot,hrow];omega]
          rw [this]
          congr 2
          rw [YA]
          simp [J2,hi,Jf]
        ·exact hl.elim
       ·exact hl.elim
      ·split at hl
       ·rename_i part hinn hpart
        have hinn:=J0 hinn
        obtain ⟨part',hK,hr⟩:=Q4 hm d false part _ hl
        split at hK
        ·rename_i hrows
         refine ⟨_,hK,fun E w r he hv=> ?_⟩
         cases hv with
         | nslice0 p esz len lo a h1 h2=>
          subst h1
          cases a with
          | none=>exact .vrowsNil _ _ _ _ rfl rfl
          | some a=>exact .vrows _ _ _ _ a 0 (fun _=>[]) (by omega) (by omega) (fun i hi=>by omega) (fun i hi=>by omega) (fun i j c hi=>by omega)
         | nslice p esz len lo b N cap hb h1 h2 h3=>
          obtain ⟨vs,hcr,hcell⟩:=hbase E w b N he hb
          have hpr:=(WS _ _ _ _ hpart hcr).1
          have hpr':=hr E w _ he hpr
          refine .vrows _ _ _ _ _ cap (fun i=>((vs.take (len*esz)).drop (0+i*esz)).take esz) (by omega) h1 (fun i hi=>(Xd (YN hrows i hi) hpr').1) (fun i hi=>(Xd (YN hrows i hi) hpr').2) (fun i j c hi hj=> ?_)
          rw [addr_add]
          refine Xz he hm hg hb hmv ?_
          rw [Jy] at hj
          split at hj
          ·rw [Jf,Jy] at hj
           split at hj
           ·have:=hcell _ _ hj
            rw [show p.tot+(i*esz+j)=p.off+(0+i*esz+j) by simp [ZN.tot,hrow,hinn]]
            exact this
           ·cases hj
          ·cases hj
        ·exact hK.elim
       ·exact hl.elim
     ·exact hl.elim
    ·exact hl.elim
  ·obtain ⟨fs',hl,h1⟩:=Z21 hm d t _ _ hl
   obtain ⟨cs',hl,h2⟩:=Z21 hm d t _ _ hl
   refine ⟨_,hl,fun E w r he hv=> ?_⟩
   cases hv with
   | func fn first captured fs cs ha hb=>exact .func _ _ _ _ _ (h1 E w _ he ha) (h2 E w _ he hb)
  ·obtain ⟨u',hl,h1⟩:=Z6n hm d t _ _ hl
   refine ⟨_,hl,fun E w r he hv=> ?_⟩
   cases hv with
   | iface T v x hx=>exact .iface _ _ _ (h1 E w _ he hx)
  ·obtain ⟨cs',hl,h1⟩:=Q4 hm d t _ _ hl
   refine ⟨_,hl,fun E w r he hv=> ?_⟩
   cases hv with
   | agg cs vs hc=>exact .agg _ _ (h1 E w _ he hc)
  ·obtain ⟨vs',hl,h1⟩:=Z21 hm d t _ _ hl
   refine ⟨_,hl,fun E w r he hv=> ?_⟩
   cases hv with
   | tuple vs rs hc=>exact .tuple _ _ (h1 E w _ he hc)
  ·exact hl.elim
theorem Q4 {σ:List Nat} {h:Z9} (hm:∀x,x∈σ->∃B,h.get x=some B):∀(d:Nat) (t:Bool) (l:List AV) (K:List AV->Prop),vwC σ h t d l K->∃l₀,K l₀/\∀(E:Env) (w:World) (r:List Value),Emb E h w->Zn E l r->Zn (E.borL σ w t) l₀ r
 | 0,t,l,K,hl=>by unfold vwC at hl;exact hl.elim
 | d+1,t,l,K,hl=>by
  unfold vwC at hl
  split at hl
  ·exact ⟨_,hl,fun E w r he hv=>by cases hv;exact .nil⟩
  ·obtain ⟨r',hl,h1⟩:=Q4 hm d t _ _ hl
   refine ⟨_,hl,fun E w r he hv=> ?_⟩
   obtain ⟨ws,rfl,ht⟩:=Zn.cons_arr hv
   exact .arr _ _ _ _ _ (h1 E w _ he ht)
  ·rename_i v r hna
   obtain ⟨v',hl,h1⟩:=Z6n hm d t _ _ hl
   split at hl
   ·rename_i hcell
    obtain ⟨r',hl,h2⟩:=Q4 hm d t _ _ hl
    refine ⟨_,hl,fun E w q he hv=> ?_⟩
    obtain ⟨c,ws,rfl,q1,q2,q3,q4⟩:=Zn.cons_cell hv (fun k m xs e=>hna k m xs e)
    exact .one _ _ _ _ hcell q2 (h1 E w _ he q3) (h2 E w _ he q4)
   ·exact hl.elim
theorem Z21 {σ:List Nat} {h:Z9} (hm:∀x,x∈σ->∃B,h.get x=some B):∀(d:Nat) (t:Bool) (l:List AV) (K:List AV->Prop),vwL σ h t d l K->∃l₀,K l₀/\∀(E:Env) (w:World) (r:List Value),Emb E h w->Zw E l r->Zw (E.borL σ w t) l₀ r
 | 0,t,l,K,hl=>by unfold vwL at hl;exact hl.elim
 | d+1,t,l,K,hl=>by
  unfold vwL at hl
  split at hl
  ·exact ⟨_,hl,fun E w r he hv=>by cases hv;exact .nil⟩
  ·obtain ⟨v',hl,h1⟩:=Z6n hm d t _ _ hl
   obtain ⟨r',hl,h2⟩:=Z21 hm d t _ _ hl
   refine ⟨_,hl,fun E w q he hv=> ?_⟩
   cases hv with
   | cons v c vs cs ha hb=>exact .cons _ _ _ _ (h1 E w _ he ha) (h2 E w _ he hb)
end
def vwB (σ:List Nat) (h:Z9) (d:Nat) (B:Blk) (K:Blk->Prop):Prop:=
 match B with
 | .ints k xs=>K (.ints k xs)
 | .flat cs=>vwC σ h true d cs fun cs'=>match Nat.beq (csz cs') (csz cs) with|true=>K (.flat cs')|false=>False
 | .rows sz n f=>(∀i,i<n->plainC (f i)=true)/\K (.rows sz n f)
 | _=>False
theorem Ze0 {h:Z9} (hm:∀x,x∈σ->∃B,h.get x=some B) {d:Nat} {K:Blk->Prop} (hl:vwB σ h d B K):
  ∃B₀,K B₀/\∀(E:Env) (w:World) (x i:Nat),Emb E h w->Xp σ x=some i->Ye E w x B->Ye (E.borL σ w true) w i B₀:=by
 unfold vwB at hl
 split at hl
 ·refine ⟨_,hl,fun E w x i he hi hb=> ?_⟩
  have hq:=Wq (E:=E) (w:=w) hi
  cases hb with
  | ints0 k xs h0 hn=>exact .ints0 _ _ h0 (hq.trans hn)
  | ints k xs b cells elem fr hb hw hf hv=>exact .ints _ _ b cells elem fr (hq.trans hb) hw hf hv
 ·obtain ⟨cs',hl,hr⟩:=Q4 hm _ _ _ _ hl
  split at hl
  ·rename_i hz
   have hz:=J0 hz
   refine ⟨_,hl,fun E w x i he hi hb=> ?_⟩
   have hq:=Wq (E:=E) (w:=w) hi
   cases hb with
   | flat0 cs h0 hn=>exact .flat0 _ (hz.trans h0) (hq.trans hn)
   | flat cs b cells elem fr vs hb hw hf hc hv=>exact .flat _ b cells elem fr vs (hq.trans hb) hw hf (hr E w vs he hc) hv
  ·exact hl.elim
 ·obtain ⟨hp,hl⟩:=hl
  refine ⟨_,hl,fun E w x i he hi hb=> ?_⟩
  have hq:=Wq (E:=E) (w:=w) hi
  cases hb with
  | rows0 sz n f h0 hn=>exact .rows0 _ _ _ h0 (hq.trans hn)
  | rows sz n f b cells elem fr g hb hw hf hc hl hv=>exact .rows _ _ _ b cells elem fr g (hq.trans hb) hw hf (fun i hi=>(hc i hi).plain (hp i hi)) hl hv
 ·exact hl.elim
def Zbz (σ:List Nat) (h:Z9) (d:Nat):List Nat->(List Blk->Prop)->Prop
 | [],K=>K []
 | x::r,K=>match h.get x with
  | some B=>vwB σ h d B fun B'=>Zbz σ h d r fun Bs=>K (B'::Bs)
  | none=>False
theorem Z7q {σ:List Nat} {h:Z9} (hm:∀x,x∈σ->∃B,h.get x=some B) {d:Nat}:∀(r:List Nat) (K:List Blk->Prop),Zbz σ h d r K->
  ∃Bs,K Bs/\Bs.length=r.length/\∀(i x:Nat) (B:Blk),r[i]? =some x->Bs[i]? =some B->∃B',h.get x=some B'/\∀(E:Env) (w:World) (j:Nat),Emb E h w->Xp σ x=some j->Ye E w x B'->Ye (E.borL σ w true) w j B
 | [],K,hl=>⟨[],hl,rfl,fun i x B h=>by simp at h⟩
 | y::r,K,hl=>by
  unfold Zbz at hl
  split at hl
  ·rename_i B' hB'
   obtain ⟨B₀,hl,hr⟩:=Ze0 hm hl
   obtain ⟨Bs,hK,hlen,hall⟩:=Z7q hm r _ hl
   refine ⟨B₀::Bs,hK,by simp [hlen],fun i x B h1 h2=> ?_⟩
   match i with
   | 0=>simp at h1 h2;subst h1;subst h2;exact ⟨B',hB',fun E w j he hj hb=>hr E w _ j he hj hb⟩
   | i+1=>exact hall i x B (by simpa using h1) (by simpa using h2)
  ·exact hl.elim
def hasB (h:Z9):List Nat->Bool
 | []=>true
 | x::r=>match h.get x with|some _=>hasB h r|none=>false
theorem Z7r {h:Z9}:∀{σ:List Nat},hasB h σ=true->∀x,x∈σ->∃B,h.get x=some B
 | [],_,x,hx=>by simp at hx
 | y::r,hl,x,hx=>by
  unfold hasB at hl
  split at hl
  ·rename_i B hB
   rcases J9.1 hx with rfl|hx
   ·exact ⟨B,hB⟩
   ·exact Z7r hl x hx
  ·cases hl
def Z32:List Nat->Bool
 | []=>true
 | x::r=>match Xp r x with|some _=>false|none=>Z32 r
theorem VU:∀{σ:List Nat},Z32 σ=true->∀(i x:Nat),X6 σ i=some x->Xp σ x=some i
 | [],_,i,x,h=>by simp [X6] at h
 | y::r,hd,0,x,h=>by simp [X6] at h;subst h;simp [Xp,Jg]
 | y::r,hd,i+1,x,h=>by
  unfold Z32 at hd
  split at hd
  ·cases hd
  ·rename_i hn
   have h1:X6 r i=some x:=h
   have h2:=VU hd i x h1
   have hne:y≠x:=fun e=>Z05 hn (e▸Xq h1)
   simp [Xp,Zs hne,h2]
def frA (σ:List Nat) (h:Z9) (d:Nat) (args:List AV) (K0:List Blk->List AV->Prop):Prop:=
 match hasB h σ&&Z32 σ with
 | true=>Zbz σ h d σ fun Bs=>vwL σ h true d args fun a=>K0 Bs a
 | false=>False
theorem Z22:∀{σ:List Nat} {i:Nat},X6 σ i=σ[i]?
 | [],_=>by simp [X6]
 | x::r,0=>by simp [X6]
 | x::r,i+1=>by simp [X6,Z22 (σ:=r)]
theorem Ze1 {h:Z9} {d:Nat} (hl:frA σ h d args K0):
  (∀x,x∈σ->∃B,h.get x=some B)/\Z32 σ=true/\∃Bs a,K0 Bs a/\Bs.length=σ.length/\
   (∀(i x:Nat) (B:Blk),X6 σ i=some x->Bs[i]? =some B->∃B',h.get x=some B'/\∀(E:Env) (w:World),Emb E h w->Ye E w x B'->Ye (E.borL σ w true) w i B)/\
   ∀(E:Env) (w:World) (r:List Value),Emb E h w->Zw E args r->Zw (E.borL σ w true) a r:=by
 unfold frA at hl
 split at hl
 ·rename_i hc
  rw [J3] at hc
  have hm:=Z7r hc.1
  obtain ⟨Bs,hl,hlen,hall⟩:=Z7q hm _ _ hl
  obtain ⟨a,hK,ha⟩:=Z21 hm _ _ _ _ hl
  refine ⟨hm,hc.2,Bs,a,hK,hlen,fun i x B h1 h2=> ?_,ha⟩
  obtain ⟨B',hB',hr⟩:=hall i x B (by rw [<-Z22];exact h1) h2
  exact ⟨B',hB',fun E w he hb=>hr E w i he (VU hc.2 i x h1) hb⟩
 ·exact hl.elim
def Spec (P:Program) (f:FuncId) (args:List AV) (h0:Z9) (o:Out) (nx:Nat) (bs:List (Nat×Blk)):Prop:=
 ∀(E:Env) (w:World) (rs:List Value),Emb E h0 w->Zw E args rs->Calls P f rs.toArray w fun e w'=>∃E',Evo E h0 w E' ⟨nx,bs⟩ w'/\UR E' o e
def Zfo (k:Nat) (τ:Ren) (o:Out) (nx:Nat) (bs:List (Nat×Blk)):KO:=fun o' h=>match o with
 | .ret v=>match o' with
  | .ret u=>ZK k τ ⟨1,[(0,v)],⟨nx,bs⟩,[]⟩ ⟨1,[(0,u)],h,[]⟩ True
  | .panic _=>False
 | .panic v=>match o' with
  | .panic u=>ZK k τ ⟨1,[(0,v)],⟨nx,bs⟩,[]⟩ ⟨1,[(0,u)],h,[]⟩ True
  | .ret _=>False
theorem Ui {k:Nat} {u:AV} {nx:Nat} {bs:List (Nat×Blk)} {h0 h:Z9} (hk:k=h0.next) (hl:ZK k τ ⟨1,[(0,v)],⟨nx,bs⟩,[]⟩ ⟨1,[(0,u)],h,[]⟩ True) {E0 E:Env} {w0 w:World} {r:Value}
  (he0:Emb E0 h0 w0) (hev:Evo E0 h0 w0 E h w) (hr:Zc E u r):∃E',Evo E0 h0 w0 E' ⟨nx,bs⟩ w/\Zc E' v r:=by
 obtain ⟨_,hw⟩:=ZT hl
 have hs:WQ E ⟨1,[(0,u)],h,[]⟩ { tmps:= #[r],defers:=[]} w:=by
  refine ⟨hev.emb,⟨rfl,fun x v' hx=> ?_⟩,.nil⟩
  simp only [Zz] at hx
  split at hx
  ·rename_i hb
   have:=J0 hb
   subst this
   cases hx
   exact hr
  ·cases hx
 obtain ⟨E₂,hs2,hev2⟩:=hw E0 h0 w0 E _ w (fun x hx=>he0.fresh x (hk▸hx)) hs hev
 refine ⟨E₂,hev2, ?_⟩
 have:=hs2.tmps.get 0 v (by simp [Zz])
 simpa using this
theorem Spec.of {P:Program} {f:FuncId} {h0:Z9} {o:Out} {nx:Nat} {bs:List (Nat×Blk)} (h:Zh P f args h0 (Zfo h0.next τ o nx bs)):Spec P f args h0 o nx bs:=by
 intro E w rs he hl
 refine (h E w rs he hl).mono ?_
 rintro e w' ⟨E',o',h',hK,hev,hor⟩
 unfold Zfo at hK
 cases o with
 | ret v=>
  cases hor with
  | ret u r hr=>
   obtain ⟨E₂,h1,h2⟩:=Ui rfl hK he hev hr
   exact ⟨E₂,h1,.ret _ _ h2⟩
  | panic u r hr=>exact hK.elim
 | panic v=>
  cases hor with
  | panic u r hr=>
   obtain ⟨E₂,h1,h2⟩:=Ui rfl hK he hev hr
   exact ⟨E₂,h1,.panic _ _ h2⟩
  | ret u r hr=>exact hK.elim
def mvN:List Nat->Nat->Nat->Nat
 | [],d,y=>d+y
 | x::_,_,0=>x
 | _::r,d,y+1=>mvN r d y
theorem Z6o:∀{σ:List Nat} {d y x:Nat},X6 σ y=some x->mvN σ d y=x
 | [],_,_,_,h=>by simp [X6] at h
 | x::r,d,0,_,h=>by simpa [X6,mvN] using h
 | x::r,d,y+1,_,h=>Z6o (σ:=r) h
theorem Z6p:∀{σ:List Nat} {d y:Nat},σ.length<=y->mvN σ d y=d+(y-σ.length)
 | [],d,y,_=>by simp [mvN]
 | x::r,d,0,h=>by simp at h
 | x::r,d,y+1,h=>by
  simp at h
  have:=Z6p (σ:=r) (d:=d) h
  simp [mvN,this]
theorem Q5:∀{σ:List Nat} {y:Nat},y<σ.length->∃x,X6 σ y=some x
 | [],_,h=>by simp at h
 | x::r,0,_=>⟨x,rfl⟩
 | x::r,y+1,h=>Q5 (σ:=r) (by simpa using h)
mutual
/-- Names moved. -/
def mvV (σ:List Nat) (d:Nat):AV->Option AV
 | .top=>some .top
 | .bool b=>some (.bool b)
 | .int k n=>some (.int k n)
 | .str s=>some (.str s)
 | .ptr none=>some (.ptr none)
 | .ptr (some p)=>some (.ptr (some ⟨mvN σ d p.blk,p.row,p.sz,p.off,p.inn⟩))
 | .nslice p esz len lo=>some (.nslice ⟨mvN σ d p.blk,p.row,p.sz,p.off,p.inn⟩ esz len lo)
 | .eslice=>some .eslice
 | .fslice=>some .fslice
 | .nilslice=>some .nilslice
 | .map none=>some (.map none)
 | .map (some x)=>some (.map (some (mvN σ d x)))
 | .nilFunc=>some .nilFunc
 | .nilIface=>some .nilIface
 | .func (.func g) fs cs=>match mvL σ d fs,mvL σ d cs with
  | some fs',some cs'=>some (.func (.func g) fs' cs')
  | _,_=>none
 | .iface t v=>match mvV σ d v with|some v'=>some (.iface t v')|none=>none
 | .agg cs=>match mvC σ d cs with|some cs'=>some (.agg cs')|none=>none
 | .tuple vs=>match mvL σ d vs with|some vs'=>some (.tuple vs')|none=>none
 | _=>none
def mvC (σ:List Nat) (d:Nat):List AV->Option (List AV)
 | []=>some []
 | .arr k n xs::r=>match mvC σ d r with|some r'=>some (.arr k n xs::r')|none=>none
 | v::r=>match mvV σ d v,mvC σ d r with
  | some v',some r'=>match v'.isCell with|true=>some (v'::r')|false=>none
  | _,_=>none
def mvL (σ:List Nat) (d:Nat):List AV->Option (List AV)
 | []=>some []
 | v::r=>match mvV σ d v,mvL σ d r with
  | some v',some r'=>some (v'::r')
  | _,_=>none
end
theorem Uj (h:v.isCell=true) (r:List AV):csz (v::r)=1+csz r:=by
 cases v<;>simp_all [AV.isCell,csz]
set_option maxHeartbeats 1000000 in
mutual
theorem Z23 {σ:List Nat} {d:Nat} {E E':Env} (hb:∀x r,E.blk x=some r->E'.blk (mvN σ d x)=some r):∀(v v':AV) (r:Value),mvV σ d v=some v'->Zc E v r->Zc E' v' r:=by
 intro v v' r h hv
 unfold mvV at h
 split at h
 ·cases h;exact .top r
 ·cases h;exact hv.plain rfl
 ·cases h;exact hv.plain rfl
 ·cases h;exact hv.plain rfl
 ·cases h;exact hv.plain rfl
 ·cases h
  cases hv with
  | ptr p b N hq=>exact .ptr ⟨mvN σ d _,_,_,_,_⟩ b N (hb _ _ hq)
 ·cases h
  cases hv with
  | nslice0 p esz len lo a h1 h2=>exact .nslice0 _ _ _ _ a h1 h2
  | nslice p esz len lo b N cap hq h1 h2 h3=>exact .nslice ⟨mvN σ d _,_,_,_,_⟩ _ _ _ b N cap (hb _ _ hq) h1 h2 h3
 ·cases h;exact hv.plain rfl
 ·cases h;exact hv.plain rfl
 ·cases h;exact hv.plain rfl
 ·cases h;exact hv.plain rfl
 ·cases h
  cases hv with
  | map x b N hq=>exact .map _ b N (hb _ _ hq)
 ·cases h;exact hv.plain rfl
 ·cases h;exact hv.plain rfl
 ·split at h
  ·rename_i fs' cs' h1 h2
   cases h
   cases hv with
   | func fn first captured fs cs ha hc=>exact .func _ _ _ _ _ (Z06 hb _ _ _ h1 ha) (Z06 hb _ _ _ h2 hc)
  ·cases h
 ·split at h
  ·rename_i v1 h1
   cases h
   cases hv with
   | iface t v x hx=>exact .iface _ _ _ (Z23 hb _ _ _ h1 hx)
  ·cases h
 ·split at h
  ·rename_i cs' h1
   cases h
   cases hv with
   | agg cs vs hc=>exact .agg _ _ (Z24 hb _ _ _ h1 hc).1
  ·cases h
 ·split at h
  ·rename_i vs' h1
   cases h
   cases hv with
   | tuple vs rs hc=>exact .tuple _ _ (Z06 hb _ _ _ h1 hc)
  ·cases h
 ·cases h
theorem Z24 {σ:List Nat} {d:Nat} {E E':Env} (hb:∀x r,E.blk x=some r->E'.blk (mvN σ d x)=some r):∀(l l':List AV) (r:List Value),mvC σ d l=some l'->Zn E l r->Zn E' l' r/\csz l'=csz l:=by
 intro l l' r h hv
 unfold mvC at h
 split at h
 ·cases h;cases hv;exact ⟨.nil,rfl⟩
 ·split at h
  ·rename_i r' h1
   cases h
   obtain ⟨ws,rfl,ht⟩:=Zn.cons_arr hv
   have:=Z24 hb _ _ _ h1 ht
   exact ⟨.arr _ _ _ _ _ this.1,by simp [csz,this.2]⟩
  ·cases h
 ·rename_i v r2 hna
  split at h
  ·rename_i v1 r1 h1 h2
   split at h
   ·rename_i hcell
    cases h
    obtain ⟨c,ws,rfl,q1,q2,q3,q4⟩:=Zn.cons_cell hv (fun k m xs e=>hna k m xs e)
    have:=Z24 hb _ _ _ h2 q4
    exact ⟨.one _ _ _ _ hcell q2 (Z23 hb _ _ _ h1 q3) this.1,by rw [Uj hcell,Uj q1,this.2]⟩
   ·cases h
  ·cases h
theorem Z06 {σ:List Nat} {d:Nat} {E E':Env} (hb:∀x r,E.blk x=some r->E'.blk (mvN σ d x)=some r):∀(l l':List AV) (r:List Value),mvL σ d l=some l'->Zw E l r->Zw E' l' r:=by
 intro l l' r h hv
 unfold mvL at h
 split at h
 ·cases h;cases hv;exact .nil
 ·split at h
  ·rename_i v1 r1 h1 h2
   cases h
   cases hv with
   | cons v c vs cs ha hc=>exact .cons _ _ _ _ (Z23 hb _ _ _ h1 ha) (Z06 hb _ _ _ h2 hc)
  ·cases h
end
theorem ZbA {d:Nat}:∀(l l':List AV),mvC σ d l=some l'->csz l'=csz l:=by
 intro l
 induction l with
 | nil=>intro l' h;unfold mvC at h;cases h;rfl
 | cons v r ih=>
  intro l' h
  unfold mvC at h
  split at h
  ·rename_i hq;cases hq
  ·rename_i hq
   cases hq
   split at h
   ·rename_i r' h1
    cases h
    simp [csz,ih _ h1]
   ·cases h
  ·rename_i hna hq
   cases hq
   split at h
   ·rename_i v1 r1 h1 h2
    split at h
    ·rename_i hcell
     cases h
     have hv:v.isCell=true\/v.isCell=false:=by cases v.isCell<;>simp
     rcases hv with hv|hv
     ·rw [Uj hcell,Uj hv,ih _ h2]
     ·cases v with
      | arr k n xs=>exact absurd rfl (hna k n xs)
      | agg cs=>unfold mvV at h1;split at h1<;>cases h1;simp [AV.isCell] at hcell
      | tuple cs=>unfold mvV at h1;split at h1<;>cases h1;simp [AV.isCell] at hcell
      | _=>simp [AV.isCell] at hv
    ·cases h
   ·cases h
inductive MvB (σ:List Nat) (d:Nat):Blk->Blk->Prop
 | ints (k:IntKind) (xs:LI):MvB σ d (.ints k xs) (.ints k xs)
 | flat (cs cs':List AV) (h:mvC σ d cs=some cs'):MvB σ d (.flat cs) (.flat cs')
 | rows (sz n:Nat) (f:Nat->List AV) (h:∀i,i<n->plainC (f i)=true):MvB σ d (.rows sz n f) (.rows sz n f)
 | rowsM (sz n:Nat) (f f':Nat->List AV) (h:∀i,i<n->mvC σ d (f i)=some (f' i)):MvB σ d (.rows sz n f) (.rows sz n f')
 | pmap (es es':List (AV×AV)) (h1:mvL σ d (es.map (·.1))=some (es'.map (·.1))) (h2:mvL σ d (es.map (·.2))=some (es'.map (·.2))):MvB σ d (.pmap es) (.pmap es')
inductive Z6q (σ:List Nat) (d:Nat):List (Nat×Blk)->List (Nat×Blk)->Prop
 | nil:Z6q σ d [] []
 | cons (y x:Nat) (B B':Blk) (r r':List (Nat×Blk)) (hx:mvN σ d y=x) (h:MvB σ d B B') (t:Z6q σ d r r'):Z6q σ d ((y,B)::r) ((x,B')::r')
inductive MvO (σ:List Nat) (d:Nat):Out->Out->Prop
 | ret (v v':AV) (h:mvV σ d v=some v'):MvO σ d (.ret v) (.ret v')
 | panic (v v':AV) (h:mvV σ d v=some v'):MvO σ d (.panic v) (.panic v')
theorem Z6q.get {d:Nat}:∀{bs bs':List (Nat×Blk)},Z6q σ d bs bs'->∀x B',ZC bs' x=some B'->∃y B,mvN σ d y=x/\ZC bs y=some B/\MvB σ d B B'
 | _,_,.nil,x,B',h=>by simp [ZC] at h
 | _,_,.cons y x0 B B0 r r' hx hm t,x,B',h=>by
  unfold ZC at h
  split at h
  ·rename_i hb
   have:=J0 hb
   cases h
   exact ⟨y,B,hx.trans this,by simp [ZC,Jg],hm⟩
  ·rename_i hb
   obtain ⟨z,C,h1,h2,h3⟩:=t.get x B' h
   refine ⟨z,C,h1, ?_,h3⟩
   have hne:y≠z:=fun e=>by subst e;rw [hx] at h1;subst h1;simp [Jg] at hb
   simp [ZC,Zs hne,h2]
theorem MvB.move {d:Nat} {B':Blk} (hm:MvB σ d B B') {E:Env} {w:World} {y:Nat} (hb:∀x r,E.blk x=some r->E'.blk (mvN σ d x)=some r) (hn:E.blk y=none->E'.blk (mvN σ d y)=none) (h:Ye E w y B):Ye E' w (mvN σ d y) B':=by
 cases hm with
 | ints k xs=>cases h with
  | ints0 k xs h0 hq=>exact .ints0 _ _ h0 (hn hq)
  | ints k xs b cells elem fr hq hw hf hv=>exact .ints _ _ b cells elem fr (hb _ _ hq) hw hf hv
 | flat cs cs' hc=>cases h with
  | flat0 cs h0 hq=>exact .flat0 _ ((ZbA _ _ hc).trans h0) (hn hq)
  | flat cs b cells elem fr vs hq hw hf hcr hv=>exact .flat _ b cells elem fr vs (hb _ _ hq) hw hf (Z24 hb _ _ _ hc hcr).1 hv
 | rows sz n f hp=>cases h with
  | rows0 sz n f h0 hq=>exact .rows0 _ _ _ h0 (hn hq)
  | rows sz n f b cells elem fr g hq hw hf hcr hl hv=>exact .rows _ _ _ b cells elem fr g (hb _ _ hq) hw hf (fun i hi=>(hcr i hi).plain (hp i hi)) hl hv
 | rowsM sz n f f' hp=>cases h with
  | rows0 sz n f h0 hq=>exact .rows0 _ _ _ h0 (hn hq)
  | rows sz n f b cells elem fr g hq hw hf hcr hl hv=>exact .rows _ _ _ b cells elem fr g (hb _ _ hq) hw hf (fun i hi=>(Z24 hb _ _ _ (hp i hi) (hcr i hi)).1) hl hv
 | pmap es es' h1 h2=>cases h with
  | pmap es b k ents ents' clock hq hw hpp hnn hi hk hv=>exact .pmap _ b k ents ents' clock (hb _ _ hq) hw hpp hnn hi (Z06 hb _ _ _ h1 hk) (Z06 hb _ _ _ h2 hv)
def Uk (σ:List Nat) (bs:List (Nat×Blk)):List (Nat×Blk):=match σ with
 | []=>bs
 | x::r=>Uk r (Yu bs x)
theorem Z0t:∀{σ:List Nat} {bs:List (Nat×Blk)} {x:Nat} {B:Blk},ZC (Uk σ bs) x=some B->ZC bs x=some B/\x∉σ
 | [],bs,x,B,h=>⟨h,by simp⟩
 | y::r,bs,x,B,h=>by
  obtain ⟨h1,h2⟩:=Z0t (σ:=r) h
  by_cases hn:y=x
  ·subst hn;rw [Uu] at h1;cases h1
  ·rw [Wc _ _ _ hn] at h1
   exact ⟨h1,by simp [h2,Ne.symm hn]⟩
theorem Spec.calls {P:Program} {f:FuncId} {args₀:List AV} {Bs:List Blk} {o o':Out} {nx:Nat} {bs bs':List (Nat×Blk)} {h:Z9} {K:KO} (hc:Spec P f args₀ ⟨σ.length,XX 0 σ Bs⟩ o nx bs)
  (hlen:Bs.length=σ.length) (hm:∀x,x∈σ->∃B,h.get x=some B) (hd:Z32 σ=true)
  (hx:∀(i x:Nat) (B:Blk),X6 σ i=some x->Bs[i]? =some B->∃B',h.get x=some B'/\∀(E:Env) (w:World),Emb E h w->Ye E w x B'->Ye (E.borL σ w true) w i B)
  (ha:∀(E:Env) (w:World) (r:List Value),Emb E h w->Zw E args r->Zw (E.borL σ w true) args₀ r)
  (hnx:σ.length<=nx) (ho:MvO σ h.next o o') (hb:Z6q σ h.next bs bs') (hK:K o' ⟨h.next+(nx-σ.length),VS bs' (Uk σ h.bs)⟩):Zh P f args h K:=by
 intro E w rs he hr
 let E0:=E.borL σ w true
 have hsub:∀i x,X6 σ i=some x->E0.blk i=E.blk x:=fun i x hi=>by
  show (match X6 σ i with|some x=>E.blk x|none=>none)=_
  rw [hi]
 have hnone:∀i,σ.length<=i->E0.blk i=none:=fun i hi=>by
  show (match X6 σ i with|some x=>E.blk x|none=>none)=_
  rw [Z7p hi]
 have hσlt:∀x,x∈σ->x<h.next:=fun x hx=>let ⟨B,hB⟩:=hm x hx;he.lt x B hB
 have hsb:∀y B,ZC (XX 0 σ Bs) y=some B->∃x,X6 σ y=some x/\Bs[y]? =some B:=fun y B hy=>by
  obtain ⟨i,x,rfl,h1,h2⟩:=Xy σ Bs 0 y B hy
  rw [JE]
  exact ⟨x,by rw [Z22];exact h1,h2⟩
 have hinj:∀y z x,X6 σ y=some x->X6 σ z=some x->y=z:=fun y z x h1 h2=>by
  have a:=VU hd y x h1
  have b:=VU hd z x h2
  rw [a] at b
  cases b
  rfl
 have hemb:Emb E0 ⟨σ.length,XX 0 σ Bs⟩ w:=by
  refine ⟨hnone, ?_, ?_, ?_,fun _ _ h=>h.1, ?_⟩
  ·intro y B hy
   obtain ⟨x,h1,_⟩:=hsb y B hy
   exact Z7o h1
  ·intro y B hy
   obtain ⟨x,h1,h2⟩:=hsb y B hy
   obtain ⟨B',hB',hq⟩:=hx y x B h1 h2
   exact hq E w he (he.own x B' hB')
  ·intro y z B C b N N' hy hz hby hbz
   obtain ⟨x,h1,h2⟩:=hsb y B hy
   obtain ⟨x',h3,h4⟩:=hsb z C hz
   rw [hsub y x h1] at hby
   rw [hsub z x' h3] at hbz
   obtain ⟨B',hB'⟩:=hm x (Xq h1)
   obtain ⟨C',hC'⟩:=hm x' (Xq h3)
   have:=he.disj x x' B' C' b N N' hB' hC' hby hbz
   subst this
   exact hinj y z x h1 h3
  ·intro a c y B N hi hy hbb
   obtain ⟨x,h1,_⟩:=hsb y B hy
   rw [hsub y x h1] at hbb
   exact hi.2 x (Xq h1) N hbb
 refine (hc E0 w rs hemb (ha E w rs he hr)).mono ?_
 rintro e w' ⟨E₁,hev,hor⟩
 let E':Env:=⟨fun x=>match Xp σ x with
  | some i=>E₁.blk i
  | none=>if x<h.next then E.blk x else E₁.blk (x-h.next+σ.length),E.imm⟩
 have hρ:∀y,E'.blk (mvN σ h.next y)=E₁.blk y:=fun y=>by
  rcases J7 y σ.length with hlt|hge
  ·obtain ⟨x,hx'⟩:=Q5 hlt
   rw [Z6o hx']
   show (match Xp σ x with|some i=>_|none=>_)=_
   rw [VU hd y x hx']
  ·rw [Z6p hge]
   have hn:Xp σ (h.next+(y-σ.length))=none:=by
    cases hq:Xp σ (h.next+(y-σ.length)) with
    | none=>rfl
    | some i=>have:=hσlt _ (Xq (V5 hq));omega
   show (match Xp σ _ with|some i=>_|none=>_)=_
   rw [hn]
   show (if _ then _ else _)=_
   rw [if_neg (by omega)]
   congr 1
   omega
 have hold:∀x,x<h.next->Xp σ x=none->E'.blk x=E.blk x:=fun x hx hn=>by
  show (match Xp σ x with|some i=>_|none=>_)=_
  rw [hn]
  exact if_pos hx
 have hfresh:∀x,E.blk x≠none->x<h.next:=fun x hx=>by
  rcases J7 x h.next with hl|hg
  ·exact hl
  ·exact absurd (he.fresh x hg) hx
 have hle:E.le E':=⟨fun x q hq=>by
  cases hi:Xp σ x with
  | some i=>
   show (match Xp σ x with|some i=>_|none=>_)=_
   rw [hi]
   exact hev.le.blk i q ((hsub i x (V5 hi)).trans hq)
  | none=>rw [hold x (hfresh x (by rw [hq];simp)) hi];exact hq,fun _ _ h=>h⟩
 have hown0:∀b,YX E0 ⟨σ.length,XX 0 σ Bs⟩ b->∃x N,x∈σ/\E.blk x=some (b,N):=fun b ⟨y,B,N,hy,hbb⟩=>by
  obtain ⟨x,h1,_⟩:=hsb y B hy
  exact ⟨x,N,Xq h1,by rw [<-hsub y x h1];exact hbb⟩
 have hkeep:∀b,b<w.heap.size->(∀x N,x∈σ->E.blk x=some (b,N)->False)->w'.heap[b]? =w.heap[b]?:=fun b hb hn=>hev.keep b hb (fun ho=>let ⟨x,N,h1,h2⟩:=hown0 b ho;hn x N h1 h2)
 have hget:∀x B',Z9.get ⟨h.next+(nx-σ.length),VS bs' (Uk σ h.bs)⟩ x=some B'->
   (∃y B,mvN σ h.next y=x/\ZC bs y=some B/\MvB σ h.next B B')\/(x<h.next/\x∉σ/\h.get x=some B'):=fun x B' hx=>by
  simp only [Z9.get,Z2V] at hx
  split at hx
  ·rename_i B0 hq
   cases hx
   exact .inl (hb.get x _ hq)
  ·obtain ⟨h1,h2⟩:=Z0t hx
   exact .inr ⟨he.lt x B' h1,h2,h1⟩
 have hni:∀x,x∉σ->Xp σ x=none:=fun x hx=>by
  cases hq:Xp σ x with
  | none=>rfl
  | some i=>exact absurd (Xq (V5 hq)) hx
 have hmix:∀y B z C b N N',ZC bs y=some B->E₁.blk y=some (b,N)->z∉σ->h.get z=some C->E.blk z=some (b,N')->False:=fun y B z C b N N' hy hby hz hz' hbz=>by
  rcases hev.own b ⟨y,B,N,hy,hby⟩ with ho|hs
  ·obtain ⟨x,M,h1,h2⟩:=hown0 b ho
   obtain ⟨D,hD⟩:=hm x h1
   have:=he.disj x z D C b M N' hD hz' h2 hbz
   subst this
   exact hz h1
  ·have:=(he.own z C hz').lt hbz
   omega
 have himm0:∀a c,E.imm a c->E0.imm a c:=fun a c hi=>⟨he.imm a c hi,fun x hx N hbb=>let ⟨B,hB⟩:=hm x hx;he.sep a c x B N hi hB hbb⟩
 have hemb':Emb E' ⟨h.next+(nx-σ.length),VS bs' (Uk σ h.bs)⟩ w':=by
  refine ⟨?_, ?_, ?_, ?_, ?_, ?_⟩
  ·intro x hx
   have hx':h.next+(nx-σ.length)<=x:=hx
   have hn:Xp σ x=none:=hni x (fun hq=>by have:=hσlt x hq;omega)
   show (match Xp σ x with|some i=>_|none=>_)=_
   rw [hn]
   show (if _ then _ else _)=_
   rw [if_neg (by omega)]
   exact hev.emb.fresh _ (by show nx<=_;omega)
  ·intro x B hx
   show x<h.next+(nx-σ.length)
   rcases hget x B hx with ⟨y,B0,rfl,hy,_⟩|⟨hlt,_,_⟩
   ·have hyn:y<nx:=hev.emb.lt y B0 hy
    rcases J7 y σ.length with hlt|hge
    ·obtain ⟨x,hx'⟩:=Q5 hlt
     rw [Z6o hx']
     have:=hσlt x (Xq hx')
     omega
    ·rw [Z6p hge]
     omega
   ·omega
  ·intro x B hx
   rcases hget x B hx with ⟨y,B0,rfl,hy,hmv⟩|⟨hlt,hnσ,hx'⟩
   ·exact hmv.move (E:=E₁) (fun x r hq=>by rw [hρ];exact hq) (fun hq=>by rw [hρ];exact hq) (hev.emb.own y B0 hy)
   ·have h1:=(he.own x B hx').mono hle (fun hn=>by rw [hold x hlt (hni x hnσ)];exact hn)
    refine h1.congr fun b N hbb=> ?_
    rw [hold x hlt (hni x hnσ)] at hbb
    refine hkeep b ((he.own x B hx').lt hbb) fun z M hz hbz=> ?_
    obtain ⟨D,hD⟩:=hm z hz
    have:=he.disj x z B D b N M hx' hD hbb hbz
    subst this
    exact hnσ hz
  ·intro x z B C b N N' hx hz hbx hbz
   rcases hget x B hx with ⟨y,B0,rfl,hy,hmv⟩|⟨hlt,hnσ,hx'⟩<;>rcases hget z C hz with ⟨y',C0,rfl,hy',hmv'⟩|⟨hlt',hnσ',hz'⟩
   ·rw [hρ] at hbx hbz
    rw [hev.emb.disj y y' B0 C0 b N N' hy hy' hbx hbz]
   ·rw [hρ] at hbx
    rw [hold z hlt' (hni z hnσ')] at hbz
    exact (hmix y B0 z C b N N' hy hbx hnσ' hz' hbz).elim
   ·rw [hρ] at hbz
    rw [hold x hlt (hni x hnσ)] at hbx
    exact (hmix y' C0 x B b N' N hy' hbz hnσ hx' hbx).elim
   ·rw [hold x hlt (hni x hnσ)] at hbx
    rw [hold z hlt' (hni z hnσ')] at hbz
    exact he.disj x z B C b N N' hx' hz' hbx hbz
  ·intro a c hi
   exact hev.emb.imm a c (hev.le.imm a c (himm0 a c hi))
  ·intro a c x B N hi hx hbx
   rcases hget x B hx with ⟨y,B0,rfl,hy,hmv⟩|⟨hlt,hnσ,hx'⟩
   ·rw [hρ] at hbx
    exact hev.emb.sep a c y B0 N (hev.le.imm a c (himm0 a c hi)) hy hbx
   ·rw [hold x hlt (hni x hnσ)] at hbx
    exact he.sep a c x B N hi hx' hbx
 refine ⟨E',o',_,hK,⟨hle,hemb',hev.size,hev.os,hev.tape,hev.output,fun b hb' hno=>hkeep b hb' (fun x N hx hbx=> ?_), ?_,fun _ _ h=>h⟩, ?_⟩
 ·obtain ⟨B,hB⟩:=hm x hx
  exact hno ⟨x,B,N,hB,hbx⟩
 ·rintro b ⟨x,B,N,hx,hbx⟩
  rcases hget x B hx with ⟨y,B0,rfl,hy,hmv⟩|⟨hlt,hnσ,hx'⟩
  ·rw [hρ] at hbx
   rcases hev.own b ⟨y,B0,N,hy,hbx⟩ with ho|hs
   ·obtain ⟨z,M,h1,h2⟩:=hown0 b ho
    obtain ⟨D,hD⟩:=hm z h1
    exact .inl ⟨z,D,M,hD,h2⟩
   ·exact .inr hs
  ·rw [hold x hlt (hni x hnσ)] at hbx
   exact .inl ⟨x,B,N,hx',hbx⟩
 ·cases ho with
  | ret v v' hv=>cases hor with
   | ret v r hr=>exact .ret _ _ (Z23 (fun x q hq=>by rw [hρ];exact hq) _ _ _ hv hr)
  | panic v v' hv=>cases hor with
   | panic v r hr=>exact .panic _ _ (Z23 (fun x q hq=>by rw [hρ];exact hq) _ _ _ hv hr)
theorem Spec.fsumm {P:Program} {f:FuncId} {h:Z9} {d:Nat} {K:KO} (hl:frA σ h d args K0)
  (hK:∀Bs a₀,Bs.length=σ.length->K0 Bs a₀->∃o nx bs o' bs',Spec P f a₀ ⟨σ.length,XX 0 σ Bs⟩ o nx bs/\σ.length<=nx/\MvO σ h.next o o'/\Z6q σ h.next bs bs'/\K o' ⟨h.next+(nx-σ.length),VS bs' (Uk σ h.bs)⟩):Zh P f args h K:=by
 obtain ⟨hm,hd,Bs,a,hK0,hlen,hx,ha⟩:=Ze1 hl
 obtain ⟨o,nx,bs,o',bs',h1,h2,h3,h4,h5⟩:=hK Bs a hlen hK0
 exact Spec.calls h1 hlen hm hd hx ha h2 h3 h4 h5
end Go.Tk
end
section
namespace Go.Tk
open IntKind (i64 u8 u32 u64 wrap)
def goL (k:Nat) (τ:Ren) (S0:St) (C:Prop) (ends:KE->Prop):Nat->St->KE->Prop:=fun k' s X=>match Nat.beq k' k with
 | true=>ZK k τ S0 s (C/\ends X)
 | false=>False
def Z0u (id n:Nat) (go ex re:Nat->Prop) (En Rn:Nat->St):KE->Prop:=fun X=>
 ∀i,i<=n->(∀j,j<i->go j)->(ex i->X (.exit id) (En i))/\(re i->X .ret (Rn i))
theorem Zf.withGo {G:Zf} (hG:G.Ok) {f:FuncId} {id k N n:Nat} {τ0 τ1 τ2 τ3:Ren} {S En Rn:Nat->St} {S0:St} {C:Prop} {go ex re:Nat->Prop} (h1:V0 G.P f id=true) (hC:C->S 0=S0/\
   ∀i,i<=n->(∀j,j<i->go j)->ZW G N f id k (S i) fun e s=>match e with
    | .normal=>ZK k τ1 (S (i+1)) s (go i/\i<n)
    | .exit x=>(match Nat.beq x id with|true=>ZK k τ2 (En i) s (ex i)|false=>False)
    | .ret=>ZK k τ3 (Rn i) s (re i)
    | _=>False):
  (G.withL f id (goL k τ0 S0 C (Z0u id n go ex re En Rn))).Ok:=by
 refine Zf.withL_ok hG h1 ?_
 intro k' s X hl
 unfold goL at hl
 split at hl
 ·rename_i hk
  have:=J0 hk
  subst this
  obtain ⟨⟨hc,hX⟩,hw⟩:=ZT hl
  obtain ⟨e0,hr⟩:=hC hc
  refine ⟨{ t:Nat//t<=n/\∀j,j<t->go j},fun t=>n-t.1,fun t=>S t.1,⟨0,JI _,fun j hj=>by omega⟩,N,by show UZ k' s (S 0);rw [e0];exact hw, ?_⟩
  rintro ⟨t,ht,hgo⟩
  refine ⟨_,hr t ht hgo, ?_⟩
  intro e s' hY
  split at hY
  ·obtain ⟨⟨hg,hlt⟩,hw'⟩:=ZT hY
   refine ⟨⟨t+1,hlt,fun j hj=> ?_⟩,by show n-(t+1)<n-t;omega,hw'⟩
   by_cases hjt:j=t
   ·rw [hjt];exact hg
   ·exact hgo j (by omega)
  ·split at hY
   ·rename_i hi
    have:=J0 hi
    subst this
    obtain ⟨hex,hw'⟩:=ZT hY
    exact ⟨_,hw',(hX t ht hgo).1 hex⟩
   ·exact hY.elim
  ·obtain ⟨hre,hw'⟩:=ZT hY
   exact ⟨_,hw',(hX t ht hgo).2 hre⟩
  ·exact hY.elim
 ·exact hl.elim
def XY (id n l:Nat) (go ex re jm:Nat->Prop) (En Rn Jn:Nat->St):KE->Prop:=fun X=>
 ∀i,i<=n->(∀j,j<i->go j)->(ex i->X (.exit id) (En i))/\(re i->X .ret (Rn i))/\(jm i->X (.goto l) (Jn i))
theorem Zf.withGoJ {G:Zf} (hG:G.Ok) {f:FuncId} {id k N n l:Nat} {τ0 τ1 τ2 τ3 τ4:Ren} {S En Rn Jn:Nat->St} {S0:St} {C:Prop} {go ex re jm:Nat->Prop} (h1:V0 G.P f id=true) (hC:C->S 0=S0/\
   ∀i,i<=n->(∀j,j<i->go j)->ZW G N f id k (S i) fun e s=>match e with
    | .normal=>ZK k τ1 (S (i+1)) s (go i/\i<n)
    | .exit x=>(match Nat.beq x id with|true=>ZK k τ2 (En i) s (ex i)|false=>False)
    | .ret=>ZK k τ3 (Rn i) s (re i)
    | .goto x=>(match Nat.beq x l with|true=>ZK k τ4 (Jn i) s (jm i)|false=>False)
    | _=>False):
  (G.withL f id (goL k τ0 S0 C (XY id n l go ex re jm En Rn Jn))).Ok:=by
 refine Zf.withL_ok hG h1 ?_
 intro k' s X hl
 unfold goL at hl
 split at hl
 ·rename_i hk
  have:=J0 hk
  subst this
  obtain ⟨⟨hc,hX⟩,hw⟩:=ZT hl
  obtain ⟨e0,hr⟩:=hC hc
  refine ⟨{ t:Nat//t<=n/\∀j,j<t->go j},fun t=>n-t.1,fun t=>S t.1,⟨0,JI _,fun j hj=>by omega⟩,N,by show UZ k' s (S 0);rw [e0];exact hw, ?_⟩
  rintro ⟨t,ht,hgo⟩
  refine ⟨_,hr t ht hgo, ?_⟩
  intro e s' hY
  split at hY
  ·obtain ⟨⟨hg,hlt⟩,hw'⟩:=ZT hY
   refine ⟨⟨t+1,hlt,fun j hj=> ?_⟩,by show n-(t+1)<n-t;omega,hw'⟩
   by_cases hjt:j=t
   ·rw [hjt];exact hg
   ·exact hgo j (by omega)
  ·split at hY
   ·rename_i hi
    have:=J0 hi
    subst this
    obtain ⟨hex,hw'⟩:=ZT hY
    exact ⟨_,hw',(hX t ht hgo).1 hex⟩
   ·exact hY.elim
  ·obtain ⟨hre,hw'⟩:=ZT hY
   exact ⟨_,hw',(hX t ht hgo).2.1 hre⟩
  ·split at hY
   ·rename_i hi
    have:=J0 hi
    subst this
    obtain ⟨hjm,hw'⟩:=ZT hY
    exact ⟨_,hw',(hX t ht hgo).2.2 hjm⟩
   ·exact hY.elim
  ·exact hY.elim
 ·exact hl.elim
theorem WJ {p x:Prop} [Decidable p]:Z7 (decide p) x False=(p/\x):=by
 by_cases h:p
 ·rw [decide_eq_true h];simp [Z7,h]
 ·rw [decide_eq_false h];simp [Z7,h]
theorem ZbB {p x:Prop} [Decidable p]:Z7 (decide p) False x=(¬p/\x):=by
 by_cases h:p
 ·rw [decide_eq_true h];simp [Z7,h]
 ·rw [decide_eq_false h];simp [Z7,h]
theorem Z43 {p x y:Prop} [Decidable p]:Z7 (decide p) x y=((p->x)/\(¬p->y)):=by
 by_cases h:p
 ·rw [decide_eq_true h];simp [Z7,h]
 ·rw [decide_eq_false h];simp [Z7,h]
theorem Z7s {b:Bool} {x:Prop}:Z7 b x False=(b=true/\x):=by cases b<;>simp [Z7]
theorem ZbC {b:Bool} {x:Prop}:Z7 b False x=(b=false/\x):=by cases b<;>simp [Z7]
theorem Qx {b:Bool} {x y:Prop}:Z7 b x y=((b=true->x)/\(b=false->y)):=by cases b<;>simp [Z7]
def Z5 (b:Bool) (x:Prop):Prop:=Z7 b x False
theorem vcA:(∀(p x:Prop) [Decidable p],Z7 (decide p) x False=(p/\x))/\(∀(p x:Prop) [Decidable p],Z6 p x=(p/\x))/\(∀(p x:Prop) [Decidable p],Z5 (decide p) x=(p/\x))/\∀(p x:Prop) [Decidable p],Z7 (decide p) False x=(¬p/\x):=
 ⟨fun _ _ _=>WJ,fun _ _ _=>WJ,fun _ _ _=>WJ,fun _ _ _=>ZbB⟩
theorem vcB:(∀(p x y:Prop) [Decidable p],Z7 (decide p) x y=((p->x)/\(¬p->y)))/\(∀(b:Bool) (x:Prop),Z7 b x False=(b=true/\x))/\(∀(b:Bool) (x:Prop),Z5 b x=(b=true/\x))/\∀(b:Bool) (x:Prop),Z7 b False x=(b=false/\x):=
 ⟨fun _ _ _ _=>Z43,fun _ _=>Z7s,fun _ _=>Z7s,fun _ _=>ZbC⟩
theorem W4:(∀(p x:Prop) [Decidable p],Z7 (decide p) x False=(p/\x))/\(∀(p x:Prop) [Decidable p],Z6 p x=(p/\x))/\(∀(p x:Prop) [Decidable p],Z5 (decide p) x=(p/\x))/\(∀(b:Bool) (x:Prop),Z5 b x=Z7 b x False):=
 ⟨fun _ _ _=>WJ,fun _ _ _=>WJ,fun _ _ _=>WJ,fun _ _=>rfl⟩
theorem W5:∀(p x y:Prop) [Decidable p],Z7 (decide p) x y=((p->x)/\(¬p->y)):=fun _ _ _ _=>Z43
theorem vcC:(∀(b:Bool) (x y:Prop),Z7 b x y=((b=true->x)/\(b=false->y)))/\(∀n:Nat,((n:Int)).toNat=n)/\(∀n:Nat,0+n=n)/\(∀p:Prop,(True/\p)=p)/\(∀p:Prop,(p/\True)=p)/\∀n:Nat,(n<=n)=True:=
 ⟨fun _ _ _=>Qx,Kb,JE,true_and,and_true,fun n=>eq_true (J5 n)⟩
theorem Z8o {k:Nat} {τ:Ren} {v:AV} (hp:v.plain=true) (hc:v.isCell=true) {Z:Prop} (hZ:Z):eqV k τ v v Z:=by
 cases v with
 | ptr p=>cases p<;>simp_all [AV.plain,eqV]
 | map r=>cases r<;>simp_all [AV.plain,eqV]
 | _=>simp_all [AV.plain,eqV,U5,AV.isCell]
theorem Z33 {k:Nat} {τ:Ren}:∀{l:List AV},plainC l=true->∀{Z:Prop},Z->(∀v∈l,v.isCell=true\/∃k n xs,v=.arr k n xs)->eqC k τ l l Z
 | [],_,Z,hZ,_=>by simp [eqC,hZ]
 | v::r,hp,Z,hZ,hc=>by
  simp only [plainC,J3] at hp
  have hr:=Z33 (k:=k) (τ:=τ) hp.2 hZ (fun u hu=>hc u (Jp _ hu))
  rcases hc v (by simp) with hv|⟨kk,n,xs,rfl⟩
  ·have hna:∀a b c,v≠.arr a b c:=fun a b c e=>by subst e;simp [AV.isCell] at hv
   cases v with
   | arr a b c=>exact absurd rfl (hna a b c)
   | agg cs=>simp [AV.isCell] at hv
   | tuple cs=>simp [AV.isCell] at hv
   | _=>simp only [eqC,hv,Bool.and_self];exact Z8o hp.1 hv hr
  ·unfold eqC
   simp [hr,Jg]
theorem Z07 {k:Nat} {τ:Ren} {n:Nat} {f f':Nat->List AV} (h:∀i,i<n->f' i=f i) (hp:∀i,i<n->plainC (f i)=true) (hc:∀i,i<n->∀v∈f i,v.isCell=true\/∃k n xs,v=.arr k n xs):Zv k τ n f f':=
 ⟨fun i hi=>by rw [h i hi];exact Z33 (hp i hi) trivial (hc i hi)⟩
theorem Ze2 {a b:Nat} (h:a<b):Nat.blt a b=true:=by rw [Nat.blt_eq];exact h
theorem Ze3 {a b:Nat} (h:Nat.blt a b=true):a<b:=by rw [Nat.blt_eq] at h;exact h
theorem Z44 {n i:Nat} {f g:Nat->List AV} (h:i<n):Ym n f g i=f i:=by unfold Ym;rw [Ze2 h]
theorem Ul {n i:Nat} {f g:Nat->List AV} (h:n<=i):Ym n f g i=g (i-n):=by
 unfold Ym
 have:Nat.blt i n=false:=by
  cases hq:Nat.blt i n with
  | false=>rfl
  | true=>have:=Ze3 hq;omega
 rw [this]
theorem Zx.vrows0 {P:Program} {f:FuncId} {esz:Nat} {g:Nat->List AV} {v:AV} {nx:Nat} {bs:List (Nat×Blk)} (h1:Zx P f [.nilslice] v nx bs) (h2:Zx P f [.fslice] v nx bs):Zx P f [.vrows esz 0 g 0] v nx bs:=by
 intro E w rs he hr
 cases hr with
 | cons v r vs rs hv ht=>cases ht with
  | nil=>cases hv with
   | vrowsNil esz n f len _ _=>exact h1 E w _ he (.cons _ _ _ _ .nilslice .nil)
   | vrows esz n f len a cap g _ _ _ _ _=>exact h2 E w _ he (.cons _ _ _ _ (.fslice a cap) .nil)
theorem Zx.vints0 {P:Program} {f:FuncId} {k:IntKind} {v:AV} {nx:Nat} {bs:List (Nat×Blk)} (h1:Zx P f [.nilslice] v nx bs) (h2:Zx P f [.fslice] v nx bs):Zx P f [.vints k [] 0] v nx bs:=by
 intro E w rs he hr
 cases hr with
 | cons v r vs rs hv ht=>cases ht with
  | nil=>cases hv with
   | vintsNil k xs len _ _=>exact h1 E w _ he (.cons _ _ _ _ .nilslice .nil)
   | vints k xs len a cap _ _ _=>exact h2 E w _ he (.cons _ _ _ _ (.fslice a cap) .nil)
end Go.Tk
namespace Go.Tk
open IntKind (i64 u8 u32 u64 wrap)
mutual
theorem Q6 {mv:Option Nat} {h:Z9}:∀(d:Nat) (t:Bool) (v:AV) (K K':AV->Prop),VR mv h t d v K->(∀a,K a->K' a)->VR mv h t d v K'
 | 0,t,v,K,K',hl,hK=>by unfold VR at hl;exact hl.elim
 | d+1,t,v,K,K',hl,hK=>by
  unfold VR at hl⊢
  split at hl
  all_goals try exact hK _ hl
  all_goals try exact hl.elim
  ·split at hl
   ·split at hl
    ·exact hl.elim
    ·exact hK _ hl
   ·split at hl
    ·split at hl
     ·exact XA _ _ _ _ _ hl fun _ h=>hK _ h
     ·exact hl.elim
    ·split at hl
     ·obtain ⟨h1,h2⟩:=Zb hl
      refine U5 h1 ?_
      split at h2
      ·exact XA _ _ _ _ _ h2 fun _ h=>hK _ h
      ·exact h2.elim
     ·exact hl.elim
    ·exact hl.elim
  ·split at hl
   ·split at hl
    ·exact hl.elim
    ·exact hK _ hl
   ·split at hl
    ·split at hl
     ·obtain ⟨h1,h2⟩:=Zb hl
      exact U5 h1 (hK _ h2)
     ·exact hl.elim
    ·split at hl
     ·obtain ⟨h1,h2,h3⟩:=Zb hl
      exact U5 h1 ⟨h2,hK _ h3⟩
     ·exact hl.elim
    ·split at hl
     ·split at hl
      ·split at hl
       ·split at hl
        ·obtain ⟨h1,h2⟩:=Zb hl
         exact U5 h1 (hK _ h2)
        ·obtain ⟨h1,h2⟩:=Zb hl
         exact U5 h1 (hK _ h2)
        ·exact hl.elim
       ·exact hl.elim
      ·split at hl
       ·refine XA _ _ _ _ _ hl fun _ h=> ?_
        split at h
        ·exact hK _ h
        ·exact h.elim
       ·exact hl.elim
     ·exact hl.elim
    ·exact hl.elim
  ·exact Zk _ _ _ _ _ hl fun _ h=>Zk _ _ _ _ _ h fun _ h=>hK _ h
  ·exact Q6 _ _ _ _ _ hl fun _ h=>hK _ h
  ·exact XA _ _ _ _ _ hl fun _ h=>hK _ h
  ·exact Zk _ _ _ _ _ hl fun _ h=>hK _ h
theorem XA {mv:Option Nat} {h:Z9}:∀(d:Nat) (t:Bool) (l:List AV) (K K':List AV->Prop),V1 mv h t d l K->(∀a,K a->K' a)->V1 mv h t d l K'
 | 0,t,l,K,K',hl,hK=>by unfold V1 at hl;exact hl.elim
 | d+1,t,l,K,K',hl,hK=>by
  unfold V1 at hl⊢
  split at hl
  ·exact hK _ hl
  ·exact XA _ _ _ _ _ hl fun _ h=>hK _ h
  ·refine Q6 _ _ _ _ _ hl fun _ h=> ?_
   split at h
   ·exact XA _ _ _ _ _ h fun _ h=>hK _ h
   ·exact h.elim
theorem Zk {mv:Option Nat} {h:Z9}:∀(d:Nat) (t:Bool) (l:List AV) (K K':List AV->Prop),ZD mv h t d l K->(∀a,K a->K' a)->ZD mv h t d l K'
 | 0,t,l,K,K',hl,hK=>by unfold ZD at hl;exact hl.elim
 | d+1,t,l,K,K',hl,hK=>by
  unfold ZD at hl⊢
  split at hl
  ·exact hK _ hl
  ·exact Q6 _ _ _ _ _ hl fun _ h=>Zk _ _ _ _ _ h fun _ h=>hK _ h
end
end Go.Tk
end
section
namespace Go.Tk
open IntKind (i64 u8 u32 u64 wrap)
variable {τ:Ren} {xs:LI} {esz:Nat} {v:AV} {l:List AV}
def Zd (g:Nat->InS):Nat->List AV:=fun q=>(g q).c
def Ze (g:Nat->Zp):Nat->List AV:=fun q=>(g q).c
theorem InS.plainC (x:InS):plainC x.c=true:=rfl
theorem Zp.plainC (x:Zp):plainC x.c=true:=rfl
theorem InS.cells (x:InS):∀v∈x.c,v.isCell=true\/∃k n xs,v=.arr k n xs:=by simp [InS.c,AV.isCell]
theorem Zp.cells (x:Zp):∀v∈x.c,v.isCell=true\/∃k n xs,v=.arr k n xs:=by simp [Zp.c,AV.isCell]
theorem Yq {k:Nat} {n:Nat} {g:Nat->InS} {f:Nat->List AV} (h:∀i,i<n->f i=(g i).c):Zv k τ n (Zd g) f:=Z07 h (fun i _=>(g i).plainC) (fun i _=>(g i).cells)
theorem Yn {k:Nat} {n:Nat} {g:Nat->Zp} {f:Nat->List AV} (h:∀i,i<n->f i=(g i).c):Zv k τ n (Ze g) f:=Z07 h (fun i _=>(g i).plainC) (fun i _=>(g i).cells)
theorem ZbD (N:Nat) (g:Nat->InS) (hN:N+1<900000000000):
  evF G0 20 91 [.vrows 130 (N+1) (Zd g) (N+1)] ⟨0,[]⟩ (Yr 0 [(0,0)] (.nslice ⟨0,0,130,0,0⟩ 130 (N+1) (N+1)) 1 [(0,.rows 130 (N+1) (Zd g))]):=by
 refine @Eq.mpr _ (let a:=N+1;let b:=0+a;let c:=decide (b=a);
 Z7 (decide (b*144<=140737488355328)) (Z7 c (Z7 (decide (a<=b)) (Z7 c (Zv 0 [(0,0)] a (Zd g) (Ym 0 (fun (x:Nat)=>[]) (Zd g))/\True) False) False) False) False) (by kernel_rfl) ?_
 conv=>zeta
 refine nd (by omega) (nd (by omega) (nd (by omega) (nd (by omega) ⟨Yq fun i hi=> ?_,trivial⟩)))
 rw [Ul (JI _)];rfl
theorem ZbE (g:Nat->InS) :
  evF G0 20 91 [.nilslice] ⟨0,[]⟩ (Yr 0 [] (.nslice ⟨0,0,130,0,0⟩ 130 0 0) 1 [(0,.rows 130 0 (Zd g))]):=by
 refine @Eq.mpr _ (True) (by kernel_rfl) ?_
 trivial
theorem ZbF (g:Nat->InS) :
  evF G0 20 91 [.fslice] ⟨0,[]⟩ (Yr 0 [(0,0)] (.nslice ⟨0,0,130,0,0⟩ 130 0 0) 1 [(0,.rows 130 0 (Zd g))]):=by
 refine @Eq.mpr _ (Zv 0 [(0,0)] 0 (Zd g) (Ym 0 (fun (x:Nat)=>[]) fun (x:Nat)=>[])/\True) (by kernel_rfl) ?_
 exact ⟨Yq fun i hi=>by omega,trivial⟩
theorem Z6r (N:Nat) (g:Nat->InS) (hN:N<900000000000):Zx PP 91 [.vrows 130 N (Zd g) N] (.nslice ⟨0,0,130,0,0⟩ 130 N N) 1 [(0,.rows 130 N (Zd g))]:=by
 cases N with
 | zero=>exact Zx.vrows0 (.ev Zu (ZbE g)) (.ev Zu (ZbF g))
 | succ n=>exact .ev Zu (ZbD n g hN)
def Z9Y (N:Nat) (g:Nat->InS) (Z:Prop):Yb:=fun args h K=>ZD none h true 20 args fun a=>match a with
 | [.vrows 130 n f m]=>Z6 (n=N) (Z6 (m=N) (f=Zd g/\Z/\K (.ret (.nslice ⟨h.next,0,130,0,0⟩ 130 N N)) ⟨h.next+1,(h.next,.rows 130 N (Zd g))::h.bs⟩))
 | _=>False
theorem Z8p (N:Nat) (g:Nat->InS) (args:List AV) (h:Z9) (K:KO) (hl:Z9Y N g (N<900000000000) args h K):Zh PP 91 args h K:=by
 refine Zx.fsumm (d:=20) (Zk _ _ _ _ _ hl fun a ha=> ?_)
 split at ha
 ·obtain ⟨rfl,ha⟩:=Zb ha
  obtain ⟨rfl,rfl,hN,hK⟩:=Zb ha
  exact ⟨_,_,_,_,Z6r _ _ hN,rfl,⟨JV,.rows _ _ _ (fun i _=>(g i).plainC),trivial⟩,hK⟩
 ·exact ha.elim
def V6 (N:Nat) (g:Nat->InS) (t:Nat):Nat->InS:=fun q=>if q<t\/N<q+t+1 then g (N-1-q) else g q
def Q7 (N:Nat) (g:Nat->InS):Nat->InS:=fun q=>g (N-1-q)
def Z6s (N:Nat) (g:Nat->InS) (t:Nat):St:=⟨28,[(0,.nslice ⟨0,0,130,0,0⟩ 130 N N),(3,.int .i64 ((N:Int)-1-t)),(2,.int .i64 t)],⟨1,[(0,.rows 130 N (Zd (V6 N g t)))]⟩,[]⟩
theorem Zfp (N:Nat) (g:Nat->InS) (t:Nat) (hN:N<900000000000) (ht:t<=N) (hgo:∀j:Nat,j<t->(j:Int)<(N:Int)-1-j):
  ZW G0 20 244 0 1 (Z6s N g t) (fun e s=>match e with|.normal=>ZK 1 [] (Z6s N g (t+1)) s (((t:Int)<(N:Int)-1-t)/\t<N)|.exit x=>(match Nat.beq x 0 with|true=>ZK 1 [] (Z6s N g t) s (¬(t:Int)<(N:Int)-1-t)|false=>False)|.ret=>ZK 1 [] (Z6s N g t) s False|_=>False):=by
 refine @Eq.mpr _ (let m:=(↑N:Int)-1;let a:=m-(↑t:Int);let l:=decide (0<=a/\a<(↑N:Int));let f:=0+Int.toNat a;let k:=decide (0<=(↑t:Int)/\(↑t:Int)<(↑N:Int));let e:=0+Int.toNat (↑t:Int);let d:=decide (N=N);let j:=decide (N<=N);let i:=(↑(t+1):Int);let h:=Zd (V6 N g t);let c:=V6 N g t f;let b:=V6 N g t e;
 Z7 (decide ((↑t:Int)<a)) (Z7 l (Z7 (decide (f<N)) (Z7 k (Z7 (decide (e<N)) (Z7 k (Z7 (decide (e<N)) (Z7 l (Z7 (decide (f<N)) (Z7 d (Z7 j (Z7 (decide (wrap i64 (a-1)=m-i)) (Z7 (decide (wrap i64 ((↑t:Int)+1)=i)) (Z7 d (Zv 1 [] N (Zd (V6 N g (t+1))) (UI (UI h e [AV.arr u8 32 c.name,AV.int i64 c.index,AV.int i64 c.way,AV.arr u8 32 c.tag,AV.arr u8 32 c.also,AV.arr u8 32 c.secret]) f [AV.arr u8 32 b.name,AV.int i64 b.index,AV.int i64 b.way,AV.arr u8 32 b.tag,AV.arr u8 32 b.also,AV.arr u8 32 b.secret])/\(↑t:Int)<a/\t<N) False) False) False) False) False) False) False) False) False) False) False) False) False)
 (Z7 d (Z7 j (Z7 (decide (a=a)) (Z7 (decide ((↑t:Int)=(↑t:Int))) (Z7 d (Zv 1 [] N h h/\((↑t:Int)<a->False)) False) False) False) False) False)) (by kernel_rfl) ?_
 conv=>zeta
 simp only [WJ]
 simp only [Z43]
 have hrows:Zv 1 [] N (Zd (V6 N g t)) (Zd (V6 N g t)):=Yq fun _ _=>rfl
 refine ⟨fun h1=> ?_,fun h1=>by simp [hrows,h1]⟩
 have hw1:i64.wrap ((t:Int)+1)=(t:Int)+1:=w64 (by omega)
 have hw2:i64.wrap ((N:Int)-1-t-1)=(N:Int)-1-t-1:=w64 (by omega)
 have e1:0+((N:Int)-1-t).toNat=N-1-t:=by omega
 have e2:0+(t:Int).toNat=t:=by omega
 simp only [e1,e2,hw1,hw2]
 refine ⟨by omega,by omega,by omega,by omega,by omega,by omega,by omega,by omega,trivial,by omega,by omega,by omega,trivial,Yq fun q hq=> ?_,h1,by omega⟩
 rw [W1,W1]
 have g1:V6 N g t (N-1-t)=g (N-1-t):=by unfold V6;rw [if_neg (by omega)]
 have g2:V6 N g t t=g t:=by unfold V6;rw [if_neg (by omega)]
 rw [g1,g2]
 by_cases q1:q=N-1-t
 ·subst q1
  rw [Jg]
  show (g t).c=_
  unfold V6
  rw [if_pos (by omega)]
  congr 2;omega
 ·rw [Zs q1]
  by_cases q2:q=t
  ·subst q2
   rw [Jg]
   show (g (N-1-q)).c=_
   unfold V6
   rw [if_pos (by omega)]
  ·rw [Zs q2]
   show (V6 N g t q).c=_
   unfold V6
   congr 1
   by_cases c:q<t\/N<q+t+1
   ·rw [if_pos c,if_pos (by omega)]
   ·rw [if_neg c,if_neg (by omega)]
noncomputable def E10 (N:Nat) (g:Nat->InS):Zf:=(G0.withL 244 0 (goL 1 [] (Z6s N g 0) (N<900000000000) (Z0u 0 N (fun t=>(t:Int)<(N:Int)-1-t) (fun t=>¬(t:Int)<(N:Int)-1-t) (fun _=>False) (Z6s N g) (Z6s N g)))).withF 91 (Z9Y N g (N<900000000000))
theorem Ze4 (N:Nat) (g:Nat->InS):(E10 N g).Ok:=
 Zf.withF_ok (Zf.withGo (τ1:=[]) (τ2:=[]) (τ3:=[]) (N:=20) Zu (by kernel_rfl) fun hC=>⟨rfl,fun i hi hgo=>Zfp N g i hC hi hgo⟩) (Z8p N g)
theorem Z6t (N:Nat) (g:Nat->InS) (hN:N<900000000000):
  evF (E10 N g) 20 180 [.vrows 130 N (Zd g) N] ⟨0,[]⟩ (Yr 0 [(0,0)] (.nslice ⟨0,0,130,0,0⟩ 130 N N) 1 [(0,.rows 130 N (Zd (Q7 N g)))]):=by
 refine @Eq.mpr _ (let a:=decide (N=N);let c:=Zd g;let e:=decide (N<=N);let b:=(↑N:Int)-1;
 Z7 a
 (Z7 a
 (c=c/\
 N<900000000000/\
 Z7 a
 (Z7 e
 (Z7 (decide (wrap i64 b=b-0))
 (Z7 a
 (Zv 1 [] N (Zd (V6 N g 0)) c/\
 N<900000000000/\
 ∀(i:Nat),
 let d:=Z7 a (Z7 e (Z7 a (Zv 0 [(0,0)] N (Zd (Q7 N g)) (Zd (V6 N g i))/\True) False) False) False;
 i<=N->(∀(j:Nat),j<i->(fun (t:Nat)=>(↑t:Int)<b-(↑t:Int)) j)->(¬(↑i:Int)<b-(↑i:Int)->d)/\(False->d))
 False)
 False)
 False)
 False)
 False)
 False) (by kernel_rfl) ?_
 conv=>zeta
 simp only [WJ,true_and,and_true]
 refine ⟨hN,by omega,by rw [w64 (by omega)];omega,Yq fun i hi=> ?_,hN,fun i hi hgo=>⟨fun hex=>⟨by omega,Yq fun q hq=> ?_⟩,fun h=>h.elim⟩⟩
 ·show (g i).c=_
  unfold V6
  rw [if_neg (by omega)]
 ·show (V6 N g i q).c=_
  unfold V6 Q7
  by_cases c:q<i\/N<q+i+1
  ·rw [if_pos c]
  ·rw [if_neg c]
   congr 2;omega
theorem Z2s (N:Nat) (g:Nat->InS) (hN:N<900000000000):Zx PP 180 [.vrows 130 N (Zd g) N] (.nslice ⟨0,0,130,0,0⟩ 130 N N) 1 [(0,.rows 130 N (Zd (Q7 N g)))]:=.ev (Ze4 N g) (Z6t N g hN)
def Yi (p:Nat->Bool) (n:Nat):Int:=match (List.range n).find? p with|some i=>i|none=> -1
theorem Wr {p:Nat->Bool} {n i:Nat} (hi:i<n) (hgo:∀j,j<i->p j=false) (hp:p i=true):Yi p n=i:=by
 unfold Yi
 have:(List.range n).find? p=some i:=by
  rw [List.find?_range_eq_some]
  exact ⟨hp,Jq.2 hi,fun j hj=>by simp [hgo j hj]⟩
 rw [this]
theorem Ws {p:Nat->Bool} {n:Nat} (hgo:∀j,j<n->p j=false):Yi p n= -1:=by
 unfold Yi
 have:(List.range n).find? p=none:=by
  rw [List.find?_eq_none]
  intro j hj
  simp [hgo j (Jq.1 hj)]
 rw [this]
theorem WK (p:Nat->Bool) (n:Nat):(Yi p n= -1/\∀j,j<n->p j=false)\/∃i,i<n/\Yi p n=(i:Nat)/\p i=true/\∀j,j<i->p j=false:=by
 unfold Yi
 cases h:(List.range n).find? p with
 | none=>
  refine .inl ⟨rfl,fun j hj=> ?_⟩
  have:=List.find?_eq_none.1 h j (Jq.2 hj)
  simpa using this
 | some i=>
  rw [List.find?_range_eq_some] at h
  exact .inr ⟨i,Jq.1 h.2.1,rfl,h.1,fun j hj=>by simpa using h.2.2 j hj⟩
theorem Z5b (p:Nat->Bool) (n:Nat): -1<=Yi p n/\Yi p n<n+1:=by
 rcases WK p n with ⟨h,_⟩|⟨i,hi,h,_⟩<;>omega
def UF (x y:InS):Bool:=(y.name==x.name)&&(y.index==x.index)
theorem Ze5 (x y:InS) (hx:x.Ok) (hy:y.Ok):
  evF G0 20 178 [.agg y.c,.pview x.c 0] ⟨0,[]⟩ (Yr 0 [] (.bool (UF x y)) 0 []):=by
 refine @Eq.mpr _ (Z6 (y.name.length=32/\x.name.length=32) (Z7 (y.name==x.name) (Z6 ((y.index==x.index)=UF x y) True) (Z6 (false=UF x y) True))) (by kernel_rfl) ?_
 try simp only [W4]
 try simp only [W5]
 try simp only [vcC]
 unfold UF
 refine ⟨⟨hy.name,hx.name⟩,fun h=> ?_,fun h=> ?_⟩<;>simp [h]
def Zdi:ZJ:=fun args h K=>ZD none h true 20 args fun a=>match a with
 | [.agg cs,.pview ds 0]=>∃x y,cs=InS.c y/\ds=InS.c x/\(x.Ok/\y.Ok)/\K (.bool (UF x y))
 | _=>False
theorem Z9Z (args:List AV) (h:Z9) (K:AV->Prop) (hl:Zdi args h K):Zh PP 178 args h fun o h'=>∃v,o=.ret v/\h'=h/\K v:=by
 refine Zx.psumm (d:=20) (Zk _ _ _ _ _ hl fun a ha=> ?_)
 split at ha
 ·obtain ⟨x,y,rfl,rfl,⟨h1,h2⟩,hK⟩:=ha
  exact ⟨_,.ev Zu (Ze5 x y h1 h2),fun _=>rfl,hK⟩
 ·exact ha.elim
noncomputable def Ze6:Zf:=G0.withP 178 Zdi
theorem ZbG:Ze6.Ok:=Zf.withP_ok Zu Z9Z
def ixS (N:Nat) (g:Nat->InS) (x:InS) (i:Nat):St:=⟨19,[(1,.func (Fn.func 178) [] [.pview (InS.c x) 0]),(0,.vrows 130 N (Zd g) N),(7,.int .i64 N),(8,.int .i64 i)],⟨0,[]⟩,[]⟩
def ixR (i:Nat):St:=⟨19,[(4,.int .i64 i)],⟨0,[]⟩,[]⟩
def ixE (_:Nat):St:=⟨19,[],⟨0,[]⟩,[]⟩
theorem Zhk (N:Nat) (g:Nat->InS) (x:InS) (i:Nat) (Z1 Z2 Z3:Prop) (hN:N<900000000000) (hx:x.Ok) (hg:∀i,i<N->(g i).Ok) (hi:i<=N) (h1:i<N->UF x (g i)=false->Z1) (h2:i=N->Z2) (h3:i<N->UF x (g i)=true->Z3):
  ZW Ze6 20 179 0 0 (ixS N g x i) (fun e s=>match e with|.normal=>ZK 0 [] (ixS N g x (i+1)) s Z1|.exit x=>(match Nat.beq x 0 with|true=>ZK 0 [] (ixE i) s Z2|false=>False)|.ret=>ZK 0 [] (ixR i) s Z3|_=>False):=by
 refine @Eq.mpr _ (let a:=g (Int.toNat (↑i:Int));let b:=InS.c x;let d:=decide (N=N);
 Z7 (decide ((↑i:Int)<(↑N:Int))) (Z6 (0<=(↑i:Int)/\(↑i:Int)<(↑N:Int)) (∃(x:InS),∃(y:InS),[AV.arr u8 32 a.name,AV.int i64 a.index,AV.int i64 a.way,AV.arr u8 32 a.tag,AV.arr u8 32 a.also,AV.arr u8 32 a.secret]=InS.c y/\b=InS.c x/\(InS.Ok x/\InS.Ok y)/\Z7 (UF x y) (Z6 ((↑i:Int)=(↑i:Int)) Z3) (b=b/\Z5 d (Zd g=Zd g/\Z5 d (Z6 ((↑N:Int)=(↑N:Int)) (Z6 (wrap i64 ((↑i:Int)+1)=(↑(i+1):Int)) Z1)))))) Z2) (by kernel_rfl) ?_
 conv=>zeta
 try simp only [W4]
 try simp only [W5]
 try simp only [vcC]
 refine ⟨fun hlt=>⟨by omega,x,g i,rfl,rfl,⟨hx,hg i (by omega)⟩,fun h=>h3 (by omega) h,fun h=>⟨w64 (by omega),h1 (by omega) h⟩⟩,fun hge=>h2 (by omega)⟩
def sameAt (g:Nat->InS) (x:InS):Nat->Bool:=fun j=>UF x (g j)
noncomputable def Zfq (N:Nat) (g:Nat->InS) (x:InS):Zf:=Ze6.withL 179 0 (goL 0 [] (ixS N g x 0) (N<900000000000/\x.Ok/\∀i,i<N->(g i).Ok) (Z0u 0 N (fun i=>sameAt g x i=false) (fun i=>i=N) (fun i=>i<N/\sameAt g x i=true) ixE ixR))
theorem ZbH (N:Nat) (g:Nat->InS) (x:InS):(Zfq N g x).Ok:=
 Zf.withGo (τ1:=[]) (τ2:=[]) (τ3:=[]) (N:=20) ZbG (by kernel_rfl) fun hC=>⟨rfl,fun i hi _=>Zhk N g x i _ _ _ hC.1 hC.2.1 hC.2.2 hi (fun h1 h2=>⟨h2,h1⟩) (fun h=>h) (fun h1 h2=>⟨h1,h2⟩)⟩
theorem ZbI (N:Nat) (g:Nat->InS) (x:InS) (F:Int) (hN:N<900000000000) (hx:x.Ok) (hg:∀i,i<N->(g i).Ok) (hF:F=Yi (sameAt g x) N):
  evF (Zfq N g x) 20 179 [.vrows 130 N (Zd g) N,.func (.func 178) [] [.pview x.c 0]] ⟨0,[]⟩ (Yr 0 [] (.int .i64 F) 0 []):=by
 refine @Eq.mpr _ (let a:=decide (N=N);
 InS.c x=InS.c x/\Z5 a (Zd g=Zd g/\Z5 a (Z6 ((↑N:Int)=(↑N:Int)) ((N<900000000000/\InS.Ok x/\∀(i:Nat),i<N->InS.Ok (g i))/\∀(i:Nat),i<=N->(∀(j:Nat),j<i->(fun (i:Nat)=>sameAt g x i=false) j)->(i=N->Z6 (-1=F) True)/\(i<N/\sameAt g x i=true->Z6 ((↑i:Int)=F) True))))) (by kernel_rfl) ?_
 conv=>zeta
 try simp only [W4]
 try simp only [W5]
 try simp only [vcC]
 subst hF
 exact ⟨⟨hN,hx,hg⟩,fun i hi hgo=>⟨fun h=>by subst h;exact (Ws hgo).symm,fun h=>(Wr h.1 hgo h.2).symm⟩⟩
theorem Z6u (N:Nat) (g:Nat->InS) (x:InS) (hN:N<900000000000) (hx:x.Ok) (hg:∀i,i<N->(g i).Ok):Zx PP 179 [.vrows 130 N (Zd g) N,.func (.func 178) [] [.pview x.c 0]] (.int .i64 (Yi (sameAt g x) N)) 0 []:=.ev (ZbH N g x) (ZbI N g x _ hN hx hg rfl)
def Za0:ZJ:=fun args h K=>ZD none h true 20 args fun a=>match a with
 | [.vrows 130 n f m,.func (.func 178) [] [.pview cs 0]]=>∃g x,f=Zd g/\cs=InS.c x/\(m=n/\n<900000000000/\x.Ok/\∀i,i<n->(g i).Ok)/\K (.int .i64 (Yi (sameAt g x) n))
 | _=>False
theorem Z8q (args:List AV) (h:Z9) (K:AV->Prop) (hl:Za0 args h K):Zh PP 179 args h fun o h'=>∃v,o=.ret v/\h'=h/\K v:=by
 refine Zx.psumm (d:=20) (Zk _ _ _ _ _ hl fun a ha=> ?_)
 split at ha
 ·obtain ⟨g,x,rfl,rfl,⟨rfl,h1,h2,h3⟩,hK⟩:=ha
  exact ⟨_,Z6u _ g x h1 h2 h3,fun _=>rfl,hK⟩
 ·exact ha.elim
def Z34:Yb:=fun args h K=>ZD none h true 20 args fun a=>match a with
 | [.vrows 130 n f m]=>∃g,f=Zd g/\(m=n/\n<900000000000)/\K (.ret (.nslice ⟨h.next,0,130,0,0⟩ 130 n n)) ⟨h.next+1,(h.next,.rows 130 n (Zd (Q7 n g)))::h.bs⟩
 | _=>False
theorem Z45 (args:List AV) (h:Z9) (K:KO) (hl:Z34 args h K):Zh PP 180 args h K:=by
 refine Zx.fsumm (d:=20) (Zk _ _ _ _ _ hl fun a ha=> ?_)
 split at ha
 ·obtain ⟨g,rfl,⟨rfl,hN⟩,hK⟩:=ha
  exact ⟨_,_,_,_,Z2s _ _ hN,rfl,⟨JV,.rows _ _ _ (fun i _=>(Q7 _ g i).plainC),trivial⟩,hK⟩
 ·exact ha.elim
noncomputable def Zfr:Zf:=(G0.withP 179 Za0).withF 180 Z34
theorem ZbJ:Zfr.Ok:=Zf.withF_ok (Zf.withP_ok Zu Z8q) Z45
@[irreducible] def VV (N:Nat) (g:Nat->InS) (x:InS):Bool:=Yi (sameAt g x) N !=(N:Int)-1-Yi (sameAt (Q7 N g) x) N
theorem ZbK (N:Nat) (g:Nat->InS) (x:InS) (num:Int) (outs:AV) (F:Bool) (hN:N<900000000000) (hx:x.Ok) (hg:∀i,i<N->(g i).Ok) (hF:F=VV N g x):
  evF Zfr 20 177 [.agg x.c,.pview [.int .i64 num,.vrows 130 N (Zd g) N,outs] 0] ⟨0,[]⟩ (Yr 0 [] (.bool F) 0 []):=by
 refine @Eq.mpr _ (let a:=Zd g;let d:=decide (N=N);
 ∃(g:Nat->InS),
 ∃(x_1:InS),
 let b:=[AV.arr u8 32 x.name,AV.int i64 x.index,AV.int i64 x.way,AV.arr u8 32 x.tag,AV.arr u8 32 x.also,AV.arr u8 32 x.secret];
 a=Zd g/\b=InS.c x_1/\(N=N/\N<900000000000/\InS.Ok x_1/\∀(i:Nat),i<N->InS.Ok (g i))/\∃(g_1:Nat->InS),a=Zd g_1/\(N=N/\N<900000000000)/\Z6 ((↑N:Int)=(↑N:Int)) (Z5 d (a=a/\Z5 d (Z6 (0+N<=N) ((∀(i:Nat),i<N->true=true)/\∃(g_2:Nat->InS),∃(x:InS),YZ 0 (Zd (Q7 N g_1))=Zd g_2/\b=InS.c x/\(N=N/\N<900000000000/\InS.Ok x/\∀(i:Nat),i<N->InS.Ok (g_2 i))/\Z6 ((Yi (sameAt g x_1) N !=wrap i64 (wrap i64 ((↑N:Int)-1)-Yi (sameAt g_2 x) N))=F) True))))) (by kernel_rfl) ?_
 conv=>zeta
 try simp only [W4]
 try simp only [W5]
 try simp only [vcC]
 subst hF
 have hr:∀i,i<N->(Q7 N g i).Ok:=fun i hi=>hg _ (by omega)
 refine ⟨g,x,rfl,rfl,⟨hN,hx,hg⟩,g,rfl,hN,fun _ _=>trivial,Q7 N g,x,rfl,rfl,⟨hN,hx,hr⟩, ?_⟩
 have hb:=Z5b (sameAt (Q7 N g) x) N
 rw [w64 (x:=(N:Int)-1) (by omega),w64 (by omega)]
 unfold VV
 rfl
theorem Z6v (N:Nat) (g:Nat->InS) (x:InS) (num:Int) (outs:AV) (hN:N<900000000000) (hx:x.Ok) (hg:∀i,i<N->(g i).Ok):Zx PP 177 [.agg x.c,.pview [.int .i64 num,.vrows 130 N (Zd g) N,outs] 0] (.bool (VV N g x)) 0 []:=.ev ZbJ (ZbK N g x num outs _ hN hx hg rfl)
def Za1:ZJ:=fun args h K=>ZD none h true 20 args fun a=>match a with
 | [.agg cs,.pview [.int .i64 num,.vrows 130 n f m,outs] 0]=>∃g x,f=Zd g/\cs=InS.c x/\(m=n/\n<900000000000/\x.Ok/\∀i,i<n->(g i).Ok)/\K (.bool (VV n g x))
 | _=>False
theorem Z8r (args:List AV) (h:Z9) (K:AV->Prop) (hl:Za1 args h K):Zh PP 177 args h fun o h'=>∃v,o=.ret v/\h'=h/\K v:=by
 refine Zx.psumm (d:=20) (Zk _ _ _ _ _ hl fun a ha=> ?_)
 split at ha
 ·obtain ⟨g,x,rfl,rfl,⟨rfl,h1,h2,h3⟩,hK⟩:=ha
  exact ⟨_,Z6v _ g x _ _ h1 h2 h3,fun _=>rfl,hK⟩
 ·exact ha.elim
def Vo (N:Nat) (g:Nat->InS) (y:InS):Bool:= !ZU y||VV N g y
noncomputable def Zfs:Zf:=(G0.withP 177 Za1).withP 182 (inS ZU)
theorem ZbL:Zfs.Ok:=Zf.withP_ok (Zf.withP_ok Zu Z8r) ZdZ
theorem ZbM (N:Nat) (g:Nat->InS) (y:InS) (num:Int) (outs:AV) (F:Bool) (hN:N<900000000000) (hy:y.Ok) (hg:∀i,i<N->(g i).Ok) (hF:F=Vo N g y):
  evF Zfs 20 181 [.agg y.c,.pview [.func (.func 177) [] [.pview [.int .i64 num,.vrows 130 N (Zd g) N,outs] 0]] 0] ⟨0,[]⟩ (Yr 0 [] (.bool F) 0 []):=by
 refine @Eq.mpr _ (let e:=y.name;let d:=y.tag;let b:=y.also;let a:=y.secret;
 Z6 (e.length=32/\d.length=32/\b.length=32/\a.length=32) (Z7 (!ZU (InS.mk e y.index y.way d b a)) (Z6 (true=F) True) (∃(g_1:Nat->InS),∃(x:InS),Zd g=Zd g_1/\[AV.arr u8 32 e,AV.int i64 y.index,AV.int i64 y.way,AV.arr u8 32 d,AV.arr u8 32 b,AV.arr u8 32 a]=InS.c x/\(N=N/\N<900000000000/\InS.Ok x/\∀(i:Nat),i<N->InS.Ok (g_1 i))/\Z6 (VV N g_1 x=F) True))) (by kernel_rfl) ?_
 conv=>zeta
 try simp only [W4]
 try simp only [W5]
 try simp only [vcC]
 subst hF
 refine ⟨⟨hy.name,hy.tag,hy.also,hy.secret⟩, ?_, ?_⟩
 ·intro h
  have h':ZU y=false:=by simpa using h
  unfold Vo
  rw [h']
  rfl
 ·intro h
  refine ⟨g,y,rfl,rfl,⟨hN,hy,hg⟩, ?_⟩
  have h':ZU y=true:=by simpa using h
  unfold Vo
  rw [h']
  rfl
def Za2:ZJ:=fun args h K=>ZD none h true 20 args fun a=>match a with
 | [.agg cs,.pview [.func (.func 177) [] [.pview [.int .i64 num,.vrows 130 n f m,outs] 0]] 0]=>∃g y,f=Zd g/\cs=InS.c y/\(m=n/\n<900000000000/\y.Ok/\∀i,i<n->(g i).Ok)/\K (.bool (Vo n g y))
 | _=>False
theorem Z8s (args:List AV) (h:Z9) (K:AV->Prop) (hl:Za2 args h K):Zh PP 181 args h fun o h'=>∃v,o=.ret v/\h'=h/\K v:=by
 refine Zx.psumm (d:=20) (Zk _ _ _ _ _ hl fun a ha=> ?_)
 split at ha
 ·obtain ⟨g,x,rfl,rfl,⟨rfl,h1,h2,h3⟩,hK⟩:=ha
  exact ⟨_,.ev ZbL (ZbM _ g x _ _ _ h1 h2 h3 rfl),fun _=>rfl,hK⟩
 ·exact ha.elim
noncomputable def Ze7:Zf:=G0.withP 181 Za2
theorem ZbN:Ze7.Ok:=Zf.withP_ok Zu Z8s
def YK (N:Nat) (g:Nat->InS):Nat->Bool:=fun j=>Vo N g (g j)
def Ze8 (N:Nat) (g:Nat->InS) (num:Int) (outs:AV) (i:Nat):St:=⟨19,[(1,.func (.func 181) [] [.pview [.func (.func 177) [] [.pview [.int .i64 num,.vrows 130 N (Zd g) N,outs] 0]] 0]),(0,.vrows 130 N (Zd g) N),(7,.int .i64 N),(8,.int .i64 i)],⟨0,[]⟩,[]⟩
def Zft (i:Nat):St:=⟨19,[(4,.int .i64 i)],⟨0,[]⟩,[]⟩
def Zfu (_:Nat):St:=⟨19,[],⟨0,[]⟩,[]⟩
theorem Zfv (N:Nat) (g:Nat->InS) (num:Int) (outs:AV) (i:Nat) (Z1 Z2 Z3:Prop) (hC:N<900000000000/\∀i,i<N->(g i).Ok) (hi:i<=N) (h1:i<N->YK N g i=false->Z1) (h2:i=N->Z2) (h3:i<N->YK N g i=true->Z3):
  ZW Ze7 20 179 0 0 (Ze8 N g num outs i) (fun e s=>match e with|.normal=>ZK 0 [] (Ze8 N g num outs (i+1)) s Z1|.exit x=>(match Nat.beq x 0 with|true=>ZK 0 [] (Zfu i) s Z2|false=>False)|.ret=>ZK 0 [] (Zft i) s Z3|_=>False):=by
 refine @Eq.mpr _ (let b:=Zd g;let a:=g (Int.toNat (↑i:Int));let e:=[AV.func (Fn.func 177) [] [AV.pview [AV.int i64 num,AV.vrows 130 N b N,outs] 0]];let d:=decide (N=N);
 Z7 (decide ((↑i:Int)<(↑N:Int))) (Z6 (0<=(↑i:Int)/\(↑i:Int)<(↑N:Int)) (∃(g:Nat->InS),∃(y:InS),b=Zd g/\[AV.arr u8 32 a.name,AV.int i64 a.index,AV.int i64 a.way,AV.arr u8 32 a.tag,AV.arr u8 32 a.also,AV.arr u8 32 a.secret]=InS.c y/\(N=N/\N<900000000000/\InS.Ok y/\∀(i:Nat),i<N->InS.Ok (g i))/\Z7 (Vo N g y) (Z6 ((↑i:Int)=(↑i:Int)) Z3) (e=e/\Z5 d (b=b/\Z5 d (Z6 ((↑N:Int)=(↑N:Int)) (Z6 (wrap i64 ((↑i:Int)+1)=(↑(i+1):Int)) Z1)))))) Z2) (by kernel_rfl) ?_
 conv=>zeta
 try simp only [W4]
 try simp only [W5]
 try simp only [vcC]
 refine ⟨fun hlt=>⟨by omega,g,g i,rfl,rfl,⟨hC.1,hC.2 i (by omega),hC.2⟩,fun h=>h3 (by omega) h,fun h=>⟨w64 (by omega),h1 (by omega) h⟩⟩,fun hge=>h2 (by omega)⟩
noncomputable def Zfw (N:Nat) (g:Nat->InS) (num:Int) (outs:AV):Zf:=Ze7.withL 179 0 (goL 0 [] (Ze8 N g num outs 0) (N<900000000000/\∀i,i<N->(g i).Ok) (Z0u 0 N (fun i=>YK N g i=false) (fun i=>i=N) (fun i=>i<N/\YK N g i=true) Zfu Zft))
theorem ZbO (N:Nat) (g:Nat->InS) (num:Int) (outs:AV):(Zfw N g num outs).Ok:=
 Zf.withGo (τ1:=[]) (τ2:=[]) (τ3:=[]) (N:=20) ZbN (by kernel_rfl) fun hC=>⟨rfl,fun i hi _=>Zfv N g num outs i _ _ _ hC hi (fun h1 h2=>⟨h2,h1⟩) (fun h=>h) (fun h1 h2=>⟨h1,h2⟩)⟩
theorem Zfx (N:Nat) (g:Nat->InS) (num:Int) (outs:AV) (F:Int) (hC:N<900000000000/\∀i,i<N->(g i).Ok) (hF:F=Yi (YK N g) N):
  evF (Zfw N g num outs) 20 179 [.vrows 130 N (Zd g) N,.func (.func 181) [] [.pview [.func (.func 177) [] [.pview [.int .i64 num,.vrows 130 N (Zd g) N,outs] 0]] 0]] ⟨0,[]⟩ (Yr 0 [] (.int .i64 F) 0 []):=by
 refine @Eq.mpr _ (let a:=Zd g;let c:=[AV.func (Fn.func 177) [] [AV.pview [AV.int i64 num,AV.vrows 130 N a N,outs] 0]];let b:=decide (N=N);
 c=c/\Z5 b (a=a/\Z5 b (Z6 ((↑N:Int)=(↑N:Int)) ((N<900000000000/\∀(i:Nat),i<N->InS.Ok (g i))/\∀(i:Nat),i<=N->(∀(j:Nat),j<i->(fun (i:Nat)=>YK N g i=false) j)->(i=N->Z6 (-1=F) True)/\(i<N/\YK N g i=true->Z6 ((↑i:Int)=F) True))))) (by kernel_rfl) ?_
 conv=>zeta
 try simp only [W4]
 try simp only [W5]
 try simp only [vcC]
 subst hF
 exact ⟨hC,fun i hi hgo=>⟨fun h=>by subst h;exact (Ws hgo).symm,fun h=>(Wr h.1 hgo h.2).symm⟩⟩
theorem Za3 (N:Nat) (g:Nat->InS) (num:Int) (outs:AV) (hC:N<900000000000/\∀i,i<N->(g i).Ok):Zx PP 179 [.vrows 130 N (Zd g) N,.func (.func 181) [] [.pview [.func (.func 177) [] [.pview [.int .i64 num,.vrows 130 N (Zd g) N,outs] 0]] 0]] (.int .i64 (Yi (YK N g) N)) 0 []:=.ev (ZbO N g num outs) (Zfx N g num outs _ hC rfl)
theorem V7 (p:Nat->Bool) (n:Nat):decide (0<=Yi p n)=(List.range n).any p:=by
 rcases WK p n with ⟨h,h2⟩|⟨i,hi,h,h2,_⟩
 ·rw [h]
  have:(List.range n).any p=false:=by
   rw [JF]
   intro j hj
   simp [h2 j (Jq.1 hj)]
  rw [this];rfl
 ·rw [h]
  have:(List.range n).any p=true:=List.any_eq_true.2 ⟨i,Jq.2 hi,h2⟩
  rw [this];simp
def Zfy:ZJ:=fun args h K=>ZD none h true 20 args fun a=>match a with
 | [.vrows 130 n f m,.func (.func 181) [] [.pview [.func (.func 177) [] [.pview [.int .i64 num,.vrows 130 n' f' m',outs] 0]] 0]]=>∃g,f=Zd g/\f'=Zd g/\(m=n/\n'=n/\m'=n/\n<900000000000/\∀i,i<n->(g i).Ok)/\K (.int .i64 (Yi (YK n g) n))
 | _=>False
theorem ZbP (args:List AV) (h:Z9) (K:AV->Prop) (hl:Zfy args h K):Zh PP 179 args h fun o h'=>∃v,o=.ret v/\h'=h/\K v:=by
 refine Zx.psumm (d:=20) (Zk _ _ _ _ _ hl fun a ha=> ?_)
 split at ha
 ·obtain ⟨g,rfl,rfl,⟨rfl,rfl,rfl,h1,h2⟩,hK⟩:=ha
  exact ⟨_,Za3 _ g _ _ ⟨h1,h2⟩,fun _=>rfl,hK⟩
 ·exact ha.elim
noncomputable def Zfz:Zf:=G0.withP 49 (Zby ZH)
theorem ZbQ:Zfz.Ok:=Zf.withP_ok Zu Z7n
def Q8 (o:Zp):Bool:= !ZH o
theorem Za4 (o:Zp) (F:Bool) (ho:o.Ok) (hF:F=Q8 o):
  evF Zfz 20 186 [.agg o.c] ⟨0,[]⟩ (Yr 0 [] (.bool F) 0 []):=by
 refine @Eq.mpr _ (Z6 (o.owner.length=32/\o.other.length=32/\o.point.length=32/\o.hash.length=32) (Z6 ((!ZH (Zp.mk o.kind o.amount o.owner o.other o.point o.hash o.delay o.expiry))=F) True)) (by kernel_rfl) ?_
 try simp only [W4]
 try simp only [W5]
 try simp only [vcC]
 subst hF
 exact ⟨⟨ho.owner,ho.other,ho.point,ho.hash⟩,rfl⟩
def Z7t:ZJ:=fun args h K=>ZD none h true 20 args fun a=>match a with
 | [.agg cs]=>∃o,cs=Zp.c o/\o.Ok/\K (.bool (Q8 o))
 | _=>False
theorem Z6w (args:List AV) (h:Z9) (K:AV->Prop) (hl:Z7t args h K):Zh PP 186 args h fun o h'=>∃v,o=.ret v/\h'=h/\K v:=by
 refine Zx.psumm (d:=20) (Zk _ _ _ _ _ hl fun a ha=> ?_)
 split at ha
 ·obtain ⟨x,rfl,h1,hK⟩:=ha
  exact ⟨_,.ev ZbQ (Za4 x _ h1 rfl),fun _=>rfl,hK⟩
 ·exact ha.elim
noncomputable def Ze9:Zf:=G0.withP 186 Z7t
theorem ZbR:Ze9.Ok:=Zf.withP_ok Zu Z6w
def Yf (g:Nat->Zp):Nat->Bool:=fun j=>Q8 (g j)
def Zea (N:Nat) (g:Nat->Zp) (i:Nat):St:=⟨19,[(1,.func (.func 186) [] []),(0,.vrows 132 N (Ze g) N),(7,.int .i64 N),(8,.int .i64 i)],⟨0,[]⟩,[]⟩
def ZfA (i:Nat):St:=⟨19,[(4,.int .i64 i)],⟨0,[]⟩,[]⟩
def ZfB (_:Nat):St:=⟨19,[],⟨0,[]⟩,[]⟩
theorem ZfC (N:Nat) (g:Nat->Zp) (i:Nat) (Z1 Z2 Z3:Prop) (hC:N<900000000000/\∀i,i<N->(g i).Ok) (hi:i<=N) (h1:i<N->Yf g i=false->Z1) (h2:i=N->Z2) (h3:i<N->Yf g i=true->Z3):
  ZW Ze9 20 245 0 0 (Zea N g i) (fun e s=>match e with|.normal=>ZK 0 [] (Zea N g (i+1)) s Z1|.exit x=>(match Nat.beq x 0 with|true=>ZK 0 [] (ZfB i) s Z2|false=>False)|.ret=>ZK 0 [] (ZfA i) s Z3|_=>False):=by
 refine @Eq.mpr _ (let a:=g (Int.toNat (↑i:Int));let b:=decide (N=N);
 Z7 (decide ((↑i:Int)<(↑N:Int))) (Z6 (0<=(↑i:Int)/\(↑i:Int)<(↑N:Int)) (∃(o:Zp),[AV.int i64 a.kind,AV.int i64 a.amount,AV.arr u8 32 a.owner,AV.arr u8 32 a.other,AV.arr u8 32 a.point,AV.arr u8 32 a.hash,AV.int i64 a.delay,AV.int i64 a.expiry]=Zp.c o/\Zp.Ok o/\Z7 (Q8 o) (Z6 ((↑i:Int)=(↑i:Int)) Z3) (Z5 b (Ze g=Ze g/\Z5 b (Z6 ((↑N:Int)=(↑N:Int)) (Z6 (wrap i64 ((↑i:Int)+1)=(↑(i+1):Int)) Z1)))))) Z2) (by kernel_rfl) ?_
 conv=>zeta
 try simp only [W4]
 try simp only [W5]
 try simp only [vcC]
 refine ⟨fun hlt=>⟨by omega,g i,rfl,hC.2 i (by omega),fun h=>h3 (by omega) h,fun h=>⟨w64 (by omega),h1 (by omega) h⟩⟩,fun hge=>h2 (by omega)⟩
noncomputable def ZfD (N:Nat) (g:Nat->Zp):Zf:=Ze9.withL 245 0 (goL 0 [] (Zea N g 0) (N<900000000000/\∀i,i<N->(g i).Ok) (Z0u 0 N (fun i=>Yf g i=false) (fun i=>i=N) (fun i=>i<N/\Yf g i=true) ZfB ZfA))
theorem ZbS (N:Nat) (g:Nat->Zp):(ZfD N g).Ok:=
 Zf.withGo (τ1:=[]) (τ2:=[]) (τ3:=[]) (N:=20) ZbR (by kernel_rfl) fun hC=>⟨rfl,fun i hi _=>ZfC N g i _ _ _ hC hi (fun h1 h2=>⟨h2,h1⟩) (fun h=>h) (fun h1 h2=>⟨h1,h2⟩)⟩
theorem ZfE (N:Nat) (g:Nat->Zp) (F:Int) (hC:N<900000000000/\∀i,i<N->(g i).Ok) (hF:F=Yi (Yf g) N):
  evF (ZfD N g) 20 245 [.vrows 132 N (Ze g) N,.func (.func 186) [] []] ⟨0,[]⟩ (Yr 0 [] (.int .i64 F) 0 []):=by
 refine @Eq.mpr _ (let a:=decide (N=N);
 Z5 a (Ze g=Ze g/\Z5 a (Z6 ((↑N:Int)=(↑N:Int)) ((N<900000000000/\∀(i:Nat),i<N->Zp.Ok (g i))/\∀(i:Nat),i<=N->(∀(j:Nat),j<i->(fun (i:Nat)=>Yf g i=false) j)->(i=N->Z6 (-1=F) True)/\(i<N/\Yf g i=true->Z6 ((↑i:Int)=F) True))))) (by kernel_rfl) ?_
 conv=>zeta
 try simp only [W4]
 try simp only [W5]
 try simp only [vcC]
 subst hF
 exact ⟨hC,fun i hi hgo=>⟨fun h=>by subst h;exact (Ws hgo).symm,fun h=>(Wr h.1 hgo h.2).symm⟩⟩
theorem Za5 (N:Nat) (g:Nat->Zp) (hC:N<900000000000/\∀i,i<N->(g i).Ok):Zx PP 245 [.vrows 132 N (Ze g) N,.func (.func 186) [] []] (.int .i64 (Yi (Yf g) N)) 0 []:=.ev (ZbS N g) (ZfE N g _ hC rfl)
def ZfF:ZJ:=fun args h K=>ZD none h true 20 args fun a=>match a with
 | [.vrows 132 n f m,.func (.func 186) [] []]=>∃g,f=Ze g/\(m=n/\n<900000000000/\∀i,i<n->(g i).Ok)/\K (.int .i64 (Yi (Yf g) n))
 | _=>False
theorem ZbT (args:List AV) (h:Z9) (K:AV->Prop) (hl:ZfF args h K):Zh PP 245 args h fun o h'=>∃v,o=.ret v/\h'=h/\K v:=by
 refine Zx.psumm (d:=20) (Zk _ _ _ _ _ hl fun a ha=> ?_)
 split at ha
 ·obtain ⟨g,rfl,⟨rfl,h1,h2⟩,hK⟩:=ha
  exact ⟨_,Za5 _ g ⟨h1,h2⟩,fun _=>rfl,hK⟩
 ·exact ha.elim
def Vr (m x:Int):Bool:=decide (x<0\/x>m)
theorem Zeb (m x:Int) (F:Bool) (hF:F=Vr m x):
  evF G0 20 236 [.int .i64 x,.pview [.int .i64 m] 0] ⟨0,[]⟩ (Yr 0 [] (.bool F) 0 []):=by
 refine @Eq.mpr _ (Z7 (decide (x<0)) (Z6 (true=F) True) (Z6 (decide (x>m)=F) True)) (by kernel_rfl) ?_
 try simp only [W4]
 try simp only [W5]
 try simp only [vcC]
 subst hF
 unfold Vr
 refine ⟨fun h=> ?_,fun h=> ?_⟩<;>simp [h]
theorem ZbU (x:Int) (F:Bool) (hF:F=Vr 4611686018427387904 x):
  evF G0 20 117 [.int .i64 x] ⟨0,[]⟩ (Yr 0 [] (.bool F) 0 []):=by
 refine @Eq.mpr _ (Z7 (decide (x<0)) (Z6 (true=F) True) (Z6 (decide (x>4611686018427387904)=F) True)) (by kernel_rfl) ?_
 try simp only [W4]
 try simp only [W5]
 try simp only [vcC]
 subst hF
 unfold Vr
 refine ⟨fun h=> ?_,fun h=> ?_⟩<;>simp [h]
def Zdj:ZJ:=fun args h K=>ZD none h true 20 args fun a=>match a with
 | [.int .i64 x,.pview [.int .i64 m] 0]=>K (.bool (Vr m x))
 | _=>False
theorem Za6 (args:List AV) (h:Z9) (K:AV->Prop) (hl:Zdj args h K):Zh PP 236 args h fun o h'=>∃v,o=.ret v/\h'=h/\K v:=by
 refine Zx.psumm (d:=20) (Zk _ _ _ _ _ hl fun a ha=> ?_)
 split at ha
 ·exact ⟨_,.ev Zu (Zeb _ _ _ rfl),fun _=>rfl,ha⟩
 ·exact ha.elim
def Za7 (T:Int):ZJ:=fun args h K=>ZD none h true 20 args fun a=>match a with
 | [.int .i64 x]=>K (.bool (Vr T x))
 | _=>False
theorem Z8t (args:List AV) (h:Z9) (K:AV->Prop) (hl:Za7 4611686018427387904 args h K):Zh PP 117 args h fun o h'=>∃v,o=.ret v/\h'=h/\K v:=by
 refine Zx.psumm (d:=20) (Zk _ _ _ _ _ hl fun a ha=> ?_)
 split at ha
 ·exact ⟨_,.ev Zu (ZbU _ _ rfl),fun _=>rfl,ha⟩
 ·exact ha.elim
noncomputable def ZfG (T:Int):Zf:=(G0.withP 236 Zdj).withP 117 (Za7 T)
theorem ZbV:(ZfG 4611686018427387904).Ok:=Zf.withP_ok (Zf.withP_ok Zu Za6) Z8t
def Yg (m:Int) (xs:LI):Nat->Bool:=fun j=>Vr m (xs.getD j 0)
noncomputable def Za8:Zf:=ZfG 4611686018427387904
theorem Z7u:Za8.Ok:=ZbV
def Zec (xs:LI) (N:Nat) (m:Int) (i:Nat):St:=⟨19,[(1,.func (.func 236) [] [.pview [.int .i64 m] 0]),(0,.vints .i64 xs N),(7,.int .i64 N),(8,.int .i64 i)],⟨0,[]⟩,[]⟩
def ZfH (i:Nat):St:=⟨19,[(4,.int .i64 i)],⟨0,[]⟩,[]⟩
def ZfI (_:Nat):St:=⟨19,[],⟨0,[]⟩,[]⟩
theorem ZfJ (xs:LI) (N:Nat) (m:Int) (i:Nat) (Z1 Z2 Z3:Prop) (hC:N<900000000000/\xs.length=N) (hi:i<=N) (h1:i<N->Yg m xs i=false->Z1) (h2:i=N->Z2) (h3:i<N->Yg m xs i=true->Z3):
  ZW Za8 20 165 0 0 (Zec xs N m i) (fun e s=>match e with|.normal=>ZK 0 [] (Zec xs N m (i+1)) s Z1|.exit x=>(match Nat.beq x 0 with|true=>ZK 0 [] (ZfI i) s Z2|false=>False)|.ret=>ZK 0 [] (ZfH i) s Z3|_=>False):=by
 refine @Eq.mpr _ (let a:=[AV.int i64 m];
 Z7 (decide ((↑i:Int)<(↑N:Int))) (Z6 (0<=(↑i:Int)/\(↑i:Int)<(↑N:Int)) (Z7 (Vr m (List.getD xs (Int.toNat (↑i:Int)) 0)) (Z6 ((↑i:Int)=(↑i:Int)) Z3) (a=a/\xs=xs/\Z6 (N=N) (Z6 ((↑N:Int)=(↑N:Int)) (Z6 (wrap i64 ((↑i:Int)+1)=(↑(i+1):Int)) Z1))))) Z2) (by kernel_rfl) ?_
 conv=>zeta
 try simp only [W4]
 try simp only [W5]
 try simp only [vcC]
 refine ⟨fun hlt=>⟨by omega,fun h=>h3 (by omega) h,fun h=>⟨w64 (by omega),h1 (by omega) h⟩⟩,fun hge=>h2 (by omega)⟩
noncomputable def ZfK (xs:LI) (N:Nat) (m:Int):Zf:=Za8.withL 165 0 (goL 0 [] (Zec xs N m 0) (N<900000000000/\xs.length=N) (Z0u 0 N (fun i=>Yg m xs i=false) (fun i=>i=N) (fun i=>i<N/\Yg m xs i=true) ZfI ZfH))
theorem ZbW (xs:LI) (N:Nat) (m:Int):(ZfK xs N m).Ok:=
 Zf.withGo (τ1:=[]) (τ2:=[]) (τ3:=[]) (N:=20) Z7u (by kernel_rfl) fun hC=>⟨rfl,fun i hi _=>ZfJ xs N m i _ _ _ hC hi (fun h1 h2=>⟨h2,h1⟩) (fun h=>h) (fun h1 h2=>⟨h1,h2⟩)⟩
theorem ZfL (xs:LI) (N:Nat) (m:Int) (F:Int) (hC:N<900000000000/\xs.length=N) (hF:F=Yi (Yg m xs) N):
  evF (ZfK xs N m) 20 165 [.vints .i64 xs N,.func (.func 236) [] [.pview [.int .i64 m] 0]] ⟨0,[]⟩ (Yr 0 [] (.int .i64 F) 0 []):=by
 refine @Eq.mpr _ (let a:=[AV.int i64 m];
 a=a/\xs=xs/\Z6 (N=N) (Z6 ((↑N:Int)=(↑N:Int)) ((N<900000000000/\xs.length=N)/\∀(i:Nat),i<=N->(∀(j:Nat),j<i->(fun (i:Nat)=>Yg m xs i=false) j)->(i=N->Z6 (-1=F) True)/\(i<N/\Yg m xs i=true->Z6 ((↑i:Int)=F) True)))) (by kernel_rfl) ?_
 conv=>zeta
 try simp only [W4]
 try simp only [W5]
 try simp only [vcC]
 subst hF
 exact ⟨hC,fun i hi hgo=>⟨fun h=>by subst h;exact (Ws hgo).symm,fun h=>(Wr h.1 hgo h.2).symm⟩⟩
theorem Za9 (xs:LI) (N:Nat) (m:Int) (hC:N<900000000000/\xs.length=N):Zx PP 165 [.vints .i64 xs N,.func (.func 236) [] [.pview [.int .i64 m] 0]] (.int .i64 (Yi (Yg m xs) N)) 0 []:=.ev (ZbW xs N m) (ZfL xs N m _ hC rfl)
def Zed (xs:LI) (N:Nat) (i:Nat):St:=⟨19,[(1,.func (.func 117) [] []),(0,.vints .i64 xs N),(7,.int .i64 N),(8,.int .i64 i)],⟨0,[]⟩,[]⟩
def ZfM (i:Nat):St:=⟨19,[(4,.int .i64 i)],⟨0,[]⟩,[]⟩
def ZfN (_:Nat):St:=⟨19,[],⟨0,[]⟩,[]⟩
theorem ZfO (xs:LI) (N:Nat) (i:Nat) (Z1 Z2 Z3:Prop) (hC:N<900000000000/\xs.length=N) (hi:i<=N) (h1:i<N->Yg 4611686018427387904 xs i=false->Z1) (h2:i=N->Z2) (h3:i<N->Yg 4611686018427387904 xs i=true->Z3):
  ZW Za8 20 165 0 0 (Zed xs N i) (fun e s=>match e with|.normal=>ZK 0 [] (Zed xs N (i+1)) s Z1|.exit x=>(match Nat.beq x 0 with|true=>ZK 0 [] (ZfN i) s Z2|false=>False)|.ret=>ZK 0 [] (ZfM i) s Z3|_=>False):=by
 refine @Eq.mpr _ (Z7 (decide ((↑i:Int)<(↑N:Int))) (Z6 (0<=(↑i:Int)/\(↑i:Int)<(↑N:Int)) (Z7 (Vr 4611686018427387904 (List.getD xs (Int.toNat (↑i:Int)) 0)) (Z6 ((↑i:Int)=(↑i:Int)) Z3) (xs=xs/\Z6 (N=N) (Z6 ((↑N:Int)=(↑N:Int)) (Z6 (wrap i64 ((↑i:Int)+1)=(↑(i+1):Int)) Z1))))) Z2) (by kernel_rfl) ?_
 try simp only [W4]
 try simp only [W5]
 try simp only [vcC]
 refine ⟨fun hlt=>⟨by omega,fun h=>h3 (by omega) h,fun h=>⟨w64 (by omega),h1 (by omega) h⟩⟩,fun hge=>h2 (by omega)⟩
noncomputable def ZfP (xs:LI) (N:Nat):Zf:=Za8.withL 165 0 (goL 0 [] (Zed xs N 0) (N<900000000000/\xs.length=N) (Z0u 0 N (fun i=>Yg 4611686018427387904 xs i=false) (fun i=>i=N) (fun i=>i<N/\Yg 4611686018427387904 xs i=true) ZfN ZfM))
theorem ZbX (xs:LI) (N:Nat):(ZfP xs N).Ok:=
 Zf.withGo (τ1:=[]) (τ2:=[]) (τ3:=[]) (N:=20) Z7u (by kernel_rfl) fun hC=>⟨rfl,fun i hi _=>ZfO xs N i _ _ _ hC hi (fun h1 h2=>⟨h2,h1⟩) (fun h=>h) (fun h1 h2=>⟨h1,h2⟩)⟩
theorem ZfQ (xs:LI) (N:Nat) (F:Int) (hC:N<900000000000/\xs.length=N) (hF:F=Yi (Yg 4611686018427387904 xs) N):
  evF (ZfP xs N) 20 165 [.vints .i64 xs N,.func (.func 117) [] []] ⟨0,[]⟩ (Yr 0 [] (.int .i64 F) 0 []):=by
 refine @Eq.mpr _ (xs=xs/\Z6 (N=N) (Z6 ((↑N:Int)=(↑N:Int)) ((N<900000000000/\xs.length=N)/\∀(i:Nat),i<=N->(∀(j:Nat),j<i->(fun (i:Nat)=>Yg 4611686018427387904 xs i=false) j)->(i=N->Z6 (-1=F) True)/\(i<N/\Yg 4611686018427387904 xs i=true->Z6 ((↑i:Int)=F) True)))) (by kernel_rfl) ?_
 try simp only [W4]
 try simp only [W5]
 try simp only [vcC]
 subst hF
 exact ⟨hC,fun i hi hgo=>⟨fun h=>by subst h;exact (Ws hgo).symm,fun h=>(Wr h.1 hgo h.2).symm⟩⟩
theorem Zaa (xs:LI) (N:Nat) (hC:N<900000000000/\xs.length=N):Zx PP 165 [.vints .i64 xs N,.func (.func 117) [] []] (.int .i64 (Yi (Yg 4611686018427387904 xs) N)) 0 []:=.ev (ZbX xs N) (ZfQ xs N _ hC rfl)
def ZfR (T:Int):ZJ:=fun args h K=>ZD none h true 20 args fun a=>match a with
 | [.vints .i64 xs n,.func (.func 236) [] [.pview [.int .i64 m] 0]]=>Z6 (xs.length=n/\n<900000000000) (K (.int .i64 (Yi (Yg m xs) n)))
 | [.vints .i64 xs n,.func (.func 117) [] []]=>Z6 (xs.length=n/\n<900000000000) (K (.int .i64 (Yi (Yg T xs) n)))
 | _=>False
theorem ZbY (args:List AV) (h:Z9) (K:AV->Prop) (hl:ZfR 4611686018427387904 args h K):Zh PP 165 args h fun o h'=>∃v,o=.ret v/\h'=h/\K v:=by
 refine Zx.psumm (d:=20) (Zk _ _ _ _ _ hl fun a ha=> ?_)
 split at ha
 ·obtain ⟨⟨h1,h2⟩,hK⟩:=Zb ha
  exact ⟨_,Za9 _ _ _ ⟨h2,h1⟩,fun _=>rfl,hK⟩
 ·obtain ⟨⟨h1,h2⟩,hK⟩:=Zb ha
  exact ⟨_,Zaa _ _ ⟨h2,h1⟩,fun _=>rfl,hK⟩
 ·exact ha.elim
noncomputable def ZfS (T:Int):Zf:=G0.withP 165 (ZfR T)
theorem ZbZ:(ZfS 4611686018427387904).Ok:=Zf.withP_ok Zu ZbY
@[irreducible] def allIn (m:Int) (xs:LI):Bool:= !((List.range xs.length).any (Yg m xs))
theorem Zc0 (T:Int) (xs:LI) (N:Nat) (F:Int) (hC:N<900000000000/\xs.length=N) (hF:F=if allIn 1125899906842624 xs then 0 else 2):
  evF (ZfS T) 20 80 [.vints .i64 xs N] ⟨0,[]⟩ (Yr 0 [] (.int .i64 F) 0 []):=by
 refine @Eq.mpr _ (Z6 (xs.length=N/\N<900000000000) (Z7 (!!decide (Yi (Yg 1125899906842624 xs) N>=0)) (Z6 (2=F) True) (Z6 (0=F) True))) (by kernel_rfl) ?_
 try simp only [W4]
 try simp only [W5]
 try simp only [vcC]
 obtain ⟨h1,h2⟩:=hC
 subst h2
 have hb:=V7 (Yg 1125899906842624 xs) xs.length
 refine ⟨⟨rfl,h1⟩,fun h=> ?_,fun h=> ?_⟩
 ·rw [hF]
  unfold allIn
  rw [<-hb]
  simp at h
  simp [h]
 ·rw [hF]
  unfold allIn
  rw [<-hb]
  simp at h
  simp [h]
def Zab (m:Int):ZJ:=fun args h K=>ZD none h true 20 args fun a=>match a with
 | [.vints .i64 xs n]=>Z6 (xs.length=n/\n<900000000000) (Z7 (allIn m xs) (K (.int .i64 0)) (K (.int .i64 2)))
 | _=>False
theorem Z8u (args:List AV) (h:Z9) (K:AV->Prop) (hl:Zab 1125899906842624 args h K):Zh PP 80 args h fun o h'=>∃v,o=.ret v/\h'=h/\K v:=by
 refine Zx.psumm (d:=20) (Zk _ _ _ _ _ hl fun a ha=> ?_)
 split at ha
 ·obtain ⟨⟨h1,h2⟩,hK⟩:=Zb ha
  refine ⟨_,.ev (ZbZ) (Zc0 _ _ _ _ ⟨h2,h1⟩ rfl),fun _=>rfl, ?_⟩
  rw [Qx] at hK
  split
  ·rename_i h;exact hK.1 h
  ·rename_i h;exact hK.2 (by simpa using h)
 ·exact ha.elim
def XL (xs:LI) (i:Nat):Int:=(xs.take i).sum
theorem Z08 {i:Nat} (h:i<xs.length):XL xs (i+1)=XL xs i+xs.getD i 0:=by
 unfold XL
 rw [List.take_succ_eq_append_getElem h,List.sum_append]
 simp [J2,h]
theorem Z09 {m:Int} (h:allIn m xs=true) {i:Nat} (hi:i<xs.length):0<=xs.getD i 0/\xs.getD i 0<=m:=by
 unfold allIn at h
 rw [Ja] at h
 rw [JF] at h
 have:=h i (Jq.2 hi)
 simp [Yg,Vr, -List.getD_eq_getElem?_getD] at this
 exact this
theorem Z5c {m:Int} {xs:LI} (h:allIn m xs=true):∀{i:Nat},i<=xs.length->0<=XL xs i
 | 0,_=>by simp [XL]
 | i+1,hi=>by
  rw [Z08 (by omega)]
  have:=Z09 h (i:=i) (by omega)
  have:=Z5c h (i:=i) (by omega)
  omega
theorem Z35 {m:Int} {xs:LI} (h:allIn m xs=true):∀(d i:Nat),i+d<=xs.length->XL xs i<=XL xs (i+d)
 | 0,i,_=>JY _
 | d+1,i,hi=>by
  have h1:=Z35 h d i (by omega)
  rw [<-Nat.add_assoc,Z08 (by omega)]
  have:=Z09 h (i:=i+d) (by omega)
  omega
def adS (xs:LI) (i:Nat):St:=⟨24,[(10,.vints .i64 xs xs.length),(3,.int .i64 150),(11,.int .i64 xs.length),(12,.int .i64 i),(2,.int .i64 (XL xs i))],⟨0,[]⟩,[]⟩
def adE (xs:LI) (i:Nat):St:=⟨24,[(3,.int .i64 150),(2,.int .i64 (XL xs i))],⟨0,[]⟩,[]⟩
def adJ (_:Nat):St:=⟨24,[(3,.int .i64 150)],⟨0,[]⟩,[]⟩
theorem ZfT (xs:LI) (i:Nat) (Z1 Z2 Z4:Prop) (M:Int) (hM:M=1125899906842624) (hn:xs.length<900000000000) (hall:allIn M xs=true) (hi:i<=xs.length) (hgo:∀j,j<i->XL xs (j+1)<=M) (h1:i<xs.length->XL xs (i+1)<=M->Z1) (h2:i=xs.length->Z2) (h4:i<xs.length->M<XL xs (i+1)->Z4):
  ZW G0 20 74 0 0 (adS xs i) (fun e s=>match e with|.normal=>ZK 0 [] (adS xs (i+1)) s Z1|.exit x=>(match Nat.beq x 0 with|true=>ZK 0 [] (adE xs i) s Z2|false=>False)|.ret=>ZK 0 [] (adJ i) s False|.goto x=>(match Nat.beq x 0 with|true=>ZK 0 [] (adJ i) s Z4|false=>False)|_=>False):=by
 refine @Eq.mpr _ (let c:=xs.length;let a:=(↑c:Int);let b:=XL xs i;let d:=wrap i64 (b+List.getD xs (Int.toNat (↑i:Int)) 0);
 Z7 (decide ((↑i:Int)<a)) (Z6 (0<=(↑i:Int)/\(↑i:Int)<a) (Z7 (decide (d>1125899906842624)) Z4 (xs=xs/\Z6 (c=c) (Z6 (a=a) (Z6 (wrap i64 ((↑i:Int)+1)=(↑(i+1):Int)) (Z6 (d=XL xs (i+1)) Z1)))))) (Z6 (b=b) Z2)) (by kernel_rfl) ?_
 conv=>zeta
 try simp only [W4]
 try simp only [W5]
 try simp only [vcC]
 subst hM
 refine ⟨fun hlt=>⟨by omega, ?_⟩,fun hge=>h2 (by omega)⟩
 have hs:=Z08 (xs:=xs) (i:=i) (by omega)
 have hx:=Z09 hall (i:=i) (by omega)
 have hp:=Z5c hall hi
 have hq:XL xs i<=1125899906842624:=by
  cases i with
  | zero=>simp [XL]
  | succ j=>exact hgo j (by omega)
 have hw:i64.wrap (XL xs i+xs.getD i 0)=XL xs (i+1):=by rw [w64 (by omega)];exact hs.symm
 rw [hw]
 have hw2:i64.wrap ((i:Int)+1)=((i+1:Nat):Int):=w64 (by omega)
 refine ⟨fun h=>h4 (by omega) (by omega),fun h=> ?_⟩
 rw [hw2]
 simp [h1 (by omega) (by omega)]
noncomputable def ZfU (m M:Int) (xs:LI):Zf:=(G0.withL 74 0 (goL 0 [] (adS xs 0) (allIn M xs=true/\xs.length<900000000000) (XY 0 xs.length 0 (fun i=>XL xs (i+1)<=M) (fun i=>i=xs.length) (fun _=>False) (fun i=>i<xs.length/\M<XL xs (i+1)) (adE xs) adJ adJ))).withP 80 (Zab m)
theorem Zc1 (xs:LI):(ZfU 1125899906842624 1125899906842624 xs).Ok:=
 Zf.withP_ok (Zf.withGoJ (τ1:=[]) (τ2:=[]) (τ3:=[]) (τ4:=[]) (N:=20) Zu (by kernel_rfl) fun hC=>⟨rfl,fun i hi hgo=>ZfT xs i _ _ _ _ rfl hC.2 hC.1 hi hgo (fun h1 h2=>⟨h2,h1⟩) (fun h=>h) (fun h1 h2=>⟨h1,h2⟩)⟩) Z8u
@[irreducible] def ZB (xs:LI):Int×Int:=if allIn 1125899906842624 xs=true then (if xs.sum<=1125899906842624 then (xs.sum,0) else (0,150)) else (0,2)
theorem ZfV (xs:LI) (m M:Int) (F:Int×Int) (hm:m=1125899906842624) (hM:M=1125899906842624) (hn:xs.length<900000000000) (hF:F=ZB xs):
  evF (ZfU m M xs) 20 74 [.vints .i64 xs xs.length] ⟨0,[]⟩ (Yr 0 [] (.tuple [.int .i64 F.1,.int .i64 F.2]) 0 []):=by
 refine @Eq.mpr _ (let a:=xs.length;let c:=(↑a:Int);let b:=decide (0=F.fst);
 Z6 (a=a/\a<900000000000) (Z7 (allIn m xs) (xs=xs/\Z6 (a=a) (Z6 (c=c) ((allIn M xs=true/\a<900000000000)/\∀(i:Nat),i<=a->(∀(j:Nat),j<i->(fun (i:Nat)=>XL xs (i+1)<=M) j)->(i=a->Z6 (XL xs i=F.fst) (Z6 (0=F.snd) True))/\(False->False)/\(i<a/\M<XL xs (i+1)->Z5 b (Z6 (150=F.snd) True))))) (Z5 b (Z6 (2=F.snd) True)))) (by kernel_rfl) ?_
 conv=>zeta
 try simp only [W4]
 try simp only [W5]
 try simp only [vcC]
 subst hm hM hF
 have ht:XL xs xs.length=xs.sum:=by simp [XL]
 refine ⟨hn,fun hall=>⟨⟨hall,hn⟩,fun i hi hgo=>⟨fun he=> ?_,fun h=>h.elim,fun he=> ?_⟩⟩,fun hall=> ?_⟩
 ·subst he
  have hle:xs.sum<=1125899906842624:=by
   rw [<-ht]
   rcases JG xs.length with h0|h0
   ·rw [h0];simp [XL]
   ·have:=hgo (xs.length-1) (by omega)
    rw [Nat.sub_add_cancel h0] at this
    exact this
  unfold ZB
  rw [if_pos hall,if_pos hle]
  exact ⟨ht,rfl⟩
 ·have hmono:=Z35 hall (xs.length-(i+1)) (i+1) (by omega)
  rw [show i+1+(xs.length-(i+1))=xs.length by omega,ht] at hmono
  unfold ZB
  rw [if_pos hall,if_neg (by omega)]
  exact ⟨rfl,rfl⟩
 ·unfold ZB
  rw [if_neg (by simp [hall])]
  exact ⟨rfl,rfl⟩
def Z7v (A:LI->Int×Int):ZJ:=fun args h K=>ZD none h true 20 args fun a=>match a with
 | [.vints .i64 xs n]=>Z6 (n=xs.length/\n<900000000000) (K (.tuple [.int .i64 (A xs).1,.int .i64 (A xs).2]))
 | _=>False
theorem Z25 (args:List AV) (h:Z9) (K:AV->Prop) (hl:Z7v ZB args h K):Zh PP 74 args h fun o h'=>∃v,o=.ret v/\h'=h/\K v:=by
 refine Zx.psumm (d:=20) (Zk _ _ _ _ _ hl fun a ha=> ?_)
 split at ha
 ·obtain ⟨⟨rfl,h1⟩,hK⟩:=Zb ha
  exact ⟨_,.ev (Zc1 _) (ZfV _ _ _ _ rfl rfl h1 rfl),fun _=>rfl,hK⟩
 ·exact ha.elim
def amL (g:Nat->Zp) (n:Nat):LI:=(List.range n).map fun j=>(g j).amount
theorem Zac (g:Nat->Zp) (n:Nat):amL g (n+1)=amL g n++[(g n).amount]:=by simp [amL,List.range_succ]
theorem Qy (g:Nat->Zp) (n:Nat):(amL g n).length=n:=by simp [amL]
def suS (M:Nat) (g:Nat->Zp) (i:Nat):St:=⟨24,[(8,.vrows 132 M (Ze g) M),(9,.int .i64 M),(10,.int .i64 i),(4,.nslice ⟨0,0,0,0,0⟩ 1 i i)],⟨1,[(0,.ints .i64 (amL g i))]⟩,[]⟩
def suE (g:Nat->Zp) (i:Nat):St:=⟨24,[(4,.nslice ⟨0,0,0,0,0⟩ 1 i i)],⟨1,[(0,.ints .i64 (amL g i))]⟩,[]⟩
theorem ZfW (M i:Nat) (g:Nat->Zp) (Z1 Z2:Prop) (hn:M<900000000000) (hi:i<=M) (h1:i<M->Z1) (h2:i=M->Z2):
  ZW G0 20 187 0 0 (suS M g i) (fun e s=>match e with|.normal=>ZK 0 [(0,3)] (suS M g (i+1)) s Z1|.exit x=>(match Nat.beq x 0 with|true=>ZK 0 [(0,0)] (suE g i) s Z2|false=>False)|.ret=>ZK 0 [] (suE g i) s False|_=>False):=by
 refine @Eq.mpr _ (let b:=amL g i;let e:=b++[(g (Int.toNat (↑i:Int))).amount];let c:=e.length;let d:=decide (M=M);let a:=i+1;
 Z7 (decide ((↑i:Int)<(↑M:Int))) (Z6 (0<=(↑i:Int)/\(↑i:Int)<(↑M:Int)) (Z6 (i64=i64/\b.length=i) (Z6 (c*8<=140737488355328) (Z5 d (Ze g=Ze g/\Z5 d (Z6 ((↑M:Int)=(↑M:Int)) (Z6 (wrap i64 ((↑i:Int)+1)=(↑a:Int)) (Z6 (c=a) (Z6 (a<=c) (e=amL g a/\Z1)))))))))) (Z6 (i=i) (Z6 (i<=i) (b=b/\Z2)))) (by kernel_rfl) ?_
 conv=>zeta
 try simp only [W4]
 try simp only [W5]
 try simp only [vcC]
 refine ⟨fun hlt=>⟨by omega,Qy g i, ?_⟩,fun hge=>h2 (by omega)⟩
 rw [<-Zac,Qy]
 exact ⟨by omega,w64 (by omega),rfl,J5 _,rfl,h1 (by omega)⟩
noncomputable def ZfX (A:LI->Int×Int) (M:Nat) (g:Nat->Zp):Zf:=(G0.withL 187 0 (goL 0 [] (suS M g 0) (M<900000000000) (Z0u 0 M (fun i=>i<M) (fun i=>i=M) (fun _=>False) (suE g) (suE g)))).withP 74 (Z7v A)
theorem Zc2 (M:Nat) (g:Nat->Zp):(ZfX ZB M g).Ok:=
 Zf.withP_ok (Zf.withGo (τ1:=[(0,3)]) (τ2:=[(0,0)]) (τ3:=[]) (N:=20) Zu (by kernel_rfl) fun hC=>⟨rfl,fun i hi hgo=>ZfW M i g _ _ hC hi (fun h=>⟨h,h⟩) (fun h=>h)⟩) Z25
theorem ZfY (A:LI->Int×Int) (M N:Nat) (f:Nat->InS) (g:Nat->Zp) (num:Int) (F:Int×Int) (hn:M<900000000000) (hF:F=A (amL g M)):
  evF (ZfX A M g) 20 187 [.agg [.int .i64 num,.vrows 130 N (Zd f) N,.vrows 132 M (Ze g) M]] ⟨0,[]⟩ (Yr 0 [] (.tuple [.int .i64 F.1,.int .i64 F.2]) 0 []):=by
 refine @Eq.mpr _ (let c:=decide (M=M);
 Z5 c (Ze g=Ze g/\
 Z5 c (Z6 ((↑M:Int)=(↑M:Int)) (amL g 0=[]/\
 M<900000000000/\
 ∀(i:Nat),
 let b:=List.take i (X9 0 (amL g i));let a:=A b;
 i<=M->(∀(j:Nat),j<i->(fun (i:Nat)=>i<M) j)->(i=M->Z6 (0+i<=List.length (amL g i)) (Z6 (i=b.length/\i<900000000000) (Z6 (a.fst=F.fst) (Z6 (a.snd=F.snd) True))))/\(False->False))))) (by kernel_rfl) ?_
 conv=>zeta
 try simp only [W4]
 try simp only [W5]
 try simp only [vcC]
 subst hF
 refine ⟨rfl,hn,fun i hi hgo=>⟨fun he=> ?_,fun h=>h.elim⟩⟩
 subst he
 rw [YA,List.drop_zero,K8 (by rw [Qy];exact J5 _),Qy]
 exact ⟨J5 _,⟨rfl,hn⟩,rfl,rfl⟩
def Z6x (A:LI->Int×Int):ZJ:=fun args h K=>ZD none h true 20 args fun a=>match a with
 | [.agg [.int .i64 num,.vrows 130 N f n,.vrows 132 M f' m]]=>∃g g',f=Zd g/\f'=Ze g'/\(n=N/\m=M/\M<900000000000)/\K (.tuple [.int .i64 (A (amL g' M)).1,.int .i64 (A (amL g' M)).2])
 | _=>False
theorem Z36 (args:List AV) (h:Z9) (K:AV->Prop) (hl:Z6x ZB args h K):Zh PP 187 args h fun o h'=>∃v,o=.ret v/\h'=h/\K v:=by
 refine Zx.psumm (d:=20) (Zk _ _ _ _ _ hl fun a ha=> ?_)
 split at ha
 ·obtain ⟨g,g',rfl,rfl,⟨rfl,rfl,h1⟩,hK⟩:=ha
  exact ⟨_,.ev (Zc2 _ g') (ZfY _ _ _ g g' _ _ h1 rfl),fun _=>rfl,hK⟩
 ·exact ha.elim
def Z2t (v:AV) (N:Nat) (g:Nat->InS):Prop:=match v with
 | .vrows 130 n f m=>(m=n/\N=n)/\∀i,i<n->f i=(g i).c
 | .nilslice=>N=0
 | .eslice=>N=0
 | .fslice=>N=0
 | _=>False
def UG (v:AV) (N:Nat) (g:Nat->Zp):Prop:=match v with
 | .vrows 132 n f m=>(m=n/\N=n)/\∀i,i<n->f i=(g i).c
 | .nilslice=>N=0
 | .eslice=>N=0
 | .fslice=>N=0
 | _=>False
theorem Zc.rows0 {E:Env} {f:Nat->List AV} {r:Value} {a:Option Addr} {c:Nat} (h:r=.slice a 0 c) (hc:a=none->c=0):Zc E (.vrows esz 0 f 0) r:=by
 subst h
 cases a with
 | none=>rw [hc rfl];exact .vrowsNil _ _ _ _ rfl rfl
 | some a=>exact .vrows _ _ _ _ a c (fun _=>[]) (J5 _) (JI _) (fun i h=>by omega) (fun i h=>by omega) (fun i j c h=>by omega)
theorem Zc.rowsC {E:Env} {n:Nat} {f f':Nat->List AV} {r:Value} (h:Zc E (.vrows esz n f n) r) (hf:∀i,i<n->f i=f' i):Zc E (.vrows esz n f' n) r:=by
 cases h with
 | vrowsNil esz n f len h1 h2=>exact .vrowsNil _ _ _ _ h1 h2
 | vrows esz n f len a cap g h1 h2 hc hl hi=>exact .vrows _ _ _ _ a cap g h1 h2 (fun i h=>by rw [<-hf i h];exact hc i h) hl hi
theorem Z2t.rel {N:Nat} {g:Nat->InS} (h:Z2t v N g) {E:Env} {r:Value} (hv:Zc E v r):Zc E (.vrows 130 N (Zd g) N) r:=by
 unfold Z2t at h
 split at h
 ·obtain ⟨⟨rfl,rfl⟩,hf⟩:=h
  exact hv.rowsC hf
 ·subst h;cases hv;exact .rows0 rfl (fun _=>rfl)
 ·subst h;cases hv with|eslice a=>exact .rows0 rfl (fun _=>rfl)
 ·subst h;cases hv with|fslice a c=>exact .rows0 rfl (fun h=>by cases h)
 ·exact h.elim
theorem UG.rel {N:Nat} {g:Nat->Zp} (h:UG v N g) {E:Env} {r:Value} (hv:Zc E v r):Zc E (.vrows 132 N (Ze g) N) r:=by
 unfold UG at h
 split at h
 ·obtain ⟨⟨rfl,rfl⟩,hf⟩:=h
  exact hv.rowsC hf
 ·subst h;cases hv;exact .rows0 rfl (fun _=>rfl)
 ·subst h;cases hv with|eslice a=>exact .rows0 rfl (fun _=>rfl)
 ·subst h;cases hv with|fslice a c=>exact .rows0 rfl (fun h=>by cases h)
 ·exact h.elim
theorem Z2t.cell {N:Nat} {g:Nat->InS} (h:Z2t v N g):v.isCell=true/\∀k n xs,v≠.arr k n xs:=by
 unfold Z2t at h;split at h<;>simp_all [AV.isCell]
theorem UG.cell {N:Nat} {g:Nat->Zp} (h:UG v N g):v.isCell=true/\∀k n xs,v≠.arr k n xs:=by
 unfold UG at h;split at h<;>simp_all [AV.isCell]
structure TxS where
 num:Int
 N:Nat
 ins:Nat->InS
 M:Nat
 outs:Nat->Zp
def TxS.c (t:TxS):List AV:=[.int .i64 t.num,.vrows 130 t.N (Zd t.ins) t.N,.vrows 132 t.M (Ze t.outs) t.M]
structure TxS.Ok (t:TxS):Prop where
 n:t.N<900000000000
 m:t.M<900000000000
 ins:∀i,i<t.N->(t.ins i).Ok
 outs:∀i,i<t.M->(t.outs i).Ok
def Z0I (l:List AV) (t:TxS):Prop:=match l with
 | [.int .i64 num,a,b]=>t.num=num/\Z2t a t.N t.ins/\UG b t.M t.outs
 | _=>False
theorem Z0I.rel {t:TxS} (h:Z0I l t) {E:Env} {r:Value} (hv:Zc E (.agg l) r):Zc E (.agg t.c) r:=by
 unfold Z0I at h
 split at h
 ·rename_i num a b
  obtain ⟨h0,h1,h2⟩:=h
  cases hv with
  | agg cs vs hc=>
   obtain ⟨c1,ws,rfl,_,q1,p1,hc⟩:=Zn.cons_cell hc (fun _ _ _ h=>by cases h)
   obtain ⟨c2,ws,rfl,_,q2,p2,hc⟩:=Zn.cons_cell hc h1.cell.2
   obtain ⟨c3,ws,rfl,_,q3,p3,hc⟩:=Zn.cons_cell hc h2.cell.2
   cases hc
   refine .agg _ _ (.one _ _ _ _ rfl q1 (by rw [h0];exact p1) (.one _ _ _ _ rfl q2 (h1.rel p2) (.one _ _ _ _ rfl q3 (h2.rel p3) .nil)))
 ·exact h.elim
theorem Zx.conv {P:Program} {f:FuncId} {args args₀:List AV} {nx:Nat} {bs:List (Nat×Blk)} (h:Zx P f args₀ v nx bs) (hc:∀E r,Zw E args r->Zw E args₀ r):Zx P f args v nx bs:=
 fun E w rs he hr=>h E w rs he (hc E rs hr)
theorem Zw.head {E:Env} {v':AV} {r:List AV} {rs:List Value} (h:Zw E (v::l) rs) (hv:∀c,Zc E v c->Zc E v' c) (ht:∀cs,Zw E l cs->Zw E r cs):Zw E (v'::r) rs:=by
 cases h with
 | cons v c vs cs h t=>exact .cons _ _ _ _ (hv c h) (ht cs t)
@[irreducible] def Y5 (A:LI->Int×Int) (t:TxS):Bool:=
 decide (0<=t.num/\t.num<=2147483647)&&decide (1<=t.N/\t.N<=24)&&decide (1<=t.M/\t.M<=24)&& !((List.range t.N).any (YK t.N t.ins))&& !((List.range t.M).any (Yf t.outs))&&((A (amL t.outs t.M)).2==0)
noncomputable def ZfZ (A:LI->Int×Int):Zf:=((G0.withP 179 Zfy).withP 245 ZfF).withP 187 (Z6x A)
theorem Zc3:(ZfZ ZB).Ok:=Zf.withP_ok (Zf.withP_ok (Zf.withP_ok Zu ZbP) ZbT) Z36
theorem Zhl (A:LI->Int×Int) (t:TxS) (F:Int) (ht:t.Ok) (hF:F=if Y5 A t=true then 0 else 2):
  evF (ZfZ A) 20 89 [.agg t.c] ⟨0,[]⟩ (Yr 0 [] (.int .i64 F) 0 []):=by
 refine @Eq.mpr _ (let a:=Z6 (2=F) True;let c:=t.N;let k:=(↑c:Int);let b:=t.M;let j:=(↑b:Int);let h:=Zd t.ins;let d:=c=c;let f:=b=b;let e:=b<900000000000;
 Z7 (decide (0<=t.num)) (Z7 (!decide (t.num<=2147483647)) a (Z7 (decide (1<=k)) (Z7 (!decide (k<=24)) a (Z7 (decide (1<=j)) (Z7 (!decide (j<=24)) a (∃(g:Nat->InS),
 let m:=h=Zd g;
 m/\
 m/\
 (d/\d/\d/\c<900000000000/\∀(i:Nat),i<c->InS.Ok (g i))/\
 Z7 (decide (Yi (YK c g) c>=0)) a (∃(g:Nat->Zp),
 let l:=Ze t.outs;
 l=Ze g/\(f/\e/\∀(i:Nat),i<b->Zp.Ok (g i))/\Z7 (decide (Yi (Yf g) b>=0)) a (∃(g:Nat->InS),∃(g':Nat->Zp),h=Zd g/\l=Ze g'/\(d/\f/\e)/\Z7 ((A (amL g' b)).snd !=0) a (Z6 (0=F) True))))) a)) a)) a) (by kernel_rfl) ?_
 conv=>zeta
 try simp only [W4]
 try simp only [W5]
 try simp only [vcC]
 have h2:Y5 A t=false->2=F:=fun h=>by rw [hF,h];rfl
 have h0:Y5 A t=true->0=F:=fun h=>by rw [hF,h];rfl
 clear hF
 refine ⟨fun a1=>⟨fun a2=>h2 ?_,fun a2=>⟨fun a3=>⟨fun a4=>h2 ?_,fun a4=>⟨fun a5=>⟨fun a6=>h2 ?_,fun a6=> ?_⟩,fun a5=>h2 ?_⟩⟩,fun a3=>h2 ?_⟩⟩,fun a1=>h2 ?_⟩
 ·unfold Y5;rw [decide_eq_false (p:=0<=t.num/\_) (by simp at a2;omega)];simp
 ·unfold Y5;rw [decide_eq_false (p:=1<=t.N/\_) (by simp at a4;omega)];simp
 ·unfold Y5;rw [decide_eq_false (p:=1<=t.M/\_) (by simp at a6;omega)];simp
 ·refine ⟨t.ins,rfl,rfl,⟨ht.n,ht.ins⟩,fun b1=>h2 ?_,fun b1=>⟨t.outs,rfl,⟨ht.m,ht.outs⟩,fun b2=>h2 ?_,fun b2=>⟨t.ins,t.outs,rfl,rfl,ht.m,fun b3=>h2 ?_,fun b3=>h0 ?_⟩⟩⟩
  ·have:=V7 (YK t.N t.ins) t.N
   rw [decide_eq_true b1] at this
   unfold Y5;rw [<-this];simp
  ·have:=V7 (Yf t.outs) t.M
   rw [decide_eq_true b2] at this
   unfold Y5;rw [<-this];simp
  ·unfold Y5;simp at b3;simp [b3]
  ·have e1:=V7 (YK t.N t.ins) t.N
   rw [decide_eq_false b1] at e1
   have e2:=V7 (Yf t.outs) t.M
   rw [decide_eq_false b2] at e2
   unfold Y5
   rw [<-e1,<-e2]
   simp at a2 a4 a6 b3
   simp [b3]
   omega
 ·unfold Y5;rw [decide_eq_false (p:=1<=t.M/\_) (by omega)];simp
 ·unfold Y5;rw [decide_eq_false (p:=1<=t.N/\_) (by omega)];simp
 ·unfold Y5;rw [decide_eq_false (p:=0<=t.num/\_) (by omega)];simp
def ckS (A:LI->Int×Int):ZJ:=fun args h K=>ZD none h true 20 args fun a=>match a with
 | [.agg l]=>∃t,Z0I l t/\t.Ok/\Z7 (Y5 A t) (K (.int .i64 0)) (K (.int .i64 2))
 | _=>False
theorem Zad (args:List AV) (h:Z9) (K:AV->Prop) (hl:ckS ZB args h K):Zh PP 89 args h fun o h'=>∃v,o=.ret v/\h'=h/\K v:=by
 refine Zx.psumm (d:=20) (Zk _ _ _ _ _ hl fun a ha=> ?_)
 split at ha
 ·obtain ⟨t,h1,h2,hK⟩:=ha
  refine ⟨_,(Zx.ev Zc3 (Zhl _ t _ h2 rfl)).conv fun E r hr=>hr.head (fun _ hc=>h1.rel hc) (fun _ hc=>hc),fun _=>rfl, ?_⟩
  rw [Qx] at hK
  split
  ·rename_i h;exact hK.1 h
  ·rename_i h;exact hK.2 (by simpa using h)
 ·exact ha.elim
end Go.Tk
end
section
namespace Go.Tk
open IntKind (i64 u8 u32 u64 wrap)
def Zae (k:Nat) (τ:Ren) (y x:Nat):Ren:=match Nat.blt y k with
 | true=>τ
 | false=>match Z69 τ y with
  | some _=>τ
  | none=>(y,x)::τ
mutual
def Zee (k:Nat) (τ:Ren):AV->AV->Ren
 | .ptr (some q),v=>match v with|.ptr (some p)=>Zae k τ q.blk p.blk|_=>τ
 | .nslice q _ _ _,v=>match v with|.nslice p _ _ _=>Zae k τ q.blk p.blk|_=>τ
 | .map (some y),v=>match v with|.map (some x)=>Zae k τ y x|_=>τ
 | .yield y,v=>match v with|.yield x=>Zae k τ y x|_=>τ
 | .func _ fs cs,v=>match v with|.func _ fs' cs'=>Z26 k (Z26 k τ fs fs') cs cs'|_=>τ
 | .iface _ u,v=>match v with|.iface _ u'=>Zee k τ u u'|_=>τ
 | .agg cs,v=>match v with|.agg cs'=>Z26 k τ cs cs'|_=>τ
 | .tuple cs,v=>match v with|.tuple cs'=>Z26 k τ cs cs'|_=>τ
 | _,_=>τ
def Z26 (k:Nat) (τ:Ren):List AV->List AV->Ren
 | [],_=>τ
 | v::r,l=>match l with|v'::r'=>Z26 k (Zee k τ v v') r r'|[]=>τ
end
def Zhm (k:Nat) (τ:Ren):Blk->Blk->Ren
 | .flat cs,B=>match B with|.flat cs'=>Z26 k τ cs cs'|_=>τ
 | .map es,B=>match B with|.map es'=>Z26 k (Z26 k τ (es.map (·.1)) (es'.map (·.1))) (es.map (·.2)) (es'.map (·.2))|_=>τ
 | .pmap es,B=>match B with|.pmap es'=>Z26 k (Z26 k τ (es.map (·.1)) (es'.map (·.1))) (es.map (·.2)) (es'.map (·.2))|_=>τ
 | _,_=>τ
def Zg0 (k:Nat) (t:ZL):ZL->Ren->Ren
 | [],τ=>τ
 | (x,v)::r,τ=>Zg0 k t r (match Zz t x with|some u=>Zee k τ v u|none=>τ)
def Zef (k:Nat):List VD->List VD->Ren->Ren
 | .call _ a::r,l,τ=>match l with|.call _ b::r'=>Zef k r r' (Z26 k τ a b)|_=>τ
 | .mark y::r,l,τ=>match l with|.mark x::r'=>Zef k r r' (Zae k τ y x)|_=>τ
 | [],_,τ=>τ
def Zc4 (k:Nat) (bs:List (Nat×Blk)):List (Nat×Blk)->Ren->Ren
 | [],τ=>τ
 | (y,B)::r,τ=>Zc4 k bs r (match rn k τ y with
  | some x=>match ZC bs x with|some C=>Zhm k τ B C|none=>τ
  | none=>τ)
def Zhn (k:Nat) (s₂ s:St):Ren:=Zc4 k s.h.bs s₂.h.bs (Zc4 k s.h.bs s₂.h.bs (Zc4 k s.h.bs s₂.h.bs (Zef k s₂.d s.d (Zg0 k s.t s₂.t []))))
def Z0v (k:Nat) (s₂ s:St) (Z:Prop):Prop:=ZK k (Zhn k s₂ s) s₂ s Z
theorem VW {k:Nat} {s₂ s:St} {Z:Prop} (hl:Z0v k s₂ s Z):Z/\UZ k s s₂:=ZT hl
def Y6 (k:Nat) (o:Out) (nx:Nat) (bs:List (Nat×Blk)):KO:=fun o' h=>match o with
 | .ret v=>match o' with
  | .ret u=>Z0v k ⟨1,[(0,v)],⟨nx,bs⟩,[]⟩ ⟨1,[(0,u)],h,[]⟩ True
  | .panic _=>False
 | .panic v=>match o' with
  | .panic u=>Z0v k ⟨1,[(0,v)],⟨nx,bs⟩,[]⟩ ⟨1,[(0,u)],h,[]⟩ True
  | .ret _=>False
theorem Spec.evM {G:Zf} (hG:G.Ok) {n:Nat} {f:FuncId} {args:List AV} {h0:Z9} {o:Out} {nx:Nat} {bs:List (Nat×Blk)} (h:evF G n f args h0 (Y6 h0.next o nx bs)):Spec G.P f args h0 o nx bs:=by
 intro E w rs he hl
 refine (Yw hG h E w rs he hl).mono ?_
 rintro e w' ⟨E',o',h',hK,hev,hor⟩
 unfold Y6 at hK
 cases o with
 | ret v=>
  cases hor with
  | ret u r hr=>
   obtain ⟨E₂,h1,h2⟩:=Ui rfl hK he hev hr
   exact ⟨E₂,h1,.ret _ _ h2⟩
  | panic u r hr=>exact hK.elim
 | panic v=>
  cases hor with
  | panic u r hr=>
   obtain ⟨E₂,h1,h2⟩:=Ui rfl hK he hev hr
   exact ⟨E₂,h1,.panic _ _ h2⟩
  | ret u r hr=>exact hK.elim
theorem Spec.pure {P:Program} {f:FuncId} {args:List AV} {v:AV} {nx:Nat} {bs:List (Nat×Blk)} (h:Spec P f args ⟨0,[]⟩ (.ret v) nx bs):Zx P f args v nx bs:=by
 intro E w rs he hl
 refine (h E w rs he hl).mono ?_
 rintro e w' ⟨E',hev,hor⟩
 cases hor with
 | ret v r hr=>exact ⟨E',r,rfl,hev,hr⟩
theorem Zx.evM {G:Zf} (hG:G.Ok) {n:Nat} {f:FuncId} {args:List AV} {v:AV} {nx:Nat} {bs:List (Nat×Blk)} (h:evF G n f args ⟨0,[]⟩ (Y6 0 (.ret v) nx bs)):Zx G.P f args v nx bs:=(Spec.evM hG h).pure
def goM (k:Nat) (S0:St) (C:Prop) (ends:KE->Prop):Nat->St->KE->Prop:=fun k' s X=>match Nat.beq k' k with
 | true=>Z0v k S0 s (C/\ends X)
 | false=>False
def rdM (k id l:Nat) (S1 En Rn Jn:St) (go ex re jm:Prop):KE:=fun e s=>match e with
 | .normal=>Z0v k S1 s go
 | .exit x=>(match Nat.beq x id with|true=>Z0v k En s ex|false=>False)
 | .ret=>Z0v k Rn s re
 | .goto x=>(match Nat.beq x l with|true=>Z0v k Jn s jm|false=>False)
 | .panic _=>False
theorem Zf.withGoM {G:Zf} (hG:G.Ok) {f:FuncId} {id k N n l:Nat} {S En Rn Jn:Nat->St} {S0:St} {C:Prop} {go ex re jm:Nat->Prop} (h1:V0 G.P f id=true) (hC:C->S 0=S0/\
   ∀i,i<=n->(∀j,j<i->go j)->ZW G N f id k (S i) (rdM k id l (S (i+1)) (En i) (Rn i) (Jn i) (go i/\i<n) (ex i) (re i) (jm i))):
  (G.withL f id (goM k S0 C (XY id n l go ex re jm En Rn Jn))).Ok:=by
 refine Zf.withL_ok hG h1 ?_
 intro k' s X hl
 unfold goM at hl
 split at hl
 ·rename_i hk
  have:=J0 hk
  subst this
  obtain ⟨⟨hc,hX⟩,hw⟩:=VW hl
  obtain ⟨e0,hr⟩:=hC hc
  refine ⟨{ t:Nat//t<=n/\∀j,j<t->go j},fun t=>n-t.1,fun t=>S t.1,⟨0,JI _,fun j hj=>by omega⟩,N,by show UZ k' s (S 0);rw [e0];exact hw, ?_⟩
  rintro ⟨t,ht,hgo⟩
  refine ⟨_,hr t ht hgo, ?_⟩
  intro e s' hY
  unfold rdM at hY
  split at hY
  ·obtain ⟨⟨hg,hlt⟩,hw'⟩:=VW hY
   refine ⟨⟨t+1,hlt,fun j hj=> ?_⟩,by show n-(t+1)<n-t;omega,hw'⟩
   by_cases hjt:j=t
   ·rw [hjt];exact hg
   ·exact hgo j (by omega)
  ·split at hY
   ·rename_i hi
    have:=J0 hi
    subst this
    obtain ⟨hex,hw'⟩:=VW hY
    exact ⟨_,hw',(hX t ht hgo).1 hex⟩
   ·exact hY.elim
  ·obtain ⟨hre,hw'⟩:=VW hY
   exact ⟨_,hw',(hX t ht hgo).2.1 hre⟩
  ·split at hY
   ·rename_i hi
    have:=J0 hi
    subst this
    obtain ⟨hjm,hw'⟩:=VW hY
    exact ⟨_,hw',(hX t ht hgo).2.2 hjm⟩
   ·exact hY.elim
  ·exact hY.elim
 ·exact hl.elim
end Go.Tk
namespace Go.Tk
open IntKind (i64 u8 u32 u64 wrap)
theorem Zf.withL_join {G H:Zf} (hG:G.Ok) (hP:G.P=H.P) {f:FuncId} {id:Nat} {S:Nat->St->KE->Prop} (h:(H.withL f id S).Ok):(G.withL f id S).Ok where
 draw:=hG.draw
 psumm:=hG.psumm
 fsumm:=hG.fsumm
 lsumm:=fun f' id' S' fn c body hS hf hb hm k s X hs=>by
  have hS0:=hS
  simp only [Zf.withL] at hS
  split at hS
  ·have:=h.lsumm f' id' S' fn c body
   simp only [Zf.withL] at this
   rename_i hq
   rw [hq] at this
   have:=this hS (hP▸hf) hb hm k s X hs
   rw [<-hP] at this
   exact this
  ·exact hG.lsumm f' id' S' fn c body hS hf hb hm k s X hs
end Go.Tk
end
section
namespace Go.Tk
open IntKind (i64 u8 u32 u64 wrap)
variable {args:List AV} {Nm:TxS->LI} {T2:LI->LI->LI} {H1 PH:LI->LI} {R:Zp->Bool} {at_ height since:Int}
def b8 (n k:Int):Int:=u8.wrap (Zy .i64 n k)
@[irreducible] def ZR (n:Int):LI:=
 if n<253 then [u8.wrap n] else if n<65536 then [253,b8 n 8,b8 n 0] else if n<4294967296 then [254,b8 n 24,b8 n 16,b8 n 8,b8 n 0]
 else [255,b8 n 56,b8 n 48,b8 n 40,b8 n 32,b8 n 24,b8 n 16,b8 n 8,b8 n 0]
theorem Y0 (n:Int):1<=(ZR n).length/\(ZR n).length<=9:=by
 unfold ZR
 split
 ·simp
 ·split
  ·simp
  ·split<;>simp
theorem Zdk {n:Int} (h:n<253):ZR n=[u8.wrap n]:=by unfold ZR;rw [if_pos h]
theorem Zdl {n:Int} (h:¬n<253) (h2:n<65536):ZR n=[253,b8 n 8,b8 n 0]:=by unfold ZR;rw [if_neg h,if_pos h2]
theorem Zdm {n:Int} (h:¬n<253) (h2:¬n<65536) (h3:n<4294967296):ZR n=[254,b8 n 24,b8 n 16,b8 n 8,b8 n 0]:=by unfold ZR;rw [if_neg h,if_neg h2,if_pos h3]
theorem Zdn {n:Int} (h:¬n<253) (h2:¬n<65536) (h3:¬n<4294967296):ZR n=[255,b8 n 56,b8 n 48,b8 n 40,b8 n 32,b8 n 24,b8 n 16,b8 n 8,b8 n 0]:=by unfold ZR;rw [if_neg h,if_neg h2,if_neg h3]
theorem Zg1 (xs ys:LI) (N L s lo:Nat) (n:Int) (hN:xs.length=N) (hB:N<90000000000000) (hy:ys=ZR n) (hL:L=(xs++ys).length):
  evF G0 20 118 [.nslice ⟨0,0,s,0,0⟩ 1 N lo,.int .i64 n] ⟨1,[(0,.ints .u8 xs)]⟩ (Y6 1 (.ret (.nslice ⟨1,0,0,0,0⟩ 1 L L)) 2 [(1,.ints .u8 (xs++ys))]):=by
 refine @Eq.mpr _ (let b:=decide (u8=u8/\xs.length=N);let K:=xs++[wrap u8 n];let m:=K.length;let a:=xs++ys;let y:=xs++[(253:Int)];let e:=y.length;let d:=[wrap u8 (Zy i64 n 8)];let x:=y++d;let c:=x.length;let w:=[wrap u8 (Zy i64 n 0)];let S:=x++w;let v:=S.length;let R:=xs++[(254:Int)];let u:=R.length;let Q:=[wrap u8 (Zy i64 n 24)];let P:=R++Q;let t:=P.length;let O:=[wrap u8 (Zy i64 n 16)];let M:=P++O;let s:=M.length;let J:=M++d;let r:=J.length;let I:=J++w;let q:=I.length;let H:=xs++[(255:Int)];let p:=H.length;let G:=H++[wrap u8 (Zy i64 n 56)];let o:=G.length;let F:=G++[wrap u8 (Zy i64 n 48)];let l:=F.length;let E:=F++[wrap u8 (Zy i64 n 40)];let k:=E.length;let D:=E++[wrap u8 (Zy i64 n 32)];let j:=D.length;let C:=D++Q;let i:=C.length;let B:=C++O;let h:=B.length;let A:=B++d;let g:=A.length;let z:=A++w;let f:=z.length;
 Z7 (decide (n<253)) (Z5 b (Z6 (m*1<=140737488355328) (Z6 (m=L) (Z6 (L<=m) (K=a/\True))))) (Z7 (decide (n<65536)) (Z5 b (Z6 (e*1<=140737488355328) (Z6 (u8=u8/\e=e) (Z6 (c*1<=140737488355328) (Z6 (u8=u8/\c=c) (Z6 (v*1<=140737488355328) (Z6 (v=L) (Z6 (L<=v) (S=a/\True))))))))) (Z7 (decide (n<4294967296)) (Z5 b (Z6 (u*1<=140737488355328) (Z6 (u8=u8/\u=u) (Z6 (t*1<=140737488355328) (Z6 (u8=u8/\t=t) (Z6 (s*1<=140737488355328) (Z6 (u8=u8/\s=s) (Z6 (r*1<=140737488355328) (Z6 (u8=u8/\r=r) (Z6 (q*1<=140737488355328) (Z6 (q=L) (Z6 (L<=q) (I=a/\True))))))))))))) (Z5 b (Z6 (p*1<=140737488355328) (Z6 (u8=u8/\p=p) (Z6 (o*1<=140737488355328) (Z6 (u8=u8/\o=o) (Z6 (l*1<=140737488355328) (Z6 (u8=u8/\l=l) (Z6 (k*1<=140737488355328) (Z6 (u8=u8/\k=k) (Z6 (j*1<=140737488355328) (Z6 (u8=u8/\j=j) (Z6 (i*1<=140737488355328) (Z6 (u8=u8/\i=i) (Z6 (h*1<=140737488355328) (Z6 (u8=u8/\h=h) (Z6 (g*1<=140737488355328) (Z6 (u8=u8/\g=g) (Z6 (f*1<=140737488355328) (Z6 (f=L) (Z6 (L<=f) (z=a/\True)))))))))))))))))))))))) (by kernel_rfl) ?_
 conv=>zeta
 try simp only [W4]
 try simp only [W5]
 try simp only [vcC]
 subst hy hL hN
 refine ⟨fun h1=> ?_,fun h1=>⟨fun h2=> ?_,fun h2=>⟨fun h3=> ?_,fun h3=> ?_⟩⟩⟩
 ·rw [Zdk h1]
  simp only [Je,Jw,JK]
  and_intros<;>first|trivial|omega
 ·rw [Zdl h1 h2]
  simp only [Je,Jw,JK]
  and_intros<;>first|trivial|omega|simp [b8]
 ·rw [Zdm h1 h2 h3]
  simp only [Je,Jw,JK]
  and_intros<;>first|trivial|omega|simp [b8]
 ·rw [Zdn h1 h2 h3]
  simp only [Je,Jw,JK]
  and_intros<;>first|trivial|omega|simp [b8]
theorem Zg2 (ys:LI) (L:Nat) (n:Int) (hy:ys=ZR n) (hL:L=ys.length):
  evF G0 20 118 [.nilslice,.int .i64 n] ⟨0,[]⟩ (Y6 0 (.ret (.nslice ⟨0,0,0,0,0⟩ 1 L L)) 1 [(0,.ints .u8 ys)]):=by
 refine @Eq.mpr _ (let b:=[wrap u8 (Zy i64 n 8),wrap u8 (Zy i64 n 0)];let a:=wrap u8 (Zy i64 n 24)::wrap u8 (Zy i64 n 16)::b;
 Z7 (decide (n<253)) (Z6 (1=L) (Z6 (L<=1) ([wrap u8 n]=ys/\True))) (Z7 (decide (n<65536)) (Z6 (3=L) (Z6 (L<=3) ((253:Int)::b=ys/\True))) (Z7 (decide (n<4294967296)) (Z6 (5=L) (Z6 (L<=5) ((254:Int)::a=ys/\True))) (Z6 (9=L) (Z6 (L<=9) ((255:Int)::wrap u8 (Zy i64 n 56)::wrap u8 (Zy i64 n 48)::wrap u8 (Zy i64 n 40)::wrap u8 (Zy i64 n 32)::a=ys/\True)))))) (by kernel_rfl) ?_
 conv=>zeta
 try simp only [W4]
 try simp only [W5]
 try simp only [vcC]
 subst hy hL
 refine ⟨fun h1=> ?_,fun h1=>⟨fun h2=> ?_,fun h2=>⟨fun h3=> ?_,fun h3=> ?_⟩⟩⟩
 ·rw [Zdk h1];simp
 ·rw [Zdl h1 h2];simp [b8]
 ·rw [Zdm h1 h2 h3];simp [b8]
 ·rw [Zdn h1 h2 h3];simp [b8]
def Zeg (W:Int->LI):Yb:=fun args h K=>match args with
 | [.nslice ⟨b,0,_,0,0⟩ 1 _ _,.int .i64 _]=>frA [b] h 20 args fun Bs a=>match Bs,a with
  | [.ints .u8 xs],[.nslice ⟨0,0,_,0,0⟩ 1 len _,.int .i64 n]=>Z6 (xs.length=len/\len<90000000000000) (K (.ret (.nslice ⟨h.next,0,0,0,0⟩ 1 (xs++W n).length (xs++W n).length)) ⟨h.next+1,(h.next,.ints .u8 (xs++W n))::Yu h.bs b⟩)
  | _,_=>False
 | [.nilslice,.int .i64 n]=>K (.ret (.nslice ⟨h.next,0,0,0,0⟩ 1 (W n).length (W n).length)) ⟨h.next+1,(h.next,.ints .u8 (W n))::h.bs⟩
 | _=>False
theorem Zc5 (args:List AV) (h:Z9) (K:KO) (hl:Zeg ZR args h K):Zh PP 118 args h K:=by
 unfold Zeg at hl
 split at hl
 ·refine Spec.fsumm hl fun Bs a hlen hK0=> ?_
  split at hK0
  ·obtain ⟨⟨h1,h2⟩,hK⟩:=Zb hK0
   exact ⟨_,_,_,_,_,.evM Zu (Zg1 _ _ _ _ _ _ _ h1 h2 rfl rfl),by simp,.ret _ _ rfl,.cons _ _ _ _ _ _ rfl (.ints _ _) .nil,hK⟩
  ·exact hK0.elim
 ·exact (Zx.evM Zu (Zg2 _ _ _ rfl rfl)).calls (fun E w rs he hr=>by
   cases hr with
   | cons v r vs rs h1 h2=>cases h2 with
    | cons v r vs rs h2 h3=>cases h3;exact .cons _ _ _ _ (h1.plain rfl) (.cons _ _ _ _ (h2.plain rfl) .nil)) rfl ⟨JV,.ints _ _,trivial⟩ hl
 ·exact hl.elim
theorem Zaf (x:Int) (xs:LI) (N:Nat) (hN:(x::xs).length=N) (hB:N<90000000000000):
  evF G0 20 119 [.vints .u8 (x::xs) N] ⟨0,[]⟩ (Y6 0 (.ret (.nslice ⟨0,0,0,0,0⟩ 1 N N)) 1 [(0,.ints .u8 (x::xs))]):=by
 refine @Eq.mpr _ (let b:=[]++List.take N (x::xs);let a:=b.length;
 Z6 (a*1<=140737488355328) (Z6 (a=N) (Z6 (N<=a) (b=x::xs/\True)))) (by kernel_rfl) ?_
 conv=>zeta
 try simp only [vcA]
 try simp only [vcB]
 try simp only [vcC]
 subst hN
 simp only [List.nil_append,K6]
 and_intros<;>first|trivial|omega
theorem Zag (u:Unit) :
  evF G0 20 119 [.nilslice] ⟨0,[]⟩ (Y6 0 (.ret (.nslice ⟨0,0,0,0,0⟩ 1 0 0)) 1 [(0,.ints .u8 [])]):=by
 refine @Eq.mpr _ (([]:LI)=[]/\True) (by kernel_rfl) ?_
 trivial
theorem Zah (u:Unit) :
  evF G0 20 119 [.fslice] ⟨0,[]⟩ (Y6 0 (.ret (.nslice ⟨0,0,0,0,0⟩ 1 0 0)) 1 [(0,.ints .u8 [])]):=by
 refine @Eq.mpr _ (([]:LI)=[]/\True) (by kernel_rfl) ?_
 trivial
theorem Z5d (xs:LI) (N:Nat) (hN:xs.length=N) (hB:N<90000000000000):Zx PP 119 [.vints .u8 xs N] (.nslice ⟨0,0,0,0,0⟩ 1 N N) 1 [(0,.ints .u8 xs)]:=by
 cases xs with
 | nil=>subst hN;exact Zx.vints0 (.evM Zu (Zag ())) (.evM Zu (Zah ()))
 | cons x r=>exact .evM Zu (Zaf x r N hN hB)
def Z7w:Yb:=fun args h K=>ZD none h true 20 args fun a=>match a with
 | [.vints .u8 xs n]=>Z6 (xs.length=n/\n<90000000000000) (K (.ret (.nslice ⟨h.next,0,0,0,0⟩ 1 n n)) ⟨h.next+1,(h.next,.ints .u8 xs)::h.bs⟩)
 | _=>False
theorem Z6y (args:List AV) (h:Z9) (K:KO) (hl:Z7w args h K):Zh PP 119 args h K:=by
 refine Zx.fsumm (d:=20) (Zk _ _ _ _ _ hl fun a ha=> ?_)
 split at ha
 ·obtain ⟨⟨h1,h2⟩,hK⟩:=Zb ha
  exact ⟨_,_,_,_,Z5d _ _ h1 h2,rfl,⟨JV,.ints _ _,trivial⟩,hK⟩
 ·exact ha.elim
theorem Spec.conv {P:Program} {f:FuncId} {args₀:List AV} {h0:Z9} {o:Out} {nx:Nat} {bs:List (Nat×Blk)} (h:Spec P f args₀ h0 o nx bs) (hc:∀E r,Zw E args r->Zw E args₀ r):Spec P f args h0 o nx bs:=
 fun E w rs he hr=>h E w rs he (hc E rs hr)
noncomputable def Zc6 (W:Int->LI):Zf:=G0.withF 118 (Zeg W)
theorem Z46:(Zc6 ZR).Ok:=Zf.withF_ok Zu Zc5
theorem Zeh (W:Int->LI) (T:Int) (xs ys:LI) (N L lo:Nat) (n:Int) (hT:T=4611686018427387904) (hN:xs.length=N) (hB:N<90000000000000) (hn:0<=n/\n<=T) (hy:ys=xs++W n) (hL:L=ys.length):
  evF (Zc6 W) 20 54 [.ptr (some ⟨0,0,0,0,0⟩),.vints .i64 [n] 1] ⟨2,[(0,.flat [.nslice ⟨1,0,0,0,0⟩ 1 N lo,.bool true]),(1,.ints .u8 xs)]⟩ (Y6 2 (.ret (.int .i64 0)) 3 [(0,.flat [.nslice ⟨2,0,0,0,0⟩ 1 L L,.bool true]),(2,.ints .u8 ys)]):=by
 refine @Eq.mpr _ (let b:=xs++W n;let a:=b.length;
 Z7 (decide (n<0)) False (Z7 (decide (n>4611686018427387904)) False (Z6 (xs.length=N/\N<90000000000000) (Z6 (a=L) (Z6 (L<=a) (b=ys/\True)))))) (by kernel_rfl) ?_
 conv=>zeta
 try simp only [vcA]
 try simp only [vcB]
 try simp only [vcC]
 subst hT hN hy hL
 exact ⟨by omega,by omega,⟨rfl,hB⟩,rfl,J5 _,rfl⟩
theorem Zei (W:Int->LI) (T:Int) (xs ys:LI) (N L lo:Nat) (n m:Int) (hT:T=4611686018427387904) (hW:W=ZR) (hN:xs.length=N) (hB:N<80000000000000) (hn:0<=n/\n<=T) (hm:0<=m/\m<=T) (hy:ys=xs++W n++W m) (hL:L=ys.length):
  evF (Zc6 W) 20 54 [.ptr (some ⟨0,0,0,0,0⟩),.vints .i64 [n,m] 2] ⟨2,[(0,.flat [.nslice ⟨1,0,0,0,0⟩ 1 N lo,.bool true]),(1,.ints .u8 xs)]⟩ (Y6 2 (.ret (.int .i64 0)) 3 [(0,.flat [.nslice ⟨2,0,0,0,0⟩ 1 L L,.bool true]),(2,.ints .u8 ys)]):=by
 refine @Eq.mpr _ (let d:=xs++W n;let a:=d.length;let c:=d++W m;let b:=c.length;
 Z7 (decide (n<0)) False (Z7 (decide (n>4611686018427387904)) False (Z7 (decide (m<0)) False (Z7 (decide (m>4611686018427387904)) False (Z6 (xs.length=N/\N<90000000000000) (Z6 (a=a/\a<90000000000000) (Z6 (b=L) (Z6 (L<=b) (c=ys/\True))))))))) (by kernel_rfl) ?_
 conv=>zeta
 try simp only [vcA]
 try simp only [vcB]
 try simp only [vcC]
 subst hT hN hy hL hW
 have:=Y0 n
 refine ⟨by omega,by omega,by omega,by omega,⟨rfl,by omega⟩, ?_⟩
 simp only [Je]
 and_intros<;>first|trivial|omega
theorem Zej (W:Int->LI) (T:Int) (ys:LI) (L:Nat) (n m:Int) (hT:T=4611686018427387904) (hW:W=ZR) (hn:0<=n/\n<=T) (hm:0<=m/\m<=T) (hy:ys=W n++W m) (hL:L=ys.length):
  evF (Zc6 W) 20 54 [.ptr (some ⟨0,0,0,0,0⟩),.vints .i64 [n,m] 2] ⟨1,[(0,.flat [.nilslice,.bool true])]⟩ (Y6 1 (.ret (.int .i64 0)) 2 [(0,.flat [.nslice ⟨1,0,0,0,0⟩ 1 L L,.bool true]),(1,.ints .u8 ys)]):=by
 refine @Eq.mpr _ (let a:=List.length (W n);let c:=W n++W m;let b:=c.length;
 Z7 (decide (n<0)) False (Z7 (decide (n>4611686018427387904)) False (Z7 (decide (m<0)) False (Z7 (decide (m>4611686018427387904)) False (Z6 (a=a/\a<90000000000000) (Z6 (b=L) (Z6 (L<=b) (c=ys/\True)))))))) (by kernel_rfl) ?_
 conv=>zeta
 try simp only [vcA]
 try simp only [vcB]
 try simp only [vcC]
 subst hT hy hL hW
 have:=Y0 n
 refine ⟨by omega,by omega,by omega,by omega, ?_⟩
 simp only [Je]
 and_intros<;>first|trivial|omega
theorem Zc7 (xs hh ys:LI) (N L lo:Nat) (hN:xs.length=N) (hB:N<90000000000000) (hq:hh.length=32) (hy:ys=xs++hh) (hL:L=ys.length):
  evF G0 20 55 [.ptr (some ⟨0,0,0,0,0⟩),.vrows 32 1 (fun _=>[.arr .u8 32 hh]) 1] ⟨2,[(0,.flat [.nslice ⟨1,0,0,0,0⟩ 1 N lo,.bool true]),(1,.ints .u8 xs)]⟩ (Y6 2 (.ret (.int .i64 0)) 3 [(0,.flat [.nslice ⟨2,0,0,0,0⟩ 1 L L,.bool true]),(2,.ints .u8 ys)]):=by
 refine @Eq.mpr _ (let b:=xs++hh;let a:=b.length;
 Z6 (u8=u8/\hh.length=32) (Z6 (u8=u8/\xs.length=N) (Z6 (a*1<=140737488355328) (Z6 (a=L) (Z6 (L<=a) (b=ys/\True)))))) (by kernel_rfl) ?_
 conv=>zeta
 try simp only [vcA]
 try simp only [vcB]
 try simp only [vcC]
 subst hN hy hL
 refine ⟨hq,rfl, ?_⟩
 simp only [Je]
 and_intros<;>first|trivial|omega
def Zai (W:Int->LI) (T:Int):Yb:=fun args h K=>match args with
 | [.ptr (some ⟨w,0,0,0,0⟩),_]=>match h.get w with
  |some (.flat [.nslice ⟨b,0,0,0,0⟩ 1 _ _,.bool true])=>frA [w,b] h 20 args fun Bs a=>match Bs,a with
   | [.flat [.nslice ⟨1,0,0,0,0⟩ 1 N _,.bool true],.ints .u8 xs],[.ptr (some ⟨0,0,0,0,0⟩),.vints .i64 [n] 1]=>
    Z6 (xs.length=N/\N<80000000000000/\0<=n/\n<=T) (K (.ret (.int .i64 0)) ⟨h.next+1,(w,.flat [.nslice ⟨h.next,0,0,0,0⟩ 1 (xs++W n).length (xs++W n).length,.bool true])::(h.next,.ints .u8 (xs++W n))::Yu (Yu h.bs w) b⟩)
   | [.flat [.nslice ⟨1,0,0,0,0⟩ 1 N _,.bool true],.ints .u8 xs],[.ptr (some ⟨0,0,0,0,0⟩),.vints .i64 [n,m] 2]=>
    Z6 (xs.length=N/\N<80000000000000/\(0<=n/\n<=T)/\0<=m/\m<=T) (K (.ret (.int .i64 0)) ⟨h.next+1,(w,.flat [.nslice ⟨h.next,0,0,0,0⟩ 1 (xs++W n++W m).length (xs++W n++W m).length,.bool true])::(h.next,.ints .u8 (xs++W n++W m))::Yu (Yu h.bs w) b⟩)
   | _,_=>False
  | some (.flat [.nilslice,.bool true])=>frA [w] h 20 args fun Bs a=>match Bs,a with
   | [.flat [.nilslice,.bool true]],[.ptr (some ⟨0,0,0,0,0⟩),.vints .i64 [n,m] 2]=>
    Z6 ((0<=n/\n<=T)/\0<=m/\m<=T) (K (.ret (.int .i64 0)) ⟨h.next+1,(w,.flat [.nslice ⟨h.next,0,0,0,0⟩ 1 (W n++W m).length (W n++W m).length,.bool true])::(h.next,.ints .u8 (W n++W m))::Yu h.bs w⟩)
   | _,_=>False
  | _=>False
 | _=>False
theorem Zaj (args:List AV) (h:Z9) (K:KO) (hl:Zai ZR 4611686018427387904 args h K):Zh PP 54 args h K:=by
 unfold Zai at hl
 split at hl
 ·split at hl
  ·refine Spec.fsumm hl fun Bs a hlen hK0=> ?_
   split at hK0
   ·obtain ⟨⟨h1,h2,h3⟩,hK⟩:=Zb hK0
    exact ⟨_,_,_,_,_,.evM Z46 (Zeh _ _ _ _ _ _ _ _ rfl h1 (by omega) h3 rfl rfl),by simp,.ret _ _ rfl,.cons _ _ _ _ _ _ rfl (.flat _ _ rfl) (.cons _ _ _ _ _ _ rfl (.ints _ _) .nil),hK⟩
   ·obtain ⟨⟨h1,h2,h3,h4⟩,hK⟩:=Zb hK0
    exact ⟨_,_,_,_,_,.evM Z46 (Zei _ _ _ _ _ _ _ _ _ rfl rfl h1 h2 h3 h4 rfl rfl),by simp,.ret _ _ rfl,.cons _ _ _ _ _ _ rfl (.flat _ _ rfl) (.cons _ _ _ _ _ _ rfl (.ints _ _) .nil),hK⟩
   ·exact hK0.elim
  ·refine Spec.fsumm hl fun Bs a hlen hK0=> ?_
   split at hK0
   ·obtain ⟨⟨h3,h4⟩,hK⟩:=Zb hK0
    exact ⟨_,_,_,_,_,.evM Z46 (Zej _ _ _ _ _ _ rfl rfl h3 h4 rfl rfl),by simp,.ret _ _ rfl,.cons _ _ _ _ _ _ rfl (.flat _ _ rfl) (.cons _ _ _ _ _ _ rfl (.ints _ _) .nil),hK⟩
   ·exact hK0.elim
  ·exact hl.elim
 ·exact hl.elim
def Z6z:Yb:=fun args h K=>match args with
 | [.ptr (some ⟨w,0,0,0,0⟩),_]=>match h.get w with
  |some (.flat [.nslice ⟨b,0,0,0,0⟩ 1 _ _,.bool true])=>frA [w,b] h 20 args fun Bs a=>match Bs,a with
   | [.flat [.nslice ⟨1,0,0,0,0⟩ 1 N _,.bool true],.ints .u8 xs],[.ptr (some ⟨0,0,0,0,0⟩),.vrows 32 1 f 1]=>match f 0 with
    | [.arr .u8 32 hh]=>Z6 (xs.length=N/\N<80000000000000/\hh.length=32) (K (.ret (.int .i64 0)) ⟨h.next+1,(w,.flat [.nslice ⟨h.next,0,0,0,0⟩ 1 (xs++hh).length (xs++hh).length,.bool true])::(h.next,.ints .u8 (xs++hh))::Yu (Yu h.bs w) b⟩)
    | _=>False
   | _,_=>False
  | _=>False
 | _=>False
theorem Z8v (args:List AV) (h:Z9) (K:KO) (hl:Z6z args h K):Zh PP 55 args h K:=by
 unfold Z6z at hl
 split at hl
 ·split at hl
  ·refine Spec.fsumm hl fun Bs a hlen hK0=> ?_
   split at hK0
   ·split at hK0
    case h_2=>exact hK0.elim
    rename_i hh hf
    obtain ⟨⟨h1,h2,h3⟩,hK⟩:=Zb hK0
    refine ⟨_,_,_,_,_,(Spec.evM Zu (Zc7 _ hh _ _ _ _ h1 (by omega) h3 rfl rfl)).conv fun E r hr=>hr.head (fun _ hc=>hc) fun _ hc=>hc.head (fun _ hc=>hc.rowsC ?_) fun _ hc=>hc,by simp,.ret _ _ rfl,.cons _ _ _ _ _ _ rfl (.flat _ _ rfl) (.cons _ _ _ _ _ _ rfl (.ints _ _) .nil),hK⟩
    intro i hi
    have:i=0:=by omega
    subst this
    exact hf
   ·exact hK0.elim
  ·exact hl.elim
 ·exact hl.elim
theorem Z0w {x:InS} (h:ZU x=true):(1<=x.way/\x.way<=6)/\0<=x.index/\x.index<=23:=by
 unfold ZU at h
 simp only [J3,decide_eq_true_eq] at h
 exact ⟨h.1.1.1.1,h.2⟩
noncomputable def Z6A (W:Int->LI) (T:Int):Zf:=(G0.withF 54 (Zai W T)).withF 55 Z6z
theorem Z7x:(Z6A ZR 4611686018427387904).Ok:=Zf.withF_ok (Zf.withF_ok Zu Zaj) Z8v
def inW (W:Int->LI) (core:Bool) (x:InS):LI:=x.name++W x.index++(match core with
 | true=>[]
 | false=>W x.way++((if x.way=4 then [] else x.tag)++(if x.way=1 then x.also else [])++(if x.way=4\/x.way=5 then x.secret else [])))
def Z47 (W:Int->LI) (o:Zp):LI:=W o.kind++W o.amount++o.owner++(if o.kind=2\/o.kind=4\/o.kind=5 then o.other else [])++(if 3<=o.kind then o.point else [])++(if 4<=o.kind then o.hash else [])
 ++(if 3<=o.kind then W o.delay else [])++(if 4<=o.kind then W o.expiry else [])
def Z8w (t:TxS) (core:Bool) (i:Nat) (xs:LI) (n:Nat):St:=⟨120,[(26,.int .i64 i),(25,.int .i64 t.N),(2,.ptr (some ⟨0,0,0,0,0⟩)),(5,.ptr (some ⟨1,0,0,0,0⟩)),(1,.bool core)],⟨3,[(0,.flat t.c),(1,.flat [.nslice ⟨2,0,0,0,0⟩ 1 n n,.bool true]),(2,.ints .u8 xs)]⟩,[]⟩
def Vt (t:TxS) (xs:LI) (n:Nat):St:=⟨120,[(2,.ptr (some ⟨0,0,0,0,0⟩)),(5,.ptr (some ⟨1,0,0,0,0⟩))],⟨3,[(0,.flat t.c),(1,.flat [.nslice ⟨2,0,0,0,0⟩ 1 n n,.bool true]),(2,.ints .u8 xs)]⟩,[]⟩
theorem Zek (W:Int->LI) (T:Int) (t:TxS) (i:Nat) (xs ys:LI) (n m:Nat) (Z1 Z2:Prop) (hT:T=4611686018427387904) (ht:t.Ok) (hi:i<=t.N) (hr:∀j,j<t.N->ZU (t.ins j)=true) (hW:W=ZR) (hn:xs.length=n) (hs:n<10000000000000) (hy:ys=xs++inW W true (t.ins i)) (hm:ys.length=m) (h1:i<t.N->Z1) (h2:i=t.N->Z2):
  ZW (Z6A W T) 20 96 0 0 (Z8w t true i xs n) (rdM 0 0 9 (Z8w t true (i+1) ys m) (Vt t xs n) (Vt t xs n) (Vt t xs n) Z1 Z2 False False):=by
 refine @Eq.mpr _ (let f:=t.N;let b:=(↑f:Int);let k:=t.ins (Int.toNat (↑i:Int));let j:=k.name;let h:=xs++j;let e:=h.length;let d:=k.index;let g:=decide (t.num=t.num);let a:=decide (f=f);let s:=Zd t.ins;let r:=s=s;let c:=decide (t.M=t.M);let q:=Ze t.outs;let p:=q=q;let o:=h++W d;let l:=o.length;
 Z7 (decide ((↑i:Int)<b)) (Z6 (0<=(↑i:Int)/\(↑i:Int)<b) (Z6 (xs.length=n/\n<80000000000000/\j.length=32) (Z6 (e=e/\e<80000000000000/\0<=d/\d<=T) (Z6 (wrap i64 ((↑i:Int)+1)=(↑(i+1):Int)) (Z6 (b=b) (Z5 g (Z5 a (r/\Z5 a (Z5 c (p/\Z5 c (Z6 (l=m) (Z6 (m<=l) (o=ys/\Z1))))))))))))) (Z5 g (Z5 a (r/\Z5 a (Z5 c (p/\Z5 c (Z6 (n=n) (Z6 (n<=n) (xs=xs/\Z2))))))))) (by kernel_rfl) ?_
 conv=>zeta
 try simp only [vcA]
 try simp only [vcB]
 try simp only [vcC]
 refine ⟨fun hlt=> ?_,fun hge=>h2 (by omega)⟩
 obtain ⟨⟨w1,w2⟩,w3,w4⟩:=Z0w (hr i (by omega))
 obtain ⟨l1,l2,l3,l4⟩:=ht.ins i (by omega)
 have hw:=h1 (by omega)
 have hnn:=ht.n
 have hwr:i64.wrap ((i:Int)+1)=((i+1:Nat):Int):=w64 (by omega)
 have u1:=Y0 (t.ins i).index
 have u2:=Y0 (t.ins i).way
 subst hW hT
 rw [hwr]
 unfold inW at hy
 generalize t.ins i=x at*
 simp only [Je]
 repeat' (first|(refine Jt ?_ ?_)|intro _)
 all_goals first|omega|assumption|trivial|skip
 all_goals first|(rw [hy];simp [*];done)|(rw [<-hm,hy];simp [*];try omega;done)|skip
theorem Zel (W:Int->LI) (T:Int) (t:TxS) (i:Nat) (xs ys:LI) (n m:Nat) (Z1 Z2:Prop) (hT:T=4611686018427387904) (ht:t.Ok) (hi:i<=t.N) (hr:∀j,j<t.N->ZU (t.ins j)=true) (hW:W=ZR) (hn:xs.length=n) (hs:n<10000000000000) (hy:ys=xs++inW W false (t.ins i)) (hm:ys.length=m) (h1:i<t.N->Z1) (h2:i=t.N->Z2):
  ZW (Z6A W T) 20 96 0 0 (Z8w t false i xs n) (rdM 0 0 9 (Z8w t false (i+1) ys m) (Vt t xs n) (Vt t xs n) (Vt t xs n) Z1 Z2 False False):=by
 refine @Eq.mpr _ (let y:=t.N;let p:=(↑y:Int);let f:=t.ins (Int.toNat (↑i:Int));let B:=f.name;let A:=xs++B;let v:=A.length;let u:=f.index;let z:=A++W u;let s:=z.length;let c:=f.way;let r:=z++W c;let e:=r.length;let L:=f.tag;let x:=decide (e=e/\e<80000000000000/\L.length=32);let q:=r++L;let d:=q.length;let K:=f.also;let l:=decide (wrap i64 ((↑i:Int)+1)=(↑(i+1):Int));let k:=decide (p=p);let j:=decide (t.num=t.num);let b:=decide (y=y);let J:=Zd t.ins;let h:=J=J;let a:=decide (t.M=t.M);let I:=Ze t.outs;let g:=I=I;let H:=q++K;let G:=H.length;let w:=Z5 x (Z5 l (Z5 k (Z5 j (Z5 b (h/\Z5 b (Z5 a (g/\Z5 a (Z6 (d=m) (Z6 (m<=d) (q=ys/\Z1))))))))));let o:=f.secret;let F:=r++o;let E:=F.length;let D:=q++o;let C:=D.length;
 Z7 (decide ((↑i:Int)<p)) (Z6 (0<=(↑i:Int)/\(↑i:Int)<p) (Z6 (xs.length=n/\n<80000000000000/\B.length=32) (Z6 (v=v/\v<80000000000000/\0<=u/\u<=T) (Z6 (s=s/\s<80000000000000/\0<=c/\c<=T) (Z6 (c=c) (Z7 (decide (c=1)) (Z5 x (Z6 (d=d/\d<80000000000000/\K.length=32) (Z5 l (Z5 k (Z5 j (Z5 b (h/\Z5 b (Z5 a (g/\Z5 a (Z6 (G=m) (Z6 (m<=G) (H=ys/\Z1)))))))))))) (Z7 (decide (c=2)) w (Z7 (decide (c=3)) w (Z7 (decide (c=4)) (Z6 (e=e/\e<80000000000000/\o.length=32) (Z5 l (Z5 k (Z5 j (Z5 b (h/\Z5 b (Z5 a (g/\Z5 a (Z6 (E=m) (Z6 (m<=E) (F=ys/\Z1))))))))))) (Z7 (decide (c=5)) (Z5 x (Z6 (d=d/\d<80000000000000/\o.length=32) (Z5 l (Z5 k (Z5 j (Z5 b (h/\Z5 b (Z5 a (g/\Z5 a (Z6 (C=m) (Z6 (m<=C) (D=ys/\Z1)))))))))))) (Z7 (decide (c=6)) w (Z5 l (Z5 k (Z5 j (Z5 b (h/\Z5 b (Z5 a (g/\Z5 a (Z6 (e=m) (Z6 (m<=e) (r=ys/\Z1))))))))))))))))))))) (Z5 j (Z5 b (h/\Z5 b (Z5 a (g/\Z5 a (Z6 (n=n) (Z6 (n<=n) (xs=xs/\Z2))))))))) (by kernel_rfl) ?_
 conv=>zeta
 try simp only [vcA]
 try simp only [vcB]
 try simp only [vcC]
 refine ⟨fun hlt=> ?_,fun hge=>h2 (by omega)⟩
 obtain ⟨⟨w1,w2⟩,w3,w4⟩:=Z0w (hr i (by omega))
 obtain ⟨l1,l2,l3,l4⟩:=ht.ins i (by omega)
 have hw:=h1 (by omega)
 have hnn:=ht.n
 have hwr:i64.wrap ((i:Int)+1)=((i+1:Nat):Int):=w64 (by omega)
 have u1:=Y0 (t.ins i).index
 have u2:=Y0 (t.ins i).way
 subst hW hT
 rw [hwr]
 unfold inW at hy
 generalize t.ins i=x at*
 simp only [Je]
 repeat' (first|(refine Jt ?_ ?_)|intro _)
 all_goals first|omega|assumption|trivial|skip
 all_goals first|(rw [hy];simp [*];done)|(rw [<-hm,hy];simp [*];try omega;done)|skip
theorem VX {o:Zp} (h:ZH o=true):(1<=o.kind/\o.kind<=5)/\(0<o.amount/\o.amount<=1125899906842624)/\(0<=o.delay/\o.delay<=2147483647)/\0<=o.expiry/\o.expiry<=2147483647:=by
 unfold ZH at h
 simp only [J3,decide_eq_true_eq] at h
 obtain ⟨⟨⟨⟨h1,_⟩,h2⟩,h3⟩,h4⟩:=h
 refine ⟨?_,h2,h3,h4⟩
 revert h1
 simp only [and_imp]
 intros
 omega
def Z5e (t:TxS) (i:Nat) (xs:LI) (n:Nat):St:=⟨120,[(82,.int .i64 i),(81,.int .i64 t.M),(2,.ptr (some ⟨0,0,0,0,0⟩)),(5,.ptr (some ⟨1,0,0,0,0⟩))],⟨3,[(0,.flat t.c),(1,.flat [.nslice ⟨2,0,0,0,0⟩ 1 n n,.bool true]),(2,.ints .u8 xs)]⟩,[]⟩
theorem Zem (W:Int->LI) (T:Int) (t:TxS) (i:Nat) (xs ys:LI) (n m:Nat) (Z1 Z2:Prop) (hT:T=4611686018427387904) (ht:t.Ok) (hi:i<=t.M) (hr:∀j,j<t.M->ZH (t.outs j)=true) (hW:W=ZR) (hn:xs.length=n) (hs:n<10000000000000) (hy:ys=xs++Z47 W (t.outs i)) (hm:ys.length=m) (h1:i<t.M->Z1) (h2:i=t.M->Z2):
  ZW (Z6A W T) 20 96 4 0 (Z5e t i xs n) (rdM 0 4 9 (Z5e t (i+1) ys m) (Vt t xs n) (Vt t xs n) (Vt t xs n) Z1 Z2 False False):=by
 refine @Eq.mpr _ (let D:=t.M;let s:=(↑D:Int);let d:=t.outs (Int.toNat (↑i:Int));let c:=d.kind;let w:=d.amount;let v:=xs++W c++W w;let j:=v.length;let E:=d.owner;let q:=decide (j=j/\j<80000000000000/\E.length=32);let p:=decide (wrap i64 ((↑i:Int)+1)=(↑(i+1):Int));let o:=decide (s=s);let h:=decide (t.num=t.num);let b:=decide (t.N=t.N);let X:=Zd t.ins;let g:=X=X;let a:=decide (D=D);let V:=Ze t.outs;let f:=V=V;let u:=v++E;let e:=u.length;let U:=d.other;let S:=decide (e=e/\e<80000000000000/\U.length=32);let C:=u++U;let l:=C.length;let r:=d.point;let R:=u++r;let B:=R.length;let k:=d.delay;let Q:=W k;let P:=R++Q;let O:=P.length;let L:=C++r;let A:=L.length;let K:=d.hash;let J:=L++K;let z:=J.length;let I:=J++Q;let y:=I.length;let x:=d.expiry;let H:=I++W x;let G:=H.length;let F:=Z5 q (Z5 S (Z6 (l=l/\l<80000000000000/\r.length=32) (Z6 (A=A/\A<80000000000000/\K.length=32) (Z6 (z=z/\z<80000000000000/\0<=k/\k<=T) (Z6 (y=y/\y<80000000000000/\0<=x/\x<=T) (Z5 p (Z5 o (Z5 h (Z5 b (g/\Z5 b (Z5 a (f/\Z5 a (Z6 (G=m) (Z6 (m<=G) (H=ys/\Z1)))))))))))))));
 Z7 (decide ((↑i:Int)<s)) (Z6 (0<=(↑i:Int)/\(↑i:Int)<s) (Z6 (xs.length=n/\n<80000000000000/\(0<=c/\c<=T)/\0<=w/\w<=T) (Z6 (c=c) (Z7 (decide (c=1)) (Z5 q (Z5 p (Z5 o (Z5 h (Z5 b (g/\Z5 b (Z5 a (f/\Z5 a (Z6 (e=m) (Z6 (m<=e) (u=ys/\Z1))))))))))) (Z7 (decide (c=2)) (Z5 q (Z5 S (Z5 p (Z5 o (Z5 h (Z5 b (g/\Z5 b (Z5 a (f/\Z5 a (Z6 (l=m) (Z6 (m<=l) (C=ys/\Z1)))))))))))) (Z7 (decide (c=3)) (Z5 q (Z6 (e=e/\e<80000000000000/\r.length=32) (Z6 (B=B/\B<80000000000000/\0<=k/\k<=T) (Z5 p (Z5 o (Z5 h (Z5 b (g/\Z5 b (Z5 a (f/\Z5 a (Z6 (O=m) (Z6 (m<=O) (P=ys/\Z1))))))))))))) (Z7 (decide (c=4)) F (Z7 (decide (c=5)) F (Z5 p (Z5 o (Z5 h (Z5 b (g/\Z5 b (Z5 a (f/\Z5 a (Z6 (j=m) (Z6 (m<=j) (v=ys/\Z1)))))))))))))))))) (Z5 h (Z5 b (g/\Z5 b (Z5 a (f/\Z5 a (Z6 (n=n) (Z6 (n<=n) (xs=xs/\Z2))))))))) (by kernel_rfl) ?_
 conv=>zeta
 try simp only [vcA]
 try simp only [vcB]
 try simp only [vcC]
 refine ⟨fun hlt=> ?_,fun hge=>h2 (by omega)⟩
 obtain ⟨⟨w1,w2⟩,⟨w3,w4⟩,⟨w5,w6⟩,w7,w8⟩:=VX (hr i (by omega))
 obtain ⟨l1,l2,l3,l4⟩:=ht.outs i (by omega)
 have hw:=h1 (by omega)
 have hnn:=ht.m
 have hwr:i64.wrap ((i:Int)+1)=((i+1:Nat):Int):=w64 (by omega)
 have u1:=Y0 (t.outs i).kind
 have u2:=Y0 (t.outs i).amount
 have u3:=Y0 (t.outs i).delay
 have u4:=Y0 (t.outs i).expiry
 subst hW hT
 rw [hwr]
 unfold Z47 at hy
 generalize t.outs i=x at*
 simp only [Je]
 repeat' (first|(refine Jt ?_ ?_)|intro _)
 all_goals first|omega|assumption|trivial|skip
 all_goals first|(rw [hy];simp [*];done)|(rw [<-hm,hy];simp [*];try omega;done)|skip
def V8 (f:Nat->LI):Nat->LI
 | 0=>[]
 | n+1=>V8 f n++f n
theorem Zak {f:Nat->LI} {b:Nat} (h:∀i,(f i).length<=b):∀n,(V8 f n).length<=n*b
 | 0=>by simp [V8]
 | n+1=>by
  have:=Zak h n
  have:=h n
  simp only [V8,Je,JD]
  omega
@[irreducible] def XM (W:Int->LI) (t:TxS) (core:Bool) (i:Nat):LI:=W t.num++W t.N++V8 (fun j=>inW W core (t.ins j)) i
@[irreducible] def Xc (W:Int->LI) (t:TxS) (core:Bool) (i:Nat):LI:=XM W t core t.N++W t.M++V8 (fun j=>Z47 W (t.outs j)) i
def Qz (W:Int->LI) (t:TxS) (core:Bool):LI:=Xc W t core t.M
theorem Z37 (W:Int->LI) (t:TxS) (core:Bool) (i:Nat):XM W t core (i+1)=XM W t core i++inW W core (t.ins i):=by unfold XM;simp [V8]
theorem Z8x (W:Int->LI) (t:TxS) (core:Bool) (i:Nat):Xc W t core (i+1)=Xc W t core i++Z47 W (t.outs i):=by unfold Xc;simp [V8]
structure TxS.Fine (t:TxS):Prop where
 ok:t.Ok
 num:0<=t.num/\t.num<=2147483647
 n:t.N<=24
 m:t.M<=24
 ins:∀j,j<t.N->ZU (t.ins j)=true
 outs:∀j,j<t.M->ZH (t.outs j)=true
theorem Z0a {f:Nat->LI} {b:Nat}:∀n,(∀i,i<n->(f i).length<=b)->(V8 f n).length<=n*b
 | 0,_=>by simp [V8]
 | n+1,h=>by
  have:=Z0a n (fun i hi=>h i (by omega))
  have:=h n (by omega)
  simp only [V8,Je,JD]
  omega
theorem Zc8 {core:Bool} {x:InS} (h:x.Ok):(inW ZR core x).length<=200:=by
 obtain ⟨l1,l2,l3,l4⟩:=h
 have u1:=Y0 x.index
 have u2:=Y0 x.way
 unfold inW
 cases core
 ·simp only [Je]
  repeat' split
  all_goals (try simp only [JK])
  all_goals omega
 ·simp [*];omega
theorem Zal {x:Zp} (h:x.Ok):(Z47 ZR x).length<=200:=by
 obtain ⟨l1,l2,l3,l4⟩:=h
 have u1:=Y0 x.kind
 have u2:=Y0 x.amount
 have u3:=Y0 x.delay
 have u4:=Y0 x.expiry
 unfold Z47
 simp only [Je]
 repeat' split
 all_goals (try simp only [JK])
 all_goals omega
theorem Z27 {t:TxS} (h:t.Fine) (core:Bool) {i:Nat} (hi:i<=t.N):(XM ZR t core i).length<=10000:=by
 have h1:=Y0 t.num
 have h2:=Y0 t.N
 have h3:=Z0a (f:=fun j=>inW ZR core (t.ins j)) (b:=200) i (fun j hj=>Zc8 (h.ok.ins j (by omega)))
 have:=h.n
 unfold XM
 simp only [Je]
 omega
theorem QA {t:TxS} (h:t.Fine) (core:Bool) {i:Nat} (hi:i<=t.M):(Xc ZR t core i).length<=20000:=by
 have h1:=Z27 h core (J5 t.N)
 have h2:=Y0 t.M
 have h3:=Z0a (f:=fun j=>Z47 ZR (t.outs j)) (b:=200) i (fun j hj=>Zal (h.ok.outs j (by omega)))
 have:=h.m
 unfold Xc
 simp only [Je]
 omega
noncomputable def Zc9 (W:Int->LI) (T:Int) (t:TxS) (core:Bool):Zf:=
 (Z6A W T).withL 96 0 (goM 0 (Z8w t core 0 (XM W t core 0) (XM W t core 0).length) t.Fine (XY 0 t.N 9 (fun i=>i<t.N) (fun i=>i=t.N) (fun _=>False) (fun _=>False) (fun i=>Vt t (XM W t core i) (XM W t core i).length) (fun i=>Vt t (XM W t core i) (XM W t core i).length) (fun i=>Vt t (XM W t core i) (XM W t core i).length)))
noncomputable def Zg3 (W:Int->LI) (T:Int) (t:TxS) (core:Bool):Zf:=
 (Z6A W T).withL 96 4 (goM 0 (Z5e t 0 (Xc W t core 0) (Xc W t core 0).length) t.Fine (XY 4 t.M 9 (fun i=>i<t.M) (fun i=>i=t.M) (fun _=>False) (fun _=>False) (fun i=>Vt t (Xc W t core i) (Xc W t core i).length) (fun i=>Vt t (Xc W t core i) (Xc W t core i).length) (fun i=>Vt t (Xc W t core i) (Xc W t core i).length)))
theorem Zca (t:TxS) (core:Bool) (T:Int) (hT:T=4611686018427387904):(Zc9 ZR T t core).Ok:=by
 unfold Zc9
 refine Zf.withGoM (N:=20) (S:=fun i=>Z8w t core i (XM ZR t core i) (XM ZR t core i).length) (by subst hT;exact Z7x) (by kernel_rfl) fun hC=>⟨rfl,fun i hi hgo=> ?_⟩
 have h1:=Z27 hC core hi
 cases core
 ·exact Zel ZR T t i (XM ZR t false i) (XM ZR t false (i+1)) _ _ _ _ hT hC.ok hi hC.ins rfl rfl (by omega) (Z37 _ _ _ _) rfl (fun h=>⟨h,h⟩) (fun h=>h)
 ·exact Zek ZR T t i (XM ZR t true i) (XM ZR t true (i+1)) _ _ _ _ hT hC.ok hi hC.ins rfl rfl (by omega) (Z37 _ _ _ _) rfl (fun h=>⟨h,h⟩) (fun h=>h)
theorem Zcb (t:TxS) (core:Bool) (T:Int) (hT:T=4611686018427387904):(Zg3 ZR T t core).Ok:=by
 unfold Zg3
 refine Zf.withGoM (N:=20) (S:=fun i=>Z5e t i (Xc ZR t core i) (Xc ZR t core i).length) (by subst hT;exact Z7x) (by kernel_rfl) fun hC=>⟨rfl,fun i hi hgo=> ?_⟩
 have h1:=QA hC core hi
 exact Zem ZR T t i (Xc ZR t core i) (Xc ZR t core (i+1)) _ _ _ _ hT hC.ok hi hC.outs rfl rfl (by omega) (Z8x _ _ _ _) rfl (fun h=>⟨h,h⟩) (fun h=>h)
noncomputable def Zen (W:Int->LI) (T:Int) (t:TxS) (core:Bool):Zf:=
 ((Zc9 W T t core).withL 96 4 (goM 0 (Z5e t 0 (Xc W t core 0) (Xc W t core 0).length) t.Fine (XY 4 t.M 9 (fun i=>i<t.M) (fun i=>i=t.M) (fun _=>False) (fun _=>False) (fun i=>Vt t (Xc W t core i) (Xc W t core i).length) (fun i=>Vt t (Xc W t core i) (Xc W t core i).length) (fun i=>Vt t (Xc W t core i) (Xc W t core i).length)))).withF 119 Z7w
theorem Zg4 (W:Int->LI) (T:Int) (t:TxS) (core:Bool) (ys:LI) (L:Nat) (hT:T=4611686018427387904) (hW:W=ZR) (ht:t.Fine) (hy:ys=Qz W t core) (hL:L=ys.length):
  evF (Zen W T t core) 20 96 [.agg t.c,.bool core] ⟨0,[]⟩ (Y6 0 (.ret (.nslice ⟨0,0,0,0,0⟩ 1 L L)) 1 [(0,.ints .u8 ys)]):=by
 refine @Eq.mpr _ (let f:=t.num;let c:=t.N;let d:=↑c;let r:=decide (f=f);let h:=decide (c=c);let m:=Zd t.ins;let l:=m=m;let b:=t.M;let g:=decide (b=b);let C:=Ze t.outs;let B:=C=C;let A:=W f++W d;let z:=A.length;let y:=XM W t core 0;let x:=y.length;let e:=↑b;let w:=Xc W t core 0;let v:=w.length;let u:=(False->False)/\(False->False);
 Z6 ((0<=f/\f<=T)/\0<=d/\d<=T) (Z6 (d=d) (Z6 (core=core) (Z5 r (Z5 h (l/\
 Z5 h (Z5 g (B/\
 Z5 g (Z6 (z=x) (Z6 (x<=z) (A=y/\
 TxS.Fine t/\
 ∀(i:Nat),
 let s:=XM W t core i;let k:=s.length;let q:=s++W e;let p:=q.length;
 i<=c->
 (∀(j:Nat),j<i->(fun (i:Nat)=>i<c) j)->
 (i=c->
 Z6 (k=k/\k<80000000000000/\0<=e/\e<=T) (Z6 (e=e) (Z5 r (Z5 h (l/\
 Z5 h (Z5 g (B/\
 Z5 g (Z6 (p=v) (Z6 (v<=p) (q=w/\
 TxS.Fine t/\
 ∀(i:Nat),
 let o:=Xc W t core i;let a:=o.length;let n:=List.take a (X9 0 o);
 i<=b->(∀(j:Nat),j<i->(fun (i:Nat)=>i<b) j)->(i=b->Z6 (0+a<=a) (Z6 (n.length=a/\a<90000000000000) (Z6 (a=L) (Z6 (L<=a) (n=ys/\True)))))/\u))))))))))/\
 u))))))))))) (by kernel_rfl) ?_
 conv=>zeta
 try simp only [vcA]
 try simp only [vcB]
 try simp only [vcC]
 subst hT hW hy hL
 have e1:ZR t.num++ZR ↑t.N=XM ZR t core 0:=by unfold XM;simp [V8]
 have e2:XM ZR t core t.N++ZR ↑t.M=Xc ZR t core 0:=by unfold Xc;simp [V8]
 have b1:=Z27 ht core (J5 t.N)
 have b2:=QA ht core (J5 t.M)
 have hN:=ht.n
 have hM:=ht.m
 have hq:=ht.num
 rw [e1]
 refine ⟨⟨⟨by omega,by omega⟩,by omega,by omega⟩,rfl,J5 _,rfl,ht,fun i hi _=>⟨fun he=> ?_,fun h=>h.elim,fun h=>h.elim⟩⟩
 subst he
 rw [e2]
 refine ⟨⟨by omega,by omega,by omega⟩,rfl,J5 _,rfl,ht,fun i hi _=>⟨fun he=> ?_,fun h=>h.elim,fun h=>h.elim⟩⟩
 subst he
 rw [YA,List.drop_zero,K6]
 exact ⟨⟨rfl,by omega⟩,rfl,J5 _,rfl⟩
theorem Zcc (t:TxS) (core:Bool) (T:Int) (hT:T=4611686018427387904):(Zen ZR T t core).Ok:=by
 unfold Zen
 exact Zf.withF_ok (Zf.withL_join (G:=Zc9 ZR T t core) (H:=Z6A ZR T) (Zca t core T hT) rfl (Zcb t core T hT)) Z6y
theorem Zam (t:TxS) (core:Bool) (ht:t.Fine):Zx PP 96 [.agg t.c,.bool core] (.nslice ⟨0,0,0,0,0⟩ 1 (Qz ZR t core).length (Qz ZR t core).length) 1 [(0,.ints .u8 (Qz ZR t core))]  :=.evM (Zcc t core _ rfl) (Zg4 _ _ t core _ _ rfl rfl ht rfl rfl)
def Zg5 (R:TxS->Bool->LI):Yb:=fun args h K=>ZD none h true 20 args fun a=>match a with
 | [.agg l,.bool core]=>∃t,Z0I l t/\t.Fine/\K (.ret (.nslice ⟨h.next,0,0,0,0⟩ 1 (R t core).length (R t core).length)) ⟨h.next+1,(h.next,.ints .u8 (R t core))::h.bs⟩
 | _=>False
theorem Zcd (args:List AV) (h:Z9) (K:KO) (hl:Zg5 (Qz ZR) args h K):Zh PP 96 args h K:=by
 refine Zx.fsumm (d:=20) (Zk _ _ _ _ _ hl fun a ha=> ?_)
 split at ha
 ·obtain ⟨t,h1,h2,hK⟩:=ha
  exact ⟨_,_,_,_,(Zam t _ h2).conv fun E r hr=>hr.head (fun _ hc=>h1.rel hc) (fun _ hc=>hc),rfl,⟨JV,.ints _ _,trivial⟩,hK⟩
 ·exact ha.elim
theorem V9 {t:TxS} (ht:t.Ok) (h:Y5 ZB t=true):t.Fine:=by
 unfold Y5 at h
 simp only [J3,decide_eq_true_eq,Ja,JF,Jq,beq_iff_eq] at h
 obtain ⟨⟨⟨⟨⟨h1,h2⟩,h3⟩,h4⟩,h5⟩,_⟩:=h
 refine ⟨ht,h1,by omega,by omega,fun j hj=> ?_,fun j hj=> ?_⟩
 ·have:=h4 j hj
  simp [YK,Vo] at this
  exact this.1
 ·have:=h5 j hj
  simpa [Yf,Q8] using this
noncomputable def E19 (A:LI->Int×Int) (H:LI->LI) (T2:LI->LI->LI) (R:TxS->Bool->LI) (B:Nat):Zf:=
 ((((G0.withP 89 (ckS A)).withF 96 (Zg5 R)).withP 95 (Z9S H B)).withP 167 (ZdY T2)).withP 187 (Z6x A)
theorem Z48 (B:Nat) (hB:B<100000000000) (h32:32<=B):(E19 ZB Z1W WI (Qz ZR) B).Ok:=
 Zf.withP_ok (Zf.withP_ok (Zf.withP_ok (Zf.withF_ok (Zf.withP_ok Zu Zad) Zcd) (Z9U B hB h32)) Z7l) Z36
theorem Zeo (A:LI->Int×Int) (H:LI->LI) (T2:LI->LI->LI) (R:TxS->Bool->LI) (B:Nat) (t:TxS) (hh:LI) (ht:t.Ok) (hc:Y5 A t=true) (hA:A=ZB) (hR:R=Qz ZR) (hB:20000<=B) (hHl:∀x,(H x).length=32) (hH:hh=H (R t true)):
  evF (E19 A H T2 R B) 20 48 [.agg t.c] ⟨0,[]⟩ (Y6 0 (.ret (.tuple [.agg [.arr .u8 32 hh],.int .i64 0])) 0 []):=by
 refine @Eq.mpr _ (let b:=t.N;let a:=t.M;
 ∃(t_1:TxS),
 (t_1.num=t.num/\((b=b/\t_1.N=b)/\∀(i:Nat),i<b->Zd t.ins i=InS.c (t_1.ins i))/\(a=a/\t_1.M=a)/\∀(i:Nat),i<a->Ze t.outs i=Zp.c (t_1.outs i))/\
 TxS.Ok t_1/\
 Z7 (Y5 A t_1) (∃(t_2:TxS),
 let d:=List.length (R t_2 true);let f:=List.take d (X9 0 (R t_2 true));let e:=f.length;
 (t_2.num=t.num/\((b=b/\t_2.N=b)/\∀(i:Nat),i<b->Zd t.ins i=InS.c (t_2.ins i))/\(a=a/\t_2.M=a)/\∀(i:Nat),i<a->Ze t.outs i=Zp.c (t_2.outs i))/\TxS.Fine t_2/\Z6 (0+d<=d) (Z6 (d=e) (Z6 (e<=B) (H f=hh/\True)))) (Z0=hh/\False)) (by kernel_rfl) ?_
 conv=>zeta
 try simp only [vcA]
 try simp only [vcB]
 try simp only [vcC]
 refine ⟨t,⟨rfl,⟨rfl,fun _ _=>rfl⟩,rfl,fun _ _=>rfl⟩,ht,fun h=>⟨t,⟨rfl,⟨rfl,fun _ _=>rfl⟩,rfl,fun _ _=>rfl⟩,V9 ht (by subst hA;exact hc), ?_⟩,fun h=>(by rw [hc] at h;cases h)⟩
 subst hR hA hH
 have hb:=QA (V9 ht hc) true (J5 t.M)
 have hb':(Qz ZR t true).length<=20000:=hb
 rw [YA,List.drop_zero,K6]
 and_intros<;>first|trivial|rfl|omega
theorem Zep (A:LI->Int×Int) (H:LI->LI) (T2:LI->LI->LI) (R:TxS->Bool->LI) (B:Nat) (t:TxS) (ht:t.Ok) (hc:Y5 A t=false):
  evF (E19 A H T2 R B) 20 48 [.agg t.c] ⟨0,[]⟩ (Y6 0 (.ret (.tuple [.agg [.arr .u8 32 Z0],.int .i64 2])) 0 []):=by
 refine @Eq.mpr _ (let b:=t.N;let a:=t.M;
 ∃(t_1:TxS),
 (t_1.num=t.num/\((b=b/\t_1.N=b)/\∀(i:Nat),i<b->Zd t.ins i=InS.c (t_1.ins i))/\(a=a/\t_1.M=a)/\∀(i:Nat),i<a->Ze t.outs i=Zp.c (t_1.outs i))/\
 TxS.Ok t_1/\
 Z7 (Y5 A t_1) (∃(t_2:TxS),
 let d:=List.length (R t_2 true);let f:=List.take d (X9 0 (R t_2 true));let e:=f.length;
 (t_2.num=t.num/\((b=b/\t_2.N=b)/\∀(i:Nat),i<b->Zd t.ins i=InS.c (t_2.ins i))/\(a=a/\t_2.M=a)/\∀(i:Nat),i<a->Ze t.outs i=Zp.c (t_2.outs i))/\TxS.Fine t_2/\Z6 (0+d<=d) (Z6 (d=e) (Z6 (e<=B) (H f=Z0/\False)))) (Z0=Z0/\True)) (by kernel_rfl) ?_
 conv=>zeta
 try simp only [vcA]
 try simp only [vcB]
 try simp only [vcC]
 exact ⟨t,⟨rfl,⟨rfl,fun _ _=>rfl⟩,rfl,fun _ _=>rfl⟩,ht,fun h=>(by rw [hc] at h;cases h),fun h=>(by first|trivial|exact ⟨rfl,trivial⟩|rfl)⟩
theorem Zg6 (A:LI->Int×Int) (H:LI->LI) (T2:LI->LI->LI) (R:TxS->Bool->LI) (B:Nat) (t:TxS) (key hh:LI) (ht:t.Ok) (hc:Y5 A t=true) (hA:A=ZB) (hR:R=Qz ZR) (hB:20000<=B) (hHl:∀x,(H x).length=32) (hk:key.length=32) (hH:hh=T2 key (H (R t true))):
  evF (E19 A H T2 R B) 20 83 [.agg t.c,.agg [.arr .u8 32 key]] ⟨0,[]⟩ (Y6 0 (.ret (.tuple [.agg [.arr .u8 32 hh],.int .i64 0])) 0 []):=by
 refine @Eq.mpr _ (let b:=t.N;let a:=t.M;
 ∃(t_1:TxS),
 (t_1.num=t.num/\((b=b/\t_1.N=b)/\∀(i:Nat),i<b->Zd t.ins i=InS.c (t_1.ins i))/\(a=a/\t_1.M=a)/\∀(i:Nat),i<a->Ze t.outs i=Zp.c (t_1.outs i))/\
 TxS.Ok t_1/\
 Z7 (Y5 A t_1) (∃(t_2:TxS),
 let d:=List.length (R t_2 true);let h:=List.take d (X9 0 (R t_2 true));let g:=h.length;let f:=H h;let e:=f.length;
 (t_2.num=t.num/\((b=b/\t_2.N=b)/\∀(i:Nat),i<b->Zd t.ins i=InS.c (t_2.ins i))/\(a=a/\t_2.M=a)/\∀(i:Nat),i<a->Ze t.outs i=Zp.c (t_2.outs i))/\TxS.Fine t_2/\Z6 (0+d<=d) (Z6 (d=g) (Z6 (g<=B) (Z6 (key.length=32) (Z6 (e=32) (Z6 (32=e) (Z6 (key.length=32/\e=32) (T2 key f=hh/\True)))))))) (Z0=hh/\False)) (by kernel_rfl) ?_
 conv=>zeta
 try simp only [vcA]
 try simp only [vcB]
 try simp only [vcC]
 refine ⟨t,⟨rfl,⟨rfl,fun _ _=>rfl⟩,rfl,fun _ _=>rfl⟩,ht,fun h=>⟨t,⟨rfl,⟨rfl,fun _ _=>rfl⟩,rfl,fun _ _=>rfl⟩,V9 ht (by subst hA;exact hc), ?_⟩,fun h=>(by rw [hc] at h;cases h)⟩
 subst hR hA hH
 have hb:=QA (V9 ht hc) true (J5 t.M)
 have hb':(Qz ZR t true).length<=20000:=hb
 rw [YA,List.drop_zero,K6]
 have:=hHl (Qz ZR t true)
 and_intros<;>first|trivial|rfl|omega
theorem Zg7 (A:LI->Int×Int) (H:LI->LI) (T2:LI->LI->LI) (R:TxS->Bool->LI) (B:Nat) (t:TxS) (key:LI) (ht:t.Ok) (hc:Y5 A t=false):
  evF (E19 A H T2 R B) 20 83 [.agg t.c,.agg [.arr .u8 32 key]] ⟨0,[]⟩ (Y6 0 (.ret (.tuple [.agg [.arr .u8 32 Z0],.int .i64 2])) 0 []):=by
 refine @Eq.mpr _ (let b:=t.N;let a:=t.M;
 ∃(t_1:TxS),
 (t_1.num=t.num/\((b=b/\t_1.N=b)/\∀(i:Nat),i<b->Zd t.ins i=InS.c (t_1.ins i))/\(a=a/\t_1.M=a)/\∀(i:Nat),i<a->Ze t.outs i=Zp.c (t_1.outs i))/\
 TxS.Ok t_1/\
 Z7 (Y5 A t_1) (∃(t_2:TxS),
 let d:=List.length (R t_2 true);let h:=List.take d (X9 0 (R t_2 true));let g:=h.length;let f:=H h;let e:=f.length;
 (t_2.num=t.num/\((b=b/\t_2.N=b)/\∀(i:Nat),i<b->Zd t.ins i=InS.c (t_2.ins i))/\(a=a/\t_2.M=a)/\∀(i:Nat),i<a->Ze t.outs i=Zp.c (t_2.outs i))/\TxS.Fine t_2/\Z6 (0+d<=d) (Z6 (d=g) (Z6 (g<=B) (Z6 (key.length=32) (Z6 (e=32) (Z6 (32=e) (Z6 (key.length=32/\e=32) (T2 key f=Z0/\False)))))))) (Z0=Z0/\True)) (by kernel_rfl) ?_
 conv=>zeta
 try simp only [vcA]
 try simp only [vcB]
 try simp only [vcC]
 exact ⟨t,⟨rfl,⟨rfl,fun _ _=>rfl⟩,rfl,fun _ _=>rfl⟩,ht,fun h=>(by rw [hc] at h;cases h),fun h=>(by first|trivial|exact ⟨rfl,trivial⟩|rfl)⟩
def Zdo (A:LI->Int×Int) (Nm:TxS->LI):ZJ:=fun args h K=>ZD none h true 20 args fun a=>match a with
 | [.agg l]=>∃t,Z0I l t/\t.Ok/\Z7 (Y5 A t) (K (.tuple [.agg [.arr .u8 32 (Nm t)],.int .i64 0])) (K (.tuple [.agg [.arr .u8 32 Z0],.int .i64 2]))
 | _=>False
@[irreducible] def XZ (t:TxS):LI:=Z1W (Qz ZR t true)
theorem Z8y (t:TxS):(XZ t).length=32:=by unfold XZ;exact Z03 _
theorem Zan (args:List AV) (h:Z9) (K:AV->Prop) (hl:Zdo ZB XZ args h K):Zh PP 48 args h fun o h'=>∃v,o=.ret v/\h'=h/\K v:=by
 refine Zx.psumm (d:=20) (Zk _ _ _ _ _ hl fun a ha=> ?_)
 split at ha
 ·obtain ⟨t,h1,h2,hK⟩:=ha
  rw [Qx] at hK
  cases hc:Y5 ZB t with
  | true=>exact ⟨_,(Zx.evM (Z48 20000 (by decide) (by decide)) (Zeo _ _ _ _ _ t _ h2 hc rfl rfl (by decide) Z03 rfl)).conv fun E r hr=>hr.head (fun _ hc=>h1.rel hc) (fun _ hc=>hc),fun _=>rfl,by have:=hK.1 hc;unfold XZ at this;exact this⟩
  | false=>exact ⟨_,(Zx.evM (Z48 20000 (by decide) (by decide)) (Zep _ _ _ _ _ t h2 hc)).conv fun E r hr=>hr.head (fun _ hc=>h1.rel hc) (fun _ hc=>hc),fun _=>rfl,hK.2 hc⟩
 ·exact ha.elim
def Zeq (A:LI->Int×Int) (Tg:LI->TxS->LI):ZJ:=fun args h K=>ZD none h true 20 args fun a=>match a with
 | [.agg l,.agg [.arr .u8 32 key]]=>∃t,Z0I l t/\(t.Ok/\key.length=32)/\Z7 (Y5 A t) (K (.tuple [.agg [.arr .u8 32 (Tg key t)],.int .i64 0])) (K (.tuple [.agg [.arr .u8 32 Z0],.int .i64 2]))
 | _=>False
@[irreducible] def Zl (key:LI) (t:TxS):LI:=WI key (Z1W (Qz ZR t true))
theorem Xf (k:LI) (t:TxS):(Zl k t).length=32:=by unfold Zl;exact Z31 _ _
theorem Z8z (args:List AV) (h:Z9) (K:AV->Prop) (hl:Zeq ZB Zl args h K):Zh PP 83 args h fun o h'=>∃v,o=.ret v/\h'=h/\K v:=by
 refine Zx.psumm (d:=20) (Zk _ _ _ _ _ hl fun a ha=> ?_)
 split at ha
 ·obtain ⟨t,h1,⟨h2,hk⟩,hK⟩:=ha
  rw [Qx] at hK
  cases hc:Y5 ZB t with
  | true=>exact ⟨_,(Zx.evM (Z48 20000 (by decide) (by decide)) (Zg6 _ _ _ _ _ t _ _ h2 hc rfl rfl (by decide) Z03 hk rfl)).conv fun E r hr=>hr.head (fun _ hc=>h1.rel hc) (fun _ hc=>hc),fun _=>rfl,by have:=hK.1 hc;unfold Zl at this;exact this⟩
  | false=>exact ⟨_,(Zx.evM (Z48 20000 (by decide) (by decide)) (Zg7 _ _ _ _ _ t _ h2 hc)).conv fun E r hr=>hr.head (fun _ hc=>h1.rel hc) (fun _ hc=>hc),fun _=>rfl,hK.2 hc⟩
 ·exact ha.elim
noncomputable def E20 (A:LI->Int×Int) (Nm:TxS->LI) (T2:LI->LI->LI) (H1 PH:LI->LI) (H2:LI->LI->LI) (B:Nat) (R:Zp->Bool):Zf:=
 ((((G0.withP 48 (Zdo A Nm)).withP 167 (ZdY T2)).withP 190 (Zbw H1 H2 B)).withP 100 (Z6m PH)).withP 49 (Zby R)
theorem Zer (B:Nat) (hB:B<100000000000):(E20 ZB XZ WI Xb Wp Z02 B ZH).Ok:=
 Zf.withP_ok (Zf.withP_ok (Zf.withP_ok (Zf.withP_ok (Zf.withP_ok Zu Zan) Z7l) (Z42 B hB)) Z9V) Z7n
def Z0b (T2:LI->LI->LI) (H1 PH:LI->LI) (nm:LI) (x:InS) (o:Zp) (since height:Int):Bool:=
 let own:=T2 o.owner nm==x.tag
 let oth:=T2 o.other nm==x.tag
 if o.kind=1 then decide (x.way=2)&&own
 else if o.kind=2 then decide (x.way=1)&&own&&(T2 o.other nm==x.also)
 else if o.kind=3 then (if x.way=3 then own&&decide (height-since>=o.delay) else if x.way=4 then PH x.secret==o.point else false)
 else if o.kind=4 then (if x.way=5 then oth&&(H1 x.secret==o.hash) else if x.way=6 then own&&decide (height>=o.expiry) else if x.way=4 then PH x.secret==o.point else false)
 else if o.kind=5 then (if x.way=5 then own&&(H1 x.secret==o.hash) else if x.way=6 then oth&&decide (height>=o.expiry) else if x.way=4 then PH x.secret==o.point else false)
 else false
@[irreducible] def VY (A:LI->Int×Int) (Nm:TxS->LI) (T2:LI->LI->LI) (H1 PH:LI->LI) (R:Zp->Bool) (t:TxS) (at_:Int) (o:Zp) (since height:Int):Int:=
 if Y5 A t=false\/at_<0\/at_>=t.N\/R o=false\/since<0\/height<since then 2 else if Z0b T2 H1 PH (Nm t) (t.ins at_.toNat) o since height=true then 0 else 171
theorem Va {A:LI->Int×Int} {t:TxS} {o:Zp} (h:Y5 A t=false\/at_<0\/at_>=t.N\/R o=false\/since<0\/height<since):VY A Nm T2 H1 PH R t at_ o since height=2:=by unfold VY;rw [if_pos h]
theorem Z5f {A:LI->Int×Int} {t:TxS} {o:Zp} (h:¬(Y5 A t=false\/at_<0\/at_>=t.N\/R o=false\/since<0\/height<since)):VY A Nm T2 H1 PH R t at_ o since height=if Z0b T2 H1 PH (Nm t) (t.ins at_.toNat) o since height=true then 0 else 171:=by unfold VY;rw [if_neg h]
theorem Zce (A:LI->Int×Int) (Nm:TxS->LI) (T2:LI->LI->LI) (H1 PH:LI->LI) (H2:LI->LI->LI) (B:Nat) (R:Zp->Bool) (t:TxS) (at_:Int) (o:Zp) (since height:Int) (F:Int) (ht:t.Ok) (ho:o.Ok) (hB:32<=B) (hNm:∀t,(Nm t).length=32) (hT:∀a b,(T2 a b).length=32) (hH:∀a,(H1 a).length=32) (hP:∀a,(PH a).length=32) (hs: -9223372036854775808<=since/\since<9223372036854775808) (hh: -9223372036854775808<=height/\height<9223372036854775808) (hF:F=VY A Nm T2 H1 PH R t at_ o since height):
  evF (E20 A Nm T2 H1 PH H2 B R) 20 18 [.agg t.c,.int .i64 at_,.agg o.c,.int .i64 since,.int .i64 height] ⟨0,[]⟩ (Y6 0 (.ret (.int .i64 F)) 0 []):=by
 refine @Eq.mpr _ (let u:=t.N;let w:=t.M;let l:=Z6 (2=F) True;let J:=↑u;let k:=o.owner;let d:=o.other;let v:=o.point;let j:=o.hash;let b:=o.kind;let y:=t.ins (Int.toNat at_);let g:=y.way;let n:=y.tag;let h:=n=n;let s:=decide (k.length=32);let a:=Z6 (171=F) True;let m:=Z6 (0=F) True;let x:=y.also;let G:=decide (d.length=32);let E:=y.secret;let D:=E.length;let T:=decide (D=32);let S:=PH E;let C:=Z7 (decide (g=4)) (Z5 T (Z6 (S.length=32/\v.length=32) (Z7 (!S==v) a m))) a;let Q:=decide (g=5);let P:=H1 E;let O:=j=j/\Z5 T (Z6 (32=D) (Z6 (D<=B) (Z6 (P.length=32/\j.length=32) (Z7 (!P==j) a m))));let L:=decide (g=6);let K:=Z7 (!decide (height>=o.expiry)) a m;
 ∃(t_1:TxS),
 let f:=decide (List.length (Nm t_1)=32);let e:=decide (32=List.length (Nm t_1));let r:=decide (k.length=32/\List.length (Nm t_1)=32);let q:=decide (List.length (T2 k (Nm t_1))=32/\n.length=32);let p:=T2 k (Nm t_1)==n;let z:=decide (d.length=32/\List.length (Nm t_1)=32);let I:=decide (List.length (T2 d (Nm t_1))=32/\n.length=32);let H:=T2 d (Nm t_1)==n;
 (t_1.num=t.num/\((u=u/\t_1.N=u)/\∀(i:Nat),i<u->Zd t.ins i=InS.c (t_1.ins i))/\(w=w/\t_1.M=w)/\∀(i:Nat),i<w->Ze t.outs i=Zp.c (t_1.outs i))/\
 TxS.Ok t_1/\
 Z7 (Y5 A t_1) (Z7 (decide (at_<0)) l (Z7 (decide (at_>=J)) l (Z6 (k.length=32/\d.length=32/\v.length=32/\j.length=32) (Z7 (!R (Zp.mk b o.amount k d v j o.delay o.expiry)) l (Z7 (decide (since<0)) l (Z7 (decide (height<since)) l (Z6 (0<=at_/\at_<J) (Z6 (g=g) (Z6 (b=b) (Z7 (decide (b=1)) (Z7 (decide (g=2)) (h/\Z5 s (Z5 f (Z5 e (Z5 r (Z5 q (Z7 (!p) a m)))))) a) (Z7 (decide (b=2)) (Z7 (decide (g=1)) (h/\Z5 s (Z5 f (Z5 e (Z5 r (Z5 q (Z7 p (x=x/\Z5 G (Z5 f (Z5 e (Z5 z (Z6 (List.length (T2 d (Nm t_1))=32/\x.length=32) (Z7 (!T2 d (Nm t_1)==x) a m)))))) a)))))) a) (Z7 (decide (b=3)) (Z7 (decide (g=3)) (h/\Z5 s (Z5 f (Z5 e (Z5 r (Z5 q (Z7 p (Z7 (!decide (wrap i64 (height-since)>=o.delay)) a m) a)))))) C) (Z7 (decide (b=4)) (Z7 Q (h/\Z5 G (Z5 f (Z5 e (Z5 z (Z5 I (Z7 H O a)))))) (Z7 L (h/\Z5 s (Z5 f (Z5 e (Z5 r (Z5 q (Z7 p K a)))))) C)) (Z7 (decide (b=5)) (Z7 Q (h/\Z5 s (Z5 f (Z5 e (Z5 r (Z5 q (Z7 p O a)))))) (Z7 L (h/\Z5 G (Z5 f (Z5 e (Z5 z (Z5 I (Z7 H K a)))))) C)) a)))))))))))))) l) (by kernel_rfl) ?_
 conv=>zeta
 try simp only [vcA]
 try simp only [vcB]
 try simp only [vcC]
 obtain ⟨o1,o2,o3,o4⟩:=ho
 refine ⟨t,⟨rfl,⟨rfl,fun _ _=>rfl⟩,rfl,fun _ _=>rfl⟩,ht,fun hc=> ?_,fun hc=>(by rw [hF,Va (.inl hc)])⟩
 refine ⟨fun h1=>(by rw [hF,Va (by simp [h1])]),fun h1=>⟨fun h2=>(by rw [hF,Va (by simp [h2])]),fun h2=>⟨⟨o1,o2,o3,o4⟩,fun h3=> ?_,fun h3=>⟨fun h4=>(by rw [hF,Va (by simp [h4])]),fun h4=>⟨fun h5=>(by rw [hF,Va (by simp [h5])]),fun h5=>⟨⟨by omega,by omega⟩, ?_⟩⟩⟩⟩⟩⟩
 ·have h3:R o=false:=by simpa using h3
  rw [hF,Va (by simp [h3])]
 have h3':R o=true:=by simpa using h3
 have hG:=hF.trans (Z5f (by simp [h3',hc,h2,h5];omega))
 clear hF
 obtain ⟨l1,l2,l3,l4⟩:=ht.ins at_.toNat (by omega)
 generalize t.ins at_.toNat=x at*
 have hn:=hNm t
 generalize Nm t=nm at*
 have hw:i64.wrap (height-since)=height-since:=w64 (by omega)
 rw [hw]
 unfold Z0b at hG
 have q1:=hT o.owner nm
 have q2:=hT o.other nm
 have q3:=hP x.secret
 have q4:=hH x.secret
 clear hT hNm hP hH h3
 repeat' (first|(refine Jt ?_ ?_)|intro _)
 all_goals first|omega|assumption|trivial|skip
 all_goals (rw [hG];clear hG;simp_all)
 all_goals (rw [if_neg (by omega)])
def Z6B (F:TxS->Int->Zp->Int->Int->Int):ZJ:=fun args h K=>ZD none h true 20 args fun a=>match a with
 | [.agg l,.int .i64 at_,.agg cs,.int .i64 since,.int .i64 height]=>∃t o,Z0I l t/\cs=Zp.c o/\(t.Ok/\o.Ok/\(-9223372036854775808<=since/\since<9223372036854775808)/\ -9223372036854775808<=height/\height<9223372036854775808)/\K (.int .i64 (F t at_ o since height))
 | _=>False
theorem Z8A (args:List AV) (h:Z9) (K:AV->Prop) (hl:Z6B (VY ZB XZ WI Xb Wp ZH) args h K):Zh PP 18 args h fun o h'=>∃v,o=.ret v/\h'=h/\K v:=by
 refine Zx.psumm (d:=20) (Zk _ _ _ _ _ hl fun a ha=> ?_)
 split at ha
 ·obtain ⟨t,o,h1,rfl,⟨h2,h3,h4,h5⟩,hK⟩:=ha
  exact ⟨_,(Zx.evM (Zer 32 (by decide)) (Zce _ _ _ _ _ _ _ _ t _ o _ _ _ h2 h3 (J5 _) Z8y Z31 Qw Z6l h4 h5 rfl)).conv fun E r hr=>hr.head (fun _ hc=>h1.rel hc) (fun _ hc=>hc),fun _=>rfl,hK⟩
 ·exact ha.elim
def Z28 (x y:InS):Bool:=x.name==y.name&&x.index==y.index&&x.way==y.way&&x.tag==y.tag&&x.also==y.also&&x.secret==y.secret
def VZ (x y:Zp):Bool:=x.kind==y.kind&&x.amount==y.amount&&x.owner==y.owner&&x.other==y.other&&x.point==y.point&&x.hash==y.hash&&x.delay==y.delay&&x.expiry==y.expiry
def Zcf (N:Nat) (g g2:Nat->InS) (i:Nat):St:=⟨26,[(13,.int .i64 i),(12,.int .i64 N),(0,.vrows 130 N (Zd g) N),(1,.vrows 130 N (Zd g2) N)],⟨0,[]⟩,[]⟩
def Zg8 (_:Nat):St:=⟨26,[],⟨0,[]⟩,[]⟩
def Zcg (_:Nat):St:=⟨26,[(4,.bool false)],⟨0,[]⟩,[]⟩
theorem Zg9 (N:Nat) (g g2:Nat->InS) (i:Nat) (Z1 Z2 Z3:Prop) (hN:N<900000000000) (hg:∀i,i<N->(g i).Ok) (hg2:∀i,i<N->(g2 i).Ok) (hi:i<=N) (h1:i<N->Z28 (g i) (g2 i)=true->Z1) (h2:i=N->Z2) (h3:i<N->Z28 (g i) (g2 i)=false->Z3):
  ZW G0 20 46 0 0 (Zcf N g g2 i) (rdM 0 0 9 (Zcf N g g2 (i+1)) (Zg8 i) (Zcg i) (Zcg i) Z1 Z2 Z3 False):=by
 refine @Eq.mpr _ (let n:=decide (0<=(↑i:Int)/\(↑i:Int)<(↑N:Int));let b:=g (Int.toNat (↑i:Int));let k:=b.name;let a:=g2 (Int.toNat (↑i:Int));let j:=a.name;let h:=b.tag;let f:=a.tag;let e:=b.also;let d:=a.also;let m:=b.secret;let l:=a.secret;let c:=decide (N=N);
 Z7 (decide ((↑i:Int)<(↑N:Int))) (Z5 n (Z5 n (Z6 (k.length=32/\j.length=32) (Z6 (h.length=32/\f.length=32) (Z6 (e.length=32/\d.length=32) (Z6 (m.length=32/\l.length=32) (Z7 (!(k==j&&(b.index==a.index&&(b.way==a.way&&(h==f&&(e==d&&m==l)))))) Z3 (Z6 (wrap i64 ((↑i:Int)+1)=(↑(i+1):Int)) (Z6 ((↑N:Int)=(↑N:Int)) (Z5 c (Zd g=Zd g/\Z5 c (Z5 c (Zd g2=Zd g2/\Z5 c Z1))))))))))))) Z2) (by kernel_rfl) ?_
 conv=>zeta
 try simp only [vcA]
 try simp only [vcB]
 try simp only [vcC]
 refine ⟨fun hlt=> ?_,fun hge=>h2 (by omega)⟩
 obtain ⟨l1,l2,l3,l4⟩:=hg i (by omega)
 obtain ⟨m1,m2,m3,m4⟩:=hg2 i (by omega)
 have h1:=h1 (by omega)
 have h3:=h3 (by omega)
 have hw:i64.wrap ((i:Int)+1)=((i+1:Nat):Int):=w64 (by omega)
 rw [hw]
 unfold Z28 at h1 h3
 generalize g i=x at*
 generalize g2 i=y at*
 simp only [l1,l2,l3,l4,m1,m2,m3,m4]
 have hb:(x.name==y.name&&x.index==y.index&&x.way==y.way&&x.tag==y.tag&&x.also==y.also&&x.secret==y.secret)=(x.name==y.name&&(x.index==y.index&&(x.way==y.way&&(x.tag==y.tag&&(x.also==y.also&&(x.secret==y.secret)))))):=by simp only [Bool.and_assoc]
 rw [<-hb]
 clear hb
 refine ⟨by omega,by omega,⟨trivial,trivial⟩,⟨trivial,trivial⟩,⟨trivial,trivial⟩,⟨trivial,trivial⟩,fun h=>h3 (by rw [Ja] at h;exact h),fun h=>⟨by first|trivial|rfl,h1 (by rw [Ju] at h;exact h)⟩⟩
noncomputable def Zes (N:Nat) (g g2:Nat->InS):Zf:=G0.withL 46 0 (goM 0 (Zcf N g g2 0) (N<900000000000/\(∀i,i<N->(g i).Ok)/\∀i,i<N->(g2 i).Ok) (XY 0 N 9 (fun i=>Z28 (g i) (g2 i)=true) (fun i=>i=N) (fun i=>i<N/\Z28 (g i) (g2 i)=false) (fun _=>False) Zg8 Zcg Zcg))
theorem Z7y (N:Nat) (g g2:Nat->InS):(Zes N g g2).Ok:=
 Zf.withGoM (N:=20) (S:=Zcf N g g2) Zu (by kernel_rfl) fun hC=>⟨rfl,fun i hi _=>Zg9 N g g2 i _ _ _ hC.1 hC.2.1 hC.2.2 hi (fun h1 h2=>⟨h2,h1⟩) (fun h=>h) (fun h1 h2=>⟨h1,h2⟩)⟩
@[irreducible] def Z2u (N:Nat) (g:Nat->InS) (M:Nat) (g2:Nat->InS):Bool:=decide (N=M)&&(List.range N).all fun i=>Z28 (g i) (g2 i)
theorem Zga (N:Nat) (g g2:Nat->InS) (F:Bool) (hN:N<900000000000) (hg:∀i,i<N->(g i).Ok) (hg2:∀i,i<N->(g2 i).Ok) (hF:F=Z2u N g N g2):
  evF (Zes N g g2) 20 46 [.vrows 130 N (Zd g) N,.vrows 130 N (Zd g2) N] ⟨0,[]⟩ (Y6 0 (.ret (.bool F)) 0 []):=by
 refine @Eq.mpr _ (let b:=Z6 (false=F) True;let a:=decide (N=N);
 Z7 ((↑N:Int) !=(↑N:Int)) b (Z6 ((↑N:Int)=(↑N:Int)) (Z5 a (Zd g=Zd g/\Z5 a (Z5 a (Zd g2=Zd g2/\Z5 a ((N<900000000000/\(∀(i:Nat),i<N->InS.Ok (g i))/\∀(i:Nat),i<N->InS.Ok (g2 i))/\∀(i:Nat),i<=N->(∀(j:Nat),j<i->(fun (i:Nat)=>Z28 (g i) (g2 i)=true) j)->(i=N->Z6 (true=F) True)/\(i<N/\Z28 (g i) (g2 i)=false->b)/\(False->False)))))))) (by kernel_rfl) ?_
 conv=>zeta
 try simp only [vcA]
 try simp only [vcB]
 try simp only [vcC]
 subst hF
 refine ⟨fun h=>(by simp at h),fun _=>⟨⟨hN,hg,hg2⟩,fun i hi hgo=>⟨fun he=> ?_,fun he=> ?_,fun h=>h.elim⟩⟩⟩
 ·subst he
  unfold Z2u
  simp only [decide_true,JW]
  exact (K5.2 fun j hj=>hgo j (Jq.1 hj)).symm
 ·unfold Z2u
  simp only [decide_true,JW]
  exact (List.all_eq_false.2 ⟨i,Jq.2 he.1,by simp [he.2]⟩).symm
theorem Zgb (N M:Nat) (g g2:Nat->InS) (F:Bool) (hN:N≠M) (hF:F=Z2u N g M g2):
  evF (Zes N g g2) 20 46 [.vrows 130 N (Zd g) N,.vrows 130 M (Zd g2) M] ⟨0,[]⟩ (Y6 0 (.ret (.bool F)) 0 []):=by
 refine @Eq.mpr _ (let c:=Z6 (false=F) True;let b:=decide (N=N);let a:=decide (M=N);
 Z7 ((↑N:Int) !=(↑M:Int)) c (Z6 ((↑N:Int)=(↑N:Int)) (Z5 b (Zd g=Zd g/\Z5 b (Z5 a (Zd g2=Zd g2/\Z5 a ((N<900000000000/\(∀(i:Nat),i<N->InS.Ok (g i))/\∀(i:Nat),i<N->InS.Ok (g2 i))/\∀(i:Nat),i<=N->(∀(j:Nat),j<i->(fun (i:Nat)=>Z28 (g i) (g2 i)=true) j)->(i=N->Z6 (true=F) True)/\(i<N/\Z28 (g i) (g2 i)=false->c)/\(False->False)))))))) (by kernel_rfl) ?_
 conv=>zeta
 try simp only [vcA]
 try simp only [vcB]
 try simp only [vcC]
 subst hF
 have hne:((N:Int) !=(M:Int))=true:=by simp;omega
 refine ⟨fun _=> ?_,fun h=>(by rw [hne] at h;cases h)⟩
 unfold Z2u
 simp [hN]
theorem Zao (N M:Nat) (g g2:Nat->InS) (hN:N<900000000000) (hg:∀i,i<N->(g i).Ok) (hg2:∀i,i<M->(g2 i).Ok):Zx PP 46 [.vrows 130 N (Zd g) N,.vrows 130 M (Zd g2) M] (.bool (Z2u N g M g2)) 0 []:=by
 by_cases h:N=M
 ·subst h;exact .evM (Z7y N g g2) (Zga N g g2 _ hN hg hg2 rfl)
 ·exact .evM (Z7y N g g2) (Zgb N M g g2 _ h rfl)
def Zgc:ZJ:=fun args h K=>ZD none h true 20 args fun a=>match a with
 | [x,y]=>∃N g M g2,Z2t x N g/\Z2t y M g2/\(N<900000000000/\(∀i,i<N->(g i).Ok)/\∀i,i<M->(g2 i).Ok)/\K (.bool (Z2u N g M g2))
 | _=>False
theorem Zch (args:List AV) (h:Z9) (K:AV->Prop) (hl:Zgc args h K):Zh PP 46 args h fun o h'=>∃v,o=.ret v/\h'=h/\K v:=by
 refine Zx.psumm (d:=20) (Zk _ _ _ _ _ hl fun a ha=> ?_)
 split at ha
 ·obtain ⟨N,g,M,g2,h1,h2,⟨h3,h4,h5⟩,hK⟩:=ha
  exact ⟨_,(Zao N M g g2 h3 h4 h5).conv fun E r hr=>hr.head (fun _ hc=>h1.rel hc) (fun _ hc=>hc.head (fun _ hc=>h2.rel hc) (fun _ hc=>hc)),fun _=>rfl,hK⟩
 ·exact ha.elim
def Zci (N:Nat) (g g2:Nat->Zp) (i:Nat):St:=⟨26,[(13,.int .i64 i),(12,.int .i64 N),(0,.vrows 132 N (Ze g) N),(1,.vrows 132 N (Ze g2) N)],⟨0,[]⟩,[]⟩
def Zgd (_:Nat):St:=⟨26,[],⟨0,[]⟩,[]⟩
def Zcj (_:Nat):St:=⟨26,[(4,.bool false)],⟨0,[]⟩,[]⟩
theorem Zge (N:Nat) (g g2:Nat->Zp) (i:Nat) (Z1 Z2 Z3:Prop) (hN:N<900000000000) (hg:∀i,i<N->(g i).Ok) (hg2:∀i,i<N->(g2 i).Ok) (hi:i<=N) (h1:i<N->VZ (g i) (g2 i)=true->Z1) (h2:i=N->Z2) (h3:i<N->VZ (g i) (g2 i)=false->Z3):
  ZW G0 20 47 0 0 (Zci N g g2 i) (rdM 0 0 9 (Zci N g g2 (i+1)) (Zgd i) (Zcj i) (Zcj i) Z1 Z2 Z3 False):=by
 refine @Eq.mpr _ (let n:=decide (0<=(↑i:Int)/\(↑i:Int)<(↑N:Int));let b:=g (Int.toNat (↑i:Int));let k:=b.owner;let a:=g2 (Int.toNat (↑i:Int));let j:=a.owner;let h:=b.other;let f:=a.other;let e:=b.point;let d:=a.point;let m:=b.hash;let l:=a.hash;let c:=decide (N=N);
 Z7 (decide ((↑i:Int)<(↑N:Int))) (Z5 n (Z5 n (Z6 (k.length=32/\j.length=32) (Z6 (h.length=32/\f.length=32) (Z6 (e.length=32/\d.length=32) (Z6 (m.length=32/\l.length=32) (Z7 (!(b.kind==a.kind&&(b.amount==a.amount&&(k==j&&(h==f&&(e==d&&(m==l&&(b.delay==a.delay&&b.expiry==a.expiry)))))))) Z3 (Z6 (wrap i64 ((↑i:Int)+1)=(↑(i+1):Int)) (Z6 ((↑N:Int)=(↑N:Int)) (Z5 c (Ze g=Ze g/\Z5 c (Z5 c (Ze g2=Ze g2/\Z5 c Z1))))))))))))) Z2) (by kernel_rfl) ?_
 conv=>zeta
 try simp only [vcA]
 try simp only [vcB]
 try simp only [vcC]
 refine ⟨fun hlt=> ?_,fun hge=>h2 (by omega)⟩
 obtain ⟨l1,l2,l3,l4⟩:=hg i (by omega)
 obtain ⟨m1,m2,m3,m4⟩:=hg2 i (by omega)
 have h1:=h1 (by omega)
 have h3:=h3 (by omega)
 have hw:i64.wrap ((i:Int)+1)=((i+1:Nat):Int):=w64 (by omega)
 rw [hw]
 unfold VZ at h1 h3
 generalize g i=x at*
 generalize g2 i=y at*
 simp only [l1,l2,l3,l4,m1,m2,m3,m4]
 have hb:(x.kind==y.kind&&x.amount==y.amount&&x.owner==y.owner&&x.other==y.other&&x.point==y.point&&x.hash==y.hash&&x.delay==y.delay&&x.expiry==y.expiry)=(x.kind==y.kind&&(x.amount==y.amount&&(x.owner==y.owner&&(x.other==y.other&&(x.point==y.point&&(x.hash==y.hash&&(x.delay==y.delay&&(x.expiry==y.expiry)))))))):=by simp only [Bool.and_assoc]
 rw [<-hb]
 clear hb
 refine ⟨by omega,by omega,⟨trivial,trivial⟩,⟨trivial,trivial⟩,⟨trivial,trivial⟩,⟨trivial,trivial⟩,fun h=>h3 (by rw [Ja] at h;exact h),fun h=>⟨by first|trivial|rfl,h1 (by rw [Ju] at h;exact h)⟩⟩
noncomputable def Zet (N:Nat) (g g2:Nat->Zp):Zf:=G0.withL 47 0 (goM 0 (Zci N g g2 0) (N<900000000000/\(∀i,i<N->(g i).Ok)/\∀i,i<N->(g2 i).Ok) (XY 0 N 9 (fun i=>VZ (g i) (g2 i)=true) (fun i=>i=N) (fun i=>i<N/\VZ (g i) (g2 i)=false) (fun _=>False) Zgd Zcj Zcj))
theorem Z7z (N:Nat) (g g2:Nat->Zp):(Zet N g g2).Ok:=
 Zf.withGoM (N:=20) (S:=Zci N g g2) Zu (by kernel_rfl) fun hC=>⟨rfl,fun i hi _=>Zge N g g2 i _ _ _ hC.1 hC.2.1 hC.2.2 hi (fun h1 h2=>⟨h2,h1⟩) (fun h=>h) (fun h1 h2=>⟨h1,h2⟩)⟩
@[irreducible] def Z2v (N:Nat) (g:Nat->Zp) (M:Nat) (g2:Nat->Zp):Bool:=decide (N=M)&&(List.range N).all fun i=>VZ (g i) (g2 i)
theorem Zgf (N:Nat) (g g2:Nat->Zp) (F:Bool) (hN:N<900000000000) (hg:∀i,i<N->(g i).Ok) (hg2:∀i,i<N->(g2 i).Ok) (hF:F=Z2v N g N g2):
  evF (Zet N g g2) 20 47 [.vrows 132 N (Ze g) N,.vrows 132 N (Ze g2) N] ⟨0,[]⟩ (Y6 0 (.ret (.bool F)) 0 []):=by
 refine @Eq.mpr _ (let b:=Z6 (false=F) True;let a:=decide (N=N);
 Z7 ((↑N:Int) !=(↑N:Int)) b (Z6 ((↑N:Int)=(↑N:Int)) (Z5 a (Ze g=Ze g/\Z5 a (Z5 a (Ze g2=Ze g2/\Z5 a ((N<900000000000/\(∀(i:Nat),i<N->Zp.Ok (g i))/\∀(i:Nat),i<N->Zp.Ok (g2 i))/\∀(i:Nat),i<=N->(∀(j:Nat),j<i->(fun (i:Nat)=>VZ (g i) (g2 i)=true) j)->(i=N->Z6 (true=F) True)/\(i<N/\VZ (g i) (g2 i)=false->b)/\(False->False)))))))) (by kernel_rfl) ?_
 conv=>zeta
 try simp only [vcA]
 try simp only [vcB]
 try simp only [vcC]
 subst hF
 refine ⟨fun h=>(by simp at h),fun _=>⟨⟨hN,hg,hg2⟩,fun i hi hgo=>⟨fun he=> ?_,fun he=> ?_,fun h=>h.elim⟩⟩⟩
 ·subst he
  unfold Z2v
  simp only [decide_true,JW]
  exact (K5.2 fun j hj=>hgo j (Jq.1 hj)).symm
 ·unfold Z2v
  simp only [decide_true,JW]
  exact (List.all_eq_false.2 ⟨i,Jq.2 he.1,by simp [he.2]⟩).symm
theorem Zgg (N M:Nat) (g g2:Nat->Zp) (F:Bool) (hN:N≠M) (hF:F=Z2v N g M g2):
  evF (Zet N g g2) 20 47 [.vrows 132 N (Ze g) N,.vrows 132 M (Ze g2) M] ⟨0,[]⟩ (Y6 0 (.ret (.bool F)) 0 []):=by
 refine @Eq.mpr _ (let c:=Z6 (false=F) True;let b:=decide (N=N);let a:=decide (M=N);
 Z7 ((↑N:Int) !=(↑M:Int)) c (Z6 ((↑N:Int)=(↑N:Int)) (Z5 b (Ze g=Ze g/\Z5 b (Z5 a (Ze g2=Ze g2/\Z5 a ((N<900000000000/\(∀(i:Nat),i<N->Zp.Ok (g i))/\∀(i:Nat),i<N->Zp.Ok (g2 i))/\∀(i:Nat),i<=N->(∀(j:Nat),j<i->(fun (i:Nat)=>VZ (g i) (g2 i)=true) j)->(i=N->Z6 (true=F) True)/\(i<N/\VZ (g i) (g2 i)=false->c)/\(False->False)))))))) (by kernel_rfl) ?_
 conv=>zeta
 try simp only [vcA]
 try simp only [vcB]
 try simp only [vcC]
 subst hF
 have hne:((N:Int) !=(M:Int))=true:=by simp;omega
 refine ⟨fun _=> ?_,fun h=>(by rw [hne] at h;cases h)⟩
 unfold Z2v
 simp [hN]
theorem Zap (N M:Nat) (g g2:Nat->Zp) (hN:N<900000000000) (hg:∀i,i<N->(g i).Ok) (hg2:∀i,i<M->(g2 i).Ok):Zx PP 47 [.vrows 132 N (Ze g) N,.vrows 132 M (Ze g2) M] (.bool (Z2v N g M g2)) 0 []:=by
 by_cases h:N=M
 ·subst h;exact .evM (Z7z N g g2) (Zgf N g g2 _ hN hg hg2 rfl)
 ·exact .evM (Z7z N g g2) (Zgg N M g g2 _ h rfl)
def Zgh:ZJ:=fun args h K=>ZD none h true 20 args fun a=>match a with
 | [x,y]=>∃N g M g2,UG x N g/\UG y M g2/\(N<900000000000/\(∀i,i<N->(g i).Ok)/\∀i,i<M->(g2 i).Ok)/\K (.bool (Z2v N g M g2))
 | _=>False
theorem Zck (args:List AV) (h:Z9) (K:AV->Prop) (hl:Zgh args h K):Zh PP 47 args h fun o h'=>∃v,o=.ret v/\h'=h/\K v:=by
 refine Zx.psumm (d:=20) (Zk _ _ _ _ _ hl fun a ha=> ?_)
 split at ha
 ·obtain ⟨N,g,M,g2,h1,h2,⟨h3,h4,h5⟩,hK⟩:=ha
  exact ⟨_,(Zap N M g g2 h3 h4 h5).conv fun E r hr=>hr.head (fun _ hc=>h1.rel hc) (fun _ hc=>hc.head (fun _ hc=>h2.rel hc) (fun _ hc=>hc)),fun _=>rfl,hK⟩
 ·exact ha.elim
noncomputable def E21:Zf:=(G0.withP 46 Zgc).withP 47 Zgh
theorem Zeu:E21.Ok:=Zf.withP_ok (Zf.withP_ok Zu Zch) Zck
@[irreducible] def Wt (a b:TxS):Bool:=(a.num==b.num)&&(Z2u a.N a.ins b.N b.ins&&Z2v a.M a.outs b.M b.outs)
theorem Zev (a b:TxS) (F:Bool) (ha:a.Ok) (hb:b.Ok) (hF:F=Wt a b):
  evF E21 20 17 [.agg a.c,.agg b.c] ⟨0,[]⟩ (Y6 0 (.ret (.bool F)) 0 []):=by
 refine @Eq.mpr _ (let h:=a.N;let f:=b.N;let e:=a.M;let d:=b.M;let j:=Z6 (false=F) True;
 Z7 (a.num==b.num) (∃(N:Nat),∃(g:Nat->InS),∃(M:Nat),∃(g2:Nat->InS),((h=h/\N=h)/\∀(i:Nat),i<h->Zd a.ins i=InS.c (g i))/\((f=f/\M=f)/\∀(i:Nat),i<f->Zd b.ins i=InS.c (g2 i))/\(N<900000000000/\(∀(i:Nat),i<N->InS.Ok (g i))/\∀(i:Nat),i<M->InS.Ok (g2 i))/\Z7 (Z2u N g M g2) (∃(N:Nat),∃(g:Nat->Zp),∃(M:Nat),∃(g2:Nat->Zp),((e=e/\N=e)/\∀(i:Nat),i<e->Ze a.outs i=Zp.c (g i))/\((d=d/\M=d)/\∀(i:Nat),i<d->Ze b.outs i=Zp.c (g2 i))/\(N<900000000000/\(∀(i:Nat),i<N->Zp.Ok (g i))/\∀(i:Nat),i<M->Zp.Ok (g2 i))/\Z6 (Z2v N g M g2=F) True) j) j) (by kernel_rfl) ?_
 conv=>zeta
 try simp only [vcA]
 try simp only [vcB]
 try simp only [vcC]
 refine ⟨fun h0=>⟨a.N,a.ins,b.N,b.ins,⟨rfl,fun _ _=>rfl⟩,⟨rfl,fun _ _=>rfl⟩,⟨ha.n,ha.ins,hb.ins⟩,fun h1=>⟨a.M,a.outs,b.M,b.outs,⟨rfl,fun _ _=>rfl⟩,⟨rfl,fun _ _=>rfl⟩,⟨ha.m,ha.outs,hb.outs⟩, ?_⟩,fun h1=> ?_⟩,fun h0=> ?_⟩
 ·rw [hF];unfold Wt;rw [h0,h1];rfl
 ·rw [hF];unfold Wt;rw [h0,h1];rfl
 ·rw [hF];unfold Wt;rw [h0];rfl
def Zaq (F:TxS->TxS->Bool):ZJ:=fun args h K=>ZD none h true 20 args fun a=>match a with
 | [.agg l,.agg l']=>∃a b,Z0I l a/\Z0I l' b/\(a.Ok/\b.Ok)/\K (.bool (F a b))
 | _=>False
theorem Z8B (args:List AV) (h:Z9) (K:AV->Prop) (hl:Zaq Wt args h K):Zh PP 17 args h fun o h'=>∃v,o=.ret v/\h'=h/\K v:=by
 refine Zx.psumm (d:=20) (Zk _ _ _ _ _ hl fun a ha=> ?_)
 split at ha
 ·obtain ⟨a,b,h1,h2,⟨h3,h4⟩,hK⟩:=ha
  exact ⟨_,(Zx.evM Zeu (Zev a b _ h3 h4 rfl)).conv fun E r hr=>hr.head (fun _ hc=>h1.rel hc) (fun _ hc=>hc.head (fun _ hc=>h2.rel hc) (fun _ hc=>hc)),fun _=>rfl,hK⟩
 ·exact ha.elim
mutual
/-- Without names; views may be. -/
def AV.vplain:AV->Bool
 | .top|.bool _|.int _ _|.str _|.ptr none|.eslice|.fslice|.nilslice|.map none|.nilFunc|.nilIface|.arr _ _ _=>true
 | .vints _ _ _|.vrows _ _ _ _|.pview _ _=>true
 | .agg cs=>W6 cs
 | .tuple cs=>W6 cs
 | .iface _ v=>v.vplain
 | _=>false
def W6:List AV->Bool
 | []=>true
 | v::r=>v.vplain&&W6 r
end
mutual
theorem Zc.vplain {E E':Env} (hi:∀a c,E.imm a c->E'.imm a c):∀(v:AV) (r:Value),v.vplain=true->Zc E v r->Zc E' v r
 | .top,r,_,_=>.top r
 | .bool b,r,_,h=>h.plain rfl
 | .int k n,r,_,h=>h.plain rfl
 | .str s,r,_,h=>h.plain rfl
 | .ptr none,r,_,h=>h.plain rfl
 | .eslice,r,_,h=>h.plain rfl
 | .fslice,r,_,h=>h.plain rfl
 | .nilslice,r,_,h=>h.plain rfl
 | .map none,r,_,h=>h.plain rfl
 | .nilFunc,r,_,h=>h.plain rfl
 | .nilIface,r,_,h=>h.plain rfl
 | .arr k n xs,r,_,h=>h.plain rfl
 | .ptr (some p),r,hp,_=>by simp [AV.vplain] at hp
 | .nslice p a b c,r,hp,_=>by simp [AV.vplain] at hp
 | .map (some x),r,hp,_=>by simp [AV.vplain] at hp
 | .func a b c,r,hp,_=>by simp [AV.vplain] at hp
 | .yield x,r,hp,_=>by simp [AV.vplain] at hp
 | .pview cs inn,r,_,h=>by
  cases h with
  | pview cs inn a vs hc hq=>exact .pview cs inn a vs (Zn.mono (⟨fun _ _ h=>by simp [Env.views] at h,hi⟩:E.views.le E'.views) hc) (fun j c h=>hi _ _ (hq j c h))
 | .vints k xs len,r,_,h=>by
  cases h with
  | vintsNil k xs len h1 h2=>exact .vintsNil k xs len h1 h2
  | vints k xs len a cap h1 h2 hq=>exact .vints k xs len a cap h1 h2 (fun i h=>hi _ _ (hq i h))
 | .vrows esz n f len,r,_,h=>by
  cases h with
  | vrowsNil esz n f len h1 h2=>exact .vrowsNil esz n f len h1 h2
  | vrows esz n f len a cap g h1 h2 hc hl hq=>exact .vrows esz n f len a cap g h1 h2 (fun i h=>Zn.mono (⟨fun _ _ h=>by simp [Env.views] at h,hi⟩:E.views.le E'.views) (hc i h)) hl (fun i j c h h'=>hi _ _ (hq i j c h h'))
 | .iface t v,r,hp,h=>by
  cases h with
  | iface t v x hx=>exact .iface t v x (Zc.vplain hi v x (by simpa [AV.vplain] using hp) hx)
 | .agg cs,r,hp,h=>by
  cases h with
  | agg cs vs hc=>exact .agg cs vs (Zn.vplain hi cs vs (by simpa [AV.vplain] using hp) hc)
 | .tuple cs,r,hp,h=>by
  cases h with
  | tuple _ rs hc=>exact .tuple _ rs (Zw.vplain hi cs rs (by simpa [AV.vplain] using hp) hc)
theorem Zn.vplain {E E':Env} (hi:∀a c,E.imm a c->E'.imm a c):∀(l:List AV) (r:List Value),W6 l=true->Zn E l r->Zn E' l r
 | [],r,_,h=>by cases h;exact .nil
 | v::l,r,hp,h=>by
  simp only [W6,J3] at hp
  cases h with
  | one v c vs cs h0 h1 hv t=>exact .one v c _ cs h0 h1 (Zc.vplain hi v c hp.1 hv) (Zn.vplain hi l cs hp.2 t)
  | arr k n xs vs cs t=>exact .arr k n xs _ cs (Zn.vplain hi l cs hp.2 t)
theorem Zw.vplain {E E':Env} (hi:∀a c,E.imm a c->E'.imm a c):∀(l:List AV) (r:List Value),W6 l=true->Zw E l r->Zw E' l r
 | [],r,_,h=>by cases h;exact .nil
 | v::l,r,hp,h=>by
  simp only [W6,J3] at hp
  cases h with
  | cons v c vs cs hv t=>exact .cons v c _ cs (Zc.vplain hi v c hp.1 hv) (Zw.vplain hi l cs hp.2 t)
end
def Us (R:AV->Prop):KO:=fun o _=>match o with
 | .ret u=>(match u.vplain with|true=>R u|false=>False)
 | .panic _=>False
theorem Z29 {P:Program} {f:FuncId} {h:Z9} {R:AV->Prop} {K:AV->Prop} (hp:W6 args=true) (hc:Zh P f args ⟨0,[]⟩ (Us R)) (hK:∀u,R u->K u):
  Zh P f args h fun o h'=>∃v,o=.ret v/\h'=h/\K v:=by
 intro E w rs he hr
 have hemb:Emb E.views ⟨0,[]⟩ w:=
  ⟨fun x _=>rfl,fun x B h=>by simp [Z9.get,ZC] at h,fun x B h=>by simp [Z9.get,ZC] at h,fun x y B B' b N N' h=>by simp [Z9.get,ZC] at h,he.imm,fun a c x B N _ h=>by simp [Z9.get,ZC] at h⟩
 refine (hc E.views w rs hemb (Zw.vplain (E:=E) (E':=E.views) (fun _ _ h=>h) _ _ hp hr)).mono ?_
 rintro e w' ⟨E₁,o,h',hK0,hev,hor⟩
 cases hor with
 | panic u r hr=>exact hK0.elim
 | ret u r hr=>
  unfold Us at hK0
  simp only at hK0
  split at hK0
  ·rename_i hu
   have hkeep:∀b,b<w.heap.size->w'.heap[b]? =w.heap[b]?:=fun b hb=>hev.keep b hb (fun ⟨x,B,N,hx,_⟩=>by simp [Z9.get,ZC] at hx)
   have hemb':Emb E h w':=by
    refine ⟨he.fresh,he.lt,fun x B hx=>(he.own x B hx).congr fun b N hb=>hkeep b ((he.own x B hx).lt hb),he.disj,fun a c hi=> ?_,he.sep⟩
    have hcc:=he.imm a c hi
    have hlt:a.block<w.heap.size:=by
     rcases J7 a.block w.heap.size with hl|hg
     ·exact hl
     ·simp [World.cell?,Jj hg] at hcc
    simpa [World.cell?,hkeep _ hlt] using hcc
   exact ⟨E,.ret u,h,⟨u,rfl,rfl,hK u hK0⟩,⟨.refl E,hemb',hev.size,hev.os,hev.tape,hev.output,fun b hb _=>hkeep b hb,fun b ho=>.inl ho,fun _ _ h=>h⟩,.ret _ _ (Zc.vplain (E:=E₁) (E':=E) (fun a c hi=>hev.imm a c hi) _ _ hu hr)⟩
  ·exact hK0.elim
theorem W7 {G:Zf} (hG:G.Ok) {n:Nat} {f:FuncId} {h:Z9} {R:AV->Prop} {K:AV->Prop} (hp:W6 args=true) (hc:evF G n f args ⟨0,[]⟩ (Us R)) (hK:∀u,R u->K u):
  Zh G.P f args h fun o h'=>∃v,o=.ret v/\h'=h/\K v:=Z29 hp (Yw hG hc) hK
end Go.Tk
end
