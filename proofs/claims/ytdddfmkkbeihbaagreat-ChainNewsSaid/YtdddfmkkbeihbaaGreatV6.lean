/- V: part 6 of an engine (a symbolic evaluator, proved against the model) and of the walk by it. -/
import Derived.Test.YtdddfmkkbeihbaaGreatV5
import Derived.Test.YtdddfmkkbeihbaaGreatRows
import Derived.ChangeOld
set_option linter.unusedVariables false
set_option linter.unusedSimpArgs false
set_option maxRecDepth 100000
set_option maxHeartbeats 0
section
namespace Go.Tk
open IntKind (i64 u8 u32 u64 wrap)
variable {L:List Ze} {args:List AV} {g g':Nat->List AV}
def isK (L:List Ze) (x:LI) (ix:Int) (i:Nat):Bool:=(L.getD i Zn).name==x&&(L.getD i Zn).index==ix
def isN (L:List Ze) (x:LI) (i:Nat):Bool:=(L.getD i Zn).name==x
def ZcO:List AV:=[.int .i64 0,.int .i64 0,.arr .u8 32 Z7,.arr .u8 32 Z7,.arr .u8 32 Z7,.arr .u8 32 Z7,.int .i64 0,.int .i64 0]
def ouC (L:List Ze) (i:Nat):List AV:=[.int .i64 (L.getD i Zn).out.kind,.int .i64 (L.getD i Zn).out.amount,.arr .u8 32 (L.getD i Zn).out.owner,.arr .u8 32 (L.getD i Zn).out.other,.arr .u8 32 (L.getD i Zn).out.point,.arr .u8 32 (L.getD i Zn).out.hash,.int .i64 (L.getD i Zn).out.delay,.int .i64 (L.getD i Zn).out.expiry]
def rcS (L:List Ze) (n:Nat) (x:LI) (ix:Int) (i:Nat):St:=⟨55,[(9,.int .i64 i),(0,.vrows 170 n (stR L) n),(4,pt 0),(2,.int .i64 ix),(6,pt 1)],⟨2,[(1,.flat ZcO),(0,.flat [.arr .u8 32 x])]⟩,[]⟩
def rcE:St:=⟨55,[(6,pt 0)],⟨1,[(0,.flat ZcO)]⟩,[]⟩
def rcR (L:List Ze) (i:Nat):St:=⟨55,[(6,pt 0),(7,.int .i64 0),(8,.bool true)],⟨1,[(0,.flat (ouC L i))]⟩,[]⟩
theorem Zjw (L:List Ze) (n:Nat) (x:LI) (ix:Int) (i:Nat) (Z1 Z2 Z3:Prop) (hn:n<1000) (hi:i<=n) (hO:Zw L n) (hx:x.length=32) (h1:i<n->isK L x ix i=false->Z1) (h2:i=n->Z2) (h3:i<n->isK L x ix i=true->Z3):
  Zz G0 20 102 0 0 (rcS L n x ix i) (rdM 0 0 9 (rcS L n x ix (i+1)) rcE (rcR L i) rcE Z1 Z2 Z3 False):=by
 refine @Eq.mpr _ (let c:=decide (0<=(↑i:Int)/\(↑i:Int)<(↑n:Int));let d:=List.getD L (Int.toNat (↑i:Int)) Zn;let g:=d.name;let b:=d.out;let a:=(List.getD L i Zn).out;let f:=decide (n=n);let e:=Z5 (wrap i64 ((↑i:Int)+1)=(↑(i+1):Int)) (Z0 f (stR L=stR L/\Z0 f (Z5 (ix=ix) (Z7=Z7/\Z7=Z7/\Z7=Z7/\Z7=Z7/\x=x/\Z1))));
 Z6 (decide ((↑i:Int)<(↑n:Int))) (Z0 c (Z5 (g.length=32/\x.length=32) (Z6 (g==x) (Z0 c (Z6 (d.index==ix) (Z0 c (Z0 c (Z0 c (Z5 (b.kind=a.kind) (Z5 (b.amount=a.amount) (b.owner=a.owner/\b.other=a.other/\b.point=a.point/\b.hash=a.hash/\Z5 (b.delay=a.delay) (Z5 (b.expiry=a.expiry) Z3))))))) e)) e))) (Z7=Z7/\Z7=Z7/\Z7=Z7/\Z7=Z7/\Z2)) (by kernel_rfl) ?_
 conv=>zeta
 try simp only [vcA]
 try simp only [vcB]
 try simp only [vcC]
 refine ⟨fun hc=> ?_,fun hc=>h2 (by omega)⟩
 have hlt:i<n:=by omega
 have hw:i64.wrap ((i:Int)+1)=((i+1:Nat):Int):=by rw [w64 (by omega)];omega
 have hl:=(hO.h i hlt).name
 unfold isK at h1 h3
 exact ⟨by omega,⟨hl,hx⟩,fun k1=>⟨by omega,fun k2=>⟨by omega,by omega,by omega,h3 hlt (by rw [k1,k2];rfl)⟩,fun k2=>⟨hw,h1 hlt (by rw [k1,k2];rfl)⟩⟩,fun k1=>⟨hw,h1 hlt (by rw [k1];rfl)⟩⟩
def pl0:List AV:=[.int .i64 0,.int .i64 0,.nilslice,.nilslice]
def rsS (L:List Ze) (n:Nat) (x:LI) (ix:Int) (i:Nat):St:=⟨48,[(8,.int .i64 i),(0,.vrows 170 n (stR L) n),(4,pt 0),(2,.int .i64 ix),(6,pt 1)],⟨2,[(1,.flat pl0),(0,.flat [.arr .u8 32 x])]⟩,[]⟩
def rsE:St:=⟨48,[(6,pt 0)],⟨1,[(0,.flat pl0)]⟩,[]⟩
theorem Zjx (L:List Ze) (n:Nat) (x:LI) (ix:Int) (i:Nat) (Z1 Z2:Prop) (hn:n<1000) (hi:i<=n) (hO:Zw L n) (hx:x.length=32) (h1:i<n->Z1) (h2:i=n->Z2):
  Zz G0 20 103 0 0 (rsS L n x ix i) (rdM 0 0 9 (rsS L n x ix (i+1)) rsE rsE rsE Z1 Z2 False False):=by
 refine @Eq.mpr _ (let b:=decide (0<=(↑i:Int)/\(↑i:Int)<(↑n:Int));let e:=List.getD L (Int.toNat (↑i:Int)) Zn;let d:=e.name;let c:=decide (n=n);let a:=Z5 (wrap i64 ((↑i:Int)+1)=(↑(i+1):Int)) (Z0 c (stR L=stR L/\Z0 c (Z5 (ix=ix) (x=x/\Z1))));
 Z6 (decide ((↑i:Int)<(↑n:Int))) (Z0 b (Z5 (d.length=32/\x.length=32) (Z6 (d==x) (Z0 b (Z6 (e.index==ix) (Z0 b a) a)) a))) Z2) (by kernel_rfl) ?_
 conv=>zeta
 try simp only [vcA]
 try simp only [vcB]
 try simp only [vcC]
 refine ⟨fun hc=> ?_,fun hc=>h2 (by omega)⟩
 have hlt:i<n:=by omega
 have hw:i64.wrap ((i:Int)+1)=((i+1:Nat):Int):=by rw [w64 (by omega)];omega
 have hl:=(hO.h i hlt).name
 have h1:=h1 hlt
 exact ⟨by omega,⟨hl,hx⟩,fun k1=>⟨by omega,fun k2=>⟨by omega,hw,h1⟩,fun k2=>⟨hw,h1⟩⟩,fun k1=>⟨hw,h1⟩⟩
def rpS (L:List Ze) (n:Nat) (x:LI) (i:Nat):St:=⟨31,[(8,.int .i64 i),(0,.vrows 170 n (stR L) n),(5,pt 0),(1,.int .i64 0)],⟨1,[(0,.flat [.arr .u8 32 x])]⟩,[]⟩
def rpE:St:=⟨31,[],⟨0,[]⟩,[]⟩
def rpR:St:=⟨31,[(6,.int .i64 1),(7,.bool true)],⟨0,[]⟩,[]⟩
theorem Zjy (L:List Ze) (n:Nat) (x:LI) (i:Nat) (Z1 Z2 Z3:Prop) (hn:n<1000) (hi:i<=n) (hO:Zw L n) (hx:x.length=32) (h1:i<n->isN L x i=false->Z1) (h2:i=n->Z2) (h3:i<n->isN L x i=true->Z3):
  Zz G0 20 104 0 0 (rpS L n x i) (rdM 0 0 9 (rpS L n x (i+1)) rpE rpR rpE Z1 Z2 Z3 False):=by
 refine @Eq.mpr _ (let c:=decide (0<=(↑i:Int)/\(↑i:Int)<(↑n:Int));let b:=(List.getD L (Int.toNat (↑i:Int)) Zn).name;let a:=decide (n=n);
 Z6 (decide ((↑i:Int)<(↑n:Int))) (Z0 c (Z5 (b.length=32/\x.length=32) (Z6 (b==x) (Z0 c Z3) (Z5 (wrap i64 ((↑i:Int)+1)=(↑(i+1):Int)) (Z0 a (stR L=stR L/\Z0 a (x=x/\Z1))))))) Z2) (by kernel_rfl) ?_
 conv=>zeta
 try simp only [vcA]
 try simp only [vcB]
 try simp only [vcC]
 refine ⟨fun hc=> ?_,fun hc=>h2 (by omega)⟩
 have hlt:i<n:=by omega
 have hw:i64.wrap ((i:Int)+1)=((i+1:Nat):Int):=by rw [w64 (by omega)];omega
 have hl:=(hO.h i hlt).name
 unfold isN at h1 h3
 exact ⟨by omega,⟨hl,hx⟩,fun k1=>⟨by omega,h3 hlt k1⟩,fun k1=>⟨hw,h1 hlt k1⟩⟩
def Qj (L:List Ze):Nat->Int
 | 0=>0
 | i+1=>Qj L i+amC L i
def rmS (L:List Ze) (n i:Nat) (z:Int):St:=⟨28,[(4,.int .i64 i),(0,.vrows 170 n (stR L) n),(3,.int .i64 z)],⟨0,[]⟩,[]⟩
def rmE (z:Int):St:=⟨28,[(3,.int .i64 z)],⟨0,[]⟩,[]⟩
theorem Zjz (L:List Ze) (n i:Nat) (z z':Int) (Z1 Z2:Prop) (hn:n<=64) (hi:i<=n) (hz:0<=z/\z<=90000000000000000) (ha:i<n->0<=amC L i/\amC L i<=1125899906842624) (hz':z'=z+amC L i) (h1:i<n->Z1) (h2:i=n->Z2):
  Zz G0 20 61 0 0 (rmS L n i z) (rdM 0 0 9 (rmS L n (i+1) z') (rmE z) rpE rpE Z1 Z2 False False):=by
 refine @Eq.mpr _ (let b:=decide (0<=(↑i:Int)/\(↑i:Int)<(↑n:Int));let a:=decide (n=n);
 Z6 (decide ((↑i:Int)<(↑n:Int))) (Z0 b (Z0 b (Z5 (wrap i64 ((↑i:Int)+1)=(↑(i+1):Int)) (Z0 a (stR L=stR L/\Z0 a (Z5 (wrap i64 (z+(List.getD L (Int.toNat (↑i:Int)) Zn).out.amount)=z') Z1)))))) (Z5 (z=z) Z2)) (by kernel_rfl) ?_
 conv=>zeta
 try simp only [vcA]
 try simp only [vcB]
 try simp only [vcC]
 refine ⟨fun hc=> ?_,fun hc=>h2 (by omega)⟩
 have hlt:i<n:=by omega
 have hw:i64.wrap ((i:Int)+1)=((i+1:Nat):Int):=by rw [w64 (by omega)];omega
 have ha:=ha hlt
 unfold amC at ha hz'
 exact ⟨by omega,by omega,hw,by rw [w64 (by omega)];exact hz'.symm,h1 hlt⟩
theorem Z8X {L:List Ze} {n:Nat} (ha:∀j,j<n->0<=amC L j/\amC L j<=1125899906842624):∀i,i<=n->0<=Qj L i/\Qj L i<=i*1125899906842624
 | 0,_=>by simp [Qj]
 | i+1,h=>by
  have h1:=Z8X ha i (by omega)
  have h2:=ha i (by omega)
  unfold Qj
  omega
noncomputable def ZcP (L:List Ze) (n:Nat) (x:LI) (ix:Int):Zd:=G0.withL 102 0 (goM 0 (rcS L n x ix 0) (n<1000/\Zw L n/\x.length=32) (Y9 0 n 9 (fun i=>isK L x ix i=false) (fun i=>i=n) (fun i=>i<n/\isK L x ix i=true) (fun _=>False) (fun _=>rcE) (fun i=>rcR L i) (fun _=>rcE)))
theorem Z6d (L:List Ze) (n:Nat) (x:LI) (ix:Int):(ZcP L n x ix).Ok:=
 Zd.withGoM (N:=20) (k:=0) (n:=n) (l:=9) (S:=fun i=>rcS L n x ix i) Zt (by kernel_rfl) fun hC=>⟨rfl,fun i hi _=>Zjw L n x ix i _ _ _ hC.1 hi hC.2.1 hC.2.2 (fun h1 h2=>⟨h2,h1⟩) (fun h=>h) fun h1 h2=>⟨h1,h2⟩⟩
theorem ZjA (L:List Ze) (n:Nat) (x:LI) (ix:Int) (j:Nat) (hn:n<1000) (hO:Zw L n) (hx:x.length=32) (hj:j<n) (hk:isK L x ix j=true) (hb:∀i,i<j->isK L x ix i=false):
  evF (ZcP L n x ix) 20 102 [.vrows 170 n (stR L) n,.agg [.arr .u8 32 x],.int .i64 ix] ⟨0,[]⟩ (Xf (fun v=>v=.tuple [.agg (ouC L j),.int .i64 0,.bool true])):=by
 refine @Eq.mpr _ (let f:=decide (n=n);let b:=AV.int i64 0;let c:=AV.arr u8 32 Z7;let e:=[b,AV.bool true];let d:=AV.tuple (AV.agg (ouC L j)::e);
 Z0 f (stR L=stR L/\
 Z0 f (Z5 (ix=ix) (Z7=Z7/\
 Z7=Z7/\
 Z7=Z7/\
 Z7=Z7/\
 x=x/\
 (n<1000/\Zw L n/\x.length=32)/\
 ∀(i:Nat),
 let a:=(List.getD L i Zn).out;
 i<=n->(∀(j:Nat),j<i->(fun (i:Nat)=>isK L x ix i=false) j)->(i=n->AV.tuple [AV.agg [b,b,c,c,c,c,b,b],b,AV.bool false]=d)/\(i<n/\isK L x ix i=true->AV.tuple (AV.agg [AV.int i64 a.kind,AV.int i64 a.amount,AV.arr u8 32 a.owner,AV.arr u8 32 a.other,AV.arr u8 32 a.point,AV.arr u8 32 a.hash,AV.int i64 a.delay,AV.int i64 a.expiry]::e)=d)/\(False->False))))) (by kernel_rfl) ?_
 conv=>zeta
 try simp only [vcA]
 try simp only [vcB]
 try simp only [vcC]
 refine ⟨⟨hn,hO,hx⟩,fun i hi hg=>⟨fun e=> ?_,fun e=> ?_,fun h=>h⟩⟩
 ·have:=hg j (by omega)
  rw [hk] at this
  cases this
 ·have:i=j:=by
   rcases Nat.lt_trichotomy i j with h|h|h
   ·have:=hb i h
    rw [e.2] at this
    cases this
   ·exact h
   ·have:=hg j h
    rw [hk] at this
    cases this
  subst this
  rfl
theorem ZjB (L:List Ze) (n:Nat) (x:LI) (ix:Int) (hn:n<1000) (hO:Zw L n) (hx:x.length=32) (hb:∀i,i<n->isK L x ix i=false):
  evF (ZcP L n x ix) 20 102 [.vrows 170 n (stR L) n,.agg [.arr .u8 32 x],.int .i64 ix] ⟨0,[]⟩ (Xf (fun v=>v=.tuple [.agg ZcO,.int .i64 0,.bool false])):=by
 refine @Eq.mpr _ (let f:=decide (n=n);let b:=AV.int i64 0;let c:=AV.arr u8 32 Z7;let e:=[b,AV.bool false];let d:=AV.tuple (AV.agg ZcO::e);
 Z0 f (stR L=stR L/\
 Z0 f (Z5 (ix=ix) (Z7=Z7/\
 Z7=Z7/\
 Z7=Z7/\
 Z7=Z7/\
 x=x/\
 (n<1000/\Zw L n/\x.length=32)/\
 ∀(i:Nat),
 let a:=(List.getD L i Zn).out;
 i<=n->(∀(j:Nat),j<i->(fun (i:Nat)=>isK L x ix i=false) j)->(i=n->AV.tuple (AV.agg [b,b,c,c,c,c,b,b]::e)=d)/\(i<n/\isK L x ix i=true->AV.tuple [AV.agg [AV.int i64 a.kind,AV.int i64 a.amount,AV.arr u8 32 a.owner,AV.arr u8 32 a.other,AV.arr u8 32 a.point,AV.arr u8 32 a.hash,AV.int i64 a.delay,AV.int i64 a.expiry],b,AV.bool true]=d)/\(False->False))))) (by kernel_rfl) ?_
 conv=>zeta
 try simp only [vcA]
 try simp only [vcB]
 try simp only [vcC]
 refine ⟨⟨hn,hO,hx⟩,fun i hi hg=>⟨fun e=>rfl,fun e=> ?_,fun h=>h⟩⟩
 have:=hb i e.1
 rw [e.2] at this
 cases this
noncomputable def Zfm (L:List Ze) (n:Nat) (x:LI) (ix:Int):Zd:=G0.withL 103 0 (goM 0 (rsS L n x ix 0) (n<1000/\Zw L n/\x.length=32) (Y9 0 n 9 (fun i=>i<n) (fun i=>i=n) (fun _=>False) (fun _=>False) (fun _=>rsE) (fun _=>rsE) (fun _=>rsE)))
theorem ZcQ (L:List Ze) (n:Nat) (x:LI) (ix:Int):(Zfm L n x ix).Ok:=
 Zd.withGoM (N:=20) (k:=0) (n:=n) (l:=9) (S:=fun i=>rsS L n x ix i) Zt (by kernel_rfl) fun hC=>⟨rfl,fun i hi _=>Zjx L n x ix i _ _ hC.1 hi hC.2.1 hC.2.2 (fun h1=>⟨h1,h1⟩) fun h=>h⟩
theorem ZjC (L:List Ze) (n:Nat) (x:LI) (ix:Int) (hn:n<1000) (hO:Zw L n) (hx:x.length=32):
  evF (Zfm L n x ix) 20 103 [.vrows 170 n (stR L) n,.agg [.arr .u8 32 x],.int .i64 ix] ⟨0,[]⟩ (Xf (fun v=>v=.tuple [.agg pl0,.bool false])):=by
 refine @Eq.mpr _ (let b:=decide (n=n);let a:=[AV.bool false];
 Z0 b (stR L=stR L/\Z0 b (Z5 (ix=ix) (x=x/\(n<1000/\Zw L n/\x.length=32)/\∀(i:Nat),i<=n->(∀(j:Nat),j<i->(fun (i:Nat)=>i<n) j)->(i=n->AV.tuple (AV.agg [AV.int i64 0,AV.int i64 0,AV.nilslice,AV.nilslice]::a)=AV.tuple (AV.agg pl0::a))/\(False->False)/\(False->False))))) (by kernel_rfl) ?_
 conv=>zeta
 try simp only [vcA]
 try simp only [vcB]
 try simp only [vcC]
 exact ⟨⟨hn,hO,hx⟩,fun i hi hg=>⟨fun e=>rfl,fun h=>h,fun h=>h⟩⟩
noncomputable def ZcR (L:List Ze) (n:Nat) (x:LI):Zd:=G0.withL 104 0 (goM 0 (rpS L n x 0) (n<1000/\Zw L n/\x.length=32) (Y9 0 n 9 (fun i=>isN L x i=false) (fun i=>i=n) (fun i=>i<n/\isN L x i=true) (fun _=>False) (fun _=>rpE) (fun _=>rpR) (fun _=>rpE)))
theorem Z6e (L:List Ze) (n:Nat) (x:LI):(ZcR L n x).Ok:=
 Zd.withGoM (N:=20) (k:=0) (n:=n) (l:=9) (S:=fun i=>rpS L n x i) Zt (by kernel_rfl) fun hC=>⟨rfl,fun i hi _=>Zjy L n x i _ _ _ hC.1 hi hC.2.1 hC.2.2 (fun h1 h2=>⟨h2,h1⟩) (fun h=>h) fun h1 h2=>⟨h1,h2⟩⟩
theorem ZjD (L:List Ze) (n:Nat) (x:LI) (j:Nat) (hn:n<1000) (hO:Zw L n) (hx:x.length=32) (hj:j<n) (hk:isN L x j=true):
  evF (ZcR L n x) 20 104 [.vrows 170 n (stR L) n,.int .i64 0,.agg [.arr .u8 32 x]] ⟨0,[]⟩ (Xf (fun v=>v=.tuple [.int .i64 1,.bool true])):=by
 refine @Eq.mpr _ (let b:=decide (n=n);let a:=AV.tuple [AV.int i64 1,AV.bool true];
 Z0 b (stR L=stR L/\Z0 b (x=x/\(n<1000/\Zw L n/\x.length=32)/\∀(i:Nat),i<=n->(∀(j:Nat),j<i->(fun (i:Nat)=>isN L x i=false) j)->(i=n->AV.tuple [AV.int i64 0,AV.bool false]=a)/\(i<n/\isN L x i=true->a=a)/\(False->False)))) (by kernel_rfl) ?_
 conv=>zeta
 try simp only [vcA]
 try simp only [vcB]
 try simp only [vcC]
 refine ⟨⟨hn,hO,hx⟩,fun i hi hg=>⟨fun e=> ?_,fun _=>trivial,fun h=>h⟩⟩
 have:=hg j (by omega)
 rw [hk] at this
 cases this
theorem ZjE (L:List Ze) (n:Nat) (x:LI) (hn:n<1000) (hO:Zw L n) (hx:x.length=32) (hb:∀i,i<n->isN L x i=false):
  evF (ZcR L n x) 20 104 [.vrows 170 n (stR L) n,.int .i64 0,.agg [.arr .u8 32 x]] ⟨0,[]⟩ (Xf (fun v=>v=.tuple [.int .i64 0,.bool false])):=by
 refine @Eq.mpr _ (let b:=decide (n=n);let a:=AV.tuple [AV.int i64 0,AV.bool false];
 Z0 b (stR L=stR L/\Z0 b (x=x/\(n<1000/\Zw L n/\x.length=32)/\∀(i:Nat),i<=n->(∀(j:Nat),j<i->(fun (i:Nat)=>isN L x i=false) j)->(i=n->a=a)/\(i<n/\isN L x i=true->AV.tuple [AV.int i64 1,AV.bool true]=a)/\(False->False)))) (by kernel_rfl) ?_
 conv=>zeta
 try simp only [vcA]
 try simp only [vcB]
 try simp only [vcC]
 refine ⟨⟨hn,hO,hx⟩,fun i hi hg=>⟨fun e=>trivial,fun e=> ?_,fun h=>h⟩⟩
 have:=hb i e.1
 rw [e.2] at this
 cases this
noncomputable def Zfn (L:List Ze) (n:Nat):Zd:=G0.withL 61 0 (goM 0 (rmS L n 0 0) (n<=64/\∀j,j<n->0<=amC L j/\amC L j<=1125899906842624) (Y9 0 n 9 (fun i=>i<n) (fun i=>i=n) (fun _=>False) (fun _=>False) (fun i=>rmE (Qj L i)) (fun _=>rpE) (fun _=>rpE)))
theorem ZcS (L:List Ze) (n:Nat):(Zfn L n).Ok:=
 Zd.withGoM (N:=20) (k:=0) (n:=n) (l:=9) (S:=fun i=>rmS L n i (Qj L i)) Zt (by kernel_rfl) fun hC=>⟨rfl,fun i hi _=>by
  have h:=Z8X hC.2 i hi
  exact Zjz L n i _ _ _ _ hC.1 hi (by omega) (fun h=>hC.2 i h) rfl (fun h1=>⟨h1,h1⟩) fun h=>h⟩
theorem ZjF (L:List Ze) (n:Nat) (z:Int) (hn:n<=64) (ha:∀j,j<n->0<=amC L j/\amC L j<=1125899906842624) (hz:z=Qj L n):
  evF (Zfn L n) 20 61 [.vrows 170 n (stR L) n] ⟨0,[]⟩ (Xf (fun v=>v=.int .i64 z)):=by
 refine @Eq.mpr _ (let a:=decide (n=n);
 Z0 a (stR L=stR L/\Z0 a ((n<=64/\∀(j:Nat),j<n->0<=amC L j/\amC L j<=1125899906842624)/\∀(i:Nat),i<=n->(∀(j:Nat),j<i->(fun (i:Nat)=>i<n) j)->(i=n->AV.int i64 (Qj L i)=AV.int i64 z)/\(False->False)/\(False->False)))) (by kernel_rfl) ?_
 conv=>zeta
 try simp only [vcA]
 try simp only [vcB]
 try simp only [vcC]
 refine ⟨⟨hn,ha⟩,fun i hi hg=>⟨fun e=> ?_,fun h=>h,fun h=>h⟩⟩
 rw [e,hz]
inductive Qk (f:Nat->List AV) (L:List Ze) (n:Nat):Prop
 | mk:(∀i,i<n->f i=stR L i)->Qk f L n
structure QY (L:List Ze) (n:Nat) (x:LI):Prop where
 hn:n<1000
 ho:Zw L n
 hx:x.length=32
def ZcT (L:List Ze) (J:Option Nat):ZM:=fun args h K=>ZL none h true 60 args fun a=>match a with
 | [l,.agg [.arr .u8 32 x],.int .i64 ix]=>YK 170 l fun n f=>Qk f L n/\QY L n x/\(match J with
  | some j=>(j<n/\isK L x ix j=true/\∀i,i<j->isK L x ix i=false)/\K (.tuple [.agg (ouC L j),.int .i64 0,.bool true])
  | none=>(∀i,i<n->isK L x ix i=false)/\K (.tuple [.agg ZcO,.int .i64 0,.bool false]))
 | _=>False
theorem Zal (L:List Ze) (J:Option Nat) (args:List AV) (h:Z8) (K:AV->Prop) (hl:ZcT L J args h K):Zf PP 102 args h fun o h'=>∃v,o=.ret v/\h'=h/\K v:=by
 refine Zv.psumm (d:=60) (Zi _ _ _ _ _ hl fun a ha=> ?_)
 split at ha
 ·obtain ⟨n,f,ha,h1,h2⟩:=ZX ha
  obtain ⟨⟨hf⟩,⟨q1,q2,q3⟩,hK⟩:=ha
  cases J with
  | some j=>exact ⟨_,(Zv.evW (Z6d L n _ _) (ZjA L n _ _ j q1 q2 q3 hK.1.1 hK.1.2.1 hK.1.2.2)).conv fun E r hr=>hr.head (fun _ hc=>(h2 E _ hc).rowsC hf) fun _ hc=>hc,fun _=>rfl,hK.2⟩
  | none=>exact ⟨_,(Zv.evW (Z6d L n _ _) (ZjB L n _ _ q1 q2 q3 hK.1)).conv fun E r hr=>hr.head (fun _ hc=>(h2 E _ hc).rowsC hf) fun _ hc=>hc,fun _=>rfl,hK.2⟩
 ·exact ha.elim
def ZcU (L:List Ze):ZM:=fun args h K=>ZL none h true 60 args fun a=>match a with
 | [l,.agg [.arr .u8 32 x],.int .i64 ix]=>YK 170 l fun n f=>Qk f L n/\QY L n x/\K (.tuple [.agg pl0,.bool false])
 | _=>False
theorem Zam (L:List Ze) (args:List AV) (h:Z8) (K:AV->Prop) (hl:ZcU L args h K):Zf PP 103 args h fun o h'=>∃v,o=.ret v/\h'=h/\K v:=by
 refine Zv.psumm (d:=60) (Zi _ _ _ _ _ hl fun a ha=> ?_)
 split at ha
 ·obtain ⟨n,f,ha,h1,h2⟩:=ZX ha
  obtain ⟨⟨hf⟩,⟨q1,q2,q3⟩,hK⟩:=ha
  exact ⟨_,(Zv.evW (ZcQ L n _ _) (ZjC L n _ _ q1 q2 q3)).conv fun E r hr=>hr.head (fun _ hc=>(h2 E _ hc).rowsC hf) fun _ hc=>hc,fun _=>rfl,hK⟩
 ·exact ha.elim
def ZcV (L:List Ze) (J:Option Nat):ZM:=fun args h K=>ZL none h true 60 args fun a=>match a with
 | [l,.int .i64 z,.agg [.arr .u8 32 x]]=>YK 170 l fun n f=>z=0/\Qk f L n/\QY L n x/\(match J with
  | some j=>(j<n/\isN L x j=true)/\K (.tuple [.int .i64 1,.bool true])
  | none=>(∀i,i<n->isN L x i=false)/\K (.tuple [.int .i64 0,.bool false]))
 | _=>False
theorem Zan (L:List Ze) (J:Option Nat) (args:List AV) (h:Z8) (K:AV->Prop) (hl:ZcV L J args h K):Zf PP 104 args h fun o h'=>∃v,o=.ret v/\h'=h/\K v:=by
 refine Zv.psumm (d:=60) (Zi _ _ _ _ _ hl fun a ha=> ?_)
 split at ha
 ·obtain ⟨n,f,ha,h1,h2⟩:=ZX ha
  obtain ⟨rfl,⟨hf⟩,⟨q1,q2,q3⟩,hK⟩:=ha
  cases J with
  | some j=>exact ⟨_,(Zv.evW (Z6e L n _) (ZjD L n _ j q1 q2 q3 hK.1.1 hK.1.2)).conv fun E r hr=>hr.head (fun _ hc=>(h2 E _ hc).rowsC hf) fun _ hc=>hc,fun _=>rfl,hK.2⟩
  | none=>exact ⟨_,(Zv.evW (Z6e L n _) (ZjE L n _ q1 q2 q3 hK.1)).conv fun E r hr=>hr.head (fun _ hc=>(h2 E _ hc).rowsC hf) fun _ hc=>hc,fun _=>rfl,hK.2⟩
 ·exact ha.elim
def Z8Y (L:List Ze):ZM:=fun args h K=>ZL none h true 60 args fun a=>match a with
 | [l]=>YK 170 l fun n f=>Qk f L n/\(n<=64/\∀j,j<n->0<=amC L j/\amC L j<=1125899906842624)/\K (.int .i64 (Qj L n))
 | _=>False
theorem Z7N (L:List Ze) (args:List AV) (h:Z8) (K:AV->Prop) (hl:Z8Y L args h K):Zf PP 61 args h fun o h'=>∃v,o=.ret v/\h'=h/\K v:=by
 refine Zv.psumm (d:=60) (Zi _ _ _ _ _ hl fun a ha=> ?_)
 split at ha
 ·obtain ⟨n,f,ha,h1,h2⟩:=ZX ha
  obtain ⟨⟨hf⟩,⟨q1,q2⟩,hK⟩:=ha
  exact ⟨_,(Zv.evW (ZcS L n) (ZjF L n _ q1 q2 rfl)).conv fun E r hr=>hr.head (fun _ hc=>(h2 E _ hc).rowsC hf) fun _ hc=>hc,fun _=>rfl,hK⟩
 ·exact ha.elim
def chC (n:Nat):List AV:=[.map (some 1),.map (some 2),.nslice ⟨3,0,165,0,0⟩ 165 n n,.arr .u8 32 Z7,.int .i64 0,.nilslice,.int .i64 0]
def chO (L:List Ze) (n:Nat):List (Nat×Blk):=[(0,.flat (chC n)),(1,.fmap n (Yl L) (stV L)),(2,.fmap (plI L n).length (plC L (plI L n)) plW),(3,.rows 165 n (Zo L))]
noncomputable def ZeU (L:List Ze) (J D:Option Nat):Zd:=((G0.withP 102 (ZcT L J)).withP 103 (ZcU L)).withP 104 (ZcV L D)
theorem Z51 (L:List Ze) (J D:Option Nat):(ZeU L J D).Ok:=Zd.withP_ok (Zd.withP_ok (Zd.withP_ok Zt (Zal L J)) (Zam L)) (Zan L D)
theorem ZeV (L:List Ze) (x:LI) (ix:Int) (i:Nat):ZJ (.agg [.arr .u8 32 x,.int .i64 ix]) (Yl L i)=isK L x ix i:=by
 unfold isK
 rw [JX]
 simp only [Yl,ZJ,Wx,VK,decide_true,Jf,Bool.true_and,Bool.and_true,J1,beq_iff_eq]
 exact ⟨fun h=>⟨h.1.symm,h.2.symm⟩,fun h=>⟨h.1.symm,h.2.symm⟩⟩
structure ZeW (L:List Ze) (n:Nat) (x:LI) (ix:Int) (b d:Bool) (j:Nat):Prop where
 ka:Yz PP 88 (.agg [.arr .u8 32 x,.int .i64 ix]) n (Yl L)
 pa:Yz PP 24 (.agg [.arr .u8 32 x]) (plI L n).length (plC L (plI L n))
 f:Zy (fun i=>ZJ (.agg [.arr .u8 32 x,.int .i64 ix]) (.agg [.arr .u8 32 (L.getD i Zn).name,.int .i64 (L.getD i Zn).index])) n=j
 fb:Nat.blt j n=b
 p:Nat.blt (Zy (fun i=>ZJ (.agg [.arr .u8 32 x]) (.agg [.arr .u8 32 (L.getD ((plI L n).getD i 0) Zn).name])) (plI L n).length) (plI L n).length=d
theorem ZjG {n:Nat} {x:LI} {ix:Int} (hk:QY L n x):ZeW L n x ix (Nat.blt (Zy (isK L x ix) n) n) ((List.range n).any (isN L x)) (Zy (isK L x ix) n) where
 ka:=⟨fun i hi=>Ziw _ _ _ _ hk.hx (hk.ho.h i hi).name⟩
 pa:=Zfj hk.ho hk.hx fun j hj=>Z4Z L n j hj
 f:=by
  have:(fun i=>ZJ (.agg [.arr .u8 32 x,.int .i64 ix]) (Yl L i))=isK L x ix:=funext fun i=>ZeV L x ix i
  exact congrArg (fun q=>Zy q n) this
 fb:=rfl
 p:=by
  refine (Zcw L (plI L n) x).trans ((Z8Q L x n).trans ?_)
  congr 1
  funext i
  unfold isN
  rw [JX,beq_iff_eq,beq_iff_eq]
  exact ⟨fun h=>h.symm,fun h=>h.symm⟩
theorem Z7O (L:List Ze) (n k:Nat) (τ:Ren):ZC k τ n (Yl L) (stV L) (Yl L) (stV L)/\ZC k τ (plI L n).length (plC L (plI L n)) plW (plC L (plI L n)) plW/\ZD k τ n (Zo L) (Zo L):=
 ⟨Z2G fun _ _=>⟨rfl,rfl⟩,QT fun _ _=>⟨rfl,rfl⟩,Wr fun _ _=>rfl⟩
theorem ZjH (L:List Ze) (n:Nat) (x:LI) (ix:Int) (j d:Nat) (hk:QY L n x) (hA:ZeW L n x ix true true j) (hj:j<n) (hd:d<n/\isN L x d=true) (hJ:isK L x ix j=true/\∀i,i<j->isK L x ix i=false):
  evF (ZeU L (some j) (some d)) 40 62 [pt 0,.vrows 170 n (stR L) n,.int .i64 0,.agg [.arr .u8 32 x],.int .i64 ix] ⟨4,chO L n⟩ (YU 4 (.ret (.bool true)) 4 (chO L n)):=by
 refine @Eq.mpr _ (let T:=AV.arr u8 (32:Nat) x;let N:=AV.agg [T,AV.int i64 ix];let r:=Yl L;let p:=Yz PP (88:Nat) N n r;let v:=Zy (fun (i:Nat)=>ZJ N (AV.agg [AV.arr u8 (32:Nat) (List.getD L i Zn).name,AV.int i64 (List.getD L i Zn).index])) n;let o:=Nat.blt v n;let f:=decide ((170:Nat)=(170:Nat)/\n=n);let e:=Qk (stR L) L n;let c:=QY L n x;let S:=j<n/\isK L x ix j=true/\∀(i:Nat),i<j->isK L x ix i=false;let R:=AV.agg [T];let u:=plI L n;let g:=u.length;let t:=plC L u;let Q:=Yz PP (24:Nat) R g t;let P:=Nat.blt (Zy (fun (i:Nat)=>ZJ R (AV.agg [AV.arr u8 (32:Nat) (List.getD L (List.getD u i (0:Nat)) Zn).name])) g) g;let s:=d<n/\isN L x d=true;let b:=(List.getD L v Zn).out;let O:=b.owner;let a:=(List.getD L j Zn).out;let m:=a.owner;let M:=decide (O.length=(32:Nat)/\m.length=(32:Nat));let K:=b.other;let l:=a.other;let J:=decide (K.length=(32:Nat)/\l.length=(32:Nat));let I:=b.point;let k:=a.point;let H:=decide (I.length=(32:Nat)/\k.length=(32:Nat));let G:=b.hash;let h:=a.hash;let F:=decide (G.length=(32:Nat)/\h.length=(32:Nat));let E:=a.kind;let D:=a.amount;let C:=a.delay;let B:=a.expiry;let A:=b.kind==E&&(b.amount==D&&(O==m&&(K==l&&(I==k&&(G==h&&(b.delay==C&&b.expiry==B))))));let q:=decide (n=n);let z:=Z0 f (e/\c/\Q/\Z6 P (Z0 f ((0:Int)=(0:Int)/\e/\c/\s/\Z0 M (Z0 J (Z0 H (Z0 F (Z0 A (Z0 q (Z5 (n<=n) (Z7=Z7/\Z0 q (ZC (4:Nat) [] n r (stV L) r (stV L)/\Z5 (g=g) (ZC (4:Nat) [] g t plW t plW/\Z0 q (ZD (4:Nat) [] n (Zo L) (Zo L)/\True)))))))))))) (Z0 f ((0:Int)=(0:Int)/\e/\c/\s/\Z0 M (Z0 J (Z0 H (Z0 F (Z6 A False False)))))));let y:=Z0 f ((0:Int)=(0:Int)/\e/\c/\s/\Z5 ((32:Nat)=(32:Nat)/\m.length=(32:Nat)) (Z5 ((32:Nat)=(32:Nat)/\l.length=(32:Nat)) (Z5 ((32:Nat)=(32:Nat)/\k.length=(32:Nat)) (Z5 ((32:Nat)=(32:Nat)/\h.length=(32:Nat)) (Z6 ((0:Int)==E&&((0:Int)==D&&(Z7==m&&(Z7==l&&(Z7==k&&(Z7==h&&((0:Int)==C&&(0:Int)==B))))))) False False)))));let w:=Z0 f (e/\c/\Q/\Z6 P y y);
 p/\Z6 o (Z0 f (e/\c/\S/\p/\Z6 o z z)) (Z0 f (e/\c/\S/\p/\Z6 o w w))) (by kernel_rfl) ?_
 conv=>zeta
 try simp only [vcA]
 try simp only [vcB]
 try simp only [vcC]
 have hst:Qk (stR L) L n:=⟨fun _ _=>rfl⟩
 obtain ⟨⟨o1,o2,o3,o4⟩⟩:∃_:(L.getD j Zn).out.Ok,True:=⟨(hk.ho.h j hj).out,trivial⟩
 obtain ⟨e1,e2,e3⟩:=Z7O L n 4 []
 simp only [hA.f,hA.fb,hA.p,hA.ka,hA.pa,hst,hk,o1,o2,o3,o4,e1,e2,e3,hj,hJ.1,hd,beq_self_eq_true,Bool.and_self,reduceCtorEq,false_implies,true_implies,forall_const,and_self,and_true,true_and,implies_true]
 exact hJ.2
theorem ZjI (L:List Ze) (n:Nat) (x:LI) (ix:Int) (j d:Nat) (hk:QY L n x) (hA:ZeW L n x ix false true j) (hd:d<n/\isN L x d=true) (hJ:∀i,i<n->isK L x ix i=false):
  evF (ZeU L none (some d)) 40 62 [pt 0,.vrows 170 n (stR L) n,.int .i64 0,.agg [.arr .u8 32 x],.int .i64 ix] ⟨4,chO L n⟩ (YU 4 (.ret (.bool true)) 4 (chO L n)):=by
 refine @Eq.mpr _ (let C:=AV.arr u8 (32:Nat) x;let v:=AV.agg [C,AV.int i64 ix];let j:=Yl L;let h:=Yz PP (88:Nat) v n j;let p:=Zy (fun (i:Nat)=>ZJ v (AV.agg [AV.arr u8 (32:Nat) (List.getD L i Zn).name,AV.int i64 (List.getD L i Zn).index])) n;let g:=Nat.blt p n;let e:=decide ((170:Nat)=(170:Nat)/\n=n);let c:=Qk (stR L) L n;let b:=QY L n x;let B:=AV.agg [C];let o:=plI L n;let f:=o.length;let m:=plC L o;let A:=Yz PP (24:Nat) B f m;let z:=Nat.blt (Zy (fun (i:Nat)=>ZJ B (AV.agg [AV.arr u8 (32:Nat) (List.getD L (List.getD o i (0:Nat)) Zn).name])) f) f;let l:=d<n/\isN L x d=true;let a:=(List.getD L p Zn).out;let y:=a.owner;let w:=a.other;let u:=a.point;let t:=a.hash;let s:=Z0 e ((0:Int)=(0:Int)/\c/\b/\l/\Z5 (y.length=(32:Nat)/\(32:Nat)=(32:Nat)) (Z5 (w.length=(32:Nat)/\(32:Nat)=(32:Nat)) (Z5 (u.length=(32:Nat)/\(32:Nat)=(32:Nat)) (Z5 (t.length=(32:Nat)/\(32:Nat)=(32:Nat)) (Z6 (a.kind==(0:Int)&&(a.amount==(0:Int)&&(y==Z7&&(w==Z7&&(u==Z7&&(t==Z7&&(a.delay==(0:Int)&&a.expiry==(0:Int)))))))) False False)))));let r:=Z0 e (c/\b/\A/\Z6 z s s);let k:=decide (n=n);let q:=Z0 e (c/\b/\A/\Z6 z (Z0 e ((0:Int)=(0:Int)/\c/\b/\l/\Z0 k (Z5 (n<=n) (Z7=Z7/\Z0 k (ZC (4:Nat) [] n j (stV L) j (stV L)/\Z5 (f=f) (ZC (4:Nat) [] f m plW m plW/\Z0 k (ZD (4:Nat) [] n (Zo L) (Zo L)/\True))))))) (Z0 e ((0:Int)=(0:Int)/\c/\b/\l/\False)));
 h/\Z6 g (Z0 e (c/\b/\(∀(i:Nat),i<n->isK L x ix i=false)/\h/\Z6 g r r)) (Z0 e (c/\b/\(∀(i:Nat),i<n->isK L x ix i=false)/\h/\Z6 g q q))) (by kernel_rfl) ?_
 conv=>zeta
 try simp only [vcA]
 try simp only [vcB]
 try simp only [vcC]
 have hst:Qk (stR L) L n:=⟨fun _ _=>rfl⟩
 obtain ⟨e1,e2,e3⟩:=Z7O L n 4 []
 simp only [hA.f,hA.fb,hA.p,hA.ka,hA.pa,hst,hk,e1,e2,e3,hd,beq_self_eq_true,Bool.and_self,reduceCtorEq,false_implies,true_implies,forall_const,and_self,and_true,true_and,implies_true]
 exact hJ
theorem ZjJ (L:List Ze) (n:Nat) (x:LI) (ix:Int) (j:Nat) (hk:QY L n x) (hA:ZeW L n x ix false false j) (hD:∀i,i<n->isN L x i=false) (hJ:∀i,i<n->isK L x ix i=false):
  evF (ZeU L none none) 40 62 [pt 0,.vrows 170 n (stR L) n,.int .i64 0,.agg [.arr .u8 32 x],.int .i64 ix] ⟨4,chO L n⟩ (YU 4 (.ret (.bool true)) 4 (chO L n)):=by
 refine @Eq.mpr _ (let A:=AV.arr u8 (32:Nat) x;let s:=AV.agg [A,AV.int i64 ix];let h:=Yl L;let g:=Yz PP (88:Nat) s n h;let m:=Zy (fun (i:Nat)=>ZJ s (AV.agg [AV.arr u8 (32:Nat) (List.getD L i Zn).name,AV.int i64 (List.getD L i Zn).index])) n;let f:=Nat.blt m n;let d:=decide ((170:Nat)=(170:Nat)/\n=n);let c:=Qk (stR L) L n;let b:=QY L n x;let z:=AV.agg [A];let l:=plI L n;let e:=l.length;let k:=plC L l;let y:=Yz PP (24:Nat) z e k;let w:=Nat.blt (Zy (fun (i:Nat)=>ZJ z (AV.agg [AV.arr u8 (32:Nat) (List.getD L (List.getD l i (0:Nat)) Zn).name])) e) e;let a:=(List.getD L m Zn).out;let v:=a.owner;let u:=a.other;let t:=a.point;let r:=a.hash;let q:=Z0 d ((0:Int)=(0:Int)/\c/\b/\(∀(i:Nat),i<n->isN L x i=false)/\Z5 (v.length=(32:Nat)/\(32:Nat)=(32:Nat)) (Z5 (u.length=(32:Nat)/\(32:Nat)=(32:Nat)) (Z5 (t.length=(32:Nat)/\(32:Nat)=(32:Nat)) (Z5 (r.length=(32:Nat)/\(32:Nat)=(32:Nat)) (Z6 (a.kind==(0:Int)&&(a.amount==(0:Int)&&(v==Z7&&(u==Z7&&(t==Z7&&(r==Z7&&(a.delay==(0:Int)&&a.expiry==(0:Int)))))))) False False)))));let p:=Z0 d (c/\b/\y/\Z6 w q q);let j:=decide (n=n);let o:=Z0 d (c/\b/\y/\Z6 w (Z0 d ((0:Int)=(0:Int)/\c/\b/\(∀(i:Nat),i<n->isN L x i=false)/\False)) (Z0 d ((0:Int)=(0:Int)/\c/\b/\(∀(i:Nat),i<n->isN L x i=false)/\Z0 j (Z5 (n<=n) (Z7=Z7/\Z0 j (ZC (4:Nat) [] n h (stV L) h (stV L)/\Z5 (e=e) (ZC (4:Nat) [] e k plW k plW/\Z0 j (ZD (4:Nat) [] n (Zo L) (Zo L)/\True))))))));
 g/\Z6 f (Z0 d (c/\b/\(∀(i:Nat),i<n->isK L x ix i=false)/\g/\Z6 f p p)) (Z0 d (c/\b/\(∀(i:Nat),i<n->isK L x ix i=false)/\g/\Z6 f o o))) (by kernel_rfl) ?_
 conv=>zeta
 try simp only [vcA]
 try simp only [vcB]
 try simp only [vcC]
 have hst:Qk (stR L) L n:=⟨fun _ _=>rfl⟩
 obtain ⟨e1,e2,e3⟩:=Z7O L n 4 []
 simp only [hA.f,hA.fb,hA.p,hA.ka,hA.pa,hst,hk,e1,e2,e3,beq_self_eq_true,Bool.and_self,reduceCtorEq,false_implies,true_implies,forall_const,and_self,and_true,true_and,implies_true]
 exact ⟨hJ,hD⟩
structure Z3Z (L:List Ze) (n:Nat) (cs:List AV) (m1:Nat) (k1 v1:Nat->AV) (m2:Nat) (k2 v2:Nat->AV) (m3:Nat) (f:Nat->List AV):Prop where
 c:cs=chC n
 a:m1=n/\k1=Yl L/\v1=stV L
 b:m2=(plI L n).length/\k2=plC L (plI L n)/\v2=plW
 d:m3=n/\f=Zo L
def Z8Z (L:List Ze) (n:Nat) (h:Z8) (c o p l:Nat):List (Nat×Blk):=(c,.flat [.map (some o),.map (some p),.nslice ⟨l,0,165,0,0⟩ 165 n n,.arr .u8 32 Z7,.int .i64 0,.nilslice,.int .i64 0])::(o,.fmap n (Yl L) (stV L))::(p,.fmap (plI L n).length (plC L (plI L n)) plW)::(l,.rows 165 n (Zo L))::WM (WM (WM (WM h.bs c) o) p) l
def ZcW (L:List Ze) (n:Nat) (h:Z8) (args:List AV) (K0:Nat->Nat->Nat->Nat->List AV->Prop):Prop:=match args with
 | .ptr (some ⟨c,0,0,0,0⟩)::_=>match h.get c with
  |some (.flat [.map (some o),.map (some p),.nslice ⟨l,0,165,0,0⟩ 165 _ _,_,_,_,_])=>frA [c,o,p,l] h 60 args fun Bs a=>match Bs with
   | [.flat cs,.fmap m1 k1 v1,.fmap m2 k2 v2,.rows 165 m3 f]=>Z3Z L n cs m1 k1 v1 m2 k2 v2 m3 f/\K0 c o p l a
   | _=>False
  | _=>False
 | _=>False
theorem Z52 {n:Nat} {h:Z8} {g:FuncId} {K:KO} {K0:Nat->Nat->Nat->Nat->List AV->Prop} (hl:ZcW L n h args K0) (hK:∀c o p l a,K0 c o p l a->∃v,(∀d,mvV [c,o,p,l] d v=some v)/\Spec PP g a ⟨4,chO L n⟩ (.ret v) 4 (chO L n)/\K (.ret v) ⟨h.next,Z8Z L n h c o p l⟩):Zf PP g args h K:=by
 unfold ZcW at hl
 split at hl
 ·split at hl
  ·refine Spec.fsumm hl fun Bs a hlen hK0=> ?_
   split at hK0
   ·obtain ⟨⟨rfl,⟨rfl,rfl,rfl⟩,⟨rfl,rfl,rfl⟩,rfl,rfl⟩,hK0⟩:=hK0
    obtain ⟨v,hv,hs,hK⟩:=hK _ _ _ _ _ hK0
    exact ⟨_,_,_,_,_,hs,by simp,.ret _ _ (hv _),.cons _ _ _ _ _ _ rfl (.flat _ _ rfl) (.cons _ _ _ _ _ _ rfl (.fmap _ _ _ (fun i _=>⟨Z2K L i,Z3V L i⟩)) (.cons _ _ _ _ _ _ rfl (.fmap _ _ _ (fun i _=>⟨Z3W L _ i,rfl⟩)) (.cons _ _ _ _ _ _ rfl (.rows _ _ _ (fun i _=>WJ L i)) .nil))),hK⟩
   ·exact hK0.elim
  ·exact hl.elim
 ·exact hl.elim
def ZiF (L:List Ze) (n:Nat):YA:=fun args h K=>ZcW L n h args fun c o p l a=>match a with
 | [.ptr (some ⟨0,0,0,0,0⟩),v,.int .i64 z,.agg [.arr .u8 32 x],.int .i64 _]=>YK 170 v fun m f=>Qk f L n/\QY L n x/\(m=n/\z=0)/\K (.ret (.bool true)) ⟨h.next,Z8Z L n h c o p l⟩
 | _=>False
theorem ZeX (L:List Ze) (n:Nat) (args:List AV) (h:Z8) (K:KO) (hl:ZiF L n args h K):Zf PP 62 args h K:=by
 refine Z52 hl fun c o p l a ha=> ?_
 split at ha
 ·rename_i v z x ix
  obtain ⟨m,f,ha,h1,h2⟩:=ZX ha
  obtain ⟨⟨hf⟩,hk,⟨rfl,rfl⟩,hK⟩:=ha
  refine ⟨_,fun _=>rfl, ?_,hK⟩
  have hcv:∀{o nx bs},Spec PP 62 [pt 0,.vrows 170 m (stR L) m,.int .i64 0,.agg [.arr .u8 32 x],.int .i64 ix] ⟨4,chO L m⟩ o nx bs->Spec PP 62 _ ⟨4,chO L m⟩ o nx bs:=fun hs E w rs he hr=>hs E w rs he (hr.head (fun _ hc=>hc) fun _ hc=>hc.head (fun _ hc=>(h2 E _ hc).rowsC hf) fun _ hc=>hc)
  refine hcv ?_
  have hA:=ZjG (ix:=ix) hk
  by_cases hJ:∃i,i<m/\isK L x ix i=true
  ·obtain ⟨i,hi,hi2⟩:=hJ
   rcases W0 (isK L x ix) m with ⟨e1,e2⟩|⟨e1,e2,e3⟩
   ·rw [e2 i hi] at hi2
    cases hi2
   ·have en:isN L x (Zy (isK L x ix) m)=true:=by
     unfold isK at e2
     rw [J1] at e2
     exact e2.1
    rw [Z4I e1,JP.2 ⟨_,Jl.2 e1,en⟩] at hA
    exact .evM (Z51 L _ _) (ZjH L m x ix _ _ hk hA e1 ⟨e1,en⟩ ⟨e2,e3⟩)
  ·have hJ:∀i,i<m->isK L x ix i=false:=fun i hi=>by
    cases hq:isK L x ix i with
    | false=>rfl
    | true=>exact absurd ⟨i,hi,hq⟩ hJ
   have hb:Nat.blt (Zy (isK L x ix) m) m=false:=by
    rw [Z2I,JY]
    intro i hi
    rw [hJ i (Jl.1 hi)]
    simp
   rw [hb] at hA
   cases hD:(List.range m).any (isN L x) with
   | true=>
    rw [hD] at hA
    obtain ⟨d,hd,hd2⟩:=JP.1 hD
    exact .evM (Z51 L none (some d)) (ZjI L m x ix _ d hk hA ⟨Jl.1 hd,hd2⟩ hJ)
   | false=>
    rw [hD] at hA
    exact .evM (Z51 L none none) (ZjJ L m x ix _ hk hA (fun i hi=>by
     have:=JY.1 hD i (Jl.2 hi)
     simpa using this) hJ)
 ·exact ha.elim
def ZiG (L:List Ze) (n:Nat) (fz:Blk):List (Nat×Blk):=[(1,fz),(0,.flat (chC n)),(2,.fmap (plI L n).length (plC L (plI L n)) plW),(3,.rows 165 n (Zo L))]
def ZeY (L:List Ze) (n:Nat) (js:List Nat):St:=⟨27,[(12,.ptr (some ⟨5,0,0,0,0⟩)),(2,.int .i64 (WX (amC L) js))],⟨6,(5,.git 1 4 js)::ZiG L n (.froz (.fmap n (Yl L) (stV L)) 4)⟩,[]⟩
def ZiH (L:List Ze) (n:Nat) (js:List Nat):St:=⟨27,[(2,.int .i64 (WX (amC L) js))],⟨6,ZiG L n (.fmap n (Yl L) (stV L))⟩,[]⟩
theorem ZiI (L:List Ze) (n:Nat) (js:List Nat) (go:Nat->Prop) (ex:Prop) (hn:n<=64) (ha:∀j,j<n->0<=amC L j/\amC L j<=1125899906842624) (hs:Xy n js) (hg:∀j,j<n->j∉js->go j) (hx:(∀j,j<n->j∈js)->ex):
  Zz G0 20 19 0 4 (ZeY L n js) (rdS 4 0 5 (ZeY L n) (ZiH L n) js go ex):=by
 refine @Eq.mpr _ (let i:=WX (amC L) js;let a:=decide (n=n);let g:=[(4,4),(5,5)];let e:=Yl L;let d:=stV L;let l:=decide (n<=n);let c:=List.length (plI L n);let k:=decide (c=c);let b:=plC L (plI L n);let f:=Zo L;
 (∀(j:Nat),
 let h:=j::js;
 j<n->¬List.Mem j js->Z5 (wrap i64 (i+(List.getD L j Zn).out.amount)=WX (amC L) h) (Z9w h h/\Z0 a (ZC 4 g n e d e d/\Z0 a (Z0 l (Z7=Z7/\Z0 k (ZC 4 g c b plW b plW/\Z0 a (ZD 4 g n f f/\js=js/\go j)))))))/\
 ((∀(j:Nat),j<n->j∈js)->Z5 (i=i) (Z0 a (ZC 4 [] n e d e d/\Z0 a (Z0 l (Z7=Z7/\Z0 k (ZC 4 [] c b plW b plW/\Z0 a (ZD 4 [] n f f/\ex)))))))) (by kernel_rfl) ?_
 conv=>zeta
 try simp only [vcA]
 try simp only [vcB]
 try simp only [vcC]
 have hM:=Z7O L n 4
 refine ⟨fun j hj hm=> ?_,fun hall=>⟨(hM _).1,(hM _).2.1,(hM _).2.2,hx hall⟩⟩
 have hS:=hs.cons hj hm
 have hl:=hS.len
 have hb:=Z8P (by omega) ha (j::js) hS.lt
 have hle:((j::js).length:Int)<=64:=by omega
 generalize (j::js).length=q at hb hle
 have e:WX (amC L) (j::js)=WX (amC L) js+(L.getD j Zn).out.amount:=rfl
 refine ⟨?_,.refl _,(hM _).1,(hM _).2.1,(hM _).2.2,hg j hj hm⟩
 rw [<-e,w64 (by omega)]
noncomputable def ZiJ (L:List Ze) (n:Nat):Zd:=G0.withL 19 0 (goM 4 (ZeY L n []) (n<=64/\∀j,j<n->0<=amC L j/\amC L j<=1125899906842624) (Zfi 0 (Xy n) (fun js=>∀j,j<n->j∈js) (ZiH L n)))
theorem ZeZ (L:List Ze) (n:Nat):(ZiJ L n).Ok:=
 Zd.withGoS (N:=20) (g:=5) (n:=n) (S:=ZeY L n) Zt (by kernel_rfl) fun hC=>⟨rfl,Xy.nil n,fun js hs=>⟨hs.len,ZiI L n js _ _ hC.1 hC.2 hs (fun j hj hm=>hs.cons hj hm) fun h=>h⟩⟩
theorem Z6f (a:Nat->Int) (x:Nat):∀l:List Nat,WX a (l++[x])=WX a l+a x
 | []=>by simp [WX]
 | y::l=>by simp only [List.cons_append,WX,Z6f a x l];omega
theorem Z2O (L:List Ze):∀n,WX (amC L) (List.range n)=Qj L n
 | 0=>rfl
 | n+1=>by rw [List.range_succ,Z6f,Z2O L n];rfl
theorem ZiK (L:List Ze) (n:Nat) (z:Int) (hn:n<=64) (ha:∀j,j<n->0<=amC L j/\amC L j<=1125899906842624) (hz:z=Qj L n):
  evF (ZiJ L n) 20 19 [pt 0] ⟨4,chO L n⟩ (YU 4 (.ret (.int .i64 z)) 4 (chO L n)):=by
 refine @Eq.mpr _ (let a:=decide (n=n);let g:=[(4,4),(5,5)];let f:=Yl L;let e:=stV L;let i:=decide (n<=n);let d:=List.length (plI L n);let h:=decide (d=d);let c:=plC L (plI L n);let b:=Zo L;
 Z9w [] []/\Z0 a (ZC 4 g n f e f e/\Z0 a (Z0 i (Z7=Z7/\Z0 h (ZC 4 g d c plW c plW/\Z0 a (ZD 4 g n b b/\(n<=64/\∀(j:Nat),j<n->0<=amC L j/\amC L j<=1125899906842624)/\∀(js:List Nat),Xy n js->(∀(j:Nat),j<n->j∈js)->Z5 (WX (amC L) js=z) (Z0 a (Z0 i (Z7=Z7/\Z0 a (ZC 4 [] n f e f e/\Z0 h (ZC 4 [] d c plW c plW/\Z0 a (ZD 4 [] n b b/\True)))))))))))) (by kernel_rfl) ?_
 conv=>zeta
 try simp only [vcA]
 try simp only [vcB]
 try simp only [vcC]
 have hM:=Z7O L n 4
 refine ⟨.refl _,(hM _).1,(hM _).2.1,(hM _).2.2,⟨hn,ha⟩,fun js hs hall=>⟨?_,(hM _).1,(hM _).2.1,(hM _).2.2⟩⟩
 rw [hz,<-Z2O]
 exact Zac (hs.perm hall)
def Zfo (L:List Ze) (n:Nat):YA:=fun args h K=>ZcW L n h args fun c o p l a=>match a with
 | [.ptr (some ⟨0,0,0,0,0⟩)]=>(n<=64/\∀j,j<n->0<=amC L j/\amC L j<=1125899906842624)/\K (.ret (.int .i64 (Qj L n))) ⟨h.next,Z8Z L n h c o p l⟩
 | _=>False
theorem ZcX (L:List Ze) (n:Nat) (args:List AV) (h:Z8) (K:KO) (hl:Zfo L n args h K):Zf PP 19 args h K:=by
 refine Z52 hl fun c o p l a ha=> ?_
 split at ha
 ·exact ⟨_,fun _=>rfl,.evM (ZeZ L n) (ZiK L n _ ha.1.1 ha.1.2 rfl),ha.2⟩
 ·exact ha.elim
noncomputable def ZcY (L:List Ze) (n:Nat):Zd:=(((G0.withF 19 (Zfo L n)).withP 61 (Z8Y L)).withF 62 (ZiF L n)).withF 60 (ZgD L (fun _=>[]) fun _=>0)
theorem ZcZ (L:List Ze) (n:Nat):(ZcY L n).Ok:=Zd.withF_ok (Zd.withF_ok (Zd.withP_ok (Zd.withF_ok Zt (ZcX L n)) (Z7N L)) (ZeX L n)) (Z8O L _ _)
def isB (L:List Ze) (n:Nat):List (Nat×Blk):=(5,.flat [.bool false])::(4,.flat [.vrows 165 n (Zo L) n,.nilslice,.int .i64 0])::chO L n
def isS (L:List Ze) (n i:Nat):St:=⟨121,[(10,.int .i64 i),(9,.nslice ⟨6,0,170,0,0⟩ 170 n n),(0,pt 0),(8,.int .i64 0),(4,pt 5),(3,pt 4)],⟨7,(6,.rows 170 n (stR L))::isB L n⟩,[]⟩
def isE (L:List Ze) (n:Nat):St:=⟨121,[(0,pt 0),(4,pt 5),(3,pt 4)],⟨6,isB L n⟩,[]⟩
theorem ZjK (L:List Ze) (n i:Nat) (Z1 Z2:Prop) (hn:n<1000) (hi:i<=n) (hO:Zw L n) (h1:i<n->Z1) (h2:i=n->Z2):
  Zz (ZcY L n) 40 22 0 4 (isS L n i) (rdM 4 0 9 (isS L n (i+1)) (isE L n) rpE rpE Z1 Z2 False False):=by
 refine @Eq.mpr _ (let p:=decide (0<=(↑i:Int)/\(↑i:Int)<(↑n:Int));let h:=0+Int.toNat (↑i:Int);let l:=true=true/\true=true;let c:=List.length (plI L n);let f:=Yl L;let e:=stV L;let d:=plC L (plI L n);let b:=Zo L;let a:=decide (n=n);let k:=decide (n<=n);let g:=[(4,4),(5,5),(6,6)];let o:=b=b;let m:=decide (c=c);let j:=[(4,4),(5,5)];
 Z6 (decide ((↑i:Int)<(↑n:Int))) (Z0 p (Z5 (h<n) (Z0 p (Z5 (h<n) ((∀(i:Nat),i<n->l)/\(∀(i:Nat),i<c->l)/\(∀(i:Nat),i<n->true=true)/\Z5 (0+n<=n) ((∀(i:Nat),i<n->true=true)/\Z3Z L n [AV.map (some 1),AV.map (some 2),AV.nslice (ZS.mk 3 0 165 0 0) 165 n n,AV.arr u8 32 Z7,AV.int i64 0,AV.nilslice,AV.int i64 0] n f e c d plW n b/\Z5 ((170:Nat)=170/\n=n) (Qk (Wf 0 (stR L)) L n/\QY L n (List.getD L h Zn).name/\(n=n/\(0:Int)=0)/\Z5 (wrap i64 ((↑i:Int)+1)=(↑(i+1):Int)) (Z0 a (Z0 k (Z0 a (ZD 4 g n (stR L) (stR L)/\Z0 a (o/\Z0 a (Z0 a (Z0 k (Z7=Z7/\Z0 a (ZC 4 g n f e f e/\Z0 m (ZC 4 g c d plW d plW/\Z0 a (ZD 4 g n b b/\Z1)))))))))))))))))) (Z0 a (o/\Z0 a (Z0 a (Z0 k (Z7=Z7/\Z0 a (ZC 4 j n f e f e/\Z0 m (ZC 4 j c d plW d plW/\Z0 a (ZD 4 j n b b/\Z2))))))))) (by kernel_rfl) ?_
 conv=>zeta
 try simp only [vcA]
 try simp only [vcB]
 try simp only [vcC]
 have hM:=Z7O L n 4
 have hR:∀τ,ZD 4 τ n (stR L) (stR L):=fun τ=>U9 fun _ _=>rfl
 refine ⟨fun hc=> ?_,fun hc=>⟨(hM _).1,(hM _).2.1,(hM _).2.2,h2 (by omega)⟩⟩
 have hlt:i<n:=by omega
 have hw:i64.wrap ((i:Int)+1)=((i+1:Nat):Int):=by rw [w64 (by omega)];omega
 exact ⟨by omega,hlt,by omega,hlt,fun _ _=>trivial,fun _ _=>trivial,fun _ _=>trivial,fun _ _=>trivial,⟨rfl,⟨rfl,rfl,rfl⟩,⟨rfl,rfl,rfl⟩,rfl,rfl⟩,⟨fun j _=>by rw [V0,Jq]⟩,⟨hn,hO,(hO.h i hlt).name⟩,hw,hR _,(hM _).1,(hM _).2.1,(hM _).2.2,h1 hlt⟩
noncomputable def Zfp (L:List Ze) (n:Nat):Zd:=(ZcY L n).withL 22 0 (goM 4 (isS L n 0) (n<1000/\Zw L n) (Y9 0 n 9 (fun i=>i<n) (fun i=>i=n) (fun _=>False) (fun _=>False) (fun _=>isE L n) (fun _=>rpE) (fun _=>rpE)))
theorem Zd0 (L:List Ze) (n:Nat):(Zfp L n).Ok:=
 Zd.withGoM (N:=40) (k:=4) (n:=n) (l:=9) (S:=fun i=>isS L n i) (ZcZ L n) (by kernel_rfl) fun hC=>⟨rfl,fun i hi _=>ZjK L n i _ _ hC.1 hi hC.2 (fun h1=>⟨h1,h1⟩) fun h=>h⟩
theorem ZjL (L:List Ze) (n:Nat) (hn:n<=64) (hO:Zw L n) (ha:∀j,j<n->0<=amC L j/\amC L j<=1125899906842624):
  evF (Zfp L n) 40 22 [pt 0,.agg [.vrows 165 n (Zo L) n,.nilslice,.int .i64 0]] ⟨4,chO L n⟩ (YU 4 (.ret (.bool true)) 4 (chO L n)):=by
 refine @Eq.mpr _ (let c:=Zo L;let d:=true=true/\true=true;let b:=List.length (plI L n);let g:=Yl L;let f:=stV L;let e:=plC L (plI L n);let l:=Z3Z L n [AV.map (some 1),AV.map (some 2),AV.nslice (ZS.mk 3 0 165 0 0) 165 n n,AV.arr u8 32 Z7,AV.int i64 0,AV.nilslice,AV.int i64 0] n g f b e plW n c;let q:=n<=64/\∀(j:Nat),j<n->0<=amC L j/\amC L j<=1125899906842624;let k:=decide (0+n<=n);let p:=decide ((170:Nat)=170/\n=n);let o:=Qk (Wf 0 (stR L)) L n;let t:=[(0:Int),0,0,0,0,0,0,0,0,0,0,0,0,0,0,0,0,0,0,0,0,0,0,0,0,0,0,0,0,0,0];let s:=n=n/\(0:Int)=0;let a:=decide (n=n);let m:=decide (n<=n);let h:=[(4,4),(5,5),(6,11)];let r:=decide (b=b);
 Z5 ((165:Nat)=165/\n=n) (Qi c L n/\
 ZeJ (fun (x:Nat)=>[]) (fun (x:Nat)=>[]) (fun (x:Nat)=>0) 0/\
 n<1000/\
 (0:Nat)<1000/\
 (∀(i:Nat),i<n->d)/\
 (∀(i:Nat),i<b->d)/\
 (∀(i:Nat),i<n->true=true)/\
 l/\
 q/\
 Z0 k ((∀(i:Nat),i<n->true=true)/\
 Z0 p (o/\
 q/\
 Z6 (Qj L n !=Qj L n) False ((∀(i:Nat),i<n->d)/\
 (∀(i:Nat),i<b->d)/\
 (∀(i:Nat),i<n->true=true)/\
 Z0 k ((∀(i:Nat),i<n->true=true)/\l/\Z0 p (o/\QY L n ((99:Int)::t)/\s/\(∀(i:Nat),i<n->d)/\(∀(i:Nat),i<b->d)/\(∀(i:Nat),i<n->true=true)/\Z0 k ((∀(i:Nat),i<n->true=true)/\l/\Z0 p (o/\QY L n ((1:Int)::t)/\s/\Z0 a (Z0 m (Z0 a (ZD 4 h n (stR L) (stR L)/\Z0 a (c=c/\Z0 a (Z0 a (Z0 m (Z7=Z7/\Z0 a (ZC 4 h n g f g f/\Z0 r (ZC 4 h b e plW e plW/\Z0 a (ZD 4 h n c c/\(n<1000/\Zw L n)/\∀(i:Nat),i<=n->(∀(j:Nat),j<i->(fun (i:Nat)=>i<n) j)->(i=n->Z0 a (Z0 m (Z7=Z7/\Z0 a (ZC 4 [] n g f g f/\Z0 r (ZC 4 [] b e plW e plW/\Z0 a (ZD 4 [] n c c/\True))))))/\(False->False)/\(False->False)))))))))))))))))))) (by kernel_rfl) ?_
 conv=>zeta
 try simp only [vcA]
 try simp only [vcB]
 try simp only [vcC]
 have hM:=Z7O L n 4
 have hR:∀τ,ZD 4 τ n (stR L) (stR L):=fun τ=>U9 fun _ _=>rfl
 have hC:Z3Z L n (chC n) n (Yl L) (stV L) (plI L n).length (plC L (plI L n)) plW n (Zo L):=⟨rfl,⟨rfl,rfl,rfl⟩,⟨rfl,rfl,rfl⟩,rfl,rfl⟩
 have hs:Qk (Wf 0 (stR L)) L n:=⟨fun j _=>by rw [V0,Jq]⟩
 exact ⟨⟨fun _ _=>rfl⟩,⟨fun j hj=>absurd hj (JM j)⟩,by omega,by omega,fun _ _=>trivial,fun _ _=>trivial,fun _ _=>trivial,hC,⟨hn,ha⟩,fun _ _=>trivial,hs,⟨hn,ha⟩,bne_self_eq_false _,fun _ _=>trivial,fun _ _=>trivial,fun _ _=>trivial,fun _ _=>trivial,hC,hs,⟨by omega,hO,rfl⟩,fun _ _=>trivial,fun _ _=>trivial,fun _ _=>trivial,fun _ _=>trivial,hC,hs,⟨by omega,hO,rfl⟩,hR _,(hM _).1,(hM _).2.1,(hM _).2.2,⟨by omega,hO⟩,fun i hi _=>⟨fun _=>⟨(hM _).1,(hM _).2.1,(hM _).2.2⟩,fun h=>h,fun h=>h⟩⟩
def Zfq (L:List Ze) (n:Nat):YA:=fun args h K=>ZcW L n h args fun c o p l a=>match a with
 | [.ptr (some ⟨0,0,0,0,0⟩),.agg [v,.nilslice,.int .i64 z]]=>YK 165 v fun m f=>Qi f L n/\(m=n/\z=0)/\(n<=64/\Zw L n/\∀j,j<n->0<=amC L j/\amC L j<=1125899906842624)/\K (.ret (.bool true)) ⟨h.next,Z8Z L n h c o p l⟩
 | _=>False
theorem Zd1 (L:List Ze) (n:Nat) (args:List AV) (h:Z8) (K:KO) (hl:Zfq L n args h K):Zf PP 22 args h K:=by
 refine Z52 hl fun c o p l a ha=> ?_
 split at ha
 ·rename_i v z
  obtain ⟨m,f,ha,h1,h2⟩:=ZX ha
  obtain ⟨⟨hf⟩,⟨rfl,rfl⟩,hk,hK⟩:=ha
  refine ⟨_,fun _=>rfl, ?_,hK⟩
  have hcv:∀{o nx bs},Spec PP 22 [pt 0,.agg [.vrows 165 m (Zo L) m,.nilslice,.int .i64 0]] ⟨4,chO L m⟩ o nx bs->Spec PP 22 [.ptr (some ⟨0,0,0,0,0⟩),.agg [v,.nilslice,.int .i64 0]] ⟨4,chO L m⟩ o nx bs:=fun hs E w rs he hr=>hs E w rs he (hr.head (fun _ hc=>hc) fun _ hc=>hc.head (fun _ hc=>by
   cases hc with
   | agg _ vs hc=>exact .agg _ vs (Zcs hc h1 rfl rfl rfl (fun r hr=>(h2 E r hr).rowsC hf) fun r hr=>hr)) fun _ hc=>hc)
  exact hcv (.evM (Zd0 L m) (ZjL L m hk.1 hk.2.1 hk.2.2))
 ·exact ha.elim
def Zfr (n:Int):LI:=n::List.replicate 31 0
def Z40:Ze:=⟨Zfr 1,0,⟨1,50,Zfr 7,Z7,Z7,Z7,0,0⟩⟩
noncomputable def ZiL (A:LI->Int×Int) (N:LI->Int->LI) (M:Nat->LI) (s:Nat->Int) (o:Nat->Nat):Zd:=((((((G0.withP 8 (nmF N)).withP 9 (nmF N)).withP 59 (Ziu N M s)).withF 60 (ZgD [Z40] M s)).withF 49 (Zir M s o)).withF 24 (ZgA [Z40])).withP 26 (ckS A)
theorem Zf0 (M:Nat->LI) (s:Nat->Int) (o:Nat->Nat):(ZiL Yd Z0s M s o).Ok:=Zd.withP_ok (Zd.withF_ok (Zd.withF_ok (Zd.withF_ok (Zd.withP_ok (Zd.withP_ok (Zd.withP_ok Zt ZgB) Z8M) (ZeK M s)) (Z8O [Z40] M s)) (ZeI M s o)) (Z8L [Z40])) Z7s
def txW:TxS:=⟨0,1,fun _=>⟨Z7,0,2,Z7,Z7,Z7⟩,1,fun _=>Z40.out⟩
theorem ZgI:txW.Ok:=⟨by decide,by decide,fun _ _=>⟨rfl,rfl,rfl,rfl⟩,fun _ _=>⟨rfl,rfl,rfl,rfl⟩⟩
theorem ZgJ:Yh Yd txW=true:=by
 unfold Yh
 kernel_rfl
theorem Z90:∀x∈Z7,U8 x:=fun x hx=>by
 obtain ⟨_,rfl⟩:=List.mem_replicate.1 hx
 unfold U8
 omega
theorem Zfs:Zaa Z7 0:=⟨rfl,Z90,by omega⟩
theorem Zd2 (b:LI) (s:Int):(Z0s b s).length=32:=by unfold Z0s;exact Up _
theorem ZiM (A:LI->Int×Int) (N:LI->Int->LI) (M:Nat->LI) (s:Nat->Int) (hA:A=Yd) (hN:∀b s,(N b s).length=32) (h0:M 0=Z7) (h1:M 1=N Z7 0) (hs:s 0=0):
  evF (ZiL A N M s fun _=>0) 40 5 [] ⟨0,[]⟩ (Xf (fun v=>v=.bool true)):=by
 refine @Eq.mpr _ (let n:=[(0:Int),0,0,0,0,0,0,0,0,0,0,0,0,0,0,0,0,0,0,0,0,0,0,0,0,0,0,0,0,0,0];let g:=(1:Int)::n;let b:=AV.int i64 0;let f:=(7:Int)::n;let a:=AV.arr u8 32 Z7;let l:=[AV.int i64 1,AV.int i64 50,AV.arr u8 32 f,a,a,a,b,b];let k:=f=f;let e:=Zaa Z7 0;let d:=N Z7 0=N Z7 0;let j:=AV.bool true;let m:=AV.bool false=j;let h:=e/\k/\Z7=Z7/\Z7=Z7/\Z7=Z7/\Z5 (List.length (N Z7 0)=32/\List.length (N Z7 0)=32) (Z6 (N Z7 0==N Z7 0) (j=j) m);
 Qi (Z0M (AV.arr u8 32 g::b::l) 0 165) [Z40] 1/\(1:Nat)<1000000/\∃(t:TxS),(t.num=0/\(((1:Nat)=1/\t.N=1)/\∀(i:Nat),i<1->Z0M [a,b,AV.int i64 2,a,a,a] 0 130 i=InS.c (t.ins i))/\((1:Nat)=1/\t.M=1)/\∀(i:Nat),i<1->Z0M l 0 132 i=ZR.c (t.outs i))/\TxS.Ok t/\Z6 (Yh A t) (k/\Z7=Z7/\Z7=Z7/\Z7=Z7/\g=g/\e/\Z7L (fun (x:Nat)=>[]) (fun (i:Nat)=>M (0+i)) (fun (i:Nat)=>s (0+i)) 0/\(0:Nat)<1000000/\d/\Z7=Z7/\d/\(d/\h)/\h/\h) (e/\m)) (by kernel_rfl) ?_
 conv=>zeta
 try simp only [vcA]
 try simp only [vcB]
 try simp only [vcC]
 subst hA
 have hl:=hN Z7 0
 refine ⟨⟨fun i hi=> ?_⟩,by omega,txW,⟨rfl,⟨rfl,fun i hi=> ?_⟩,rfl,fun i hi=> ?_⟩,ZgI,fun _=>⟨Zfs,⟨fun i hi=>by omega⟩,by omega, ?_⟩,fun h=> ?_⟩
 ·obtain rfl:i=0:=by omega
  rfl
 ·obtain rfl:i=0:=by omega
  rfl
 ·obtain rfl:i=0:=by omega
  rfl
 ·simp [Zfs,hl]
 ·rw [ZgJ] at h
  cases h
def Zd3:ZM:=fun args _ K=>match args with
 | []=>K (.bool true)
 | _=>False
theorem Zd4 (args:List AV) (h:Z8) (K:AV->Prop) (hl:Zd3 args h K):Zf PP 5 args h fun o h'=>∃v,o=.ret v/\h'=h/\K v:=by
 unfold Zd3 at hl
 split at hl
 ·exact W7 (Zf0 (nmA Z0s fun _=>0) (fun _=>0) fun _=>0) rfl (ZiM Yd Z0s _ _ rfl Zd2 rfl rfl rfl) fun u hu=>hu▸hl
 ·exact hl.elim
noncomputable def Zf1 (L:List Ze) (n m:Nat) (t:Nat->TxS) (x:YV) (c:Bool) (z:LI) (e:Int):Zd:=((((((G0.withP 4 (ZiC m t)).withF 6 (ZiD L c)).withP 7 (ZcH L c)).withP 8 (Z50 x z e)).withP 9 (Z50 x z e)).withF 22 (Zfq L n)).withP 5 Zd3
theorem Z53 (L:List Ze) (n m:Nat) (t:Nat->TxS) (x:YV) (c:Bool) (hx:x.Ok):(Zf1 L n m t x c (bnV x) (if Vu Yd x=true then 0 else 2)).Ok:=
 Zd.withP_ok (Zd.withF_ok (Zd.withP_ok (Zd.withP_ok (Zd.withP_ok (Zd.withF_ok (Zd.withP_ok Zt (ZeP _ _)) (ZeR L c)) (ZcI L c)) (Zaj x hx)) (Zak x hx)) (Zd1 L n)) Zd4
theorem ZjM (L:List Ze) (n:Nat) (x:YV) (z:LI) (e:Int) (hz:z.length=32) (hn:n<=64) (hO:Zw L n) (hb:QW L n=true) (ha:∀j,j<n->0<=amC L j/\amC L j<=1125899906842624):
  evF (Zf1 L n x.m x.t x true z e) 40 3 [.vrows 165 n (Zo L) n,.agg x.c] ⟨0,[]⟩ (Xf (fun v=>v=.bool true)):=by
 refine @Eq.mpr _ (let d:=decide ((165:Nat)=165/\n=n);let c:=AV.int i64 0;let a:=x.m;let b:=x.t;let h:=AV.bool false;let g:=AV.bool true;let o:=g=g;let f:=Qi (Zo L) L n;let l:=n<1000/\Zw L n;let w:=QW L n=true;let v:=decide ((3:Nat)=3/\a=a);let k:=x.salt;let u:=(x.before=x.before/\k=k/\a=a)/\∀(i:Nat),i<a->txR b i=txR b i;let s:=h=g;let r:=true=true/\true=true;let q:=List.length (plI L n);let p:=Z5 (z.length=32/\z.length=32) (Z6 (!z==z) s (Z6 (e !=e) s ((∀(i:Nat),i<n->r)/\(∀(i:Nat),i<q->r)/\(∀(i:Nat),i<n->true=true)/\Z3Z L n [AV.map (some 1),AV.map (some 2),AV.nslice (ZS.mk 3 0 165 0 0) 165 n n,AV.arr u8 32 Z7,c,AV.nilslice,c] n (Yl L) (stV L) q (plC L (plI L n)) plW n (Zo L)/\Z0 d (f/\(n=n/\(0:Int)=0)/\(n<=64/\Zw L n/\∀(j:Nat),j<n->0<=amC L j/\amC L j<=1125899906842624)/\o))));
 Z0 d (((1:Nat)=1/\(1:Nat)=1/\(1:Int)=1)/\[c,c,AV.vrows 3 a (txR b) a,h,h]=fwC a b 0/\Z6 (!Z11 n a b) o (Z0 d (f/\l/\w/\Z0 d (f/\l/\w/\Z0 v (u/\Z0 v (u/\Z6 (Int.tmod k 2 !=0) p p))))))) (by kernel_rfl) ?_
 conv=>zeta
 try simp only [vcA]
 try simp only [vcB]
 try simp only [vcC]
 have hC:Z3Z L n (chC n) n (Yl L) (stV L) (plI L n).length (plC L (plI L n)) plW n (Zo L):=⟨rfl,⟨rfl,rfl,rfl⟩,⟨rfl,rfl,rfl⟩,rfl,rfl⟩
 have hcR:Qi (Zo L) L n:=⟨fun _ _=>rfl⟩
 have e1:(!z==z)=false:=by simp
 have e2:(e !=e)=false:=bne_self_eq_false e
 refine ⟨rfl,fun _=>trivial,fun _=>⟨hcR,⟨by omega,hO⟩,hb,hcR,⟨by omega,hO⟩,hb,fun _ _=>trivial,fun _ _=>trivial,fun _=> ?_,fun _=> ?_⟩⟩
 all_goals
  refine ⟨⟨hz,hz⟩,fun h=> ?_,fun _=>⟨fun h=> ?_,fun _=>⟨fun _ _=>trivial,fun _ _=>trivial,fun _ _=>trivial,hC,hcR,hn,hO,ha⟩⟩⟩
  ·rw [e1] at h;cases h
  ·rw [e2] at h;cases h
theorem ZjN (L:List Ze) (n:Nat) (x:YV) (z:LI) (e:Int) (hz:z.length=32) (hf:Z11 n x.m x.t=true) (hO:Zw L n) (hb:QW L n=false):
  evF (Zf1 L n x.m x.t x false z e) 40 3 [.vrows 165 n (Zo L) n,.agg x.c] ⟨0,[]⟩ (Xf (fun v=>v=.bool true)):=by
 refine @Eq.mpr _ (let g:=decide ((165:Nat)=165/\n=n);let a:=x.m;let b:=x.t;let d:=AV.bool false;let c:=AV.bool true;let l:=c=c;let k:=Qi (Zo L) L n;let j:=n<1000/\Zw L n;let h:=QW L n=false;let r:=decide ((3:Nat)=3/\a=a);let f:=x.salt;let q:=(x.before=x.before/\f=f/\a=a)/\∀(i:Nat),i<a->txR b i=txR b i;let p:=d=c;let o:=Z5 (z.length=32/\z.length=32) (Z6 (!z==z) p (Z6 (e !=e) p l));
 Z0 g (((1:Nat)=1/\(1:Nat)=1/\(1:Int)=1)/\[AV.int i64 0,AV.int i64 0,AV.vrows 3 a (txR b) a,d,d]=fwC a b 0/\Z6 (!Z11 n a b) l (Z0 g (k/\j/\h/\Z0 g (k/\j/\h/\Z0 r (q/\Z0 r (q/\Z6 (Int.tmod f 2 !=0) o o))))))) (by kernel_rfl) ?_
 conv=>zeta
 try simp only [vcA]
 try simp only [vcB]
 try simp only [vcC]
 have hcR:Qi (Zo L) L n:=⟨fun _ _=>rfl⟩
 have e1:(!z==z)=false:=by simp
 have e2:(e !=e)=false:=bne_self_eq_false e
 have h70:=(QV.1 hf).2
 refine ⟨rfl,fun _=>trivial,fun _=>⟨hcR,⟨by omega,hO⟩,hb,hcR,⟨by omega,hO⟩,hb,fun _ _=>trivial,fun _ _=>trivial,fun _=> ?_,fun _=> ?_⟩⟩
 all_goals
  refine ⟨⟨hz,hz⟩,fun h=> ?_,fun _=>⟨fun h=> ?_,fun _=>trivial⟩⟩
  ·rw [e1] at h;cases h
  ·rw [e2] at h;cases h
theorem ZjO (L:List Ze) (n m:Nat) (t:Nat->TxS) (b:LI) (s:Int) (x:YV) (c:Bool) (z:LI) (e:Int) (hf:Z11 n m t=false):
  evF (Zf1 L n m t x false z e) 40 3 [.vrows 165 n (Zo L) n,.agg [.arr .u8 32 b,.int .i64 s,.vrows 3 m (txR t) m]] ⟨0,[]⟩ (Xf (fun v=>v=.bool true)):=by
 refine @Eq.mpr _ (let d:=decide ((165:Nat)=165/\n=n);let c:=AV.bool false;let a:=AV.bool true;let l:=a=a;let k:=Qi (Zo L) L n;let j:=n<1000/\Zw L n;let h:=QW L n=false;let g:=decide ((3:Nat)=3/\m=m);let f:=(b=x.before/\s=x.salt/\m=x.m)/\∀(i:Nat),i<m->txR t i=txR x.t i;let p:=c=a;let o:=Z5 (z.length=32/\z.length=32) (Z6 (!z==z) p (Z6 (e !=e) p l));
 Z0 d (((1:Nat)=1/\(1:Nat)=1/\(1:Int)=1)/\[AV.int i64 0,AV.int i64 0,AV.vrows 3 m (txR t) m,c,c]=fwC m t 0/\Z6 (!Z11 n m t) l (Z0 d (k/\j/\h/\Z0 d (k/\j/\h/\Z0 g (f/\Z0 g (f/\Z6 (Int.tmod s 2 !=0) o o))))))) (by kernel_rfl) ?_
 conv=>zeta
 try simp only [vcA]
 try simp only [vcB]
 try simp only [vcC]
 refine ⟨rfl,fun _=>trivial,fun h=> ?_⟩
 rw [hf] at h
 cases h
theorem and_mk {a b:Bool} (h1:a=true) (h2:b=true):(a&&b)=true:=by rw [h1,h2];rfl
theorem Zd5 {E:Env} {w:World} {sz n:Nat} (hg:∀i,i<n->g' i=g i) (he:Emb E ⟨1,[(0,.rows sz n g')]⟩ w):Emb E ⟨1,[(0,.rows sz n g)]⟩ w:=by
 have hget:∀(f:Nat->List AV) x B,(Z8.mk 1 [(0,.rows sz n f)]).get x=some B->x=0/\B=.rows sz n f:=fun f x B hx=>by
  grind [Z8.get,ZF,J0]
 have h0:∀f:Nat->List AV,(Z8.mk 1 [(0,.rows sz n f)]).get 0=some (.rows sz n f):=fun f=>rfl
 refine ⟨he.fresh,fun x B hx=> ?_,fun x B hx=> ?_,fun x y B B' b N N' hx hy h1 h2=> ?_,he.imm,fun a c x B N hi hx hb=> ?_⟩
 ·grind
 ·obtain ⟨rfl,rfl⟩:=hget _ _ _ hx
  have:=he.own 0 _ (h0 g')
  cases this with
  | rows0 _ _ _ hn hb=>exact .rows0 _ _ _ hn hb
  | rows _ _ _ b cells elem fr gv hb hw hf hc hl hv=>exact .rows _ _ _ b cells elem fr gv hb hw hf (fun i hi=>hg i hi▸hc i hi) hl hv
 ·grind
 ·obtain ⟨rfl,rfl⟩:=hget _ _ _ hx
  exact he.sep a c 0 _ N hi (h0 g') hb
theorem Spec.rows {P:Program} {f:FuncId} {sz n:Nat} {o:Out} {nx:Nat} {bs:List (Nat×Blk)} (hg:∀i,i<n->g' i=g i) (h:Spec P f args ⟨1,[(0,.rows sz n g)]⟩ o nx bs):Spec P f args ⟨1,[(0,.rows sz n g')]⟩ o nx bs:=by
 intro E w rs he hl
 have he':=Zd5 hg he
 refine (h E w rs he' hl).mono ?_
 rintro e w' ⟨E',hev,ho⟩
 have own:∀b,YM E ⟨1,[(0,.rows sz n g)]⟩ b↔YM E ⟨1,[(0,.rows sz n g')]⟩ b:=fun b=>by
  grind [YM,Z8.get,ZF]
 exact ⟨E',⟨hev.le,hev.emb,hev.size,hev.os,hev.tape,hev.output,fun b hb hn=>hev.keep b hb (fun h=>hn ((own b).1 h)),fun b hb=>(hev.own b hb).imp (own b).1 id,hev.imm⟩,ho⟩
end Go.Tk
end
section
namespace Go.Tk
open IntKind (i64 u8 u32 u64 wrap)
def coinTy:List Ty:=.arr .u8 32::.int .i64::Z8w
def blkTy:List Ty:=[.arr .u8 32,.int .i64,.rows 3 Zel]
instance:Inhabited Ze:=⟨Zn⟩
instance:Inhabited TxS:=⟨⟨0,0,fun _=>inZ,0,fun _=>ZhO⟩⟩
theorem Zao {l:List AV} (h:Fits coinTy l):∃x:Ze,l=x.c/\x.Ok:=by
 unfold coinTy at h
 cases h with|cons _ a _ u h1 h=>
 cases h with|cons _ b _ u h2 h=>
 obtain ⟨o,rfl,ho,hb⟩:=Z5Z h
 cases h1;cases h2
 rename_i x1 l1 w1 x2 w2
 exact ⟨⟨x1,x2,o⟩,rfl,⟨l1,ho,hb⟩⟩
theorem getD_map {g:Nat->Ze} {n i:Nat} (h:i<n):((List.range n).map g).getD i Zn=g i:=by
 rw [Jb,List.getElem?_map,List.getElem?_range h]
 rfl
theorem Z7P {a:AV} (h:Z3F false [.rows 165 coinTy] a):∃(n:Nat) (L:List Ze) (f:Nat->List AV),a=.vrows 165 n f n/\(∀i,i<n->f i=Zo L i)/\Zw L n:=by
 cases h with|one _ _ h=>
 cases h
 rename_i n f hn hf
 obtain ⟨g,hg⟩:=pick fun i hi=>Zao (hf i hi)
 exact ⟨n,(List.range n).map g,f,rfl,fun i hi=>by unfold Zo;rw [getD_map hi];exact (hg i hi).1,⟨fun i hi=>by rw [getD_map hi];exact (hg i hi).2⟩⟩
theorem Za.rowsM {E:Env} {esz n:Nat} {f f':Nat->List AV} {r:Value} (h:Za E (.vrows esz n f n) r) (hf:∀i,i<n->∀vs,Zl E.views (f i) vs->Zl E.views (f' i) vs):Za E (.vrows esz n f' n) r:=by
 cases h with
 | vrowsNil esz n f len h1 h2=>exact .vrowsNil _ _ _ _ h1 h2
 | vrows esz n f len a cap g h1 h2 hc hl hi=>exact .vrows _ _ _ _ a cap g h1 h2 (fun i h=>hf i h _ (hc i h)) hl hi
theorem Z0V.crel {l:List AV} {t:TxS} (h:Z0V l t) {E:Env} {vs:List Value} (hv:Zl E l vs):Zl E t.c vs:=by
 have:=h.rel (Za.agg _ _ hv)
 cases this with
 | agg _ _ hc=>exact hc
theorem Zd6 {l:List AV} (h:Fits Zel l):∃t:TxS,Z0V l t/\(t.N<900000000000->t.M<900000000000->t.Ok)/\Z2t t:=by
 obtain ⟨l',t,e,h1,h2,h3⟩:=Zen (.agg _ _ h)
 cases e
 exact ⟨t,h1,h2,h3⟩
theorem chainnews_walk {us:List AV} (h:Z3G [(false,[.rows 165 coinTy]),(true,blkTy)] us):Zf PP 3 us ⟨0,[]⟩ fun o h'=>∃v,o=.ret v/\h'=⟨0,[]⟩/\v=.bool true:=by
 cases h with|cons _ _ a _ _ h1 h=>
 cases h with|cons _ _ b _ _ h2 h=>
 cases h
 obtain ⟨n,L,f,rfl,hf,hO⟩:=Z7P h1
 cases h2 with|agg _ u h2=>
 unfold blkTy at h2
 cases h2 with|cons _ b _ u g1 h2=>
 cases h2 with|cons _ s _ u g2 h2=>
 cases h2 with|cons _ l _ u g3 h2=>
 cases h2;cases g1;cases g2;cases g3
 rename_i x1 l1 w1 s w2 m q hm hq
 obtain ⟨t,ht⟩:=pick fun i hi=>Zd6 (hq i hi)
 have hcv:∀E rs,Zs E [.vrows 165 n f n,.agg [.arr .u8 32 x1,.int .i64 s,.vrows 3 m q m]] rs->Zs E [.vrows 165 n (Zo L) n,.agg [.arr .u8 32 x1,.int .i64 s,.vrows 3 m (txR t) m]] rs:=fun E r hr=>hr.head (fun _ hc=>hc.rowsC hf) fun _ hc=>hc.head (fun _ hc=>by
  cases hc with
  | agg _ vs hc=>exact .agg _ vs (ZcN hc rfl rfl fun r hr=>hr.rowsM fun i hi vs hv=>(ht i hi).1.crel hv)) fun _ hc=>hc
 refine Zf.conv ?_ hcv
 cases hfw:Z11 n m t with
 | false=>exact W7 (Z53 L n m t ⟨Z7,0,0,t⟩ false ⟨rfl,.of Z90,⟨fun i hi=>absurd hi (JM i),fun i hi=>absurd hi (JM i)⟩⟩) rfl (ZjO L n m t x1 s _ false _ _ hfw) fun u hu=>hu
 | true=>
  have hfe:=(QV.1 hfw).1
  have hx:(YV.mk x1 s m t).Ok:=⟨l1,Xh l1 w1,⟨fun i hi=>by
   have:=hfe.2 i hi
   unfold fwB at this
   simp only [J1,decide_eq_true_eq] at this
   exact (ht i hi).2.1 (by omega) (by omega),fun i hi=>(ht i hi).2.2⟩⟩
  cases hb:QW L n with
  | true=>
   have hn:=Ua.1 hb
   exact W7 (Z53 L n m t ⟨x1,s,m,t⟩ true hx) rfl (ZjM L n ⟨x1,s,m,t⟩ _ _ (Z8W _) hn.1 hO hb fun j hj=>by
    have:=(Yj (QU (hn.2 j hj).1).2).2.1
    unfold amC
    omega) fun u hu=>hu
  | false=>exact W7 (Z53 L n m t ⟨x1,s,m,t⟩ false hx) rfl (ZjN L n ⟨x1,s,m,t⟩ _ _ (Z8W _) hfw hO hb) fun u hu=>hu
end Go.Tk
namespace Go.Proofs.YtdddfmkkbeihbaaGreat.chainNews
open Go.ChangeShapes Go.WideShapes Go.ChangeAt Go.RowKit
theorem own:ownKnob Tryz.prog.godebug=none:=by kernel_rfl
theorem laidOut:laidOutB Tryz.prog=true:=by kernel_rfl
theorem lifted (os:Os) (started:os.Started) (H:Type) (enc:TypeId×Value->H):
  ReturnsInHanded {} Tryz.checked os 3 .any (Rows.chainNewsSpec.pre6 enc Tryz.prog Tryz.f3 Rows.chainNewsRow.domain false) (Rows.chainNewsSpec.post enc Tryz.prog Tryz.f3 false true false false):=
 Go.Tk.lifted_gen (C:=Tryz.checked) (m:=8) (τs:=[(false,[.rows 165 Go.Tk.coinTy]),(true,Go.Tk.blkTy)]) own laidOut started (by kernel_rfl) Tryz.func3
  (ChangeSpec.witness6 (enc:=enc) (C:=Tryz.checked) false ⟨#[], #[.slice none 0 0,.agg (Array.replicate 32 (.int .u8 0)++ #[.int .i64 0,.slice none 0 0])],[]⟩ 8 (by kernel_rfl) (by kernel_rfl) (by kernel_rfl) (by kernel_rfl))
  rfl (tb:=4) rfl Tryz.underlying4 (by kernel_rfl) (by kernel_rfl) (fun ds h=>by
   match ds,h with
   | [a,b],_=>rfl) fun us h=>Go.Tk.chainnews_walk h
theorem ZgK:Tryz.pinned.checked.prog.funcNamed Rows.chainNewsRow.func=some 3:=by kernel_rfl
theorem closed:joinedFacts Tryz.pinned.checked.prog 3 Tryz.f3 Rows.chainNewsSpec Rows.chainNewsRow=true:=by
 unfold joinedFacts
 repeat' with_reducible refine Go.Tk.and_mk ?_ ?_
 all_goals as_aux_lemma=>kernel_rfl
theorem over:Rows.chainNewsRow.holds Tryz.pinned (OpenSpec.ofChange Rows.chainNewsSpec):=
 OpenClaim.holds_of_wide 3 Tryz.f3 rfl rfl rfl rfl rfl rfl rfl ⟨rfl,rfl,rfl,rfl,rfl⟩ rfl rfl rfl rfl rfl ZgK Tryz.func3 closed
  (of_decide_eq_true (by kernel_rfl)) (by unfold Func.isWrapper;first|(rw [if_pos (by decide+kernel)];kernel_rfl)|(rw [if_neg (by decide+kernel)];exact ⟨rfl,rfl⟩))
  (fun os started H enc _=>lifted os started H enc)
theorem proved:Rows.ChainNewsSaid:=over
end Go.Proofs.YtdddfmkkbeihbaaGreat.chainNews
end
