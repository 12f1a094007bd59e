/- G: part 5 of an engine (a symbolic evaluator, proved against the model) and of the walk by it. -/
import Derived.Test.YtlmcmfkpjlgkcaaGreatG4
import Derived.Test.YtlmcmfkpjlgkcaaGreatRows
import Derived.ChangeOld
set_option linter.unusedVariables false
set_option linter.unusedSimpArgs false
set_option maxRecDepth 100000
set_option maxHeartbeats 0
section
namespace Go.Tk
open IntKind (i64 u8 u32 u64 wrap)
variable {f:Nat->List AV} {H:LI->LI} {a:Int} {ms:LI} {τ:Ren}
def ZbG (n i:Int):Int:=u8.wrap (Int.tmod (Zi .u64 (u64.wrap (u64.wrap n*8)) (u64.wrap (i64.wrap (56-i64.wrap (8*i))))) 256)
def XA (n:Int):Nat->LI
 | 0=>[]
 | i+1=>XA n i++[ZbG n i]
theorem Z1N (n:Int):∀i,(XA n i).length=i
 | 0=>rfl
 | i+1=>by rw [XA,J6,Z1N n i];rfl
def paS (bs ys:LI) (n L i:Nat):St:=⟨39,[(5,.int .i64 i),(4,.nslice ⟨3,0,0,0,0⟩ 1 L L),(0,.vints .u8 bs n)],⟨4,[(3,.ints .u8 ys)]⟩,[]⟩
theorem ZeC (bs ys zs:LI) (n L L' i:Nat) (Z1 Z2:Prop) (hi:i<=8) (hL:ys.length=L) (hb:L<10000000000000) (hz:zs=ys++[ZbG n i]) (hL':L'=zs.length) (h1:i<8->Z1) (h2:i=8->Z2):
  ZA G0 20 131 0 0 (paS bs ys n L i) (rdM 0 0 9 (paS bs zs n L' (i+1)) (paS bs ys n L i) (paS bs ys n L i) (paS bs ys n L i) Z1 Z2 False False):=by
 refine @Eq.mpr _ (let d:=wrap u64 (wrap i64 (56-wrap i64 (8*(↑i:Int))));let c:=ys++[wrap u8 (Int.tmod (Zi u64 (wrap u64 (wrap u64 (↑n:Int)*8)) d) 256)];let a:=c.length;let b:=decide (n=n);
 Z6 (decide ((↑i:Int)<8)) (Z5 (0<=d) (Z5 (u8=u8/\ys.length=L) (Z5 (a*1<=140737488355328) (Z5 (wrap i64 ((↑i:Int)+1)=(↑(i+1):Int)) (Z5 (a=L') (Z5 (L'<=a) (bs=bs/\Z0 b (c=zs/\Z1)))))))) (Z5 ((↑i:Int)=(↑i:Int)) (Z5 (L=L) (Z5 (L<=L) (bs=bs/\Z0 b (ys=ys/\Z2)))))) (by kernel_rfl) ?_
 conv=>zeta
 try simp only [vcA]
 try simp only [vcB]
 try simp only [vcC]
 have hw:i64.wrap ((i:Int)+1)=((i+1:Nat):Int):=w64 (by omega)
 refine ⟨fun hlt=> ?_,fun hge=>h2 (by omega)⟩
 have hz':zs.length=L+1:=by rw [hz,J6,hL];rfl
 have h0:0<=u64.wrap (i64.wrap (56-i64.wrap (8*(i:Int)))):=by
  unfold wrap
  simp [IntKind.bits,IntKind.signed]
  omega
 simp only [J6,Jh,Jy]
 rw [hw]
 repeat' (first|(refine Jq ?_ ?_)|intro _)
 all_goals first|exact h0|omega|exact hz.symm|exact h1 (by omega)|trivial
noncomputable def ZeD (bs y:LI) (n:Nat):Ze:=G0.withL 131 0 (goM 0 (paS bs (y++XA n 0) n (y++XA n 0).length 0) (y.length<=1000000000000) (YF 0 8 9 (fun i=>i<8) (fun i=>i=8) (fun _=>False) (fun _=>False) (fun i=>paS bs (y++XA n i) n (y++XA n i).length i) (fun i=>paS bs (y++XA n i) n (y++XA n i).length i) (fun i=>paS bs (y++XA n i) n (y++XA n i).length i)))
theorem ZbH (bs y:LI) (n:Nat):(ZeD bs y n).Ok:=by
 refine Ze.withGoM (N:=20) (S:=fun i=>paS bs (y++XA n i) n (y++XA n i).length i) Zr (by kernel_rfl) fun hC=>⟨rfl,fun i hi hgo=> ?_⟩
 grind [XA,Z1N,ZeC]
def Z0j (n:Nat):LI:=List.replicate (Int.tmod (i64.wrap (128-Int.tmod (i64.wrap ((n:Int)+9)) 64)) 64).toNat 0
@[irreducible] def UD (bs:LI):LI:=(bs++[128]++Z0j bs.length)++XA bs.length 8
theorem Zde (n:Nat) (h:n<=100000000000):Int.tmod (i64.wrap (128-Int.tmod (i64.wrap ((n:Int)+9)) 64)) 64=(128-((n:Int)+9)%64)%64:=by
 have e1:i64.wrap ((n:Int)+9)=(n:Int)+9:=w64 (by omega)
 have e2:Int.tmod ((n:Int)+9) 64=((n:Int)+9)%64:=tm (by omega)
 have e3:i64.wrap (128-((n:Int)+9)%64)=128-((n:Int)+9)%64:=w64 (by omega)
 rw [e1,e2,e3,tm (by omega)]
theorem Za4 (n:Nat) (h:n<=100000000000):(Z0j n).length<=64:=by
 grind [Z0j]
theorem ZeE (bs y r:LI) (n L:Nat) (hn:bs.length=n) (hb:n<=100000000000) (hy:y=bs++[128]++Z0j n) (hr:r=y++XA n 8) (hL:L=r.length):
  evF (ZeD bs y n) 20 131 [.vints .u8 bs n] ⟨0,[]⟩ (Wx 0 (.ret (.nslice ⟨0,0,0,0,0⟩ 1 L L)) 1 [(0,.ints .u8 r)]):=by
 refine @Eq.mpr _ (let o:=[]++List.take n bs;let b:=o.length;let h:=o++[(128:Int)];let a:=h.length;let g:=Int.tmod (wrap i64 (128-Int.tmod (wrap i64 (↑n+9)) 64)) 64;let f:=Int.toNat g;let e:=h++List.replicate f 0;let d:=e.length;let c:=y++XA (↑n) 0;let m:=c.length;
 Z5 (b*1<=140737488355328) (Z5 (u8=u8/\b=b) (Z5 (a*1<=140737488355328) (Z5 (u8=u8/\a=a) (Z5 ((0:Int)=0/\0<=g/\(a+f)*1<=140737488355328) (Z5 (d=m) (Z5 (m<=d) (bs=bs/\
 Z5 (n=n) (e=c/\
 y.length<=1000000000000/\
 ∀(i:Nat),
 let l:=y++XA (↑n) i;let k:=l.length;
 i<=8->(∀(j:Nat),j<i->(fun (i:Nat)=>i<8) j)->(i=8->Z5 (k=L) (Z5 (L<=k) (l=r/\True)))/\(False->False)/\(False->False)))))))))) (by kernel_rfl) ?_
 conv=>zeta
 try simp only [vcA]
 try simp only [vcB]
 try simp only [vcC]
 have ht:List.take n bs=bs:=by rw [<-hn];exact JD
 have hz:=Za4 n hb
 have hx:=Zde n hb
 have e0:[]++List.take n bs++[128]++List.replicate (Int.tmod (i64.wrap (128-Int.tmod (i64.wrap ((n:Int)+9)) 64)) 64).toNat 0=y++XA n 0:=by rw [ht,hy];simp [Z0j,XA]
 have hyl:y.length=n+1+(Z0j n).length:=by rw [hy,J6,J6,hn];rfl
 subst hL hr
 simp only [e0,ht,J6,Jh,Jy,hn,JO]
 refine ⟨by omega,by omega,⟨by omega,by omega⟩, ?_, ?_, ?_,by omega,fun i hi _=>⟨fun he=>by subst he;exact ⟨rfl,J2 _,rfl⟩,fun h=>h,fun h=>h⟩⟩
 ·rw [hyl];unfold Z0j XA;rfl
 ·rw [hyl];unfold Z0j XA;exact J2 _
 ·rw [hy];simp [Z0j,XA]
theorem Z87 (bs:LI) (h:bs.length<=100000000000):Zs PP 131 [.vints .u8 bs bs.length] (.nslice ⟨0,0,0,0,0⟩ 1 (UD bs).length (UD bs).length) 1 [(0,.ints .u8 (UD bs))]:=.evM (ZbH bs _ _) (ZeE bs _ _ _ _ rfl h rfl (by unfold UD;rfl) rfl)
def Zcl (P:LI->LI) (B:Nat):YY:=fun args h K=>ZJ none h true 20 args fun a=>VB a fun xs=>Z5 (xs.length<=B) (K (.ret (.nslice ⟨h.next,0,0,0,0⟩ 1 (P xs).length (P xs).length)) ⟨h.next+1,(h.next,.ints .u8 (P xs))::h.bs⟩)
theorem Za5 (B:Nat) (hB:B<=100000000000) (args:List AV) (h:Z7) (K:KO) (hl:Zcl UD B args h K):Zh PP 131 args h K:=by
 refine Zs.fsumm (d:=20) (Zm _ _ _ _ _ hl fun a ha=> ?_)
 obtain ⟨xs,rfl,hK⟩:=XO ha
 obtain ⟨hx,hK⟩:=Zc hK
 exact ⟨_,_,_,_,Z87 xs (JX hx hB),rfl,⟨JE,.ints _ _,trivial⟩,hK⟩
def toE (x d:Int):Int:=u8.wrap (Int.tmod (u32.wrap (Int.tdiv x d)) 256)
def toN (x:LI):Nat->LI
 | 0=>Z9
 | i+1=>((((toN x i).set (4*i) (u8.wrap (u32.wrap (Int.tdiv (x.getD i 0) 16777216)))).set (4*i+1) (toE (x.getD i 0) 65536)).set (4*i+2) (toE (x.getD i 0) 256)).set (4*i+3) (u8.wrap (Int.tmod (x.getD i 0) 256))
theorem Z3H (x:LI):∀i,(toN x i).length=32
 | 0=>rfl
 | i+1=>by simp [toN,Z3H x i]
def toS (x h:LI) (i:Nat):St:=⟨47,[(4,.int .i64 i),(1,pt 0),(3,pt 2),(2,pt 1)],⟨3,[(2,.flat [.arr .u8 32 h]),(1,.flat [.arr .u8 32 Z9]),(0,.flat [.arr .u32 8 x])]⟩,[]⟩
theorem Zfp (x h h':LI) (i:Nat) (Z1 Z2:Prop) (hi:i<=8) (hl:h.length=32) (hh:h'=(((h.set (4*i) (u8.wrap (u32.wrap (Int.tdiv (x.getD i 0) 16777216)))).set (4*i+1) (toE (x.getD i 0) 65536)).set (4*i+2) (toE (x.getD i 0) 256)).set (4*i+3) (u8.wrap (Int.tmod (x.getD i 0) 256))) (h1:i<8->Z1) (h2:i=8->Z2):
  ZA G0 20 133 0 0 (toS x h i) (rdM 0 0 9 (toS x h' (i+1)) (toS x h i) (toS x h i) (toS x h i) Z1 Z2 False False):=by
 refine @Eq.mpr _ (let d:=decide (0<=(↑i:Int)/\(↑i:Int)<8);let o:=0+Int.toNat (↑i:Int);let c:=decide (o<8);let a:=wrap i64 (4*(↑i:Int));let g:=0+Int.toNat a;let f:=wrap i64 (a+1);let e:=0+Int.toNat f;let b:=List.getD x o 0;let n:=List.set h g (wrap u8 (wrap u32 (Int.tdiv b 16777216)));let m:=wrap i64 (a+2);let l:=0+Int.toNat m;let q:=List.set n e (wrap u8 (Int.tmod (wrap u32 (Int.tdiv b 65536)) 256));let k:=wrap i64 (a+3);let j:=0+Int.toNat k;let p:=List.set q l (wrap u8 (Int.tmod (wrap u32 (Int.tdiv b 256)) 256));
 Z6 (decide ((↑i:Int)<8)) (Z0 d (Z0 c (Z5 (0<=a/\a<32) (Z5 (u8=u8/\g<32/\g<h.length) (Z0 d (Z0 c (Z5 (0<=f/\f<32) (Z5 (u8=u8/\e<32/\e<n.length) (Z0 d (Z0 c (Z5 (0<=m/\m<32) (Z5 (u8=u8/\l<32/\l<q.length) (Z0 d (Z0 c (Z5 (0<=k/\k<32) (Z5 (u8=u8/\j<32/\j<p.length) (Z5 (wrap i64 ((↑i:Int)+1)=(↑(i+1):Int)) (List.set p j (wrap u8 (Int.tmod b 256))=h'/\Z9=Z9/\x=x/\Z1)))))))))))))))))) (Z5 ((↑i:Int)=(↑i:Int)) (h=h/\Z9=Z9/\x=x/\Z2))) (by kernel_rfl) ?_
 conv=>zeta
 try simp only [vcA]
 try simp only [vcB]
 try simp only [vcC]
 have hw:i64.wrap ((i:Int)+1)=((i+1:Nat):Int):=w64 (by omega)
 refine ⟨fun hlt=> ?_,fun hge=>h2 (by omega)⟩
 have e0:i64.wrap (4*(i:Int))=((4*i:Nat):Int):=by rw [w64 (by omega)];omega
 have e1:i64.wrap (((4*i:Nat):Int)+1)=((4*i+1:Nat):Int):=by rw [w64 (by omega)];omega
 have e2:i64.wrap (((4*i:Nat):Int)+2)=((4*i+2:Nat):Int):=by rw [w64 (by omega)];omega
 have e3:i64.wrap (((4*i:Nat):Int)+3)=((4*i+3:Nat):Int):=by rw [w64 (by omega)];omega
 simp only [e0,e1,e2,e3,hw,Jo,List.length_set]
 repeat' (first|(refine Jq ?_ ?_)|intro _)
 all_goals first|omega|exact hh.symm|exact h1 (by omega)|trivial
noncomputable def ZeF (x:LI):Ze:=G0.withL 133 0 (goM 0 (toS x Z9 0) True (YF 0 8 9 (fun i=>i<8) (fun i=>i=8) (fun _=>False) (fun _=>False) (fun i=>toS x (toN x i) i) (fun i=>toS x (toN x i) i) (fun i=>toS x (toN x i) i)))
theorem ZbI (x:LI):(ZeF x).Ok:=by
 refine Ze.withGoM (N:=20) (S:=fun i=>toS x (toN x i) i) Zr (by kernel_rfl) fun hC=>⟨rfl,fun i hi hgo=> ?_⟩
 simp_all [Zfp,toN,Z3H]
@[irreducible] def Uf (x:LI):LI:=toN x 8
attribute [irreducible] toN
theorem Zfq (x r:LI) (hr:r=toN x 8):
  evF (ZeF x) 20 133 [.agg [.arr .u32 8 x]] ⟨0,[]⟩ (Y1 0 [] (.agg [.arr .u8 32 r]) 0 []):=by
 refine @Eq.mpr _ (Z9=Z9/\Z9=Z9/\x=x/\True/\∀(i:Nat),i<=8->(∀(j:Nat),j<i->(fun (i:Nat)=>i<8) j)->(i=8->toN x i=r/\True)/\(False->Z9=r/\True)/\(False->False)) (by kernel_rfl) ?_
 try simp only [vcA]
 try simp only [vcB]
 try simp only [vcC]
 subst hr
 exact fun i hi _=>⟨fun he=>by subst he;rfl,fun h=>h.elim,fun h=>h⟩
def Za6 (T:LI->LI):ZX:=fun args _ K=>match args with
 | [.agg [.arr .u32 8 x]]=>K (.agg [.arr .u8 32 (T x)])
 | _=>False
theorem Za7 (args:List AV) (h:Z7) (K:AV->Prop) (hl:Za6 Uf args h K):Zh PP 133 args h fun o h'=>∃v,o=.ret v/\h'=h/\K v:=by
 unfold Za6 at hl
 split at hl
 ·rename_i x
  refine Q2 (d:=20) (K0:=fun l=>l=[.agg [.arr .u32 8 x]]) ?_ fun l e=>⟨_,by rw [e];exact (by unfold Uf;exact .ev (ZbI x) (Zfq x _ rfl)),fun _=>rfl,hl⟩
  rfl
 simp_all
def Z3I (P:LI->LI->LI):ZX:=fun args _ K=>match args with
 | [.agg [.arr .u32 8 st],.agg [.arr .u8 64 bl]]=>Z5 (st.length=8) (K (.agg [.arr .u32 8 (P st bl)]))
 | _=>False
structure VV (P:LI->LI->LI):Prop where
 pure:∀st bl,st.length=8->Zs PP 132 [.agg [.arr .u32 8 st],.agg [.arr .u8 64 bl]] (.agg [.arr .u32 8 (P st bl)]) 0 []
 len:∀st bl,st.length=8->(P st bl).length=8
theorem Z6a {P:LI->LI->LI} (hP:VV P) (args:List AV) (h:Z7) (K:AV->Prop) (hl:Z3I P args h K):Zh PP 132 args h fun o h'=>∃v,o=.ret v/\h'=h/\K v:=by
 unfold Z3I at hl
 split at hl
 ·rename_i st bl
  obtain ⟨hs,hK⟩:=Zc hl
  refine Q2 (d:=20) (K0:=fun l=>l=[.agg [.arr .u32 8 st],.agg [.arr .u8 64 bl]]) ?_ fun l e=>⟨_,by rw [e];exact hP.pure st bl hs,fun _=>rfl,hK⟩
  rfl
 simp_all
noncomputable def E56 (P:LI->LI->LI) (Q:LI->LI) (T:LI->LI) (B:Nat):Ze:=((G0.withP 132 (Z3I P)).withF 131 (Zcl Q B)).withP 133 (Za6 T)
theorem Zdf {P:LI->LI->LI} (hP:VV P) {B:Nat} (hB:B<=100000000000):(E56 P UD Uf B).Ok:=Ze.withP_ok (Ze.withF_ok (Ze.withP_ok Zr (Z6a hP)) (Za5 B hB)) Za7
def ZbJ (ys st:LI) (o n:Nat):St:=⟨21,[(4,.nslice ⟨3,0,0,0,o⟩ 1 n n),(3,pt 2),(2,pt 0)],⟨4,[(3,.ints .u8 ys),(2,.flat [.arr .u32 8 st]),(0,.flat [.arr .u8 32 Z9])]⟩,[]⟩
def Z88 (st:LI):St:=⟨21,[(3,pt 2),(2,pt 0)],⟨4,[(2,.flat [.arr .u32 8 st]),(0,.flat [.arr .u8 32 Z9])]⟩,[]⟩
theorem ZeG (P:LI->LI->LI) (Q:LI->LI) (T:LI->LI) (B:Nat) (ys st st':LI) (o o' n n' k i:Nat) (Z1 Z2:Prop) (hi:i<=k) (hk:ys.length=64*k) (ho:o=64*i) (ho':o'=64*(i+1)) (hn:n=64*k-64*i) (hn':n'=64*k-64*(i+1)) (hs:st.length=8) (hst:st'=P st ((ys.drop o).take 64)) (h1:i<k->Z1) (h2:i=k->Z2):
  ZA (E56 P Q T B) 20 100 0 0 (ZbJ ys st o n) (rdM 0 0 9 (ZbJ ys st' o' n') (Z88 st) (Z88 st) (Z88 st) Z1 Z2 False False):=by
 refine @Eq.mpr _ (let c:=decide (n<=n);let b:=decide ((0:Int)<=64/\64<=(↑n:Int));let a:=V9 n (some 64);
 Z6 (decide ((↑n:Int)>0)) (Z0 c (Z0 b (Z5 (o+0+64<=ys.length) (Z5 (st.length=8) (Z0 c (Z0 b (Z5 (o+64=o') (Z5 (a=n') (Z5 (n'<=a) (ys=ys/\P st (List.take 64 (List.drop (o+0) ys))=st'/\Z9=Z9/\Z1)))))))))) (st=st/\Z9=Z9/\Z2)) (by kernel_rfl) ?_
 conv=>zeta
 try simp only [vcA]
 try simp only [vcB]
 try simp only [vcC]
 refine ⟨fun hlt=> ?_,fun hge=>h2 (by omega)⟩
 have e1:n-64=n':=by omega
 have e2:o+64=o':=by omega
 simp only [V9,e1,e2,JY]
 repeat' (first|(refine Jq ?_ ?_)|intro _)
 all_goals first|omega|exact hst.symm|exact h1 (by omega)|trivial
def Qa (P:LI->LI->LI) (ys:LI):Nat->LI
 | 0=>Yv.st
 | i+1=>P (Qa P ys i) ((ys.drop (64*i)).take 64)
theorem Z4F {P:LI->LI->LI} (hP:VV P) (ys:LI):∀i,(Qa P ys i).length=8
 | 0=>rfl
 | i+1=>hP.len _ _ (Z4F hP ys i)
theorem Z2O (P:LI->LI->LI) (ys:LI):Qa P ys 0=Yv.st:=rfl
theorem Z2P (P:LI->LI->LI) (ys:LI) (i:Nat):Qa P ys (i+1)=P (Qa P ys i) ((ys.drop (64*i)).take 64):=rfl
attribute [irreducible] Qa
noncomputable def ZeH (P:LI->LI->LI) (Q:LI->LI) (T:LI->LI) (B:Nat) (ys:LI) (L k:Nat):Ze:=(E56 P Q T B).withL 100 0 (goM 0 (ZbJ ys [1779033703,3144134277,1013904242,2773480762,1359893119,2600822924,528734635,1541459225] 0 L) (ys.length=64*k/\L=64*k) (YF 0 k 9 (fun i=>i<k) (fun i=>i=k) (fun _=>False) (fun _=>False) (fun i=>Z88 (Qa P ys i)) (fun i=>Z88 (Qa P ys i)) (fun i=>Z88 (Qa P ys i))))
theorem ZbK {P:LI->LI->LI} (hP:VV P) {B:Nat} (hB:B<=100000000000) (ys:LI) (L k:Nat):(ZeH P UD Uf B ys L k).Ok:=by
 refine Ze.withGoM (N:=20) (S:=fun i=>ZbJ ys (Qa P ys i) (64*i) (64*k-64*i)) (Zdf hP hB) (by kernel_rfl) fun hC=>⟨?_,fun i hi hgo=> ?_⟩
 ·rw [hC.2,Z2O];rfl
 grind [ZeG,Z4F,Z2P]
theorem ZeI (P:LI->LI->LI) (Q:LI->LI) (T:LI->LI) (B:Nat) (bs ys r:LI) (n L k:Nat) (hn:n=bs.length) (hB:n<=B) (hy:ys=Q bs) (hL:L=ys.length) (hk:ys.length=64*k) (hr:r=T (Qa P ys k)):
  evF (ZeH P Q T B ys L k) 20 100 [.vints .u8 bs n] ⟨0,[]⟩ (Y1 0 [] (.agg [.arr .u8 32 r]) 0 []):=by
 refine @Eq.mpr _ (let a:=[(1779033703:Int),3144134277,1013904242,2773480762,1359893119,2600822924,528734635,1541459225];
 Z5 (n=bs.length) (Z5 (bs.length<=B) (Z5 (List.length (Q bs)=L) (Z5 (L<=List.length (Q bs)) (Q bs=ys/\a=a/\Z9=Z9/\(ys.length=64*k/\L=64*k)/\∀(i:Nat),i<=k->(∀(j:Nat),j<i->(fun (i:Nat)=>i<k) j)->(i=k->T (Qa P ys i)=r/\True)/\(False->Z9=r/\True)/\(False->False)))))) (by kernel_rfl) ?_
 conv=>zeta
 try simp only [vcA]
 try simp only [vcB]
 try simp only [vcC]
 subst hy hr
 refine ⟨hn,by omega, ?_⟩
 exact ⟨hL.symm,by omega,rfl,⟨hk,by omega⟩,fun i hi _=>⟨fun he=>by rw [he],fun h=>h.elim,fun h=>h⟩⟩
theorem Za8 (bs:LI) (h:bs.length<=100000000000):(UD bs).length=64*((UD bs).length/64):=by
 grind [UD,Z0j,Zde,Z1N]
@[irreducible] def Za9 (P:LI->LI->LI) (bs:LI):LI:=Uf (Qa P (UD bs) ((UD bs).length/64))
theorem Z89 {P:LI->LI->LI} (hP:VV P) (bs:LI) (h:bs.length<=100000000000):Zs PP 100 [.vints .u8 bs bs.length] (.agg [.arr .u8 32 (Za9 P bs)]) 0 []:=by
 unfold Za9
 exact .ev (ZbK hP (J2 _) _ _ _) (ZeI P UD Uf 100000000000 bs _ _ _ _ _ rfl h rfl rfl (Za8 bs h) rfl)
def Z4G (H:LI->LI) (B:Nat):ZX:=fun args h K=>ZJ none h true 20 args fun a=>VB a fun xs=>Z5 (xs.length<=B) (K (.agg [.arr .u8 32 (H xs)]))
theorem Z4H {f:FuncId} {B:Nat} (hp:∀xs:LI,xs.length<=B->Zs PP f [.vints .u8 xs xs.length] (.agg [.arr .u8 32 (H xs)]) 0 []) (args:List AV) (h:Z7) (K:AV->Prop) (hl:Z4G H B args h K):Zh PP f args h fun o h'=>∃v,o=.ret v/\h'=h/\K v:=by
 refine Zs.psumm (d:=20) (Zm _ _ _ _ _ hl fun a ha=> ?_)
 obtain ⟨xs,rfl,hK⟩:=XO ha
 obtain ⟨hx,hK⟩:=Zc hK
 exact ⟨_,hp xs hx,fun _=>rfl,hK⟩
noncomputable def Zdg (H:LI->LI) (B:Nat):Ze:=G0.withP 100 (Z4G H B)
theorem ZeJ (H:LI->LI) (B:Nat) (bs r:LI) (n:Nat) (hn:n=bs.length) (hb:n<=B) (h32:32<=B) (hl:(H bs).length=32) (hr:r=H (H bs)):
  evF (Zdg H B) 20 55 [.vints .u8 bs n] ⟨0,[]⟩ (Y1 0 [] (.agg [.arr .u8 32 r]) 0 []):=by
 refine @Eq.mpr _ (let a:=List.length (H bs);
 Z5 (n=bs.length) (Z5 (bs.length<=B) (Z5 (a=32) (Z5 (32=a) (Z5 (a<=B) (H (H bs)=r/\True)))))) (by kernel_rfl) ?_
 conv=>zeta
 try simp only [vcA]
 try simp only [vcB]
 try simp only [vcC]
 subst hr
 exact ⟨hn,by omega,hl,hl.symm,by omega,rfl⟩
theorem Z6W {B:Nat} (hp:∀xs:LI,xs.length<=B->Zs PP 100 [.vints .u8 xs xs.length] (.agg [.arr .u8 32 (H xs)]) 0 []):(Zdg H B).Ok:=Ze.withP_ok Zr (Z4H hp)
def kxE (key:LI) (c:Int) (i:Nat):Int:=if (i:Int)<32 then Yf .u8 (key.getD i 0) c else c
def kxR (key:LI) (c:Int):Nat->LI
 | 0=>[]
 | i+1=>kxR key c i++[kxE key c i]
theorem Z0y (key:LI) (c:Int):∀i,(kxR key c i).length=i
 | 0=>rfl
 | i+1=>by rw [kxR,J6,Z0y key c i];rfl
def tgS (key ms xs ys:LI) (i:Nat):St:=⟨47,[(8,.int .i64 i),(0,.vints .u8 key 32),(6,.nslice ⟨1,0,0,0,0⟩ 1 i i),(7,.nslice ⟨2,0,0,0,0⟩ 1 i i),(1,.vints .u8 ms 32),(4,pt 0)],⟨3,[(2,.ints .u8 ys),(1,.ints .u8 xs),(0,.flat [.arr .u8 32 Z9])]⟩,[]⟩
def tgE (ms xs ys:LI) (i:Nat):St:=⟨47,[(6,.nslice ⟨1,0,0,0,0⟩ 1 i i),(7,.nslice ⟨2,0,0,0,0⟩ 1 i i),(1,.vints .u8 ms 32),(4,pt 0)],⟨3,[(2,.ints .u8 ys),(1,.ints .u8 xs),(0,.flat [.arr .u8 32 Z9])]⟩,[]⟩
theorem Zfr (key ms xs ys xs' ys':LI) (i:Nat) (Z1 Z2:Prop) (hi:i<=64) (hx:xs.length=i) (hy:ys.length=i) (hx':xs'=xs++[kxE key 54 i]) (hy':ys'=ys++[kxE key 92 i]) (h1:i<64->Z1) (h2:i=64->Z2):
  ZA G0 20 120 0 0 (tgS key ms xs ys i) (rdM 0 0 9 (tgS key ms xs' ys' (i+1)) (tgE ms xs ys i) (tgE ms xs ys i) (tgE ms xs ys i) Z1 Z2 False False):=by
 refine @Eq.mpr _ (let p:=decide (u8=u8/\xs.length=i);let k:=List.getD key (Int.toNat (↑i:Int)) 0;let j:=xs++[Yf u8 k 54];let c:=j.length;let h:=decide (u8=u8/\ys.length=i);let g:=ys++[Yf u8 k 92];let b:=g.length;let a:=i+1;let f:=decide (wrap i64 ((↑i:Int)+1)=(↑a:Int));let o:=xs++[(54:Int)];let e:=o.length;let n:=ys++[(92:Int)];let d:=n.length;let m:=decide (i=i);let l:=decide (i<=i);
 Z6 (decide ((↑i:Int)<64)) (Z6 (decide ((↑i:Int)<32)) (Z5 (0<=(↑i:Int)/\(↑i:Int)<32) (Z0 p (Z5 (c*1<=140737488355328) (Z0 h (Z5 (b*1<=140737488355328) (Z0 f (key=key/\Z5 (c=a) (Z5 (a<=c) (Z5 (b=a) (Z5 (a<=b) (ms=ms/\g=ys'/\j=xs'/\Z9=Z9/\Z1))))))))))) (Z0 p (Z5 (e*1<=140737488355328) (Z0 h (Z5 (d*1<=140737488355328) (Z0 f (key=key/\Z5 (e=a) (Z5 (a<=e) (Z5 (d=a) (Z5 (a<=d) (ms=ms/\n=ys'/\o=xs'/\Z9=Z9/\Z1))))))))))) (Z0 m (Z0 l (Z0 m (Z0 l (ms=ms/\ys=ys/\xs=xs/\Z9=Z9/\Z2)))))) (by kernel_rfl) ?_
 conv=>zeta
 try simp only [vcA]
 try simp only [vcB]
 try simp only [vcC]
 have hw:i64.wrap ((i:Int)+1)=((i+1:Nat):Int):=w64 (by omega)
 refine ⟨fun hlt=>⟨fun h32=> ?_,fun h32=> ?_⟩,fun hge=> ?_⟩
 ·unfold kxE at hx' hy'
  rw [if_pos h32] at hx' hy'
  simp only [hw,J6,Jh,Jy,hx,hy]
  repeat' (first|(refine Jq ?_ ?_)|intro _)
  all_goals first|omega|exact hx'.symm|exact hy'.symm|exact h1 (by omega)|trivial
 ·unfold kxE at hx' hy'
  rw [if_neg h32] at hx' hy'
  simp only [hw,J6,Jh,Jy,hx,hy]
  repeat' (first|(refine Jq ?_ ?_)|intro _)
  all_goals first|omega|exact hx'.symm|exact hy'.symm|exact h1 (by omega)|trivial
 ·exact h2 (by omega)
noncomputable def E57 (H:LI->LI) (B:Nat) (key ms:LI):Ze:=(Zdg H B).withL 120 0 (goM 0 (tgS key ms [] [] 0) True (YF 0 64 9 (fun i=>i<64) (fun i=>i=64) (fun _=>False) (fun _=>False) (fun i=>tgE ms (kxR key 54 i) (kxR key 92 i) i) (fun i=>tgE ms (kxR key 54 i) (kxR key 92 i) i) (fun i=>tgE ms (kxR key 54 i) (kxR key 92 i) i)))
theorem Zdh {B:Nat} (hp:∀xs:LI,xs.length<=B->Zs PP 100 [.vints .u8 xs xs.length] (.agg [.arr .u8 32 (H xs)]) 0 []) (key ms:LI):(E57 H B key ms).Ok:=by
 refine Ze.withL_join (H:=G0) (Z6W hp) rfl ?_
 refine Ze.withGoM (N:=20) (S:=fun i=>tgS key ms (kxR key 54 i) (kxR key 92 i) i) Zr (by kernel_rfl) fun hC=>⟨rfl,fun i hi hgo=> ?_⟩
 simp_all [Zfr,kxR,Z0y]
attribute [irreducible] kxR
theorem Z3J {xs:LI} {n:Nat} (h:xs.length=n):List.take n (ZS 0 xs)=xs:=by subst h;rw [Y6,List.drop_zero,JD]
theorem Zfs (H:LI->LI) (B:Nat) (key ms r:LI) (hk:key.length=32) (hm:ms.length=32) (hB:128<=B) (hl:∀x,(H x).length=32) (hr:r=H (kxR key 92 64++H (kxR key 54 64++ms))):
  evF (E57 H B key ms) 20 120 [.vints .u8 key 32,.vints .u8 ms 32] ⟨0,[]⟩ (Y1 0 [] (.agg [.arr .u8 32 r]) 0 []):=by
 refine @Eq.mpr _ (key=key/\
 ms=ms/\
 ([]:LI)=[]/\
 ([]:LI)=[]/\
 Z9=Z9/\
 True/\
 ∀(i:Nat),
 let o:=[]++List.take i (ZS 0 (kxR key 54 i));let d:=o.length;let k:=o++List.take 32 ms;let a:=k.length;let h:=List.take a (ZS 0 k);let g:=h.length;let f:=[]++List.take i (ZS 0 (kxR key 92 i));let c:=f.length;let e:=H h;let n:=f++e;let b:=n.length;let m:=List.take b (ZS 0 n);let l:=m.length;
 i<=64->(∀(j:Nat),j<i->(fun (i:Nat)=>i<64) j)->(i=64->Z5 (u8=u8/\0+i<=List.length (kxR key 54 i)) (Z5 (d*1<=140737488355328) (Z5 (u8=u8/\d=d) (Z5 (a*1<=140737488355328) (Z5 (0+a<=a) (Z5 (a=g) (Z5 (g<=B) (Z5 (u8=u8/\0+i<=List.length (kxR key 92 i)) (Z5 (c*1<=140737488355328) (Z5 (u8=u8/\e.length=32) (Z5 (u8=u8/\c=c) (Z5 (b*1<=140737488355328) (Z5 (0+b<=b) (Z5 (b=l) (Z5 (l<=B) (H m=r/\True))))))))))))))))/\(False->Z9=r/\True)/\(False->False)) (by kernel_rfl) ?_
 conv=>zeta
 try simp only [vcA]
 try simp only [vcB]
 try simp only [vcC]
 refine fun i hi _=>⟨fun he=> ?_,fun h=>h.elim,fun h=>h⟩
 subst he
 have a1:=Z0y key 54 64
 have a2:=Z0y key 92 64
 have e1:=Z3J a1
 have e2:=Z3J a2
 have e3:List.take 32 ms=ms:=by rw [<-hm];exact JD
 simp only [e1,e2,e3,JO,Z3J rfl]
 have l1:=hl (kxR key 54 64++ms)
 subst hr
 simp only [J6,a1,a2,hm,l1]
 repeat' (first|(refine Jq ?_ ?_)|intro _)
 all_goals first|omega|trivial
@[irreducible] def Z6X (H:LI->LI) (key ms:LI):LI:=H (kxR key 92 64++H (kxR key 54 64++ms))
theorem Z8a {B:Nat} (hp:∀xs:LI,xs.length<=B->Zs PP 100 [.vints .u8 xs xs.length] (.agg [.arr .u8 32 (H xs)]) 0 []) (hB:128<=B) (hl:∀x,(H x).length=32) (key ms:LI) (h1:key.length=32) (h2:ms.length=32):Zs PP 120 [.vints .u8 key 32,.vints .u8 ms 32] (.agg [.arr .u8 32 (Z6X H key ms)]) 0 []:=by
 unfold Z6X
 exact .ev (Zdh hp _ _) (Zfs H B _ _ _ h1 h2 hB hl rfl)
def Zcm (T:LI->LI->LI):ZX:=fun args h K=>ZJ none h true 20 args fun a=>match a with
 | [.vints .u8 key len,.vints .u8 ms len']=>Z5 (key.length=32/\len=32/\ms.length=32/\len'=32) (K (.agg [.arr .u8 32 (T key ms)]))
 | _=>False
theorem Zaa {B:Nat} (hp:∀xs:LI,xs.length<=B->Zs PP 100 [.vints .u8 xs xs.length] (.agg [.arr .u8 32 (H xs)]) 0 []) (hB:128<=B) (hl:∀x,(H x).length=32) (args:List AV) (h:Z7) (K:AV->Prop) (hl':Zcm (Z6X H) args h K):Zh PP 120 args h fun o h'=>∃v,o=.ret v/\h'=h/\K v:=by
 refine Zs.psumm (d:=20) (Zm _ _ _ _ _ hl' fun a ha=> ?_)
 split at ha
 ·obtain ⟨⟨h1,rfl,h2,rfl⟩,hK⟩:=Zc ha
  exact ⟨_,Z8a hp hB hl _ _ h1 h2,fun _=>rfl,hK⟩
 simp_all
@[irreducible] def V6 (H:LI->LI) (bs:LI):LI:=H (H bs)
theorem Z8b {B:Nat} (hp:∀xs:LI,xs.length<=B->Zs PP 100 [.vints .u8 xs xs.length] (.agg [.arr .u8 32 (H xs)]) 0 []) (hB:128<=B) (hl:∀x,(H x).length=32) (args:List AV) (h:Z7) (K:AV->Prop) (hl':Z4G (V6 H) B args h K):Zh PP 55 args h fun o h'=>∃v,o=.ret v/\h'=h/\K v:=by
 refine Z4H (fun xs hx=> ?_) args h K hl'
 unfold V6
 exact .ev (Z6W hp) (ZeJ H B xs _ _ rfl hx (by omega) (hl xs) rfl)
def U32 (x:Int):Prop:=0<=x/\x<4294967296
theorem Z4I (x:Int):u32.wrap x=x%4294967296:=by
 simp_all [wrap,IntKind.bits,IntKind.signed]
theorem Z1O (x:Int):U32 (u32.wrap x):=by rw [Z4I];unfold U32;omega
theorem X5 {x:Int} (h:U32 x):u32.wrap x=x:=by rw [Z4I];unfold U32 at h;omega
theorem wr8 (x:Int):u8.wrap x=x%256:=by
 simp_all [wrap,IntKind.bits,IntKind.signed]
theorem ZeK (x y:Int):U32 (bOr .u32 x y):=Z1O _
theorem W5 (x y:Nat) (hx:x<4294967296) (hy:y<4294967296):Yf .u32 x y=((x^^^y:Nat):Int):=by
 unfold Yf
 rw [X5]
 all_goals grind [U32,IntKind.bits]
theorem Z3K (x y:Nat) (hx:x<4294967296) (hy:y<4294967296):bOr .u32 x y=((x|||y:Nat):Int):=by
 unfold bOr
 rw [X5]
 ·show (((BitVec.ofInt 32 (x:Int)|||BitVec.ofInt 32 (y:Int)).toNat:Nat):Int)=_
  rw [BitVec.toNat_or,BitVec.ofInt_natCast,BitVec.ofInt_natCast,BitVec.toNat_ofNat,BitVec.toNat_ofNat,JR hx,JR hy]
 grind [U32,IntKind.bits]
theorem Z1P (x y:Nat) (hx:x<4294967296) (hy:y<4294967296):Z0c .u32 x y=((x&&&y:Nat):Int):=by
 unfold Z0c
 rw [X5]
 ·show (((BitVec.ofInt 32 (x:Int)&&&BitVec.ofInt 32 (y:Int)).toNat:Nat):Int)=_
  rw [BitVec.toNat_and,BitVec.ofInt_natCast,BitVec.ofInt_natCast,BitVec.toNat_ofNat,BitVec.toNat_ofNat,JR hx,JR hy]
 grind [U32,IntKind.bits]
theorem U32.nat {x:Int} (h:U32 x):∃n:Nat,x=n/\n<4294967296:=⟨x.toNat,by unfold U32 at h;omega,by unfold U32 at h;omega⟩
theorem U32.of {n:Nat} (h:n<4294967296):U32 (n:Int):=by unfold U32;omega
theorem Z8c {x y:Int}:Yf .u32 x y=Yf .u32 y x:=by unfold Yf;rw [BitVec.xor_comm]
theorem Z6b {x y z:Int} (hx:U32 x) (hy:U32 y) (hz:U32 z):Yf .u32 (Yf .u32 x y) z=Yf .u32 x (Yf .u32 y z):=by
 obtain ⟨x,rfl,gx⟩:=hx.nat
 obtain ⟨y,rfl,gy⟩:=hy.nat
 obtain ⟨z,rfl,gz⟩:=hz.nat
 rw [W5 x y gx gy,W5 y z gy gz,W5 _ z (K1 (n:=32) gx gy) gz,W5 x _ gx (K1 (n:=32) gy gz),Nat.xor_assoc]
theorem Z8d {x:Int} (hx:U32 x):Yf .u32 0 x=x:=by
 obtain ⟨x,rfl,gx⟩:=hx.nat
 have:=W5 0 x (by omega) gx
 simp_all
theorem Z3L (x n:Nat) (hn:n<=32):Zi .u32 x n=((x/2^n:Nat):Int):=by
 grind [Zi,IntKind.bits]
theorem ZeL {x:Int} (hx:U32 x) (n:Nat) (hn:n<=32):U32 (Zi .u32 x n):=by
 obtain ⟨x,rfl,gx⟩:=hx.nat
 rw [Z3L x n hn]
 exact U32.of (Jr (Nat.div_le_self x (2^n)) gx)
theorem Z6c (w n:Int):U32 (Z5L w n):=ZeK _ _
theorem Z6Y {w:Int} (hw:U32 w) (a b c:Int):sg3 a b c w=XJ 32 [a,b,c] w:=by
 obtain ⟨x,rfl,gx⟩:=hw.nat
 have h0:Zi .u32 (x:Int) 32=0:=by
  rw [show (32:Int)=((32:Nat):Int) from rfl,Z3L x 32 (by omega),Nat.div_eq_of_lt gx]
  rfl
 simp_all [sg3,XJ,Z8d,Z6c]
theorem Z6Z {w:Int} (hw:U32 w) (a b:Int) (n:Nat) (hn:n<=32):rg3 a b n w=XJ n [a,b] w:=by
 have hs:=ZeL hw n hn
 unfold rg3 XJ
 simp only [List.foldl_cons,List.foldl_nil]
 rw [Z8c,Z6b hs (Z6c _ _) (Z6c _ _)]
theorem XP (x i:Nat) (hi:i<=32):Int.tmod (Zi .u32 x i) 2=(((x.testBit i).toNat:Nat):Int):=by
 rw [Z3L x i hi]
 rw [Int.tmod_eq_emod_of_nonneg (Int.natCast_nonneg _),Nat.toNat_testBit]
 rfl
theorem Z3M (b:Bool) (i:Nat) (hi:i<32):Zt .u32 ((b.toNat:Nat):Int) i=((2^i*b.toNat:Nat):Int):=by
 unfold Zt
 have:min (i:Int).toNat u32.bits=i:=by simp [IntKind.bits];omega
 rw [this]
 have h2:(2:Nat)^i<2^32:=Nat.pow_lt_pow_right (by decide) hi
 have h3:((2:Nat)^i*b.toNat)<4294967296:=by cases b<;>simp_all
 rw [show ((b.toNat:Nat):Int)*2^i=((2^i*b.toNat:Nat):Int) by push_cast;rw [Int.mul_comm]]
 exact X5 (U32.of h3)
theorem Z70 (x i:Nat):x%2^(i+1)=x%2^i+2^i*(x.testBit i).toNat:=by
 rw [Nat.toNat_testBit,Nat.mod_pow_succ]
theorem Z71 (x i:Nat) (hx:x<4294967296) (hi:i<32):u32.wrap (((x%2^i:Nat):Int)+((2^i*(x.testBit i).toNat:Nat):Int))=((x%2^(i+1):Nat):Int):=by
 rw [Z70]
 rw [X5]
 ·omega
 ·rw [show ((x%2^i:Nat):Int)+((2^i*(x.testBit i).toNat:Nat):Int)=((x%2^i+2^i*(x.testBit i).toNat:Nat):Int) by omega,<-Z70]
  exact U32.of (Jr (Nat.mod_le _ _) hx)
theorem Z2Q (a b c:Nat) (ha:a<4294967296) (hb:b<4294967296) (hc:c<4294967296):∀i,i<=32->WS a b c i=(((a&&&(b|||c)|||b&&&c)%2^i:Nat):Int)
 | 0,_=>by simp [WS]
 | i+1,hi=>by
  have hm:(a&&&(b|||c)|||b&&&c)<4294967296:=Nat.or_lt_two_pow (n:=32) (Jr K2 ha) (Jr K2 hb)
  rw [WS,Z2Q a b c ha hb hc i (by omega),XP a i (by omega),XP b i (by omega),XP c i (by omega),<-Z71 _ i hm (by omega)]
  have ht:(a&&&(b|||c)|||b&&&c).testBit i=(a.testBit i&&(b.testBit i||c.testBit i)||b.testBit i&&c.testBit i):=by simp
  rw [ht]
  have h1:=Z3M true i (by omega)
  have hx:u32.wrap (((a&&&(b|||c)|||b&&&c)%2^i:Nat):Int)=(((a&&&(b|||c)|||b&&&c)%2^i:Nat):Int):=X5 (U32.of (Jr (Nat.mod_le _ _) hm))
  rw [Z4I,Z4I]
  cases a.testBit i<;>cases b.testBit i<;>cases c.testBit i<;>simp at h1 hx⊢ <;>first|rw [h1]|rw [hx]
theorem ZbL {b c:Int} (ha:U32 a) (hb:U32 b) (hc:U32 c):YK a b c=bOr .u32 (Z0c .u32 a (bOr .u32 b c)) (Z0c .u32 b c):=by
 obtain ⟨a,rfl,ga⟩:=ha.nat
 obtain ⟨b,rfl,gb⟩:=hb.nat
 obtain ⟨c,rfl,gc⟩:=hc.nat
 have h1:=Nat.or_lt_two_pow (n:=32) gb gc
 have h2:a&&&(b|||c)<4294967296:=Jr K2 ga
 have h3:b&&&c<4294967296:=Jr K2 gb
 rw [Z3K b c gb gc,Z1P a _ ga h1,Z1P b c gb gc,Z3K _ _ h2 h3]
 unfold YK
 rw [Z2Q a b c ga gb gc 32 (by omega),JR]
 exact Nat.or_lt_two_pow (n:=32) h2 h3
theorem Z2R (a b c:Nat) (ha:a<4294967296) (hb:b<4294967296) (hc:c<4294967296):∀i,i<=32->V8 a b c i=(((c^^^(a&&&(b^^^c)))%2^i:Nat):Int)
 | 0,_=>by simp [V8]
 | i+1,hi=>by
  have hm:(c^^^(a&&&(b^^^c)))<4294967296:=K1 (n:=32) hc (Jr K2 ha)
  rw [V8,Z2R a b c ha hb hc i (by omega),XP a i (by omega),XP b i (by omega),XP c i (by omega),<-Z71 _ i hm (by omega)]
  have ht:(c^^^(a&&&(b^^^c))).testBit i=(c.testBit i^^(a.testBit i&&(b.testBit i^^c.testBit i))):=by simp
  rw [ht]
  have h1:=Z3M true i (by omega)
  have h0:=Z3M false i (by omega)
  cases a.testBit i<;>cases b.testBit i<;>cases c.testBit i<;>simp at h1 h0⊢ <;>first|rw [h1]|rw [h0,Int.add_zero]
theorem ZbM {b c:Int} (ha:U32 a) (hb:U32 b) (hc:U32 c):YG a b c=Yf .u32 c (Z0c .u32 a (Yf .u32 b c)):=by
 obtain ⟨a,rfl,ga⟩:=ha.nat
 obtain ⟨b,rfl,gb⟩:=hb.nat
 obtain ⟨c,rfl,gc⟩:=hc.nat
 have h1:=K1 (n:=32) gb gc
 have h2:a&&&(b^^^c)<4294967296:=Jr K2 ga
 rw [W5 b c gb gc,Z1P a _ ga h1,W5 _ _ gc h2]
 unfold YG
 rw [Z2R a b c ga gb gc 32 (by omega),JR]
 exact K1 (n:=32) gc h2
theorem Z2S (bl:LI) (t:Nat):Xz bl (t+1)=(Xz bl t).set t (if t<16 then Z69 bl t else Za3 (Xz bl t) t):=by rw [Xz]
theorem Z2T (bl:LI) (s t:Nat) (hs:s<t):∀u,(Xz bl (t+u)).getD s 0=(Xz bl t).getD s 0
 | 0=>rfl
 | u+1=>by
  rw [<-Nat.add_assoc,Z2S,<-Z2T bl s t hs u]
  simp only [JH]
  rw [List.getElem?_set_ne (by omega)]
@[irreducible] def Z0k (bl:LI) (t:Nat):Int:=(Xz bl 64).getD t 0
theorem Qb (bl:LI) {s t:Nat} (hs:s<t) (ht:t<=64):(Xz bl t).getD s 0=Z0k bl s:=by
 unfold Z0k
 have:=Z2T bl s t hs (64-t)
 rw [show t+(64-t)=64 by omega] at this
 omega
theorem Z72 (bl:LI) {t:Nat} (ht:t<64):Z0k bl t=if t<16 then Z69 bl t else Za3 (Xz bl t) t:=by
 rw [<-Qb bl (Nat.lt_succ_self t) (by omega),Z2S]
 simp_all [Z1L]
theorem Z73 (bl:LI) {t:Nat} (ht:t<16):Z0k bl t=Z69 bl t:=by rw [Z72 bl (by omega),if_pos ht]
theorem Z74 (bl:LI) {t:Nat} (h16:16<=t) (ht:t<64):Z0k bl t=u32.wrap (u32.wrap (u32.wrap (rg3 17 19 10 (Z0k bl (t-2))+Z0k bl (t-7))+rg3 7 18 3 (Z0k bl (t-15)))+Z0k bl (t-16)):=by
 rw [Z72 bl (by omega),if_neg (by omega)]
 unfold Za3
 rw [Qb bl (by omega) (by omega),Qb bl (by omega) (by omega),Qb bl (by omega) (by omega),Qb bl (by omega) (by omega)]
theorem Zab (bl:LI) {t:Nat} (ht:t<64):U32 (Z0k bl t):=by
 by_cases h:t<16
 ·rw [Z73 bl h];exact Z1O _
 simp_all [Z74,Z1O]
theorem Qc (t:Nat):mAt (t:Int)=t%16:=by
 unfold mAt
 rw [tm (by omega)]
 omega
theorem Wm (i t:Nat) (hi:i<8) (ht:t<=64):atI (i:Int) (t:Int)=(i+64-t)%8:=by
 grind [atI,w64]
theorem Z1Q (l:LI) (i j:Nat) (x:Int) (hi:i<l.length):(l.set i x).getD j 0=if i=j then x else l.getD j 0:=by
 grind
def Ring (bl r:LI) (t:Nat):Prop:=r.length=16/\∀s,s<max 16 t->max 16 t<=s+16->r.getD (s%16) 0=Z0k bl s
theorem Ring.step {bl r:LI} {t:Nat} (h:Ring bl r t) (ht:t<64):Ring bl (Uy t r) (t+1):=by
 obtain ⟨hl,hr⟩:=h
 refine ⟨by rw [Z4w,hl],fun s h1 h2=> ?_⟩
 unfold Uy
 by_cases h16:t<16
 ·grind
 ·rw [if_pos (by omega)]
  have w1:i64.wrap ((t:Int)+1)=((t+1:Nat):Int):=by rw [w64 (by omega)];omega
  have w9:i64.wrap ((t:Int)+9)=((t+9:Nat):Int):=by rw [w64 (by omega)];omega
  have w14:i64.wrap ((t:Int)+14)=((t+14:Nat):Int):=by rw [w64 (by omega)];omega
  have r0:=hr (t-16) (by omega) (by omega)
  have r1:=hr (t-15) (by omega) (by omega)
  have r9:=hr (t-7) (by omega) (by omega)
  have r14:=hr (t-2) (by omega) (by omega)
  rw [show (t-16)%16=t%16 by omega] at r0
  rw [show (t-15)%16=(t+1)%16 by omega] at r1
  rw [show (t-7)%16=(t+9)%16 by omega] at r9
  rw [show (t-2)%16=(t+14)%16 by omega] at r14
  rw [w1,w9,w14,Qc,Qc,Qc,Qc,r0,r1,r9,r14,Z1Q _ _ _ _ (by omega)]
  by_cases hs:s=t
  ·subst hs
   rw [if_pos rfl,Z74 bl (by omega) ht]
   have e1:=Z6Z (Zab bl (t:=s-2) (by omega)) 17 19 10 (by omega)
   have e2:=Z6Z (Zab bl (t:=s-15) (by omega)) 7 18 3 (by omega)
   rw [show ((10:Nat):Int)=10 from rfl] at e1
   rw [show ((3:Nat):Int)=3 from rfl] at e2
   simp only [Z4I]
   omega
  grind
def U8 (x:Int):Prop:=0<=x/\x<256
theorem Z0z (x n:Nat) (hn:n<=32) (h:x*2^n<4294967296):Zt .u32 x n=((x*2^n:Nat):Int):=by
 unfold Zt
 have:min (n:Int).toNat u32.bits=n:=by simp [IntKind.bits];omega
 rw [this,show (x:Int)*2^n=((x*2^n:Nat):Int) by simp_all]
 exact X5 (U32.of h)
theorem Z0A (x y:Nat) (hx:x<16777216) (hy:y<256):bOr .u32 (Zt .u32 x 8) y=((x*256+y:Nat):Int):=by
 have:=Z0z x 8 (by omega) (by omega)
 rw [show ((8:Nat):Int)=8 from rfl] at this
 rw [this,Z3K _ _ (by omega) (by omega),<-Nat.shiftLeft_eq,<-Nat.shiftLeft_add_eq_or_of_lt (by omega),Nat.shiftLeft_eq]
theorem VF {P:Int->Prop} {l:LI} (h:∀x∈l,P x) (h0:P 0) (i:Nat):P (l.getD i 0):=by
 grind
theorem U8.nat {x:Int} (h:U8 x):∃n:Nat,x=n/\n<256:=⟨x.toNat,by unfold U8 at h;omega,by unfold U8 at h;omega⟩
theorem ZbN (bl:LI) (hb:∀x∈bl,U8 x) (t:Nat):X8 bl (4*t)=Z69 bl t:=by
 unfold X8 Z69
 obtain ⟨a,ea,ha⟩:=(VF (P:=U8) hb (by unfold U8;omega) (4*t)).nat
 obtain ⟨b,eb,hb'⟩:=(VF (P:=U8) hb (by unfold U8;omega) (4*t+1)).nat
 obtain ⟨c,ec,hc⟩:=(VF (P:=U8) hb (by unfold U8;omega) (4*t+2)).nat
 obtain ⟨d,ed,hd⟩:=(VF (P:=U8) hb (by unfold U8;omega) (4*t+3)).nat
 rw [ea,eb,ec,ed]
 rw [X5 (x:=(a:Int)) (U32.of (by omega)),X5 (x:=(b:Int)) (U32.of (by omega)),X5 (x:=(c:Int)) (U32.of (by omega)),X5 (x:=(d:Int)) (U32.of (by omega))]
 have z:=Z0A 0 a (by omega) ha
 have s0:Zt .u32 0 8=0:=by decide
 rw [show Zt .u32 ((0:Nat):Int) 8=0 from s0] at z
 rw [z,Z0A _ b (by omega) hb',Z0A _ c (by omega) hc,Z0A _ d (by omega) hd]
 have g1:=Z0z a 24 (by omega) (by omega)
 have g2:=Z0z b 16 (by omega) (by omega)
 have g3:=Z0z c 8 (by omega) (by omega)
 rw [show ((24:Nat):Int)=24 from rfl] at g1
 rw [show ((16:Nat):Int)=16 from rfl] at g2
 rw [show ((8:Nat):Int)=8 from rfl] at g3
 simp only [Z4I]
 omega
theorem Ring.first (bl:LI) (hb:∀x∈bl,U8 x):Ring bl (Ww bl) 0:=by
 refine ⟨rfl,fun s h1 _=> ?_⟩
 have h16:s<16:=by omega
 rw [Z73 bl h16,<-ZbN bl hb,JR h16]
 have:s=0\/s=1\/s=2\/s=3\/s=4\/s=5\/s=6\/s=7\/s=8\/s=9\/s=10\/s=11\/s=12\/s=13\/s=14\/s=15:=by omega
 rcases this with rfl|rfl|rfl|rfl|rfl|rfl|rfl|rfl|rfl|rfl|rfl|rfl|rfl|rfl|rfl|rfl<;>rfl
def Z1R (x y:LI) (t:Nat):Prop:=x.length=8/\∀i,i<8->x.getD ((i+64-t)%8) 0=y.getD i 0
theorem Z1R.step {x y m:LI} {w:Int} {t:Nat} (h:Z1R x y t) (hU:∀i,i<8->U32 (y.getD i 0)) (ht:t<64) (hm:m.getD (t%16) 0=w):
  Z1R (Z4v t m x) (Z08 YK YG (Wv.getD t 0) w y) (t+1):=by
 obtain ⟨hl,hr⟩:=h
 have a0:=Wm 0 t (by omega) (by omega)
 have a1:=Wm 1 t (by omega) (by omega)
 have a2:=Wm 2 t (by omega) (by omega)
 have a3:=Wm 3 t (by omega) (by omega)
 have a4:=Wm 4 t (by omega) (by omega)
 have a5:=Wm 5 t (by omega) (by omega)
 have a6:=Wm 6 t (by omega) (by omega)
 have a7:=Wm 7 t (by omega) (by omega)
 have h0:=hr 0 (by omega)
 have h1:=hr 1 (by omega)
 have h2:=hr 2 (by omega)
 have h3:=hr 3 (by omega)
 have h4:=hr 4 (by omega)
 have h5:=hr 5 (by omega)
 have h6:=hr 6 (by omega)
 have h7:=hr 7 (by omega)
 rw [<-a0] at h0
 rw [<-a1] at h1
 rw [<-a2] at h2
 rw [<-a3] at h3
 rw [<-a4] at h4
 rw [<-a5] at h5
 rw [<-a6] at h6
 rw [<-a7] at h7
 refine ⟨by rw [Z4x,hl], ?_⟩
 have hadd:Z3y t m x=u32.wrap (u32.wrap (u32.wrap (u32.wrap (y.getD 7 0+sg3 6 11 25 (y.getD 4 0))+YG (y.getD 4 0) (y.getD 5 0) (y.getD 6 0))+Wv.getD t 0)+w):=by
  unfold Z3y
  rw [Qc,hm]
  rw [show atI 7 (t:Int)=atI ((7:Nat):Int) t from rfl,show atI 4 (t:Int)=atI ((4:Nat):Int) t from rfl,show atI 5 (t:Int)=atI ((5:Nat):Int) t from rfl,show atI 6 (t:Int)=atI ((6:Nat):Int) t from rfl]
  rw [h4,h5,h6,h7,Z6Y (hU 4 (by omega)),ZbM (hU 4 (by omega)) (hU 5 (by omega)) (hU 6 (by omega))]
  rw [Jp,Jo]
 unfold Z4v
 rw [hadd]
 rw [show atI 7 (t:Int)=atI ((7:Nat):Int) t from rfl,show atI 3 (t:Int)=atI ((3:Nat):Int) t from rfl,show atI 0 (t:Int)=atI ((0:Nat):Int) t from rfl,show atI 1 (t:Int)=atI ((1:Nat):Int) t from rfl,show atI 2 (t:Int)=atI ((2:Nat):Int) t from rfl]
 rw [h0,h1,h2,h3,<-ZbL (hU 0 (by omega)) (hU 1 (by omega)) (hU 2 (by omega)),<-Z6Y (hU 0 (by omega)),a3,a7]
 intro i hi
 rw [Z1Q _ _ _ _ (by rw [List.length_set,hl];omega),Z1Q _ _ _ _ (by omega)]
 unfold Z08
 have:i=0\/i=1\/i=2\/i=3\/i=4\/i=5\/i=6\/i=7:=by omega
 rcases this with rfl|rfl|rfl|rfl|rfl|rfl|rfl|rfl
 ·grind [Z4I]
 ·rw [if_neg (by omega),if_neg (by omega),show (1+64-(t+1))%8=(0+64-t)%8 by omega,hr 0 (by omega)];rfl
 ·rw [if_neg (by omega),if_neg (by omega),show (2+64-(t+1))%8=(1+64-t)%8 by omega,hr 1 (by omega)];rfl
 ·rw [if_neg (by omega),if_neg (by omega),show (3+64-(t+1))%8=(2+64-t)%8 by omega,hr 2 (by omega)];rfl
 ·rw [if_neg (by omega),if_pos (by omega)];rfl
 ·rw [if_neg (by omega),if_neg (by omega),show (5+64-(t+1))%8=(4+64-t)%8 by omega,hr 4 (by omega)];rfl
 ·rw [if_neg (by omega),if_neg (by omega),show (6+64-(t+1))%8=(5+64-t)%8 by omega,hr 5 (by omega)];rfl
 ·rw [if_neg (by omega),if_neg (by omega),show (7+64-(t+1))%8=(6+64-t)%8 by omega,hr 6 (by omega)];rfl
theorem ZbO {k w:Int} {y:LI} (hU:∀i,i<8->U32 (y.getD i 0)):∀i,i<8->U32 ((Z08 YK YG k w y).getD i 0):=by
 intro i hi
 unfold Z08
 have:i=0\/i=1\/i=2\/i=3\/i=4\/i=5\/i=6\/i=7:=by omega
 rcases this with rfl|rfl|rfl|rfl|rfl|rfl|rfl|rfl
 all_goals simp_all [Z1O]
def W8 (st:LI):Prop:=st.length=8/\∀x∈st,U32 x
theorem W8.get {st:LI} (h:W8 st) (i:Nat):U32 (st.getD i 0):=VF h.2 (by unfold U32;omega) i
theorem Z4J (bl st:LI) (hb:∀x∈bl,U8 x) (hs:W8 st):∀t,t<=64->Ring bl (WL (Ww bl) st t).1 t/\Z1R (WL (Ww bl) st t).2 (VE YK YG (Xz bl 64) st t) t/\∀i,i<8->U32 ((VE YK YG (Xz bl 64) st t).getD i 0)
 | 0,_=>by
  rw [Z2z,Z86]
  refine ⟨Ring.first bl hb,⟨hs.1,fun i hi=> ?_⟩,fun i _=>hs.get i⟩
  rw [show (i+64-0)%8=i by omega]
 | t+1,h=>by
  obtain ⟨h1,h2,h3⟩:=Z4J bl st hb hs t (by omega)
  rw [Z2A,Z85]
  have hR:=h1.step (by omega)
  refine ⟨hR,h2.step h3 (by omega) ?_,ZbO h3⟩
  rw [hR.2 t (by omega) (by omega)]
  unfold Z0k
  rfl
theorem Z8e (st x:LI) (i:Nat):WT st x (i+1)=(WT st x i).set i (u32.wrap ((WT st x i).getD i 0+st.getD i 0)):=by rw [WT]
theorem Z8f (st x:LI):WT st x 0=x:=by rw [WT]
theorem ZbP (st x:LI) (hs:st.length=8) (hx:x.length=8):WT st x 8=Z7N st x:=by
 obtain ⟨a0,a1,a2,a3,a4,a5,a6,a7,rfl⟩:=eight st hs
 obtain ⟨b0,b1,b2,b3,b4,b5,b6,b7,rfl⟩:=eight x hx
 simp_all [Z8e,Z8f,Z7N,Int.add_comm]
theorem Z6d {x y:LI} (h:Z1R x y 64) (hy:y.length=8):y=x:=by
 obtain ⟨h4,h5⟩:=h
 obtain ⟨a0,a1,a2,a3,a4,a5,a6,a7,rfl⟩:=eight _ hy
 obtain ⟨b0,b1,b2,b3,b4,b5,b6,b7,rfl⟩:=eight _ h4
 have g0:=h5 0 (by omega)
 have g1:=h5 1 (by omega)
 have g2:=h5 2 (by omega)
 have g3:=h5 3 (by omega)
 have g4:=h5 4 (by omega)
 have g5:=h5 5 (by omega)
 have g6:=h5 6 (by omega)
 have g7:=h5 7 (by omega)
 simp_all
theorem Z4K (st bl:LI) (hb:∀x∈bl,U8 x) (hs:W8 st):X4 st bl=Xs st bl:=by
 obtain ⟨_,h2,h3⟩:=Z4J bl st hb hs 64 (by omega)
 have hl:=Q9 (M:=YK) (P:=YG) (m:=Xz bl 64) hs.1 64
 unfold X4 Xs
 rw [ZbP _ _ hs.1 hl]
 congr 1
 exact Z6d h2 hl
theorem Z4L (st bl:LI) (hs:st.length=8):W8 (Xs st bl):=by
 refine ⟨Z2B st bl hs,fun x hx=> ?_⟩
 grind [Xs,Z7N,List.getElem_of_mem,Z1O]
def U0 (P:LI->LI->LI):Nat->LI->LI->LI
 | 0,st,_=>st
 | n+1,st,ms=>U0 P n (P st (ms.take 64)) (ms.drop 64)
theorem QK (P:LI->LI->LI):∀(n:Nat) (st ms:LI),U0 P (n+1) st ms=P (U0 P n st ms) ((ms.drop (64*n)).take 64)
 | 0,_,_=>rfl
 | n+1,st,ms=>by
  rw [U0,QK P n,List.drop_drop]
  rw [show 64+64*n=64*(n+1) by omega]
  rfl
theorem Z1S (P:LI->LI->LI):∀(n:Nat) (st ms more:LI),64*n<=ms.length->U0 P n st (ms++more)=U0 P n st ms
 | 0,_,_,_,_=>rfl
 | n+1,st,ms,more,h=>by
  rw [U0,U0,List.take_append_of_le_length (by omega),JQ (by omega),Z1S P n _ _ _ (by rw [Jd];omega)]
theorem Z1T:∀(n:Nat) (st ms:LI),W8 st->(∀x∈ms,U8 x)->U0 X4 n st ms=U0 Xs n st ms
 | 0,_,_,_,_=>rfl
 | n+1,st,ms,hs,hm=>by
  rw [U0,U0,Z4K st _ (fun x hx=>hm x (List.mem_of_mem_take hx)) hs]
  exact Z1T n _ _ (Z4L st _ hs.1) fun x hx=>hm x (List.mem_of_mem_drop hx)
structure Rep (r:Zq) (ms:LI):Prop where
 came:r.came=ms.length
 st:r.st=U0 Xs (ms.length/64) Yv.st ms
 len:r.part.length=64
 part:r.part.take (ms.length%64)=ms.drop (64*(ms.length/64))
theorem Rep.ok {r:Zq} (h:Rep r ms) (h8:r.st.length=8):r.Ok:=⟨h8,h.len,by rw [h.came];omega⟩
theorem Rep.one {r:Zq} (h:Rep r ms) (bs:LI):Rep (r.one bs) (ms++wTk r.came bs):=by
 have ha:wAt r.came=ms.length%64:=by
  unfold wAt
  rw [h.came,tm (by omega)]
  omega
 have hk:(wTk r.came bs).length<=64-ms.length%64:=by
  grind [wTk]
 have hdl:(ms.drop (64*(ms.length/64))).length=ms.length%64:=by rw [Jd];omega
 have hp:VA r.part r.came bs=ms.drop (64*(ms.length/64))++wTk r.came bs++r.part.drop (ms.length%64+(wTk r.came bs).length):=by
  unfold VA spl
  rw [ha,h.part]
 have hl:(VA r.part r.came bs).length=64:=by
  rw [hp,J6,J6,hdl,Jd,h.len]
  omega
 have hst:(r.one bs).st=if ms.length%64+(wTk r.came bs).length=64 then Xs r.st (VA r.part r.came bs) else r.st:=by
  show wSt _ _ _ _=_
  unfold wSt
  rw [ha]
 have hca:(r.one bs).came=r.came+(wTk r.came bs).length:=rfl
 have hpa:(r.one bs).part=VA r.part r.came bs:=rfl
 generalize wTk r.came bs=tk at*
 have hal:(ms++tk).length=ms.length+tk.length:=J6
 refine ⟨by rw [hca,h.came,hal];omega, ?_,by rw [hpa];exact hl, ?_⟩
 ·rw [hst,h.st]
  by_cases h64:ms.length%64+tk.length=64
  ·rw [if_pos h64,hal,show (ms.length+tk.length)/64=ms.length/64+1 by omega,QK,Z1S _ _ _ _ _ (by omega)]
   rw [JQ (by omega),hp,show r.part.drop (ms.length%64+tk.length)=[] from List.drop_eq_nil_of_le (by rw [h.len];omega),JG,JS (by rw [J6,hdl];omega)]
  grind [Z1S]
 ·rw [hpa,hal]
  by_cases h64:ms.length%64+tk.length=64
  ·rw [show (ms.length+tk.length)%64=0 by omega,List.take_zero,List.drop_eq_nil_of_le (by omega)]
  ·rw [show (ms.length+tk.length)/64=ms.length/64 by omega,show (ms.length+tk.length)%64=ms.length%64+tk.length by omega,hp,JQ (by omega)]
   grind
theorem Rep.many:∀(n:Nat) (r:Zq) (ms bs:LI),r.Ok->Rep r ms->bs.length<=n->Rep (Zq.many n r bs).1 (ms++bs)
 | 0,r,ms,bs,_,h,hn=>by
  have:bs=[]:=Jz (by omega)
  subst this
  rw [JG]
  exact h
 | n+1,r,ms,bs,hr,h,hn=>by
  unfold Zq.many
  split
  ·rw [JG];exact h
  ·rename_i b bs
   have hp:=VS hr (bs:=b::bs) (by simp)
   have hb:(b::bs)=wTk r.came (b::bs)++(b::bs).drop (wTk r.came (b::bs)).length:=by
    grind [wTk,List.take_append_drop]
   have:=Rep.many n _ _ ((b::bs).drop (wTk r.came (b::bs)).length) (hr.one _) (h.one (b::bs)) (by rw [Jd];omega)
   rw [Jv,<-hb] at this
   exact this
theorem Rep.write {r:Zq} (hr:r.Ok) (h:Rep r ms) (bs:LI):Rep (r.write bs) (ms++bs):=by
 simp_all [Zq.write,Rep.many]
theorem Rep.init:Rep Yv []:=⟨rfl,rfl,rfl,rfl⟩
def QL (bs:LI):LI:=bs++VZ bs.length++len8 bs.length
def Z6e (P:LI->LI->LI) (bs:LI):LI:=Z2E (U0 P ((QL bs).length/64) Yv.st (QL bs))
theorem Rep.fin {r:Zq} (hr:r.Ok) (h:Rep r ms):r.fin=Z6e Xs ms:=by
 have h1:=h.write hr (VZ r.came)
 have h2:=h1.write (WM _ _ hr) (len8 r.came)
 unfold Zq.fin Z6e
 rw [h2.st,h.came]
 rfl
theorem Z4M (bs:LI):QA bs=Z6e Xs bs:=by
 unfold QA
 have:=Rep.init.write WN bs
 exact this.fin (WM _ _ WN)
theorem Z4N:W8 Yv.st:=by
 refine ⟨rfl,fun x hx=> ?_⟩
 simp only [Yv,J5,JI,or_false] at hx
 unfold U32
 rcases hx with rfl|rfl|rfl|rfl|rfl|rfl|rfl|rfl<;>omega
theorem ZbQ (n:Int):∀x∈VZ n,U8 x:=by
 grind [VZ,U8]
theorem Zac (x:Int):U8 (u8.wrap x):=by rw [wr8];unfold U8;omega
theorem ZbR (n:Int):∀x∈len8 n,U8 x:=by
 intro x hx
 unfold len8 Q6 at hx
 simp only [J5,JI,or_false] at hx
 rcases hx with h|h|h|h|h|h|h|h<;>rw [h]<;>exact Zac _
theorem Z8g {bs:LI} (h:∀x∈bs,U8 x):∀x∈QL bs,U8 x:=by
 grind [QL,ZbQ,ZbR]
theorem Zad (n:Int):∀x∈Wj n,U8 x:=by
 intro x hx
 unfold Wj at hx
 simp only [J5,JI,or_false] at hx
 rcases hx with h|h|h|h<;>rw [h]<;>exact Zac _
theorem Zae (st:LI):∀x∈Z2E st,U8 x:=by
 intro x hx
 unfold Z2E at hx
 simp only [JT] at hx
 rcases hx with (((((((h|h)|h)|h)|h)|h)|h)|h)<;>exact Zad _ x h
theorem Z75 (bs:LI):∀x∈QA bs,U8 x:=by rw [Z4M];exact Zae _
theorem ZbS:VV X4:=⟨fun st bl h=>Z4E st bl h,fun _ _ h=>Z3G h⟩
def four (x:Int):LI:=[u8.wrap (u32.wrap (Int.tdiv x 16777216)),toE x 65536,toE x 256,u8.wrap (Int.tmod x 256)]
theorem Z8h (x:LI):(Uf x).length=32:=by unfold Uf;exact Z3H x 8
theorem Z6f (x:LI) (h:x.length=8):Uf x=four (x.getD 0 0)++four (x.getD 1 0)++four (x.getD 2 0)++four (x.getD 3 0)++four (x.getD 4 0)++four (x.getD 5 0)++four (x.getD 6 0)++four (x.getD 7 0):=by
 kernel_rfl
theorem ZeM (x:Int):u64.wrap x=x%18446744073709551616:=by
 simp_all [wrap,IntKind.bits,IntKind.signed]
theorem Z76 (x n:Nat) (hn:n<=64):Zi .u64 x n=((x/2^n:Nat):Int):=by
 grind [Zi,IntKind.bits]
theorem YU {x:Int} (h:U32 x):four x=Wj (u64.wrap x):=by
 obtain ⟨x,rfl,gx⟩:=h.nat
 have e:u64.wrap (x:Int)=x:=by rw [ZeM];omega
 have s24:=Z76 x 24 (by omega)
 have s16:=Z76 x 16 (by omega)
 have s8:=Z76 x 8 (by omega)
 have s0:=Z76 x 0 (by omega)
 rw [show ((24:Nat):Int)=24 from rfl] at s24
 rw [show ((16:Nat):Int)=16 from rfl] at s16
 rw [show ((8:Nat):Int)=8 from rfl] at s8
 rw [show ((0:Nat):Int)=0 from rfl] at s0
 have d1:Int.tdiv (x:Int) 16777216=(x:Int)/16777216:=Int.tdiv_eq_ediv_of_nonneg (by omega)
 have d2:Int.tdiv (x:Int) 65536=(x:Int)/65536:=Int.tdiv_eq_ediv_of_nonneg (by omega)
 have d3:Int.tdiv (x:Int) 256=(x:Int)/256:=Int.tdiv_eq_ediv_of_nonneg (by omega)
 unfold four Wj toE
 rw [e,s24,s16,s8,s0,d1,d2,d3]
 simp only [wr8,Z4I]
 rw [tm (a:=(x:Int)/65536%4294967296) (by omega),tm (a:=(x:Int)/256%4294967296) (by omega),tm (a:=(x:Int)) (by omega)]
 simp_all
theorem Z6g {x:LI} (h:W8 x):Uf x=Z2E x:=by
 rw [Z6f x h.1]
 unfold Z2E
 rw [YU (h.get 0),YU (h.get 1),YU (h.get 2),YU (h.get 3),YU (h.get 4),YU (h.get 5),YU (h.get 6),YU (h.get 7)]
theorem YV (n:Nat) (i:Nat) (hi:i<8):ZbG n i=u8.wrap (Zi .u64 (u64.wrap (u64.wrap n*8)) ((56-8*i:Nat):Int)):=by
 grind [ZbG,w64,ZeM,wr8]
theorem Z8i (n:Nat):XA n 8=len8 n:=by
 simp only [XA,JO]
 rw [YV n 0 (by omega),YV n 1 (by omega),YV n 2 (by omega),YV n 3 (by omega),YV n 4 (by omega),YV n 5 (by omega),YV n 6 (by omega),YV n 7 (by omega)]
 rfl
theorem Z8j (n:Nat) (h:n<=100000000000):[128]++Z0j n=VZ n:=by
 unfold Z0j VZ
 have e1:Int.tmod (n:Int) 64=(n:Int)%64:=tm (by omega)
 have e2:i64.wrap (119-(n:Int)%64)=119-(n:Int)%64:=w64 (by omega)
 rw [Zde n h,e1,e2,tm (by omega)]
 grind
theorem Zaf (bs:LI) (h:bs.length<=100000000000):UD bs=QL bs:=by
 unfold UD QL
 rw [Z8i,Jv bs,Z8j _ h]
theorem Z2U (P:LI->LI->LI) (ys:LI):∀i,Qa P ys i=U0 P i Yv.st ys
 | 0=>Z2O P ys
 | i+1=>by rw [Z2P,QK,Z2U P ys i]
theorem Z77:∀(n:Nat) (st ms:LI),W8 st->W8 (U0 Xs n st ms)
 | 0,_,_,h=>h
 | n+1,st,_,h=>Z77 n _ _ (Z4L st _ h.1)
@[irreducible] def Z0l (bs:LI):LI:=Za9 X4 bs
theorem Z1U (bs:LI):(Z0l bs).length=32:=by unfold Z0l Za9;exact Z8h _
theorem Z78 {bs:LI} (h:∀x∈bs,U8 x) (hl:bs.length<=100000000000):Z0l bs=QA bs:=by
 unfold Z0l Za9
 rw [Z2U,Zaf bs hl,Z1T _ _ _ Z4N (Z8g h),Z6g (Z77 _ _ _ Z4N),Z4M]
 rfl
theorem Z2V (xs:LI) (h:xs.length<=100000000000):Zs PP 100 [.vints .u8 xs xs.length] (.agg [.arr .u8 32 (Z0l xs)]) 0 []:=by
 unfold Z0l
 exact Z89 ZbS xs h
theorem Zag {bs:LI} (h:∀x∈bs,U8 x) (hl:bs.length<=100000000000):V6 Z0l bs=VC bs:=by
 unfold V6 VC
 rw [Z78 h hl,Z78 (Z75 _) (by rw [Z1y];decide)]
structure Zdi (H:LI->LI) (T2:LI->LI->LI):Prop where
 h:∀args h K,Z4G H 100000 args h K->Zh PP 55 args h fun o h'=>∃v,o=.ret v/\h'=h/\K v
 t:∀args h K,Zcm T2 args h K->Zh PP 120 args h fun o h'=>∃v,o=.ret v/\h'=h/\K v
 r:∀args h K,Zer (Z82 Zz) args h K->Zh PP 99 args h K
 hl:∀x,(H x).length=32
theorem Zdj:Zdi (V6 Z0l) (Z6X Z0l) where
 h:=fun args h K hl=>Z8b (B:=100000) (fun xs hx=>Z2V xs (by omega)) (by decide) Z1U args h K hl
 t:=fun args h K hl=>Zaa (B:=100000) (fun xs hx=>Z2V xs (by omega)) (by decide) Z1U args h K hl
 r:=Z68
 hl:=fun x=>by unfold V6;exact Z1U _
def QM (W:Int->LI) (b:LI) (s:Int):LI:=b++(W s++W 0)
noncomputable def ZeN (W:Int->LI) (T:Int) (H:LI->LI) (B:Nat):Ze:=((G0.withF 47 (Z9T W T)).withF 96 Z6T).withP 49 (Z9q H B)
theorem ZbT:(ZeN Zz 4611686018427387904 VC 100).Ok:=Ze.withP_ok (Ze.withF_ok (Ze.withF_ok Zr Z9U) Z63) (Z9s 100 (by decide) (by decide))
theorem Zft (W:Int->LI) (T:Int) (H:LI->LI) (B:Nat) (b z:LI) (s:Int) (hW:W=Zz) (hT:T=4611686018427387904) (hB:B=100) (hb:b.length=32) (hs:0<=s/\s<=2147483647) (hz:z=H (QM W b s)):
  evF (ZeN W T H B) 20 14 [.agg [.arr .u8 32 b,.int .i64 s,.nilslice]] ⟨0,[]⟩ (Z1J (fun v=>v=.tuple [.agg [.arr .u8 32 z],.int .i64 0])):=by
 refine @Eq.mpr _ (let m:=[]++b;let c:=m.length;let i:=m++W s++W 0;let a:=i.length;let h:=0+a;let g:=List.take a (ZS 0 i);let f:=g.length;let e:=List.take a (ZS 0 g);let d:=e.length;let l:=[AV.int i64 0];let k:=AV.tuple (AV.agg [AV.arr u8 32 z]::l);let j:=AV.tuple [AV.agg [AV.arr u8 32 Z9],AV.int i64 2]=k;
 Z6 (decide (0<=s)) (Z6 (decide (s<=2147483647)) (Z5 (u8=u8/\b.length=32) (Z5 (c*1<=140737488355328) (Z5 (c=c/\c<80000000000000/\(0<=s/\s<=T)/\(0:Int)<=0/\0<=T) (Z5 (h<=a) (Z5 (f=a/\a<90000000000000) (Z5 (h<=f) (Z5 (a=d) (Z5 (d<=B) (AV.tuple (AV.agg [AV.arr u8 32 (H e)]::l)=k))))))))) j) j) (by kernel_rfl) ?_
 conv=>zeta
 try simp only [vcA]
 try simp only [vcB]
 try simp only [vcC]
 subst hW
 have l1:=ZC s
 have l0:=ZC 0
 simp only [Y6,List.drop_zero,JD,JO]
 have e:b++Zz s++Zz 0=QM Zz b s:=by unfold QM;rw [Jv]
 have el:(QM Zz b s).length=32+(Zz s).length+(Zz 0).length:=by rw [<-e];simp only [J6];omega
 simp only [e,el,<-hz,J6]
 refine ⟨fun h1=>⟨fun h2=> ?_,fun h=>by omega⟩,fun h=>by omega⟩
 repeat' apply Jq
 all_goals first|trivial|rfl|omega|(rw [el];omega)
noncomputable def Zcn (W:Int->LI) (H:LI->LI) (B:Nat):Ze:=(G0.withF 52 (Z6V W)).withP 55 (Z4G H B)
theorem Zah:(Zcn Zz (V6 Z0l) 100000).Ok:=Ze.withP_ok (Ze.withF_ok Zr Z4C) Zdj.h
theorem ZeO (W:Int->LI) (H:LI->LI) (B:Nat) (b z:LI) (s:Int) (hW:W=Zz) (hB:B=100000) (hb:b.length=32) (hs:0<=s/\s<=2147483647) (hz:z=H (QM W b s)):
  evF (Zcn W H B) 20 15 [.agg [.arr .u8 32 b,.int .i64 s,.nilslice]] ⟨0,[]⟩ (Z1J (fun v=>v=.tuple [.agg [.arr .u8 32 z],.int .i64 0])):=by
 refine @Eq.mpr _ (let n:=[]++b;let f:=n.length;let e:=List.length (W s);let i:=n++List.take e (ZS 0 (W s));let d:=i.length;let c:=List.length (W 0);let h:=i++List.take c (ZS 0 (W 0));let a:=h.length;let g:=List.take a (ZS 0 h);let m:=g.length;let l:=[AV.int i64 0];let k:=AV.tuple (AV.agg [AV.arr u8 32 z]::l);let j:=AV.tuple [AV.agg [AV.arr u8 32 Z9],AV.int i64 2]=k;
 Z6 (decide (s>=0)) (Z6 (decide (s<=2147483647)) (Z5 (u8=u8/\b.length=32) (Z5 (f*1<=140737488355328) (Z5 (0<=s) (Z5 (u8=u8/\0+e<=e) (Z5 (u8=u8/\f=f) (Z5 (d*1<=140737488355328) (Z5 (u8=u8/\0+c<=c) (Z5 (u8=u8/\d=d) (Z5 (a*1<=140737488355328) (Z5 (0+a<=a) (Z5 (a=m) (Z5 (m<=B) (AV.tuple (AV.agg [AV.arr u8 32 (H g)]::l)=k))))))))))))) j) j) (by kernel_rfl) ?_
 conv=>zeta
 try simp only [vcA]
 try simp only [vcB]
 try simp only [vcC]
 subst hW
 have l1:=ZC s
 have l0:=ZC 0
 simp only [Y6,List.drop_zero,JD,JO]
 have e:b++Zz s++Zz 0=QM Zz b s:=by unfold QM;rw [Jv]
 have el:(QM Zz b s).length=32+(Zz s).length+(Zz 0).length:=by rw [<-e];simp only [J6];omega
 simp only [e,el,<-hz,J6]
 refine ⟨fun h1=>⟨fun h2=> ?_,fun h=>by omega⟩,fun h=>by omega⟩
 repeat' apply Jq
 all_goals first|trivial|rfl|omega|(rw [el];omega)
theorem Zs.evW {G:Ze} (hG:G.Ok) {n:Nat} {f:FuncId} {args:List AV} {v:AV} (h:evF G n f args ⟨0,[]⟩ (Z1J fun u=>u=v)):Zs G.P f args v 0 []:=by
 intro E w rs he hr
 refine (Qq hG h E w rs he hr).mono ?_
 rintro e w' ⟨E₁,o,h',hK0,hev,hor⟩
 cases hor with
 | panic u r hr=>exact hK0.elim
 | ret u r hr=>
  unfold Z1J at hK0
  simp only at hK0
  split at hK0
  ·rename_i hu
   subst hK0
   refine ⟨E,r,rfl,⟨.refl E,⟨he.fresh,fun x B hx=>by simp [Z7.get,ZB] at hx,fun x B hx=>by simp [Z7.get,ZB] at hx,fun x y B B' b N N' hx=>by simp [Z7.get,ZB] at hx,fun a c hi=>hev.emb.imm a c (hev.le.imm a c hi),fun a c x B N _ hx=>by simp [Z7.get,ZB] at hx⟩,hev.size,hev.os,hev.tape,hev.output,hev.keep,fun b hb=> ?_,fun _ _ h=>h⟩,Zb.vplain (E:=E₁) (E':=E) (fun a c hi=>hev.imm a c hi) _ _ hu hr⟩
   obtain ⟨x,B,N,hx,_⟩:=hb
   simp [Z7.get,ZB] at hx
  ·exact hK0.elim
def VG (e:Nat) (a:AV) (K:Nat->(Nat->List AV)->Prop):Prop:=match a with
 | .vrows e' n f m=>Z5 (e'=e/\m=n) (K n f)
 | .nilslice=>K 0 (fun _=>[])
 | _=>False
theorem XQ {e:Nat} {a:AV} {K:Nat->(Nat->List AV)->Prop} (h:VG e a K):∃n f,K n f/\a.isCell=true/\∀E r,Zb E a r->Zb E (.vrows e n f n) r:=by
 unfold VG at h
 split at h
 ·obtain ⟨⟨rfl,rfl⟩,hK⟩:=Zc h
  exact ⟨_,_,hK,rfl,fun _ _ h=>h⟩
 ·refine ⟨_,_,h,rfl,fun E r hr=> ?_⟩
  cases hr
  exact .vrowsNil _ _ _ _ rfl rfl
 ·exact h.elim
structure Y5 where
 name:LI
 index:Int
 out:Y2
variable {L:List Y5}
def Y5.c (x:Y5):List AV:=[.arr .u8 32 x.name,.int .i64 x.index,.int .i64 x.out.kind,.int .i64 x.out.amount,.arr .u8 32 x.out.owner,.arr .u8 32 x.out.other,.arr .u8 32 x.out.point,.arr .u8 32 x.out.hash,.int .i64 x.out.delay,.int .i64 x.out.expiry]
def Zai:Y5:=⟨Z9,0,⟨0,0,Z9,Z9,Z9,Z9,0,0⟩⟩
def ZU (L:List Y5) (i:Nat):List AV:=(L.getD i Zai).c
theorem Z09 (L:List Y5) (i:Nat):plainC (ZU L i)=true:=rfl
theorem W6 {k:Nat} {n:Nat} (h:∀i,i<n->f i=ZU L i):Zd k τ n (ZU L) f:=
 YT h (fun i _=>Z09 L i) (fun i _ v hv=>by
  simp only [ZU,Y5.c,J5,JI,or_false] at hv
  rcases hv with rfl|rfl|rfl|rfl|rfl|rfl|rfl|rfl|rfl|rfl<;>first|exact .inl rfl|exact .inr ⟨_,_,_,rfl⟩)
theorem ZeP (N:Nat) (L:List Y5) (hN:N+1<1000000):
  evF G0 20 27 [.vrows 165 (N+1) (ZU L) (N+1)] ⟨0,[]⟩ (Wx 0 (.ret (.nslice ⟨0,0,165,0,0⟩ 165 (N+1) (N+1))) 1 [(0,.rows 165 (N+1) (ZU L))]):=by
 refine @Eq.mpr _ (let a:=N+1;let b:=0+a;let c:=decide (b=a);
 Z5 (b*200<=140737488355328) (Z0 c (Z5 (a<=b) (Z0 c (Zd 0 [(0,0)] a (ZU L) (XG 0 (fun (x:Nat)=>[]) (ZU L))/\True))))) (by kernel_rfl) ?_
 conv=>zeta
 try simp only [vcA]
 try simp only [vcB]
 try simp only [vcC]
 repeat' apply Jq
 all_goals first|omega|exact W6 fun i hi=>by rw [VU (Jt _)];rfl
theorem ZeQ (L:List Y5) :
  evF G0 20 27 [.nilslice] ⟨0,[]⟩ (Wx 0 (.ret (.nslice ⟨0,0,165,0,0⟩ 165 0 0)) 1 [(0,.rows 165 0 (ZU L))]):=by
 refine @Eq.mpr _ (True) (by kernel_rfl) ?_
 trivial
theorem ZeR (L:List Y5) :
  evF G0 20 27 [.fslice] ⟨0,[]⟩ (Wx 0 (.ret (.nslice ⟨0,0,165,0,0⟩ 165 0 0)) 1 [(0,.rows 165 0 (ZU L))]):=by
 refine @Eq.mpr _ (Zd 0 [(0,0)] 0 (ZU L) (XG 0 (fun (x:Nat)=>[]) fun (x:Nat)=>[])/\True) (by kernel_rfl) ?_
 try simp only [vcA]
 try simp only [vcB]
 try simp only [vcC]
 first|exact W6 fun i hi=>by omega|exact ⟨W6 fun i hi=>by omega,trivial⟩
theorem Zaj (N:Nat) (L:List Y5) (hN:N<1000000):Zs PP 27 [.vrows 165 N (ZU L) N] (.nslice ⟨0,0,165,0,0⟩ 165 N N) 1 [(0,.rows 165 N (ZU L))]:=by
 cases N with
 | zero=>exact Zs.vrows0 (.evM Zr (ZeQ L)) (.evM Zr (ZeR L))
 | succ n=>exact .evM Zr (ZeP n L hN)
inductive Z3N (f:Nat->List AV) (L:List Y5) (n:Nat):Prop
 | mk:(∀i,i<n->f i=ZU L i)->Z3N f L n
def ZeS (L:List Y5):YY:=fun args h K=>ZJ none h true 60 args fun a=>match a with
 | [x]=>VG 165 x fun n f=>Z3N f L n/\n<1000000/\K (.ret (.nslice ⟨h.next,0,165,0,0⟩ 165 n n)) ⟨h.next+1,(h.next,.rows 165 n (ZU L))::h.bs⟩
 | _=>False
theorem ZbU (L:List Y5) (args:List AV) (h:Z7) (K:KO) (hl:ZeS L args h K):Zh PP 27 args h K:=by
 refine Zs.fsumm (d:=60) (Zm _ _ _ _ _ hl fun a ha=> ?_)
 split at ha
 ·obtain ⟨n,f,ha,hx,hx2⟩:=XQ ha
  obtain ⟨⟨hf⟩,hN,hK⟩:=ha
  exact ⟨_,_,_,_,(Zaj _ L hN).conv fun E r hr=>hr.head (fun _ hc=>(hx2 E _ hc).rowsC fun i hi=>hf i hi) fun _ hc=>hc,rfl,⟨JE,.rows _ _ _ (fun i _=>Z09 _ i),trivial⟩,hK⟩
 ·exact ha.elim
def nmA (N:LI->Int->LI) (s:Nat->Int):Nat->LI
 | 0=>Z9
 | i+1=>N (nmA N s i) (s i)
def bkR (M:Nat->LI) (s:Nat->Int) (i:Nat):List AV:=[.arr .u8 32 (M i),.int .i64 (s i),.nilslice]
def kpR (M:Nat->LI) (s:Nat->Int) (i:Nat):List AV:=[.arr .u8 32 (M i),.int .i64 (s i),.nilslice,.arr .u8 32 (M (i+1))]
theorem Z8k (M:Nat->LI) (s:Nat->Int) (i:Nat):plainC (bkR M s i)=true:=rfl
theorem VW (M:Nat->LI) (s:Nat->Int) (i:Nat):plainC (kpR M s i)=true:=rfl
theorem XB {k:Nat} {n:Nat} {M:Nat->LI} {s:Nat->Int} (h:∀i,i<n->f i=bkR M s i):Zd k τ n (bkR M s) f:=
 YT h (fun i _=>Z8k M s i) (fun i _ v hv=>by
  simp only [bkR,J5,JI,or_false] at hv
  rcases hv with rfl|rfl|rfl<;>first|exact .inl rfl|exact .inr ⟨_,_,_,rfl⟩)
theorem Xj {k:Nat} {n:Nat} {M:Nat->LI} {s:Nat->Int} (h:∀i,i<n->f i=kpR M s i):Zd k τ n (kpR M s) f:=
 YT h (fun i _=>VW M s i) (fun i _ v hv=>by
  simp only [kpR,J5,JI,or_false] at hv
  rcases hv with rfl|rfl|rfl|rfl<;>first|exact .inl rfl|exact .inr ⟨_,_,_,rfl⟩)
inductive QN (f:Nat->List AV) (M:Nat->LI) (s:Nat->Int) (n:Nat):Prop
 | mk:(∀i,i<n->f i=kpR M s i)->QN f M s n
theorem QN.rows {M:Nat->LI} {s:Nat->Int} {n k:Nat} (h:QN f M s n) {g:Nat->List AV} (hg:∀i,i<n->g i=f i):Zd k τ n f g:=by
 obtain ⟨hf⟩:=h
 refine YT hg (fun i hi=>by rw [hf i hi];exact VW M s i) (fun i hi v hv=> ?_)
 rw [hf i hi] at hv
 simp only [kpR,J5,JI,or_false] at hv
 rcases hv with rfl|rfl|rfl|rfl<;>first|exact .inl rfl|exact .inr ⟨_,_,_,rfl⟩
theorem ZeT (N:Nat) (f:Nat->List AV) (M:Nat->LI) (s:Nat->Int) (hN:N+1<1000000) (hf:QN f M s (N+1)):
  evF G0 20 40 [.vrows 66 (N+1) f (N+1)] ⟨0,[]⟩ (Wx 0 (.ret (.nslice ⟨0,0,66,0,0⟩ 66 (N+1) (N+1))) 1 [(0,.rows 66 (N+1) f)]):=by
 refine @Eq.mpr _ (let a:=N+1;let b:=0+a;let c:=decide (b=a);
 Z5 (b*96<=140737488355328) (Z0 c (Z5 (a<=b) (Z0 c (Zd 0 [(0,0)] a f (XG 0 (fun (x:Nat)=>[]) f)/\True))))) (by kernel_rfl) ?_
 conv=>zeta
 try simp only [vcA]
 try simp only [vcB]
 try simp only [vcC]
 repeat' apply Jq
 all_goals first|omega|exact hf.rows fun i hi=>by rw [VU (Jt _)];rfl
theorem ZeU (f:Nat->List AV) :
  evF G0 20 40 [.nilslice] ⟨0,[]⟩ (Wx 0 (.ret (.nslice ⟨0,0,66,0,0⟩ 66 0 0)) 1 [(0,.rows 66 0 f)]):=by
 refine @Eq.mpr _ (True) (by kernel_rfl) ?_
 trivial
theorem ZeV (f:Nat->List AV) :
  evF G0 20 40 [.fslice] ⟨0,[]⟩ (Wx 0 (.ret (.nslice ⟨0,0,66,0,0⟩ 66 0 0)) 1 [(0,.rows 66 0 f)]):=by
 refine @Eq.mpr _ (Zd 0 [(0,0)] 0 f (XG 0 (fun (x:Nat)=>[]) fun (x:Nat)=>[])/\True) (by kernel_rfl) ?_
 try simp only [vcA]
 try simp only [vcB]
 try simp only [vcC]
 first|exact YT (fun i hi=>by omega) (fun i hi=>by omega) (fun i hi=>by omega)|exact ⟨YT (fun i hi=>by omega) (fun i hi=>by omega) (fun i hi=>by omega),trivial⟩
theorem Zak (N:Nat) (f:Nat->List AV) (M:Nat->LI) (s:Nat->Int) (hN:N<1000000) (hf:QN f M s N):Zs PP 40 [.vrows 66 N f N] (.nslice ⟨0,0,66,0,0⟩ 66 N N) 1 [(0,.rows 66 N f)]:=by
 cases N with
 | zero=>exact Zs.vrows0 (.evM Zr (ZeU f)) (.evM Zr (ZeV f))
 | succ n=>exact .evM Zr (ZeT n f M s hN hf)
def ZeW (M:Nat->LI) (s:Nat->Int) (o:Nat->Nat):YY:=fun args h K=>ZJ none h true 40 args fun a=>match a with
 | [x]=>VG 66 x fun n f=>QN f (fun i=>M (o n+i)) (fun i=>s (o n+i)) n/\n<1000000/\K (.ret (.nslice ⟨h.next,0,66,0,0⟩ 66 n n)) ⟨h.next+1,(h.next,.rows 66 n (kpR (fun i=>M (o n+i)) (fun i=>s (o n+i))))::h.bs⟩
 | _=>False
theorem ZbV (M:Nat->LI) (s:Nat->Int) (o:Nat->Nat) (args:List AV) (h:Z7) (K:KO) (hl:ZeW M s o args h K):Zh PP 40 args h K:=by
 refine Zs.fsumm (d:=40) (Zm _ _ _ _ _ hl fun a ha=> ?_)
 split at ha
 ·obtain ⟨n,f,ha,hx,hx2⟩:=XQ ha
  obtain ⟨⟨hf⟩,hN,hK⟩:=ha
  exact ⟨_,_,_,_,(Zak _ _ _ _ hN ⟨fun _ _=>rfl⟩).conv fun E r hr=>hr.head (fun _ hc=>(hx2 E _ hc).rowsC fun i hi=>hf i hi) fun _ hc=>hc,rfl,⟨JE,.rows _ _ _ (fun i _=>VW _ _ i),trivial⟩,hK⟩
 ·exact ha.elim
theorem Zco {E:Env} {a b a' b':AV} {l:Int} {vs:List Value} (h:Zj E [a,b,.int .i64 l] vs) (ha:a.isCell=true) (hb:b.isCell=true) (ha':a'.isCell=true) (hb':b'.isCell=true) (h1:∀r,Zb E a r->Zb E a' r) (h2:∀r,Zb E b r->Zb E b' r):Zj E [a',b',.int .i64 l] vs:=by
 cases h with
 | one v c vs cs h0 hc hv t=>cases t with
  | one v c vs cs h0 hc' hv' t=>exact .one _ _ _ _ ha' hc (h1 _ hv) (.one _ _ _ _ hb' hc' (h2 _ hv') t)
  | arr k n xs vs cs t=>cases hb
 | arr k n xs vs cs t=>cases ha
structure Qd (b:LI) (s:Int):Prop where
 l:b.length=32
 b:∀x∈b,U8 x
 s:0<=s/\s<=2147483647
structure ChM (N:LI->Int->LI) (M:Nat->LI) (s:Nat->Int) (m:Nat):Prop where
 zero:M 0=Z9
 step:∀i,i<m->M (i+1)=N (M i) (s i)
 ok:∀i,i<m->Qd (M i) (s i)
inductive Z6h (f:Nat->List AV) (M:Nat->LI) (s:Nat->Int) (n:Nat):Prop
 | mk:(∀i,i<n->f i=bkR M s i)->Z6h f M s n
def nmF (N:LI->Int->LI):ZX:=fun args h K=>match args with
 | [.agg [.arr .u8 32 b,.int .i64 s,.nilslice]]=>Qd b s/\K (.tuple [.agg [.arr .u8 32 (N b s)],.int .i64 0])
 | _=>False
@[irreducible] def Yu (b:LI) (s:Int):LI:=VC (QM Zz b s)
theorem Z79 (n:Int):∀x∈Zz n,U8 x:=by
 have h8:∀y,U8 (u8.wrap y):=fun y=>by rw [wr8];unfold U8;omega
 have hb:∀y,U8 (b8 n y):=fun y=>h8 _
 intro x hx
 unfold Zz at hx
 split at hx
 ·simp at hx;subst hx;exact h8 _
 ·split at hx
  ·simp at hx;rcases hx with rfl|rfl|rfl<;>first|exact hb _|(unfold U8;omega)
  ·split at hx
   ·simp at hx;rcases hx with rfl|rfl|rfl|rfl|rfl<;>first|exact hb _|(unfold U8;omega)
   ·simp at hx;rcases hx with rfl|rfl|rfl|rfl|rfl|rfl|rfl|rfl|rfl<;>first|exact hb _|(unfold U8;omega)
theorem Zdk (args:List AV) (h:Z7) (K:AV->Prop) (hl:nmF Yu args h K):Zh PP 14 args h fun o h'=>∃v,o=.ret v/\h'=h/\K v:=by
 unfold nmF at hl
 split at hl
 ·exact Z0v ZbT rfl (Zft Zz 4611686018427387904 VC 100 _ _ _ rfl rfl rfl hl.1.l hl.1.s rfl) fun u hu=>by rw [hu];have:=hl.2;unfold Yu at this;exact this
 ·exact hl.elim
theorem Z7a (args:List AV) (h:Z7) (K:AV->Prop) (hl:nmF Yu args h K):Zh PP 15 args h fun o h'=>∃v,o=.ret v/\h'=h/\K v:=by
 unfold nmF at hl
 split at hl
 ·rename_i b s
  have e:V6 Z0l (QM Zz b s)=VC (QM Zz b s):=by
   refine Zag (fun x hx=> ?_) ?_
   ·unfold QM at hx
    rcases JT.1 hx with hx|hx
    ·exact hl.1.b x hx
    ·rcases JT.1 hx with hx|hx
     ·exact Z79 _ x hx
     ·exact Z79 _ x hx
   ·have l1:=ZC s
    have l0:=ZC 0
    have:=hl.1.l
    unfold QM
    simp only [J6]
    omega
  exact Z0v Zah rfl (ZeO Zz (V6 Z0l) 100000 _ _ _ rfl rfl hl.1.l hl.1.s rfl) fun u hu=>by rw [hu,e];have:=hl.2;unfold Yu at this;exact this
 ·exact hl.elim
noncomputable def Zdl (N:LI->Int->LI):Ze:=G0.withP 15 (nmF N)
theorem Z7b:(Zdl Yu).Ok:=Ze.withP_ok Zr Z7a
theorem ZeX (N:LI->Int->LI) (n:Nat) (f0 f:Nat->List AV) (l:Int) :
  evF (Zdl N) 20 34 [.agg [.vrows 165 n f0 n,.vrows 34 0 f 0,.int .i64 l]] ⟨0,[]⟩ (Z1J (fun v=>v=.tuple [.agg [.arr .u8 32 Z9],.int .i64 0])):=by
 refine @Eq.mpr _ (let a:=AV.tuple [AV.agg [AV.arr u8 32 Z9],AV.int i64 0];
 a=a) (by kernel_rfl) ?_
 conv=>zeta
 try simp only [vcA]
 try simp only [vcB]
 try simp only [vcC]
theorem ZeY (N:LI->Int->LI) (n m:Nat) (f0:Nat->List AV) (M:Nat->LI) (s:Nat->Int) (l:Int) (z:LI) (hm:m<1000) (hM:Qd (M m) (s m)) (hz:z=N (M m) (s m)):
  evF (Zdl N) 20 34 [.agg [.vrows 165 n f0 n,.vrows 34 (m+1) (bkR M s) (m+1),.int .i64 l]] ⟨0,[]⟩ (Z1J (fun v=>v=.tuple [.agg [.arr .u8 32 z],.int .i64 (m+1:Nat)])):=by
 refine @Eq.mpr _ (let c:=m+1;let a:=↑c;let b:=wrap i64 (a-1);let h:=Int.toNat b;let g:=M h;let f:=s h;let e:=decide (c=c);let d:=[AV.int i64 a];
 Z5 (0<=b/\b<a) (Qd g f/\Z5 (a=a) (Z0 e (bkR M s=bkR M s/\Z0 e (AV.tuple (AV.agg [AV.arr u8 32 (N g f)]::d)=AV.tuple (AV.agg [AV.arr u8 32 z]::d)))))) (by kernel_rfl) ?_
 conv=>zeta
 try simp only [vcA]
 try simp only [vcB]
 try simp only [vcC]
 have e:i64.wrap (((m+1:Nat):Int)-1)=(m:Int):=by rw [w64 (by omega)];omega
 rw [e]
 simp only [Jo]
 exact ⟨by omega,hM,by rw [hz]⟩
def ZeZ (N:LI->Int->LI) (M:Nat->LI) (s:Nat->Int):ZX:=fun args h K=>ZJ none h true 60 args fun a=>match a with
 | [.agg [x,y,.int .i64 _]]=>VG 165 x fun n f=>VG 34 y fun m g=>Z6h g M s m/\m<1000/\ChM N M s m/\K (.tuple [.agg [.arr .u8 32 (M m)],.int .i64 m])
 | _=>False
theorem ZbW (M:Nat->LI) (s:Nat->Int) (args:List AV) (h:Z7) (K:AV->Prop) (hl:ZeZ Yu M s args h K):Zh PP 34 args h fun o h'=>∃v,o=.ret v/\h'=h/\K v:=by
 refine Zs.psumm (d:=60) (Zm _ _ _ _ _ hl fun a ha=> ?_)
 split at ha
 ·rename_i x y l
  obtain ⟨n,f,ha,hx,hx2⟩:=XQ ha
  obtain ⟨m,g,ha,hy,hy2⟩:=XQ ha
  obtain ⟨⟨hg⟩,hm,hM,hK⟩:=ha
  have hcv:∀E r,Zb E (.agg [x,y,.int .i64 l]) r->Zb E (.agg [.vrows 165 n f n,.vrows 34 m (bkR M s) m,.int .i64 l]) r:=fun E r hr=>by
   cases hr with
   | agg _ vs hc=>exact .agg _ vs (Zco hc hx hy rfl rfl (fun r hr=>hx2 E r hr) (fun r hr=>(hy2 E r hr).rowsC hg))
  cases m with
  | zero=>
   refine ⟨_,(Zs.evW (Z7b) (ZeX Yu n f (bkR M s) l)).conv fun E r hr=>hr.head (fun _ hc=>hcv E _ hc) fun _ hc=>hc,fun _=>rfl, ?_⟩
   rw [hM.zero] at hK
   exact hK
  | succ m=>
   refine ⟨_,(Zs.evW (Z7b) (ZeY Yu n m f M s l _ (by omega) (hM.ok m (by omega)) rfl)).conv fun E r hr=>hr.head (fun _ hc=>hcv E _ hc) fun _ hc=>hc,fun _=>rfl, ?_⟩
   rw [hM.step m (by omega)] at hK
   exact hK
 ·exact ha.elim
def stR (L:List Y5) (i:Nat):List AV:=(L.getD i Zai).c++[.int .i64 0,.int .i64 (-1),.int .i64 0,.nilslice,.nilslice]
theorem Z2W (L:List Y5) (i:Nat):plainC (stR L i)=true:=rfl
theorem QO {k:Nat} {n:Nat} (h:∀i,i<n->f i=stR L i):Zd k τ n (stR L) f:=
 YT h (fun i _=>Z2W L i) (fun i _ v hv=>by
  simp only [stR,Y5.c,List.cons_append,JO,J5,JI,or_false] at hv
  rcases hv with rfl|rfl|rfl|rfl|rfl|rfl|rfl|rfl|rfl|rfl|rfl|rfl|rfl|rfl|rfl<;>first|exact .inl rfl|exact .inr ⟨_,_,_,rfl⟩)
def alB (L:List Y5) (n m:Nat) (M:Nat->LI) (s:Nat->Int) (l:Int):Nat×Blk:=(0,.flat [.vrows 165 n (ZU L) n,.vrows 34 m (bkR M s) m,.int .i64 l])
def alS (L:List Y5) (n m:Nat) (M:Nat->LI) (s:Nat->Int) (l:Int) (i:Nat):St:=⟨59,[(4,.int .i64 i),(1,pt 0),(3,.nslice ⟨1,0,170,0,0⟩ 170 i i)],⟨2,[(1,.rows 170 i (stR L)),alB L n m M s l]⟩,[]⟩
def alE (L:List Y5) (n m:Nat) (M:Nat->LI) (s:Nat->Int) (l:Int):St:=⟨59,[(1,pt 0),(3,.nslice ⟨1,0,170,0,0⟩ 170 n n)],⟨2,[(1,.rows 170 n (stR L)),alB L n m M s l]⟩,[]⟩
def alN:St:=⟨59,[],⟨0,[]⟩,[]⟩
def alT (L:List Y5) (n m:Nat) (M:Nat->LI) (s:Nat->Int) (l:Int) (j:Nat):St:=⟨59,[(5,.int .i64 j),(1,pt 0),(3,.nslice ⟨1,0,170,0,0⟩ 170 n n)],⟨2,[(1,.rows 170 n (stR L)),alB L n m M s l]⟩,[]⟩
theorem Zfu (L:List Y5) (n m:Nat) (M:Nat->LI) (s:Nat->Int) (l:Int) (i:Nat) (Z1 Z2:Prop) (hn:n<1000) (hi:i<=n) (h1:i<n->Z1) (h2:i=n->Z2):
  ZA G0 20 68 0 0 (alS L n m M s l i) (rdM 0 0 9 (alS L n m M s l (i+1)) (alE L n m M s l) alN alN Z1 Z2 False False):=by
 refine @Eq.mpr _ (let b:=i+1;let j:=decide (b=b);let h:=[(0,0)];let e:=stR L;let f:=List.getD L (Int.toNat (↑i:Int)) Zai;let a:=f.out;let d:=decide (n=n);let g:=ZU L=ZU L;let c:=decide (m=m);let p:=bkR M s=bkR M s;let o:=decide (l=l);let k:=decide (i=n);
 Z6 (decide ((↑i:Int)<(↑n:Int))) (Z5 (0<=(↑i:Int)/\(↑i:Int)<(↑n:Int)) (Z5 (i=i) (Z5 (b*272<=140737488355328) (Z5 (wrap i64 ((↑i:Int)+1)=(↑b:Int)) (Z0 j (Z5 (b<=b) (Z0 j (Zd 0 ((1,3)::h) b e (XG i e (Wq [AV.arr u8 32 f.name,AV.int i64 f.index,AV.int i64 a.kind,AV.int i64 a.amount,AV.arr u8 32 a.owner,AV.arr u8 32 a.other,AV.arr u8 32 a.point,AV.arr u8 32 a.hash,AV.int i64 a.delay,AV.int i64 a.expiry,AV.int i64 0,AV.int i64 (-1),AV.int i64 0,AV.nilslice,AV.nilslice] 0 170))/\Z0 d (g/\Z0 d (Z0 c (p/\Z0 c (Z0 o Z1)))))))))))) (Z0 k (Z5 (n<=i) (Z0 k (Zd 0 ((1,1)::h) n e e/\Z0 d (g/\Z0 d (Z0 c (p/\Z0 c (Z0 o Z2))))))))) (by kernel_rfl) ?_
 conv=>zeta
 try simp only [vcA]
 try simp only [vcB]
 try simp only [vcC]
 refine ⟨fun hc=> ?_,fun hc=> ?_⟩
 ·have hlt:i<n:=by omega
  have hwr:i64.wrap ((i:Int)+1)=((i+1:Nat):Int):=by rw [w64 (by omega)];omega
  refine ⟨by omega,by omega,hwr,QO fun k hk=> ?_,h1 hlt⟩
  rcases Jj k i with h|h
  ·rw [Z3C h]
  ·obtain rfl:k=i:=by omega
   rw [VU (J2 _),Nat.sub_self]
   rfl
 ·have:i=n:=by omega
  subst this
  exact ⟨rfl,J2 _,rfl,QO fun _ _=>rfl,h2 rfl⟩
theorem Zfv (L:List Y5) (n m:Nat) (M:Nat->LI) (s:Nat->Int) (l:Int) (j:Nat) (Z1 Z2:Prop) (hn:n<1000) (hm:m<1000) (hj:j<=m) (h1:j<m->Z1) (h2:j=m->Z2):
  ZA G0 20 68 2 0 (alT L n m M s l j) (rdM 0 2 9 (alT L n m M s l (j+1)) (alE L n m M s l) alN alN Z1 Z2 False False):=by
 refine @Eq.mpr _ (let a:=decide (n=n);let g:=decide (n<=n);let f:=Zd 0 [(1,1),(0,0)] n (stR L) (stR L);let e:=ZU L=ZU L;let b:=decide (m=m);let d:=bkR M s=bkR M s;let c:=decide (l=l);
 Z6 (decide ((↑j:Int)<(↑m:Int))) (Z5 (0<=(↑j:Int)/\(↑j:Int)<(↑m:Int)) (Z5 (wrap i64 ((↑j:Int)+1)=(↑(j+1):Int)) (Z0 a (Z0 g (Z0 a (f/\Z0 a (e/\Z0 a (Z0 b (d/\Z0 b (Z0 c Z1)))))))))) (Z0 a (Z0 g (Z0 a (f/\Z0 a (e/\Z0 a (Z0 b (d/\Z0 b (Z0 c Z2))))))))) (by kernel_rfl) ?_
 conv=>zeta
 try simp only [vcA]
 try simp only [vcB]
 try simp only [vcC]
 refine ⟨fun hc=> ?_,fun hc=>⟨QO fun _ _=>rfl,h2 (by omega)⟩⟩
 have hwr:i64.wrap ((j:Int)+1)=((j+1:Nat):Int):=by rw [w64 (by omega)];omega
 exact ⟨by omega,hwr,QO fun _ _=>rfl,h1 (by omega)⟩
noncomputable def Zal (L:List Y5) (n m:Nat) (M:Nat->LI) (s:Nat->Int) (l:Int):Ze:=G0.withL 68 0 (goM 0 (alS L n m M s l 0) (n<1000) (YF 0 n 9 (fun i=>i<n) (fun i=>i=n) (fun _=>False) (fun _=>False) (fun _=>alE L n m M s l) (fun _=>alN) (fun _=>alN)))
theorem Zam (L:List Y5) (n m:Nat) (M:Nat->LI) (s:Nat->Int) (l:Int):(Zal L n m M s l).Ok:=
 Ze.withGoM (N:=20) (S:=alS L n m M s l) Zr (by kernel_rfl) fun hC=>⟨rfl,fun i hi _=>Zfu L n m M s l i _ _ hC hi (fun h=>⟨h,h⟩) fun h=>h⟩
theorem VX (G:Ze) (f:FuncId) (id:Nat) (S:Nat->St->KE->Prop):(G.withL f id S).P=G.P:=rfl
noncomputable def Zf0 (L:List Y5) (n m:Nat) (M:Nat->LI) (s:Nat->Int) (l:Int):Ze:=(Zal L n m M s l).withL 68 2 (goM 0 (alT L n m M s l 0) (n<1000/\m<1000) (YF 2 m 9 (fun i=>i<m) (fun i=>i=m) (fun _=>False) (fun _=>False) (fun _=>alE L n m M s l) (fun _=>alN) (fun _=>alN)))
theorem ZbX (L:List Y5) (n m:Nat) (M:Nat->LI) (s:Nat->Int) (l:Int):(Zf0 L n m M s l).Ok:=
 Ze.withL_join (H:=G0) (Zam _ _ _ _ _ _) (by unfold Zal;simp only [VX]) (Ze.withGoM (N:=20) (k:=0) (n:=m) (l:=9) (S:=alT L n m M s l) Zr (by kernel_rfl) fun hC=>⟨rfl,fun i hi _=>Zfv L n m M s l i _ _ hC.1 hC.2 hi (fun h=>⟨h,h⟩) fun h=>h⟩)
theorem Zfw (L:List Y5) (n m:Nat) (M:Nat->LI) (s:Nat->Int) (l:Int) (hn:n<1000) (hm:m<1000):
  evF (Zf0 L n m M s l) 20 68 [.agg [.vrows 165 n (ZU L) n,.vrows 34 m (bkR M s) m,.int .i64 l]] ⟨0,[]⟩ (Wx 0 (.ret (.nslice ⟨0,0,170,0,0⟩ 170 n n)) 1 [(0,.rows 170 n (stR L))]):=by
 refine @Eq.mpr _ (let a:=decide (n=n);let h:=ZU L=ZU L;let c:=decide (m=m);let g:=bkR M s=bkR M s;let f:=decide (l=l);let e:=decide (n<=n);let b:=stR L;let d:=(False->False)/\(False->False);
 Z0 a (h/\Z0 a (Z0 c (g/\Z0 c (Z0 f (n<1000/\∀(i:Nat),i<=n->(∀(j:Nat),j<i->(fun (i:Nat)=>i<n) j)->(i=n->Z0 a (Z0 e (Z0 a (Zd 0 [(1,1),(0,0)] n b b/\Z0 a (h/\Z0 a (Z0 c (g/\Z0 c (Z0 f ((n<1000/\m<1000)/\∀(i:Nat),i<=m->(∀(j:Nat),j<i->(fun (i:Nat)=>i<m) j)->(i=m->Z0 a (Z0 e (Z0 a (Zd 0 [(0,1)] n b b/\True))))/\d)))))))))/\d)))))) (by kernel_rfl) ?_
 conv=>zeta
 try simp only [vcA]
 try simp only [vcB]
 try simp only [vcC]
 exact ⟨hn,fun i hi _=>⟨fun _=>⟨QO fun _ _=>rfl,⟨hn,hm⟩,fun j hj _=>⟨fun _=>QO fun _ _=>rfl,fun h=>h,fun h=>h⟩⟩,fun h=>h,fun h=>h⟩⟩
def Zf1 (L:List Y5) (M:Nat->LI) (s:Nat->Int):YY:=fun args h K=>ZJ none h true 60 args fun a=>match a with
 | [.agg [x,y,.int .i64 _]]=>VG 165 x fun n f=>VG 34 y fun m g=>Z3N f L n/\Z6h g M s m/\n<1000/\m<1000/\K (.ret (.nslice ⟨h.next,0,170,0,0⟩ 170 n n)) ⟨h.next+1,(h.next,.rows 170 n (stR L))::h.bs⟩
 | _=>False
theorem ZbY (L:List Y5) (M:Nat->LI) (s:Nat->Int) (args:List AV) (h:Z7) (K:KO) (hl:Zf1 L M s args h K):Zh PP 68 args h K:=by
 refine Zs.fsumm (d:=60) (Zm _ _ _ _ _ hl fun a ha=> ?_)
 split at ha
 ·rename_i x y l
  obtain ⟨n,f,ha,hx,hx2⟩:=XQ ha
  obtain ⟨m,g,ha,hy,hy2⟩:=XQ ha
  obtain ⟨⟨hf⟩,⟨hg⟩,hn,hm,hK⟩:=ha
  have hcv:∀E r,Zb E (.agg [x,y,.int .i64 l]) r->Zb E (.agg [.vrows 165 n (ZU L) n,.vrows 34 m (bkR M s) m,.int .i64 l]) r:=fun E r hr=>by
   cases hr with
   | agg _ vs hc=>exact .agg _ vs (Zco hc hx hy rfl rfl (fun r hr=>(hx2 E r hr).rowsC hf) (fun r hr=>(hy2 E r hr).rowsC hg))
  exact ⟨_,_,_,_,(Zs.evM (ZbX L n m M s l) (Zfw L n m M s l hn hm)).conv fun E r hr=>hr.head (fun _ hc=>hcv E _ hc) fun _ hc=>hc,rfl,⟨JE,.rows _ _ _ (fun i _=>Z2W _ i),trivial⟩,hK⟩
 ·exact ha.elim
def X6 (n:Int):LI:=n::List.replicate 31 0
def Zn:Y5:=⟨X6 1,0,⟨1,50,X6 7,Z9,Z9,Z9,0,0⟩⟩
noncomputable def Z6i (A:LI->Int×Int) (N:LI->Int->LI) (M:Nat->LI) (s:Nat->Int) (o:Nat->Nat):Ze:=((((((G0.withP 14 (nmF N)).withP 15 (nmF N)).withP 34 (ZeZ N M s)).withF 68 (Zf1 [Zn] M s)).withF 40 (ZeW M s o)).withF 27 (ZeS [Zn])).withP 29 (ckS A)
theorem Z7c (M:Nat->LI) (s:Nat->Int) (o:Nat->Nat):(Z6i Xi Yu M s o).Ok:=Ze.withP_ok (Ze.withF_ok (Ze.withF_ok (Ze.withF_ok (Ze.withP_ok (Ze.withP_ok (Ze.withP_ok Zr Zdk) Z7a) (ZbW M s)) (ZbY [Zn] M s)) (ZbV M s o)) (ZbU [Zn])) ZcZ
def txW:TxS:=⟨0,1,fun _=>⟨Z9,0,2,Z9,Z9,Z9⟩,1,fun _=>Zn.out⟩
theorem Zan:txW.Ok:=⟨by decide,by decide,fun _ _=>⟨rfl,rfl,rfl,rfl⟩,fun _ _=>⟨rfl,rfl,rfl,rfl⟩⟩
theorem Zao:Vb Xi txW=true:=by
 unfold Vb
 kernel_rfl
theorem Z7d:∀x∈Z9,U8 x:=fun x hx=>by
 obtain ⟨_,rfl⟩:=List.mem_replicate.1 hx
 unfold U8
 omega
theorem Zcp:Qd Z9 0:=⟨rfl,Z7d,by omega⟩
theorem Z4O (b:LI) (s:Int):(Yu b s).length=32:=by unfold Yu;exact Z7T _
theorem Zf2 (A:LI->Int×Int) (N:LI->Int->LI) (M:Nat->LI) (s:Nat->Int) (hA:A=Xi) (hN:∀b s,(N b s).length=32) (h0:M 0=Z9) (h1:M 1=N Z9 0) (hs:s 0=0):
  evF (Z6i A N M s fun _=>0) 40 5 [] ⟨0,[]⟩ (Z1J (fun v=>v=.bool true)):=by
 refine @Eq.mpr _ (let n:=[(0:Int),0,0,0,0,0,0,0,0,0,0,0,0,0,0,0,0,0,0,0,0,0,0,0,0,0,0,0,0,0,0];let g:=(1:Int)::n;let b:=AV.int i64 0;let f:=(7:Int)::n;let a:=AV.arr u8 32 Z9;let l:=[AV.int i64 1,AV.int i64 50,AV.arr u8 32 f,a,a,a,b,b];let k:=f=f;let e:=Qd Z9 0;let d:=N Z9 0=N Z9 0;let j:=AV.bool true;let m:=AV.bool false=j;let h:=e/\k/\Z9=Z9/\Z9=Z9/\Z9=Z9/\Z5 (List.length (N Z9 0)=32/\List.length (N Z9 0)=32) (Z6 (N Z9 0==N Z9 0) (j=j) m);
 Z3N (Wq (AV.arr u8 32 g::b::l) 0 165) [Zn] 1/\(1:Nat)<1000000/\∃(t:TxS),(t.num=0/\(((1:Nat)=1/\t.N=1)/\∀(i:Nat),i<1->Wq [a,b,AV.int i64 2,a,a,a] 0 130 i=InS.c (t.ins i))/\((1:Nat)=1/\t.M=1)/\∀(i:Nat),i<1->Wq l 0 132 i=Y2.c (t.outs i))/\TxS.Ok t/\Z6 (Vb A t) (k/\Z9=Z9/\Z9=Z9/\Z9=Z9/\g=g/\e/\QN (fun (x:Nat)=>[]) (fun (i:Nat)=>M (0+i)) (fun (i:Nat)=>s (0+i)) 0/\(0:Nat)<1000000/\d/\Z9=Z9/\d/\(d/\h)/\h/\h) (e/\m)) (by kernel_rfl) ?_
 conv=>zeta
 try simp only [vcA]
 try simp only [vcB]
 try simp only [vcC]
 subst hA
 have hl:=hN Z9 0
 refine ⟨⟨fun i hi=> ?_⟩,by omega,txW,⟨rfl,⟨rfl,fun i hi=> ?_⟩,rfl,fun i hi=> ?_⟩,Zan,fun _=>⟨Zcp,⟨fun i hi=>by omega⟩,by omega, ?_⟩,fun h=> ?_⟩
 ·obtain rfl:i=0:=by omega
  rfl
 ·obtain rfl:i=0:=by omega
  rfl
 ·obtain rfl:i=0:=by omega
  rfl
 ·simp [Zcp,hl]
 ·rw [Zao] at h
  cases h
def Zap:ZX:=fun args _ K=>match args with
 | []=>K (.bool true)
 | _=>False
theorem Zaq (args:List AV) (h:Z7) (K:AV->Prop) (hl:Zap args h K):Zh PP 5 args h fun o h'=>∃v,o=.ret v/\h'=h/\K v:=by
 unfold Zap at hl
 split at hl
 ·exact Z0v (Z7c (nmA Yu fun _=>0) (fun _=>0) fun _=>0) rfl (Zf2 Xi Yu _ _ rfl Z4O rfl rfl rfl) fun u hu=>hu▸hl
 ·exact hl.elim
noncomputable def Qe (A:LI->Int×Int) (N:LI->Int->LI) (M:Nat->LI) (s:Nat->Int) (o:Nat->Nat):Ze:=(Z6i A N M s o).withP 5 Zap
theorem Z0B (M:Nat->LI) (s:Nat->Int) (o:Nat->Nat):(Qe Xi Yu M s o).Ok:=Ze.withP_ok (Z7c M s o) Zaq
def cnB (lf:Int):List (Nat×Blk):=[(0,.flat [.int .i64 lf]),(1,.flat [.bool false]),(2,.flat Zn.c),(3,.rows 165 1 (ZU [Zn])),(4,.map [(.agg [.arr .u8 32 (X6 1),.int .i64 0],.agg [.int .i64 1,.int .i64 50,.arr .u8 32 (X6 7),.arr .u8 32 Z9,.arr .u8 32 Z9,.arr .u8 32 Z9,.int .i64 0,.int .i64 0,.int .i64 0,.int .i64 (-1),.int .i64 0,.nilslice,.nilslice])]),(5,.map [(.agg [.arr .u8 32 (X6 1)],.int .i64 (-1))])]
def chB (lf:Int) (M:Nat->LI) (s:Nat->Int) (n m:Nat) (k:Int):List (Nat×Blk):=[(9,.rows 34 n (bkR M s)),(8,.rows 66 n (kpR M s)),(7,.flat [.nslice ⟨2,0,0,0,0⟩ 165 1 1,.nslice ⟨9,0,34,0,0⟩ 34 m m,.int .i64 k]),
 (6,.flat [.map (some 4),.map (some 5),.nslice ⟨3,0,165,0,0⟩ 165 1 1,.arr .u8 32 (M m),.int .i64 m,.nslice ⟨8,0,66,0,0⟩ 66 m m,.int .i64 k])]++cnB lf
def chT (many back:Int) (more:Bool):ZE:=[(0,.int .i64 many),(9,pt 6),(11,pt 7),(1,.int .i64 back),(8,pt 1),(3,.bool more),(6,pt 0),(10,.int .i64 0)]
def lvA (many back lf:Int) (more:Bool) (M:Nat->LI) (s:Nat->Int) (i:Nat) (k:Int):St:=⟨160,(13,.int .i64 i)::chT many back more,⟨10,chB lf M s i i k⟩,[]⟩
def Zf3 (many back lf:Int) (more:Bool) (M:Nat->LI) (s:Nat->Int) (i:Nat) (k:Int):St:=⟨160,chT many back more,⟨10,chB lf M s i i k⟩,[]⟩
def lvN:St:=⟨160,[],⟨0,[]⟩,[]⟩
theorem Zfx (A:LI->Int×Int) (N:LI->Int->LI) (many back lf:Int) (more:Bool) (M:Nat->LI) (s:Nat->Int) (i:Nat) (k k':Int) (Z1 Z2:Prop) (hm:0<=many/\many<=12) (hk0:0<=k/\k<=6) (hi:(i:Int)<=many) (hs:s i=i) (hM:ChM N M s (i+1)) (hk:k'=if 6<k+1 then 6 else k+1) (h1:(i:Int)<many->Z1) (h2:(i:Int)=many->Z2):
  ZA (Qe A N M s fun _=>0) 40 3 0 0 (lvA many back lf more M s i k) (rdM 0 0 9 (lvA many back lf more M s (i+1) k') (Zf3 many back lf more M s i k) lvN lvN Z1 Z2 False False):=by
 refine @Eq.mpr _ (let o:=0+i;let I:=decide (o<=i);let q3:=decide ((34:Nat)=34/\i=i);let c:=bkR M s;let q5:=Y9 0 c;let q6:=Z6h q5 M s i;let q7:=ChM N M s i;let K:=decide ((↑i:Int)<=2147483647);let J:=decide (List.length (M i)=32/\List.length (M i)=32);let S:= !M i==M i;let a:=decide (i=i);let n:=decide (k=k);let b:=i+1;let d1:=(↑b:Int);let m:=decide (wrap i64 ((↑i:Int)+1)=d1);let B:=decide (many=many);let A:=decide (back=back);let z:=decide (more=more);let f:=decide (i=b);let d0:=[(2,2),(0,0),(1,1),(7,7),(6,6)];let b4:=(3,3)::(5,5)::(4,4)::(9,9)::d0;let H:=(8,8)::b4;let e:=kpR M s;let G:=decide (b<=i);let F:=decide (k=k');let c9:=M i=M b;let c8:=decide ((↑i:Int)=d1);let y:=decide (lf=lf);let b3:=Zn.name;let w:=b3=b3;let l:=Zn.out;let b2:=l.owner;let v:=b2=b2;let b1:=l.other;let u:=b1=b1;let b0:=l.point;let t:=b0=b0;let a9:=l.hash;let r:=a9=a9;let d:=ZU [Zn];let c7:=Zd 0 H 1 d d;let R:=X6 1=X6 1;let c6:=X6 7=X6 7;let E:=R/\c6/\Z9=Z9/\Z9=Z9/\Z9=Z9/\R/\Z1;let Q:=Z0 a (Z0 a (Z0 n (Z0 a (Z0 a (Z0 n (Z0 m (Z0 B (Z0 A (Z0 z (Z0 f (Zd 0 H b c c/\Z0 f (Zd 0 H b e e/\Z0 f (Z0 G (Z0 F (c9/\Z0 c8 (Z0 f (Z0 G (Z0 F (Z0 y (w/\v/\u/\t/\r/\c7/\E))))))))))))))))))));let a8:=Qd (M i) (↑i:Int);let a7:=decide (o<=i);let a6:=decide ((66:Nat)=66/\i=i);let a5:=QN (Y9 0 e) (fun (i:Nat)=>M (0+i)) (fun (i:Nat)=>s (0+i)) i;let P:=N (M i) (↑i:Int);let h:=P=P;let q:=M i=M i;let g:=decide ((↑i:Int)=(↑i:Int));let a4:=decide (b*96<=140737488355328);let a3:=(8,29)::b4;let p:=decide (b=b);let c5:=AV.arr u8 32 (M i);let c4:=AV.int i64 (↑i:Int);let a2:=XG i (kpR (fun (i:Nat)=>M (0+i)) fun (i:Nat)=>s (0+i)) (Wq [c5,c4,AV.nilslice,AV.arr u8 32 P] 0 66);let a1:=P=M b;let a0:=decide (b<=b);let c3:=wrap i64 (k+1);let Z:=if c3<6 then c3 else 6;let D:=decide (Z=k');let Y:=Z0 a (Z0 a (Z0 n (Z0 a (Z0 a (Z0 n (Z0 m (Z0 B (Z0 A (Z0 z (Z0 f (Zd 0 a3 b c c/\Z0 p (Zd 0 a3 b e a2/\Z0 f (Z0 G (Z0 F (a1/\Z0 m (Z0 p (Z0 a0 (Z0 D (Z0 y (w/\v/\u/\t/\r/\Zd 0 a3 1 d d/\E))))))))))))))))))));let c2:=decide (o*64<=140737488355328);let C:=o+1;let j:=decide (C=C);let O:=decide (Z=Z);let L:=decide (C=b);let c1:=(3,3)::(5,5)::(4,4)::(9,23)::d0;let X:=(8,8)::c1;let c0:=XG o (XG 0 (fun (x:Nat)=>[]) q5) (Wq [c5,c4,AV.nilslice] 0 34);let b9:=decide (b<=C);let b8:=Z0 j (Z0 j (Z0 O (Z0 j (Z0 j (Z0 O (Z0 m (Z0 B (Z0 A (Z0 z (Z0 L (Zd 0 X b c c0/\Z0 f (Zd 0 X b e e/\Z0 L (Z0 b9 (Z0 D (c9/\Z0 c8 (Z0 f (Z0 G (Z0 F (Z0 y (w/\v/\u/\t/\r/\Zd 0 X 1 d d/\E))))))))))))))))))));let W:=(8,33)::c1;let V:=Z0 j (Z0 j (Z0 O (Z0 j (Z0 j (Z0 O (Z0 m (Z0 B (Z0 A (Z0 z (Z0 L (Zd 0 W b c c0/\Z0 p (Zd 0 W b e a2/\Z0 L (Z0 b9 (Z0 D (a1/\Z0 m (Z0 p (Z0 a0 (Z0 D (Z0 y (w/\v/\u/\t/\r/\Zd 0 W 1 d d/\E))))))))))))))))))));let b7:=Z5 (o=o) (Z5 (C*64<=140737488355328) (Z6 K (Z0 J (Z6 S b8 (a8/\Z0 a7 ((∀(i_1:Nat),i_1<i->true=true)/\Z0 a6 (a5/\i<1000000/\h/\q/\Z0 g (h/\Z0 a (Z0 a4 (Z0 g (h/\V)/\V/\V)))))))) b8));let b6:=Z0 a (Z0 a (Z0 I (Z0 c2 b7)));let U:=(8,28)::b4;let T:=Z0 a (Z0 a (Z0 n (Z0 a (Z0 a (Z0 n (Z0 m (Z0 B (Z0 A (Z0 z (Z0 f (Zd 0 U b c c/\Z0 p (Zd 0 U b e a2/\Z0 f (Z0 G (Z0 F (a1/\Z0 m (Z0 p (Z0 a0 (Z0 D (Z0 y (w/\v/\u/\t/\r/\Zd 0 U 1 d d/\E))))))))))))))))))));let b5:=decide (i<=i);
 Z6 (decide ((↑i:Int)<many)) (Z0 I ((∀(i_1:Nat),i_1<i->true=true)/\
 Z0 q3 (q6/\
 i<1000/\
 q7/\
 Z6 K (Z0 I ((∀(i_1:Nat),i_1<i->true=true)/\Z0 q3 (q6/\i<1000/\q7/\Z0 J (Z6 S (Z6 K (Z0 J (Z6 S Q (a8/\Z0 a7 ((∀(i_1:Nat),i_1<i->true=true)/\Z0 a6 (a5/\i<1000000/\h/\q/\Z0 g (h/\Z0 a (Z0 a4 (Z0 g (h/\Y)/\Y/\Y)))))))) Q) (Z0 I ((∀(i_1:Nat),i_1<i->true=true)/\Z0 q3 (Z3N (Wq [AV.arr u8 32 b3,AV.int i64 Zn.index,AV.int i64 l.kind,AV.int i64 l.amount,AV.arr u8 32 b2,AV.arr u8 32 b1,AV.arr u8 32 b0,AV.arr u8 32 a9,AV.int i64 l.delay,AV.int i64 l.expiry] 0 165) [Zn] 1/\q6/\(1:Nat)<1000/\i<1000/\(q/\Z0 g (Z0 a (Z0 a (Z0 I (Z0 c2 (q/\Z0 g b7))/\b6))))/\Z0 a (Z0 a b6)))))))) (Z6 K (Z0 J (Z6 S Q (a8/\Z0 a7 ((∀(i_1:Nat),i_1<i->true=true)/\Z0 a6 (a5/\i<1000000/\h/\q/\Z0 g (h/\Z0 a (Z0 a4 (Z0 g (h/\T)/\T/\T)))))))) Q)))) (Z0 B (Z0 A (Z0 z (Z0 a (Zd 0 H i c c/\Z0 a (Zd 0 H i e e/\Z0 a (Z0 b5 (Z0 n (q/\Z0 g (Z0 a (Z0 b5 (Z0 n (Z0 y (w/\v/\u/\t/\r/\c7/\R/\c6/\Z9=Z9/\Z9=Z9/\Z9=Z9/\R/\Z2))))))))))))))) (by kernel_rfl) ?_
 conv=>zeta
 try simp only [vcA]
 try simp only [vcB]
 try simp only [vcC]
 have hb:=hM.ok i (by omega)
 have hl:=hb.l
 have hst:=hM.step i (by omega)
 have hM':ChM N M s i:=⟨hM.zero,fun j hj=>hM.step j (by omega),fun j hj=>hM.ok j (by omega)⟩
 have hbk:Z6h (Y9 0 (bkR M s)) M s i:=⟨fun j hj=>by unfold Y9;first|rfl|simp⟩
 have hkp:QN (Y9 0 (kpR M s)) (fun j=>M j) (fun j=>s j) i:=⟨fun j hj=>by rfl⟩
 have hcR:∀k τ,Zd k τ 1 (ZU [Zn]) (ZU [Zn]):=fun k τ=>W6 fun _ _=>rfl
 rw [hs] at hb hst
 simp only [beq_self_eq_true,JV,K3,false_implies,true_and,and_true,forall_const,true_implies,implies_true,reduceCtorEq,hl,hb,hM',hbk,hkp,hcR]
 have hwr:i64.wrap ((i:Int)+1)=((i+1:Nat):Int):=by rw [w64 (by omega)];omega
 have hkk:(if i64.wrap (k+1)<6 then i64.wrap (k+1) else 6)=k':=by
  rw [w64 (by omega),hk]
  split<;>split<;>omega
 have hco:Z3N (Wq [.arr .u8 32 Zn.name,.int .i64 Zn.index,.int .i64 Zn.out.kind,.int .i64 Zn.out.amount,.arr .u8 32 Zn.out.owner,.arr .u8 32 Zn.out.other,.arr .u8 32 Zn.out.point,.arr .u8 32 Zn.out.hash,.int .i64 Zn.out.delay,.int .i64 Zn.out.expiry] 0 165) [Zn] 1:=⟨fun j hj=>by
  obtain rfl:j=0:=by omega
  rfl⟩
 have hRb:∀k τ,Zd k τ (i+1) (bkR M s) (XG i (XG 0 (fun _=>[]) (Y9 0 (bkR M s))) (Wq [.arr .u8 32 (M i),.int .i64 i,.nilslice] 0 34)):=fun k τ=>XB fun j hj=>by
  rcases Jj j i with h|h
  ·rw [Z3C h,VU (Jt _),Nat.sub_zero];rfl
  ·obtain rfl:j=i:=by omega
   rw [VU (J2 _),Nat.sub_self]
   unfold bkR
   rw [hs]
   rfl
 have hRk:∀k τ,Zd k τ (i+1) (kpR M s) (XG i (kpR (fun j=>M j) (fun j=>s j)) (Wq [.arr .u8 32 (M i),.int .i64 i,.nilslice,.arr .u8 32 (N (M i) i)] 0 66)):=fun k τ=>Xj fun j hj=>by
  rcases Jj j i with h|h
  ·rw [Z3C h]
  ·obtain rfl:j=i:=by omega
   rw [VU (J2 _),Nat.sub_self]
   unfold kpR
   rw [hs,hst]
   rfl
 have hb0:∀k τ,Zd k τ i (bkR M s) (bkR M s):=fun k τ=>XB fun _ _=>rfl
 have hk0':∀k τ,Zd k τ i (kpR M s) (kpR M s):=fun k τ=>Xj fun _ _=>rfl
 simp only [hwr,hkk,hco,hRb,hRk,hb0,hk0',true_and,and_true]
 refine ⟨fun hc=> ?_,fun hc=> ?_⟩
 ·have h1:=h1 hc
  repeat' first
   | exact h1
   | exact hst
   | exact hst.symm
   | (intro hx;first|(exfalso;omega)|skip)
   | apply Jq
   | omega
   | rfl
 ·have h2:=h2 (by omega)
  repeat' first
   | exact h2
   | apply Jq
   | omega
   | rfl
def lvB (many back lf:Int) (more:Bool) (M:Nat->LI) (s:Nat->Int) (n m:Nat) (k j:Int):St:=⟨160,(14,.int .i64 j)::chT many back more,⟨10,chB lf M s n m k⟩,[]⟩
def Zdm (many back lf:Int) (more:Bool) (M:Nat->LI) (s:Nat->Int) (n m:Nat) (k:Int):St:=⟨160,chT many back more,⟨10,chB lf M s n m k⟩,[]⟩
theorem Zfy (A:LI->Int×Int) (N:LI->Int->LI) (many back lf:Int) (more:Bool) (M:Nat->LI) (s:Nat->Int) (n m:Nat) (j j':Int) (Z1 Z2:Prop) (hm:m<=n) (hn:n<=12) (hj:0<=j/\j<=back) (hb:back<=12) (hj':j'=j+1) (h1:j<back->Z1) (h2:j=back->Z2):
  ZA (Qe A N M s fun _=>0) 40 3 2 0 (lvB many back lf more M s n m 0 j) (rdM 0 2 9 (lvB many back lf more M s n m 0 j') (Zdm many back lf more M s n m 0) lvN lvN Z1 Z2 False False):=by
 refine @Eq.mpr _ (let a:=decide (m=m);let t:=decide (many=many);let k:=decide (back=back);let i:=decide (more=more);let c:=decide (n=n);let f:=[(8,8),(3,3),(5,5),(4,4),(9,9),(2,2),(0,0),(1,1),(7,7),(6,6)];let h:=Zd 0 f n (bkR M s) (bkR M s);let g:=Zd 0 f n (kpR M s) (kpR M s);let b:=decide (m<=m);let C:=decide ((↑m:Int)=(↑m:Int));let B:=decide (lf=lf);let A:=Zn.name=Zn.name;let e:=Zn.out;let z:=e.owner;let y:=z=z;let x:=e.other;let w:=x=x;let v:=e.point;let u:=v=v;let r:=e.hash;let q:=r=r;let p:=ZU [Zn];let o:=Zd 0 f 1 p p;let d:=X6 1=X6 1;let l:=X6 7=X6 7;
 Z6 (decide (j<back)) (Z0 a (Z0 a (Z0 a (Z0 a (Z5 (wrap i64 (j+1)=j') (Z0 t (Z0 k (Z0 i (Z0 c (h/\Z0 c (g/\Z0 a (Z0 b (M m=M m/\Z0 C (Z0 a (Z0 b (Z0 B (A/\y/\w/\u/\q/\o/\d/\l/\Z9=Z9/\Z9=Z9/\Z9=Z9/\d/\Z1))))))))))))))))) (Z0 t (Z0 k (Z0 i (Z0 c (h/\Z0 c (g/\Z0 a (Z0 b (M m=M m/\Z0 C (Z0 a (Z0 b (Z0 B (A/\y/\w/\u/\q/\o/\d/\l/\Z9=Z9/\Z9=Z9/\Z9=Z9/\d/\Z2))))))))))))) (by kernel_rfl) ?_
 conv=>zeta
 try simp only [vcA]
 try simp only [vcB]
 try simp only [vcC]
 have hb0:∀k τ,Zd k τ n (bkR M s) (bkR M s):=fun k τ=>XB fun _ _=>rfl
 have hk0':∀k τ,Zd k τ n (kpR M s) (kpR M s):=fun k τ=>Xj fun _ _=>rfl
 have hcR:∀k τ,Zd k τ 1 (ZU [Zn]) (ZU [Zn]):=fun k τ=>W6 fun _ _=>rfl
 have hwr:i64.wrap (j+1)=j':=by rw [w64 (by omega)];omega
 exact ⟨fun h=>⟨hwr,hb0 _ _,hk0' _ _,hcR _ _,h1 h⟩,fun h=>⟨hb0 _ _,hk0' _ _,hcR _ _,h2 (by omega)⟩⟩
theorem Zfz (A:LI->Int×Int) (N:LI->Int->LI) (many back lf:Int) (more:Bool) (M:Nat->LI) (s:Nat->Int) (n m:Nat) (k k' j j':Int) (Z1 Z2:Prop) (hm:m+1<=n) (hn:n<=12) (hM:∀i,i<n->Qd (M i) (s i)) (hk:1<=k/\k<=6) (hk':k'=k-1) (hj:0<=j/\j<=back) (hb:back<=12) (hj':j'=j+1) (h1:j<back->Z1) (h2:j=back->Z2):
  ZA (Qe A N M s fun _=>0) 40 3 2 0 (lvB many back lf more M s n (m+1) k j) (rdM 0 2 9 (lvB many back lf more M s n m k' j') (Zdm many back lf more M s n (m+1) k) lvN lvN Z1 Z2 False False):=by
 refine @Eq.mpr _ (let I:=k==0;let c:=m+1;let b:=decide (c=c);let f:=decide (k=k);let N:=decide (wrap i64 (j+1)=j');let x:=decide (many=many);let w:=decide (back=back);let v:=decide (more=more);let d:=decide (n=n);let H:=[(8,8),(3,3),(5,5),(4,4),(9,9),(2,2),(0,0),(1,1),(7,7),(6,6)];let G:=Zd 0 H n (bkR M s) (bkR M s);let F:=Zd 0 H n (kpR M s) (kpR M s);let a5:=decide (c=m);let a4:=decide (m<=c);let a3:=decide (k=k');let E:=M c;let h:=↑c;let a2:=decide (lf=lf);let a1:=Zn.name=Zn.name;let u:=Zn.out;let a0:=u.owner;let Z:=a0=a0;let Y:=u.other;let X:=Y=Y;let W:=u.point;let V:=W=W;let U:=u.hash;let T:=U=U;let S:=ZU [Zn];let R:=Zd 0 H 1 S S;let t:=X6 1=X6 1;let Q:=X6 7=X6 7;let P:=Z0 a2 (a1/\Z/\X/\V/\T/\R/\t/\Q/\Z9=Z9/\Z9=Z9/\Z9=Z9/\t/\Z1);let g:=wrap i64 (h-1);let D:=decide (0<=g/\g<h);let O:=Int.toNat g;let o:=0+O;let l:=decide (c<=c);let C:=decide (0<=g/\g<=h);let a:=M o;let B:=Z0 b (Z0 b (Z6 f False False));let e:=s o;let A:=V9 O none;let r:=decide (A=A);let z:=V9 c none;let q:=decide (z=z);let y:=wrap i64 (k-1);let p:=decide (y=y);let i:=Z0 r (Z0 q (Z6 p False False));let L:=decide (A=m);let K:=decide (m<=z);let J:=decide (y=k');
 Z6 (decide (j<back)) (Z6 I (Z6 I (Z0 b (Z0 b (Z0 f (Z0 b (Z0 b (Z0 f (Z0 N (Z0 x (Z0 w (Z0 v (Z0 d (G/\Z0 d (F/\Z0 a5 (Z0 a4 (Z0 a3 (E=M m/\Z5 (h=↑m) (Z0 a5 (Z0 a4 (Z0 a3 P))))))))))))))))))) (Z0 D (Z5 (o<n) (Z0 l (Z0 C (Z5 (a.length=32/\(32:Nat)=32) (Z6 (!a==Z9) B (Z6 (e !=0) B (Z0 b (Z0 b (Z0 f B))))))))))) (Z0 D (Z5 (o<n) (Z0 l (Z0 C (a=a/\Z5 (e=e) (Z6 I (Z5 ((32:Nat)=32/\a.length=32) (Z6 (!Z9==a) i (Z6 (0 !=e) i (Z0 r (Z0 q (Z0 p i)))))) (Z0 D (Z5 (o<n) (Z0 l (Z0 C (Z5 (a.length=32/\a.length=32) (Z6 (!a==a) i (Z6 (e !=e) i (Z0 r (Z0 q (Z0 p (Z0 r (Z0 q (Z0 p (Z0 N (Z0 x (Z0 w (Z0 v (Z0 d (G/\Z0 d (F/\Z0 L (Z0 K (Z0 J (a=M m/\Z5 (g=↑m) (Z0 L (Z0 K (Z0 J P))))))))))))))))))))))))))))))))) (Z0 x (Z0 w (Z0 v (Z0 d (G/\Z0 d (F/\Z0 b (Z0 l (Z0 f (E=E/\Z5 (h=h) (Z0 b (Z0 l (Z0 f (Z0 a2 (a1/\Z/\X/\V/\T/\R/\t/\Q/\Z9=Z9/\Z9=Z9/\Z9=Z9/\t/\Z2))))))))))))))) (by kernel_rfl) ?_
 conv=>zeta
 try simp only [vcA]
 try simp only [vcB]
 try simp only [vcC]
 have hb0:∀k τ,Zd k τ n (bkR M s) (bkR M s):=fun k τ=>XB fun _ _=>rfl
 have hk0':∀k τ,Zd k τ n (kpR M s) (kpR M s):=fun k τ=>Xj fun _ _=>rfl
 have hcR:∀k τ,Zd k τ 1 (ZU [Zn]) (ZU [Zn]):=fun k τ=>W6 fun _ _=>rfl
 have hwr:i64.wrap (j+1)=j':=by rw [w64 (by omega)];omega
 have e:i64.wrap (((m+1:Nat):Int)-1)=(m:Int):=by rw [w64 (by omega)];omega
 have hkf:(k==0)=false:=by rw [beq_eq_false_iff_ne];omega
 have hkw:i64.wrap (k-1)=k':=by rw [w64 (by omega),hk']
 have hl:=(hM m (by omega)).l
 simp only [e,hkf,hkw,hwr,hl,hb0,hk0',hcR,Jo,beq_self_eq_true,bne_self_eq_false,JV,K3,false_implies,true_and,and_true,forall_const,true_implies,implies_true,reduceCtorEq]
 refine ⟨fun h=> ?_,fun h=>h2 (by omega)⟩
 have h1:=h1 h
 repeat' first
  | exact h1
  | apply Jq
  | omega
  | rfl
  | exact Nat.le_succ _
def kA (i:Nat):Int:=if i<6 then i else 6
theorem ZbZ (i:Nat):kA (i+1)=if 6<kA i+1 then 6 else kA i+1:=by
 unfold kA
 split<;>split<;>split<;>omega
theorem Z0a (i:Nat):0<=kA i/\kA i<=6/\kA i<=i:=by
 unfold kA
 split<;>omega
def tkn (n j:Nat):Nat:=if (j:Int)<kA n then j else (kA n).toNat
theorem ZfA (n:Nat):tkn n 0=0:=by
 have:=Z0a n
 unfold tkn
 split<;>omega
theorem Zar (n j:Nat):(tkn n (j+1)=tkn n j/\(tkn n j:Int)=kA n)\/(tkn n (j+1)=tkn n j+1/\(tkn n (j+1):Int)<=kA n):=by
 have:=Z0a n
 unfold tkn
 split<;>split<;>omega
theorem Zdn (n j:Nat):(tkn n j:Int)<=kA n:=by
 have:=Z0a n
 unfold tkn
 split<;>omega
theorem Qf (G:Ze) (f:FuncId) (S:ZX):(G.withP f S).P=G.P:=rfl
theorem Qg (G:Ze) (f:FuncId) (S:YY):(G.withF f S).P=G.P:=rfl
noncomputable def Zc0 (A:LI->Int×Int) (N:LI->Int->LI) (M:Nat->LI) (s:Nat->Int) (o:Nat->Nat) (n b:Nat) (many back lf:Int) (more:Bool):Ze:=(((Qe A N M s o).withL 3 0 (goM 0 (lvA many back lf more M s 0 0) (many=n) (YF 0 n 9 (fun i=>i<n) (fun i=>i=n) (fun _=>False) (fun _=>False) (fun i=>Zf3 many back lf more M s i (kA i)) (fun _=>lvN) (fun _=>lvN)))).withL 3 2 (goM 0 (lvB many back lf more M s n n (kA n) 0) (back=b) (YF 2 b 9 (fun i=>i<b) (fun i=>i=b) (fun _=>False) (fun _=>False) (fun j=>Zdm many back lf more M s n (n-tkn n j) (kA n-tkn n j)) (fun _=>lvN) (fun _=>lvN))))
theorem Zc1 (M:Nat->LI) (s:Nat->Int) (o:Nat->Nat) (n b:Nat) (many back lf:Int) (more:Bool) (hn:n<=12) (hb:b<=12) (hs:∀i,s i=i) (hM:∀m,m<=20->ChM Yu M s m):(Zc0 Xi Yu M s o n b many back lf more).Ok:=by
 refine Ze.withL_join (H:=Qe Xi Yu M s fun _=>0) (Ze.withL_join (H:=Qe Xi Yu M s fun _=>0) (Z0B M s o) (by unfold Qe Z6i;simp only [Qf,Qg]) (Ze.withGoM (N:=40) (k:=0) (n:=n) (l:=9) (S:=fun i=>lvA many back lf more M s i (kA i)) (Z0B M s _) (by kernel_rfl) fun hC=>⟨rfl,fun i hi _=> ?_⟩)) (by unfold Qe Z6i;simp only [VX,Qf,Qg]) (Ze.withGoM (N:=40) (k:=0) (n:=b) (l:=9) (S:=fun j=>lvB many back lf more M s n (n-tkn n j) (kA n-tkn n j) j) (Z0B M s _) (by kernel_rfl) fun hC=>⟨by rw [ZfA];simp,fun j hj _=> ?_⟩)
 ·exact Zfx Xi Yu many back lf more M s i (kA i) (kA (i+1)) _ _ (by omega) ⟨(Z0a i).1,(Z0a i).2.1⟩ (by omega) (hs i) (hM (i+1) (by omega)) (ZbZ i) (fun h=>⟨by omega,by omega⟩) (fun h=>by omega)
 ·obtain ⟨g1,g2,g3⟩:=Z0a n
  rcases Zar n j with ⟨e1,e2⟩|⟨e1,e2⟩
  ·rw [e1,e2]
   have:=Zfy Xi Yu many back lf more M s n (n-tkn n j) j ((j+1:Nat):Int) (j<b/\j<b) (j=b) (by omega) hn (by omega) (by omega) (by omega) (fun h=>⟨by omega,by omega⟩) (fun h=>by omega)
   rw [Int.sub_self]
   exact this
  ·have e3:n-tkn n j=(n-tkn n (j+1))+1:=by omega
   rw [e3]
   exact Zfz Xi Yu many back lf more M s n (n-tkn n (j+1)) (kA n-tkn n j) (kA n-tkn n (j+1)) j ((j+1:Nat):Int) (j<b/\j<b) (j=b) (by omega) hn (fun i hi=>(hM n (by omega)).ok i hi) (by omega) (by omega) (by omega) (by omega) (by omega) (fun h=>⟨by omega,by omega⟩) (fun h=>by omega)
def sqB (lf:Int) (M:Nat->LI) (s:Nat->Int) (n m k q:Nat):List (Nat×Blk):=[(12,.flat [.nslice ⟨11,0,66,0,0⟩ 66 k k]),(11,.rows 66 k (kpR (fun i=>M (q+i)) (fun i=>s (q+i)))),(10,.flat [.int .i64 (q+1:Nat)]),(9,.rows 34 n (bkR M s)),(7,.flat [.nslice ⟨2,0,0,0,0⟩ 165 1 1,.nslice ⟨9,0,34,0,0⟩ 34 m m,.int .i64 k]),(0,.flat [.int .i64 lf]),(1,.flat [.bool false]),(2,.flat Zn.c)]
def sqF:AV:=.func (.func 41) [] [pt 12,pt 10]
def mrS (lf:Int) (more:Bool) (M:Nat->LI) (s:Nat->Int) (n m k q:Nat):St:=⟨160,[(80,.bool more),(17,sqF),(9,pt 6),(11,pt 7),(8,pt 1),(6,pt 0),(10,.int .i64 0)],⟨13,sqB lf M s n m k q++[(8,.rows 66 n (kpR M s)),(6,.flat [.map (some 4),.map (some 5),.nslice ⟨3,0,165,0,0⟩ 165 1 1,.arr .u8 32 (M m),.int .i64 m,.nslice ⟨8,0,66,0,0⟩ 66 m m,.int .i64 k])]++(cnB lf).drop 3⟩,[]⟩
def mrE (lf:Int) (M:Nat->LI) (s:Nat->Int) (n m k q:Nat):St:=⟨160,[(17,sqF),(11,pt 7),(8,pt 1),(6,pt 0),(10,.int .i64 0)],⟨13,sqB lf M s n m k q⟩,[]⟩
theorem ZfB (A:LI->Int×Int) (N:LI->Int->LI) (lf:Int) (M:Nat->LI) (s:Nat->Int) (n m k q:Nat) (hm:m<=n) (hn:n<=12) (hk:k<=6) (hM:ChM N M s m) (h77:Qd (M m) 77):
  Z6U (Qe A N M s fun _=>0) 40 3 100080 0 (mrS lf true M s n m k q) (jnM 0 (mrE lf M s n m k q)):=by
 refine @Eq.mpr _ (let d:=0+m;let e:=decide (d<=n);let u:=decide ((34:Nat)=34/\m=m);let r:=bkR M s;let p:=Z6h (Y9 0 r) M s m;let B:=ChM N M s m;let o:=decide (List.length (M m)=32/\List.length (M m)=32);let l:= !M m==M m;let a:=decide (m=m);let A:=decide ((↑k:Int)=(↑k:Int));let T:=decide (k=k);let S:=[(9,9),(2,2),(11,11),(0,0),(1,1),(7,7),(10,10),(12,12)];let R:=kpR (fun (i:Nat)=>M (q+i)) fun (i:Nat)=>s (q+i);let Q:=(↑(q+1):Int);let z:=Zn.name;let b:=Zn.out;let y:=b.owner;let x:=b.other;let w:=b.point;let v:=b.hash;let P:=Z0 T (Z5 (k<=k) (Z0 T (Zd 0 S k R R/\Z5 (Q=Q) (Z5 (n=n) (Zd 0 S n r r/\Z0 a (Z5 (m<=m) (Z0 A (Z5 (lf=lf) (z=z/\y=y/\x=x/\w=w/\v=v/\True)))))))));let j:=Z0 a (Z0 a (Z0 A (Z0 a (Z0 a (Z0 A P)))));let O:=decide (d<=n);let L:=decide ((66:Nat)=66/\m=m);let K:=QN (Y9 0 (kpR M s)) (fun (i:Nat)=>M (0+i)) (fun (i:Nat)=>s (0+i)) m;let c:=N (M m) 77=N (M m) 77;let h:=M m=M m;let J:=decide ((m+1)*96<=140737488355328);let I:=decide ((↑m:Int)=(↑m:Int));let H:=decide (d*64<=140737488355328);let t:=d+1;let g:=decide (t=t);let G:=wrap i64 ((↑k:Int)+1);let F:=if G<6 then G else 6;let E:=decide (F=F);let f:=Z0 g (Z0 g (Z0 E (Z0 g (Z0 g (Z0 E P)))));let D:=Z5 (d=d) (Z5 (t*64<=140737488355328) (Z0 o (Z6 l f (Qd (M m) 77/\Z0 O ((∀(i:Nat),i<m->true=true)/\Z0 L (K/\m<1000000/\c/\h/\c/\Z0 a (Z0 J (Z0 I (c/\f)/\f/\f))))))));let C:=Z0 a (Z0 a (Z0 e (Z0 H D)));
 Z0 e ((∀(i:Nat),i<m->true=true)/\Z0 u (p/\m<1000/\B/\Z0 e ((∀(i:Nat),i<m->true=true)/\Z0 u (p/\m<1000/\B/\Z0 o (Z6 l (Z0 o (Z6 l j (Qd (M m) 77/\Z0 O ((∀(i:Nat),i<m->true=true)/\Z0 L (K/\m<1000000/\c/\h/\c/\Z0 a (Z0 J (Z0 I (c/\j)/\j/\j))))))) (Z0 e ((∀(i:Nat),i<m->true=true)/\Z0 u (Z3N (Wq [AV.arr u8 32 z,AV.int i64 Zn.index,AV.int i64 b.kind,AV.int i64 b.amount,AV.arr u8 32 y,AV.arr u8 32 x,AV.arr u8 32 w,AV.arr u8 32 v,AV.int i64 b.delay,AV.int i64 b.expiry] 0 165) [Zn] 1/\p/\(1:Nat)<1000/\m<1000/\(h/\Z0 a (Z0 a (Z0 e (Z0 H (h/\D))/\C)))/\Z0 a (Z0 a C)))))))))) (by kernel_rfl) ?_
 conv=>zeta
 try simp only [vcA]
 try simp only [vcB]
 try simp only [vcC]
 have hq:∀a τ,Zd a τ k (kpR (fun i=>M (q+i)) fun i=>s (q+i)) (kpR (fun i=>M (q+i)) fun i=>s (q+i)):=fun a τ=>Xj fun _ _=>rfl
 have hb0:∀a τ,Zd a τ n (bkR M s) (bkR M s):=fun a τ=>XB fun _ _=>rfl
 have hl:=h77.l
 have hbk:Z6h (Y9 0 (bkR M s)) M s m:=⟨fun j hj=>rfl⟩
 have hkp:QN (Y9 0 (kpR M s)) (fun j=>M j) (fun j=>s j) m:=⟨fun j hj=>rfl⟩
 have hco:Z3N (Wq [.arr .u8 32 Zn.name,.int .i64 Zn.index,.int .i64 Zn.out.kind,.int .i64 Zn.out.amount,.arr .u8 32 Zn.out.owner,.arr .u8 32 Zn.out.other,.arr .u8 32 Zn.out.point,.arr .u8 32 Zn.out.hash,.int .i64 Zn.out.delay,.int .i64 Zn.out.expiry] 0 165) [Zn] 1:=⟨fun j hj=>by
  obtain rfl:j=0:=by omega
  rfl⟩
 simp only [hq,hb0,hbk,hkp,hco,hM,hl,h77,beq_self_eq_true,JV,K3,false_implies,true_and,and_true,forall_const,true_implies,implies_true,reduceCtorEq]
 repeat' first
  | apply Jq
  | omega
  | trivial
  | (intro _)
theorem ZfC (A:LI->Int×Int) (N:LI->Int->LI) (lf:Int) (M:Nat->LI) (s:Nat->Int) (n m k q:Nat) (hm:m<=n):
  Z6U (Qe A N M s fun _=>0) 40 3 100080 0 (mrS lf false M s n m k q) (jnM 0 (mrE lf M s n m k q)):=by
 refine @Eq.mpr _ (let j:=decide (k=k);let h:=[(9,9),(2,2),(11,11),(0,0),(1,1),(7,7),(10,10),(12,12)];let g:=kpR (fun (i:Nat)=>M (q+i)) fun (i:Nat)=>s (q+i);let f:=(↑(q+1):Int);let a:=Zn.out;let e:=a.owner;let d:=a.other;let c:=a.point;let b:=a.hash;
 Z0 j (Z5 (k<=k) (Z0 j (Zd 0 h k g g/\Z5 (f=f) (Z5 (n=n) (Zd 0 h n (bkR M s) (bkR M s)/\Z5 (m=m) (Z5 (m<=m) (Z5 ((↑k:Int)=(↑k:Int)) (Z5 (lf=lf) (Zn.name=Zn.name/\e=e/\d=d/\c=c/\b=b/\True)))))))))) (by kernel_rfl) ?_
 conv=>zeta
 try simp only [vcA]
 try simp only [vcB]
 try simp only [vcC]
 have hq:∀a τ,Zd a τ k (kpR (fun i=>M (q+i)) fun i=>s (q+i)) (kpR (fun i=>M (q+i)) fun i=>s (q+i)):=fun a τ=>Xj fun _ _=>rfl
 have hb0:∀a τ,Zd a τ n (bkR M s) (bkR M s):=fun a τ=>XB fun _ _=>rfl
 exact ⟨hq _ _,hb0 _ _⟩
noncomputable def Zdo (A:LI->Int×Int) (N:LI->Int->LI) (M:Nat->LI) (s:Nat->Int) (o:Nat->Nat) (n b:Nat) (many back lf:Int) (more:Bool) (m k q:Nat):Ze:=(Zc0 A N M s o n b many back lf more).withL 3 100080 (Z9Z 0 (mrS lf more M s n m k q) (mrE lf M s n m k q) (m<=n/\k<=6/\ChM N M s m/\Qd (M m) 77))
theorem Zc2 (M:Nat->LI) (s:Nat->Int) (o:Nat->Nat) (n b:Nat) (many back lf:Int) (more:Bool) (m k q:Nat) (hn:n<=12) (hb:b<=12) (hs:∀i,s i=i) (hM:∀m,m<=20->ChM Yu M s m):(Zdo Xi Yu M s o n b many back lf more m k q).Ok:=
 Ze.withL_join (H:=Qe Xi Yu M s fun _=>0) (Zc1 M s o n b many back lf more hn hb hs hM) (by unfold Zc0 Qe Z6i;simp only [VX,Qf,Qg]) (Ze.withJ (N:=40) (Z0B M s _) (by kernel_rfl) fun hC=>by
  obtain ⟨h1,h2,h3,h4⟩:=hC
  cases more with
  | true=>exact ZfB Xi Yu lf M s n m k q h1 hn h2 h3 h4
  | false=>exact ZfC Xi Yu lf M s n m k q h1)
noncomputable def YL:Code:=rfA PP 3 0
noncomputable def YM:Code:=rfB PP 3 0
structure SqS where
 lf:Int
 M:Nat->LI
 s:Nat->Int
 n:Nat
 m:Nat
 k:Nat
 q:Nat
structure SqS.Ok (x:SqS):Prop where
 q:x.q+x.k=x.m
 m:x.m<=x.n
 n:x.n<=12
 len:∀i,i<x.m->(x.M i).length=32
 kl:x.k<=6
def SqS.B (x:SqS):List (Nat×Blk):=sqB x.lf x.M x.s x.n x.m x.k x.q
def tmL (b:Nat):ZE:=[(10,.int .i64 0),(6,pt 0),(8,pt 1),(11,pt 7),(17,sqF),(18,pt 13),(19,pt b)]
noncomputable def cR (x:SqS) (b c:Nat) (ls:LoopState) (tu:Int) (i:Nat) (ex:List (Nat×Blk)):St:=⟨23,[(0,.yield (c+1)),(6,.nslice ⟨11,0,66,0,0⟩ 66 x.k x.k),(7,.int .i64 x.k),(8,.int .i64 i),(2,pt 10)],⟨c+2,(c+1,.loop ⟨ls,none,3,160,tmL b,[92,93],YL,YM,c⟩)::(c,.defd)::(b,.flat [.int .i64 i])::(13,.flat [.int .i64 tu])::(ex++x.B)⟩,[]⟩
noncomputable def cX (x:SqS) (b c:Nat) (ls:LoopState) (pe:Option Code) (tu n:Int) (ex:List (Nat×Blk)):St:=⟨23,[(0,.yield (c+1))],⟨c+2,(c+1,.loop ⟨ls,pe,3,160,tmL b,[92,93],YL,YM,c⟩)::(c,.defd)::(b,.flat [.int .i64 n])::(13,.flat [.int .i64 tu])::(ex++x.B)⟩,[]⟩
def cN:St:=⟨23,[],⟨0,[]⟩,[]⟩
theorem Zf4 (x:SqS) (ls:LoopState) (pe:Option Code) (tu ne:Int) (i:Nat) (Z1 Z2:Prop) (hO:x.Ok) (hi:i<=x.k) (hx:i=x.k->(ls=.ready/\pe=none/\ne=i)/\Z2) (hbk:i<x.k->tu=0->(i:Int)+1>=x.lf->(ls=.done/\pe=some (.exit 6)/\ne=(i:Int)+1)/\Z2) (hgo:i<x.k->(tu=0->(i:Int)+1<x.lf)->Z1):
  ZA G0 20 41 0 17 (cR x 14 15 .ready tu i []) (rdM 17 0 9 (cR x 14 15 .ready tu (i+1) []) (cX x 14 15 ls pe tu ne []) cN cN Z1 Z2 False False):=by
 refine @Eq.mpr _ (let a:=x.k;let d:=(↑a:Int);let N:=0+Int.toNat (↑i:Int);let f:=x.q;let r:=(↑(f+1):Int);let p:=decide (r=r);let c:=x.m;let o:=(↑c:Int);let b:=wrap i64 (wrap i64 (o-d)+(↑i:Int));let a0:=[(92:Nat),93];let l:=(3:FuncId)=3/\(160:Nat)=160/\a0=a0/\YL=YL/\YM=YM;let Z:=decide (tu=tu);let e:=decide (a=a);let y:=decide (a<=a);let Y:=kpR (fun (i:Nat)=>x.M (f+i)) fun (i:Nat)=>x.s (f+i);let X:=Zd 17 [] a Y Y;let j:=x.n;let W:=decide (j=j);let V:=bkR x.M x.s;let U:=Zd 17 [] j V V;let T:=decide (c=c);let S:=decide (c<=c);let w:=decide (d=d);let v:=x.lf;let R:=decide (v=v);let Q:=Zn.name=Zn.name;let h:=Zn.out;let P:=h.owner;let O:=P=P;let L:=h.other;let K:=L=L;let J:=h.point;let I:=J=J;let H:=h.hash;let G:=H=H;let F:=Z0 Z (Z0 e (Z0 y (Z0 e (X/\Z0 p (Z0 W (U/\Z0 T (Z0 S (Z0 w (Z0 R (Q/\O/\K/\I/\G/\Z2))))))))));let E:=Z5 ((↑i:Int)=ne) F;let g:=(LoopState.done=ls/\some Code.ret=pe/\l)/\E;let u:=0+Int.toNat b;let D:=f+N;let C:=x.M D;let B:=x.M u;let t:=wrap i64 ((↑i:Int)+1);let A:=decide (t=(↑(i+1):Int));let z:=Z0 e (Z0 y (Z0 w (Z0 A ((LoopState.ready=LoopState.ready/\(none:Option Code)=none/\l)/\Z0 A (Z0 Z (Z0 e (Z0 y (Z0 e (X/\Z0 p (Z0 W (U/\Z0 T (Z0 S (Z0 w (Z0 R (Q/\O/\K/\I/\G/\Z1)))))))))))))));
 Z6 (decide ((↑i:Int)<d)) (Z5 (0<=(↑i:Int)/\(↑i:Int)<d) (Z5 (N<a) (Z0 p (Z6 (decide (b>=o)) g (Z6 (wrap i64 (r+(↑i:Int)) !=wrap i64 (b+1)) g (Z5 (0<=b/\b<o) (Z5 (u<j) (Z5 (C.length=32/\B.length=32) (Z6 (!C==B) g (Z6 (x.s D !=x.s u) g (Z6 (tu==0) (Z6 (decide (t>=v)) ((LoopState.done=ls/\some (Code.exit 6)=pe/\l)/\Z5 (t=ne) F) z) z))))))))))) ((LoopState.ready=ls/\none=pe/\l)/\E)) (by kernel_rfl) ?_
 conv=>zeta
 try simp only [vcA]
 try simp only [vcB]
 try simp only [vcC]
 obtain ⟨oq,om,on,ol,ok⟩:=hO
 have hq:∀a τ,Zd a τ x.k (kpR (fun i=>x.M (x.q+i)) fun i=>x.s (x.q+i)) (kpR (fun i=>x.M (x.q+i)) fun i=>x.s (x.q+i)):=fun a τ=>Xj fun _ _=>rfl
 have hb0:∀a τ,Zd a τ x.n (bkR x.M x.s) (bkR x.M x.s):=fun a τ=>XB fun _ _=>rfl
 refine ⟨fun hlt=> ?_,fun hge=> ?_⟩
 ·have hlt':i<x.k:=by omega
  have hl:=ol (x.q+i) (by omega)
  have e0:i64.wrap ((x.m:Int)-x.k)=(x.q:Int):=by rw [w64 (by omega)];omega
  have e1:i64.wrap ((x.q:Int)+i)=((x.q+i:Nat):Int):=by rw [w64 (by omega)];omega
  have e2:i64.wrap (((x.q+1:Nat):Int)+i)=((x.q+i+1:Nat):Int):=by rw [w64 (by omega)];omega
  have e3:i64.wrap (((x.q+i:Nat):Int)+1)=((x.q+i+1:Nat):Int):=by rw [w64 (by omega)];omega
  have hwi:i64.wrap ((i:Int)+1)=((i+1:Nat):Int):=by rw [w64 (by omega)];omega
  simp only [e0,e1,e2,e3,hwi,hl,hq,hb0,Jo,bne_self_eq_false,beq_self_eq_true,JV,K3,false_implies,true_and,and_true,forall_const,true_implies,reduceCtorEq]
  refine ⟨by omega,hlt',fun h=>absurd h (by omega),fun _=>⟨by omega,by omega,fun h0=>⟨fun hm=> ?_,fun hm=>hgo hlt' fun _=>by omega⟩,fun h0=>hgo hlt' fun h=>by rw [h] at h0;simp at h0⟩⟩
  obtain ⟨⟨x1,x2,x3⟩,hz⟩:=hbk hlt' (by simpa using h0) (by omega)
  exact ⟨⟨x1.symm,x2.symm⟩,by omega,hz⟩
 ·obtain ⟨⟨x1,x2,x3⟩,hz⟩:=hx (by omega)
  exact ⟨⟨x1.symm,x2.symm⟩,x3.symm,hq _ _,hb0 _ _,hz⟩
theorem ZfD (x:SqS) (ls:LoopState) (pe:Option Code) (tu ne:Int) (i:Nat) (Z1 Z2:Prop) (hO:x.Ok) (hi:i<=x.k) (hx:i=x.k->(ls=.ready/\pe=none/\ne=i)/\Z2) (hbk:i<x.k->tu=0->(i:Int)+1>=x.lf->(ls=.done/\pe=some (.exit 6)/\ne=(i:Int)+1)/\Z2) (hgo:i<x.k->(tu=0->(i:Int)+1<x.lf)->Z1):
  ZA G0 20 41 0 18 (cR x 15 16 .ready tu i [(14,.defd)]) (rdM 18 0 9 (cR x 15 16 .ready tu (i+1) [(14,.defd)]) (cX x 15 16 ls pe tu ne [(14,.defd)]) cN cN Z1 Z2 False False):=by
 refine @Eq.mpr _ (let a:=x.k;let d:=(↑a:Int);let N:=0+Int.toNat (↑i:Int);let f:=x.q;let r:=(↑(f+1):Int);let p:=decide (r=r);let c:=x.m;let o:=(↑c:Int);let b:=wrap i64 (wrap i64 (o-d)+(↑i:Int));let a0:=[(92:Nat),93];let l:=(3:FuncId)=3/\(160:Nat)=160/\a0=a0/\YL=YL/\YM=YM;let Z:=decide (tu=tu);let e:=decide (a=a);let y:=decide (a<=a);let Y:=kpR (fun (i:Nat)=>x.M (f+i)) fun (i:Nat)=>x.s (f+i);let X:=Zd 18 [] a Y Y;let j:=x.n;let W:=decide (j=j);let V:=bkR x.M x.s;let U:=Zd 18 [] j V V;let T:=decide (c=c);let S:=decide (c<=c);let w:=decide (d=d);let v:=x.lf;let R:=decide (v=v);let Q:=Zn.name=Zn.name;let h:=Zn.out;let P:=h.owner;let O:=P=P;let L:=h.other;let K:=L=L;let J:=h.point;let I:=J=J;let H:=h.hash;let G:=H=H;let F:=Z0 Z (Z0 e (Z0 y (Z0 e (X/\Z0 p (Z0 W (U/\Z0 T (Z0 S (Z0 w (Z0 R (Q/\O/\K/\I/\G/\Z2))))))))));let E:=Z5 ((↑i:Int)=ne) F;let g:=(LoopState.done=ls/\some Code.ret=pe/\l)/\E;let u:=0+Int.toNat b;let D:=f+N;let C:=x.M D;let B:=x.M u;let t:=wrap i64 ((↑i:Int)+1);let A:=decide (t=(↑(i+1):Int));let z:=Z0 e (Z0 y (Z0 w (Z0 A ((LoopState.ready=LoopState.ready/\(none:Option Code)=none/\l)/\Z0 A (Z0 Z (Z0 e (Z0 y (Z0 e (X/\Z0 p (Z0 W (U/\Z0 T (Z0 S (Z0 w (Z0 R (Q/\O/\K/\I/\G/\Z1)))))))))))))));
 Z6 (decide ((↑i:Int)<d)) (Z5 (0<=(↑i:Int)/\(↑i:Int)<d) (Z5 (N<a) (Z0 p (Z6 (decide (b>=o)) g (Z6 (wrap i64 (r+(↑i:Int)) !=wrap i64 (b+1)) g (Z5 (0<=b/\b<o) (Z5 (u<j) (Z5 (C.length=32/\B.length=32) (Z6 (!C==B) g (Z6 (x.s D !=x.s u) g (Z6 (tu==0) (Z6 (decide (t>=v)) ((LoopState.done=ls/\some (Code.exit 6)=pe/\l)/\Z5 (t=ne) F) z) z))))))))))) ((LoopState.ready=ls/\none=pe/\l)/\E)) (by kernel_rfl) ?_
 conv=>zeta
 try simp only [vcA]
 try simp only [vcB]
 try simp only [vcC]
 obtain ⟨oq,om,on,ol,ok⟩:=hO
 have hq:∀a τ,Zd a τ x.k (kpR (fun i=>x.M (x.q+i)) fun i=>x.s (x.q+i)) (kpR (fun i=>x.M (x.q+i)) fun i=>x.s (x.q+i)):=fun a τ=>Xj fun _ _=>rfl
 have hb0:∀a τ,Zd a τ x.n (bkR x.M x.s) (bkR x.M x.s):=fun a τ=>XB fun _ _=>rfl
 refine ⟨fun hlt=> ?_,fun hge=> ?_⟩
 ·have hlt':i<x.k:=by omega
  have hl:=ol (x.q+i) (by omega)
  have e0:i64.wrap ((x.m:Int)-x.k)=(x.q:Int):=by rw [w64 (by omega)];omega
  have e1:i64.wrap ((x.q:Int)+i)=((x.q+i:Nat):Int):=by rw [w64 (by omega)];omega
  have e2:i64.wrap (((x.q+1:Nat):Int)+i)=((x.q+i+1:Nat):Int):=by rw [w64 (by omega)];omega
  have e3:i64.wrap (((x.q+i:Nat):Int)+1)=((x.q+i+1:Nat):Int):=by rw [w64 (by omega)];omega
  have hwi:i64.wrap ((i:Int)+1)=((i+1:Nat):Int):=by rw [w64 (by omega)];omega
  simp only [e0,e1,e2,e3,hwi,hl,hq,hb0,Jo,bne_self_eq_false,beq_self_eq_true,JV,K3,false_implies,true_and,and_true,forall_const,true_implies,reduceCtorEq]
  refine ⟨by omega,hlt',fun h=>absurd h (by omega),fun _=>⟨by omega,by omega,fun h0=>⟨fun hm=> ?_,fun hm=>hgo hlt' fun _=>by omega⟩,fun h0=>hgo hlt' fun h=>by rw [h] at h0;simp at h0⟩⟩
  obtain ⟨⟨x1,x2,x3⟩,hz⟩:=hbk hlt' (by simpa using h0) (by omega)
  exact ⟨⟨x1.symm,x2.symm⟩,by omega,hz⟩
 ·obtain ⟨⟨x1,x2,x3⟩,hz⟩:=hx (by omega)
  exact ⟨⟨x1.symm,x2.symm⟩,x3.symm,hq _ _,hb0 _ _,hz⟩
noncomputable def Z4P (x:SqS) (ls:LoopState) (pe:Option Code) (ne:Int) (J:Nat):Nat->St->KE->Prop:=goM 17 (cR x 14 15 .ready 0 0 []) x.Ok (YF 0 J 9 (fun i=>i<J) (fun i=>i=J) (fun _=>False) (fun _=>False) (fun _=>cX x 14 15 ls pe 0 ne []) (fun _=>cN) (fun _=>cN))
noncomputable def Zas (x:SqS) (ne:Int):Nat->St->KE->Prop:=goM 18 (cR x 15 16 .ready 1 0 [(14,.defd)]) x.Ok (YF 0 x.k 9 (fun i=>i<x.k) (fun i=>i=x.k) (fun _=>False) (fun _=>False) (fun _=>cX x 15 16 .ready none 1 ne [(14,.defd)]) (fun _=>cN) (fun _=>cN))
theorem Zdp (x:SqS) (hA:∀i:Nat,i<x.k->(i:Int)+1<x.lf):(G0.withL 41 0 (Z4P x .ready none x.k x.k)).Ok:=by
 unfold Z4P
 refine Ze.withGoM (N:=20) (S:=fun i=>cR x 14 15 .ready 0 i []) Zr (by kernel_rfl) fun hC=>⟨rfl,fun i hi hgo=> ?_⟩
 exact Zf4 x .ready none 0 _ i _ _ hC hi (fun h=>⟨⟨rfl,rfl,by rw [h]⟩,h⟩) (fun h _ hm=>absurd (hA i h) (by omega)) (fun h _=>⟨h,h⟩)
theorem Zdq (x:SqS) (J:Nat) (hJ:J<x.k) (hm:(J:Int)+1>=x.lf) (hA:∀i:Nat,i<J->(i:Int)+1<x.lf):(G0.withL 41 0 (Z4P x .done (some (.exit 6)) ((J:Int)+1) J)).Ok:=by
 unfold Z4P
 refine Ze.withGoM (N:=20) (S:=fun i=>cR x 14 15 .ready 0 i []) Zr (by kernel_rfl) fun hC=>⟨rfl,fun i hi hgo=> ?_⟩
 refine Zf4 x .done (some (.exit 6)) 0 _ i _ _ hC (by omega) (fun h=>absurd h (by omega)) (fun h _ hm'=> ?_) (fun h h'=> ?_)
 ·have:i=J:=Classical.byContradiction fun hne=>absurd (hA i (by omega)) (by omega)
  subst this
  exact ⟨⟨rfl,rfl,rfl⟩,rfl⟩
 ·have hne:i≠J:=fun e=>by subst e;have:=h' rfl;omega
  exact ⟨by omega,by omega⟩
theorem Zat (x:SqS):(G0.withL 41 0 (Zas x x.k)).Ok:=by
 unfold Zas
 refine Ze.withGoM (N:=20) (S:=fun i=>cR x 15 16 .ready 1 i [(14,.defd)]) Zr (by kernel_rfl) fun hC=>⟨rfl,fun i hi hgo=> ?_⟩
 exact ZfD x .ready none 1 _ i _ _ hC hi (fun h=>⟨⟨rfl,rfl,by rw [h]⟩,h⟩) (fun h h0 _=>by cases h0) (fun h _=>⟨h,h⟩)
def Zf5 (s:St):Bool:=match s.h.get 13 with
 | some (.flat [.int _ n])=>decide (n=0)
 | _=>false
noncomputable def Z4Q (L0 L1:Nat->St->KE->Prop):Ze:=G0.withL 41 0 (orL Zf5 L0 L1)
def tuM:ZE:=[(18,pt 13),(10,.int .i64 0),(6,pt 0),(8,pt 1),(11,pt 7),(17,sqF)]
def tuS (x:SqS) (i:Nat):St:=match i with
 | 0=>⟨160,tuM,⟨14,(13,.flat [.int .i64 0])::x.B⟩,[]⟩
 | 1=>⟨160,tuM,⟨15,(14,.defd)::(13,.flat [.int .i64 1])::x.B⟩,[.mark 14]⟩
 | _=>⟨160,tuM,⟨16,(15,.defd)::(14,.defd)::(13,.flat [.int .i64 2])::x.B⟩,[.mark 15,.mark 14]⟩
def tuE:St:=⟨160,[(8,pt 1),(10,.int .i64 0)],⟨16,[(15,.defd),(14,.defd),(1,.flat [.bool false])]⟩,[.mark 15,.mark 14]⟩
def mnL (x:SqS):Int:=if (if x.lf>1 then x.lf else 1)<x.k then (if x.lf>1 then x.lf else 1) else x.k
theorem ZfE (x:SqS) (L1:Nat->St->KE->Prop) (ls:LoopState) (pe:Option Code) (ne:Int) (J:Nat) (Z1 Z2 Z3 Z4:Prop) (hO:x.Ok) (hne:ne=mnL x) (h1:Z1):
  ZA (Z4Q (Z4P x .ready none ne J) L1) 40 3 4 0 (tuS x 0) (rdM 0 4 9 (tuS x 1) tuE lvN lvN Z1 Z2 Z3 Z4):=by
 refine @Eq.mpr _ (let a:=x.k;let b:=decide (a=a);let p:=decide (a<=a);let d:=(↑a:Int);let o:=decide (d=d);let u:=[(92:Nat),93];let c:=kpR (fun (i:Nat)=>x.M (x.q+i)) fun (i:Nat)=>x.s (x.q+i);let t:=(↑(x.q+1):Int);let r:=decide (t=t);let l:=x.n;let L:=decide (l=l);let h:=bkR x.M x.s;let g:=x.m;let K:=decide (g=g);let I:=decide (g<=g);let f:=x.lf;let H:=decide (f=f);let G:=Zn.name=Zn.name;let e:=Zn.out;let F:=e.owner;let E:=F=F;let D:=e.other;let C:=D=D;let B:=e.point;let A:=B=B;let z:=e.hash;let y:=z=z;let w:=if f>1 then f else 1;let v:=[(9,9),(2,2),(11,11),(14,15),(10,10),(12,12),(7,7),(1,1),(0,0),(13,17)];
 Z0 b (Z0 p (Z0 o ((LoopState.ready=LoopState.ready/\(none:Option Code)=none/\(3:FuncId)=3/\(160:Nat)=160/\u=u/\YL=YL/\YM=YM)/\Z0 b (Z0 p (Z0 b (Zd 17 [] a c c/\Z0 r (Z0 L (Zd 17 [] l h h/\Z0 K (Z0 I (Z0 o (Z0 H (G/\E/\C/\A/\y/\SqS.Ok x/\∀(i:Nat),i<=J->(∀(j:Nat),j<i->(fun (i:Nat)=>i<J) j)->(i=J->Z6 (ne !=if w<d then w else d) False (Z0 b (Z0 p (Z0 b (Zd 0 v a c c/\Z0 r (Z0 L (Zd 0 v l h h/\Z0 K (Z0 I (Z0 o (Z0 H (G/\E/\C/\A/\y/\Z1)))))))))))/\(False->False)/\(False->False)))))))))))))) (by kernel_rfl) ?_
 conv=>zeta
 try simp only [vcA]
 try simp only [vcB]
 try simp only [vcC]
 have hq:∀a τ,Zd a τ x.k (kpR (fun i=>x.M (x.q+i)) fun i=>x.s (x.q+i)) (kpR (fun i=>x.M (x.q+i)) fun i=>x.s (x.q+i)):=fun a τ=>Xj fun _ _=>rfl
 have hb0:∀a τ,Zd a τ x.n (bkR x.M x.s) (bkR x.M x.s):=fun a τ=>XB fun _ _=>rfl
 refine ⟨hq _ _,hb0 _ _,hO,fun i hi _=>⟨fun he=>⟨?_,hq _ _,hb0 _ _,h1⟩,fun h=>h,fun h=>h⟩⟩
 rw [hne]
 exact bne_self_eq_false _
theorem Zf6 (x:SqS) (L1:Nat->St->KE->Prop) (ne:Int) (J:Nat) (Z1 Z2 Z3 Z4:Prop) (hO:x.Ok) (hne:ne=mnL x) (h1:Z1):
  ZA (Z4Q (Z4P x .done (some (.exit 6)) ne J) L1) 40 3 4 0 (tuS x 0) (rdM 0 4 9 (tuS x 1) tuE lvN lvN Z1 Z2 Z3 Z4):=by
 refine @Eq.mpr _ (let a:=x.k;let b:=decide (a=a);let p:=decide (a<=a);let d:=(↑a:Int);let o:=decide (d=d);let u:=[(92:Nat),93];let c:=kpR (fun (i:Nat)=>x.M (x.q+i)) fun (i:Nat)=>x.s (x.q+i);let t:=(↑(x.q+1):Int);let r:=decide (t=t);let l:=x.n;let L:=decide (l=l);let h:=bkR x.M x.s;let g:=x.m;let K:=decide (g=g);let I:=decide (g<=g);let f:=x.lf;let H:=decide (f=f);let G:=Zn.name=Zn.name;let e:=Zn.out;let F:=e.owner;let E:=F=F;let D:=e.other;let C:=D=D;let B:=e.point;let A:=B=B;let z:=e.hash;let y:=z=z;let w:=if f>1 then f else 1;let v:=[(9,9),(2,2),(11,11),(14,15),(10,10),(12,12),(7,7),(1,1),(0,0),(13,17)];
 Z0 b (Z0 p (Z0 o ((LoopState.ready=LoopState.ready/\(none:Option Code)=none/\(3:FuncId)=3/\(160:Nat)=160/\u=u/\YL=YL/\YM=YM)/\Z0 b (Z0 p (Z0 b (Zd 17 [] a c c/\Z0 r (Z0 L (Zd 17 [] l h h/\Z0 K (Z0 I (Z0 o (Z0 H (G/\E/\C/\A/\y/\SqS.Ok x/\∀(i:Nat),i<=J->(∀(j:Nat),j<i->(fun (i:Nat)=>i<J) j)->(i=J->Z6 (ne !=if w<d then w else d) False (Z0 b (Z0 p (Z0 b (Zd 0 v a c c/\Z0 r (Z0 L (Zd 0 v l h h/\Z0 K (Z0 I (Z0 o (Z0 H (G/\E/\C/\A/\y/\Z1)))))))))))/\(False->False)/\(False->False)))))))))))))) (by kernel_rfl) ?_
 conv=>zeta
 try simp only [vcA]
 try simp only [vcB]
 try simp only [vcC]
 have hq:∀a τ,Zd a τ x.k (kpR (fun i=>x.M (x.q+i)) fun i=>x.s (x.q+i)) (kpR (fun i=>x.M (x.q+i)) fun i=>x.s (x.q+i)):=fun a τ=>Xj fun _ _=>rfl
 have hb0:∀a τ,Zd a τ x.n (bkR x.M x.s) (bkR x.M x.s):=fun a τ=>XB fun _ _=>rfl
 refine ⟨hq _ _,hb0 _ _,hO,fun i hi _=>⟨fun he=>⟨?_,hq _ _,hb0 _ _,h1⟩,fun h=>h,fun h=>h⟩⟩
 rw [hne]
 exact bne_self_eq_false _
theorem Zf7 (x:SqS) (L0:Nat->St->KE->Prop) (ne:Int) (Z1 Z2 Z3 Z4:Prop) (hO:x.Ok) (hne:ne=x.k) (h1:Z1):
  ZA (Z4Q L0 (Zas x ne)) 40 3 4 0 (tuS x 1) (rdM 0 4 9 (tuS x 2) tuE lvN lvN Z1 Z2 Z3 Z4):=by
 refine @Eq.mpr _ (let a:=x.k;let b:=decide (a=a);let o:=decide (a<=a);let l:=(↑a:Int);let h:=decide (l=l);let t:=[(92:Nat),93];let c:=kpR (fun (i:Nat)=>x.M (x.q+i)) fun (i:Nat)=>x.s (x.q+i);let r:=(↑(x.q+1):Int);let p:=decide (r=r);let g:=x.n;let I:=decide (g=g);let f:=bkR x.M x.s;let e:=x.m;let H:=decide (e=e);let G:=decide (e<=e);let F:=decide (x.lf=x.lf);let E:=Zn.name=Zn.name;let d:=Zn.out;let D:=d.owner;let C:=D=D;let B:=d.other;let A:=B=B;let z:=d.point;let y:=z=z;let w:=d.hash;let v:=w=w;let u:=[(9,9),(2,2),(11,11),(14,14),(15,16),(10,10),(12,12),(7,7),(1,1),(0,0),(13,18)];
 Z0 b (Z0 o (Z0 h ((LoopState.ready=LoopState.ready/\(none:Option Code)=none/\(3:FuncId)=3/\(160:Nat)=160/\t=t/\YL=YL/\YM=YM)/\Z0 b (Z0 o (Z0 b (Zd 18 [] a c c/\Z0 p (Z0 I (Zd 18 [] g f f/\Z0 H (Z0 G (Z0 h (Z0 F (E/\C/\A/\y/\v/\SqS.Ok x/\∀(i:Nat),i<=a->(∀(j:Nat),j<i->(fun (i:Nat)=>i<a) j)->(i=a->Z6 (ne !=l) False (Z0 b (Z0 o (Z0 b (Zd 0 u a c c/\Z0 p (Z0 I (Zd 0 u g f f/\Z0 H (Z0 G (Z0 h (Z0 F (E/\C/\A/\y/\v/\Z1)))))))))))/\(False->False)/\(False->False)))))))))))))) (by kernel_rfl) ?_
 conv=>zeta
 try simp only [vcA]
 try simp only [vcB]
 try simp only [vcC]
 have hq:∀a τ,Zd a τ x.k (kpR (fun i=>x.M (x.q+i)) fun i=>x.s (x.q+i)) (kpR (fun i=>x.M (x.q+i)) fun i=>x.s (x.q+i)):=fun a τ=>Xj fun _ _=>rfl
 have hb0:∀a τ,Zd a τ x.n (bkR x.M x.s) (bkR x.M x.s):=fun a τ=>XB fun _ _=>rfl
 refine ⟨hq _ _,hb0 _ _,hO,fun i hi _=>⟨fun he=>⟨?_,hq _ _,hb0 _ _,h1⟩,fun h=>h,fun h=>h⟩⟩
 rw [hne]
 exact bne_self_eq_false _
theorem Zf8 (x:SqS) (L0 L1:Nat->St->KE->Prop) (Z1 Z2 Z3 Z4:Prop) (h2:Z2):
  ZA (Z4Q L0 L1) 40 3 4 0 (tuS x 2) (rdM 0 4 9 (tuS x 3) tuE lvN lvN Z1 Z2 Z3 Z4):=by
 refine @Eq.mpr _ (Z2) (by kernel_rfl) ?_
 try simp only [vcA]
 try simp only [vcB]
 try simp only [vcC]
 trivial
theorem tuG (x:SqS):∃L0 L1,(Z4Q L0 L1).Ok/\(x.Ok->∀(i:Nat),i<=2->ZA (Z4Q L0 L1) 40 3 4 0 (tuS x i) (rdM 0 4 9 (tuS x (i+1)) tuE lvN lvN (i<2/\i<2) (i=2) False False)):=by
 by_cases hA:∀i:Nat,i<x.k->(i:Int)+1<x.lf
 ·refine ⟨Z4P x .ready none x.k x.k,Zas x x.k,Ze.withL_or Zr (Zdp x hA) (Zat x),fun hO i hi=> ?_⟩
  match i,hi with
  | 0,_=>exact ZfE x _ .ready none _ _ _ _ _ _ hO (by
    unfold mnL
    by_cases hk:x.k=0
    ·rw [hk];split<;>split<;>omega
    ·have:=hA (x.k-1) (by omega)
     split<;>split<;>omega) ⟨by omega,by omega⟩
  | 1,_=>exact Zf7 x _ _ _ _ _ _ hO rfl ⟨by omega,by omega⟩
  | 2,_=>exact Zf8 x _ _ _ _ _ _ rfl
 ·have:∃J:Nat,J<x.k/\(J:Int)+1>=x.lf/\∀i:Nat,i<J->(i:Int)+1<x.lf:=by
   have h1:∃n:Nat,n<x.k/\¬((n:Int)+1<x.lf):=Classical.byContradiction fun hne=>hA fun i hi=>Classical.byContradiction fun hc=>hne ⟨i,hi,hc⟩
   obtain ⟨n,hn,hc⟩:=h1
   by_cases hl:x.lf<=1
   ·exact ⟨0,by omega,by omega,fun i hi=>by omega⟩
   ·exact ⟨(x.lf-1).toNat,by omega,by omega,fun i hi=>by omega⟩
  obtain ⟨J,hJ,hm,hB⟩:=this
  refine ⟨Z4P x .done (some (.exit 6)) ((J:Int)+1) J,Zas x x.k,Ze.withL_or Zr (Zdq x J hJ hm hB) (Zat x),fun hO i hi=> ?_⟩
  match i,hi with
  | 0,_=>exact Zf6 x _ _ _ _ _ _ _ hO (by
    unfold mnL
    by_cases hj:J=0
    ·subst hj;split<;>split<;>omega
    ·have:=hB (J-1) (by omega)
     split<;>split<;>omega) ⟨by omega,by omega⟩
  | 1,_=>exact Zf7 x _ _ _ _ _ _ hO rfl ⟨by omega,by omega⟩
  | 2,_=>exact Zf8 x _ _ _ _ _ _ rfl
noncomputable def Zf9 (A:LI->Int×Int) (N:LI->Int->LI) (o:Nat->Nat) (b:Nat) (many back:Int) (more:Bool) (x:SqS):Ze:=(Zdo A N x.M x.s o x.n b many back x.lf more x.m x.k x.q).withL 3 4 (goM 0 (tuS x 0) x.Ok (YF 4 2 9 (fun i=>i<2) (fun i=>i=2) (fun _=>False) (fun _=>False) (fun _=>tuE) (fun _=>lvN) (fun _=>lvN)))
theorem Zc3 (o:Nat->Nat) (b:Nat) (many back:Int) (more:Bool) (x:SqS) (hn:x.n<=12) (hb:b<=12) (hs:∀i,x.s i=i) (hM:∀m,m<=20->ChM Yu x.M x.s m):(Zf9 Xi Yu o b many back more x).Ok:=by
 obtain ⟨L0,L1,hE,hR⟩:=tuG x
 exact Ze.withL_join (H:=Z4Q L0 L1) (Zc2 x.M x.s o x.n b many back x.lf more x.m x.k x.q hn hb hs hM) (by unfold Zdo Zc0 Qe Z6i Z4Q;simp only [VX,Qf,Qg]) (Ze.withGoM (N:=40) (k:=0) (n:=2) (l:=9) (S:=fun i=>tuS x i) hE (by kernel_rfl) fun hC=>⟨rfl,fun i hi _=>hR hC i hi⟩)
theorem ZfF (A:LI->Int×Int) (N:LI->Int->LI) (o:Nat->Nat) (b:Nat) (many back lf:Int) (more:Bool) (M:Nat->LI) (s:Nat->Int) (n m k q:Nat) (hA:A=Xi) (hb:b<=12) (hm:0<=many/\many<=12->many=n) (hbk:0<=back/\back<=12->back=b) (hM:∀m,m<=20->ChM N M s m) (h77:Qd (M m) 77) (hmm:m=n-tkn n b) (hk:(k:Int)=kA n-tkn n b) (hq:q+k=m) (ho:∀i,o i=m-i) (hn:n<=12):
  evF (Zf9 A N o b many back more ⟨lf,M,s,n,m,k,q⟩) 40 3 [.int .i64 many,.int .i64 back,.int .i64 lf,.bool more] ⟨0,[]⟩ (Z1J (fun v=>v=.bool true)):=by
 refine @Eq.mpr _ (let z:=AV.bool true=AV.bool true;let q2:=[(0:Int),0,0,0,0,0,0,0,0,0,0,0,0,0,0,0,0,0,0,0,0,0,0,0,0,0,0,0,0,0,0];let y:=(1:Int)::q2;let C:=AV.int i64 0;let x:=(7:Int)::q2;let l:=AV.arr u8 32 Z9;let q7:=[AV.int i64 1,AV.int i64 50,AV.arr u8 32 x,l,l,l,C,C];let J:=decide (many=many);let q9:=decide (back=back);let a9:=decide (more=more);let h:=SqS.mk lf M s n m k q;let a6:=h.lf;let a5:=Zn.name;let G:=Zn.out;let a4:=G.owner;let a3:=G.other;let a2:=G.point;let a1:=G.hash;let F:=(0,0);let E:=(1,1);let w:=ZU [Zn];let a0:=X6 1;let b6:=y=a0;let Z:=X6 7;let a:=h.n;let b5:=↑a;let Y:=[(8,8),(3,3),(5,5),(4,4),(9,9),(2,2),F,E,(7,7),(6,6)];let e:=h.M;let v:=h.s;let u:=bkR e v;let r:=kpR e v;let b4:=kA a;let X:=decide (a6=a6);let W:=a5=a5;let V:=a4=a4;let U:=a3=a3;let T:=a2=a2;let S:=a1=a1;let D:=a0=a0;let b3:=Z=Z;let g:=h.k;let B:=[(8,8),(3,3),(5,5),(4,4),(9,9),(2,2),(11,11),F,E,(7,7),(6,6),(10,10),(12,12)];let R:=h.q;let Q:=kpR (fun (i:Nat)=>e (R+i)) fun (i:Nat)=>v (R+i);let P:=↑(R+1);let O:=decide (a=a);let f:=h.m;let L:=↑g;let b2:=e f;let b1:=decide (g=g);let b0:=[(9,9),(2,2),(11,11),(10,10),(12,12),(7,7),E,F,(13,13)];let K:=(False->False)/\(False->False);
 Z6 (decide (many<0)) z (Z6 (decide (many>12)) z (Z6 (decide (back<0)) z (Z6 (decide (back>12)) z (Z3N (Wq (AV.arr u8 32 y::C::q7) 0 165) [Zn] 1/\
 (1:Nat)<1000000/\
 ∃(t:TxS),
 (t.num=0/\(((1:Nat)=1/\t.N=1)/\∀(i:Nat),i<1->Wq [l,C,AV.int i64 2,l,l,l] 0 130 i=InS.c (t.ins i))/\((1:Nat)=1/\t.M=1)/\∀(i:Nat),i<1->Wq q7 0 132 i=Y2.c (t.outs i))/\
 TxS.Ok t/\
 Z6 (Vb A t) (x=x/\
 Z9=Z9/\
 Z9=Z9/\
 Z9=Z9/\
 y=y/\
 Z0 J (Z0 q9 (Z0 a9 (Z9=e 0/\
 Z5 (lf=a6) (y=a5/\
 x=a4/\
 Z9=a3/\
 Z9=a2/\
 Z9=a1/\
 Zd 0 [(3,6),(5,5),(4,4),(2,17),F,E,(7,22),(6,7)] 1 w w/\
 b6/\
 x=Z/\
 Z9=Z9/\
 Z9=Z9/\
 Z9=Z9/\
 b6/\
 many=b5/\
 ∀(i:Nat),
 let I:=decide (i=a);let c4:=decide (a<=i);let c3:=decide (kA i=b4);
 i<=a->
 (∀(j:Nat),j<i->(fun (i:Nat)=>i<a) j)->
 (i=a->
 Z0 J (Z0 q9 (Z0 a9 (Z0 I (Zd 0 Y a u u/\
 Z0 I (Zd 0 Y a r r/\
 Z0 I (Z0 c4 (Z0 c3 (e i=e a/\
 Z5 (↑i=b5) (Z0 I (Z0 c4 (Z0 c3 (Z0 X (W/\
 V/\
 U/\
 T/\
 S/\
 Zd 0 Y 1 w w/\
 D/\
 b3/\
 Z9=Z9/\
 Z9=Z9/\
 Z9=Z9/\
 D/\
 back=↑b/\
 ∀(i:Nat),
 let p:=a-tkn a i;let a8:=↑p;let c2:=b4- ↑(tkn a i);let H:=wrap i64 (a8-c2);let c1:=some (Int.toNat H);let a7:=0+ZH c1;let d:=V9 p c1;let c0:=decide (d=g);let b9:=decide (p=f);let b8:=decide (f<=p);let b7:=decide (c2=L);
 i<=b->
 (∀(j:Nat),j<i->(fun (i:Nat)=>i<b) j)->
 (i=b->
 Z5 (p<=p) (Z5 (0<=H/\H<=a8) (Z5 (a7+d<=a) ((∀(i:Nat),i<d->plainC (Y9 a7 r i)=true)/\
 Z5 ((66:Nat)=66/\d=d) (QN (Y9 a7 r) (fun (i:Nat)=>e (o d+i)) (fun (i:Nat)=>v (o d+i)) d/\
 d<1000000/\
 Z0 a9 (Z0 c0 (Z5 (g<=d) (Z0 c0 (Zd 0 B g Q (kpR (fun (i:Nat)=>e (o d+i)) fun (i:Nat)=>v (o d+i))/\
 Z5 (wrap i64 (H+1)=P) (Z0 O (Zd 0 B a u u/\Z0 b9 (Z0 b8 (Z0 b7 (Z0 X (W/\V/\U/\T/\S/\Z0 O (Zd 0 B a r r/\e p=b2/\Z5 (a8=↑f) (Z0 b9 (Z0 b8 (Z0 b7 (Zd 0 B 1 w w/\D/\b3/\Z9=Z9/\Z9=Z9/\Z9=Z9/\D/\(f<=a/\g<=6/\ChM N e v f/\Qd b2 77)/\Z0 b1 (Z5 (g<=g) (Z0 b1 (Zd 0 b0 g Q Q/\Z5 (P=P) (Z0 O (Zd 0 b0 a u u/\Z5 (f=f) (Z5 (f<=f) (Z5 (L=L) (Z0 X (W/\V/\U/\T/\S/\SqS.Ok h/\∀(i:Nat),i<=2->(∀(j:Nat),j<i->(fun (i:Nat)=>i<2) j)->(i=2->z)/\K)))))))))))))))))))))))))))))/\
 K))))))))))))))/\
 K))))) (Z6 J False False)))))) (by kernel_rfl) ?_
 conv=>zeta
 try simp only [vcA]
 try simp only [vcB]
 try simp only [vcC]
 subst hA
 have hcR:∀k τ,Zd k τ 1 (ZU [Zn]) (ZU [Zn]):=fun k τ=>W6 fun _ _=>rfl
 have hb0:∀i a τ,Zd a τ i (bkR M s) (bkR M s):=fun i a τ=>XB fun _ _=>rfl
 have hk0:∀i a τ,Zd a τ i (kpR M s) (kpR M s):=fun i a τ=>Xj fun _ _=>rfl
 refine ⟨fun _=>trivial,fun g1=>⟨fun _=>trivial,fun g2=>⟨fun _=>trivial,fun g3=>⟨fun _=>trivial,fun g4=> ?_⟩⟩⟩⟩
 refine ⟨⟨fun i hi=> ?_⟩,by omega,txW,⟨rfl,⟨rfl,fun i hi=> ?_⟩,rfl,fun i hi=> ?_⟩,Zan,fun _=> ?_,fun h=> ?_⟩
 ·obtain rfl:i=0:=by omega
  rfl
 ·obtain rfl:i=0:=by omega
  rfl
 ·obtain rfl:i=0:=by omega
  rfl
 ·refine ⟨(hM 0 (by omega)).zero.symm,rfl,rfl,rfl,rfl,rfl,hcR _ _,rfl,rfl,rfl,hm (by omega),fun i hi _=>⟨fun e=> ?_,fun h=>h,fun h=>h⟩⟩
  subst e
  refine ⟨rfl,hb0 _ _ _,rfl,hk0 _ _ _,rfl,J2 _,rfl,rfl,rfl,rfl,J2 _,rfl,hcR _ _,hbk (by omega),fun j hj _=>⟨fun e=> ?_,fun h=>h,fun h=>h⟩⟩
  subst e
  rw [<-hmm,<-hk]
  have kl:=Z0a i
  have hkk:k<=6:=by omega
  have ew:i64.wrap ((m:Int)-k)=(q:Int):=by rw [w64 (by omega)];omega
  have ew2:i64.wrap ((q:Int)+1)=((q+1:Nat):Int):=by rw [w64 (by omega)];omega
  have eo:ZH (some q)=q:=rfl
  have es:V9 m (some q)=k:=by show m-q=k;omega
  have eok:o k=q:=by rw [ho];omega
  simp only [ew,ew2,Jo,eo,es,eok]
  have hq:∀a τ,Zd a τ k (kpR (fun i=>M (q+i)) fun i=>s (q+i)) (kpR (fun i=>M (q+i)) fun i=>s (q+i)):=fun a τ=>Xj fun _ _=>rfl
  have hkp:QN (Y9 q (kpR M s)) (fun i=>M (q+i)) (fun i=>s (q+i)) k:=⟨fun j hj=>by rw [WA];rfl⟩
  have hpl:∀i,i<k->plainC (Y9 q (kpR M s) i)=true:=fun i _=>by rw [WA];exact VW _ _ _
  exact ⟨by omega,by omega,hpl,hkp,by omega,trivial,J2 _,trivial,hq _ _,trivial,hb0 _ _ _,trivial,J2 _,trivial,hk0 _ _ _,trivial,trivial,trivial,J2 _,trivial,hcR _ _,⟨by omega,hkk,hM m (by omega),h77⟩,hq _ _,hb0 _ _ _,⟨by show q+k=m;omega,by show m<=i;omega,hn,fun j hj=>((hM (j+1) (by have:j<m:=hj;omega)).ok j (by omega)).l,hkk⟩,fun _ _ _=>⟨fun _=>trivial,fun h=>h,fun h=>h⟩⟩
 ·rw [Zao] at h
  cases h
theorem and_mk {a b:Bool} (h1:a=true) (h2:b=true):(a&&b)=true:=by rw [h1,h2];rfl
end Go.Tk
end
section
namespace Go.Tk
open IntKind (i64 u8 u32 u64 wrap)
theorem Z6j {a:AV} (h:Z2K false [.int .i64] a):∃n:Int,a=.int .i64 n:=by
 cases h with|one _ _ h=>
 cases h
 exact ⟨_,rfl⟩
theorem Zdr {a:AV} (h:Z2K false [.bool] a):∃n:Bool,a=.bool n:=by
 cases h with|one _ _ h=>
 cases h
 exact ⟨_,rfl⟩
theorem Zc4 (b:LI) (s:Int):∀x∈Yu b s,U8 x:=by
 unfold Yu VC
 exact Z75 _
theorem Z7e (s:Nat->Int) (i:Nat):(nmA Yu s i).length=32:=by
 cases i with
 | zero=>rfl
 | succ i=>exact Z4O _ _
theorem Zau (s:Nat->Int) (i:Nat):∀x∈nmA Yu s i,U8 x:=by
 cases i with
 | zero=>exact Z7d
 | succ i=>exact Zc4 _ _
theorem Z7f (m:Nat) (h:m<=20):ChM Yu (nmA Yu fun i=>(i:Int)) (fun i=>(i:Int)) m:=
 ⟨rfl,fun i _=>rfl,fun i hi=>⟨Z7e _ i,Zau _ i,by show 0<=(i:Int)/\(i:Int)<=2147483647;omega⟩⟩
theorem chainleaves_walk {us:List AV} (h:Z2L [(false,[.int .i64]),(false,[.int .i64]),(false,[.int .i64]),(false,[.bool])] us):Zh PP 3 us ⟨0,[]⟩ fun o h'=>∃v,o=.ret v/\h'=⟨0,[]⟩/\v=.bool true:=by
 cases h with|cons _ _ a _ _ h1 h=>
 cases h with|cons _ _ b _ _ h2 h=>
 cases h with|cons _ _ c _ _ h3 h=>
 cases h with|cons _ _ d _ _ h4 h=>
 cases h
 obtain ⟨many,rfl⟩:=Z6j h1
 obtain ⟨back,rfl⟩:=Z6j h2
 obtain ⟨lf,rfl⟩:=Z6j h3
 obtain ⟨more,rfl⟩:=Zdr h4
 obtain ⟨n,hn,hmn⟩:∃n:Nat,n<=12/\(0<=many/\many<=12->many=n):=by
  by_cases hc:0<=many/\many<=12
  ·exact ⟨many.toNat,by omega,fun _=>by omega⟩
  ·exact ⟨0,by omega,fun h=>absurd h hc⟩
 obtain ⟨b,hb,hbn⟩:∃b:Nat,b<=12/\(0<=back/\back<=12->back=b):=by
  by_cases hc:0<=back/\back<=12
  ·exact ⟨back.toNat,by omega,fun _=>by omega⟩
  ·exact ⟨0,by omega,fun h=>absurd h hc⟩
 have k1:=Z0a n
 have k2:=Zdn n b
 obtain ⟨m,hm⟩:∃m,m=n-tkn n b:=⟨_,rfl⟩
 obtain ⟨k,hk⟩:∃k:Nat,(k:Int)=kA n-tkn n b:=⟨(kA n-tkn n b).toNat,by omega⟩
 have hE:=Zc3 (fun i=>m-i) b many back more ⟨lf,nmA Yu fun i=>(i:Int),fun i=>(i:Int),n,m,k,m-k⟩ hn hb (fun _=>rfl) Z7f
 exact Z0v hE rfl (ZfF Xi Yu (fun i=>m-i) b many back lf more (nmA Yu fun i=>(i:Int)) (fun i=>(i:Int)) n m k (m-k) rfl hb hmn hbn Z7f ⟨Z7e _ m,Zau _ m,by omega⟩ hm hk (by omega) (fun _=>rfl) hn) fun u hu=>hu
end Go.Tk
namespace Go.Proofs.YtlmcmfkpjlgkcaaGreat.chainLeaves
open Go.ChangeShapes Go.WideShapes Go.ChangeAt Go.RowKit
theorem own:ownKnob Tryz.prog.godebug=none:=by kernel_rfl
theorem laidOut:laidOutB Tryz.prog=true:=by kernel_rfl
theorem lifted (os:Os) (started:os.Started) (H:Type) (enc:TypeId×Value->H):
  ReturnsInHanded {} Tryz.checked os 3 .any (Rows.chainLeavesSpec.pre6 enc Tryz.prog Tryz.f3 Rows.chainLeavesRow.domain false) (Rows.chainLeavesSpec.post enc Tryz.prog Tryz.f3 false true false false):=
 Go.Tk.lifted_gen (C:=Tryz.checked) (m:=8) (τs:=[(false,[.int .i64]),(false,[.int .i64]),(false,[.int .i64]),(false,[.bool])]) own laidOut started (by kernel_rfl) Tryz.func3
  (ChangeSpec.witness6 (enc:=enc) (C:=Tryz.checked) false ⟨#[], #[.int .i64 0,.int .i64 0,.int .i64 0,.bool false],[]⟩ 8 (by kernel_rfl) (by kernel_rfl) (by kernel_rfl) (by kernel_rfl))
  rfl (tb:=4) rfl Tryz.underlying4 (by kernel_rfl) (by kernel_rfl) (fun ds h=>by
   match ds,h with
   | [a,b,c,d],_=>rfl) fun us h=>Go.Tk.chainleaves_walk h
theorem Zds:Tryz.pinned.checked.prog.funcNamed Rows.chainLeavesRow.func=some 3:=by kernel_rfl
theorem closed:joinedFacts Tryz.pinned.checked.prog 3 Tryz.f3 Rows.chainLeavesSpec Rows.chainLeavesRow=true:=by
 unfold joinedFacts
 repeat' with_reducible refine Go.Tk.and_mk ?_ ?_
 all_goals as_aux_lemma=>kernel_rfl
theorem over:Rows.chainLeavesRow.holds Tryz.pinned (OpenSpec.ofChange Rows.chainLeavesSpec):=
 OpenClaim.holds_of_wide 3 Tryz.f3 rfl rfl rfl rfl rfl rfl rfl ⟨rfl,rfl,rfl,rfl,rfl⟩ rfl rfl rfl rfl rfl Zds Tryz.func3 closed
  (of_decide_eq_true (by kernel_rfl)) (by unfold Func.isWrapper;first|(rw [if_pos (by decide+kernel)];kernel_rfl)|(rw [if_neg (by decide+kernel)];exact ⟨rfl,rfl⟩))
  (fun os started H enc _=>lifted os started H enc)
theorem proved:Rows.ChainLeavesSaid:=over
end Go.Proofs.YtlmcmfkpjlgkcaaGreat.chainLeaves
end
