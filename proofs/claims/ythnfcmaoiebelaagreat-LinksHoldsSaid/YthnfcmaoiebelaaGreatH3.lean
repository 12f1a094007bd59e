/- H: part 3 of an engine (a symbolic evaluator, proved against the model) and of the walk by it. -/
import Derived.Test.YthnfcmaoiebelaaGreatH2
import Derived.Test.YthnfcmaoiebelaaGreatProg
set_option linter.unusedVariables false
set_option linter.unusedSimpArgs false
set_option maxRecDepth 100000
set_option maxHeartbeats 0
section
namespace Go.Tk
open IntKind (i64 u8 u32 u64 wrap)
theorem Zb5 {E:Env} {h:Z7} {w:World} (e:Emb E h w) (b N:Nat) (B:Blk) (hb:¬YT E h b) (hi:∀ad c,E.imm ad c->ad.block≠b)
  (hB:ZY (E.ext h.next b N) w h.next B):Emb (E.ext h.next b N) (h.add B) w:=by
 have hfr:E.blk h.next=none:=e.fresh _ (J2 _)
 have hle:E.le (E.ext h.next b N):=Env.ext_le hfr
 have hget:∀y B',(h.add B).get y=some B'->(y=h.next/\B'=B)\/(y≠h.next/\h.get y=some B'):=fun y B' hy=>by
  grind [Z7.get_add_same,Z7.get_add_other]
 refine ⟨?_, ?_, ?_, ?_,e.imm, ?_⟩
 ·intro x hx
  have hx':h.next+1<=x:=hx
  rw [Env.ext_other _ _ _ (by omega)]
  exact e.fresh x (by omega)
 ·intro x B' hx
  show x<h.next+1
  rcases hget x B' hx with ⟨rfl,_⟩|⟨_,h'⟩
  ·omega
  ·have:=e.lt x B' h';omega
 ·intro x B' hx
  rcases hget x B' hx with ⟨rfl,rfl⟩|⟨hne,h'⟩
  ·exact hB
  ·exact (e.own x B' h').mono hle (fun hn=>by rw [Env.ext_other _ _ _ hne];exact hn)
 ·intro x y B1 B2 b' M M' hx hy hbx hby
  rcases hget x B1 hx with ⟨rfl,_⟩|⟨hnx,hx'⟩<;>rcases hget y B2 hy with ⟨rfl,_⟩|⟨hny,hy'⟩
  ·rfl
  ·rw [Env.ext_same] at hbx;cases hbx
   rw [Env.ext_other _ _ _ hny] at hby
   exact absurd ⟨y,B2,M',hy',hby⟩ hb
  ·rw [Env.ext_same] at hby;cases hby
   rw [Env.ext_other _ _ _ hnx] at hbx
   exact absurd ⟨x,B1,M,hx',hbx⟩ hb
  ·rw [Env.ext_other _ _ _ hnx] at hbx;rw [Env.ext_other _ _ _ hny] at hby
   exact e.disj x y B1 B2 b' M M' hx' hy' hbx hby
 ·intro ad c x B' M him hx hbx
  rcases hget x B' hx with ⟨rfl,_⟩|⟨hne,hx'⟩
  ·rw [Env.ext_same] at hbx
   have:b=ad.block:=by simp_all
   exact hi ad c him this.symm
  ·rw [Env.ext_other _ _ _ hne] at hbx
   exact e.sep ad c x B' M him hx' hbx
theorem Z1n {E:Env} {h:Z7} {b N b':Nat} {B:Blk} (ho:YT (E.ext h.next b N) (h.add B) b'):b'=b\/YT E h b':=by
 obtain ⟨x,C,M,hx,hb⟩:=ho
 by_cases hn:h.next=x
 ·simp_all [Env.ext_same]
 ·rw [Z7.get_add_other _ _ _ hn] at hx
  rw [Env.ext_other _ _ _ (fun e=>hn e.symm)] at hb
  exact .inr ⟨x,C,M,hx,hb⟩
theorem Z4Y {E0:Env} {h0:Z7} {w0:World} {E:Env} {h:Z7} {w:World} (v:Evo E0 h0 w0 E h w) (b N:Nat) (B:Blk) (hb:¬YT E h b) (hi:∀ad c,E.imm ad c->ad.block≠b)
  (hB:ZY (E.ext h.next b N) w h.next B) (hw:w0.heap.size<=b):Evo E0 h0 w0 (E.ext h.next b N) (h.add B) w:=
 ⟨v.le.trans (Env.ext_le (v.emb.fresh _ (J2 _))),Zb5 v.emb b N B hb hi hB,v.size,v.os,v.tape,v.output,v.keep,fun b' ho=>by
  rcases Z1n ho with rfl|ho
  ·omega
  ·exact v.own b' ho,v.imm⟩
theorem Uf {P:Program} {t:ZO} {h:Z7} {K:Prop}:∀{pend:List (It×AV)},VH P t h K pend->K/\∀q v,(q,v)∈pend->worldless q.o.op=true\/Z1l P q t h v
 | [],hk=>⟨hk,by simp⟩
 | (it,u)::r,hk=>by
  unfold VH at hk
  split at hk
  ·rename_i hw
   have:=Uf hk
   refine ⟨this.1,fun q v' hq=> ?_⟩
   rcases J7.1 hq with h4|h4
   ·cases h4;exact .inl hw
   ·exact this.2 q v' h4
  ·obtain ⟨v,h12,h3⟩:=Z9N hk
   obtain ⟨h1,h2⟩:=Z0I _ _ _ h12
   subst h1
   have:=Uf h2
   refine ⟨this.1,fun q v' hq=> ?_⟩
   rcases J7.1 hq with h4|h4
   ·cases h4;exact .inr h3
   ·exact this.2 q v' h4
theorem Z4Z {P:Program} {o:Oper} {T:TypeId} (ho:o.op=.alloc T) {z:Value} (hz:∀w,(zeroValue T).run P w=.ok z w) (ρ:Operand->Value) (w:World):
  (execOp ρ o).run P w=.ok (.value (.pointer (some ⟨w.heap.size,0,none⟩))) { w with heap:=w.heap.push (.cells z.cells T (0,0))}:=by
 simp_all [execOp,Instr.alloc,newVar,newRow]
theorem Z3C {P:Program} {it:It} {t:ZO} {h:Z7} {K:AV->Z7->Prop} (hl:ZN it=true) (h1:Z4T P h it.o.op t K):
  ∃v B,K v (h.add B)/\∀(E:Env) (a:Act),(∀x u,ZG t x=some u->Zd E u (a.tmps.getD x undef))->
   ∃mkv obj N,Ve P it a mkv obj/\∀(E':Env) (w':World) (b:Nat),E.le E'->E'.blk h.next=some (b,N)->w'.heap[b]? =some obj->ZY E' w' h.next B/\Zd E' v (mkv b):=by
 rcases UL hl with ⟨T,ho⟩|⟨T,len,ps,ho,_,hlen0⟩
 ·rw [ho] at h1
  unfold Z4T Z30 at h1
  simp only at h1
  split at h1
  ·rename_i cs hz
   obtain ⟨z,z1,z2⟩:=WM hz
   refine ⟨_,_,h1,fun E a _=>⟨fun b=>.pointer (some ⟨b,0,none⟩),.cells z.cells T (0,0),z.cells.size,fun w=>Z4Z ho z1 _ w,fun E' w' b hle hb hw=>⟨?_,QT hb⟩⟩⟩
   exact .flat cs b z.cells T (0,0) z.cells.toList hb hw (WN _) ((z2 E).mono hle) (fun j c hj=>by simp_all)
  simp_all
 ·rw [ho] at h1
  unfold Z4T W5 at h1
  simp only at h1
  split at h1
  ·rename_i e hu
   split at h1
   ·rename_i size vs hs hrow
    split at h1
    ·rename_i zc hb1 hb2 hz
     have hlen:vs.length=len:=J0 hb1
     have hle:=WL hb2
     obtain ⟨z,hz1,_⟩:=WM hz
     have hrun:∀(a:Act) (rs:List Value) (cells:Array Value),(ps.toList.map fun (x:Nat×Operand)=>(x.1,a.eval x.2))=W4 0 rs->
       (∀w:World,(Instr.buildSlice T len (W4 0 rs).toArray).run P w=((newRow e cells).run P w).andThen fun ad w'=>.ok (.slice (some ad) len len) w')->
       Ve P it a (fun b=>.slice (some ⟨b,0,none⟩) len len) (.cells cells e (0,0)):=fun a rs cells hr hc w=>by
      have e1:(ps.map fun (x:Nat×Operand)=>(x.1,a.eval x.2))=(W4 0 rs).toArray:=by
       grind
      simp_all [execOp,newRow]
     split at h1
     ·simp_all
     ·split at h1
      ·rename_i k hue hb
       have hsz:size=1:=J0 hb
       subst hsz
       split at h1
       ·rename_i xs hx
        refine ⟨_,_,h1,fun E a ht=> ?_⟩
        obtain ⟨rs,hr1,hr2⟩:=WI _ _ _ _ hrow (UA (a:=a) (n:=a.tmps.size) ⟨rfl,ht⟩ ps.toList)
        obtain ⟨i0,i1,i2⟩:=QU _ _ _ hx hr1
        have hrl:rs.length=len:=by rw [hr1.length,hlen]
        obtain ⟨cells,c1,c2,c3⟩:=run_buildSlice hu hs hle hz1 rs hrl i1
        refine ⟨_,_,cells.size,hrun a rs cells hr2 c3,fun E' w' b hlE hb' hw=>⟨?_, ?_⟩⟩
        ·exact .ints k xs b cells e (0,0) hb' hw (WN _) (fun j hj=>c2 _ _ (i2 j hj))
        ·exact .nslice ⟨h.next,0,0,0,0⟩ 1 len len b cells.size len hb' (J2 _) (J2 _) (by simp [ZD.tot,c1])
       simp_all
      ·simp_all
      ·split at h1
       ·rename_i cs hcat
        refine ⟨_,_,h1,fun E a ht=> ?_⟩
        obtain ⟨rs,hr1,hr2⟩:=WI _ _ _ _ hrow (UA (a:=a) (n:=a.tmps.size) ⟨rfl,ht⟩ ps.toList)
        obtain ⟨i1,i2⟩:=Z35 _ _ _ hcat hr1
        have hrl:rs.length=len:=by rw [hr1.length,hlen]
        obtain ⟨cells,c1,c2,c3⟩:=run_buildSlice hu hs hle hz1 rs hrl i2
        refine ⟨_,_,cells.size,hrun a rs cells hr2 c3,fun E' w' b hlE hb' hw=>⟨?_, ?_⟩⟩
        ·exact .flat cs b cells e (0,0) _ hb' hw (WN _) (i1.mono hlE) c2
        ·exact .nslice ⟨h.next,0,0,0,0⟩ size len len b cells.size len hb' (J2 _) (J2 _) (by simp [ZD.tot,c1])
       simp_all
    simp_all
   simp_all
  simp_all
theorem Ve.uniq {P:Program} {it:It} {a:Act} {mkv mkv':Nat->Value} {obj obj':Obj} (w:World) (h:Ve P it a mkv obj) (h':Ve P it a mkv' obj'):(∀b,mkv b=mkv' b)/\obj=obj':=by
 have key:∀b,mkv b=mkv' b/\obj=obj':=fun b=>by
  have h1:=h { w with heap:=Array.replicate b obj}
  rw [h'] at h1
  simp only [Result.ok.injEq,World.mk.injEq] at h1
  have h2:=h1.2
  have h3:=h2.1
  have h4:=Array.push_inj_right.1 h3
  simp_all
 exact ⟨fun b=>(key b).1,(key 0).2⟩
section
variable {P:Program} {all:List Oper} {its0 its:List It} {sp:Option SpD} {n0:Nat} {E0:Env} {h0:Z7} {w0:World} {L:Nat->Prop} {bl:Nat->Nat} {rem rem':List It} {D:Nat} {pend pend':List (It×AV)} {s s2:St} {E:Env} {a:Act} {w:World}
theorem Inv.adoptStep (hst:Stat P all its0 its sp n0) (I:Inv P all its sp E0 h0 w0 L bl rem D pend s E a w) {it:It} (hit:it∈rem) (hl:ZN it=true) (hm:∀p,it.m.testBit p=true->L p) (hL:L it.i) (hp:∀q∈its,∀v,(q,v)∈pend->L q.i\/worldless q.o.op=true\/Z1l P q s2.t s2.h v) {v:AV} {B:Blk}
  (hv:∀(E:Env) (a:Act),(∀x u,ZG (Vb s.t (opT it.o.op)) x=some u->Zd E u (a.tmps.getD x undef))->
   ∃mkv obj N,Ve P it a mkv obj/\∀(E':Env) (w':World) (b:Nat),E.le E'->E'.blk s.h.next=some (b,N)->w'.heap[b]? =some obj->ZY E' w' s.h.next B/\Zd E' v (mkv b))
  (hr:∀x,x∈rem'↔x∈rem/\x≠it) (hnd:rem'.Pairwise fun a b=>a.i≠b.i)
  (e1:s2.h=s.h.add B) (e2:s2.n=s.n) (e3:s2.d=s.d) (e4:∀x,it.o.dst=some x->ZG s2.t x=some v/\x<s.n) (e5:∀x,it.o.dst≠some x->ZG s2.t x=ZG s.t x):
  ∃E',Inv P all its sp E0 h0 w0 L bl rem' (Nat.lor D (2^it.i)) pend s2 E' a w:=by
 have hits:=I.sub it hit
 obtain ⟨mkv,obj,z1,z2,z3,z4,z5,z6,z7⟩:=I.adopt it hit hL hl
 obtain ⟨mkv',obj',N,y1,y2⟩:=hv E a fun x u hu=>by
  have h1:=XO hu
  exact I.tmps x u h1.1 fun q hq' hdq _ _=>hm _ (hst.lrd it hits hl q hq' x hdq h1.2)
 obtain ⟨u1,rfl⟩:=z1.uniq w y1
 have hle:E.le (E.ext s.h.next (bl it.i) N):=Env.ext_le (I.evo.emb.fresh _ (J2 _))
 obtain ⟨b1,b2⟩:=y2 (E.ext s.h.next (bl it.i) N) w (bl it.i) hle (Env.ext_same ..) z3
 have hback:∀q∈its,q∉rem'->q=it\/q∉rem:=fun q _ hn=>by
  by_cases h:q=it
  ·exact .inl h
  ·exact .inr fun hr'=>hn ((hr q).2 ⟨hr',h⟩)
 have hfwd:∀q,q∉rem->q∉rem':=fun q hn h=>hn ((hr q).1 h).1
 have hev:=Z4Y I.evo (bl it.i) N B z4 z5 b1 z6
 refine ⟨E.ext s.h.next (bl it.i) N,⟨fun q hq'=>I.sub q ((hr q).1 hq').1,hnd,fun q hq' hb=> ?_,fun q hq' hnl hn p hp' hb=> ?_,fun q hq' he=> ?_,fun q hq' hl' hn=> ?_,fun q hq' hqq hL'=>hfwd q (I.quiet q hq' hqq hL'),fun q hq' hqq hn hL'=> ?_,by rw [e2];exact I.size,fun x u hx hc=> ?_,
  by rw [e3];exact I.defs.mono hle,by rw [e1];exact hev,fun q hq' hl' x hx=> ?_,fun q hq' hL' hT'=> ?_,fun q hq' q' hq''=>I.inj q ((hr q).1 hq').1 q' ((hr q').1 hq'').1,fun q hq' x hx hn=> ?_,fun q hq' hn=> ?_,by rw [e2];exact I.ln, ?_⟩⟩
 ·rcases Z65 hb with h|h
  ·exact hfwd q (I.dbit q hq' h)
  ·have:q=it:=hst.uniq q hq' it hits h
   subst this
   exact fun h=>((hr q).1 h).2 rfl
 ·rcases hback q hq' hn with rfl|hn'
  ·rw [hl] at hnl;cases hnl
  ·exact hfwd p (I.born q hq' hnl hn' p hp' hb)
 ·rw [I.eff q hq' he]
  have:q≠it:=fun h=>by subst h;rw [YP he] at hl;cases hl
  exact ⟨fun h=>hfwd q h,fun h h'=>h ((hr q).2 ⟨h',this⟩)⟩
 ·rcases hback q hq' hn with rfl|h
  ·exact hL
  ·exact I.late q hq' hl' h
 ·have hqi:q≠it:=fun h=>by subst h;rw [Y2 hqq] at hl;cases hl
  have hn':q∉rem:=(hback q hq' hn).resolve_left hqi
  obtain ⟨u,h1,h2⟩:=I.fact q hq' hqq hn' hL'
  have hsame:∀x∈Wi all q.o,ZG s2.t x=ZG s.t x:=fun x hx=>e5 x fun hd=>by
   rcases hst.rd it hits q hq' (fun e=>hqi e.symm) x hd hx with h|⟨h3,h4⟩
   ·exact I.born q hq' (Y2 hqq) hn' it hits h hit
   ·rcases h4 with h4|⟨h4,_⟩
    ·rw [YP h4] at hl;cases hl
    ·rw [Y2 h4] at hl;cases hl
  refine ⟨u,fun x hx=> ?_, ?_⟩
  ·rw [e5 x fun hd=>hst.dst it hits q hq' (fun e=>hqi e.symm) x hd hx]
   exact h1 x hx
  ·rw [Vd fun x hx=>hsame x (JR _ hx)]
   rcases h2 with ⟨h0,h3,h4⟩|h
   ·rcases hp _ hq' _ h3 with h5|h5|h5
    ·exact absurd h5 hL'
    ·refine .inl ⟨h0,h3,fun E' w' a' _ hx=>h4 E' w' a' (fun hw=>by rw [h5] at hw;cases hw) fun x hx' u hu=>hx x hx' u ?_⟩
     rw [hsame x (JD _ hx')];exact hu
    ·exact .inl ⟨h0,h3,h5⟩
   ·exact .inr h
 ·by_cases hd:it.o.dst=some x
  ·rw [(e4 x hd).1] at hx
   cases hx
   rw [z2 x hd,u1]
   exact b2
  ·rw [e5 x hd] at hx
   exact (I.tmps x u hx fun q hq' hdq hqq hn=>hc q hq' hdq hqq (hfwd q hn)).mono hle
 ·have hq1:=(hr q).1 hq'
  rw [e5 x fun hd=>hst.dst it hits q (I.sub q hq1.1) (fun e=>hq1.2 e.symm) x hd hx]
  exact I.lt q hq1.1 hl' x hx
 ·have hq1:=(hr q).1 hq'
  obtain ⟨y,y0,y1,y2,y3,y4,y5,y6,y7⟩:=I.adopt q hq1.1 hL' hT'
  refine ⟨y,y0,y1,y2,y3,fun ho=> ?_,y5,y6,y7⟩
  rw [e1] at ho
  rcases Z1n ho with h|h
  ·exact hq1.2 (I.inj q hq1.1 it hit hL' hL hT' hl h)
  simp_all
 ·rw [e2]
  rcases hback q hq' hn with rfl|hn'
  ·simp_all
  ·exact I.dst q hq' x hx hn'
 ·rcases hback q hq' hn with rfl|hn'
  ·simp_all
  ·exact Z3B (I.dset q hq' hn')
 ·exact I.mp.step (fun d hd=>⟨id,fun j _=>.rfl⟩) (fun d hd h=>by rw [e5 _ (XQ hst hd hits).2.2.1];exact h) rfl (fun _ _=>rfl) (fun _ _ _ _ _=>rfl) (fun _ _ _=>rfl)
   (fun b _ hno hne ho=>by
    grind [Z1n])
   (fun _ _ h=>h) (J2 _) (fun q hq' hL' hl' b _ hb=>hb q ((hr q).1 hq').1 hL' hl')
theorem Z73 (hst:Stat P all its0 its sp n0) (hmc:∀it∈its,L it.i->∀p,it.m.testBit p=true->L p) {m:Nat} {pd:List (It×AV)} {K:List It->Nat->St->Prop} (hmL:∀it∈its,ZN it=true->m.testBit it.i=true->L it.i) (hok:∀q∈its,∀v,(q,v)∈pend->L q.i\/(q,v)∈pd):
  ∀(todo kept:List It) (D:Nat) (s:St) (E:Env),Z1j P m pd todo kept D s K->Inv P all its sp E0 h0 w0 L bl (kept++todo) D pend s E a w->
   (∀q∈kept,ZN q=true->m.testBit q.i=false)->
   ∃rem D' s' E',K rem D' s'/\Inv P all its sp E0 h0 w0 L bl rem D' pend s' E' a w/\(∀q,q∈rem->q∈kept++todo)/\(∀q,q∈kept++todo->ZN q=false->q∈rem)/\(∀q∈rem,ZN q=true->m.testBit q.i=false):=by
 intro todo
 induction todo with
 | nil=>intro kept D s E h I hk;exact ⟨kept,D,s,E,h,by simp_all,fun q hq=>by simp_all,fun q hq _=>by simp_all,hk⟩
 | cons it r ih=>
  intro kept D s E h I hk
  unfold Z1j at h
  split at h
  ·rename_i hlb
   ·rw [J1] at hlb
    obtain ⟨hl,hb⟩:=hlb
    ·obtain ⟨v,B,h,hv⟩:=Z3C hl h
     obtain ⟨s2,k0,k1,k2,k3,k4,k5⟩:=X0 h
     obtain ⟨k0,krc⟩:=Uf k0
     have hmem:it∈kept++it::r:=by simp
     have hnd:=I.nodup
     have hnd':(kept++r).Pairwise fun a b=>a.i≠b.i:=hnd.sublist (List.Sublist.append (List.Sublist.refl _) (List.sublist_cons_self _ _))
     have hr:∀x,x∈kept++r↔x∈kept++it::r/\x≠it:=fun x=>by
      grind
     have hLi:=hmL it (I.sub it hmem) hl hb
     obtain ⟨E',I'⟩:=I.adoptStep hst hmem hl (hmc it (I.sub it hmem) hLi) hLi (fun q hq v hqv=>(hok q hq v hqv).imp id (krc q v)) hv hr hnd' k1 k2 k3 k4 k5
     grind
  ·obtain ⟨rem,D',s',E',k1,k2,k3,k4,k5⟩:=ih (kept++[it]) D s E h (by simp_all) (fun q hq hl=>by
    grind)
   grind
theorem Z1o (hst:Stat P all its0 its sp n0) (hm:∀q∈its0,L q.i->∀p,q.m.testBit p=true->L p) {it q:It} (hits:it∈its) (hq:q∈its) (hl:ZN q=true) (hL:L q.i) (hnL:¬L it.i) {a a':Act} {r:Value} (ha:a'=a.put it.o.dst r) {mkv:Nat->Value} {obj:Obj}
  (h:Ve P q a mkv obj):Ve P q a' mkv obj:=by
 subst ha
 refine h.congr hl fun x hx=>Yr fun hd=>hnL ?_
 exact hm q (hst.sub q hq) hL _ (hst.lrd q hq hl it hits x hd hx)
theorem Z8L (hst:Stat P all its0 its sp n0) (hm:∀q∈its0,L q.i->∀p,q.m.testBit p=true->L p) {it:It} (hits:it∈its) (hnL:¬L it.i) (M:MpI sp w0 L bl rem s.t E s.h a w)
  {t':ZO} {rem':List It} {bl':Nat->Nat} {E':Env} {h':Z7} {a':Act} {w':World} {r:Value} (ha:∀x,a'.tmps.getD x undef=(a.put it.o.dst r).tmps.getD x undef) (hz:a'.tmps.size=a.tmps.size)
  (ht:∀x,it.o.dst≠some x->ZG s.t x=none->ZG t' x=none)
  (hw:∀b,b<w.heap.size->¬YT E s.h b->w'.heap[b]? =w.heap[b]?)
  (ho:∀b,b<w.heap.size->¬YT E s.h b->(∀q∈rem,L q.i->ZN q=true->bl q.i≠b)->¬YT E' h' b)
  (hi:∀ad c,E'.imm ad c->E.imm ad c)
  (hs:w.heap.size<=w'.heap.size)
  (hb:∀q∈rem',(L q.i\/q.i=it.i)->ZN q=true->∀b,b<w.heap.size->(∀q∈rem,L q.i->ZN q=true->bl q.i≠b)->bl' q.i≠b):
  MpI sp w0 (fun j=>L j\/j=it.i) bl' rem' t' E' h' a' w':=by
 refine M.step (fun d hd=> ?_) (fun d hd=>ht d.x (XQ hst hd hits).2.2.1) hz (fun d hd=> ?_) (fun d hd j hj hLj=> ?_) hw ho hi hs hb
 ·have hu:=XQ hst hd hits
  grind
 ·rw [ha,Yr (XQ hst hd hits).2.2.1]
 ·rw [ha,Yr fun e=>hnL ((Z3A hst hd hj hm hLj).2.2 it hits e)]
theorem Inv.doQuiet (hst:Stat P all its0 its sp n0) (hm:∀q∈its0,L q.i->∀p,q.m.testBit p=true->L p) (I:Inv P all its sp E0 h0 w0 L bl rem D pend s E a w) {it:It} (hits:it∈its) (hnL:¬L it.i) (hq:YA it=true) (hn:it∉rem) {v:AV} {r:Value} (hd:∀x,it.o.dst=some x->ZG s.t x=some v) (hv:Zd E v r):
  Inv P all its sp E0 h0 w0 (fun j=>L j\/j=it.i) bl rem D pend s E (a.put it.o.dst r) w:=by
 have hne:∀q∈its,q≠it->q.i≠it.i:=fun q hq' hn' e=>hn' (hst.uniq q hq' it hits e)
 have hback:∀q∈its,q≠it->(L q.i\/q.i=it.i)->L q.i:=fun q hq' hn' h=>h.resolve_right (hne q hq' hn')
 refine ⟨I.sub,I.nodup,I.dbit,I.born,fun q hq' he=> ?_,fun q hq' hl hn'=>.inl (I.late q hq' hl hn'),fun q hq' hqq hL=> ?_,fun q hq' hqq hn' hL=>I.fact q hq' hqq hn' (fun h=>hL (.inl h)),by rw [Xv];exact I.size,fun x u hx hc=> ?_,
  by rw [put_defers];exact I.defs,I.evo,I.lt,fun q hq' hL hT=> ?_,fun q hq' q' hq'' hL hL' hl hl' hb=> ?_,I.dst,I.dset,I.ln, ?_⟩
 ·have hqi:q≠it:=fun h=>by simp_all [Yo]
  rw [<-I.eff q hq' he]
  simp_all
 ·by_cases hqi:q=it
  ·simp_all
  ·exact I.quiet q hq' hqq (hback q hq' hqi hL)
 ·by_cases hdx:it.o.dst=some x
  ·rw [hd x hdx] at hx
   cases hx
   rw [hdx,UK (by rw [I.size];exact I.dst it hits x hdx hn)]
   exact hv
  ·rw [Yr hdx]
   refine I.tmps x u hx fun q hq' hdq hqq hn'=>hback q hq' (fun e=> ?_) (hc q hq' hdq hqq hn')
   simp_all
 ·have hqi:q≠it:=fun h=>by simp_all
  have hLq:=hback q (I.sub q hq') hqi hL
  obtain ⟨y,y0,y1,y2,y3,y4,y5,y6,y7⟩:=I.adopt q hq' hLq hT
  refine ⟨y,y0,Z1o hst hm hits (I.sub q hq') hT hLq hnL rfl y1,fun x hx=> ?_,y3,y4,y5,y6,y7⟩
  rw [Yr (hst.dst q (I.sub q hq') it hits hqi x hx)]
  simp_all
 ·have hqi:q≠it:=fun h=>by simp_all
  have hqi':q'≠it:=fun h=>by simp_all
  exact I.inj q hq' q' hq'' (hback q (I.sub q hq') hqi hL) (hback q' (I.sub q' hq'') hqi' hL') hl hl' hb
 ·refine Z8L hst hm hits hnL I.mp (fun _=>rfl) Xv (fun _ _ h=>h) (fun _ _ _=>rfl) (fun _ _ h _=>h) (fun _ _ h=>h) (J2 _) (fun q hq' hL hl b _ hb=>hb q hq' ?_ hl)
  exact hback q (I.sub q hq') (fun h=>by simp_all) hL
theorem Inv.doLate (hst:Stat P all its0 its sp n0) (hm:∀q∈its0,L q.i->∀p,q.m.testBit p=true->L p) (I:Inv P all its sp E0 h0 w0 L bl rem D pend s E a w) {it:It} (hit:it∈rem) (hl:ZN it=true) (hnL:¬L it.i) {mkv:Nat->Value} {obj:Obj} (hz:Ve P it a mkv obj):
  Inv P all its sp E0 h0 w0 (fun j=>L j\/j=it.i) (fun j=>if j=it.i then w.heap.size else bl j) rem D pend s E (a.put it.o.dst (mkv w.heap.size)) { w with heap:=w.heap.push obj}:=by
 have hits:=I.sub it hit
 have hne:∀q∈its,q≠it->q.i≠it.i:=fun q hq' hn' e=>hn' (hst.uniq q hq' it hits e)
 have hback:∀q∈its,q≠it->(L q.i\/q.i=it.i)->L q.i:=fun q hq' hn' h=>h.resolve_right (hne q hq' hn')
 have hnown:¬YT E s.h w.heap.size:=fun ⟨x,B,N,hx,hb⟩=>by
  have:=(I.evo.emb.own x B hx).lt hb
  omega
 have hnimm:∀ad c,E.imm ad c->ad.block≠w.heap.size:=fun ad c hi e=>by
  have h1:=I.evo.emb.imm ad c hi
  simp [World.cell?,e] at h1
 have key:∀q∈rem,q≠it->(L q.i\/q.i=it.i)->ZN q=true->bl q.i<w.heap.size:=fun q hq hqi hL hl'=>by
  obtain ⟨y,y0,y1,y2,y3,y4,y5,y6,y7⟩:=I.adopt q hq (hback q (I.sub q hq) hqi hL) hl'
  exact y7
 refine ⟨I.sub,I.nodup,I.dbit,I.born,fun q hq' he=> ?_,fun q hq' hl' hn'=>.inl (I.late q hq' hl' hn'),fun q hq' hqq hL=> ?_,fun q hq' hqq hn' hL=>I.fact q hq' hqq hn' (fun h=>hL (.inl h)),by rw [Xv];exact I.size,fun x u hx hc=> ?_,
  by rw [put_defers];exact I.defs,I.evo.trans (Z32 I.evo.emb _),I.lt,fun q hq' hL hT'=> ?_,fun q hq' q' hq'' hL hL' hl1 hl2 hb=> ?_,I.dst,I.dset,I.ln, ?_⟩
 ·have hqi:q≠it:=fun h=>by simp_all [YP]
  rw [<-I.eff q hq' he]
  simp_all
 ·have hqi:q≠it:=fun h=>by simp_all [Y2]
  exact I.quiet q hq' hqq (hback q hq' hqi hL)
 ·by_cases hdx:it.o.dst=some x
  ·rw [I.lt it hit hl x hdx] at hx;cases hx
  ·rw [Yr hdx]
   refine I.tmps x u hx fun q hq' hdq hqq hn'=>hback q hq' (fun e=> ?_) (hc q hq' hdq hqq hn')
   simp_all
 ·by_cases hqi:q=it
  ·subst hqi
   refine ⟨mkv,obj,hz.congr hl fun x hx=>Yr fun hd=>hst.self q hits ?_ x hd (JD _ hx),fun x hx=> ?_, ?_, ?_, ?_, ?_, ?_⟩
   ·simp_all [Xu]
   all_goals simp only [if_true]
   ·rw [hx,UK (by rw [I.size];exact I.ln q hits hl x hx)]
   ·simp
   ·exact hnown
   ·exact hnimm
   ·exact I.evo.size
   ·simp
  ·simp only [if_neg (hne q (I.sub q hq') hqi)]
   have hLq:=hback q (I.sub q hq') hqi hL
   obtain ⟨y,y0,y1,y2,y3,y4,y5,y6,y7⟩:=I.adopt q hq' hLq hT'
   refine ⟨y,y0,Z1o hst hm hits (I.sub q hq') hT' hLq hnL rfl y1,fun x hx=> ?_, ?_,y4,y5,y6, ?_⟩
   ·rw [Yr (hst.dst q (I.sub q hq') it hits hqi x hx)]
    simp_all
   all_goals grind
 ·by_cases hqi:q=it
  ·by_cases hqi':q'=it
   ·rw [hqi,hqi']
   ·subst hqi
    simp only [if_true,if_neg (hne q' (I.sub q' hq'') hqi')] at hb
    have:=key q' hq'' hqi' hL' hl2
    omega
  ·by_cases hqi':q'=it
   ·subst hqi'
    simp only [if_true,if_neg (hne q (I.sub q hq') hqi)] at hb
    have:=key q hq' hqi hL hl1
    omega
   ·simp only [if_neg (hne q (I.sub q hq') hqi),if_neg (hne q' (I.sub q' hq'') hqi')] at hb
    exact I.inj q hq' q' hq'' (hback q (I.sub q hq') hqi hL) (hback q' (I.sub q' hq'') hqi' hL') hl1 hl2 hb
 ·refine Z8L hst hm hits hnL I.mp (fun _=>rfl) Xv (fun _ _ h=>h) (fun b hb _=>World.push_old hb) (fun _ _ h _=>h) (fun _ _ h=>h) (by simp_all) (fun q hq' hL hl' b hbs hb=> ?_)
  grind
end
end Go.Tk
end
section
namespace Go.Tk
open IntKind (i64 u8 u32 u64 wrap)
theorem Z74 {qm:Nat} {all:List Oper} (hed:∀i o e,all[i]? =some o->e∈o.after.toList->Region.binds .any e=true->e.on<i):
  ∀{r:List Oper} {k:Nat} {acc:List Nat},(∀j,r[j]? =all[k+j]?)->(∀j p,(Qv acc j).testBit p=true->p<j)->acc.length=k->
   ∀it∈ZK qm k acc r,∀p,it.m.testBit p=true->p<it.i
 | [],_,_,_,_,_,it,h,_,_=>by simp [ZK] at h
 | o::r,k,acc,hr,hacc,hk,it,h,p,hp=>by
  have h0:all[k]? =some o:=by have:=hr 0;simp_all
  have hself:∀p,(QH acc o.after.toList 0).testBit p=true->p<k:=fun p hp=>by
   rcases Qk hp with h1|⟨e,he,hb,h2⟩
   all_goals grind
  simp only [ZK,J7] at h
  rcases h with rfl|h
  ·simp_all
  ·refine Z74 hed (k:=k+1) (acc:=acc++[QH acc o.after.toList 0]) (fun j=> ?_) ?_ (by simp [hk]) it h p hp
   ·have:=hr (j+1)
    rw [show k+1+j=k+(j+1) from by omega,<-this]
    simp
   grind [Z4W]
theorem Qm {m:Nat} {q:It} {v:AV}:∀{pend:List (It×AV)},(q,v)∈VJ m pend↔(q,v)∈pend/\m.testBit q.i=false
 | []=>by simp [VJ]
 | (it,u)::r=>by
  unfold VJ
  split
  ·rename_i h
   rw [Qm]
   constructor
   ·rintro ⟨h1,h2⟩;exact ⟨Jh _ h1,h2⟩
   ·rintro ⟨h1,h2⟩
    rcases J7.1 h1 with h3|h3
    ·cases h3;rw [h] at h2;cases h2
    ·exact ⟨h3,h2⟩
  ·rename_i h
   rw [J7,Qm,J7]
   constructor
   ·rintro (h1|⟨h1,h2⟩)
    ·cases h1;exact ⟨.inl rfl,h⟩
    ·exact ⟨.inr h1,h2⟩
   ·rintro ⟨h1|h1,h2⟩
    ·exact .inl h1
    ·exact .inr ⟨h1,h2⟩
theorem Ys {i:Nat} {q:It}:∀{l:List It},q∈VI i l↔q∈l/\q.i≠i
 | []=>by simp [VI]
 | it::r=>by
  unfold VI
  split
  ·rename_i h
   have e:=J0 h
   rw [Ys,J7]
   constructor
   ·rintro ⟨h1,h2⟩;exact ⟨.inr h1,h2⟩
   ·rintro ⟨h1|h1,h2⟩
    ·subst h1;exact absurd e h2
    ·exact ⟨h1,h2⟩
  ·rename_i h
   have e:it.i≠i:=fun e=>by rw [e,Jj] at h;cases h
   rw [J7,Ys,J7]
   constructor
   ·rintro (h1|⟨h1,h2⟩)
    ·subst h1;exact ⟨.inl rfl,e⟩
    ·exact ⟨.inr h1,h2⟩
   ·rintro ⟨h1|h1,h2⟩
    ·exact .inl h1
    ·exact .inr ⟨h1,h2⟩
theorem Z1p {i:Nat}:∀{l:List It},(VI i l).Sublist l
 | []=>List.Sublist.refl _
 | it::r=>by
  unfold VI
  split
  ·exact List.Sublist.cons _ Z1p
  ·exact List.Sublist.cons_cons _ Z1p
theorem Z05 {x:Nat} {v:AV} {t:ZO}:∀{its:List It},ZG (Z3x t its) x=some v->ZG t x=some v/\∀it∈its,it.o.dst≠some x
 | [],h=>⟨h,by simp⟩
 | it::r,h=>by
  unfold Z3x at h
  split at h
  ·rename_i y hy
   by_cases hxy:y=x
   ·subst hxy;rw [XZ] at h;cases h
   ·rw [Xs _ _ _ hxy] at h
    have:=Z05 h
    refine ⟨this.1,fun q hq=> ?_⟩
    rcases J7.1 hq with rfl|hq
    ·rw [hy];exact fun e=>hxy (by injection e)
    ·exact this.2 q hq
  ·rename_i hy
   have:=Z05 h
   refine ⟨this.1,fun q hq=> ?_⟩
   rcases J7.1 hq with rfl|hq
   ·rw [hy];simp
   ·exact this.2 q hq
theorem Wy {x:Nat} {v:AV} {t:ZO}:∀{its:List It},ZG (WT t its) x=some v->ZG t x=some v/\∀it∈its,ZN it=true->it.o.dst≠some x
 | [],h=>⟨h,by simp⟩
 | it::r,h=>by
  unfold WT at h
  split at h
  ·rename_i y hT hy
   by_cases hxy:y=x
   ·subst hxy;rw [XZ] at h;cases h
   ·rw [Xs _ _ _ hxy] at h
    have:=Wy h
    refine ⟨this.1,fun q hq hl=> ?_⟩
    rcases J7.1 hq with rfl|hq
    ·rw [hy];exact fun e=>hxy (by injection e)
    ·exact this.2 q hq hl
  ·rename_i hno
   have:=Wy h
   refine ⟨this.1,fun q hq hl hd=> ?_⟩
   rcases J7.1 hq with rfl|hq
   ·exact hno x hl hd
   ·exact this.2 q hq hl hd
theorem QI:∀{l:List It},WS l=none->∀q∈l,Xu q=false
 | [],_,q,hq=>by simp at hq
 | it::r,h,q,hq=>by
  unfold WS at h
  split at h
  ·cases h
  ·rename_i he
   rcases J7.1 hq with rfl|hq
   ·exact he
   ·exact QI h q hq
theorem QJ:∀{l:List It} {e:It},WS l=some e->e∈l/\Xu e=true
 | [],e,h=>by simp [WS] at h
 | it::r,e,h=>by
  unfold WS at h
  split at h
  ·rename_i he;cases h;exact ⟨Jy ..,he⟩
  ·have:=QJ h
   exact ⟨Jh _ this.1,this.2⟩
section
variable {P:Program} {all:List Oper} {its0 its:List It} {sp:Option SpD} {n0:Nat} {E0:Env} {h0:Z7} {w0:World} {L:Nat->Prop} {bl:Nat->Nat} {rem rem':List It} {D:Nat} {pend pend':List (It×AV)} {s s2:St} {E:Env} {a:Act} {w:World}
theorem Inv.doEff (hst:Stat P all its0 its sp n0) (hm:∀q∈its0,L q.i->∀p,q.m.testBit p=true->L p) (I:Inv P all its sp E0 h0 w0 L bl rem D pend s E a w) {e:It} (he:e∈rem) (hnL:¬L e.i) (heff:Xu e=true) (hD:∀p,e.m.testBit p=true->D.testBit p=true) (hme:∀p,e.m.testBit p=true->L p)
  {s3:St} {E':Env} {w':World} {ds:List Deferred} {v:AV} {r:Value} (hev:Evo E s.h w E' s3.h w') (hev0:Evo E0 h0 w0 E' s3.h w') (hds:WR E' s3.d ds) (hv:Zd E' v r)
  (e2:s3.n=s.n) (e4:∀x,e.o.dst=some x->ZG s3.t x=some v/\x<s.n) (e5:∀x,e.o.dst≠some x->ZG s3.t x=ZG s.t x)
  (hre:∀q v,(q,v)∈VJ e.m pend->Z1l P q s.t s.h v->(∀x∈opT q.o.op,ZG s3.t x=ZG s.t x)->Z1l P q s3.t s3.h v):
  Inv P all its sp E0 h0 w0 (fun j=>L j\/j=e.i) bl (VI e.i rem) (Nat.lor D (2^e.i)) (VJ e.m pend) s3 E' (({ a with defers:=ds}:Act).put e.o.dst r) w':=by
 have hits:=I.sub e he
 have hne:∀q∈its,q≠e->q.i≠e.i:=fun q hq' hn' h=>hn' (hst.uniq q hq' e hits h)
 have hback:∀q∈its,q≠e->(L q.i\/q.i=e.i)->L q.i:=fun q hq' hn' h=>h.resolve_right (hne q hq' hn')
 have hrm:∀q∈its,q∉VI e.i rem->q=e\/q∉rem:=fun q hq hn=>by
  by_cases h:q=e
  ·exact .inl h
  ·exact .inr fun hr=>hn (Ys.2 ⟨hr,hne q hq h⟩)
 have hfwd:∀q,q∉rem->q∉VI e.i rem:=fun q hn h=>hn (Ys.1 h).1
 refine ⟨fun q hq=>I.sub q (Ys.1 hq).1,I.nodup.sublist Z1p,fun q hq hb=> ?_,fun q hq hnl hn p hp hb=> ?_,fun q hq hqe=> ?_,fun q hq hl hn=> ?_,fun q hq hqq hL=> ?_,fun q hq hqq hn hL=> ?_,
  by rw [Xv,e2];exact I.size,fun x u hx hc=> ?_,by rw [put_defers];exact hds,hev0,fun q hq hl x hx=> ?_,fun q hq hL hT=> ?_,fun q hq q' hq' hL hL' hl hl' hb=> ?_,fun q hq x hx hn=> ?_,fun q hq hn=> ?_,by rw [e2];exact I.ln, ?_⟩
 ·rcases Z65 hb with h|h
  ·exact hfwd q (I.dbit q hq h)
  ·exact fun hr=>(Ys.1 hr).2 h
 ·rcases hrm q hq hn with rfl|hn'
  ·exact hfwd p (I.dbit p hp (hD _ hb))
  ·exact hfwd p (I.born q hq hnl hn' p hp hb)
 ·by_cases hqi:q=e
  ·subst hqi
   exact ⟨fun _ h=>(Ys.1 h).2 rfl,fun _=>.inr rfl⟩
  ·constructor
   ·intro h
    exact hfwd q ((I.eff q hq hqe).1 (hback q hq hqi h))
   ·intro h
    exact .inl ((I.eff q hq hqe).2 ((hrm q hq h).resolve_left hqi))
 ·have hqi:q≠e:=fun h=>by subst h;rw [YP heff] at hl;cases hl
  exact .inl (I.late q hq hl ((hrm q hq hn).resolve_left hqi))
 ·have hqi:q≠e:=fun h=>by subst h;rw [Yo heff] at hqq;cases hqq
  exact hfwd q (I.quiet q hq hqq (hback q hq hqi hL))
 ·have hqi:q≠e:=fun h=>by subst h;rw [Yo heff] at hqq;cases hqq
  have hn':=(hrm q hq hn).resolve_left hqi
  have hL':¬L q.i:=fun h=>hL (.inl h)
  obtain ⟨u,h1,h2⟩:=I.fact q hq hqq hn' hL'
  have hsame:∀x∈Wi all q.o,ZG s3.t x=ZG s.t x:=fun x hx=>e5 x fun hd=>by
   rcases hst.rd e hits q hq (fun h=>hqi h.symm) x hd hx with h|⟨h3,_⟩
   ·exact I.born q hq (Y2 hqq) hn' e hits h he
   ·exact hL' (hme _ h3)
  refine ⟨u,fun x hx=> ?_, ?_⟩
  ·rw [e5 x fun hd=>hst.dst e hits q hq (fun h=>hqi h.symm) x hd hx]
   exact h1 x hx
  ·rw [Vd fun x hx=>hsame x (JR _ hx)]
   rcases h2 with ⟨h2,h3,h4⟩|h
   ·have hmem:(q,u)∈VJ e.m pend:=Qm.2 ⟨h3,by
     cases hb:e.m.testBit q.i with
     | false=>rfl
     | true=>exact absurd (hme _ hb) hL'⟩
    exact .inl ⟨h2,hmem,hre q u hmem h4 fun x hx=>hsame x (JD _ hx)⟩
   ·exact .inr h
 ·by_cases hdx:e.o.dst=some x
  ·rw [(e4 x hdx).1] at hx
   cases hx
   rw [hdx,UK (by show x<a.tmps.size;rw [I.size];simp_all)]
   exact hv
  ·rw [Yr hdx]
   rw [e5 x hdx] at hx
   refine (I.tmps x u hx fun q hq hdq hqq hn=> ?_).mono hev.le
   grind
 ·have hq1:=Ys.1 hq
  have hqi:q≠e:=fun h=>by simp_all
  rw [e5 x fun hd=>hst.dst e hits q (I.sub q hq1.1) (fun h=>hqi h.symm) x hd hx]
  exact I.lt q hq1.1 hl x hx
 ·have hq1:=Ys.1 hq
  have hqi:q≠e:=fun h=>by simp_all
  have hLq:=hback q (I.sub q hq1.1) hqi hL
  obtain ⟨y,y0,y1,y2,y3,y4,y5,y6,y7⟩:=I.adopt q hq1.1 hLq hT
  refine ⟨y,y0,Z1o hst hm hits (I.sub q hq1.1) hT hLq hnL (a:={ a with defers:=ds}) rfl y1,fun x hx=> ?_,(hev.keep _ y7 y4).trans y3,fun ho=> ?_,fun ad c hi=>y5 ad c (hev.imm ad c hi),y6,Nat.lt_of_lt_of_le y7 hev.size⟩
  ·rw [Yr (hst.dst q (I.sub q hq1.1) e hits hqi x hx)]
   simp_all
  ·rcases hev.own _ ho with h|h
   all_goals grind
 ·have hq1:=Ys.1 hq
  have hq2:=Ys.1 hq'
  have hqi:q≠e:=fun h=>by simp_all
  have hqi':q'≠e:=fun h=>by simp_all
  exact I.inj q hq1.1 q' hq2.1 (hback q (I.sub q hq1.1) hqi hL) (hback q' (I.sub q' hq2.1) hqi' hL') hl hl' hb
 ·rw [e2]
  rcases hrm q hq hn with rfl|hn'
  ·simp_all
  ·exact I.dst q hq x hx hn'
 ·rcases hrm q hq hn with rfl|hn'
  ·simp_all
  ·exact Z3B (I.dset q hq hn')
 ·refine Z8L hst hm hits hnL I.mp (r:=r) (fun x=>by cases hq:e.o.dst<;>simp [Act.put]) (by rw [Xv]) (fun x hd h=>by rw [e5 x hd];exact h) hev.keep
   (fun b hb hno _ ho=>(hev.own b ho).elim hno fun h=>by omega) (fun ad c h=>hev.imm ad c h) hev.size (fun q hq hL hl b _ hb=> ?_)
  have hq1:=Ys.1 hq
  simp_all
end
end Go.Tk
end
section
namespace Go.Tk
open IntKind (i64 u8 u32 u64 wrap)
theorem Zb6 {E0:Env} {h0:Z7} {w0:World} {E:Env} {h:Z7} {w:World} (v:Evo E0 h0 w0 E h w) (b:Nat) (o:Obj) (hb:¬YT E h b) (hi:∀ad c,E.imm ad c->ad.block≠b) (hw:w0.heap.size<=b):
  Evo E0 h0 w0 E h { w with heap:=w.heap.setIfInBounds b o}:=by
 have hget:∀i,i≠b->(w.heap.setIfInBounds b o)[i]? =w.heap[i]?:=fun i hi=>by rw [Je,if_neg (fun e=>hi e.symm)]
 refine ⟨v.le,⟨v.emb.fresh,v.emb.lt,fun x B hx=>(v.emb.own x B hx).congr fun b' N hb'=>hget b' fun e=>hb ⟨x,B,N,hx,by rw [hb',e]⟩,v.emb.disj,fun ad c him=> ?_,v.emb.sep⟩,by simpa using v.size,v.os,v.tape,v.output,fun b' hb' hn=> ?_,v.own,v.imm⟩
 ·have h1:=v.emb.imm ad c him
  grind [World.cell?]
 ·rw [hget b' (by omega)]
  exact v.keep b' hb' hn
theorem Z06 {d:SpD} {it:It} (h:Z71 d it=true):it.o.guard=none/\((∃T,it.o.op=.makeMap T none/\it.i=d.i/\it.o.dst=some d.x)\/
  ∃j∈d.js,j.i=it.i/\it.o.op=.insert d.T (.tmp d.x) (.const (.int d.k j.c)) (.tmp j.y)/\it.o.dst=none):=by
 unfold Z71 at h
 simp only [J1] at h
 obtain ⟨⟨_,h1⟩,h2⟩:=h
 refine ⟨by simp_all, ?_⟩
 split at h2
 ·grind [J0,Z4V]
 ·rename_i T m k c y ho
  simp only [J1] at h2
  obtain ⟨⟨⟨⟨h3,h4⟩,h5⟩,h6⟩,h7⟩:=h2
  obtain ⟨j,hj,h8⟩:=(Z70 _ _).1 h7
  simp only [J1] at h8
  have e1:=J0 h4
  have e2:=J0 h5
  have e3:=of_decide_eq_true h6
  have e4:=of_decide_eq_true h8.1.2
  have e5:=J0 h8.2
  exact .inr ⟨j,hj,J0 h8.1.1,by rw [ho,e1,e2,e3,e4,e5],by simp_all⟩
 ·cases h2
theorem VK:∀{l:List WU},Z04 l=true->l.Pairwise fun a b=>a.i≠b.i/\a.c≠b.c
 | [],_=>.nil
 | a::r,h=>by
  unfold Z04 at h
  rw [J1] at h
  refine .cons (fun b hb=> ?_) (VK h.2)
  have h1:=(UI _ _).1 h.1 b hb
  simp only [J1,JA,decide_eq_false_iff_not] at h1
  exact ⟨fun e=>(by rw [e,Jj] at h1;cases h1.1),h1.2⟩
theorem Zfo {l:List WU} (h:Z04 l=true):∀{a b:WU},a∈l->b∈l->a.i=b.i->a=b:=by
 have hp:=VK h
 clear h
 induction hp with
 | nil=>simp_all
 | cons h1 _ ih=>
  grind
theorem Zfp {l:List WU} (h:Z04 l=true):∀{a b:WU},a∈l->b∈l->a.c=b.c->a=b:=by
 have hp:=VK h
 clear h
 induction hp with
 | nil=>simp_all
 | cons h1 _ ih=>
  grind
theorem Zb7 {f:MapEntry->Value×Value} {g:WU->Value×Value} {l1 l2:List WU} (h:l1.Perm l2):∀ents:List MapEntry,ents.map f=l2.map g->∃ents':List MapEntry,ents'.Perm ents/\ents'.map f=l1.map g:=by
 induction h with
 | nil=>simp_all
 | cons x _ ih=>
  intro ents h
  cases ents with
  | nil=>simp at h
  | cons e r=>
   simp only [K7,List.cons.injEq] at h
   obtain ⟨r',h1,h2⟩:=ih r h.2
   exact ⟨e::r',h1.cons e,by simp_all⟩
 | swap x y l=>
  intro ents h
  match ents,h with
  | e1::e2::r,h=>
   exact ⟨e2::e1::r,.swap ..,by simp_all⟩
  | [],h=>simp at h
  | [_],h=>simp at h
 | trans _ _ ih1 ih2=>
  intro ents h
  obtain ⟨r1,h1,h2⟩:=ih2 ents h
  obtain ⟨r2,h3,h4⟩:=ih1 r1 h2
  exact ⟨r2,h3.trans h1,h4⟩
theorem Z75 {t:ZO} {k:IntKind}:∀{js:List WU} {K:List (AV×AV)->Prop},Z9L t k js K->
  ∃es,K es/\∀(E:Env) (a:Act),(∀j∈js,∀v,ZG t j.y=some v->Zd E v (a.tmps.getD j.y undef))->Zv E (es.map (·.1)) (js.map fun j=>(Z3z k a j).1)/\Zv E (es.map (·.2)) (js.map fun j=>(Z3z k a j).2)
 | [],K,h=>⟨[],h,fun _ _ _=>⟨.nil,.nil⟩⟩
 | j::r,K,h=>by
  unfold Z9L at h
  split at h
  ·rename_i v hv
   obtain ⟨es,h1,h2⟩:=Z75 h
   refine ⟨_,h1,fun E a hr=> ?_⟩
   obtain ⟨h3,h4⟩:=h2 E a fun j' hj'=>hr j' (Jh _ hj')
   exact ⟨.cons _ _ _ _ (.int _ _) h3,.cons _ _ _ _ (hr j (Jy ..) v hv) h4⟩
  simp_all
theorem ZcD {it:It} (h:bsI it=true):ZN it=true:=by
 grind [bsI]
theorem UM {P:Program} {D:Nat} {s:St} {K:Prop}:∀{l:List It},Z3w P D s K l->K/\∀it∈l,bsI it=true->Nat.beq (Nat.land it.m D) it.m=true->∃Z:Prop,Z4T P s.h it.o.op (Vb s.t (opT it.o.op)) fun _ _=>Z
 | [],h=>⟨h,fun _ h=>by cases h⟩
 | it::r,h=>by
  unfold Z3w at h
  split at h
  ·rename_i hb
   rw [J1] at hb
   have h0:=h
   obtain ⟨v,B,h1,_⟩:=Z3C (ZcD hb.1) h
   obtain ⟨h2,h3⟩:=UM h1
   refine ⟨h2,fun q hq hbq hm=> ?_⟩
   rcases J7.1 hq with rfl|hq
   ·exact ⟨_,h0⟩
   simp_all
  ·rename_i hb
   obtain ⟨h2,h3⟩:=UM h
   refine ⟨h2,fun q hq hbq hm=> ?_⟩
   rcases J7.1 hq with rfl|hq
   ·rw [hbq,hm] at hb;cases hb
   ·exact h3 q hq hbq hm
section
variable {P:Program} {all:List Oper} {its0 its:List It} {sp:Option SpD} {n0:Nat} {E0:Env} {h0:Z7} {w0:World} {L:Nat->Prop} {bl:Nat->Nat} {rem:List It} {D:Nat} {pend:List (It×AV)} {s:St} {E:Env} {a:Act} {w:World} {cx:Ctx} {X:KE}
theorem ZcE (hst:Stat P all its0 its sp n0) (I:Inv P all its sp E0 h0 w0 L bl rem D pend s E a w) (hlt:∀it∈its,it.i<n0) (hspl:∀d,sp=some d->d.i<n0/\∀j∈d.js,j.i<n0) (hall:∀j,j<n0->L j) (h:ZcA sp s fun s=>X .normal s):VF E0 h0 w0 X .normal a w:=by
 unfold ZcA at h
 cases sp with
 | none=>exact ⟨E,.normal,s,h,I.evo,⟨I.evo.emb,⟨I.size,fun x v hv=>I.tmps x v hv fun it hi _ _ _=>hall it.i (hlt it hi)⟩,I.defs⟩,.normal⟩
 | some d=>
  simp only at h
  obtain ⟨es,h1,h2⟩:=Z75 h
  obtain ⟨h3,h4⟩:=h2 E a fun j _ v hv=>I.tmps _ v hv fun it hi _ _ _=>hall it.i (hlt it hi)
  obtain ⟨s2,k0,k1,k2,k3,k4,k5⟩:=X0 h1
  obtain ⟨m1,m2,m3⟩:=I.mp d rfl
  obtain ⟨b,ents,clock,n1,n2,n3,n4,n5,n6,n7,done,d1,d2,d3⟩:=m3 (hall _ (hspl d rfl).1)
  have hal:=hst.alone d rfl
  have hnd:d.js.Nodup:=(VK hal).imp fun h e=>h.1 (by rw [e])
  have hnd':done.Nodup:=by
   unfold List.Nodup at d1⊢
   rw [List.pairwise_map] at d1
   exact d1.imp fun h e=>h (by rw [e])
  have hperm:d.js.Perm done:=(List.perm_ext_iff_of_nodup hnd hnd').2 fun j=>by
   simp_all
  obtain ⟨ents',p1,p2⟩:=Zb7 hperm ents.toList d3
  have hkeys:ents'.map (·.key)=d.js.map fun j=>(Z3z d.k a j).1:=by
   have:=congrArg (List.map Prod.fst) p2
   grind [Function.comp_def]
  have hvals:ents'.map (·.val)=d.js.map fun j=>(Z3z d.k a j).2:=by
   have:=congrArg (List.map Prod.snd) p2
   grind [Function.comp_def]
  have hle:E.le (E.ext s.h.next b 0):=Env.ext_le (I.evo.emb.fresh _ (J2 _))
  have hB:ZY (E.ext s.h.next b 0) w s.h.next (.pmap es):=by
   refine .pmap es b d.k ents.toList ents' clock (Env.ext_same ..) (by omega) p1 ?_ (fun e he=> ?_) ?_ ?_
   ·rw [hkeys]
    unfold List.Nodup
    rw [List.pairwise_map]
    refine (VK hal).imp fun h e=>h.2 ?_
    injection e
   ·have:e.key∈ents'.map (·.key):=List.mem_map_of_mem he
    rw [hkeys] at this
    obtain ⟨j,_,hj⟩:=Kk.1 this
    exact ⟨j.c,hj.symm⟩
   ·rw [hkeys];exact h3.mono hle
   ·rw [hvals];exact h4.mono hle
  have hev:=Z4Y I.evo b 0 (.pmap es) n3 n4 hB n5
  refine ⟨E.ext s.h.next b 0,.normal,s2,k0,by rw [k1];exact hev,⟨by rw [k1];exact hev.emb,⟨by rw [k2];exact I.size,fun x v hv=> ?_⟩,by rw [k3];exact I.defs.mono hle⟩,.normal⟩
  by_cases hx:d.x=x
  ·subst hx
   rw [(k4 d.x rfl).1] at hv
   cases hv
   rw [n1]
   exact .map _ _ 0 (Env.ext_same ..)
  ·rw [k5 x (fun e=>hx (by injection e))] at hv
   exact (I.tmps x v hv fun it hi _ _ _=>hall it.i (hlt it hi)).mono hle
theorem finish (hst:Stat P all its0 its sp n0) (I:Inv P all its sp E0 h0 w0 L bl rem D pend s E a w) (hlt:∀it∈its,it.i<n0) (hml:∀it∈its,∀p,it.m.testBit p=true->p<it.i) (hspl:∀d,sp=some d->d.i<n0/\∀j∈d.js,j.i<n0) (hall:∀j,j<n0->L j) {next:List It->Nat->List (It×AV)->St->KE->Prop} (h:Ud cx P all its next rem D pend s (spX sp X)):
  VF E0 h0 w0 X .normal a w:=by
 unfold Ud at h
 split at h
 ·simp_all
 ·replace h:=(UM h).1
  split at h
  ·obtain ⟨rem',D',s',E',hx,I',_,_,_⟩:=Z73 (kept:=[]) hst (fun it hi _ p hp=>hall _ (Nat.lt_trans (hml it hi p hp) (hlt it hi))) (fun it hi _ _=>hall it.i (hlt it hi)) (fun q hq v _=>.inl (hall q.i (hlt q hq))) rem D s E h I (by simp)
   exact ZcE hst I' hlt hspl hall hx
  ·rename_i e he
   have h1:=QJ he
   have hits:=I.sub e h1.1
   exact absurd h1.1 ((I.eff e hits h1.2).1 (hall e.i (hlt e hits)))
theorem Inv.doSp (hst:Stat P all its0 its sp n0) (I:Inv P all its sp E0 h0 w0 L bl rem D pend s E a w) {i:Nat} (hi:∀it∈its,it.i≠i) {a':Act} {w':World} (hz:a'.tmps.size=a.tmps.size) (hdf:a'.defers=a.defers)
  (hta:∀x,(∀d,sp=some d->x≠d.x)->a'.tmps.getD x undef=a.tmps.getD x undef) (hev:Evo E0 h0 w0 E s.h w') (hk:∀q∈rem,L q.i->ZN q=true->w'.heap[bl q.i]? =w.heap[bl q.i]?) (hs:w.heap.size<=w'.heap.size)
  (hmp:MpI sp w0 (fun j=>L j\/j=i) bl rem s.t E s.h a' w'):Inv P all its sp E0 h0 w0 (fun j=>L j\/j=i) bl rem D pend s E a' w':=by
 have hback:∀q∈its,(L q.i\/q.i=i)->L q.i:=fun q hq h=>h.resolve_right (hi q hq)
 refine ⟨I.sub,I.nodup,I.dbit,I.born,fun q hq' he=> ?_,fun q hq' hl' hn'=>.inl (I.late q hq' hl' hn'),fun q hq' hqq hL=>I.quiet q hq' hqq (hback q hq' hL),fun q hq' hqq hn' hL=>I.fact q hq' hqq hn' (fun h=>hL (.inl h)),by rw [hz];exact I.size,fun x u hx hc=> ?_,
  by rw [hdf];exact I.defs,hev,I.lt,fun q hq' hL hT'=> ?_,fun q hq' q' hq'' hL hL' hl1 hl2 hb=>I.inj q hq' q' hq'' (hback q (I.sub q hq') hL) (hback q' (I.sub q' hq'') hL') hl1 hl2 hb,I.dst,I.dset,I.ln,hmp⟩
 ·rw [<-I.eff q hq' he]
  simp_all
 ·rw [hta x fun d hd e=>by subst e;rw [(I.mp d hd).2.1] at hx;cases hx]
  exact I.tmps x u hx fun q hq' hdq hqq hn=>hback q hq' (hc q hq' hdq hqq hn)
 ·have hits:=I.sub q hq'
  have hLq:=hback q hits hL
  obtain ⟨y,y0,y1,y2,y3,y4,y5,y6,y7⟩:=I.adopt q hq' hLq hT'
  refine ⟨y,y0,y1.congr hT' fun x hx=>hta x fun d hd e=> ?_,fun x hx=> ?_,(hk q hq' hLq hT').trans y3,y4,y5,y6,Nat.lt_of_lt_of_le y7 hs⟩
  ·subst e
   exact (XQ hst hd hits).2.2.2.1 (JD _ hx)
  ·rw [hta x fun d hd e=>(XQ hst hd hits).2.2.1 (by rw [hx,e])]
   simp_all
theorem Inv.doMap (hst:Stat P all its0 its sp n0) (hm:∀q∈its0,L q.i->∀p,q.m.testBit p=true->L p) (I:Inv P all its sp E0 h0 w0 L bl rem D pend s E a w) {d:SpD} (hd:sp=some d) (hnL:¬L d.i):
  Inv P all its sp E0 h0 w0 (fun j=>L j\/j=d.i) bl rem D pend s E (a.put (some d.x) (.map (some w.heap.size))) { w with heap:=w.heap.push (.map #[] 0)}:=by
 have hnown:¬YT E s.h w.heap.size:=fun ⟨x,B,N,hx,hb⟩=>by
  have:=(I.evo.emb.own x B hx).lt hb
  omega
 have hnimm:∀ad c,E.imm ad c->ad.block≠w.heap.size:=fun ad c hi e=>by
  have h1:=I.evo.emb.imm ad c hi
  simp [World.cell?,e] at h1
 have hlt:∀q∈rem,L q.i->ZN q=true->bl q.i<w.heap.size:=fun q hq hL hl'=>by
  obtain ⟨y,y0,y1,y2,y3,y4,y5,y6,y7⟩:=I.adopt q hq hL hl'
  exact y7
 have hnj:∀j∈d.js,¬L j.i/\j.i≠d.i:=fun j hj=>by
  refine ⟨fun h=>hnL (Z3A hst hd hj hm h).1,fun e=> ?_⟩
  have h:=hst.jok d hd j hj
  simp_all [jOk]
 refine I.doSp hst (fun it hit=>(XQ hst hd hit).1) Xv put_defers (fun x hx=>Yr fun e=>hx d hd (by simp_all)) (I.evo.trans (Z32 I.evo.emb _)) (fun q hq hL hl=>World.push_old (hlt q hq hL hl)) (by simp_all) ?_
 intro d' hd'
 rw [hd] at hd'
 cases hd'
 obtain ⟨m1,m2,_⟩:=I.mp d hd
 refine ⟨by rw [Xv];exact m1,m2,fun _=>⟨w.heap.size, #[],0,UK m1,by simp,hnown,hnimm,I.evo.size,by simp,fun q hq hL hl e=> ?_,[],by simp,fun j=> ?_,rfl⟩⟩
 ·have:=hlt q hq (hL.resolve_right (XQ hst hd (I.sub q hq)).1) hl
  omega
 simp_all
theorem run_makeMap {o:Oper} {T:TypeId} (ho:o.op=.makeMap T none) (ρ:Operand->Value) (w:World):
  (execOp ρ o).run P w=.ok (.value (.map (some w.heap.size))) { w with heap:=w.heap.push (.map #[] 0)}:=by
 simp [execOp,ho,Instr.makeMap]
theorem Inv.doIns (hst:Stat P all its0 its sp n0) (hm:∀q∈its0,L q.i->∀p,q.m.testBit p=true->L p) (I:Inv P all its sp E0 h0 w0 L bl rem D pend s E a w) {d:SpD} (hd:sp=some d) {j:WU} (hj:j∈d.js) (hnL:¬L j.i) (hLd:L d.i)
  {o:Oper} (ho:o.op=.insert d.T (.tmp d.x) (.const (.int d.k j.c)) (.tmp j.y)):
  ∃w',(execOp a.eval o).run P w=.ok .skip w'/\Inv P all its sp E0 h0 w0 (fun i=>L i\/i=j.i) bl rem D pend s E a w':=by
 obtain ⟨m1,m2,m3⟩:=I.mp d hd
 obtain ⟨b,ents,clock,n1,n2,n3,n4,n5,n6,n7,done,k1,k2,k3⟩:=m3 hLd
 have hal:=hst.alone d hd
 obtain ⟨et,het⟩:=hst.key d hd
 obtain ⟨kt,kk,hT,hkt⟩:=Z1c het
 have hkey:∀e∈ents.toList,∃j'∈done,e.key=.int d.k j'.c:=fun e he=>by
  have h1:(e.key,e.val)∈ents.toList.map (fun e=>(e.key,e.val)):=List.mem_map_of_mem (f:=fun e:MapEntry=>(e.key,e.val)) he
  rw [k3] at h1
  obtain ⟨j',h2,h3⟩:=Kk.1 h1
  refine ⟨j',h2, ?_⟩
  unfold Z3z at h3
  injection h3 with h3 _
  exact h3.symm
 have hfind:Instr.findNow (.int kk) (.int d.k j.c) ents.toList 0=some none:=by
  grind [W7,Zfp]
 refine ⟨{ w with heap:=w.heap.setIfInBounds b (.map (ents.push ⟨.int d.k j.c,a.tmps.getD j.y undef,clock⟩) (clock+1))}, ?_, ?_⟩
 ·have e1:a.eval (.tmp d.x)=.map (some b):=n1
  have e2:a.eval (.tmp j.y)=a.tmps.getD j.y undef:=rfl
  have e3:a.eval (.const (.int d.k j.c))=.int d.k j.c:=rfl
  simp only [execOp,ho,e1,e2,e3,Instr.mapUpdate,J6,run_underlying hT,J4,ZI n2,Ya hkt _ 9999,Instr.findKey,run_underlying hkt,hfind,Jf,Yb _ n2]
 ·refine I.doSp hst (fun it hit=>((XQ hst hd hit).2.2.2.2 j hj).1) rfl rfl (fun x hx=>rfl) (Zb6 I.evo b _ n3 n4 n5) (fun q hq hL hl=> ?_) (by simp) ?_
  ·rw [Je,if_neg (fun e=>n7 q hq hL hl e.symm)]
  ·intro d' hd'
   rw [hd] at hd'
   cases hd'
   refine ⟨m1,m2,fun _=>⟨b,ents.push ⟨.int d.k j.c,a.tmps.getD j.y undef,clock⟩,clock+1,n1,by simp_all,n3,n4,n5,by simp_all,fun q hq hL hl=>n7 q hq (hL.resolve_right ((XQ hst hd (I.sub q hq)).2.2.2.2 j hj).1) hl,done++[j], ?_,fun j'=> ?_, ?_⟩⟩
   ·grind
   ·grind [Zfo]
   ·rw [Array.toList_push,JU,k3,JU]
    rfl
theorem Z50:∀(m n:Nat) (l:List Nat),(∀j,n<=j->j<n+m->j∈l)->m<=l.length
 | 0,_,_,_=>JN _
 | m+1,n,l,h=>by
  have h1:=h (n+m) (by omega) (by omega)
  have h2:=Z50 m n (l.erase (n+m)) fun j h3 h4=>(List.mem_erase_of_ne (by omega)).2 (h j h3 (by omega))
  rw [List.length_erase_of_mem h1] at h2
  have:=List.length_pos_of_mem h1
  omega
theorem Z51 (hst:Stat P all its0 its sp n0) (listed:Array Bool) (hsz:listed.size=all.length) (hr:Region.ready .any all.toArray listed=[]) (j:Nat):listed.getD j true=true:=by
 induction j using Nat.strongRecOn with
 | _ j ih=>
  cases hj:listed.getD j true with
  | true=>rfl
  | false=>
   have hjl:j<all.length:=by
    grind
   obtain ⟨it,hit,rfl⟩:=hst.ex j hjl
   have hm:=hst.mem0 it hit
   have:it.i∈Region.ready .any all.toArray listed:=mem_ready.2 ⟨hj,it.o,by simp_all,fun e he hb=>by
    have h1:=hst.edges it hit e (by simp_all) hb
    grind⟩
   rw [hr] at this
   cases this
theorem Z66 {it:It} (h:Z2e it=true):it.o.guard=none/\(∀p,p<it.i->it.m.testBit p=true)/\((∃x,it.o.op=.move x)\/∃x,it.o.op=.assign x):=by
 unfold Z2e at h
 simp only [J1] at h
 obtain ⟨⟨⟨_,h1⟩,h2⟩,h3⟩:=h
 refine ⟨by simp_all,fun p hp=> ?_, ?_⟩
 ·have h4:=J0 h2
  have h5:it.m=2^it.i-1:=by omega
  simp_all
 grind
theorem Z9O {qm:Nat} (hst:Stat P all (ZK qm 0 [] all) its sp n0) {ro:Option Nat} {n:Nat}:∀(T:List It) (k fuel:Nat) (listed:Array Bool) (a:Act) (w:World),(ZK qm 0 [] all).drop k=T->(∀q∈T,Z2e q=true)->listed.size=all.length->
  (∀j,listed.getD j true=true↔(j<k\/all.length<=j))->T.length<=fuel->VF E0 h0 w0 (tlX P T X) .normal a w->wpAnyIn (Fr ro) n P .any all.toArray (VF E0 h0 w0 X) fuel listed a w
 | [],k,fuel,listed,a,w,hd,htl,hsz,hli,hf,hp=>by
  have hlen:all.length<=k:=by
   have:=List.drop_eq_nil_iff.1 hd
   rw [XP] at this
   exact this
  have hall:∀j,listed.getD j true=true:=fun j=>(hli j).2 (by omega)
  have hp':VF E0 h0 w0 X .normal a w:=by
   obtain ⟨E',x,s',hx,h1,h2,h3⟩:=hp
   cases h3
   exact ⟨E',.normal,s',hx,h1,h2,.normal⟩
  cases fuel with
  | zero=>
   refine ⟨?_,hp'⟩
   simp_all [Region.ready]
  | succ fuel=>
   refine ⟨fun _=>hp',fun i hi=> ?_⟩
   have:=(mem_ready.1 hi).1
   rw [hall i] at this;cases this
 |it::r,k,fuel,listed,a,w,hd,htl,hsz,hli,hf,hp=>by
  have hk:(ZK qm 0 [] all)[k]? =some it:=by
   have:=congrArg (fun l=>l[0]?) hd
   grind
  have hki:=Xo hk
  have hik:it.i=k:=by omega
  have hklen:k<all.length:=by
   have:=(Jb.1 hk).1
   rw [XP] at this
   exact this
  cases fuel with
  | zero=>simp at hf
  | succ fuel=>
   refine ⟨fun hr=> ?_,fun i hi=> ?_⟩
   ·have:=(hli k).1 (Z51 hst listed hsz hr k)
    omega
   obtain ⟨hun,o,ho,hpre⟩:=mem_ready.1 hi
   have ho':all[i]? =some o:=by simp_all
   have hil:i<all.length:=by
    grind
   have hik2:k<=i:=by
    grind
   obtain ⟨q,hq0,hqi⟩:=hst.ex i hil
   have hoi:=hst.mem0 q hq0
   rw [hqi,ho'] at hoi
   cases hoi
   have hei:i=k:=by
    rcases Jm k i with h|h
    ·exfalso
     have hqt:q∈it::r:=by
      rw [<-hd]
      obtain ⟨p,hp⟩:=K1.1 hq0
      have h1:=Xo hp
      refine K1.2 ⟨p-k, ?_⟩
      rw [JJ,show k+(p-k)=p from by omega]
      exact hp
     have h2:=(Z66 (htl q hqt)).2.1 k (by omega)
     have hL:=Ue (qm:=qm) (L:=fun j=>listed.getD j true=true\/j=i) (all:=all) (fun i' o' e hio hLi he hb=>by
      rcases hLi with hLi|rfl
      ·have h3:=(hli i').1 hLi
       have h4:i'<all.length:=by
        grind
       obtain ⟨q',hq',hqi'⟩:=hst.ex i' h4
       have h5:=hst.mem0 q' hq'
       rw [hqi',hio] at h5
       cases h5
       have h6:=hst.edges q' hq' e he hb
       grind
      grind) (k:=0) (acc:=[]) rfl (fun j=>by simp) (fun j p hj=>by omega) (fun j _=>by simp [Qv]) q hq0 (.inr hqi) k h2
     grind
    ·omega
   subst hei
   have hqe:q=it:=hst.uniq0 q hq0 it (K6 hk) (by omega)
   subst hqe
   obtain ⟨hg,_,hop⟩:=Z66 (htl q (Jy ..))
   obtain ⟨E',x,s',hx,h1,h2,h3⟩:=hp
   cases h3
   have hx':opQ P q.o.op s'.t s'.h fun v=>Us s' q.o.dst v fun s2=>tailA P r s2 fun s=>X .normal s:=hx
   obtain ⟨v,hv,hrun⟩:=Z8D hx'
   obtain ⟨r',hr1,hr2⟩:=hrun E' w s'.n a (fun _=>h1.emb) h2.tmps
   obtain ⟨s2,k0,k1,k2,k3,k4,k5⟩:=X0 hv
   unfold wpOpIn
   rw [ho]
   simp only
   rw [if_pos (by simp [Region.wanted,hg])]
   refine ⟨fun _ _=>trivial, ?_⟩
   rw [show (Fr ro).round=ro from rfl,ZM (fun c e=>by rcases hop with ⟨x,h⟩|⟨x,h⟩<;>rw [h] at e<;>cases e),hr1]
   refine Z9O hst r (i+1) fuel (listed.setIfInBounds i true) (a.put q.o.dst r') w ?_ (fun q' hq'=>htl q' (Jh _ hq')) (by simp_all) (fun j=> ?_) (by simp_all) ⟨E',.normal,s2,k0,by rw [k1];exact h1,⟨by rw [k1];exact h2.emb,⟨by rw [Xv,k2];exact h2.tmps.size,fun x u hu=> ?_⟩,by rw [k3,put_defers];exact h2.defs⟩,.normal⟩
   ·rw [<-List.drop_drop,hd];rfl
   ·by_cases hj:i=j
    ·simp_all
    ·have h4:(listed.setIfInBounds i true).getD j true=listed.getD j true:=by simp_all
     rw [h4,hli]
     omega
   ·by_cases hdx:q.o.dst=some x
    ·rw [(k4 x hdx).1] at hu
     cases hu
     rw [hdx,UK (by rw [h2.tmps.size];simp_all)]
     exact hr2
    ·rw [Yr hdx]
     rw [k5 x hdx] at hu
     exact h2.tmps.get x u hu
theorem Zb8 {qm:Nat} (hcx:cx.Ok P) {ro:Option Nat} (hro:cx.inR=none->ro=none) (hst:Stat P all (ZK qm 0 [] all) its sp n0) {n:Nat} {T:List It} (hT:(ZK qm 0 [] all).drop n0=T) (htl:∀q∈T,Z2e q=true) (hn0:n0<=all.length) (hlt0:∀it∈its,it.i<n0) (hspl:∀d,sp=some d->d.i<n0/\∀j∈d.js,j.i<n0):
  ∀(fuel:Nat) (listed:Array Bool) (l:List Nat) (ns:Nat) (bl:Nat->Nat) (rem:List It) (D:Nat) (pend:List (It×AV)) (s:St) (E:Env) (a:Act) (w:World),
   l.length<=fuel->(∀j,listed.getD j true=false->j∈l)->listed.size=all.length->(∀j,n0<=j->j<all.length->listed.getD j true=false)->
   (∀i o e,all[i]? =some o->listed.getD i true=true->e∈o.after.toList->Region.binds .any e=true->listed.getD e.on true=true)->
   Inv P all its sp E0 h0 w0 (fun j=>listed.getD j true=true) bl rem D pend s E a w->
   Ud cx P all its (Z1k cx P all its ns) rem D pend s (spX sp (tlX P T X))->
   wpAnyIn (Fr ro) n P .any all.toArray (VF E0 h0 w0 X) fuel listed a w:=by
 have hlt:∀it∈ZK qm 0 [] all,∀p,it.m.testBit p=true->p<it.i:=by
  refine Z74 (all:=all) (fun i o e ho he hb=> ?_) (fun j=>by simp) (fun j p h=>by simp [Qv] at h) rfl
  have hi:i<all.length:=by
   rcases Jm i all.length with h|h
   ·exact h
   ·rw [Jt h] at ho;cases ho
  obtain ⟨it,hit,rfl⟩:=hst.ex i hi
  have:=hst.mem0 it hit
  rw [this] at ho
  cases ho
  exact hst.edges it hit e he hb
 have hml:∀it∈its,∀p,it.m.testBit p=true->p<it.i:=fun it hit=>hlt it (hst.sub it hit)
 -- all of the main part is done
 have hend:∀(fuel:Nat) (listed:Array Bool) (l:List Nat) (ns:Nat) (bl:Nat->Nat) (rem:List It) (D:Nat) (pend:List (It×AV)) (s:St) (E:Env) (a:Act) (w:World),
   l.length<=fuel->(∀j,listed.getD j true=false->j∈l)->listed.size=all.length->(∀j,n0<=j->j<all.length->listed.getD j true=false)->(∀j,j<n0->listed.getD j true=true)->
   Inv P all its sp E0 h0 w0 (fun j=>listed.getD j true=true) bl rem D pend s E a w->Ud cx P all its (Z1k cx P all its ns) rem D pend s (spX sp (tlX P T X))->
   wpAnyIn (Fr ro) n P .any all.toArray (VF E0 h0 w0 X) fuel listed a w:=fun fuel listed l ns bl rem D pend s E a w hl hcov hsz hunT hmain I h=>by
  refine Z9O hst T n0 fuel listed a w hT htl hsz (fun j=> ?_) ?_ (finish hst I hlt0 hml hspl hmain h)
  ·constructor
   ·intro h1
    rcases Jm j n0 with h2|h2
    ·exact .inl h2
    ·rcases Jm j all.length with h3|h3
     ·rw [hunT j h2 h3] at h1;cases h1
     ·exact .inr h3
   ·rintro (h1|h1)
    ·exact hmain j h1
    ·rw [Jz,Kc (by omega)]
     rfl
  ·have h1:=Z50 (all.length-n0) n0 l fun j h2 h3=>hcov j (hunT j h2 (by omega))
   have h2:=congrArg List.length hT
   rw [Ja,XP] at h2
   omega
 intro fuel
 induction fuel with
 | zero=>
  intro listed l ns bl rem D pend s E a w hl hcov hsz hunT hdown I h
  have hl0:l=[]:=List.length_eq_zero_iff.1 (Nat.le_zero.1 hl)
  refine hend 0 listed l ns bl rem D pend s E a w hl hcov hsz hunT (fun j _=> ?_) I h
  cases hj:listed.getD j true with
  | true=>rfl
  | false=>have:=hcov j hj;rw [hl0] at this;cases this
 | succ fuel ih=>
  intro listed l ns bl rem D pend s E a w hl hcov hsz hunT hdown I h
  by_cases hmain:∀j,j<n0->listed.getD j true=true
  ·exact hend (fuel+1) listed l ns bl rem D pend s E a w hl hcov hsz hunT hmain I h
  refine ⟨fun hr=>absurd (fun j _=>Z51 hst listed hsz hr j) hmain,fun i hi=> ?_⟩
  obtain ⟨hun,o,ho,hpre⟩:=mem_ready.1 hi
  have ho':all[i]? =some o:=by simpa using ho
  have hil:i<all.length:=by
   grind
  obtain ⟨it,hit0,hii⟩:=hst.ex i hil
  subst hii
  have hoi:=hst.mem0 it hit0
  rw [ho'] at hoi
  cases hoi
  -- what is listed then
  have hL':(fun j=>(listed.setIfInBounds it.i true).getD j true=true)=(fun j=>listed.getD j true=true\/j=it.i):=by
   funext j
   apply propext
   by_cases hj:it.i=j
   ·subst hj
    have:it.i<listed.size:=by omega
    simp [Jz,this]
   ·have hj':¬j=it.i:=fun e=>hj e.symm
    simp [Jz,hj,hj']
  have hpreL:∀e∈it.o.after.toList,Region.binds .any e=true->listed.getD e.on true=true:=fun e he hb=>by
   have h1:=hpre e (by grind) hb
   rw [Jz] at h1⊢
   grind
  have hdown':∀i o e,all[i]? =some o->(listed.getD i true=true\/i=it.i)->e∈o.after.toList->Region.binds .any e=true->(listed.getD e.on true=true\/e.on=it.i):=fun i o e hio hLi he hb=>by
   grind
  have hmaskL:∀q∈ZK qm 0 [] all,(listed.getD q.i true=true)->∀p,q.m.testBit p=true->listed.getD p true=true:=
   Ue (L:=fun j=>listed.getD j true=true) hdown (k:=0) (acc:=[]) rfl (fun j=>by simp) (fun j p hj=>by omega) (fun j _=>by simp [Qv])
  have hmask':∀q∈ZK qm 0 [] all,(listed.getD q.i true=true\/q.i=it.i)->∀p,q.m.testBit p=true->(listed.getD p true=true\/p=it.i):=
   Ue (L:=fun j=>listed.getD j true=true\/j=it.i) hdown' (k:=0) (acc:=[]) rfl (fun j=>by simp) (fun j p hj=>by omega) (fun j _=>by simp [Qv])
  have hbits:∀p,it.m.testBit p=true->listed.getD p true=true:=fun p hp=>by
   grind
  have hspc:it∈its\/∃d,sp=some d/\Z71 d it=true:=by
   rcases hst.spc it hit0 with h1|h1|⟨h1,h2⟩
   ·exact .inl h1
   ·exact .inr h1
   ·exact absurd (fun j hj=>hbits j ((Z66 h1).2.1 j (by omega))) hmain
  have hin0:it.i<n0:=by
   rcases hspc with h1|⟨d,hd,h1⟩
   ·exact hlt0 it h1
   ·obtain ⟨_,⟨_,_,h2,_⟩|⟨j,hj,h2,_⟩⟩:=Z06 h1
    ·rw [h2];exact (hspl d hd).1
    ·rw [<-h2];exact (hspl d hd).2 j hj
  -- going on
  have hgo:∀(ns':Nat) (bl':Nat->Nat) (rem':List It) (D':Nat) (pend':List (It×AV)) (s':St) (E':Env) (a':Act) (w':World),
    Inv P all its sp E0 h0 w0 (fun j=>listed.getD j true=true\/j=it.i) bl' rem' D' pend' s' E' a' w'->
    Ud cx P all its (Z1k cx P all its ns') rem' D' pend' s' (spX sp (tlX P T X))->
    wpAnyIn (Fr ro) n P .any all.toArray (VF E0 h0 w0 X) fuel (listed.setIfInBounds it.i true) a' w':=fun ns' bl' rem' D' pend' s' E' a' w' I' h'=>by
   refine ih (listed.setIfInBounds it.i true) (l.erase it.i) ns' bl' rem' D' pend' s' E' a' w' ?_ ?_ (by simpa using hsz) (fun j h1 h2=> ?_) ?_ (by rw [hL'];exact I') h'
   ·rw [List.length_erase_of_mem (hcov it.i hun)];omega
   ·intro j hj
    have hne:j≠it.i:=fun e=>by
     subst e
     have:=congrFun hL' it.i
     have h2:(listed.setIfInBounds it.i true).getD it.i true=true:=by rw [this];exact .inr rfl
     rw [h2] at hj;cases hj
    have hj':listed.getD j true=false:=by
     cases hq:listed.getD j true with
     | false=>rfl
     | true=>
      have:=congrFun hL' j
      have h2:(listed.setIfInBounds it.i true).getD j true=true:=by rw [this];exact .inl hq
      rw [h2] at hj;cases hj
    exact (List.mem_erase_of_ne hne).2 (hcov j hj')
   ·have h3:(listed.setIfInBounds it.i true).getD j true=listed.getD j true:=by
     have:it.i≠j:=by omega
     simp [Jz,this]
    rw [h3]
    exact hunT j h1 h2
   ·intro i o e hio hLi he hb
    have e1:=congrFun hL' i
    have e2:=congrFun hL' e.on
    have h1:(listed.getD i true=true\/i=it.i):=by rw [<-e1];exact hLi
    have h2:=hdown' i o e hio h1 he hb
    rw [<-e2] at h2
    exact h2
  have hnext:∀(ns':Nat) (bl':Nat->Nat) (rem':List It) (D':Nat) (pend':List (It×AV)) (s':St) (E':Env) (a':Act) (w':World),
    Inv P all its sp E0 h0 w0 (fun j=>listed.getD j true=true\/j=it.i) bl' rem' D' pend' s' E' a' w'->
    Z1k cx P all its ns' rem' D' pend' s' (spX sp (tlX P T X))->
    wpAnyIn (Fr ro) n P .any all.toArray (VF E0 h0 w0 X) fuel (listed.setIfInBounds it.i true) a' w':=fun ns' bl' rem' D' pend' s' E' a' w' I' h'=>by
   cases ns' with
   | zero=>exact h'.elim
   | succ ns'=>
    obtain ⟨r2,D2,p2,s2,k1,k2⟩:=Z4X hst (fun q hq=>hmask' q (hst.sub q hq)) rem' [] D' pend' s' h' I'
    exact hgo ns' bl' r2 D2 p2 s2 E' a' w' k2 k1
  unfold wpOpIn
  rw [ho]
  simp only
  have hnL:¬(listed.getD it.i true=true):=by rw [hun];simp
  rcases hspc with hit|⟨d,hd,hsp⟩
  rotate_left
  ·-- the map, its entries
   obtain ⟨hg,⟨T,hT,hi,hdst⟩|⟨j,hj,hi,hT,hdst⟩⟩:=Z06 hsp
   ·rw [if_pos (by simp [Region.wanted,hg])]
    refine ⟨fun _ _=>trivial, ?_⟩
    rw [show (Fr ro).round=ro from rfl,ZM (fun c e=>by rw [e] at hT;cases hT),run_makeMap hT]
    refine hgo ns bl rem D pend s E _ _ ?_ h
    rw [hi] at hnL
    rw [hdst,hi]
    exact I.doMap hst hmaskL hd hnL
   ·rw [if_pos (by simp [Region.wanted,hg])]
    refine ⟨fun _ _=>trivial, ?_⟩
    have hLd:listed.getD d.i true=true:=by
     have h1:=(Z3A (L:=fun j=>listed.getD j true=true\/j=it.i) hst hd hj hmask' (.inr hi)).1
     rcases h1 with h1|h1
     ·exact h1
     ·have h2:=hst.jok d hd j hj
      unfold jOk at h2
      simp only [J1,JA] at h2
      rw [hi,<-h1,Jj] at h2
      cases h2.1.1
    rw [<-hi] at hnL
    obtain ⟨w',hr,I'⟩:=I.doIns hst hmaskL hd hj hnL hLd hT
    rw [show (Fr ro).round=ro from rfl,ZM (fun c e=>by rw [e] at hT;cases hT),hr]
    have hput:a.put it.o.dst undef=a:=by rw [hdst];rfl
    refine hgo ns bl rem D pend s E (a.put it.o.dst undef) w' ?_ h
    rw [hput,<-hi]
    exact I'
  -- what is ready is in reach
  have hDm:(YA it||bsI it)=true->Nat.beq (Nat.land it.m D) it.m=true:=fun hq=>by
   have:it.m&&&D=it.m:=by
    apply Nat.eq_of_testBit_eq
    intro p
    rw [Nat.testBit_and]
    cases hp:it.m.testBit p with
    | false=>rfl
    | true=>
     have hpl:=hlt it hit0 p hp
     obtain ⟨q,hqi0,rfl⟩:=hst.ex p (by omega)
     have hLq:=hbits _ hp
     have hqi:q∈its:=by
      rcases hst.spc q hqi0 with h1|⟨d,hd,h1⟩|⟨_,h1⟩
      ·exact h1
      rotate_left
      ·have:=hlt0 it hit;omega
      ·obtain ⟨_,⟨T,_,hi,_⟩|⟨j,hj,hi,_⟩⟩:=Z06 h1
       ·rw [hi,(XQ hst hd hit).2.1] at hp;cases hp
       ·rw [<-hi,((XQ hst hd hit).2.2.2.2 j hj).2] at hp;cases hp
     have hqn:q∉rem:=by
      rcases kinds q with h4|h4|h4
      ·exact I.quiet q hqi h4 hLq
      ·exact (I.eff q hqi h4).1 hLq
      ·obtain ⟨e,he,h5,h6,h7⟩:=hst.qlate it hit hq q hqi h4 hp
       exact I.born e he (YP h5) ((I.eff e he h5).1 (hbits _ h7)) q hqi h6
     rw [I.dset q hqi hqn]
     rfl
   show Nat.beq (it.m&&&D) it.m=true
   rw [this];exact Jj _
  rcases kinds it with hq|hef|hlt2
  ·-- quiet
   have hnr:it∉rem:=fun hin=>by
    have h2:=h
    unfold Ud at h2
    split at h2
    ·exact h2
    ·rename_i hchk
     have h3:=(YM _ _).1 hchk it hin
     simp only [JK,JA] at h3
     rcases h3 with h3|h3
     ·rw [hq] at h3;cases h3
     ·have h5:=hDm (by rw [hq];rfl)
      rw [h5] at h3;cases h3
   obtain ⟨v,hd,hf⟩:=I.fact it hit hq hnr hnL
   have hqe:Xu it=false:=by
    cases he:Xu it with
    | false=>rfl
    | true=>rw [Yo he] at hq;cases hq
   have hrel:∀x∈Wi all it.o,∀u,ZG s.t x=some u->Zd E u (a.tmps.getD x undef):=fun x hx u hu=>I.tmps x u hu fun q hqi hdq hqq hqn=>by
    have hne:q≠it:=fun e=>by subst e;exact hst.self q hqi hqe x hdq hx
    rcases hst.rd q hqi it hit hne x hdq hx with h3|⟨h3,h4⟩
    ·exact hbits _ h3
    ·rcases h4 with h4|⟨_,e,he,h5,h6,h7⟩
     ·rw [Yo h4] at hqq;cases hqq
     ·have hLe:=(I.eff e he h5).2 (I.born q hqi (Y2 hqq) hqn e he h7)
      exact absurd (hmaskL e (hst.sub e he) hLe _ h6) hnL
   rcases hf with ⟨hw,_,hsem⟩|⟨hw,rfl⟩
   ·rw [if_pos (Ql hw fun x hx u hu=>hrel x (JR _ hx) u hu)]
    obtain ⟨r,hr,hv⟩:=hsem E w a (fun _=>I.evo.emb) fun x hx u hu=>hrel x (JD _ hx) u hu
    refine ⟨fun _ _=>trivial, ?_⟩
    rw [show (Fr ro).round=ro from rfl,ZM (fun c e=>by unfold YA at hq;rw [e] at hq;simp [Zcx,Zcw] at hq),hr]
    exact hgo ns bl rem D pend s E _ w (I.doQuiet hst hmaskL hit hnL hq hnr hd hv) h
   ·rw [if_neg (by rw [Ql hw fun x hx u hu=>hrel x (JR _ hx) u hu];simp)]
    refine ⟨fun _ _=>trivial, ?_⟩
    exact hgo ns bl rem D pend s E _ w (I.doQuiet hst hmaskL hit hnL hq hnr hd (.tuple [] [] .nil)) h
  ·-- an effect
   have hin:it∈rem:=by
    by_cases hin:it∈rem
    ·exact hin
    ·exact absurd ((I.eff it hit hef).2 hin) hnL
   unfold Ud at h
   split at h
   ·exact h.elim
   ·replace h:=(UM h).1
    split at h
    ·rename_i hno
     have:=QI hno it hin
     rw [hef] at this;cases this
    ·rename_i e he
     have hcand:Z4U rem it=true:=by
      unfold Z4U
      rw [hef,UH fun q hq heq=> ?_]
      ·rfl
      ·cases hb:it.m.testBit q.i with
       | false=>rfl
       | true=>exact absurd hq ((I.eff q (I.sub q hq) heq).1 (hbits _ hb))
     replace h:=Z03 h hin hcand
     ·skip
      obtain ⟨rem1,D1,s1,E1,h,I1,k1,k2,_⟩:=Z73 (kept:=[]) hst (fun q hq=>hmaskL q (hst.sub q hq)) (fun q hq hl hb=>hbits _ hb) (fun q _ v hqv=>by
        cases hb:it.m.testBit q.i with
        | true=>exact .inl (hbits _ hb)
        | false=>exact .inr (Qm.2 ⟨hqv,hb⟩)) rem D s E h I (by simp)
      have hin1:it∈rem1:=k2 it (by simpa using hin) (YP hef)
      split at h
      ·exact h.elim
      ·rename_i hland
       have hD:∀p,it.m.testBit p=true->D1.testBit p=true:=fun p hp=>Z1m hland hp
       have hrel:∀x∈Wi all it.o,∀u,ZG s1.t x=some u->Zd E1 u (a.tmps.getD x undef):=fun x hx u hu=>I1.tmps x u hu fun q hqi hdq hqq hqn=>by
        have hne:q≠it:=fun e=>by subst e;rw [Yo hef] at hqq;cases hqq
        rcases hst.rd q hqi it hit hne x hdq hx with h3|⟨h3,_⟩
        ·exact hbits _ h3
        ·exact absurd hin1 (I1.born q hqi (Y2 hqq) hqn it hit h3)
       obtain ⟨s2,g1,g2,g3,g4,g5⟩:=Z22 h
       rcases g5 with ⟨hw,hrun⟩|⟨hw,hskip⟩
       ·rw [if_pos (Ql hw fun x hx u hu=>hrel x (JR _ hx) u hu)]
        split at hrun
        ·rename_i S0 args0 hp0
         rw [g2] at hrun
         have hcore:=Z6S (d:=s1.d) hcx cx.inR hp0 hrun
         refine Z3u (ZaZ P cx.inR) hcore I1.evo.emb (m:=a.tmps.size) ⟨rfl,fun x u hu=> ?_⟩ I1.defs I1.evo hro ?_ (fun _ _ _ _ _ hx=>hx.elim)
         ·have:=XO hu
          exact hrel x (JD _ this.2) u (by rw [<-g1 x];exact this.1)
         ·rintro v h' d' E' ds r w' ⟨hk,rfl,rfl⟩ hv hv0 hds hvr
          obtain ⟨s3,hst',j1,j2,j3,j4,j5⟩:=X0 hk
          have j1':=j1.trans g2
          refine hnext ns bl _ _ _ s3 E' _ w' (I1.doEff hst hmaskL hin1 hnL hef hD hbits (s3:=s3) (by rw [j1'];exact hv) (by rw [j1'];exact hv0) (by rw [j3,g4];exact hds) hvr (j2.trans g3) (fun x hx=>⟨(j4 x hx).1,g3▸(j4 x hx).2⟩) (fun x hx=>(j5 x hx).trans (g1 x)) ?_) hst'
          intro q u hqu hs0 ht0
          rw [j1']
          exact hs0.congr ht0
        rw [g2,g4] at hrun
        refine Z3u hcx hrun I1.evo.emb (m:=a.tmps.size) ⟨rfl,fun x u hu=> ?_⟩ I1.defs I1.evo hro ?_ ?_
        ·have:=XO hu
         exact hrel x (JD _ this.2) u (by rw [<-g1 x];exact this.1)
        ·intro v h' d' E' ds r w' hk hv hv0 hds hvr
         obtain ⟨s3,k0,j1,j2,j3,j4,j5⟩:=X0 hk
         obtain ⟨hst',hsem⟩:=Uf k0
         simp only at j1 j2 j3 j4 j5
         refine hnext ns bl _ _ _ s3 E' _ w' (I1.doEff hst hmaskL hin1 hnL hef hD hbits (s3:=s3) (by rw [j1];exact hv) (by rw [j1];exact hv0) (by rw [j3];exact hds) hvr (j2.trans g3) (fun x hx=>⟨(j4 x hx).1,g3▸(j4 x hx).2⟩) (fun x hx=>(j5 x hx).trans (g1 x)) ?_) hst'
         intro q u hqu hs0 ht0
         rcases hsem q u hqu with hw0|hs1
         ·exact (hs0.congr ht0).worldless hw0
         ·exact hs1
        ·intro v h' E' r w' hx hv hv0 hvr
         refine ⟨E',.panic v,_,hx,hv0,⟨hv.emb,⟨I1.size.trans g3.symm,fun x u hu=> ?_⟩,I1.defs.mono hv.le⟩,.panic v r hvr⟩
         have h3:=Z05 hu
         exact (I1.tmps x u (by rw [<-g1 x];exact h3.1) fun q hq hdq _ _=>absurd hdq (h3.2 q hq)).mono hv.le
       ·rw [if_neg (by rw [Ql hw fun x hx u hu=>hrel x (JR _ hx) u hu];simp)]
        refine ⟨fun _ _=>trivial, ?_⟩
        obtain ⟨s3,k0,j1,j2,j3,j4,j5⟩:=X0 hskip
        have hh:s3.h=s1.h:=j1.trans g2
        refine hnext ns bl _ _ _ s3 E1 _ w (I1.doEff hst hmaskL hin1 hnL hef hD hbits (s3:=s3) (ds:=a.defers) (by rw [hh];exact .refl I1.evo.emb) (by rw [hh];exact I1.evo) (by rw [j3,g4];exact I1.defs) (.tuple [] [] .nil) (j2.trans g3) (fun x hx=>⟨(j4 x hx).1,g3▸(j4 x hx).2⟩) (fun x hx=>(j5 x hx).trans (g1 x)) ?_) k0
        intro q u _ h3 h4
        rw [hh]
        exact h3.congr h4
  ·-- a block
   have hin:it∈rem:=by
    by_cases hin:it∈rem
    ·exact hin
    ·exact absurd (I.late it hit hlt2 hin) hnL
   obtain ⟨hg,_⟩:=hst.late it hit hlt2
   have hpush:∃mkv obj,Ve P it a mkv obj:=by
    rcases UL hlt2 with ⟨T,hT⟩|⟨T,len,ps,hT,hbs,_⟩
    ·obtain ⟨cs,hz⟩:=hst.lz it hit T hT
     obtain ⟨z,z1,_⟩:=WM hz
     exact ⟨fun b=>.pointer (some ⟨b,0,none⟩),.cells z.cells T (0,0),fun w=>Z4Z hT z1 _ w⟩
    ·have h2:=h
     unfold Ud at h2
     split at h2
     ·exact h2.elim
     ·obtain ⟨Z,h3⟩:=(UM h2).2 it hin hbs (hDm (by rw [hbs];simp))
      obtain ⟨v,B,_,h4⟩:=Z3C hlt2 h3
      obtain ⟨mkv,obj,N,h5,_⟩:=h4 E a fun x u hu=>by
       have h6:=XO hu
       exact I.tmps x u h6.1 fun q hqi hdq _ _=>hbits _ (hst.lrd it hit hlt2 q hqi x hdq h6.2)
      exact ⟨mkv,obj,h5⟩
   obtain ⟨mkv,obj,hp⟩:=hpush
   rw [if_pos (by simp [Region.wanted,hg])]
   refine ⟨fun _ _=>trivial, ?_⟩
   rw [show (Fr ro).round=ro from rfl,ZM (fun c e=>by rcases UL hlt2 with ⟨T,hT⟩|⟨T,l,ps,hT,_⟩<;>rw [hT] at e<;>cases e),hp w]
   exact hgo ns _ rem D pend s E _ _ (I.doLate hst hmaskL hin hlt2 hnL hp) h
theorem Z52 {sp:Option SpD} {t:ZO} {x:Nat} {v:AV} (h:ZG (Z72 sp t) x=some v):ZG t x=some v:=by
 unfold Z72 at h
 grind [XZ,Xs]
theorem Z76 {qm:Nat} {its:List It} {sp:Option SpD} {Z:Prop} {k:Nat} (hcx:cx.Ok P) {ro:Option Nat} (hro:cx.inR=none->ro=none) {id:Nat} {ops:Array Oper} {T:List It} {n0:Nat} (hT:(ZK qm 0 [] ops.toList).drop n0=T) (hn0:n0<=ops.toList.length) (hsub:∀it∈its,it∈ZK qm 0 [] ops.toList) (hpw:its.Pairwise fun a b=>a.i≠b.i)
  (hcov:∀it∈ZK qm 0 [] ops.toList,it∈its\/(isSp it.o.op=true/\sp≠none)\/it∈T)
  (h:Z9M cx P ops.toList (ZK qm 0 [] ops.toList) its sp T n0 s X Z):Yl P k ro (.region id ops true) s X\/Z:=by
 unfold Z9M at h
 split at h
 ·rename_i hchk
  refine .inl ?_
  simp only [J1] at hchk
  have htl:=(YM _ _).1 hchk.1.2
  have hlt0:∀it∈its,it.i<n0:=fun it hit=>J9 ((YM _ _).1 hchk.1.1.2 it hit)
  have hst:Stat P ops.toList (ZK qm 0 [] ops.toList) its sp n0:=Zfn hsub (fun it hit=>by
   rcases hcov it hit with h1|h1|h1
   ·simp_all
   ·simp_all
   ·refine .inr (.inr ⟨htl it h1, ?_⟩)
    rw [<-hT] at h1
    obtain ⟨p,hp⟩:=K1.1 h1
    rw [JJ] at hp
    have:=Xo hp
    omega) hchk.1.1.1.1.1.2 hchk.1.1.1.1.2
  have hmix:=hchk.1.1.1.1.1.1
  have hspl:=hchk.1.1.1.2
  have hln:=hchk.2
  have hspl2:∀d,sp=some d->d.i<n0/\∀j∈d.js,j.i<n0:=fun d hd=>by
   simp_all [ZhY,UI]
  intro E0 h0 w0 E a w n _ hs hev
  refine wpIn_region_any hmix ?_
  let w1:World:={ w with drawn:=w.drawn+1}
  have hdrew:Evo E s.h w E s.h w1:=Z0o hs.emb rfl rfl rfl ⟨rfl,Nat.le_succ _⟩
  have hlist:∀j,(Array.replicate ops.size false).getD j true=true↔ops.size<=j:=fun j=>by
   by_cases hj:j<ops.size
   ·simp [hj]
   grind
  have hnL:∀it∈its,¬((Array.replicate ops.size false).getD it.i true=true):=fun it hit hL=>by
   have h1:=hst.mem it hit
   rw [hlist] at hL
   rw [Jt (by omega)] at h1
   cases h1
  have hdown:∀i o e,ops.toList[i]? =some o->(Array.replicate ops.size false).getD i true=true->e∈o.after.toList->Region.binds .any e=true->(Array.replicate ops.size false).getD e.on true=true:=fun i o e hio hL=>by
   rw [hlist] at hL
   rw [Jt (by omega)] at hio
   cases hio
  have I0:Inv P ops.toList its sp E0 h0 w0 (fun j=>(Array.replicate ops.size false).getD j true=true) (fun _=>0) its 0 [] { s with t:=Z72 sp (WT s.t its)} E a w1:=by
   refine ⟨fun _ h=>h,hpw,fun it _ hb=>by simp at hb,fun it hit _ hn=>absurd hit hn,fun it hit _=>⟨fun hL=>absurd hL (hnL it hit),fun hn=>absurd hit hn⟩,fun it hit _ hn=>absurd hit hn,fun it hit _ hL=>absurd hL (hnL it hit),fun it hit _ hn=>absurd hit hn,
    hs.tmps.size,fun x v hx _=>hs.tmps.get x v (Wy (Z52 hx)).1,hs.defs,hev.trans hdrew,fun it hit hl x hx=> ?_,fun it hit hL=>absurd hL (hnL it hit),fun it hit _ _ hL=>absurd hL (hnL it hit),fun it hit _ _ hn=>absurd hit hn,fun it hit hn=>absurd hit hn,fun it hit hl x hx=> ?_,fun d hd=> ?_⟩
   ·cases hg:ZG (Z72 sp (WT s.t its)) x with
    | none=>rfl
    | some v=>exact absurd hx ((Wy (Z52 hg)).2 it hit hl)
   ·have h1:=(YM _ _).1 hln it hit
    rw [hx] at h1
    simp only [JK,JA] at h1
    rcases h1 with h1|h1
    ·rw [h1] at hl;cases hl
    ·exact J9 h1
   ·subst hd
    unfold ZhY at hspl
    simp only [J1] at hspl
    refine ⟨by rw [hs.tmps.size];exact J9 hspl.1.1,XZ _ _,fun hL=> ?_⟩
    rw [hlist] at hL
    have h1:=J9 hspl.1.2
    rw [Array.length_toList] at hn0
    omega
  have hmask:∀q∈its,((Array.replicate ops.size false).getD q.i true=true)->∀p,q.m.testBit p=true->(Array.replicate ops.size false).getD p true=true:=fun q hq hL=>absurd hL (hnL q hq)
  obtain ⟨r2,D2,p2,s2,k1,k2⟩:=Z4X hst hmask _ [] 0 [] _ h I0
  have:=Zb8 (X:=X) hcx hro hst (n:=n) hT htl hn0 hlt0 hspl2 ops.size (Array.replicate ops.size false) (List.range ops.size) _ _ r2 D2 p2 s2 E a w1 (by simp) (fun j hj=>by
   grind) (by simp) (fun j _ h2=>by
    grind) hdown k2 k1
  exact this
 simp_all
theorem Z77 {qm:Nat} {all:List Oper}:(ZK qm 0 [] all).Pairwise fun a b=>a.i≠b.i:=by
 rw [Ji]
 intro i j hi hj hij
 have h1:=Xo (J8 hi)
 have h2:=Xo (J8 hj)
 omega
theorem Vf {it:It}:∀{l:List It},it∈Vc l↔it∈l/\isSp it.o.op=false
 | []=>by simp [Vc]
 | q::r=>by
  unfold Vc
  split
  ·rename_i h
   rw [Vf,J7]
   constructor
   ·rintro ⟨h1,h2⟩;exact ⟨.inr h1,h2⟩
   ·rintro ⟨rfl|h1,h2⟩
    ·rw [h] at h2;cases h2
    ·exact ⟨h1,h2⟩
  ·rename_i h
   rw [J7,Vf,J7]
   constructor
   ·rintro (rfl|⟨h1,h2⟩)
    ·exact ⟨.inl rfl,h⟩
    ·exact ⟨.inr h1,h2⟩
   ·rintro ⟨rfl|h1,h2⟩
    ·exact .inl rfl
    ·exact .inr ⟨h1,h2⟩
theorem UN:∀{l:List It},(Vc l).Sublist l
 | []=>.slnil
 | q::r=>by
  unfold Vc
  split
  ·exact .cons _ UN
  ·exact .cons_cons _ UN
theorem ZcF:∀l:List It,Wj l++UJ l=l
 | []=>rfl
 | it::r=>by
  have ih:=ZcF r
  unfold Wj UJ
  split
  all_goals grind
theorem ZcG {qm:Nat} {Z:Prop} {k:Nat} (hcx:cx.Ok P) {ro:Option Nat} (hro:cx.inR=none->ro=none) {id:Nat} {ops:Array Oper} (h:ZcB P cx ops.toList (ZK qm 0 [] ops.toList) s X Z):Yl P k ro (.region id ops true) s X\/Z:=
 Z76 hcx hro (List.drop_eq_nil_iff.2 (by rw [XP];omega)) (J2 _) (fun _ h=>h) Z77 (fun _ h=>.inl h) h
theorem ZcH {k:Nat} (hcx:cx.Ok P) {ro:Option Nat} (hro:cx.inR=none->ro=none) {id:Nat} {ops:Array Oper} (h:ZcC P cx ops.toList s X):Yl P k ro (.region id ops true) s X:=by
 unfold ZcC at h
 split at h
 ·unfold Zhc at h
  have happ:=ZcF (ZK 2 0 [] ops.toList)
  have hmem:∀q∈Wj (ZK 2 0 [] ops.toList),q∈ZK 2 0 [] ops.toList:=fun q hq=>by grind
  have hsub:(Wj (ZK 2 0 [] ops.toList)).Sublist (ZK 2 0 [] ops.toList):=by
   have:=List.sublist_append_left (Wj (ZK 2 0 [] ops.toList)) (UJ (ZK 2 0 [] ops.toList))
   rw [happ] at this
   exact this
  have hdrop:(ZK 2 0 [] ops.toList).drop (Wj (ZK 2 0 [] ops.toList)).length=UJ (ZK 2 0 [] ops.toList):=by
   have:=congrArg (fun l=>l.drop (Wj (ZK 2 0 [] ops.toList)).length) happ
   rw [<-this,List.drop_left]
  have hlen:(Wj (ZK 2 0 [] ops.toList)).length<=ops.toList.length:=by
   have:=hsub.length_le
   rw [XP] at this
   exact this
  split at h
  ·rcases Z76 hcx hro hdrop hlen (fun _ h=>hmem _ (Vf.1 h).1) ((Z77.sublist hsub).sublist UN) (fun it h=>by
    rw [<-happ,K3] at h
    rcases h with h|h
    ·cases hs:isSp it.o.op with
     | false=>exact .inl (Vf.2 ⟨h,hs⟩)
     | true=>simp_all
    simp_all) h with h|h
   ·exact h
   simp_all
  simp_all
 grind [ZcG]
end
end Go.Tk
end
section
namespace Go.Tk
open IntKind (i64 u8 u32 u64 wrap)
variable {E E':Env} {Z:Prop} {B B' B₂:Blk} {s₂:St} {mv ro:Option Nat} {X:KE} {G:Zf} {args args₀ cs:List AV} {nx:Nat} {v':AV} {K:AV->Prop}
abbrev Ren:=List (Nat×Nat)
variable {τ:Ren}
def Z4v:Ren->Nat->Option Nat
 | [],_=>none
 | (y,x)::r,z=>match Nat.beq y z with|true=>some x|false=>Z4v r z
def rn (k:Nat) (τ:Ren) (y:Nat):Option Nat:=match Nat.blt y k with|true=>some y|false=>Z4v τ y
def Env.ren (E:Env) (k:Nat) (τ:Ren):Env:=⟨fun y=>match rn k τ y with|some x=>E.blk x|none=>none,E.imm⟩
theorem Env.ren_some {k:Nat} {x y:Nat} (h:rn k τ y=some x):(E.ren k τ).blk y=E.blk x:=by simp [Env.ren,h]
theorem Env.ren_none {k:Nat} {y:Nat} (h:rn k τ y=none):(E.ren k τ).blk y=none:=by simp [Env.ren,h]
theorem Env.ren_views {k:Nat}:E.views.le (E.ren k τ).views:=⟨fun _ _ h=>by simp [Env.views] at h,fun _ _ h=>h⟩
def UO (k:Nat) (τ:Ren) (y x:Nat) (Z:Prop):Prop:=
 match rn k τ y with
 | some x'=>match Nat.beq x' x with
  | true=>Z
  | false=>False
 | none=>False
theorem Xw {k:Nat} {y x:Nat} (h:UO k τ y x Z):rn k τ y=some x/\Z:=by
 grind [UO,J0]
def eqP (k:Nat) (τ:Ren) (q p:ZD) (Z:Prop):Prop:=
 UO k τ q.blk p.blk (Z5 (p.row=q.row) (Z5 (p.sz=q.sz) (Z5 (p.off=q.off) (Z5 (p.inn=q.inn) Z))))
theorem ZcI {k:Nat} {q p:ZD} (h:eqP k τ q p Z):rn k τ q.blk=some p.blk/\p.tot=q.tot/\Z:=by
 obtain ⟨h0,h⟩:=Xw h
 grind [Zg,ZD.tot]
mutual
/-- A value (behind) taken for another (ahead). -/
def eqV (k:Nat) (τ:Ren):AV->AV->Prop->Prop
 | .top,_,Z=>Z
 | .bool b,v,Z=>match v with
  | .bool a=>Z5 (a=b) Z
  | _=>False
 | .int kk b,v,Z=>match v with
  | .int kk' a=>match decide (kk'=kk) with
   | true=>Z5 (a=b) Z
   | false=>False
  | _=>False
 | .str b,v,Z=>match v with
  | .str a=>a=b/\Z
  | _=>False
 | .ptr none,v,Z=>match v with
  | .ptr none=>Z
  | _=>False
 | .ptr (some q),v,Z=>match v with
  | .ptr (some p)=>eqP k τ q p Z
  | _=>False
 | .pview cs inn,v,Z=>match v with
  | .pview cs' inn'=>cs'=cs/\Z5 (inn'=inn) Z
  | _=>False
 | .nslice q esz len lo,v,Z=>match v with
  | .nslice p esz' len' lo'=>eqP k τ q p (Z5 (esz'=esz) (Z5 (len'=len) (Z5 (lo<=lo') Z)))
  | .nilslice=>Z5 (len=0) (Z5 (lo=0) Z)
  | .eslice=>Z5 (len=0) (Z5 (lo=0) Z)
  | _=>False
 | .vints kk xs len,v,Z=>match v with
  | .vints kk' xs' len'=>match decide (kk'=kk) with
   | true=>xs'=xs/\Z5 (len'=len) Z
   | false=>False
  | _=>False
 | .vrows esz n f len,v,Z=>match v with
  | .vrows esz' n' f' len'=>Z5 (esz'=esz) (Z5 (n'=n) (f'=f/\Z5 (len'=len) Z))
  | _=>False
 | .eslice,v,Z=>match v with
  | .eslice=>Z
  | .nilslice=>Z
  | _=>False
 | .fslice,v,Z=>match v with
  | .fslice=>Z
  | _=>False
 | .nilslice,v,Z=>match v with
  | .nilslice=>Z
  | _=>False
 | .map none,v,Z=>match v with
  | .map none=>Z
  | _=>False
 | .map (some y),v,Z=>match v with
  | .map (some x)=>UO k τ y x Z
  | _=>False
 | .func (.func g) fs cs,v,Z=>match v with
  | .func (.func g') fs' cs'=>match Nat.beq g' g with
   | true=>eqL k τ fs fs' (eqL k τ cs cs' Z)
   | false=>False
  | _=>False
 | .func _ _ _,_,_=>False
 | .yield y,v,Z=>match v with
  | .yield x=>UO k τ y x Z
  | _=>False
 | .nilFunc,v,Z=>match v with
  | .nilFunc=>Z
  | _=>False
 | .nilIface,v,Z=>match v with
  | .nilIface=>Z
  | _=>False
 | .iface t u,v,Z=>match v with
  | .iface t' u'=>match Nat.beq t' t with
   | true=>eqV k τ u u' Z
   | false=>False
  | _=>False
 | .agg cs,v,Z=>match v with
  | .agg cs'=>eqC k τ cs cs' Z
  | _=>False
 | .arr _ _ _,_,_=>False
 | .tuple vs,v,Z=>match v with
  | .tuple vs'=>eqL k τ vs vs' Z
  | _=>False
 | .stamp y,v,Z=>match v with
  | .stamp x=>UO k τ y x Z
  | _=>False
def eqC (k:Nat) (τ:Ren):List AV->List AV->Prop->Prop
 | [],l,Z=>match l with
  | []=>Z
  | _::_=>False
 | .arr kk n xs::r,l,Z=>match l with
  | .arr kk' n' xs'::r'=>match decide (kk'=kk)&&Nat.beq n' n with
   | true=>xs'=xs/\eqC k τ r r' Z
   | false=>False
  | _=>False
 | v::r,l,Z=>match l with
  | v'::r'=>match v.isCell&&v'.isCell with
   | true=>eqV k τ v v' (eqC k τ r r' Z)
   | false=>False
  | []=>False
def eqL (k:Nat) (τ:Ren):List AV->List AV->Prop->Prop
 | [],l,Z=>match l with
  | []=>Z
  | _::_=>False
 | v::r,l,Z=>match l with
  | v'::r'=>eqV k τ v v' (eqL k τ r r' Z)
  | []=>False
end
theorem Z78 {v:AV} (h:v.isCell=true) (r:List AV):csz (v::r)=1+csz r:=by
 cases v<;>simp_all [csz,AV.isCell]
set_option maxHeartbeats 1000000 in
mutual
theorem Z07 {k:Nat} {τ:Ren}:∀(v₂ v:AV) (Z:Prop),eqV k τ v₂ v Z->Z/\∀(E:Env) (r:Value),Zd E v r->Zd (E.ren k τ) v₂ r
 | .top,v,Z,h=>⟨by unfold eqV at h;exact h,fun E r _=>.top r⟩
 | .bool b,v,Z,h=>by
  unfold eqV at h
  split at h
  ·replace h:=Zg h;obtain ⟨rfl,h⟩:=h
   exact ⟨h,fun E r hv=>by cases hv;exact .bool _⟩
  simp_all
 | .int kk b,v,Z,h=>by
  unfold eqV at h
  split at h
  ·split at h
   ·rename_i hk
    have hk:=of_decide_eq_true hk
    subst hk
    replace h:=Zg h;obtain ⟨rfl,h⟩:=h
    exact ⟨h,fun E r hv=>by cases hv;exact .int _ _⟩
   simp_all
  simp_all
 | .str b,v,Z,h=>by
  unfold eqV at h
  split at h
  ·obtain ⟨rfl,h⟩:=h
   exact ⟨h,fun E r hv=>by cases hv;exact .str _⟩
  simp_all
 | .ptr none,v,Z,h=>by
  unfold eqV at h
  split at h
  ·exact ⟨h,fun E r hv=>by cases hv;exact .nilptr⟩
  simp_all
 | .ptr (some q),v,Z,h=>by
  unfold eqV at h
  split at h
  ·obtain ⟨h1,h2,h3⟩:=ZcI h
   refine ⟨h3,fun E r hv=> ?_⟩
   cases hv
   rename_i b N hb
   rw [h2]
   exact .ptr q b N (by rw [Env.ren_some h1];exact hb)
  simp_all
 | .pview cs inn,v,Z,h=>by
  unfold eqV at h
  split at h
  ·obtain ⟨rfl,h⟩:=h
   replace h:=Zg h;obtain ⟨rfl,h⟩:=h
   refine ⟨h,fun E r hv=> ?_⟩
   cases hv with
   | pview cs inn a vs hc hi=>exact .pview _ _ a vs (hc.mono Env.ren_views) hi
  simp_all
 | .nslice q esz len lo,v,Z,h=>by
  unfold eqV at h
  split at h
  ·replace h:=ZcI h;obtain ⟨h1,h2,h⟩:=h
   replace h:=Zg h;obtain ⟨rfl,h⟩:=h
   replace h:=Zg h;obtain ⟨rfl,h⟩:=h
   obtain ⟨h4,h⟩:=Zg h
   refine ⟨h,fun E r hv=> ?_⟩
   cases hv with
   | nslice0 p esz len lo a e1 e2=>exact .nslice0 _ _ _ _ a e1 (by omega)
   | nslice p esz len lo b N cap hb e1 e2 e3=>
    rw [h2]
    exact .nslice q _ _ _ b N cap (by rw [Env.ren_some h1];exact hb) e1 (by omega) (by omega)
  ·replace h:=Zg h;obtain ⟨rfl,h⟩:=h
   replace h:=Zg h;obtain ⟨rfl,h⟩:=h
   exact ⟨h,fun E r hv=>by cases hv;exact .nslice0 _ _ _ _ _ rfl rfl⟩
  ·replace h:=Zg h;obtain ⟨rfl,h⟩:=h
   replace h:=Zg h;obtain ⟨rfl,h⟩:=h
   exact ⟨h,fun E r hv=>by cases hv;exact .nslice0 _ _ _ _ _ rfl rfl⟩
  simp_all
 | .vints kk xs len,v,Z,h=>by
  unfold eqV at h
  split at h
  ·split at h
   ·rename_i hk
    have hk:=of_decide_eq_true hk
    subst hk
    obtain ⟨rfl,h⟩:=h
    replace h:=Zg h;obtain ⟨rfl,h⟩:=h
    refine ⟨h,fun E r hv=> ?_⟩
    cases hv with
    | vintsNil k xs len h1 h2=>exact .vintsNil _ _ _ h1 h2
    | vints k xs len a cap h1 h2 hi=>exact .vints _ _ _ a cap h1 h2 hi
   simp_all
  simp_all
 | .vrows esz n f len,v,Z,h=>by
  unfold eqV at h
  split at h
  ·replace h:=Zg h;obtain ⟨rfl,h⟩:=h
   replace h:=Zg h;obtain ⟨rfl,h⟩:=h
   obtain ⟨rfl,h⟩:=h
   replace h:=Zg h;obtain ⟨rfl,h⟩:=h
   refine ⟨h,fun E r hv=> ?_⟩
   cases hv with
   | vrowsNil esz n f len h1 h2=>exact .vrowsNil _ _ _ _ h1 h2
   | vrows esz n f len a cap g h1 h2 hc hl hi=>exact .vrows _ _ _ _ a cap g h1 h2 (fun i hi'=>(hc i hi').mono Env.ren_views) hl hi
  simp_all
 | .eslice,v,Z,h=>by
  unfold eqV at h
  split at h
  ·exact ⟨h,fun E r hv=>by cases hv;exact .eslice _⟩
  ·exact ⟨h,fun E r hv=>by cases hv;exact .eslice _⟩
  simp_all
 | .fslice,v,Z,h=>by
  unfold eqV at h
  split at h
  ·exact ⟨h,fun E r hv=>by cases hv;exact .fslice _ _⟩
  simp_all
 | .nilslice,v,Z,h=>by
  unfold eqV at h
  split at h
  ·exact ⟨h,fun E r hv=>by cases hv;exact .nilslice⟩
  simp_all
 | .map none,v,Z,h=>by
  unfold eqV at h
  split at h
  ·exact ⟨h,fun E r hv=>by cases hv;exact .nilmap⟩
  simp_all
 | .map (some y),v,Z,h=>by
  unfold eqV at h
  split at h
  ·obtain ⟨h1,h⟩:=Xw h
   refine ⟨h,fun E r hv=> ?_⟩
   cases hv
   rename_i b N hb
   exact .map y b N (by rw [Env.ren_some h1];exact hb)
  simp_all
 | .func (.func g) fs cs,v,Z,h=>by
  unfold eqV at h
  split at h
  ·split at h
   ·rename_i hb
    have:=J0 hb
    subst this
    obtain ⟨h,h1⟩:=Ug fs _ _ h
    obtain ⟨h,h2⟩:=Ug cs _ _ h
    refine ⟨h,fun E r hv=> ?_⟩
    cases hv
    rename_i a b ha hb
    exact .func _ _ _ a b (h1 E _ ha) (h2 E _ hb)
   simp_all
  simp_all
 | .func (.method _) _ _,v,Z,h=>by unfold eqV at h;simp_all
 | .func (.methodOf _ _) _ _,v,Z,h=>by unfold eqV at h;simp_all
 | .func (.via _ _ _ _) _ _,v,Z,h=>by unfold eqV at h;simp_all
 | .func (.yield _) _ _,v,Z,h=>by unfold eqV at h;simp_all
 | .yield y,v,Z,h=>by
  unfold eqV at h
  split at h
  ·obtain ⟨h1,h⟩:=Xw h
   refine ⟨h,fun E r hv=> ?_⟩
   cases hv
   rename_i b N hb
   exact .yield y b N (by rw [Env.ren_some h1];exact hb)
  simp_all
 | .stamp y,v,Z,h=>by
  unfold eqV at h
  split at h
  ·obtain ⟨h1,h⟩:=Xw h
   refine ⟨h,fun E r hv=> ?_⟩
   cases hv
   rename_i c hb
   exact .stamp y c (by rw [Env.ren_some h1];exact hb)
  simp_all
 | .nilFunc,v,Z,h=>by
  unfold eqV at h
  split at h
  ·exact ⟨h,fun E r hv=>by cases hv;exact .nilFunc⟩
  simp_all
 | .nilIface,v,Z,h=>by
  unfold eqV at h
  split at h
  ·exact ⟨h,fun E r hv=>by cases hv;exact .nilIface⟩
  simp_all
 | .iface t u,v,Z,h=>by
  unfold eqV at h
  split at h
  ·split at h
   ·rename_i hb
    have:=J0 hb
    subst this
    obtain ⟨h,h1⟩:=Z07 u _ _ h
    refine ⟨h,fun E r hv=> ?_⟩
    cases hv
    rename_i x hx
    exact .iface _ _ _ (h1 E _ hx)
   ·exact h.elim
  ·exact h.elim
 | .agg cs,v,Z,h=>by
  unfold eqV at h
  split at h
  ·obtain ⟨h,_,h1⟩:=Z3D cs _ _ h
   refine ⟨h,fun E r hv=> ?_⟩
   cases hv
   rename_i vs hc
   exact .agg _ _ (h1 E _ hc)
  simp_all
 | .arr _ _ _,v,Z,h=>by unfold eqV at h;simp_all
 | .tuple vs,v,Z,h=>by
  unfold eqV at h
  split at h
  ·obtain ⟨h,h1⟩:=Ug vs _ _ h
   refine ⟨h,fun E r hv=> ?_⟩
   cases hv
   rename_i rs hl
   exact .tuple _ _ (h1 E _ hl)
  simp_all
theorem Z3D {k:Nat} {τ:Ren}:∀(l₂ l:List AV) (Z:Prop),eqC k τ l₂ l Z->Z/\csz l=csz l₂/\∀(E:Env) (r:List Value),Zp E l r->Zp (E.ren k τ) l₂ r
 | [],l,Z,h=>by
  unfold eqC at h
  split at h
  ·exact ⟨h,rfl,fun E r hv=>by cases hv;exact .nil⟩
  simp_all
 | v::r,l,Z,h=>by
  by_cases ha:∃kk n xs,v=.arr kk n xs
  ·obtain ⟨kk,n,xs,rfl⟩:=ha
   unfold eqC at h
   split at h
   ·split at h
    ·rename_i hb
     rw [J1] at hb
     have h1:=of_decide_eq_true hb.1
     have h2:=J0 hb.2
     subst h1 h2
     obtain ⟨rfl,h⟩:=h
     obtain ⟨h,hz,h3⟩:=Z3D r _ _ h
     refine ⟨h,by simp [csz,hz],fun E q hv=> ?_⟩
     obtain ⟨cs',rfl,ht⟩:=Zp.cons_arr hv
     exact .arr _ _ _ _ _ (h3 E _ ht)
    simp_all
   simp_all
  ·have he:eqC k τ (v::r) l Z=(match l with
     | v'::r'=>match v.isCell&&v'.isCell with
      | true=>eqV k τ v v' (eqC k τ r r' Z)
      | false=>False
     | []=>False):=by
    cases v<;>first|(exact absurd ⟨_,_,_,rfl⟩ ha)|(cases l<;>rfl)
   rw [he] at h
   split at h
   ·split at h
    ·rename_i hb
     rw [J1] at hb
     obtain ⟨h,h1⟩:=Z07 v _ _ h
     obtain ⟨h,hz,h3⟩:=Z3D r _ _ h
     refine ⟨h,by rw [Z78 hb.1,Z78 hb.2,hz],fun E q hv=> ?_⟩
     cases hv with
     | one v' c vs cs h0 hc hvr t=>exact .one _ _ _ _ hb.1 hc (h1 E _ hvr) (h3 E _ t)
     | arr k n xs vs cs t=>simp [AV.isCell] at hb
    simp_all
   simp_all
theorem Ug {k:Nat} {τ:Ren}:∀(l₂ l:List AV) (Z:Prop),eqL k τ l₂ l Z->Z/\∀(E:Env) (r:List Value),Zv E l r->Zv (E.ren k τ) l₂ r
 | [],l,Z,h=>by
  unfold eqL at h
  split at h
  ·exact ⟨h,fun E r hv=>by cases hv;exact .nil⟩
  simp_all
 | v::r,l,Z,h=>by
  unfold eqL at h
  split at h
  ·obtain ⟨h,h1⟩:=Z07 v _ _ h
   obtain ⟨h,h2⟩:=Ug r _ _ h
   refine ⟨h,fun E q hv=> ?_⟩
   cases hv
   rename_i c cs hc ht
   exact .cons _ _ _ _ (h1 E _ hc) (h2 E _ ht)
  ·exact h.elim
end
theorem Zv.at {E:Env}:∀{vs:List AV} {rs:List Value} {i:Nat} {v:AV} {r:Value},Zv E vs rs->vs[i]? =some v->rs[i]? =some r->Zd E v r
 | _,_,0,v,r,.cons _ _ _ _ h _,h1,h2=>by
  simp_all
 | _,_,i+1,v,r,.cons _ _ _ _ _ t,h1,h2=>Zv.at t (by simpa using h1) (by simp_all)
 | _,_,_,v,r,.nil,h1,_=>by simp at h1
inductive Z8 (k:Nat) (τ:Ren) (n:Nat) (kf vf kf' vf':Nat->AV):Prop
 | mk (h:∀i,i<n->eqV k τ (kf i) (kf' i) True/\eqV k τ (vf i) (vf' i) True):Z8 k τ n kf vf kf' vf'
inductive Z9 (k:Nat) (τ:Ren) (n:Nat) (f f':Nat->List AV):Prop
 | mk (h:∀i,i<n->eqC k τ (f i) (f' i) True):Z9 k τ n f f'
inductive Z4w (a b:List Nat):Prop
 | mk (h:a=b):Z4w a b
theorem Z4w.refl (a:List Nat):Z4w a a:=⟨rfl⟩
def Z79 (k:Nat) (τ:Ren):Blk->Blk->Prop->Prop
 | .flat cs,B,Z=>match B with
  | .flat cs'=>eqC k τ cs cs' Z
  | _=>False
 | .ints kk xs,B,Z=>match B with
  | .ints kk' xs'=>match decide (kk'=kk) with
   | true=>xs'=xs/\Z
   | false=>False
  | _=>False
 | .rows sz n f,B,Z=>match B with
  | .rows sz' n' f'=>match Nat.beq sz' sz with
   | true=>Z5 (n'=n) (Z9 k τ n f f'/\Z)
   | false=>False
  | _=>False
 | .map es,B,Z=>match B with
  | .map es'=>eqL k τ (es.map (·.1)) (es'.map (·.1)) (eqL k τ (es.map (·.2)) (es'.map (·.2)) Z)
  | _=>False
 | .fmap n kf vf,B,Z=>match B with
  | .fmap n' kf' vf'=>Z5 (n'=n) (Z8 k τ n kf vf kf' vf'/\Z)
  | .map es'=>Z5 (es'.length=n) (Z8 k τ n kf vf (fun i=>(es'.getD i (.top,.top)).1) (fun i=>(es'.getD i (.top,.top)).2)/\Z)
  | _=>False
 | .pmap es,B,Z=>match B with
  | .pmap es'=>eqL k τ (es.map (·.1)) (es'.map (·.1)) (eqL k τ (es.map (·.2)) (es'.map (·.2)) Z)
  | _=>False
 | .smap _ _ _,_,_=>False
 | .sfmap _ _ _ _ _,_,_=>False
 | .git m y js,B,Z=>match B with
  | .git m' y' js'=>UO k τ m m' (UO k τ y y' (Z4w js' js/\Z))
  | _=>False
 | .froz _ _,_,_=>False
 | .loop l,B,Z=>match B with
  | .loop l'=>(l'.state=l.state/\l'.pending=l.pending/\l'.fn=l.fn/\l'.n=l.n/\l'.params=l.params/\l'.assign=l.assign/\l'.body=l.body)/\UO k τ l.defers l'.defers (eqT k τ l'.tmps Z l.tmps)
  | _=>False
 | .defd,B,Z=>match B with
  | .defd=>Z
  | _=>False
where eqT (k:Nat) (τ:Ren) (t:ZO) (Z:Prop):ZO->Prop
 | []=>Z
 | (x,v₂)::r=>match ZG t x with
  | some v=>eqV k τ v₂ v (eqT k τ t Z r)
  | none=>match v₂ with
   | .top=>eqT k τ t Z r
   | _=>False
theorem Z3E {k:Nat} {τ:Ren} {t:ZO} {Z:Prop}:∀(t₂:ZO),Z79.eqT k τ t Z t₂->Z/\∀(E:Env) (n:Nat) (tm:Array Value),Vr E n t tm->Vr (E.ren k τ) n t₂ tm
 | [],h=>⟨h,fun E n tm ht=>⟨ht.size,fun x v hx=>by simp [ZG] at hx⟩⟩
 | (y,v₂)::r,h=>by
  unfold Z79.eqT at h
  split at h
  ·rename_i v hv
   obtain ⟨h,h1⟩:=Z07 _ _ _ h
   obtain ⟨h,h2⟩:=Z3E r h
   refine ⟨h,fun E n tm ht=>⟨ht.size,fun x u hx=> ?_⟩⟩
   simp only [ZG] at hx
   split at hx
   ·rename_i hb
    have:=J0 hb
    subst this
    cases hx
    exact h1 E _ (ht.get _ _ hv)
   ·exact (h2 E n tm ht).get x u hx
  ·split at h
   ·obtain ⟨h,h2⟩:=Z3E r h
    refine ⟨h,fun E n tm ht=>⟨ht.size,fun x u hx=> ?_⟩⟩
    simp only [ZG] at hx
    split at hx
    ·cases hx;exact .top _
    ·exact (h2 E n tm ht).get x u hx
   ·exact h.elim
theorem Z9P {k:Nat} (h:Z79 k τ B₂ B Z):
  Z/\∀(E:Env) (w:World) (x y:Nat),rn k τ y=some x->ZY E w x B->ZY (E.ren k τ) w y B₂:=by
 unfold Z79 at h
 split at h
 ·split at h
  ·obtain ⟨h,hz,h1⟩:=Z3D _ _ _ h
   refine ⟨h,fun E w x y hy hB=> ?_⟩
   cases hB with
   | flat0 cs h0 hn=>exact .flat0 _ (by omega) (by rw [Env.ren_some hy];exact hn)
   | flat cs b cells elem fr vs hb hw hf hc hv=>exact .flat _ b cells elem fr vs (by rw [Env.ren_some hy];exact hb) hw hf (h1 E _ hc) hv
  simp_all
 ·split at h
  ·split at h
   ·rename_i hk
    have hk:=of_decide_eq_true hk
    subst hk
    obtain ⟨rfl,h⟩:=h
    refine ⟨h,fun E w x y hy hB=> ?_⟩
    cases hB with
    | ints0 kk xs h0 hn=>exact .ints0 _ _ h0 (by rw [Env.ren_some hy];exact hn)
    | ints kk xs b cells elem fr hb hw hf hv=>exact .ints _ _ b cells elem fr (by rw [Env.ren_some hy];exact hb) hw hf hv
   simp_all
  simp_all
 ·split at h
  ·split at h
   ·rename_i hk
    have hk:=J0 hk
    subst hk
    replace h:=Zg h
    obtain ⟨rfl,⟨h1⟩,h⟩:=h
    refine ⟨h,fun E w x y hy hB=> ?_⟩
    cases hB with
    | rows0 sz n f h0 hn=>exact .rows0 _ _ _ h0 (by rw [Env.ren_some hy];exact hn)
    | rows sz n f b cells elem fr g hb hw hf hc hl hv=>exact .rows _ _ _ b cells elem fr g (by rw [Env.ren_some hy];exact hb) hw hf (fun i hi=>(Z3D _ _ _ (h1 i hi)).2.2 E _ (hc i hi)) hl hv
   simp_all
  simp_all
 ·split at h
  ·obtain ⟨h,h1⟩:=Ug _ _ _ h
   obtain ⟨h,h2⟩:=Ug _ _ _ h
   refine ⟨h,fun E w x y hy hB=> ?_⟩
   cases hB with
   | map es b ents clock hb hw hk hv hbn=>exact .map _ b ents clock (by rw [Env.ren_some hy];exact hb) hw (h1 E _ hk) (h2 E _ hv) hbn
  simp_all
 ·split at h
  ·replace h:=Zg h
   obtain ⟨rfl,⟨h1⟩,h⟩:=h
   refine ⟨h,fun E w x y hy hB=> ?_⟩
   cases hB with
   | fmap n kf vf b ents clock hb hw hl hk hv hbn=>
    refine .fmap _ _ _ b ents clock (by rw [Env.ren_some hy];exact hb) hw hl (fun i e he=> ?_) (fun i e he=> ?_) hbn
    all_goals grind [Z07]
  ·replace h:=Zg h
   obtain ⟨rfl,⟨h1⟩,h⟩:=h
   refine ⟨h,fun E w x y hy hB=> ?_⟩
   cases hB with
   | map es b ents clock hb hw hk hv hbn=>
    have hl:=hk.length
    simp only [List.length_map] at hl
    refine .fmap _ _ _ b ents clock (by rw [Env.ren_some hy];exact hb) hw hl (fun i e he=> ?_) (fun i e he=> ?_) hbn
    ·have hi:=(Jb.1 he).1
     refine (Z07 _ _ _ (h1 i (by omega)).1).2 E _ ?_
     refine Zv.at hk (i:=i) ?_ ?_
     all_goals simp_all
    ·have hi:=(Jb.1 he).1
     refine (Z07 _ _ _ (h1 i (by omega)).2).2 E _ ?_
     refine Zv.at hv (i:=i) ?_ ?_
     all_goals simp_all
  simp_all
 ·split at h
  ·obtain ⟨h,h1⟩:=Ug _ _ _ h
   obtain ⟨h,h2⟩:=Ug _ _ _ h
   refine ⟨h,fun E w x y hy hB=> ?_⟩
   cases hB with
   | pmap es b kk ents ents' clock hb hw hp hn hi hk hv=>exact .pmap _ b kk ents ents' clock (by rw [Env.ren_some hy];exact hb) hw hp hn hi (h1 E _ hk) (h2 E _ hv)
  simp_all
 ·simp_all
 ·simp_all
 ·split at h
  ·obtain ⟨hd',h⟩:=Xw h
   obtain ⟨hd2,hz⟩:=Xw h
   obtain ⟨⟨e⟩,hz⟩:=hz
   subst e
   refine ⟨hz,fun E w x y hy hB=> ?_⟩
   cases hB with
   | git m y js b mb clock bs seen hb hm hy' hs hj hw=>exact .git _ _ _ b mb clock bs seen (by rw [Env.ren_some hy];exact hb) (by rw [Env.ren_some hd'];exact hm) (by rw [Env.ren_some hd2];exact hy') hs hj hw
  simp_all
 ·simp_all
 ·split at h
  ·obtain ⟨⟨e1,e2,e3,e4,e5,e6,e7⟩,h⟩:=h
   obtain ⟨hd',h⟩:=Xw h
   obtain ⟨h,h1⟩:=Z3E _ h
   refine ⟨h,fun E w x y hy hB=> ?_⟩
   cases hB with
   | loop l0 b d N fnr tm hb hd hw ht=>
    refine .loop _ b d N fnr tm (by rw [Env.ren_some hy];exact hb) (by rw [Env.ren_some hd'];exact hd) ?_ (h1 E _ _ (e4▸ht))
    rw [e1,e2,e5,e6,e7] at hw
    exact hw
  simp_all
 ·split at h
  ·refine ⟨h,fun E w x y hy hB=> ?_⟩
   cases hB with
   | defd b hb hw=>exact .defd b (by rw [Env.ren_some hy];exact hb) hw
  simp_all
def eqB (k:Nat) (τ:Ren) (B₂ B:Blk) (Z:Prop):Prop:=match B₂ with
 | .froz C y=>match B with
  | .froz C' y'=>UO k τ y y' (Z79 k τ C C' Z)
  | _=>False
 | B₂=>Z79 k τ B₂ B Z
theorem ZhZ {k:Nat} (h:eqB k τ B₂ B Z):
  Z/\∀(E:Env) (w:World) (x y:Nat),rn k τ y=some x->ZY E w x B->ZY (E.ren k τ) w y B₂:=by
 unfold eqB at h
 split at h
 ·split at h
  ·obtain ⟨hd,h⟩:=Xw h
   obtain ⟨h,h1⟩:=Z9P h
   refine ⟨h,fun E w x y hy hB=> ?_⟩
   cases hB with
   | froz B y b ents clock hB hb hw hbn hy'=>exact .froz _ _ b ents clock (h1 E w _ _ hy hB) (by rw [Env.ren_some hy];exact hb) hw hbn (by rw [Env.ren_some hd];exact hy')
  ·exact h.elim
 ·exact Z9P h
def ZcJ:Blk->Prop->Prop
 | .flat cs,Z=>Z5 (csz cs=0) Z
 | .ints _ xs,Z=>xs=[]/\Z
 | .rows _ n _,Z=>Z5 (n=0) Z
 | _,_=>False
theorem ZcK (h:ZcJ B Z):Z/\∀(E:Env) (w:World) (y:Nat),E.blk y=none->ZY E w y B:=by
 unfold ZcJ at h
 split at h
 ·obtain ⟨h1,h⟩:=Zg h
  exact ⟨h,fun E w y hy=>.flat0 _ h1 hy⟩
 ·exact ⟨h.2,fun E w y hy=>.ints0 _ _ h.1 hy⟩
 ·obtain ⟨h1,h⟩:=Zg h
  exact ⟨h,fun E w y hy=>.rows0 _ _ _ h1 hy⟩
 simp_all
def eqH (k:Nat) (τ:Ren) (h:Z7) (Z:Prop):List (Nat×Blk)->Prop
 | []=>Z
 | (y,B₂)::r=>match rn k τ y with
  | some x=>match Zr h.bs x with
   | some B=>eqB k τ B₂ B (eqH k τ h Z r)
   | none=>False
  | none=>ZcJ B₂ (eqH k τ h Z r)
theorem Z67 {k:Nat} {τ:Ren} {h:Z7} {Z:Prop}:∀(bs:List (Nat×Blk)),eqH k τ h Z bs->Z/\∀y B₂,Zr bs y=some B₂->
  (rn k τ y=none/\∀(E:Env) (w:World),E.blk y=none->ZY E w y B₂)\/∃x B,rn k τ y=some x/\h.get x=some B/\∀(E:Env) (w:World),ZY E w x B->ZY (E.ren k τ) w y B₂
 | [],hl=>⟨hl,fun y B₂ hy=>by simp [Zr] at hy⟩
 | (z,B)::r,hl=>by
  unfold eqH at hl
  split at hl
  ·rename_i x hx
   split at hl
   ·rename_i B' hB'
    obtain ⟨hl,h1⟩:=ZhZ hl
    obtain ⟨hl,h2⟩:=Z67 r hl
    refine ⟨hl,fun y B₂ hy=> ?_⟩
    simp only [Zr] at hy
    split at hy
    ·rename_i hb
     have:=J0 hb
     subst this
     cases hy
     exact .inr ⟨x,B',hx,hB',fun E w hB=>h1 E w x _ hx hB⟩
    ·exact h2 y B₂ hy
   ·exact hl.elim
  ·rename_i hx
   obtain ⟨hl,h1⟩:=ZcK hl
   obtain ⟨hl,h2⟩:=Z67 r hl
   refine ⟨hl,fun y B₂ hy=> ?_⟩
   simp only [Zr] at hy
   split at hy
   ·rename_i hb
    have:=J0 hb
    subst this
    cases hy
    exact .inl ⟨hx,fun E w he=>h1 E w _ he⟩
   ·exact h2 y B₂ hy
def Z7a (k:Nat) (τ:Ren) (x:Nat):List (Nat×Blk)->Bool
 | []=>true
 | (y,_)::r=>match rn k τ y with
  | some x'=> !(Nat.beq x' x)&&Z7a k τ x r
  | none=>Z7a k τ x r
def Z7b (k:Nat) (τ:Ren):List (Nat×Blk)->Bool
 | []=>true
 | (y,_)::r=>(match rn k τ y with|some x=>Z7a k τ x r|none=>true)&&Z7b k τ r
def ltB (m:Nat):List (Nat×Blk)->Bool
 | []=>true
 | (y,_)::r=>Nat.blt y m&&ltB m r
def ltR (m:Nat):Ren->Bool
 | []=>true
 | (y,_)::r=>Nat.blt y m&&ltR m r
theorem WW {bs:List (Nat×Blk)} {y:Nat} (h:Zr bs y=some B):∃B',(y,B')∈bs:=by
 induction bs with
 | nil=>simp [Zr] at h
 | cons p r ih=>
  grind [Zr,J0]
theorem Z0K {k:Nat} {τ:Ren} {x:Nat}:∀{bs:List (Nat×Blk)},Z7a k τ x bs=true->∀y B,(y,B)∈bs->rn k τ y≠some x
 | (z,C)::r,h,y,B,hm=>by
  unfold Z7a at h
  rcases J7.1 hm with e|hm
  ·split at h
   ·grind [Jj]
   simp_all
  ·split at h
   ·rw [J1] at h
    exact Z0K h.2 y B hm
   ·exact Z0K h y B hm
theorem Z3F {k:Nat} {τ:Ren}:∀{bs:List (Nat×Blk)},Z7b k τ bs=true->∀y z B C x,(y,B)∈bs->(z,C)∈bs->rn k τ y=some x->rn k τ z=some x->y=z
 | (u,D)::r,h,y,z,B,C,x,hy,hz,ey,ez=>by
  unfold Z7b at h
  rw [J1] at h
  rcases J7.1 hy with e1|hy'<;>rcases J7.1 hz with e2|hz'
  ·cases e1;cases e2;rfl
  ·cases e1
   rw [ey] at h
   exact absurd ez (Z0K h.1 z C hz')
  ·cases e2
   rw [ez] at h
   exact absurd ey (Z0K h.1 y B hy')
  ·exact Z3F h.2 y z B C x hy' hz' ey ez
theorem Z8M {m:Nat}:∀{bs:List (Nat×Blk)},ltB m bs=true->∀y B,(y,B)∈bs->y<m
 | (z,C)::r,h,y,B,hm=>by
  unfold ltB at h
  rw [J1] at h
  rcases J7.1 hm with e|hm
  ·simp_all
  ·exact Z8M h.2 y B hm
theorem Z8N {m:Nat}:∀{τ:Ren},ltR m τ=true->∀y x,Z4v τ y=some x->y<m
 | [],_,y,x,hy=>by simp [Z4v] at hy
 | (z,u)::r,h,y,x,hy=>by
  unfold ltR at h
  rw [J1] at h
  simp only [Z4v] at hy
  split at hy
  ·simp_all
  ·exact Z8N h.2 y x hy
def eqD (k:Nat) (τ:Ren) (Z:Prop):List X4->List X4->Prop
 | [],l=>match l with
  | []=>Z
  | _::_=>False
 | .call f args::r,l=>match l with
  | .call f' args'::r'=>match Nat.beq f' f with
   | true=>eqL k τ args args' (eqD k τ Z r r')
   | false=>False
  | _=>False
 | .mark y::r,l=>match l with
  | .mark x::r'=>UO k τ y x (eqD k τ Z r r')
  | _=>False
theorem Z68 {k:Nat} {τ:Ren} {Z:Prop}:∀(l₂ l:List X4),eqD k τ Z l₂ l->Z/\∀(E:Env) (rd:List Deferred),WR E l rd->WR (E.ren k τ) l₂ rd
 | [],l,h=>by
  unfold eqD at h
  split at h
  ·exact ⟨h,fun E rd hd=>by cases hd;exact .nil⟩
  simp_all
 | .call f args::r,l,h=>by
  unfold eqD at h
  split at h
  ·split at h
   ·rename_i hb
    have:=J0 hb
    subst this
    obtain ⟨h,h1⟩:=Ug _ _ _ h
    obtain ⟨h,h2⟩:=Z68 r _ h
    refine ⟨h,fun E rd hd=> ?_⟩
    cases hd with
    | call f args fn cap rs ds rd hf hl t=>exact .call _ _ fn cap rs _ _ hf (h1 E _ hl) (h2 E _ t)
   ·exact h.elim
  ·exact h.elim
 | .mark y::r,l,h=>by
  unfold eqD at h
  split at h
  ·obtain ⟨h1,h⟩:=Xw h
   obtain ⟨h,h2⟩:=Z68 r _ h
   refine ⟨h,fun E rd hd=> ?_⟩
   cases hd with
   | mark x b N ds rd hb t=>exact .mark _ b N _ _ (by rw [Env.ren_some h1];exact hb) (h2 E _ t)
  ·exact h.elim
def V2 (k:Nat) (s s₂:St):Prop:=
 ∀(E0:Env) (h0:Z7) (w0:World) (E:Env) (a:Act) (w:World),(∀x,k<=x->E0.blk x=none)->V1 E s a w->Evo E0 h0 w0 E s.h w->∃E₂,V1 E₂ s₂ a w/\Evo E0 h0 w0 E₂ s₂.h w
def UP (k:Nat) (τ:Ren) (s₂ s:St) (Z:Prop):Prop:=
 match Nat.ble k s₂.h.next&&ltB s₂.h.next s₂.h.bs&&ltR s₂.h.next τ&&Z7b k τ s₂.h.bs&&Nat.beq s.n s₂.n with
 | true=>Z79.eqT k τ s.t (eqH k τ s.h (eqD k τ Z s₂.d s.d) s₂.h.bs) s₂.t
 | false=>False
theorem Xx {k:Nat} {s:St} (hl:UP k τ s₂ s Z):Z/\V2 k s s₂:=by
 unfold UP at hl
 split at hl
 ·rename_i hb
  simp only [J1] at hb
  obtain ⟨⟨⟨⟨b1,b2⟩,b3⟩,b4⟩,b5⟩:=hb
  have b1:k<=s₂.h.next:=J9 b1
  have b5:s.n=s₂.n:=J0 b5
  obtain ⟨hl,hT⟩:=Z3E _ hl
  obtain ⟨hl,hH⟩:=Z67 _ hl
  obtain ⟨hl,hD⟩:=Z68 _ _ hl
  refine ⟨hl,fun E0 h0 w0 E a w hk hs hev=> ?_⟩
  have he:=hs.emb
  have hfr:∀y,s₂.h.next<=y->(E.ren k τ).blk y=none:=fun y hy=>by
   refine Env.ren_none ?_
   unfold rn
   have:Nat.blt y k=false:=by
    cases hq:Nat.blt y k with
    | false=>rfl
    | true=>have:y<k:=J9 hq;omega
   rw [this]
   cases hg:Z4v τ y with
   | none=>rfl
   | some x=>have:=Z8N b3 y x hg;omega
  have hgo:∀y B b N,s₂.h.get y=some B->(E.ren k τ).blk y=some (b,N)->∃x C,rn k τ y=some x/\s.h.get x=some C/\E.blk x=some (b,N):=fun y B b N hy hb=>by
   rcases hH y B hy with ⟨hn,_⟩|⟨x,C,hx,hC,_⟩
   all_goals simp_all [Env.ren_none,Env.ren_some]
  have hemb:Emb (E.ren k τ) s₂.h w:=by
   refine ⟨hfr, ?_, ?_, ?_, ?_, ?_⟩
   ·intro y B hy
    obtain ⟨B',hm⟩:=WW hy
    exact Z8M b2 y B' hm
   ·intro y B hy
    rcases hH y B hy with ⟨hn,h1⟩|⟨x,C,hx,hC,h1⟩
    ·exact h1 _ w (Env.ren_none hn)
    ·exact h1 E w (he.own x C hC)
   ·intro y z B C b N N' hy hz hby hbz
    obtain ⟨x,D,hx,hD',hbx⟩:=hgo y B b N hy hby
    obtain ⟨x',D'',hx',hD'',hbx'⟩:=hgo z C b N' hz hbz
    have:=he.disj x x' D D'' b N N' hD' hD'' hbx hbx'
    subst this
    obtain ⟨B',hm⟩:=WW hy
    obtain ⟨C',hm'⟩:=WW hz
    exact Z3F b4 y z B' C' x hm hm' hx hx'
   ·exact he.imm
   ·intro ad c y B N hi hy hb
    obtain ⟨x,D,hx,hD',hbx⟩:=hgo y B _ N hy hb
    exact he.sep ad c x D N hi hD' hbx
  refine ⟨E.ren k τ,⟨hemb,b5▸hT E _ _ hs.tmps,hD E _ hs.defs⟩,⟨fun x r hx=> ?_,hev.le.imm⟩,hemb,hev.size,hev.os,hev.tape,hev.output,hev.keep,fun b ho=> ?_,hev.imm⟩
  ·have hlt:x<k:=by
    grind
   have hrx:rn k τ x=some x:=by
    unfold rn
    have:Nat.blt x k=true:=JV hlt
    rw [this]
   rw [Env.ren_some hrx]
   exact hev.le.blk x r hx
  ·obtain ⟨y,B,N,hy,hb⟩:=ho
   obtain ⟨x,D,hx,hD',hbx⟩:=hgo y B b N hy hb
   exact hev.own b ⟨x,D,N,hD',hbx⟩
 simp_all
theorem Yl.weak {P:Program} {k:Nat} {c:Code} {s:St} (h:Yl P k ro c s₂ X) (hw:V2 k s s₂):Yl P k ro c s X:=by
 intro E0 h0 w0 E a w n hk hs hev
 obtain ⟨E₂,hs₂,hev₂⟩:=hw E0 h0 w0 E a w hk hs hev
 exact h E0 h0 w0 E₂ a w n hk hs₂ hev₂
def Z9Q {ι:Type} (k:Nat) (m:ι->Nat) (S:ι->St) (i:ι) (X:KE):KE:=fun e s=>match e with
 | .normal=>∃j,m j<m i/\V2 k s (S j)
 | .panic v=>X (.panic v) s
 | .exit id=>∃s₂,V2 k s s₂/\X (.exit id) s₂
 | .goto l=>∃s₂,V2 k s s₂/\X (.goto l) s₂
 | .ret=>∃s₂,V2 k s s₂/\X .ret s₂
theorem Yl.mono {P:Program} {k:Nat} {c:Code} {s:St} {Y:KE} (h:Yl P k ro c s X) (hxy:∀e s,X e s->Y e s):Yl P k ro c s Y:=
 fun E0 h0 w0 E a w n hk hs hev=>wpIn_mono (h E0 h0 w0 E a w n hk hs hev) fun _ _ _ hp=>hp.mono hxy
theorem Zb9 {P:Program} {k:Nat} {c:Code} {ι:Type} (m:ι->Nat) (S:ι->St) (X:KE)
  (h:∀i,Yl P k ro c (S i) (Z9Q k m S i X)):∀i,Yl P k ro (.loop c) (S i) X:=by
 have key:∀N i,m i<N->∀(E0:Env) (h0:Z7) (w0:World) (E:Env) (a:Act) (w:World) (n:Nat),(∀x,k<=x->E0.blk x=none)->V1 E (S i) a w->Evo E0 h0 w0 E (S i).h w->
   Code.roundsIn (Fr ro) n P c (VF E0 h0 w0 X) N a w:=by
  intro N
  induction N with
  | zero=>omega
  | succ N ih=>
   intro i hi E0 h0 w0 E a w n hk hs hev
   refine wpIn_mono (h i E0 h0 w0 E a w n hk hs hev) ?_
   rintro e a' w' ⟨E',x,s',hx,hev',hs',he⟩
   cases he with
   | normal=>
    obtain ⟨j,hj,hw⟩:=hx
    obtain ⟨E₂,hs₂,hev₂⟩:=hw E0 h0 w0 E' a' w' hk hs' hev'
    exact ih j (by omega) E0 h0 w0 E₂ a' w' n hk hs₂ hev₂
   | exit id=>
    obtain ⟨s₂,hw,hx⟩:=hx
    obtain ⟨E₂,hs₂,hev₂⟩:=hw E0 h0 w0 E' a' w' hk hs' hev'
    exact ⟨E₂,_,s₂,hx,hev₂,hs₂,.exit id⟩
   | goto l=>
    obtain ⟨s₂,hw,hx⟩:=hx
    obtain ⟨E₂,hs₂,hev₂⟩:=hw E0 h0 w0 E' a' w' hk hs' hev'
    exact ⟨E₂,_,s₂,hx,hev₂,hs₂,.goto l⟩
   | ret=>
    obtain ⟨s₂,hw,hx⟩:=hx
    obtain ⟨E₂,hs₂,hev₂⟩:=hw E0 h0 w0 E' a' w' hk hs' hev'
    exact ⟨E₂,_,s₂,hx,hev₂,hs₂,.ret⟩
   | panic v r hv=>exact ⟨E',_,s',hx,hev',hs',.panic v r hv⟩
 intro i E0 h0 w0 E a w n hk hs hev
 exact wpIn_loop_rounds (m i+1) (key (m i+1) i (K9 _) E0 h0 w0 E a w n hk hs hev)
theorem UQ:∀(body:Code) (id:Nat) (c:Code),(id,c)∈Zw body->∀b,b∈Zw c->b∈Zw body:=by
 intro body
 induction body with
 | seq x y ihx ihy=>
  grind [Zw]
 | cond o x y ihx ihy=>
  grind [Zw]
 | block i x ih=>
  grind [Zw]
 | loop x ih=>grind [Zw]
 | scope x ih=>grind [Zw]
 | _=>intro id c h;simp [Zw] at h
def Qn (id:Nat):List (Nat×Code)->List Code
 | []=>[]
 | (i,c)::r=>match Nat.beq i id with|true=>c::Qn id r|false=>Qn id r
theorem UR {id:Nat} {c:Code}:∀{l:List (Nat×Code)},(id,c)∈l->c∈Qn id l
 | (i,d)::r,h=>by
  unfold Qn
  rcases J7.1 h with e|h
  ·cases e;simp [Jj]
  ·split
   ·exact Jh _ (UR h)
   ·exact UR h
def Z3G (P:Program) (f:FuncId):Code:=match P.funcs[f]? with|some fn=>(match fn.body with|some b=>b|none=>.skip)|none=>.skip
def Z2v (P:Program) (f:FuncId) (id:Nat):Code:=match Qn id (Zw (Z3G P f)) with|c::_=>c|[]=>.skip
def ZcL:Code->Code
 | .loop c=>c
 | _=>.skip
def Xy (P:Program) (f:FuncId) (id:Nat):Bool:=match P.funcs[f]? with
 | some fn=>match fn.body with
  | some b=>match Qn id (Zw b) with|[.loop _]=>true|_=>false
  | none=>false
 | none=>false
theorem Z23 {P:Program} {f:FuncId} {id:Nat} (h:Xy P f id=true) {fn:Func} {body c:Code} (hf:P.funcs[f]? =some fn) (hb:fn.body=some body) (hm:(id,c)∈Zw body):c=.loop (ZcL (Z2v P f id)):=by
 have hc:=UR hm
 simp only [Xy,hf,hb] at h
 split at h
 ·rename_i d hd
  have hbo:Z3G P f=body:=by simp [Z3G,hf,hb]
  have hbl:Z2v P f id=.loop d:=by unfold Z2v;rw [hbo,hd]
  rw [hd] at hc
  rw [JW] at hc
  rw [hbl];exact hc
 ·cases h
def Zf.withL (G:Zf) (f:FuncId) (id:Nat) (S:Nat->St->KE->Prop):Zf:=
 { G with lsumm:=fun f' id'=>match Nat.beq f' f&&Nat.beq id' id with|true=>some S|false=>G.lsumm f' id'}
def Zf.withF (G:Zf) (f:FuncId) (S:ZS):Zf:=
 { G with fsumm:=fun f'=>match Nat.beq f' f with|true=>some S|false=>G.fsumm f'}
theorem Zf.withF_ok (hG:G.Ok) {f:FuncId} {S:ZS} (h:∀args hp K,S args hp K->Zi G.P f args hp K):(G.withF f S).Ok where
 draw:=hG.draw
 psumm:=hG.psumm
 lsumm:=hG.lsumm
 fsumm:=fun f' S' args hp K hS hs=>by
  simp only [Zf.withF] at hS
  split at hS
  ·rename_i hb
   have:=J0 hb
   subst this
   cases hS
   exact h args hp K hs
  ·exact hG.fsumm f' S' args hp K hS hs
def Zf.withP (G:Zf) (f:FuncId) (S:Yk):Zf:=
 { G with psumm:=fun f'=>match Nat.beq f' f with|true=>some S|false=>G.psumm f'}
theorem Zf.withP_ok (hG:G.Ok) {f:FuncId} {S:Yk} (h:∀args hp K,S args hp K->Zi G.P f args hp fun o h'=>∃v,o=.ret v/\h'=hp/\K v):(G.withP f S).Ok where
 draw:=hG.draw
 lsumm:=hG.lsumm
 fsumm:=hG.fsumm
 psumm:=fun f' S' args hp K hS hs=>by
  simp only [Zf.withP] at hS
  split at hS
  ·rename_i hb
   have:=J0 hb
   subst this
   cases hS
   exact h args hp K hs
  ·exact hG.psumm f' S' args hp K hS hs
@[irreducible] def ZF (G:Zf) (n:Nat) (f:FuncId) (id:Nat) (k:Nat) (s:St) (X:KE):Prop:=evC G (Z4u G n f none) k (ZcL (Z2v G.P f id)) s X
theorem Zf.withL_ok (hG:G.Ok) {f:FuncId} {id:Nat} {S:Nat->St->KE->Prop} (h1:Xy G.P f id=true)
  (h:∀k s X,S k s X->∃ι:Type,∃m:ι->Nat,∃I:ι->St,∃i n,V2 k s (I i)/\∀i,∃Y,ZF G n f id k (I i) Y/\∀e s,Y e s->Z9Q k m I i X e s):(G.withL f id S).Ok where
 draw:=hG.draw
 psumm:=hG.psumm
 fsumm:=hG.fsumm
 lsumm:=fun f' id' S' fn c body hS hf hb hm k s X hs=>by
  simp only [Zf.withL] at hS
  split at hS
  ·rename_i hq
   rw [J1] at hq
   have e1:=J0 hq.1
   have e2:=J0 hq.2
   subst e1 e2
   cases hS
   have hc:=Z23 h1 hf hb hm
   obtain ⟨ι,m,I,i,n,hw,hr⟩:=h k s X hs
   subst hc
   refine Yl.weak (Zb9 m I X (fun i=> ?_) i) hw
   have hk:=Qi hG n f' none
   obtain ⟨Y,hY,hYX⟩:=hr i
   unfold ZF at hY
   refine Yl.mono ?_ hYX
   refine Z1i (k:=k) (ro:=none) hG hk.1 (fun _=>rfl) (fun _=>rfl) (fun _=>⟨fn,body,by rw [hk.2.1];exact hf,hb,fun b hbm=>UQ body id' _ hm b (by simpa [Zw] using hbm)⟩) hY
  ·exact hG.lsumm f' id' S' fn c body hS hf hb hm k s X hs
def Z69:Code->List (Code×Code)
 | .seq a b=>Z69 a++Z69 b
 | .cond _ x y=>Z69 x++Z69 y
 | .block _ c=>Z69 c
 | .loop c=>Z69 c
 | .scope c=>Z69 c
 | .rangeFunc _ _ a b=>[(a,b)]
 | _=>[]
def rfA (P:Program) (f i:Nat):Code:=match (Z69 (Z3G P f))[i]? with|some (a,_)=>a|none=>.skip
def rfB (P:Program) (f i:Nat):Code:=match (Z69 (Z3G P f))[i]? with|some (_,b)=>b|none=>.skip
theorem nd {p x:Prop} [Decidable p] (hp:p) (hx:x):Z6 (decide p) x False:=by rw [decide_eq_true hp];exact hx
theorem ifB {b:Bool} {x y:Prop} (h1:b=true->x) (h2:b=false->y):Z6 b x y:=by
 cases b with
 | true=>exact h1 rfl
 | false=>exact h2 rfl
theorem ifD {p x y:Prop} [Decidable p] (h1:p->x) (h2:¬p->y):Z6 (decide p) x y:=ifB (fun h=>h1 (of_decide_eq_true h)) (fun h=>h2 (of_decide_eq_false h))
def Env.bor (E:Env) (mv:Option Nat) (w:World) (t:Bool):Env:=
 ⟨fun y=>match t,y,mv with|true,0,some x=>E.blk x|_,_,_=>none,fun a c=>w.cell? a=some c/\∀x N,mv=some x->E.blk x=some (a.block,N)->False⟩
def AV.plain:AV->Bool
 | .top|.bool _|.int _ _|.str _|.ptr none|.eslice|.fslice|.nilslice|.map none|.nilFunc|.nilIface|.arr _ _ _=>true
 | _=>false
def YD:List AV->Bool
 | []=>true
 | v::r=>v.plain&&YD r
theorem Zd.plain {v:AV} {r:Value} (h:Zd E v r) (hp:v.plain=true):Zd E' v r:=by
 cases h with
 | top=>exact .top _
 | bool b=>exact .bool b
 | int k n=>exact .int k n
 | str s=>exact .str s
 | nilptr=>exact .nilptr
 | eslice a=>exact .eslice a
 | fslice a cap=>exact .fslice a cap
 | nilslice=>exact .nilslice
 | nilmap=>exact .nilmap
 | nilFunc=>exact .nilFunc
 | nilIface=>exact .nilIface
 | _=>simp [AV.plain] at hp
theorem Zp.plain {E E':Env}:∀{cs:List AV} {vs:List Value},Zp E cs vs->YD cs=true->Zp E' cs vs
 | _,_,.nil,_=>.nil
 | _,_,.one v c vs cs h0 h1 h t,hp=>by
  simp only [YD,J1] at hp
  exact .one _ _ _ _ h0 h1 (h.plain hp.1) (Zp.plain t hp.2)
 | _,_,.arr k n xs vs cs t,hp=>by
  simp only [YD,J1] at hp
  exact .arr _ _ _ _ _ (Zp.plain t hp.2)
def Z9R:List AV->Bool
 | .arr _ _ _::_=>true
 | _=>false
def Z1q (mv:Option Nat) (x:Nat):Bool:=match mv with|some y=>Nat.beq y x|none=>false
mutual
def US (mv:Option Nat) (h:Z7) (t:Bool):Nat->AV->(AV->Prop)->Prop
 | 0,_,_=>False
 | d+1,v,K=>match v with
  | .top=>K .top
  | .bool b=>K (.bool b)
  | .int k n=>K (.int k n)
  | .str s=>K (.str s)
  | .ptr none=>K (.ptr none)
  | .eslice=>K .eslice
  | .fslice=>K .fslice
  | .nilslice=>K .nilslice
  | .map none=>K (.map none)
  | .nilFunc=>K .nilFunc
  | .nilIface=>K .nilIface
  | .pview cs inn=>K (.pview cs inn)
  | .vints k xs len=>K (.vints k xs len)
  | .vrows esz n f len=>K (.vrows esz n f len)
  | .ptr (some p)=>match Z1q mv p.blk with
   | true=>match t with|false=>False|true=>K (.ptr (some ⟨0,p.row,p.sz,p.off,p.inn⟩))
   | false=>match h.get p.blk with
    | some (.flat cs)=>match p.row,Yq p.off cs with
     | 0,some rest=>VL mv h false d rest fun rest'=>K (.pview rest' p.inn)
     | _,_=>False
    | some (.rows sz n f)=>match Nat.beq sz p.sz with
     | true=>Z5 (p.row<n) (match Yq p.off (f p.row) with
      | some rest=>VL mv h false d rest fun rest'=>K (.pview rest' p.inn)
      | none=>False)
     | false=>False
    | _=>False
  | .nslice p esz len lo=>match Z1q mv p.blk with
   | true=>match t with|false=>False|true=>K (.nslice ⟨0,p.row,p.sz,p.off,p.inn⟩ esz len lo)
   | false=>match h.get p.blk with
    | some (.ints k xs)=>match Nat.beq esz 1 with
     | true=>Z5 (p.tot+len<=xs.length) (K (.vints k ((Yi p.tot xs).take len) len))
     | false=>False
    | some (.rows sz n f)=>match Nat.beq sz esz&&Nat.beq p.off 0&&Nat.beq p.inn 0&&(Nat.beq p.sz esz||Nat.beq p.row 0) with
     | true=>Z5 (p.row+len<=n) ((∀i,i<len->YD (ZL p.row f i)=true)/\K (.vrows esz len (ZL p.row f) len))
     | false=>False
    | some (.flat cs)=>match p.row,Yq p.off cs with
     | 0,some rest=>match Z9R rest&&Nat.beq esz 1 with
      | true=>match rest with
       | .arr k n xs::_=>match Nat.beq esz 1,Nat.beq p.inn 0&&Nat.beq len n with
        | true,true=>Z5 (xs.length=n) (K (.vints k xs len))
        | true,false=>Z5 (xs.length=n/\p.inn+len<=n) (K (.vints k ((Yi p.inn xs).take len) len))
        | false,_=>False
       | _=>False
      | false=>match Nat.beq p.inn 0,takeC (len*esz) rest with
       | true,some part=>VL mv h false d part fun part'=>match QV part' 0 esz len with
        | true=>K (.vrows esz len (XM part' 0 esz) len)
        | false=>False
       | _,_=>False
     | _,_=>False
    | _=>False
  | .func (.func g) fs cs=>X1 mv h t d fs fun fs'=>X1 mv h t d cs fun cs'=>K (.func (.func g) fs' cs')
  | .iface T u=>US mv h t d u fun u'=>K (.iface T u')
  | .agg cs=>VL mv h t d cs fun cs'=>K (.agg cs')
  | .tuple vs=>X1 mv h t d vs fun vs'=>K (.tuple vs')
  | _=>False
def VL (mv:Option Nat) (h:Z7) (t:Bool):Nat->List AV->(List AV->Prop)->Prop
 | 0,_,_=>False
 | d+1,l,K=>match l with
  | []=>K []
  | .arr k n xs::r=>VL mv h t d r fun r'=>K (.arr k n xs::r')
  | v::r=>US mv h t d v fun v'=>match v'.isCell with
   | true=>VL mv h t d r fun r'=>K (v'::r')
   | false=>False
def X1 (mv:Option Nat) (h:Z7) (t:Bool):Nat->List AV->(List AV->Prop)->Prop
 | 0,_,_=>False
 | d+1,l,K=>match l with
  | []=>K []
  | v::r=>US mv h t d v fun v'=>X1 mv h t d r fun r'=>K (v'::r')
end
theorem Z53 {w:World} {t:Bool} {h:Z7} (he:Emb E h w) (hm:∀x,mv=some x->∃B,h.get x=some B):E.views.le (E.bor mv w t).views:=
 ⟨fun _ _ hq=>by simp [Env.views] at hq,fun a c hi=>⟨he.imm a c hi,fun x N hx hb=>let ⟨B,hB⟩:=hm x hx;he.sep a c x B N hi hB hb⟩⟩
theorem Z6a {w:World} {t:Bool} {h:Z7} (he:Emb E h w) (hm:∀x,mv=some x->∃B,h.get x=some B) {a:Addr} {c:Value} (hi:E.imm a c):(E.bor mv w t).imm a c:=
 ⟨he.imm a c hi,fun x N hx hb=>let ⟨B,hB⟩:=hm x hx;he.sep a c x B N hi hB hb⟩
theorem WX {w:World} {t:Bool} {h:Z7} (he:Emb E h w) (hm:∀x,mv=some x->∃B,h.get x=some B) {y b N o:Nat} (hy:h.get y=some B) (hb:E.blk y=some (b,N)) (hn:Z1q mv y=false) {c:Value}
  (hc:w.cell? ⟨b,o,none⟩=some c):(E.bor mv w t).imm ⟨b,o,none⟩ c:=
 ⟨hc,fun x N' hx hbx=>by
  obtain ⟨C,hC⟩:=hm x hx
  have:=he.disj x y C B b N' N hC hy hbx hb
  simp_all [Z1q]⟩
theorem Z54 {w:World} {x:Nat} (h:Z1q mv x=true):(E.bor mv w true).blk 0=E.blk x:=by
 unfold Z1q at h
 split at h
 ·have:=J0 h
  subst this
  rfl
 ·cases h
theorem addr_add (b o j:Nat):(⟨b,o,none⟩:Addr).add j=⟨b,o+j,none⟩:=by
 simp_all [Addr.add]
theorem Z2w {cells:Array Value} {vs:List Value} (hv:∀(j:Nat) (c:Value),vs[j]? =some c->cells[j]? =some c) {w:World} {b:Nat} {elem:TypeId} {fr:Nat×Nat} (hw:w.heap[b]? =some (.cells cells elem fr)) {j:Nat} {c:Value} (h:vs[j]? =some c):
  w.cell? ⟨b,j,none⟩=some c:=by rw [cell_of_heap hw];simp_all
set_option maxHeartbeats 2000000 in
mutual
theorem Z0L {mv:Option Nat} {h:Z7} (hm:∀x,mv=some x->∃B,h.get x=some B):∀(d:Nat) (t:Bool) (v:AV) (K:AV->Prop),US mv h t d v K->∃v₀,K v₀/\∀(E:Env) (w:World) (r:Value),Emb E h w->Zd E v r->Zd (E.bor mv w t) v₀ r
 | 0,t,v,K,hl=>by unfold US at hl;simp_all
 | d+1,t,v,K,hl=>by
  unfold US at hl
  split at hl
  ·exact ⟨_,hl,fun E w r he hv=>.top r⟩
  ·exact ⟨_,hl,fun E w r he hv=>hv.plain rfl⟩
  ·exact ⟨_,hl,fun E w r he hv=>hv.plain rfl⟩
  ·exact ⟨_,hl,fun E w r he hv=>hv.plain rfl⟩
  ·exact ⟨_,hl,fun E w r he hv=>hv.plain rfl⟩
  ·exact ⟨_,hl,fun E w r he hv=>hv.plain rfl⟩
  ·exact ⟨_,hl,fun E w r he hv=>hv.plain rfl⟩
  ·exact ⟨_,hl,fun E w r he hv=>hv.plain rfl⟩
  ·exact ⟨_,hl,fun E w r he hv=>hv.plain rfl⟩
  ·exact ⟨_,hl,fun E w r he hv=>hv.plain rfl⟩
  ·exact ⟨_,hl,fun E w r he hv=>hv.plain rfl⟩
  ·refine ⟨_,hl,fun E w r he hv=> ?_⟩
   cases hv with
   | pview cs inn a vs hc hi=>exact .pview _ _ a vs (hc.mono (Z53 he hm)) (fun j c hj=>Z6a he hm (hi j c hj))
  ·refine ⟨_,hl,fun E w r he hv=> ?_⟩
   cases hv with
   | vintsNil k xs len h1 h2=>exact .vintsNil _ _ _ h1 h2
   | vints k xs len a cap h1 h2 hi=>exact .vints _ _ _ a cap h1 h2 (fun i hi'=>Z6a he hm (hi i hi'))
  ·refine ⟨_,hl,fun E w r he hv=> ?_⟩
   cases hv with
   | vrowsNil esz n f len h1 h2=>exact .vrowsNil _ _ _ _ h1 h2
   | vrows esz n f len a cap g h1 h2 hc hl' hi=>exact .vrows _ _ _ _ a cap g h1 h2 (fun i hi'=>(hc i hi').mono (Z53 he hm)) hl' (fun i j c hi' hj=>Z6a he hm (hi i j c hi' hj))
  ·rename_i p
   split at hl
   ·rename_i hmv
    split at hl
    ·simp_all
    ·refine ⟨_,hl,fun E w r he hv=> ?_⟩
     cases hv with
     | ptr p b N hb=>exact .ptr ⟨0,p.row,p.sz,p.off,p.inn⟩ b N (by rw [Z54 hmv];exact hb)
   ·rename_i hmv
    split at hl
    ·rename_i cs hg
     split at hl
     ·rename_i rest hrow hrest
      obtain ⟨rest',hK,hr⟩:=VM hm d false rest _ hl
      refine ⟨_,hK,fun E w r he hv=> ?_⟩
      cases hv with
      | ptr p b N hb=>
       cases he.own _ _ hg with
       | flat0 cs h0 hn=>rw [hn] at hb;cases hb
       | flat cs b' cells elem fr vs hb' hw hf hc hvs=>
        rw [hb] at hb'
        cases hb'
        have hd:=(ZR _ _ _ _ hrest hc).1
        have e:(⟨b,p.tot,none⟩:Addr)=(⟨b,p.off,none⟩:Addr).add p.inn:=by rw [addr_add];simp [ZD.tot,hrow]
        rw [e]
        refine .pview _ _ ⟨b,p.off,none⟩ _ (hr E w _ he hd) (fun j c hj=> ?_)
        rw [addr_add]
        grind [WX,Z2w]
     simp_all
    ·rename_i sz n f hg
     split at hl
     ·rename_i hsz
      have hsz:=J0 hsz
      obtain ⟨hrow,hl⟩:=Zg hl
      split at hl
      ·rename_i rest hrest
       obtain ⟨rest',hK,hr⟩:=VM hm d false rest _ hl
       refine ⟨_,hK,fun E w r he hv=> ?_⟩
       cases hv with
       | ptr p b N hb=>
        cases he.own _ _ hg with
        | rows0 sz n f h0 hn=>omega
        | rows sz n f b' cells elem fr g hb' hw hf hc hlg hvs=>
         rw [hb] at hb'
         cases hb'
         have hd:=(ZR _ _ _ _ hrest (hc _ hrow)).1
         have e:(⟨b,p.tot,none⟩:Addr)=(⟨b,p.row*sz+p.off,none⟩:Addr).add p.inn:=by rw [addr_add];simp [ZD.tot,hsz]
         rw [e]
         refine .pview _ _ ⟨b,p.row*sz+p.off,none⟩ _ (hr E w _ he hd) (fun j c hj=> ?_)
         rw [addr_add]
         grind [WX,cell_of_heap]
      simp_all
     simp_all
    simp_all
  ·rename_i p esz len lo
   split at hl
   ·rename_i hmv
    split at hl
    ·simp_all
    ·refine ⟨_,hl,fun E w r he hv=> ?_⟩
     cases hv with
     | nslice0 p esz len lo a h1 h2=>exact .nslice0 _ _ _ _ a h1 h2
     | nslice p esz len lo b N cap hb h1 h2 h3=>exact .nslice ⟨0,p.row,p.sz,p.off,p.inn⟩ _ _ _ b N cap (by rw [Z54 hmv];exact hb) h1 h2 h3
   ·rename_i hmv
    split at hl
    ·rename_i k xs hg
     split at hl
     ·rename_i hes
      have hes:=J0 hes
      subst hes
      obtain ⟨hle,hK⟩:=Zg hl
      have hlen:((Yi p.tot xs).take len).length=len:=by rw [ZZ,Jd,Ja];omega
      refine ⟨_,hK,fun E w r he hv=> ?_⟩
      cases hv with
      | nslice0 p esz len lo a h1 h2=>
       subst h1
       cases a with
       | none=>exact .vintsNil _ _ _ (by simp) rfl
       | some a=>exact .vints _ _ _ a 0 (by simp) (by simp) (fun i hi=>by simp at hi)
      | nslice p esz len lo b N cap hb h1 h2 h3=>
       refine .vints _ _ _ _ cap (by omega) (by omega) (fun i hi=> ?_)
       rw [hlen] at hi
       rw [addr_add]
       refine WX he hm hg hb hmv ?_
       cases he.own _ _ hg with
       | ints0 k xs h0 hn=>rw [hn] at hb;cases hb
       | ints k xs b' cells elem fr hb' hw hf hvs=>
        rw [hb] at hb'
        cases hb'
        rw [cell_of_heap hw,hvs _ (by omega)]
        congr 2
        rw [ZZ]
        simp_all
     simp_all
    ·rename_i sz n f hg
     split at hl
     ·rename_i hb
      simp only [J1,JK] at hb
      obtain ⟨⟨⟨q1,q2⟩,q3⟩,q4⟩:=hb
      have q1:=J0 q1
      have q2:=J0 q2
      have q3:=J0 q3
      obtain ⟨hle,hpl,hK⟩:=Zg hl
      refine ⟨_,hK,fun E w r he hv=> ?_⟩
      have htot:p.tot=p.row*sz:=by
       grind [J0,ZD.tot]
      cases hv with
      | nslice0 p esz len lo a h1 h2=>
       subst h1
       cases a with
       | none=>exact .vrowsNil _ _ _ _ rfl rfl
       | some a=>exact .vrows _ _ _ _ a 0 (fun _=>[]) (by omega) (by omega) (fun i hi=>by omega) (fun i hi=>by omega) (fun i j c hi=>by omega)
      | nslice p esz len lo b N cap hb h1 h2 h3=>
       cases he.own _ _ hg with
       | rows0 sz n f h0 hn=>rw [hn] at hb;cases hb
       | rows sz n f b' cells elem fr g hb' hw hf hc hlg hvs=>
        rw [hb] at hb'
        cases hb'
        refine .vrows _ _ _ _ _ cap (fun i=>g (p.row+i)) (by omega) h1 (fun i hi=> ?_) (fun i hi=>by rw [<-q1];grind) (fun i j c hi hj=> ?_)
        ·have:=hc (p.row+i) (by omega)
         have hp:=hpl i hi
         rw [WJ] at hp⊢
         exact this.plain hp
        ·rw [addr_add]
         refine WX he hm hg hb hmv ?_
         rw [cell_of_heap hw,htot,<-q1]
         have:=hvs (p.row+i) j c (by omega) hj
         rw [K2] at this
         rw [show p.row*sz+(i*sz+j)=p.row*sz+i*sz+j by omega]
         exact this
     simp_all
    ·rename_i cs hg
     split at hl
     ·rename_i rest hrow hrest
      have hbase:∀(E:Env) (w:World) (b N:Nat),Emb E h w->E.blk p.blk=some (b,N)->∃vs,Zp E rest vs/\∀j c,vs[j]? =some c->w.cell? ⟨b,p.off+j,none⟩=some c:=by
       intro E w b N he hb
       cases he.own _ _ hg with
       | flat0 cs h0 hn=>rw [hn] at hb;cases hb
       | flat cs b' cells elem fr vs hb' hw hf hc hvs=>
        rw [hb] at hb'
        cases hb'
        refine ⟨_,(ZR _ _ _ _ hrest hc).1,fun j c hj=> ?_⟩
        rw [JJ] at hj
        exact Z2w hvs hw hj
      split at hl
      ·split at hl
       ·rename_i k n xs rest2 harr
        split at hl
        ·rename_i hes hbb
         have hes:=J0 hes
         subst hes
         rw [J1] at hbb
         have e1:=J0 hbb.1
         have e2:=J0 hbb.2
         obtain ⟨hxl,hK⟩:=Zg hl
         refine ⟨_,hK,fun E w r he hv=> ?_⟩
         cases hv with
         | nslice0 p esz len lo a h1 h2=>
          have hx0:xs=[]:=by
           grind
          subst hx0
          subst h1
          cases a with
          | none=>exact .vintsNil _ _ _ rfl rfl
          | some a=>exact .vints _ _ _ a 0 (by simp) (by simp) (fun i hi=>by simp at hi)
         | nslice p esz len lo b N cap hb h1 h2 h3=>
          obtain ⟨vs,hcr,hcell⟩:=hbase E w b N he hb
          obtain ⟨ws,rfl,_⟩:=Zp.cons_arr hcr
          refine .vints _ _ _ _ cap (by omega) (by omega) (fun i hi=> ?_)
          rw [addr_add]
          refine WX he hm hg hb hmv ?_
          have:=hcell i (.int k (xs.getD i 0)) (by
           rw [Jc (by rw [Za];omega),Zl (by omega)])
          rw [show p.tot+i=p.off+i by simp [ZD.tot,hrow,e1]]
          exact this
        ·rename_i hes hbb
         have hes:=J0 hes
         subst hes
         obtain ⟨⟨hxl,hle⟩,hK⟩:=Zg hl
         have hlen:((Yi p.inn xs).take len).length=len:=by rw [ZZ,Jd,Ja];omega
         refine ⟨_,hK,fun E w r he hv=> ?_⟩
         cases hv with
         | nslice0 p esz len lo a h1 h2=>
          subst h1
          cases a with
          | none=>exact .vintsNil _ _ _ (by simp) rfl
          | some a=>exact .vints _ _ _ a 0 (by simp) (by simp) (fun i hi=>by simp at hi)
         | nslice p esz len lo b N cap hb h1 h2 h3=>
          obtain ⟨vs,hcr,hcell⟩:=hbase E w b N he hb
          obtain ⟨ws,rfl,_⟩:=Zp.cons_arr hcr
          refine .vints _ _ _ _ cap (by omega) (by omega) (fun i hi=> ?_)
          rw [hlen] at hi
          rw [addr_add]
          refine WX he hm hg hb hmv ?_
          have:=hcell (p.inn+i) (.int k (xs.getD (p.inn+i) 0)) (by
           rw [Jc (by rw [Za];omega),Zl (by omega)])
          rw [show p.tot+i=p.off+(p.inn+i) by simp [ZD.tot,hrow];omega]
          rw [this]
          congr 2
          rw [ZZ]
          simp_all
        simp_all
       simp_all
      ·split at hl
       ·rename_i part hinn hpart
        have hinn:=J0 hinn
        obtain ⟨part',hK,hr⟩:=VM hm d false part _ hl
        split at hK
        ·rename_i hrows
         refine ⟨_,hK,fun E w r he hv=> ?_⟩
         cases hv with
         | nslice0 p esz len lo a h1 h2=>
          subst h1
          cases a with
          | none=>exact .vrowsNil _ _ _ _ rfl rfl
          | some a=>exact .vrows _ _ _ _ a 0 (fun _=>[]) (by omega) (by omega) (fun i hi=>by omega) (fun i hi=>by omega) (fun i j c hi=>by omega)
         | nslice p esz len lo b N cap hb h1 h2 h3=>
          obtain ⟨vs,hcr,hcell⟩:=hbase E w b N he hb
          have hpr:=(VB _ _ _ _ hpart hcr).1
          have hpr':=hr E w _ he hpr
          refine .vrows _ _ _ _ _ cap (fun i=>((vs.take (len*esz)).drop (0+i*esz)).take esz) (by omega) h1 (fun i hi=>(Xl (YI hrows i hi) hpr').1) (fun i hi=>(Xl (YI hrows i hi) hpr').2) (fun i j c hi hj=> ?_)
          rw [addr_add]
          grind [WX,ZD.tot]
        simp_all
       simp_all
     simp_all
    simp_all
  ·obtain ⟨fs',hl,h1⟩:=Wb hm d t _ _ hl
   obtain ⟨cs',hl,h2⟩:=Wb hm d t _ _ hl
   refine ⟨_,hl,fun E w r he hv=> ?_⟩
   cases hv with
   | func fn first captured fs cs ha hb=>exact .func _ _ _ _ _ (h1 E w _ he ha) (h2 E w _ he hb)
  ·obtain ⟨u',hl,h1⟩:=Z0L hm d t _ _ hl
   refine ⟨_,hl,fun E w r he hv=> ?_⟩
   cases hv with
   | iface T v x hx=>exact .iface _ _ _ (h1 E w _ he hx)
  ·obtain ⟨cs',hl,h1⟩:=VM hm d t _ _ hl
   refine ⟨_,hl,fun E w r he hv=> ?_⟩
   cases hv with
   | agg cs vs hc=>exact .agg _ _ (h1 E w _ he hc)
  ·obtain ⟨vs',hl,h1⟩:=Wb hm d t _ _ hl
   refine ⟨_,hl,fun E w r he hv=> ?_⟩
   cases hv with
   | tuple vs rs hc=>exact .tuple _ _ (h1 E w _ he hc)
  simp_all
theorem VM {mv:Option Nat} {h:Z7} (hm:∀x,mv=some x->∃B,h.get x=some B):∀(d:Nat) (t:Bool) (l:List AV) (K:List AV->Prop),VL mv h t d l K->∃l₀,K l₀/\∀(E:Env) (w:World) (r:List Value),Emb E h w->Zp E l r->Zp (E.bor mv w t) l₀ r
 | 0,t,l,K,hl=>by unfold VL at hl;simp_all
 | d+1,t,l,K,hl=>by
  unfold VL at hl
  split at hl
  ·exact ⟨_,hl,fun E w r he hv=>by cases hv;exact .nil⟩
  ·obtain ⟨r',hl,h1⟩:=VM hm d t _ _ hl
   refine ⟨_,hl,fun E w r he hv=> ?_⟩
   obtain ⟨ws,rfl,ht⟩:=Zp.cons_arr hv
   exact .arr _ _ _ _ _ (h1 E w _ he ht)
  ·rename_i v r hna
   obtain ⟨v',hl,h1⟩:=Z0L hm d t _ _ hl
   split at hl
   ·rename_i hcell
    obtain ⟨r',hl,h2⟩:=VM hm d t _ _ hl
    refine ⟨_,hl,fun E w q he hv=> ?_⟩
    obtain ⟨c,ws,rfl,q1,q2,q3,q4⟩:=Zp.cons_cell hv (fun k m xs e=>hna k m xs e)
    exact .one _ _ _ _ hcell q2 (h1 E w _ he q3) (h2 E w _ he q4)
   ·exact hl.elim
theorem Wb {mv:Option Nat} {h:Z7} (hm:∀x,mv=some x->∃B,h.get x=some B):∀(d:Nat) (t:Bool) (l:List AV) (K:List AV->Prop),X1 mv h t d l K->∃l₀,K l₀/\∀(E:Env) (w:World) (r:List Value),Emb E h w->Zv E l r->Zv (E.bor mv w t) l₀ r
 | 0,t,l,K,hl=>by unfold X1 at hl;simp_all
 | d+1,t,l,K,hl=>by
  unfold X1 at hl
  split at hl
  ·exact ⟨_,hl,fun E w r he hv=>by cases hv;exact .nil⟩
  ·obtain ⟨v',hl,h1⟩:=Z0L hm d t _ _ hl
   obtain ⟨r',hl,h2⟩:=Wb hm d t _ _ hl
   refine ⟨_,hl,fun E w q he hv=> ?_⟩
   cases hv with
   | cons v c vs cs ha hb=>exact .cons _ _ _ _ (h1 E w _ he ha) (h2 E w _ he hb)
end
def Y6 (P:Program) (f:FuncId) (args:List AV) (v:AV) (nx:Nat) (bs:List (Nat×Blk)):Prop:=
 ∀(E:Env) (w:World) (rs:List Value),Emb E ⟨0,[]⟩ w->Zv E args rs->Calls P f rs.toArray w fun e w'=>∃E' r,e=.returned r/\Evo E ⟨0,[]⟩ w E' ⟨nx,bs⟩ w'/\Zd E' v r
def Z4x (P:Program) (f:FuncId) (args:List AV) (B:Blk) (v:AV) (B':Blk):Prop:=
 ∀(E:Env) (w:World) (rs:List Value),Emb E ⟨1,[(0,B)]⟩ w->Zv E args rs->Calls P f rs.toArray w fun e w'=>∃E' r,e=.returned r/\Evo E ⟨1,[(0,B)]⟩ w E' ⟨1,[(0,B')]⟩ w'/\Zd E' v r
def Wk (k:Nat) (τ:Ren) (v:AV) (nx:Nat) (bs:List (Nat×Blk)):KO:=fun o h=>match o with
 | .ret u=>UP k τ ⟨1,[(0,v)],⟨nx,bs⟩,[]⟩ ⟨1,[(0,u)],h,[]⟩ True
 | .panic _=>False
theorem Z08 {P:Program} {f:FuncId} {h0:Z7} {v:AV} {bs:List (Nat×Blk)} (h:Zi P f args h0 (Wk h0.next τ v nx bs)) {w:World} {rs:List Value} (he:Emb E h0 w) (hl:Zv E args rs):
  Calls P f rs.toArray w fun e w'=>∃E' r,e=.returned r/\Evo E h0 w E' ⟨nx,bs⟩ w'/\Zd E' v r:=by
 refine (h E w rs he hl).mono ?_
 rintro e w' ⟨E',o,h',hK,hev,ho⟩
 cases ho with
 | panic v r h=>exact hK.elim
 | ret u r hr=>
  obtain ⟨_,hw⟩:=Xx hK
  obtain ⟨E₂,hs,hev₂⟩:=hw E h0 w E' { tmps:= #[r],defers:=[]} w' he.fresh ⟨hev.emb,⟨rfl,fun x u' hx=>by
   simp only [ZG] at hx
   split at hx
   all_goals simp_all⟩,.nil⟩ hev
  exact ⟨E₂,r,rfl,hev₂,by simpa using hs.tmps.get 0 v rfl⟩
theorem Y6.of {P:Program} {f:FuncId} {v:AV} {bs:List (Nat×Blk)} (h:Zi P f args ⟨0,[]⟩ (Wk 0 τ v nx bs)):Y6 P f args v nx bs:=
 fun _ _ _ he hl=>Z08 h he hl
theorem Z4x.of {P:Program} {f:FuncId} {v:AV} (h:Zi P f args ⟨1,[(0,B)]⟩ (Wk 1 τ v 1 [(0,B')])):Z4x P f args B v B':=
 fun _ _ _ he hl=>Z08 h he hl
def shP (d:Nat) (p:ZD):ZD:=⟨d+p.blk,p.row,p.sz,p.off,p.inn⟩
mutual
def shV (d:Nat):AV->Option AV
 | .top=>some .top
 | .bool b=>some (.bool b)
 | .int k n=>some (.int k n)
 | .str s=>some (.str s)
 | .ptr none=>some (.ptr none)
 | .ptr (some p)=>some (.ptr (some (shP d p)))
 | .nslice p esz len lo=>some (.nslice (shP d p) esz len lo)
 | .eslice=>some .eslice
 | .fslice=>some .fslice
 | .nilslice=>some .nilslice
 | .map none=>some (.map none)
 | .map (some x)=>some (.map (some (d+x)))
 | .nilFunc=>some .nilFunc
 | .nilIface=>some .nilIface
 | .iface t v=>match shV d v with|some v'=>some (.iface t v')|none=>none
 | .agg cs=>match shC d cs with|some cs'=>some (.agg cs')|none=>none
 | .tuple vs=>match shL d vs with|some vs'=>some (.tuple vs')|none=>none
 | _=>none
def shC (d:Nat):List AV->Option (List AV)
 | []=>some []
 | .arr k n xs::r=>match shC d r with|some r'=>some (.arr k n xs::r')|none=>none
 | v::r=>match shV d v,shC d r with
  | some v',some r'=>match v'.isCell with|true=>some (v'::r')|false=>none
  | _,_=>none
def shL (d:Nat):List AV->Option (List AV)
 | []=>some []
 | v::r=>match shV d v,shL d r with
  | some v',some r'=>some (v'::r')
  | _,_=>none
end
mutual
theorem Z6b {d:Nat} {E E':Env} (hb:∀x r,E.blk x=some r->E'.blk (d+x)=some r):∀(v v':AV) (r:Value),shV d v=some v'->Zd E v r->Zd E' v' r
 | .top,v',r,h,hv=>by simp [shV] at h;subst h;exact .top r
 | .bool b,v',r,h,hv=>by simp [shV] at h;subst h;exact hv.plain rfl
 | .int k n,v',r,h,hv=>by simp [shV] at h;subst h;exact hv.plain rfl
 | .str s,v',r,h,hv=>by simp [shV] at h;subst h;exact hv.plain rfl
 | .ptr none,v',r,h,hv=>by simp [shV] at h;subst h;exact hv.plain rfl
 | .ptr (some p),v',r,h,hv=>by
  simp [shV] at h;subst h
  cases hv with
  | ptr p b N hq=>exact .ptr (shP d p) b N (hb _ _ hq)
 | .pview _ _,v',r,h,hv=>by simp [shV] at h
 | .nslice p esz len lo,v',r,h,hv=>by
  simp [shV] at h;subst h
  cases hv with
  | nslice0 p esz len lo a h1 h2=>exact .nslice0 _ _ _ _ a h1 h2
  | nslice p esz len lo b N cap hq h1 h2 h3=>exact .nslice (shP d p) _ _ _ b N cap (hb _ _ hq) h1 h2 h3
 | .vints _ _ _,v',r,h,hv=>by simp [shV] at h
 | .vrows _ _ _ _,v',r,h,hv=>by simp [shV] at h
 | .eslice,v',r,h,hv=>by simp [shV] at h;subst h;exact hv.plain rfl
 | .fslice,v',r,h,hv=>by simp [shV] at h;subst h;exact hv.plain rfl
 | .nilslice,v',r,h,hv=>by simp [shV] at h;subst h;exact hv.plain rfl
 | .map none,v',r,h,hv=>by simp [shV] at h;subst h;exact hv.plain rfl
 | .map (some x),v',r,h,hv=>by
  simp [shV] at h;subst h
  cases hv with
  | map x b N hq=>exact .map _ b N (hb _ _ hq)
 | .func _ _ _,v',r,h,hv=>by simp [shV] at h
 | .yield _,v',r,h,hv=>by simp [shV] at h
 | .stamp _,v',r,h,hv=>by simp [shV] at h
 | .nilFunc,v',r,h,hv=>by simp [shV] at h;subst h;exact hv.plain rfl
 | .nilIface,v',r,h,hv=>by simp [shV] at h;subst h;exact hv.plain rfl
 | .iface t v,v',r,h,hv=>by
  unfold shV at h
  split at h
  ·rename_i u hu
   cases h
   cases hv with
   | iface t v x hx=>exact .iface _ _ _ (Z6b hb _ _ _ hu hx)
  ·cases h
 | .agg cs,v',r,h,hv=>by
  unfold shV at h
  split at h
  ·rename_i u hu
   cases h
   cases hv with
   | agg cs vs hc=>exact .agg _ _ (Z8O hb _ _ _ hu hc)
  ·cases h
 | .arr _ _ _,v',r,h,hv=>by simp [shV] at h
 | .tuple vs,v',r,h,hv=>by
  unfold shV at h
  split at h
  ·rename_i u hu
   cases h
   cases hv with
   | tuple vs rs hc=>exact .tuple _ _ (ZcM hb _ _ _ hu hc)
  ·cases h
theorem Z8O {d:Nat} {E E':Env} (hb:∀x r,E.blk x=some r->E'.blk (d+x)=some r):∀(l l':List AV) (r:List Value),shC d l=some l'->Zp E l r->Zp E' l' r
 | [],l',r,h,hv=>by simp [shC] at h;subst h;cases hv;exact .nil
 | v::q,l',r,h,hv=>by
  unfold shC at h
  split at h
  ·rename_i heq;cases heq
  ·rename_i k n xs q' heq
   cases heq
   split at h
   ·rename_i u hu
    cases h
    obtain ⟨ws,rfl,ht⟩:=Zp.cons_arr hv
    exact .arr _ _ _ _ _ (Z8O hb _ _ _ hu ht)
   ·cases h
  ·rename_i v0 q' hna heq
   cases heq
   split at h
   ·rename_i u us hu hus
    split at h
    ·rename_i hcell
     cases h
     obtain ⟨c,ws,rfl,q1,q2,q3,q4⟩:=Zp.cons_cell hv (fun k m xs e=>hna k m xs e)
     exact .one _ _ _ _ hcell q2 (Z6b hb _ _ _ hu q3) (Z8O hb _ _ _ hus q4)
    ·cases h
   ·cases h
theorem ZcM {d:Nat} {E E':Env} (hb:∀x r,E.blk x=some r->E'.blk (d+x)=some r):∀(l l':List AV) (r:List Value),shL d l=some l'->Zv E l r->Zv E' l' r
 | [],l',r,h,hv=>by simp [shL] at h;subst h;cases hv;exact .nil
 | v::q,l',r,h,hv=>by
  unfold shL at h
  split at h
  ·rename_i u us hu hus
   cases h
   cases hv with
   | cons v c vs cs ha hb'=>exact .cons _ _ _ _ (Z6b hb _ _ _ hu ha) (ZcM hb _ _ _ hus hb')
  ·cases h
end
def Z7c (d:Nat):List (Nat×Blk)->List (Nat×Blk)
 | []=>[]
 | (x,B)::r=>(d+x,B)::Z7c d r
inductive Vw:Blk->Prop
 | ints (k:IntKind) (xs:LI):Vw (.ints k xs)
 | flat (cs:List AV) (h:YD cs=true):Vw (.flat cs)
 | rows (sz n:Nat) (f:Nat->List AV) (h:∀i,i<n->YD (f i)=true):Vw (.rows sz n f)
def Z2x (nx:Nat):List (Nat×Blk)->Prop
 | []=>True
 | (x,B)::r=>x<nx/\Vw B/\Z2x nx r
theorem Vw.move {w:World} {x y:Nat} (hp:Vw B) (he:E'.blk y=E.blk x) (h:ZY E w x B):ZY E' w y B:=by
 cases h with
 | flat0 cs h0 hn=>exact .flat0 _ h0 (he.trans hn)
 | flat cs b cells elem fr vs hb hw hf hc hv=>cases hp with|flat _ h=>exact .flat _ b cells elem fr vs (he.trans hb) hw hf (hc.plain h) hv
 | ints0 k xs h0 hn=>exact .ints0 _ _ h0 (he.trans hn)
 | ints k xs b cells elem fr hb hw hf hv=>exact .ints _ _ b cells elem fr (he.trans hb) hw hf hv
 | rows0 sz n f h0 hn=>exact .rows0 _ _ _ h0 (he.trans hn)
 | rows sz n f b cells elem fr g hb hw hf hc hl hv=>cases hp with|rows _ _ _ h=>exact .rows _ _ _ b cells elem fr g (he.trans hb) hw hf (fun i hi=>(hc i hi).plain (h i hi)) hl hv
 | map es b ents clock hb hw hk hv hbn=>cases hp
 | fmap n kf vf b ents clock hb hw hl hk hv hbn=>cases hp
 | pmap es b k ents ents' clock hb hw hq hn hi hk hv=>cases hp
 | sfmap n kf vf key y b ents clock e hb hw hl hk hv hbn hs he=>cases hp
 | git m y js b mb clock bs seen hb hm hy hs hj hw=>cases hp
 | froz B y b ents clock hB hb hw hbn hy=>cases hp
 | smap es i y b ents clock s e hb hw hk hv hbn hs he hy=>cases hp
 | loop l b d N fnr tm hb hd hw ht=>cases hp
 | defd b hb hw=>cases hp
def UT:List (Nat×Blk)->List (Nat×Blk)->List (Nat×Blk)
 | [],l=>l
 | p::r,l=>p::UT r l
theorem Z55 (a b:List (Nat×Blk)) (y:Nat):Zr (UT a b) y=match Zr a y with|some B=>some B|none=>Zr b y:=by
 induction a with
 | nil=>rfl
 | cons p r ih=>
  grind [UT,Zr]
theorem Z9S {d:Nat}:∀(bs:List (Nat×Blk)) (y:Nat) (B:Blk),Zr (Z7c d bs) y=some B->∃x,y=d+x/\Zr bs x=some B
 | [],y,B,h=>by simp [Z7c,Zr] at h
 | (z,C)::r,y,B,h=>by
  simp only [Z7c,Zr] at h
  split at h
  ·rename_i hb
   have:=J0 hb
   cases h
   exact ⟨z,this.symm,by simp [Zr]⟩
  ·rename_i hb
   obtain ⟨x,rfl,hx⟩:=Z9S r y B h
   refine ⟨x,rfl, ?_⟩
   simp only [Zr]
   have:Nat.beq z x=false:=by
    cases hq:Nat.beq z x with
    | false=>rfl
    | true=>have:=J0 hq;subst this;simp [Jj] at hb
   rw [this]
   exact hx
theorem UU {nx:Nat}:∀{bs:List (Nat×Blk)},Z2x nx bs->∀x B,Zr bs x=some B->x<nx/\Vw B
 | (z,C)::r,h,x,B,hx=>by
  obtain ⟨h1,h2,h3⟩:=h
  simp only [Zr] at hx
  split at hx
  ·simp_all
  ·exact UU h3 x B hx
theorem ZcN {w:World}:Emb (E.bor none w true) ⟨0,[]⟩ w where
 fresh:=fun x _=>by cases x<;>rfl
 lt:=fun x B h=>by simp [Z7.get,Zr] at h
 own:=fun x B h=>by simp [Z7.get,Zr] at h
 disj:=fun x y B B' b N N' h=>by simp [Z7.get,Zr] at h
 imm:=fun a c h=>h.1
 sep:=fun a c x B N _ h=>by simp [Z7.get,Zr] at h
theorem Y6.calls {P:Program} {f:FuncId} {v:AV} {bs:List (Nat×Blk)} {h:Z7} {K:KO} (hp:Y6 P f args₀ v nx bs)
  (ha:∀(E:Env) (w:World) (rs:List Value),Emb E h w->Zv E args rs->Zv (E.bor none w true) args₀ rs)
  (hv:shV h.next v=some v') (hb:Z2x nx bs) (hK:K (.ret v') ⟨h.next+nx,UT (Z7c h.next bs) h.bs⟩):Zi P f args h K:=by
 intro E w rs he hl
 refine (hp (E.bor none w true) w rs ZcN (ha E w rs he hl)).mono ?_
 rintro e w' ⟨E₁,r,rfl,hev,hr⟩
 let E':Env:=⟨fun x=>if x<h.next then E.blk x else E₁.blk (x-h.next),E.imm⟩
 have hE'old:∀x,x<h.next->E'.blk x=E.blk x:=fun x hx=>if_pos hx
 have hE'new:∀x,E'.blk (h.next+x)=E₁.blk x:=fun x=>by
  grind
 have hfresh:∀x,E.blk x≠none->x<h.next:=fun x hx=>by
  rcases Jm x h.next with hl|hg
  ·exact hl
  ·exact absurd (he.fresh x hg) hx
 have hle:E.le E':=⟨fun x q hx=>by rw [hE'old x (hfresh x (by rw [hx];simp))];exact hx,fun _ _ h=>h⟩
 have hkeep:∀b,b<w.heap.size->w'.heap[b]? =w.heap[b]?:=fun b hb=>hev.keep b hb (fun ⟨x,B,N,hx,_⟩=>by simp [Z7.get,Zr] at hx)
 have hlt:∀b o,w.heap[b]? =some o->b<w.heap.size:=fun b o ho=>by
  grind
 have hcell:∀a c,w.cell? a=some c->w'.cell? a=some c:=fun a c hc=>by
  grind [World.cell?]
 have hget:∀y B,Z7.get ⟨h.next+nx,UT (Z7c h.next bs) h.bs⟩ y=some B->(∃x,y=h.next+x/\Zr bs x=some B)\/(y<h.next/\h.get y=some B):=fun y B hy=>by
  simp only [Z7.get,Z55] at hy
  split at hy
  ·simp_all [Z9S]
  ·exact .inr ⟨he.lt y B hy,hy⟩
 have hnewsz:∀x B b N,Zr bs x=some B->E₁.blk x=some (b,N)->w.heap.size<=b:=fun x B b N hx hb=>by
  rcases hev.own b ⟨x,B,N,hx,hb⟩ with ⟨z,C,M,hz,_⟩|hq
  all_goals simp_all [Z7.get,Zr]
 have hemb:Emb E' ⟨h.next+nx,UT (Z7c h.next bs) h.bs⟩ w':=by
  refine ⟨?_, ?_, ?_, ?_, ?_, ?_⟩
  ·intro x hx
   have hx':h.next+nx<=x:=hx
   obtain ⟨y,rfl⟩:=Nat.exists_eq_add_of_le (show h.next<=x by omega)
   rw [hE'new]
   exact hev.emb.fresh y (by simp_all)
  ·intro y B hy
   show y<h.next+nx
   rcases hget y B hy with ⟨x,rfl,hx⟩|⟨hlt',_⟩
   ·have:=(UU hb x B hx).1;omega
   ·omega
  ·intro y B hy
   rcases hget y B hy with ⟨x,rfl,hx⟩|⟨hlt',hy'⟩
   ·exact (UU hb x B hx).2.move (hE'new x) (hev.emb.own x B hx)
   ·have h1:=(he.own y B hy').mono hle (fun hn=>by rw [hE'old y hlt'];exact hn)
    refine h1.congr fun b N hbb=> ?_
    rw [hE'old y hlt'] at hbb
    exact hkeep b ((he.own y B hy').lt hbb)
  ·intro y z B C b N N' hy hz hby hbz
   rcases hget y B hy with ⟨x,rfl,hx⟩|⟨hly,hy'⟩<;>rcases hget z C hz with ⟨x',rfl,hx'⟩|⟨hlz,hz'⟩
   ·rw [hE'new] at hby hbz
    rw [hev.emb.disj x x' B C b N N' hx hx' hby hbz]
   ·rw [hE'new] at hby
    rw [hE'old z hlz] at hbz
    have:=hnewsz x B b N hx hby
    have:=(he.own z C hz').lt hbz
    omega
   ·rw [hE'new] at hbz
    rw [hE'old y hly] at hby
    have:=hnewsz x' C b N' hx' hbz
    have:=(he.own y B hy').lt hby
    omega
   ·rw [hE'old y hly] at hby
    rw [hE'old z hlz] at hbz
    exact he.disj y z B C b N N' hy' hz' hby hbz
  ·intro a c hi
   exact hcell a c (he.imm a c hi)
  ·intro a c y B N hi hy hbb
   rcases hget y B hy with ⟨x,rfl,hx⟩|⟨hly,hy'⟩
   ·rw [hE'new] at hbb
    have:=hnewsz x B _ N hx hbb
    have hc:=he.imm a c hi
    simp_all [World.cell?]
   ·rw [hE'old y hly] at hbb
    exact he.sep a c y B N hi hy' hbb
 refine ⟨E',.ret v',_,hK,⟨hle,hemb,hev.size,hev.os,hev.tape,hev.output,fun b hb' _=>hkeep b hb', ?_,fun _ _ h=>h⟩,.ret _ _ (Z6b (fun x q hx=>by rw [hE'new];exact hx) v v' r hv hr)⟩
 rintro b ⟨y,B,N,hy,hbb⟩
 rcases hget y B hy with ⟨x,rfl,hx⟩|⟨hly,hy'⟩
 ·grind
 ·rw [hE'old y hly] at hbb
  exact .inl ⟨y,B,N,hy',hbb⟩
theorem ZcO {w:World} {h:Z7} {x:Nat} (he:Emb E h w) (hx:h.get x=some B) (hp:Vw B):Emb (E.bor (some x) w true) ⟨1,[(0,B)]⟩ w:=by
 have hget:∀y C,Z7.get ⟨1,[(0,B)]⟩ y=some C->y=0/\C=B:=fun y C hy=>by
  grind [Z7.get,Zr,J0]
 refine ⟨fun y hy=> ?_,fun y C hy=> ?_,fun y C hy=> ?_,fun y z C D b N N' hy hz _ _=> ?_,fun a c h=>h.1,fun a c y C N hi hy hb=> ?_⟩
 ·have hy':1<=y:=hy
  match y,hy' with
  | y+1,_=>rfl
 ·grind
 ·obtain ⟨rfl,rfl⟩:=hget y C hy
  exact hp.move (E:=E) (x:=x) rfl (he.own x _ hx)
 ·rw [(hget y C hy).1,(hget z D hz).1]
 ·obtain ⟨rfl,rfl⟩:=hget y C hy
  exact hi.2 x N rfl hb
theorem Zd.nothing (E E':Env) (r:Value) (h:Zd E (.tuple []) r):Zd E' (.tuple []) r:=by
 cases h with
 | tuple vs rs hl=>cases hl;exact .tuple [] [] .nil
theorem Z4x.calls {P:Program} {f:FuncId} {v:AV} {h:Z7} {K:KO} {x:Nat} (hc:Z4x P f args₀ (.flat cs) v B') (hx:h.get x=some (.flat cs)) (hp:YD cs=true) (hne:csz cs≠0) (hp':Vw B') (hv:∀(E E':Env) (r:Value),Zd E v r->Zd E' v r)
  (ha:∀(E:Env) (w:World) (rs:List Value),Emb E h w->Zv E args rs->Zv (E.bor (some x) w true) args₀ rs)
  (hK:K (.ret v) (h.set x B')):Zi P f args h K:=by
 intro E w rs he hl
 refine (hc (E.bor (some x) w true) w rs (ZcO he hx (.flat _ hp)) (ha E w rs he hl)).mono ?_
 rintro e w' ⟨E₁,r,rfl,hev,hr⟩
 have hex:∃b N,E.blk x=some (b,N):=by
  cases he.own x _ hx with
  | flat0 cs h0 hn=>omega
  | flat cs b cells elem fr vs hb hw hf hc hv=>simp_all
 obtain ⟨b0,N0,hbx⟩:=hex
 have hE1:E₁.blk 0=some (b0,N0):=hev.le.blk 0 _ hbx
 have hown:∀b,YT (E.bor (some x) w true) ⟨1,[(0,.flat cs)]⟩ b->b=b0:=fun b ⟨y,C,N,hy,hb⟩=>by
  simp only [Z7.get,Zr] at hy
  split at hy
  ·rename_i hq
   have:=J0 hq
   subst this
   have hb':E.blk x=some (b,N):=hb
   simp_all
  ·cases hy
 have hkeep:∀b,b<w.heap.size->b≠b0->w'.heap[b]? =w.heap[b]?:=fun b hb hn=>hev.keep b hb (fun ho=>hn (hown b ho))
 have hget:∀y C,(h.set x B').get y=some C->(y=x/\C=B')\/(y≠x/\h.get y=some C):=fun y C hy=>by
  grind [Z7.get_set_same,Z7.get_set_other]
 have hget':∀y C,(h.set x B').get y=some C->∃C',h.get y=some C':=fun y C hy=>by
  grind
 have hemb:Emb E (h.set x B') w':=by
  refine ⟨he.fresh, ?_, ?_, ?_, ?_, ?_⟩
  ·intro y C hy
   obtain ⟨C',h'⟩:=hget' y C hy
   exact he.lt y C' h'
  ·intro y C hy
   rcases hget y C hy with ⟨rfl,rfl⟩|⟨hn,h'⟩
   ·exact hp'.move (E:=E₁) (x:=0) (hbx.trans hE1.symm) (hev.emb.own 0 _ rfl)
   ·refine (he.own y C h').congr fun b M hb=>hkeep b ((he.own y C h').lt hb) ?_
    rintro rfl
    exact hn (he.disj y x C _ b M N0 h' hx hb hbx)
  ·intro y z C D b M M' hy hz hby hbz
   obtain ⟨C',hy'⟩:=hget' y C hy
   obtain ⟨D',hz'⟩:=hget' z D hz
   exact he.disj y z C' D' b M M' hy' hz' hby hbz
  ·intro a c hi
   have hc:=he.imm a c hi
   have hlt:a.block<w.heap.size:=by
    grind [World.cell?]
   have hn:a.block≠b0:=by
    rintro rfl
    exact he.sep a c x _ N0 hi hx hbx
   simpa [World.cell?,hkeep _ hlt hn] using hc
  ·intro a c y C M hi hy hb
   obtain ⟨C',hy'⟩:=hget' y C hy
   exact he.sep a c y C' M hi hy' hb
 refine ⟨E,.ret v,_,hK,⟨.refl E,hemb,hev.size,hev.os,hev.tape,hev.output,fun b hb hno=>hkeep b hb ?_, ?_,fun _ _ h=>h⟩,.ret _ _ (hv _ _ _ hr)⟩
 ·rintro rfl
  exact hno ⟨x,_,N0,hx,hbx⟩
 ·rintro b ⟨y,C,M,hy,hb⟩
  obtain ⟨C',hy'⟩:=hget' y C hy
  exact .inl ⟨y,C',M,hy',hb⟩
def Z4y (P:Program) (f:FuncId) (args:List AV) (n:Nat) (bs:List (Nat×Blk)) (v:AV):Prop:=
 ∀(E:Env) (w:World) (rs:List Value),Emb E ⟨n,bs⟩ w->Zv E args rs->Calls P f rs.toArray w fun e w'=>∃E' r,e=.returned r/\Evo E ⟨n,bs⟩ w E' ⟨n,bs⟩ w'/\Zd E' v r
theorem Z4y.of {P:Program} {f:FuncId} {n:Nat} {bs:List (Nat×Blk)} {v:AV} (h:Zi P f args ⟨n,bs⟩ (Wk n τ v n bs)):Z4y P f args n bs v:=
 fun _ _ _ he hl=>Z08 h he hl
def Env.sub (E:Env) (σ:List Nat):Env:=⟨fun y=>match σ[y]? with|some x=>E.blk x|none=>none,fun _ _=>False⟩
def Wu:Nat->List Nat->List Blk->List (Nat×Blk)
 | k,_::σ,B::Bs=>(k,B)::Wu (k+1) σ Bs
 | _,_,_=>[]
theorem XR:∀(σ:List Nat) (Bs:List Blk) (k y:Nat) (B:Blk),Zr (Wu k σ Bs) y=some B->∃i x,y=k+i/\σ[i]? =some x/\Bs[i]? =some B
 | [],Bs,k,y,B,h=>by simp [Wu,Zr] at h
 | _::_,[],k,y,B,h=>by simp [Wu,Zr] at h
 | x::σ,C::Bs,k,y,B,h=>by
  simp only [Wu,Zr] at h
  split at h
  ·rename_i hb
   have:=J0 hb
   cases h
   exact ⟨0,x,by omega,rfl,rfl⟩
  ·obtain ⟨i,x',rfl,h1,h2⟩:=XR σ Bs (k+1) y B h
   exact ⟨i+1,x',by omega,by simpa using h1,by simpa using h2⟩
theorem Z56:∀(σ:List Nat) (Bs:List Blk) (k i x:Nat) (B:Blk),σ[i]? =some x->Bs[i]? =some B->Zr (Wu k σ Bs) (k+i)=some B
 | [],Bs,k,i,x,B,h,_=>by simp at h
 | _::_,[],k,i,x,B,_,h=>by simp at h
 | y::σ,C::Bs,k,0,x,B,h1,h2=>by
  simp_all [Wu,Zr]
 | y::σ,C::Bs,k,i+1,x,B,h1,h2=>by
  have:=Z56 σ Bs (k+1) i x B (by simp_all) (by simp_all)
  grind [Wu,Zr,Zu]
theorem Z4y.calls {P:Program} {f:FuncId} {σ:List Nat} {Bs:List Blk} {v:AV} {h:Z7} (hc:Z4y P f args₀ σ.length (Wu 0 σ Bs) v)
  (hl:σ.length=Bs.length) (inj:∀(i j x:Nat),σ[i]? =some x->σ[j]? =some x->i=j) (hx:∀(i x:Nat) (B:Blk),σ[i]? =some x->Bs[i]? =some B->h.get x=some B) (hp:∀B∈Bs,Vw B)
  (ha:∀(E:Env) (w:World) (rs:List Value),Emb E h w->Zv E args rs->Zv (E.sub σ) args₀ rs)
  (hv:∀(E E₁:Env) (r:Value),(E.sub σ).le E₁->(∀x,σ.length<=x->E₁.blk x=none)->(∀x∈σ,∃q,E.blk x=some q)->Zd E₁ v r->Zd E v' r) (hne:∀(E:Env) (w:World),Emb E h w->∀x∈σ,∃q,E.blk x=some q)
  (hK:K v'):Zi P f args h fun o h'=>∃v,o=.ret v/\h'=h/\K v:=by
 intro E w rs he hr
 have hlt:∀i x,σ[i]? =some x->i<σ.length:=fun i x hi=>(Jb.1 hi).1
 have hB:∀i x,σ[i]? =some x->∃B,Bs[i]? =some B:=fun i x hi=>by
  have:=hlt i x hi
  exact ⟨Bs[i],J8 (by omega)⟩
 have hsub:∀i x,σ[i]? =some x->(E.sub σ).blk i=E.blk x:=fun i x hi=>by simp [Env.sub,hi]
 have hnone:∀i,σ.length<=i->(E.sub σ).blk i=none:=fun i hi=>by simp [Env.sub,Jt hi]
 have hemb:Emb (E.sub σ) ⟨σ.length,Wu 0 σ Bs⟩ w:=by
  refine ⟨hnone, ?_, ?_, ?_,fun _ _ h=>h.elim,fun _ _ _ _ _ h=>h.elim⟩
  ·intro y B hy
   obtain ⟨i,x,rfl,h1,_⟩:=XR σ Bs 0 y B hy
   grind
  ·intro y B hy
   obtain ⟨i,x,rfl,h1,h2⟩:=XR σ Bs 0 y B hy
   rw [Jo]
   exact (hp B (K6 h2)).move (hsub i x h1) (he.own x B (hx i x B h1 h2))
  ·intro y z B C b N N' hy hz hby hbz
   obtain ⟨i,x,rfl,h1,h2⟩:=XR σ Bs 0 y B hy
   obtain ⟨j,x',rfl,h3,h4⟩:=XR σ Bs 0 z C hz
   rw [Jo] at hby hbz⊢
   rw [hsub i x h1] at hby
   rw [hsub j x' h3] at hbz
   have:=he.disj x x' B C b N N' (hx i x B h1 h2) (hx j x' C h3 h4) hby hbz
   grind
 refine (hc (E.sub σ) w rs hemb (ha E w rs he hr)).mono ?_
 rintro e w' ⟨E₁,r,rfl,hev,hvr⟩
 have hkeep:∀b,b<w.heap.size->(∀i x N,σ[i]? =some x->E.blk x=some (b,N)->False)->w'.heap[b]? =w.heap[b]?:=fun b hb hn=>hev.keep b hb (fun ⟨y,B,N,hy,hbb⟩=>by
  obtain ⟨i,x,rfl,h1,_⟩:=XR σ Bs 0 y B hy
  rw [Jo,hsub i x h1] at hbb
  exact hn i x N h1 hbb)
 have hemb':Emb E h w':=by
  refine ⟨he.fresh,he.lt, ?_,he.disj, ?_,he.sep⟩
  ·intro y B hy
   by_cases hin:∃i:Nat,σ[i]? =some y
   ·obtain ⟨i,hi⟩:=hin
    obtain ⟨B',hB'⟩:=hB i y hi
    have hBB:=hx i y B' hi hB'
    rw [hy] at hBB
    cases hBB
    cases hq:E.blk y with
    | none=>
     obtain ⟨q,hq'⟩:=hne E w he y (K6 hi)
     rw [hq] at hq'
     cases hq'
    | some q=>
     have h0:(E.sub σ).blk i=some q:=(hsub i y hi).trans hq
     have h1:E₁.blk i=some q:=hev.le.blk i q h0
     have hg:Z7.get ⟨σ.length,Wu 0 σ Bs⟩ i=some B:=by
      have:=Z56 σ Bs 0 i y B hi hB'
      rwa [Jo] at this
     exact (hp B (K6 hB')).move (E:=E₁) (x:=i) (hq.trans h1.symm) (hev.emb.own i B hg)
   ·refine (he.own y B hy).congr fun b N hb=>hkeep b ((he.own y B hy).lt hb) ?_
    intro i x N' hi hbx
    obtain ⟨B',hB'⟩:=hB i x hi
    have:=he.disj y x B B' b N N' hy (hx i x B' hi hB') hb hbx
    subst this
    exact hin ⟨i,hi⟩
  ·intro a c hi
   have hcc:=he.imm a c hi
   have hlt':a.block<w.heap.size:=by
    rcases Jm a.block w.heap.size with hl|hg
    ·exact hl
    ·simp [World.cell?,Kc hg] at hcc
   have hk:=hkeep a.block hlt' (fun i x N hi' hbx=>by
    obtain ⟨B',hB'⟩:=hB i x hi'
    exact he.sep a c x B' N hi (hx i x B' hi' hB') hbx)
   simpa [World.cell?,hk] using hcc
 refine ⟨E,.ret v',h,⟨v',rfl,rfl,hK⟩,⟨.refl E,hemb',hev.size,hev.os,hev.tape,hev.output,fun b hb hno=>hkeep b hb (fun i x N hi hbx=> ?_),fun b ho=>.inl ho,fun _ _ h=>h⟩,.ret _ _ (hv E E₁ r hev.le hev.emb.fresh (hne E w he) hvr)⟩
 obtain ⟨B',hB'⟩:=hB i x hi
 exact hno ⟨x,B',N,hx i x B' hi hB',hbx⟩
theorem Zlg {a b:Nat} (h:a≠b):∀(i j x:Nat),([a,b]:List Nat)[i]? =some x->([a,b]:List Nat)[j]? =some x->i=j
 | 0,0,_,_,_=>rfl
 | 0,1,x,h1,h2=>by simp_all
 | 1,0,x,h1,h2=>by simp_all
 | 1,1,_,_,_=>rfl
 | i+2,_,x,h1,_=>by simp at h1
 | 0,j+2,x,_,h2=>by simp at h2
 | 1,j+2,x,_,h2=>by simp at h2
theorem Z7d {h:Z7} {w:World} {x:Nat} (he:Emb E h w) (hx:h.get x=some (.flat cs)) (hn:csz cs≠0):∃q,E.blk x=some q:=by
 cases he.own x _ hx with
 | flat0 cs h0 hn'=>omega
 | flat cs b cells elem fr vs hb hw hf hc hv=>simp_all
theorem Y6.psumm {P:Program} {f:FuncId} {h:Z7} {d:Nat}
  (hl:X1 none h true d args fun a₀=>∃v,Y6 P f a₀ v 0 []/\(∀d,shV d v=some v)/\K v):Zi P f args h fun o h'=>∃v,o=.ret v/\h'=h/\K v:=by
 obtain ⟨a₀,⟨v,hp,hs,hK⟩,ha⟩:=Wb (fun x hx=>by cases hx) _ _ _ _ hl
 refine hp.calls (v':=v) (fun E w rs he hr=>ha E w rs he hr) (hs _) trivial ?_
 exact ⟨v,rfl,rfl,hK⟩
theorem Y6.fsumm {P:Program} {f:FuncId} {h:Z7} {d:Nat} {K:KO}
  (hl:X1 none h true d args fun a₀=>∃v v' nx bs,Y6 P f a₀ v nx bs/\shV h.next v=some v'/\Z2x nx bs/\K (.ret v') ⟨h.next+nx,UT (Z7c h.next bs) h.bs⟩):Zi P f args h K:=by
 obtain ⟨a₀,⟨v,v',nx,bs,hp,hs,hb,hK⟩,ha⟩:=Wb (fun x hx=>by cases hx) _ _ _ _ hl
 exact hp.calls (fun E w rs he hr=>ha E w rs he hr) hs hb hK
theorem Y6.ev (hG:G.Ok) {n:Nat} {f:FuncId} {v:AV} {bs:List (Nat×Blk)} (h:evF G n f args ⟨0,[]⟩ (Wk 0 τ v nx bs)):Y6 G.P f args v nx bs:=.of (Z01 hG h)
theorem Z4x.ev (hG:G.Ok) {n:Nat} {f:FuncId} {v:AV} (h:evF G n f args ⟨1,[(0,B)]⟩ (Wk 1 τ v 1 [(0,B')])):Z4x G.P f args B v B':=.of (Z01 hG h)
theorem Z4y.ev (hG:G.Ok) {n:Nat} {f:FuncId} {v:AV} {bs:List (Nat×Blk)} (h:evF G n f args ⟨nx,bs⟩ (Wk nx τ v nx bs)):Z4y G.P f args nx bs v:=.of (Z01 hG h)
noncomputable abbrev PP:Program:=Go.Proofs.Tryz.prog
noncomputable def G0:Zf:={ P:=PP,draw:=ZcC PP,psumm:=fun _=>none,fsumm:=fun _=>none,lsumm:=fun _ _=>none,fuel:=100}
theorem Zt:G0.Ok where
 draw:=fun _ _ _ _ _ _ hcx hro h _=>ZcH hcx hro h
 psumm:=fun _ _ _ _ _ h=>by simp [G0] at h
 fsumm:=fun _ _ _ _ _ h=>by simp [G0] at h
 lsumm:=fun _ _ _ _ _ _ h=>by simp [G0] at h
def Z8P (w n:Int):Int:=bOr .u32 (Zx .u32 w n) (Zm .u32 w (32-n))
def Wz (shift:Int) (places:LI) (w:Int):Int:=places.foldl (fun x n=>YC .u32 x (Z8P w (32-n))) (Zm .u32 w shift)
theorem Zjr (w:Int) :
  evF G0 20 184 [.int .u32 w,.pview [.int .i64 3] 0,.pview [.vints .i64 [7,18] 2] 0] ⟨0,[]⟩ (Wk 0 [] (.int .u32 (Wz 3 [7,18] w)) 0 []):=by
 refine @Eq.mpr _ (Z6 (decide (YC u32 (YC u32 (Zm u32 w 3) (bOr u32 (Zx u32 w 25) (Zm u32 w 7))) (bOr u32 (Zx u32 w 14) (Zm u32 w 18))=Wz 3 [(7:Int),18] w)) True False) (by kernel_rfl) ?_
 exact nd (by kernel_rfl) trivial
theorem Zjs (w:Int) :
  evF G0 20 184 [.int .u32 w,.pview [.int .i64 10] 0,.pview [.vints .i64 [17,19] 2] 0] ⟨0,[]⟩ (Wk 0 [] (.int .u32 (Wz 10 [17,19] w)) 0 []):=by
 refine @Eq.mpr _ (Z6 (decide (YC u32 (YC u32 (Zm u32 w 10) (bOr u32 (Zx u32 w 15) (Zm u32 w 17))) (bOr u32 (Zx u32 w 13) (Zm u32 w 19))=Wz 10 [(17:Int),19] w)) True False) (by kernel_rfl) ?_
 exact nd (by kernel_rfl) trivial
theorem Zjt (w:Int) :
  evF G0 20 184 [.int .u32 w,.pview [.int .i64 32] 0,.pview [.vints .i64 [2,13,22] 3] 0] ⟨0,[]⟩ (Wk 0 [] (.int .u32 (Wz 32 [2,13,22] w)) 0 []):=by
 refine @Eq.mpr _ (Z6 (decide (YC u32 (YC u32 (YC u32 (Zm u32 w 32) (bOr u32 (Zx u32 w 30) (Zm u32 w 2))) (bOr u32 (Zx u32 w 19) (Zm u32 w 13))) (bOr u32 (Zx u32 w 10) (Zm u32 w 22))=Wz 32 [(2:Int),13,22] w)) True False) (by kernel_rfl) ?_
 exact nd (by kernel_rfl) trivial
theorem Zju (w:Int) :
  evF G0 20 184 [.int .u32 w,.pview [.int .i64 32] 0,.pview [.vints .i64 [6,11,25] 3] 0] ⟨0,[]⟩ (Wk 0 [] (.int .u32 (Wz 32 [6,11,25] w)) 0 []):=by
 refine @Eq.mpr _ (Z6 (decide (YC u32 (YC u32 (YC u32 (Zm u32 w 32) (bOr u32 (Zx u32 w 26) (Zm u32 w 6))) (bOr u32 (Zx u32 w 21) (Zm u32 w 11))) (bOr u32 (Zx u32 w 7) (Zm u32 w 25))=Wz 32 [(6:Int),11,25] w)) True False) (by kernel_rfl) ?_
 exact nd (by kernel_rfl) trivial
def Zjv:Yk:=fun args h K=>X1 none h true 20 args fun a=>match a with
 | [.int .u32 w,.pview [.int .i64 s] 0,.pview [.vints .i64 ps len] 0]=>
  match decide (s=3/\ps=[7,18]/\len=2) with
  | true=>K (.int .u32 (Wz 3 [7,18] w))
  | false=>match decide (s=10/\ps=[17,19]/\len=2) with
  | true=>K (.int .u32 (Wz 10 [17,19] w))
  | false=>match decide (s=32/\ps=[2,13,22]/\len=3) with
  | true=>K (.int .u32 (Wz 32 [2,13,22] w))
  | false=>match decide (s=32/\ps=[6,11,25]/\len=3) with
  | true=>K (.int .u32 (Wz 32 [6,11,25] w))
  | false=>False
 | _=>False
theorem Z8Q {h:Z7} {t:Bool} {d:Nat} {l:List AV} {K K':List AV->Prop} (hm:∀x,mv=some x->∃B,h.get x=some B) (hl:X1 mv h t d l K) (hK:∀a,K a->K' a):
  ∃l₀,K' l₀/\∀(E:Env) (w:World) (r:List Value),Emb E h w->Zv E l r->Zv (E.bor mv w t) l₀ r:=
 let ⟨l₀,h1,h2⟩:=Wb hm _ _ _ _ hl;⟨l₀,hK _ h1,h2⟩
theorem Z0M {P:Program} {f:FuncId} {h:Z7} {d:Nat} {K0:List AV->Prop} (hl:X1 none h true d args K0) (hK:∀a,K0 a->∃v,Y6 P f a v 0 []/\(∀d,shV d v=some v)/\K v):
  Zi P f args h fun o h'=>∃v,o=.ret v/\h'=h/\K v:=by
 obtain ⟨a₀,⟨v,hp,hs,hKv⟩,ha⟩:=Z8Q (fun x hx=>by cases hx) hl hK
 refine hp.calls (v':=v) (fun E w rs he hr=>ha E w rs he hr) (hs _) trivial ?_
 exact ⟨v,rfl,rfl,hKv⟩
theorem Zfq (args:List AV) (h:Z7) (K:AV->Prop) (hl:Zjv args h K):Zi PP 184 args h fun o h'=>∃v,o=.ret v/\h'=h/\K v:=by
 refine Z0M hl fun a ha=> ?_
 split at ha
 ·rename_i w s ps len
  split at ha
  ·rename_i hd
   obtain ⟨rfl,rfl,rfl⟩:=of_decide_eq_true hd
   exact ⟨_,.ev Zt (Zjr w),fun _=>rfl,ha⟩
  ·split at ha
   ·rename_i hd
    obtain ⟨rfl,rfl,rfl⟩:=of_decide_eq_true hd
    exact ⟨_,.ev Zt (Zjs w),fun _=>rfl,ha⟩
   ·split at ha
    ·rename_i hd
     obtain ⟨rfl,rfl,rfl⟩:=of_decide_eq_true hd
     exact ⟨_,.ev Zt (Zjt w),fun _=>rfl,ha⟩
    ·split at ha
     ·rename_i hd
      obtain ⟨rfl,rfl,rfl⟩:=of_decide_eq_true hd
      exact ⟨_,.ev Zt (Zju w),fun _=>rfl,ha⟩
     simp_all
 simp_all
theorem w64 {x:Int} (h: -9223372036854775808<=x/\x<9223372036854775808):i64.wrap x=x:=by
 grind [wrap,IntKind.bits,IntKind.signed]
theorem tm {a n:Int} (h:0<=a):a.tmod n=a%n:=Int.tmod_eq_emod_of_nonneg h
def atI (i t:Int):Nat:=0+(Int.tmod (i64.wrap (i64.wrap (i+64)-t)) 8).toNat
theorem Zlh (i t:Int) (x:LI) (hi:0<=i/\i<8/\0<=t/\t<64):
  evF G0 20 161 [.int .i64 i,.ptr (some ⟨0,0,0,0,0⟩),.ptr (some ⟨1,0,0,0,0⟩)] ⟨2,[(0,.flat [.arr .u32 8 x]),(1,.flat [.int .i64 t])]⟩ (Wk 2 [] (.ptr (some ⟨0,0,0,0,atI i t⟩)) 2 [(0,.flat [.arr .u32 8 x]),(1,.flat [.int .i64 t])]):=by
 refine @Eq.mpr _ (let a:=Int.tmod (wrap i64 (wrap i64 (i+64)-t)) 8;
 Z6 (decide (0<=a/\a<8)) (Z6 (decide (0+Int.toNat a=atI i t)) (x=x/\Z6 (decide (t=t)) True False) False) False) (by kernel_rfl) ?_
 conv=>zeta
 have e1:i64.wrap (i+64)=i+64:=w64 (by omega)
 have e2:i64.wrap (i+64-t)=i+64-t:=w64 (by omega)
 refine nd ?_ (nd rfl ⟨rfl,nd rfl trivial⟩)
 rw [e1,e2,tm (by omega)]
 omega
def atS:Yk:=fun args h K=>match args with
 | [.int .i64 i,.ptr (some ⟨b,0,0,0,0⟩),.ptr (some ⟨c,0,0,0,0⟩)]=>match h.get b,h.get c,Nat.beq b c with
  | some (.flat [.arr .u32 8 _]),some (.flat [.int .i64 t]),false=>Z5 (0<=i/\i<8/\0<=t/\t<64) (K (.ptr (some ⟨b,0,0,0,atI i t⟩)))
  | _,_,_=>False
 | _=>False
theorem Zi0 (args:List AV) (h:Z7) (K:AV->Prop) (hl:atS args h K):Zi PP 161 args h fun o h'=>∃v,o=.ret v/\h'=h/\K v:=by
 unfold atS at hl
 split at hl
 ·rename_i i b c
  split at hl
  ·rename_i x t hb hc hne
   obtain ⟨hi,hK⟩:=Zg hl
   have hne':b≠c:=fun e=>by simp_all
   refine Z4y.calls (σ:=[b,c]) (Bs:=[.flat [.arr .u32 8 x],.flat [.int .i64 t]]) (Z4y.ev Zt (Zlh i t x hi)) rfl (Zlg hne') ?_ ?_ ?_ ?_ ?_ hK
   ·intro j y B hj hB
    match j with
    | 0=>simp_all
    | 1=>simp_all
    | j+2=>simp at hj
   ·intro B hB
    simp at hB
    rcases hB with rfl|rfl
    ·exact .flat _ rfl
    ·exact .flat _ rfl
   ·intro E w rs he hr
    cases hr with
    | cons v r1 vs rs1 h1 hr=>cases hr with
     | cons v r2 vs rs2 h2 hr=>cases hr with
      | cons v r3 vs rs3 h3 hr=>
       cases hr
       cases h1
       cases h2 with
       | ptr p b' N hb'=>cases h3 with
        | ptr p' c' N' hc'=>exact .cons _ _ _ _ (.int _ _) (.cons _ _ _ _ (.ptr ⟨0,0,0,0,0⟩ b' N hb') (.cons _ _ _ _ (.ptr ⟨1,0,0,0,0⟩ c' N' hc') .nil))
   ·intro E E₁ r hle hfr hq hv
    obtain ⟨q,hq⟩:=hq b (by simp)
    have h0:E₁.blk 0=some q:=hle.blk 0 q hq
    cases hv with
    | ptr p b' N hb'=>
     rw [h0] at hb'
     cases hb'
     exact .ptr ⟨b,0,0,0,atI i t⟩ b' N hq
   grind [Z7d,csz]
  simp_all
 simp_all
noncomputable def G1:Zf:=(G0.withP 184 Zjv).withP 161 atS
theorem Zhd:G1.Ok:=Zf.withP_ok (Zf.withP_ok Zt Zfq) Zi0
noncomputable def Z0N:Code:=rfA PP 136 0
noncomputable def Z0O:Code:=rfB PP 136 0
def Vx:LI:=[1116352408,1899447441,3049323471,3921009573,961987163,1508970993,2453635748,2870763221,3624381080,310598401,607225278,1426881987,1925078388,2162078206,2614888103,3248222580,3835390401,4022224774,264347078,604807628,770255983,1249150122,1555081692,1996064986,2554220882,2821834349,2952996808,3210313671,3336571891,3584528711,113926993,338241895,666307205,773529912,1294757372,1396182291,1695183700,1986661051,2177026350,2456956037,2730485921,2820302411,3259730800,3345764771,3516065817,3600352804,4094571909,275423344,430227734,506948616,659060556,883997877,958139571,1322822218,1537002063,1747873779,1955562222,2024104815,2227730452,2361852424,2428436474,2756734187,3204031479,3329325298]
def pt (n:Nat):AV:=.ptr (some ⟨n,0,0,0,0⟩)
def Z2g (st part:LI) (came:Int):Blk:=.flat [.arr .u32 8 st,.arr .u8 64 part,.int .i64 came,.bool true]
noncomputable def Zba (st part:LI) (came:Int) (m x:LI) (t:Int):St:=⟨59,[(0,.yield 23),(1,pt 13),(2,pt 20),(3,pt 21),(7,.int .i64 t)],⟨24,[
 (23,.loop ⟨.ready,none,136,137,[(0,pt 0),(6,pt 3),(7,pt 10),(8,pt 11),(9,pt 12)],[46,47],Z0N,Z0O,22⟩),(22,.defd),
 (21,.flat [.func (.func 184) [] [pt 18,pt 19]]),(20,.flat [.func (.func 184) [] [pt 15,pt 16]]),(19,.flat [.nslice ⟨17,0,0,0,0⟩ 1 2 2]),(18,.flat [.int .i64 10]),(17,.ints .i64 [17,19]),
 (16,.flat [.nslice ⟨14,0,0,0,0⟩ 1 2 2]),(15,.flat [.int .i64 3]),(14,.ints .i64 [7,18]),(13,.flat [pt 1]),(12,.flat [.arr .u32 8 x]),
 (11,.flat [.func (.func 184) [] [pt 8,pt 9]]),(10,.flat [.func (.func 184) [] [pt 5,pt 6]]),(9,.flat [.nslice ⟨7,0,0,0,0⟩ 1 3 3]),(8,.flat [.int .i64 32]),(7,.ints .i64 [6,11,25]),
 (6,.flat [.nslice ⟨4,0,0,0,0⟩ 1 3 3]),(5,.flat [.int .i64 32]),(4,.ints .i64 [2,13,22]),(3,.flat [.arr .u32 64 Vx]),(1,.flat [.arr .u32 16 m]),(0,Z2g st part came)]⟩,[]⟩
def mAt (t:Int):Nat:=0+(Int.tmod t 16).toNat
def Z09 (t:Int) (m:LI):LI:=if t>=16 then m.set (mAt t) (u32.wrap (m.getD (mAt t) 0+u32.wrap (u32.wrap (Wz 3 [7,18] (m.getD (mAt (i64.wrap (t+1))) 0)+m.getD (mAt (i64.wrap (t+9))) 0)+Wz 10 [17,19] (m.getD (mAt (i64.wrap (t+14))) 0)))) else m
def Z6c (t:Int) (m x:LI):Int:=u32.wrap (u32.wrap (u32.wrap (u32.wrap (x.getD (atI 7 t) 0+Wz 32 [6,11,25] (x.getD (atI 4 t) 0))+YC .u32 (x.getD (atI 6 t) 0) (Xt .u32 (x.getD (atI 4 t) 0) (YC .u32 (x.getD (atI 5 t) 0) (x.getD (atI 6 t) 0))))+Vx.getD (0+t.toNat) 0)+m.getD (mAt t) 0)
def Z7e (t:Int) (m x:LI):LI:=(x.set (atI 3 t) (u32.wrap (x.getD (atI 3 t) 0+Z6c t m x))).set (atI 7 t) (u32.wrap (u32.wrap (Z6c t m x+Wz 32 [2,13,22] (x.getD (atI 0 t) 0))+bOr .u32 (Xt .u32 (x.getD (atI 0 t) 0) (bOr .u32 (x.getD (atI 1 t) 0) (x.getD (atI 2 t) 0))) (Xt .u32 (x.getD (atI 1 t) 0) (x.getD (atI 2 t) 0))))
theorem Z7f (t:Int) (m:LI):(Z09 t m).length=m.length:=by unfold Z09;split<;>simp
theorem Z7g (t:Int) (m x:LI):(Z7e t m x).length=x.length:=by unfold Z7e;simp
theorem Z6d {t:Int} (h:0<=t/\t<100):0<=Int.tmod t 16/\Int.tmod t 16<16:=by rw [tm (by omega)];omega
theorem Zi1 {i t:Int} (h:0<=i/\i<8/\0<=t/\t<64):atI i t<8:=by
 grind [atI]
theorem ZcP (st part:LI) (came:Int) (m x:LI) (t:Int) (Z Z2:Prop) (ht:0<=t) (hm:m.length=16) (hx:x.length=8) (hZ:64<=t->Z) (hZ2:t<64->Z2):
  ZF G1 20 185 0 24 (Zba st part came m x t) (fun e s=>match e with|.normal=>UP 24 [] (Zba st part came (Z09 t m) (Z7e t (Z09 t m) x) (t+1)) s Z2|.exit 0=>UP 24 [] (Zba st part came m x t) s Z|_=>False):=by
 refine @Eq.mpr _ (let u:=Int.tmod t 16;let e:=decide (0<=u/\u<16);let b:=0+Int.toNat u;let N:=wrap i64 (t+1);let l:=Int.tmod N 16;let B:=0+Int.toNat l;let g:=Int.tmod (wrap i64 (t+9)) 16;let v:=0+Int.toNat g;let f:=Int.tmod (wrap i64 (t+14)) 16;let b4:=0+Int.toNat f;let b3:=decide (b<16);let b2:=decide ((0:Int)<=0/\(0:Int)<8/\0<=t/\t<64);let b1:=decide (atI 0 t<8);let b0:=decide ((0:Int)<=1/\(1:Int)<8/\0<=t/\t<64);let a9:=decide (atI 1 t<8);let a8:=decide ((0:Int)<=2/\(2:Int)<8/\0<=t/\t<64);let a7:=decide (atI 2 t<8);let a6:=decide ((0:Int)<=4/\(4:Int)<8/\0<=t/\t<64);let a5:=decide (atI 4 t<8);let a4:=decide ((0:Int)<=5/\(5:Int)<8/\0<=t/\t<64);let a3:=decide (atI 5 t<8);let a2:=decide ((0:Int)<=6/\(6:Int)<8/\0<=t/\t<64);let a1:=decide (atI 6 t<8);let a0:=decide (0<=t/\t<64);let Y:=0+Int.toNat t;let X:=decide (Y<64);let d:=decide ((0:Int)<=7/\(7:Int)<8/\0<=t/\t<64);let a:=atI 7 t;let W:=decide (a<8);let V:=decide ((0:Int)<=3/\(3:Int)<8/\0<=t/\t<64);let c:=atI 3 t;let U:=decide (c<8);let T:=decide (u32=u32/\c<8/\c<x.length);let S:=List.getD x c 0;let s:=[(6:Int),11,25];let R:=List.getD x (atI 4 t) 0;let Q:=List.getD x (atI 6 t) 0;let P:=wrap u32 (wrap u32 (wrap u32 (List.getD x a 0+Wz 32 s R)+YC u32 Q (Xt u32 R (YC u32 (List.getD x (atI 5 t) 0) Q)))+List.getD Vx Y 0);let O:=List.getD m b 0;let r:=[(7:Int),18];let q:=[(17:Int),19];let M:=List.set m b (wrap u32 (O+wrap u32 (wrap u32 (Wz 3 r (List.getD m B 0)+List.getD m v 0)+Wz 10 q (List.getD m b4 0))));let L:=wrap u32 (P+List.getD M b 0);let K:=List.set x c (wrap u32 (S+L));let J:=decide (N=t+1);let I:=[(46:Nat),47];let p:=LoopState.ready=LoopState.ready/\(none:Option Code)=none/\(136:FuncId)=136/\(137:Nat)=137/\I=I/\Z0N=Z0N/\Z0O=Z0O;let o:=q=q;let n:=r=r;let k:=[(2:Int),13,22];let H:=List.getD x (atI 0 t) 0;let G:=Wz 32 k H;let F:=List.getD x (atI 1 t) 0;let E:=List.getD x (atI 2 t) 0;let D:=bOr u32 (Xt u32 H (bOr u32 F E)) (Xt u32 F E);let j:=Z09 t m;let C:=Z7e t j x;let i:=s=s;let h:=k=k;let A:=decide (came=came);let z:=st=st/\part=part/\Z6 A Z2 False;let y:=wrap u32 (P+O);let w:=List.set x c (wrap u32 (S+y));
 Z6 (decide (t<64))
 (Z6 (decide (t>=16))
 (Z6 e (Z6 (decide (b<16)) (Z6 (decide (0<=l/\l<16)) (Z6 (decide (B<16)) (Z6 (decide (0<=g/\g<16)) (Z6 (decide (v<16)) (Z6 (decide (0<=f/\f<16)) (Z6 (decide (b4<16)) (Z6 e (Z6 (decide (u32=u32/\b<16/\b<m.length)) (Z6 e (Z6 b3 (Z6 b2 (Z6 b1 (Z6 b0 (Z6 a9 (Z6 a8 (Z6 a7 (Z6 a6 (Z6 a5 (Z6 a4 (Z6 a3 (Z6 a2 (Z6 a1 (Z6 a0 (Z6 X (Z6 d (Z6 W (Z6 V (Z6 U (Z6 T (Z6 d (Z6 (decide (u32=u32/\a<8/\a<K.length)) (Z6 J (p/\o/\n/\List.set K a (wrap u32 (wrap u32 (L+G)+D))=C/\i/\h/\Vx=Vx/\M=j/\z) False) False) False) False) False) False) False) False) False) False) False) False) False) False) False) False) False) False) False) False) False) False) False) False) False) False) False) False) False) False) False) False) False) False)
 (Z6 e (Z6 b3 (Z6 b2 (Z6 b1 (Z6 b0 (Z6 a9 (Z6 a8 (Z6 a7 (Z6 a6 (Z6 a5 (Z6 a4 (Z6 a3 (Z6 a2 (Z6 a1 (Z6 a0 (Z6 X (Z6 d (Z6 W (Z6 V (Z6 U (Z6 T (Z6 d (Z6 (decide (u32=u32/\a<8/\a<w.length)) (Z6 J (p/\o/\n/\List.set w a (wrap u32 (wrap u32 (y+G)+D))=C/\i/\h/\Vx=Vx/\m=j/\z) False) False) False) False) False) False) False) False) False) False) False) False) False) False) False) False) False) False) False) False) False) False) False) False))
 (Z6 (decide (t=t)) (p/\o/\n/\x=x/\i/\h/\Vx=Vx/\m=m/\st=st/\part=part/\Z6 A Z False) False)) (by kernel_rfl) ?_
 conv=>zeta
 refine ifD (fun h64=> ?_) (fun h64=> ?_)
 ·have e1:i64.wrap (t+1)=t+1:=w64 (by omega)
  have b0:=Z6d (t:=t) (by omega)
  have b1:=Z6d (t:=i64.wrap (t+1)) (by omega)
  have b9:=Z6d (t:=i64.wrap (t+9)) (by rw [w64 (by omega)];omega)
  have b14:=Z6d (t:=i64.wrap (t+14)) (by rw [w64 (by omega)];omega)
  have a:∀i:Int,0<=i/\i<8->atI i t<8:=fun i hi=>Zi1 (by omega)
  refine ifD (fun h16=> ?_) (fun h16=> ?_)
  all_goals
   repeat (refine nd ?_ ?_;· first|omega|exact a _ (by omega)|exact ⟨rfl,by first|omega|exact a _ (by omega),by first|simp_all⟩)
  ·refine ⟨⟨rfl,rfl,rfl,rfl,rfl,rfl,rfl⟩,rfl,rfl, ?_,rfl,rfl,rfl, ?_,rfl,rfl,nd rfl (hZ2 h64)⟩
   ·simp only [Z09,if_pos h16];rfl
   ·simp only [Z09,if_pos h16];rfl
  ·refine ⟨⟨rfl,rfl,rfl,rfl,rfl,rfl,rfl⟩,rfl,rfl, ?_,rfl,rfl,rfl, ?_,rfl,rfl,nd rfl (hZ2 h64)⟩
   ·simp only [Z09,if_neg h16];rfl
   ·simp only [Z09,if_neg h16]
 grind [nd]
def VN (m x:LI):Nat->LI×LI
 | 0=>(m,x)
 | t+1=>let p:=VN m x t;(Z09 t p.1,Z7e t (Z09 t p.1) p.2)
theorem Z0P (m x:LI) (hm:m.length=16) (hx:x.length=8):∀t,(VN m x t).1.length=16/\(VN m x t).2.length=8
 | 0=>⟨hm,hx⟩
 | t+1=>by
  have:=Z0P m x hm hx t
  simp_all [VN,Z7f,Z7g]
theorem Z57 (m x:LI):VN m x 0=(m,x):=rfl
theorem Z58 (m x:LI) (t:Nat):VN m x (t+1)=(Z09 t (VN m x t).1,Z7e t (Z09 t (VN m x t).1) (VN m x t).2):=rfl
attribute [irreducible] VN
def Zjw (st part:LI) (came:Int) (m m' x':LI) (C:Prop):Nat->St->KE->Prop:=fun k s X=>match Nat.beq k 24 with
 | true=>UP 24 [] (Zba st part came m st 0) s (C/\X (.exit 0) (Zba st part came m' x' 64))
 | false=>False
noncomputable def G2 (st part:LI) (came:Int) (m m' x':LI) (C:Prop):Zf:=G1.withL 185 0 (Zjw st part came m m' x' C)
theorem Zjx (st part:LI) (came:Int) (m m' x':LI) (C:Prop) (hC:C->m.length=16/\st.length=8/\m'=(VN m st 64).1/\x'=(VN m st 64).2):(G2 st part came m m' x' C).Ok:=by
 refine Zf.withL_ok Zhd (by kernel_rfl) ?_
 intro k s X hl
 unfold Zjw at hl
 split at hl
 ·rename_i hk
  have:=J0 hk
  subst this
  obtain ⟨⟨hc,hX⟩,hw⟩:=Xx hl
  obtain ⟨hm,hx,rfl,rfl⟩:=hC hc
  refine ⟨{ t:Nat//t<=64},fun t=>64-t.1,fun t=>Zba st part came (VN m st t.1).1 (VN m st t.1).2 t.1,⟨0,by omega⟩,20,by grind [Z57], ?_⟩
  rintro ⟨t,ht⟩
  obtain ⟨l1,l2⟩:=Z0P m st hm hx t
  refine ⟨_,ZcP st part came (VN m st t).1 (VN m st t).2 t (t=64) (t<64) (by omega) l1 l2 (by omega) (by omega), ?_⟩
  intro e s' hY
  split at hY
  ·obtain ⟨h64,hw'⟩:=Xx hY
   refine ⟨⟨t+1,by omega⟩,by grind, ?_⟩
   grind [Z58]
  ·obtain ⟨h64,hw'⟩:=Xx hY
   subst h64
   exact ⟨_,hw',hX⟩
  simp_all
 simp_all
def XJ (b:LI) (i:Nat):Int:=bOr .u32 (Zx .u32 (bOr .u32 (Zx .u32 (bOr .u32 (Zx .u32 (bOr .u32 0 (u32.wrap (b.getD i 0))) 8) (u32.wrap (b.getD (i+1) 0))) 8) (u32.wrap (b.getD (i+2) 0))) 8) (u32.wrap (b.getD (i+3) 0))
def Vy (b:LI):LI:=[XJ b 0,XJ b 4,XJ b 8,XJ b 12,XJ b 16,XJ b 20,XJ b 24,XJ b 28,XJ b 32,XJ b 36,XJ b 40,XJ b 44,XJ b 48,XJ b 52,XJ b 56,XJ b 60]
def Zbb (st x:LI):LI:=List.zipWith (fun a b=>u32.wrap (a+b)) st x
def Wc (st part:LI):LI:=Zbb st (VN (Vy part) st 64).2
theorem Z8R (a0 a1 a2 a3 a4 a5 a6 a7 b0 b1 b2 b3 b4 b5 b6 b7:Int) (part:LI) (came:Int) (m m' st':LI) (C:Prop) (hm:m=Vy part) (hst:st'=Zbb [a0,a1,a2,a3,a4,a5,a6,a7] [b0,b1,b2,b3,b4,b5,b6,b7]) (hC:C):
  evF (G2 [a0,a1,a2,a3,a4,a5,a6,a7] part came m m' [b0,b1,b2,b3,b4,b5,b6,b7] C) 20 136 [.ptr (some ⟨0,0,0,0,0⟩),.nslice ⟨0,0,0,8,0⟩ 1 64 64] ⟨1,[(0,Z2g [a0,a1,a2,a3,a4,a5,a6,a7] part came)]⟩ (Wk 1 [] (.tuple []) 1 [(0,Z2g st' part came)]):=by
 refine @Eq.mpr _ ((LoopState.ready=LoopState.ready/\(none:Option Code)=none/\(136:FuncId)=(136:FuncId)/\(137:Nat)=(137:Nat)/\[(46:Nat),(47:Nat)]=[(46:Nat),(47:Nat)]/\Z0N=Z0N/\Z0O=Z0O)/\
 [(17:Int),(19:Int)]=[(17:Int),(19:Int)]/\
 [(7:Int),(18:Int)]=[(7:Int),(18:Int)]/\
 [a0,a1,a2,a3,a4,a5,a6,a7]=[a0,a1,a2,a3,a4,a5,a6,a7]/\
 [(6:Int),(11:Int),(25:Int)]=[(6:Int),(11:Int),(25:Int)]/\
 [(2:Int),(13:Int),(22:Int)]=[(2:Int),(13:Int),(22:Int)]/\
 [(1116352408:Int),(1899447441:Int),(3049323471:Int),(3921009573:Int),(961987163:Int),(1508970993:Int),(2453635748:Int),(2870763221:Int),(3624381080:Int),(310598401:Int),(607225278:Int),(1426881987:Int),(1925078388:Int),(2162078206:Int),(2614888103:Int),(3248222580:Int),(3835390401:Int),(4022224774:Int),(264347078:Int),(604807628:Int),(770255983:Int),(1249150122:Int),(1555081692:Int),(1996064986:Int),(2554220882:Int),(2821834349:Int),(2952996808:Int),(3210313671:Int),(3336571891:Int),(3584528711:Int),(113926993:Int),(338241895:Int),(666307205:Int),(773529912:Int),(1294757372:Int),(1396182291:Int),(1695183700:Int),(1986661051:Int),(2177026350:Int),(2456956037:Int),(2730485921:Int),(2820302411:Int),(3259730800:Int),(3345764771:Int),(3516065817:Int),(3600352804:Int),(4094571909:Int),(275423344:Int),(430227734:Int),(506948616:Int),
 (659060556:Int),(883997877:Int),(958139571:Int),(1322822218:Int),(1537002063:Int),(1747873779:Int),(1955562222:Int),(2024104815:Int),(2227730452:Int),(2361852424:Int),(2428436474:Int),(2756734187:Int),(3204031479:Int),(3329325298:Int)]=
 Vx/\
 [bOr u32 (Zx u32 (bOr u32 (Zx u32 (bOr u32 (Zx u32 (bOr u32 (0:Int) (wrap u32 (List.getD part (0:Nat) (0:Int)))) (8:Int)) (wrap u32 (List.getD part (1:Nat) (0:Int)))) (8:Int)) (wrap u32 (List.getD part (2:Nat) (0:Int)))) (8:Int)) (wrap u32 (List.getD part (3:Nat) (0:Int))),bOr u32 (Zx u32 (bOr u32 (Zx u32 (bOr u32 (Zx u32 (bOr u32 (0:Int) (wrap u32 (List.getD part (4:Nat) (0:Int)))) (8:Int)) (wrap u32 (List.getD part (5:Nat) (0:Int)))) (8:Int)) (wrap u32 (List.getD part (6:Nat) (0:Int)))) (8:Int)) (wrap u32 (List.getD part (7:Nat) (0:Int))),
 bOr u32 (Zx u32 (bOr u32 (Zx u32 (bOr u32 (Zx u32 (bOr u32 (0:Int) (wrap u32 (List.getD part (8:Nat) (0:Int)))) (8:Int)) (wrap u32 (List.getD part (9:Nat) (0:Int)))) (8:Int)) (wrap u32 (List.getD part (10:Nat) (0:Int)))) (8:Int)) (wrap u32 (List.getD part (11:Nat) (0:Int))),bOr u32 (Zx u32 (bOr u32 (Zx u32 (bOr u32 (Zx u32 (bOr u32 (0:Int) (wrap u32 (List.getD part (12:Nat) (0:Int)))) (8:Int)) (wrap u32 (List.getD part (13:Nat) (0:Int)))) (8:Int)) (wrap u32 (List.getD part (14:Nat) (0:Int)))) (8:Int)) (wrap u32 (List.getD part (15:Nat) (0:Int))),
 bOr u32 (Zx u32 (bOr u32 (Zx u32 (bOr u32 (Zx u32 (bOr u32 (0:Int) (wrap u32 (List.getD part (16:Nat) (0:Int)))) (8:Int)) (wrap u32 (List.getD part (17:Nat) (0:Int)))) (8:Int)) (wrap u32 (List.getD part (18:Nat) (0:Int)))) (8:Int)) (wrap u32 (List.getD part (19:Nat) (0:Int))),bOr u32 (Zx u32 (bOr u32 (Zx u32 (bOr u32 (Zx u32 (bOr u32 (0:Int) (wrap u32 (List.getD part (20:Nat) (0:Int)))) (8:Int)) (wrap u32 (List.getD part (21:Nat) (0:Int)))) (8:Int)) (wrap u32 (List.getD part (22:Nat) (0:Int)))) (8:Int)) (wrap u32 (List.getD part (23:Nat) (0:Int))),
 bOr u32 (Zx u32 (bOr u32 (Zx u32 (bOr u32 (Zx u32 (bOr u32 (0:Int) (wrap u32 (List.getD part (24:Nat) (0:Int)))) (8:Int)) (wrap u32 (List.getD part (25:Nat) (0:Int)))) (8:Int)) (wrap u32 (List.getD part (26:Nat) (0:Int)))) (8:Int)) (wrap u32 (List.getD part (27:Nat) (0:Int))),bOr u32 (Zx u32 (bOr u32 (Zx u32 (bOr u32 (Zx u32 (bOr u32 (0:Int) (wrap u32 (List.getD part (28:Nat) (0:Int)))) (8:Int)) (wrap u32 (List.getD part (29:Nat) (0:Int)))) (8:Int)) (wrap u32 (List.getD part (30:Nat) (0:Int)))) (8:Int)) (wrap u32 (List.getD part (31:Nat) (0:Int))),
 bOr u32 (Zx u32 (bOr u32 (Zx u32 (bOr u32 (Zx u32 (bOr u32 (0:Int) (wrap u32 (List.getD part (32:Nat) (0:Int)))) (8:Int)) (wrap u32 (List.getD part (33:Nat) (0:Int)))) (8:Int)) (wrap u32 (List.getD part (34:Nat) (0:Int)))) (8:Int)) (wrap u32 (List.getD part (35:Nat) (0:Int))),bOr u32 (Zx u32 (bOr u32 (Zx u32 (bOr u32 (Zx u32 (bOr u32 (0:Int) (wrap u32 (List.getD part (36:Nat) (0:Int)))) (8:Int)) (wrap u32 (List.getD part (37:Nat) (0:Int)))) (8:Int)) (wrap u32 (List.getD part (38:Nat) (0:Int)))) (8:Int)) (wrap u32 (List.getD part (39:Nat) (0:Int))),
 bOr u32 (Zx u32 (bOr u32 (Zx u32 (bOr u32 (Zx u32 (bOr u32 (0:Int) (wrap u32 (List.getD part (40:Nat) (0:Int)))) (8:Int)) (wrap u32 (List.getD part (41:Nat) (0:Int)))) (8:Int)) (wrap u32 (List.getD part (42:Nat) (0:Int)))) (8:Int)) (wrap u32 (List.getD part (43:Nat) (0:Int))),bOr u32 (Zx u32 (bOr u32 (Zx u32 (bOr u32 (Zx u32 (bOr u32 (0:Int) (wrap u32 (List.getD part (44:Nat) (0:Int)))) (8:Int)) (wrap u32 (List.getD part (45:Nat) (0:Int)))) (8:Int)) (wrap u32 (List.getD part (46:Nat) (0:Int)))) (8:Int)) (wrap u32 (List.getD part (47:Nat) (0:Int))),
 bOr u32 (Zx u32 (bOr u32 (Zx u32 (bOr u32 (Zx u32 (bOr u32 (0:Int) (wrap u32 (List.getD part (48:Nat) (0:Int)))) (8:Int)) (wrap u32 (List.getD part (49:Nat) (0:Int)))) (8:Int)) (wrap u32 (List.getD part (50:Nat) (0:Int)))) (8:Int)) (wrap u32 (List.getD part (51:Nat) (0:Int))),bOr u32 (Zx u32 (bOr u32 (Zx u32 (bOr u32 (Zx u32 (bOr u32 (0:Int) (wrap u32 (List.getD part (52:Nat) (0:Int)))) (8:Int)) (wrap u32 (List.getD part (53:Nat) (0:Int)))) (8:Int)) (wrap u32 (List.getD part (54:Nat) (0:Int)))) (8:Int)) (wrap u32 (List.getD part (55:Nat) (0:Int))),
 bOr u32 (Zx u32 (bOr u32 (Zx u32 (bOr u32 (Zx u32 (bOr u32 (0:Int) (wrap u32 (List.getD part (56:Nat) (0:Int)))) (8:Int)) (wrap u32 (List.getD part (57:Nat) (0:Int)))) (8:Int)) (wrap u32 (List.getD part (58:Nat) (0:Int)))) (8:Int)) (wrap u32 (List.getD part (59:Nat) (0:Int))),bOr u32 (Zx u32 (bOr u32 (Zx u32 (bOr u32 (Zx u32 (bOr u32 (0:Int) (wrap u32 (List.getD part (60:Nat) (0:Int)))) (8:Int)) (wrap u32 (List.getD part (61:Nat) (0:Int)))) (8:Int)) (wrap u32 (List.getD part (62:Nat) (0:Int)))) (8:Int)) (wrap u32 (List.getD part (63:Nat) (0:Int)))]=
 m/\
 [a0,a1,a2,a3,a4,a5,a6,a7]=[a0,a1,a2,a3,a4,a5,a6,a7]/\part=part/\Z6 (decide (came=came)) (C/\[wrap u32 (a0+b0),wrap u32 (a1+b1),wrap u32 (a2+b2),wrap u32 (a3+b3),wrap u32 (a4+b4),wrap u32 (a5+b5),wrap u32 (a6+b6),wrap u32 (a7+b7)]=st'/\part=part/\Z6 (decide (came=came)) True False) False) (by kernel_rfl) ?_
 refine ⟨⟨rfl,rfl,rfl,rfl,rfl,rfl,rfl⟩,rfl,rfl,rfl,rfl,rfl,rfl, ?_,rfl,rfl,nd rfl ⟨hC, ?_⟩⟩
 ·rw [hm];rfl
 ·exact ⟨by rw [hst];rfl,rfl,nd rfl trivial⟩
theorem eight (l:LI) (h:l.length=8):∃a b c d e f g i,l=[a,b,c,d,e,f,g,i]:=by
 match l,h with
 | [a,b,c,d,e,f,g,i],_=>simp_all
theorem Z0a (b:LI):(Vy b).length=16:=rfl
theorem Zbc (st part:LI) (came:Int) (hs:st.length=8):
  Z4x PP 136 [.ptr (some ⟨0,0,0,0,0⟩),.nslice ⟨0,0,0,8,0⟩ 1 64 64] (Z2g st part came) (.tuple []) (Z2g (Wc st part) part came):=by
 have hl:=Z0P (Vy part) st (Z0a part) hs 64
 generalize hq:VN (Vy part) st 64=q at hl
 obtain ⟨a0,a1,a2,a3,a4,a5,a6,a7,rfl⟩:=eight st hs
 obtain ⟨b0,b1,b2,b3,b4,b5,b6,b7,hb⟩:=eight q.2 hl.2
 have hG:=Zjx [a0,a1,a2,a3,a4,a5,a6,a7] part came (Vy part) q.1 q.2 True (fun _=>⟨Z0a part,hs,by rw [hq],by rw [hq]⟩)
 rw [hb] at hG
 refine Z4x.ev hG (Z8R a0 a1 a2 a3 a4 a5 a6 a7 b0 b1 b2 b3 b4 b5 b6 b7 part came (Vy part) q.1 _ True rfl ?_ trivial)
 unfold Wc
 rw [hq,hb]
def Z8S:ZS:=fun args h K=>match args with
 | [.ptr (some ⟨x,0,0,0,0⟩),.nslice ⟨y,0,0,8,0⟩ 1 64 lo]=>match Nat.beq y x,h.get x with
  | true,some (.flat [.arr .u32 8 st,.arr .u8 64 part,.int .i64 came,.bool true])=>Z5 (st.length=8/\64<=lo) (K (.ret (.tuple [])) (h.set x (Z2g (Wc st part) part came)))
  | _,_=>False
 | _=>False
theorem Zbd (args:List AV) (h:Z7) (K:KO) (hl:Z8S args h K):Zi PP 136 args h K:=by
 unfold Z8S at hl
 split at hl
 ·split at hl
  ·rename_i st part came hy hx
   have:=J0 hy
   subst this
   obtain ⟨⟨hs,hlo⟩,hK⟩:=Zg hl
   refine (Zbc st part came hs).calls hx rfl (by simp [csz]) (.flat _ rfl) Zd.nothing ?_ hK
   intro E w rs he hr
   cases hr with
   | cons v r1 vs rs1 h1 hr=>cases hr with
    | cons v r2 vs rs2 h2 hr=>
     cases hr
     cases h1 with
     | ptr p b N hb=>cases h2 with
      | nslice0 p' esz len lo' a h1 h2'=>cases h1
      | nslice p' esz len lo' b' N' cap hb' h1 h2' h3=>exact .cons _ _ _ _ (.ptr ⟨0,0,0,0,0⟩ b N hb) (.cons _ _ _ _ (.nslice ⟨0,0,0,8,0⟩ 1 64 64 b' N' cap hb' h1 (by omega) h3) .nil)
  simp_all
 simp_all
noncomputable def G3:Zf:=G1.withF 136 Z8S
theorem Zhe:G3.Ok:=Zf.withF_ok Zhd Zbd
def wAt (came:Int):Nat:=(Int.tmod came 64).toNat
def wTk (came:Int) (bs:LI):LI:=bs.take (64-wAt came)
def UV (part:LI) (came:Int) (bs:LI):LI:=spl part (wAt came) (wTk came bs)
def wSt (st part:LI) (came:Int) (bs:LI):LI:=if wAt came+(wTk came bs).length=64 then Wc st (UV part came bs) else st
def wrS (st part:LI) (came:Int) (bs:LI) (len:Nat):St:=⟨47,[(0,pt 0),(1,.vints .u8 bs len)],⟨1,[(0,Z2g st part came)]⟩,[]⟩
theorem Z8T (st part bs:LI) (came:Int) (len:Nat) (Z Z2:Prop) (hc:0<=came/\came<4611686018427387904) (hs:st.length=8) (hp:part.length=64) (hlen:len=bs.length) (hbl:bs.length<4611686018427387904) (hZ:bs=[]->Z) (hZ2:bs≠[]->Z2):
  ZF G3 20 105 0 1 (wrS st part came bs len) (fun e s=>match e with|.normal=>UP 1 [] (wrS (wSt st part came bs) (UV part came bs) (came+(wTk came bs).length) (bs.drop (wTk came bs).length) (bs.drop (wTk came bs).length).length) s Z2|.exit 0=>UP 1 [] (wrS st part came bs len) s Z|_=>False):=by
 refine @Eq.mpr _ (let b:=Int.tmod came 64;let i:=some (Int.toNat b);let h:=0+ZT i;let g:=Ur 64 i;let f:=List.take g (List.take len bs);let a:=(↑(f.length):Int);let e:=some (Int.toNat a);let d:=List.length (wTk came bs);let c:=List.drop d bs;let n:=Z1Q e bs=c;let m:=decide (Ur len e=c.length);let l:=spl part h f;let k:=wSt st part came bs;let j:=l=UV part came bs/\Z6 (decide (wrap i64 (came+a)=came+(↑d:Int))) Z2 False;
 Z6 (decide ((↑len:Int)>0)) (Z6 (decide (0<=b/\b<=64)) (Z6 (decide (u8=u8/\part.length=64/\h+g<=64)) (Z6 (decide (len<=bs.length)) (Z6 (decide (0<=a/\a<=(↑len:Int))) (Z6 (wrap i64 (b+a)==64) (Z6 (decide (st.length=8/\(64:Nat)<=64)) (n/\Z6 m (Wc st l=k/\j) False) False) (n/\Z6 m (st=k/\j) False)) False) False) False) False) (bs=bs/\Z6 (decide (len=len)) (st=st/\part=part/\Z6 (decide (came=came)) Z False) False)) (by kernel_rfl) ?_
 conv=>zeta
 subst hlen
 have t0:Int.tmod came 64=came%64:=tm hc.1
 have hat:wAt came=(came%64).toNat:=by unfold wAt;rw [t0]
 have ht:bs.take bs.length=bs:=Jp
 have hn:(wTk came bs).length<=64-wAt came/\(wTk came bs).length<=bs.length:=by unfold wTk;rw [Jd];omega
 have e0:List.take (64-(Int.tmod came 64).toNat) bs=wTk came bs:=rfl
 simp only [ZT,Ur,ht,e0,JT]
 rw [t0]
 have e1:i64.wrap (came%64+((wTk came bs).length:Int))=came%64+((wTk came bs).length:Int):=w64 (by omega)
 have e2:i64.wrap (came+((wTk came bs).length:Int))=came+((wTk came bs).length:Int):=w64 (by omega)
 refine ifD (fun hpos=> ?_) (fun hpos=> ?_)
 ·have hne:bs≠[]:=fun e=>by simp_all
  refine nd (by omega) (nd ⟨by trivial,hp,by omega⟩ (nd (by omega) (nd (by omega) ?_)))
  refine ifB (fun h64=> ?_) (fun h64=> ?_)
  ·have h64':wAt came+(wTk came bs).length=64:=by rw [beq_iff_eq] at h64;omega
   refine nd ⟨hs,by omega⟩ ⟨by trivial,nd (by rw [Ja]) ⟨?_, ?_,nd (by trivial) (hZ2 hne)⟩⟩
   all_goals simp_all [wSt,UV]
  ·have h64':¬wAt came+(wTk came bs).length=64:=by rw [beq_eq_false_iff_ne] at h64;omega
   refine ⟨by trivial,nd (by rw [Ja]) ⟨?_, ?_,nd (by trivial) (hZ2 hne)⟩⟩
   all_goals simp_all [wSt,UV]
 ·have he:bs=[]:=by
   simp_all
  exact ⟨by trivial,nd (by trivial) ⟨by trivial,by trivial,nd (by trivial) (hZ he)⟩⟩
structure ZA where
 st:LI
 part:LI
 came:Int
def ZA.blk (r:ZA):Blk:=Z2g r.st r.part r.came
def ZA.one (r:ZA) (bs:LI):ZA:=⟨wSt r.st r.part r.came bs,UV r.part r.came bs,r.came+(wTk r.came bs).length⟩
def ZA.many:Nat->ZA->LI->ZA×LI
 | 0,r,bs=>(r,bs)
 | n+1,r,bs=>match bs with
  | []=>(r,[])
  | _::_=>ZA.many n (r.one bs) (bs.drop (wTk r.came bs).length)
def ZA.write (r:ZA) (bs:LI):ZA:=(ZA.many bs.length r bs).1
structure ZA.Ok (r:ZA):Prop where
 st:r.st.length=8
 part:r.part.length=64
 came:0<=r.came
theorem Z59 (st part:LI) (h:st.length=8):(Wc st part).length=8:=by
 grind [Wc,Zbb,Z0P,Z0a]
theorem ZA.Ok.one {r:ZA} (h:r.Ok) (bs:LI):(r.one bs).Ok where
 st:=by show (wSt _ _ _ _).length=8;unfold wSt;split;exact Z59 _ _ h.st;exact h.st
 part:=by
  show (spl _ _ _).length=64
  rw [Z38]
  ·exact h.part
  ·rw [h.part]
   have h0:wAt r.came=(r.came%64).toNat:=by unfold wAt;rw [tm h.came]
   grind [wTk]
 came:=by show 0<=r.came+_;have:=h.came;omega
theorem Qo {r:ZA} (h:r.Ok) {bs:LI} (hb:bs≠[]):0<(wTk r.came bs).length:=by
 have h0:wAt r.came=(r.came%64).toNat:=by unfold wAt;rw [tm h.came]
 grind [wTk]
theorem ZcQ (c:Int) (bs:LI):(wTk c bs).length<=bs.length:=by unfold wTk;rw [Jd];omega
def wrL (r:ZA) (bs:LI) (r':ZA) (C:Prop):Nat->St->KE->Prop:=fun k s X=>match Nat.beq k 1 with
 | true=>UP 1 [] (wrS r.st r.part r.came bs bs.length) s (C/\X (.exit 0) (wrS r'.st r'.part r'.came [] 0))
 | false=>False
noncomputable def G4 (r:ZA) (bs:LI) (r':ZA) (C:Prop):Zf:=G3.withL 105 0 (wrL r bs r' C)
theorem ZcR:∀(n:Nat) (r:ZA) (bs:LI),r.Ok->bs.length<=n->(ZA.many n r bs).2=[]
 | 0,r,bs,_,h=>by cases bs with|nil=>rfl|cons b bs=>simp at h
 | n+1,r,bs,hr,h=>by
  unfold ZA.many
  split
  ·rfl
  ·rename_i b bs
   have:=Qo hr (bs:=b::bs) (by simp)
   exact ZcR n _ _ (hr.one _) (by rw [Ja];omega)
theorem Z5a:∀(n m:Nat) (r:ZA) (bs:LI),r.Ok->bs.length<=n->bs.length<=m->ZA.many n r bs=ZA.many m r bs
 | 0,0,_,_,_,_,_=>rfl
 | 0,m+1,r,bs,_,h,_=>by cases bs with|nil=>rfl|cons b bs=>simp at h
 | n+1,0,r,bs,_,_,h=>by cases bs with|nil=>rfl|cons b bs=>simp at h
 | n+1,m+1,r,bs,hr,h1,h2=>by
  unfold ZA.many
  split
  ·rfl
  ·rename_i b bs
   have:=Qo hr (bs:=b::bs) (by simp)
   exact Z5a n m _ _ (hr.one _) (by rw [Ja];omega) (by rw [Ja];omega)
theorem Zbe (r:ZA) (bs:LI) (hr:r.Ok) (hb:bs≠[]):ZA.many bs.length r bs=ZA.many (bs.drop (wTk r.came bs).length).length (r.one bs) (bs.drop (wTk r.came bs).length):=by
 cases bs with
 | nil=>simp_all
 | cons b bs=>
  have:=Qo hr hb
  exact Z5a _ _ _ _ (hr.one _) (by rw [Ja,Ju];omega) (J2 _)
theorem Zjy (r:ZA) (bs:LI) (r':ZA) (C:Prop) (hC:C->r.Ok/\r.came+bs.length<4611686018427387904/\r'=r.write bs):(G4 r bs r' C).Ok:=by
 refine Zf.withL_ok Zhe (by kernel_rfl) ?_
 intro k s X hl
 unfold wrL at hl
 split at hl
 ·rename_i hk
  have:=J0 hk
  subst this
  obtain ⟨⟨hc,hX⟩,hw⟩:=Xx hl
  obtain ⟨hr,hle,hr'⟩:=hC hc
  refine ⟨{ q:ZA×LI//q.1.Ok/\q.1.came+q.2.length<4611686018427387904/\(ZA.many q.2.length q.1 q.2).1=r'},fun q=>q.1.2.length,fun q=>wrS q.1.1.st q.1.1.part q.1.1.came q.1.2 q.1.2.length,⟨(r,bs),hr,hle,hr'.symm⟩,20,hw, ?_⟩
  rintro ⟨⟨q,cs⟩,hq,hqle,hqr⟩
  have hq0:=hq.came
  simp only at hq hqle hqr hq0
  refine ⟨_,Z8T q.st q.part cs q.came cs.length (cs=[]) (cs≠[]) ⟨hq0,by omega⟩ hq.st hq.part rfl (by omega) id id, ?_⟩
  intro e s' hY
  split at hY
  ·obtain ⟨hne,hw'⟩:=Xx hY
   have hp:=Qo hq hne
   have hl2:=ZcQ q.came cs
   have hd:(cs.drop (wTk q.came cs).length).length=cs.length-(wTk q.came cs).length:=Ja ..
   refine ⟨⟨(q.one cs,cs.drop (wTk q.came cs).length),hq.one cs, ?_, ?_⟩, ?_,hw'⟩
   ·show q.came+_+_<_
    rw [hd];omega
   all_goals grind [Zbe]
  ·obtain ⟨he,hw'⟩:=Xx hY
   subst he
   have:q=r':=hqr
   subst this
   exact ⟨_,hw',hX⟩
  simp_all
 simp_all
theorem Z8U (r r':ZA) (bs:LI) (C:Prop) (hC:C):
  evF (G4 r bs r' C) 20 105 [.ptr (some ⟨0,0,0,0,0⟩),.vints .u8 bs bs.length] ⟨1,[(0,r.blk)]⟩ (Wk 1 [] (.int .i64 0) 1 [(0,r'.blk)]):=by
 refine @Eq.mpr _ (bs=bs/\Z6 (decide (bs.length=bs.length)) (r.st=r.st/\r.part=r.part/\Z6 (decide (r.came=r.came)) (C/\r'.st=r'.st/\r'.part=r'.part/\Z6 (decide (r'.came=r'.came)) True False) False) False) (by kernel_rfl) ?_
 exact ⟨rfl,nd rfl ⟨rfl,rfl,nd rfl ⟨hC,rfl,rfl,nd rfl trivial⟩⟩⟩
theorem Zbf (r:ZA) (bs:LI) (hr:r.Ok) (hl:r.came+bs.length<4611686018427387904):Z4x PP 105 [.ptr (some ⟨0,0,0,0,0⟩),.vints .u8 bs bs.length] r.blk (.int .i64 0) (r.write bs).blk:=
 Z4x.ev (Zjy r bs (r.write bs) True (fun _=>⟨hr,hl,rfl⟩)) (Z8U r (r.write bs) bs True trivial)
theorem Z9T:∀(n:Nat) (r:ZA) (bs:LI),r.Ok->(ZA.many n r bs).1.Ok
 | 0,_,_,h=>h
 | n+1,r,bs,h=>by
  unfold ZA.many
  split
  ·exact h
  ·exact Z9T n _ _ (h.one _)
theorem VO (r:ZA) (bs:LI) (h:r.Ok):(r.write bs).Ok:=Z9T _ _ _ h
theorem Z5b:∀(n:Nat) (r:ZA) (bs:LI),r.Ok->bs.length<=n->(ZA.many n r bs).1.came=r.came+bs.length
 | 0,r,bs,_,h=>by simp_all [ZA.many]
 | n+1,r,bs,hr,h=>by
  unfold ZA.many
  split
  ·simp
  ·rename_i b bs
   have h1:=Qo hr (bs:=b::bs) (by simp)
   have h2:=ZcQ r.came (b::bs)
   rw [Z5b n _ _ (hr.one _) (by rw [Ja];omega)]
   show r.came+_+_=_
   rw [Ja]
   omega
theorem Uh (r:ZA) (bs:LI) (h:r.Ok):(r.write bs).came=r.came+bs.length:=Z5b _ _ _ h (J2 _)
attribute [irreducible] ZA.write
def Zi2 (h:Z7) (mv:Option Nat) (b:AV) (K:LI->Prop):Prop:=US mv h true 4 b fun v=>match v with
 | .vints .u8 xs len=>Z5 (len=xs.length) (K xs)
 | .nilslice=>K []
 | .eslice=>K []
 | _=>False
def Z8V (W:ZA->LI->ZA) (B:Int):ZS:=fun args h K=>match args with
 | [.ptr (some ⟨x,0,0,0,0⟩),b]=>match h.get x with
  |some (.flat [.arr .u32 8 st,.arr .u8 64 part,.int .i64 came,.bool true])=>Zi2 h (some x) b fun xs=>
   Z5 (st.length=8/\part.length=64/\0<=came/\came+xs.length<=B) (K (.ret (.int .i64 0)) (h.set x ((W ⟨st,part,came⟩ xs).blk)))
  | _=>False
 | _=>False
theorem Zd.int' (k:IntKind) (n:Int) (E E':Env) (r:Value) (h:Zd E (.int k n) r):Zd E' (.int k n) r:=h.plain rfl
theorem Zbg (B:Int) (hB:B<4611686018427387904) (args:List AV) (h:Z7) (K:KO) (hl:Z8V ZA.write B args h K):Zi PP 105 args h K:=by
 unfold Z8V at hl
 split at hl
 ·rename_i x b
  split at hl
  ·rename_i st part came hx
   obtain ⟨v₀,hv,hb⟩:=Z0L (fun y hy=>by simp_all) _ _ _ _ hl
   have fin:∀xs:LI,(∀(E:Env) (w:World) (r:Value),Emb E h w->Zd E b r->Zd (E.bor (some x) w true) (.vints .u8 xs xs.length) r)->
     Z5 (st.length=8/\part.length=64/\0<=came/\came+xs.length<=B) (K (.ret (.int .i64 0)) (h.set x ((ZA.write ⟨st,part,came⟩ xs).blk)))->Zi PP 105 [.ptr (some ⟨x,0,0,0,0⟩),b] h K:=by
    intro xs hxs hn
    obtain ⟨⟨h1,h2,h3,h4⟩,hK⟩:=Zg hn
    refine (Zbf ⟨st,part,came⟩ xs ⟨h1,h2,h3⟩ (by grind)).calls hx rfl (by simp [csz]) (.flat _ rfl) (Zd.int' _ _) ?_ hK
    intro E w rs he hr
    cases hr with
    | cons v r1 vs rs1 h1 hr=>cases hr with
     | cons v r2 vs rs2 h2 hr=>
      cases hr
      cases h1 with
      | ptr p b' N hb'=>exact .cons _ _ _ _ (.ptr ⟨0,0,0,0,0⟩ b' N hb') (.cons _ _ _ _ (hxs E w _ he h2) .nil)
   split at hv
   ·grind [Zg]
   ·refine fin [] (fun E w r he hr=> ?_) hv
    have:=hb E w r he hr
    cases this
    exact .vintsNil _ _ _ rfl rfl
   ·refine fin [] (fun E w r he hr=> ?_) hv
    have:=hb E w r he hr
    cases this with
    | eslice a=>cases a with
     | none=>exact .vintsNil _ _ _ rfl rfl
     | some a=>exact .vints _ _ _ a 0 (by simp) (by simp) (fun i hi=>by simp at hi)
   simp_all
  simp_all
 simp_all
noncomputable def G5 (W:ZA->LI->ZA) (B:Int):Zf:=G3.withF 105 (Z8V W B)
theorem Zhf (B:Int) (hB:B<4611686018427387904):(G5 ZA.write B).Ok:=Zf.withF_ok Zhe (Zbg B hB)
def Vg (n:Int):LI:=[u8.wrap (Zm .u64 n 24),u8.wrap (Zm .u64 n 16),u8.wrap (Zm .u64 n 8),u8.wrap (Zm .u64 n 0)]
def Z0Q (n:Int):LI:=[u8.wrap (Zm .u64 n 56),u8.wrap (Zm .u64 n 48),u8.wrap (Zm .u64 n 40),u8.wrap (Zm .u64 n 32),u8.wrap (Zm .u64 n 24),u8.wrap (Zm .u64 n 16),u8.wrap (Zm .u64 n 8),u8.wrap (Zm .u64 n 0)]
theorem Zi3 (n:Int) (l:LI) (hl:l=Vg n):
  evF G0 20 137 [.int .u64 n,.int .i64 4] ⟨0,[]⟩ (Wk 0 [(0,7)] (.nslice ⟨0,0,0,0,0⟩ 1 4 4) 1 [(0,.ints .u8 l)]):=by
 refine @Eq.mpr _ ([wrap u8 (Zm u64 n 24),wrap u8 (Zm u64 n 16),wrap u8 (Zm u64 n 8),wrap u8 (Zm u64 n 0)]=l/\True) (by kernel_rfl) ?_
 exact ⟨hl.symm,trivial⟩
theorem Zi4 (n:Int) (l:LI) (hl:l=Z0Q n):
  evF G0 20 137 [.int .u64 n,.int .i64 8] ⟨0,[]⟩ (Wk 0 [(0,15)] (.nslice ⟨0,0,0,0,0⟩ 1 8 8) 1 [(0,.ints .u8 l)]):=by
 refine @Eq.mpr _ ([wrap u8 (Zm u64 n 56),wrap u8 (Zm u64 n 48),wrap u8 (Zm u64 n 40),wrap u8 (Zm u64 n 32),wrap u8 (Zm u64 n 24),wrap u8 (Zm u64 n 16),wrap u8 (Zm u64 n 8),wrap u8 (Zm u64 n 0)]=l/\True) (by kernel_rfl) ?_
 exact ⟨hl.symm,trivial⟩
def ZcS (T8:Int->LI):ZS:=fun args h K=>match args with
 | [.int .u64 n,.int .i64 m]=>match decide (m=4) with
  | true=>K (.ret (.nslice ⟨h.next,0,0,0,0⟩ 1 4 4)) ⟨h.next+1,(h.next,.ints .u8 (Vg n))::h.bs⟩
  | false=>match decide (m=8) with
   | true=>K (.ret (.nslice ⟨h.next,0,0,0,0⟩ 1 8 8)) ⟨h.next+1,(h.next,.ints .u8 (T8 n))::h.bs⟩
   | false=>False
 | _=>False
theorem ZcT (args:List AV) (h:Z7) (K:KO) (hl:ZcS Z0Q args h K):Zi PP 137 args h K:=by
 unfold ZcS at hl
 split at hl
 ·rename_i n m
  have ha:∀(E:Env) (w:World) (rs:List Value),Emb E h w->Zv E [.int .u64 n,.int .i64 m] rs->Zv (E.bor none w true) [.int .u64 n,.int .i64 m] rs:=by
   intro E w rs he hr
   cases hr with
   | cons v r1 vs rs1 h1 hr=>cases hr with
    | cons v r2 vs rs2 h2 hr=>
     cases hr
     exact .cons _ _ _ _ (h1.plain rfl) (.cons _ _ _ _ (h2.plain rfl) .nil)
  split at hl
  ·rename_i hm
   have hm:=of_decide_eq_true hm
   subst hm
   exact (Y6.ev Zt (Zi3 n _ rfl)).calls ha rfl ⟨Nat.one_pos,.ints _ _,trivial⟩ hl
  ·split at hl
   ·rename_i hm
    have hm:=of_decide_eq_true hm
    subst hm
    exact (Y6.ev Zt (Zi4 n _ rfl)).calls ha rfl ⟨Nat.one_pos,.ints _ _,trivial⟩ hl
   simp_all
 simp_all
noncomputable def G6 (W:ZA->LI->ZA) (T8:Int->LI) (B:Int):Zf:=(G5 W B).withF 137 (ZcS T8)
theorem Zjz (B:Int) (hB:B<4611686018427387904):(G6 ZA.write Z0Q B).Ok:=Zf.withF_ok (Zhf B hB) ZcT
def Qw (came:Int):LI:=[128]++List.replicate (Int.tmod (i64.wrap (119-Int.tmod came 64)) 64).toNat 0
def Z5c (st:LI):LI:=Vg (u64.wrap (st.getD 0 0))++Vg (u64.wrap (st.getD 1 0))++Vg (u64.wrap (st.getD 2 0))++Vg (u64.wrap (st.getD 3 0))++Vg (u64.wrap (st.getD 4 0))++Vg (u64.wrap (st.getD 5 0))++Vg (u64.wrap (st.getD 6 0))++Vg (u64.wrap (st.getD 7 0))
def len8 (came:Int):LI:=Z0Q (u64.wrap (u64.wrap came*8))
def ZA.fin (r:ZA):LI:=Z5c ((r.write (Qw r.came)).write (len8 r.came)).st
theorem ZcU (c:Int) (h:0<=c):(Qw c).length<=64:=by
 grind [Qw]
theorem ZcV (W:ZA->LI->ZA) (T8:Int->LI) (st part:LI) (came:Int) (hh:LI) (B:Int) (hB:B=2000000000000) (hs:st.length=8) (hp:part.length=64) (hc:0<=came/\came<1000000000000) (hT:T8=Z0Q) (hW:W=ZA.write) (hh':hh=ZA.fin ⟨st,part,came⟩):
  evF (G6 W T8 B) 20 106 [.ptr (some ⟨0,0,0,0,0⟩)] ⟨1,[(0,Z2g st part came)]⟩ (Wk 1 [] (.agg [.arr .u8 32 hh]) 1 [(0,Z2g st part came)]):=by
 refine @Eq.mpr _ (let v:=Int.tmod (wrap i64 (119-Int.tmod came 64)) 64;let s:=Int.toNat v;let r:=[(128:Int)]++List.replicate s 0;let b:=r.length;let q:=List.take b (Yi 0 r);let p:=q.length;let o:=T8 (wrap u64 (wrap u64 came*8));let n:=List.take 8 (Yi 0 o);let m:=n.length;let l:=W (ZA.mk st part came) q;let u:=l.st;let t:=l.part;let k:=l.came;let a:=(W (ZA.mk u t k) n).st;let j:=wrap u64 (List.getD a 0 0);let i:=wrap u64 (List.getD a 1 0);let h:=wrap u64 (List.getD a 2 0);let g:=wrap u64 (List.getD a 3 0);let f:=wrap u64 (List.getD a 4 0);let e:=wrap u64 (List.getD a 5 0);let d:=wrap u64 (List.getD a 6 0);let c:=wrap u64 (List.getD a 7 0);
 Z6 (decide ((0:Int)=0/\0<=v/\(1+s)*1<=140737488355328))
 (Z6 (decide (0+b<=b))
 (Z6 (decide (b=p))
 (Z6 (decide (st.length=8/\part.length=64/\0<=came/\came+ ↑p<=B))
 (Z6 (decide (8<=o.length))
 (Z6 (decide (8=m))
 (Z6 (decide (u.length=8/\t.length=64/\0<=k/\k+ ↑m<=B))
 ([wrap u8 (Zm u64 j 24),wrap u8 (Zm u64 j 16),wrap u8 (Zm u64 j 8),wrap u8 (Zm u64 j 0),wrap u8 (Zm u64 i 24),wrap u8 (Zm u64 i 16),wrap u8 (Zm u64 i 8),wrap u8 (Zm u64 i 0),wrap u8 (Zm u64 h 24),wrap u8 (Zm u64 h 16),wrap u8 (Zm u64 h 8),wrap u8 (Zm u64 h 0),wrap u8 (Zm u64 g 24),wrap u8 (Zm u64 g 16),wrap u8 (Zm u64 g 8),wrap u8 (Zm u64 g 0),wrap u8 (Zm u64 f 24),wrap u8 (Zm u64 f 16),wrap u8 (Zm u64 f 8),
 wrap u8 (Zm u64 f 0),wrap u8 (Zm u64 e 24),wrap u8 (Zm u64 e 16),wrap u8 (Zm u64 e 8),wrap u8 (Zm u64 e 0),wrap u8 (Zm u64 d 24),wrap u8 (Zm u64 d 16),wrap u8 (Zm u64 d 8),wrap u8 (Zm u64 d 0),wrap u8 (Zm u64 c 24),wrap u8 (Zm u64 c 16),wrap u8 (Zm u64 c 8),wrap u8 (Zm u64 c 0)]=
 hh/\
 st=st/\part=part/\Z6 (decide (came=came)) True False)
 False)
 False)
 False)
 False)
 False)
 False)
 False) (by kernel_rfl) ?_
 conv=>zeta
 subst hT hW hB
 have hpad:=ZcU came hc.1
 have e0:[(128:Int)]++List.replicate (Int.toNat (Int.tmod (wrap i64 ((119:Int)-Int.tmod came (64:Int))) (64:Int))) (0:Int)=Qw came:=rfl
 have h1:Int.tmod came 64=came%64:=tm hc.1
 have h2:i64.wrap (119-came%64)=119-came%64:=w64 (by omega)
 have h3:Int.tmod (119-came%64) 64=(119-came%64)%64:=tm (by omega)
 have hok:ZA.Ok ⟨st,part,came⟩:=⟨hs,hp,hc.1⟩
 have hok1:=VO ⟨st,part,came⟩ (Qw came) hok
 have hca:(ZA.write ⟨st,part,came⟩ (Qw came)).came=came+(Qw came).length:=Uh _ _ hok
 have e1:List.take (Qw came).length (Yi 0 (Qw came))=Qw came:=Jp
 have e2:∀n,List.take 8 (Yi 0 (Z0Q n))=Z0Q n:=fun n=>rfl
 simp only [e0,e1,e2]
 refine nd ⟨by trivial,by rw [h1,h2,h3];omega,by rw [h1,h2,h3];omega⟩ (nd (by omega) (nd (by trivial) (nd ⟨hs,hp,hc.1,by omega⟩ (nd (by show 8<=8;omega) (nd (by trivial) (nd ⟨hok1.st,hok1.part,hok1.came, ?_⟩ ?_))))))
 ·rw [hca]
  grind
 ·refine ⟨?_,by trivial,by trivial,nd (by trivial) trivial⟩
  rw [hh']
  kernel_rfl
def Zi5 (F:ZA->LI) (B:Int):Yk:=fun args h K=>match args with
 | [.ptr (some ⟨x,0,0,0,0⟩)]=>match h.get x with
  | some (.flat [.arr .u32 8 st,.arr .u8 64 part,.int .i64 came,.bool true])=>Z5 (st.length=8/\part.length=64/\0<=came/\came<=B) (K (.agg [.arr .u8 32 (F ⟨st,part,came⟩)]))
  | _=>False
 | _=>False
theorem Zli {a:Nat}:∀(i j x:Nat),([a]:List Nat)[i]? =some x->([a]:List Nat)[j]? =some x->i=j
 | 0,0,_,_,_=>rfl
 | i+1,_,x,h1,_=>by simp at h1
 | 0,j+1,x,_,h2=>by simp at h2
theorem Zd.hash {k:IntKind} {n:Nat} {xs:LI} {r:Value} (h:Zd E (.agg [.arr k n xs]) r):Zd E' (.agg [.arr k n xs]) r:=by
 cases h with
 | agg cs vs hc=>exact .agg _ _ (hc.plain rfl)
theorem Zfr (B:Int) (hB:B<1000000000000) (args:List AV) (h:Z7) (K:AV->Prop) (hl:Zi5 ZA.fin B args h K):Zi PP 106 args h fun o h'=>∃v,o=.ret v/\h'=h/\K v:=by
 unfold Zi5 at hl
 split at hl
 ·rename_i x
  split at hl
  ·rename_i st part came hx
   obtain ⟨⟨h1,h2,h3,h4⟩,hK⟩:=Zg hl
   refine Z4y.calls (σ:=[x]) (Bs:=[Z2g st part came]) (Z4y.ev (Zjz 2000000000000 (by decide)) (ZcV ZA.write Z0Q st part came _ _ rfl h1 h2 ⟨h3,by omega⟩ rfl rfl rfl)) rfl Zli ?_ ?_ ?_ ?_ ?_ hK
   ·intro j y B hj hB
    match j with
    | 0=>simp at hj hB;subst hj;subst hB;exact hx
    | j+1=>simp at hj
   ·intro B hB
    simp at hB
    subst hB
    exact .flat _ rfl
   ·intro E w rs he hr
    cases hr with
    | cons v r1 vs rs1 h1 hr=>
     cases hr
     cases h1 with
     | ptr p b' N hb'=>exact .cons _ _ _ _ (.ptr ⟨0,0,0,0,0⟩ b' N hb') .nil
   ·intro E E₁ r hle hfr hq hv
    exact hv.hash
   grind [Z7d,csz]
  simp_all
 simp_all
def YU:ZA:=⟨[1779033703,3144134277,1013904242,2773480762,1359893119,2600822924,528734635,1541459225],List.replicate 64 0,0⟩
theorem Zlj (l:LI) (hl:l=List.replicate 64 0):
  evF G0 20 104 [] ⟨0,[]⟩ (Wk 0 [(0,1)] (.ptr (some ⟨0,0,0,0,0⟩)) 1 [(0,Z2g [1779033703,3144134277,1013904242,2773480762,1359893119,2600822924,528734635,1541459225] l 0)]):=by
 refine @Eq.mpr _ ([(1779033703:Int),(3144134277:Int),(1013904242:Int),(2773480762:Int),(1359893119:Int),(2600822924:Int),(528734635:Int),(1541459225:Int)]=[(1779033703:Int),(3144134277:Int),(1013904242:Int),(2773480762:Int),(1359893119:Int),(2600822924:Int),(528734635:Int),(1541459225:Int)]/\
 [(0:Int),(0:Int),(0:Int),(0:Int),(0:Int),(0:Int),(0:Int),(0:Int),(0:Int),(0:Int),(0:Int),(0:Int),(0:Int),(0:Int),(0:Int),(0:Int),(0:Int),(0:Int),(0:Int),(0:Int),(0:Int),(0:Int),(0:Int),(0:Int),(0:Int),(0:Int),(0:Int),(0:Int),(0:Int),(0:Int),(0:Int),(0:Int),(0:Int),(0:Int),(0:Int),(0:Int),(0:Int),(0:Int),(0:Int),(0:Int),(0:Int),(0:Int),(0:Int),(0:Int),(0:Int),(0:Int),(0:Int),(0:Int),(0:Int),(0:Int),(0:Int),(0:Int),(0:Int),(0:Int),(0:Int),(0:Int),(0:Int),(0:Int),(0:Int),(0:Int),(0:Int),(0:Int),(0:Int),(0:Int)]=l/\True) (by kernel_rfl) ?_
 simp_all
def Zi6 (r0:ZA):ZS:=fun args h K=>match args with
 | []=>K (.ret (.ptr (some ⟨h.next,0,0,0,0⟩))) ⟨h.next+1,(h.next,r0.blk)::h.bs⟩
 | _=>False
theorem Zfs (args:List AV) (h:Z7) (K:KO) (hl:Zi6 YU args h K):Zi PP 104 args h K:=by
 unfold Zi6 at hl
 split at hl
 ·exact (Y6.ev Zt (Zlj _ rfl)).calls (fun E w rs he hr=>by cases hr;exact .nil) rfl ⟨Nat.one_pos,.flat _ rfl,trivial⟩ hl
 simp_all
noncomputable def G7 (W:ZA->LI->ZA) (F:ZA->LI) (B:Int) (r0:ZA):Zf:=((G5 W B).withP 106 (Zi5 F B)).withF 104 (Zi6 r0)
theorem Zhg (B:Int) (hB:B<1000000000000):(G7 ZA.write ZA.fin B YU).Ok:=Zf.withF_ok (Zf.withP_ok (Zhf B (by omega)) (Zfr B hB)) Zfs
@[irreducible] def Zh (bs:LI):LI:=(YU.write bs).fin
@[irreducible] def Z8W (a b:LI):LI:=((YU.write a).write b).fin
theorem Zft (r:ZA):r.fin.length=32:=by rfl
theorem Z0R (bs:LI):(Zh bs).length=32:=by unfold Zh;exact Zft _
theorem VP:YU.Ok:=⟨rfl,rfl,by decide⟩
attribute [irreducible] ZA.fin
theorem ZcW (W:ZA->LI->ZA) (F:ZA->LI) (r0:ZA) (bs:LI) (hh:LI) (B:Int) (hB:B=900000000000) (hb:bs.length<100000000000) (hr0:r0=YU) (hW:W=ZA.write) (hF:F=ZA.fin) (hh':hh=Zh bs):
  evF (G7 W F B r0) 20 75 [.vrows 1 1 (fun _=>[.vints .u8 bs bs.length]) 1] ⟨0,[]⟩ (Wk 0 [] (.agg [.arr .u8 32 hh]) 0 []):=by
 refine @Eq.mpr _ (let d:=bs.length;let c:=r0.came;let b:=W (ZA.mk r0.st r0.part c) bs;let f:=b.st;let e:=b.part;let a:=b.came;
 Z6 (decide (d=d)) (Z6 (decide (r0.st.length=8/\r0.part.length=64/\0<=c/\c+ ↑d<=B)) (Z6 (decide (f.length=8/\e.length=64/\0<=a/\a<=B)) (F (ZA.mk f e a)=hh/\True) False) False) False) (by kernel_rfl) ?_
 conv=>zeta
 subst hW hF hB hr0
 have i0:YU.came=0:=rfl
 have hok:=VO YU bs VP
 have hca:(YU.write bs).came=0+bs.length:=Uh _ _ VP
 refine nd rfl (nd ⟨rfl,rfl,by omega,by omega⟩ (nd ⟨hok.st,hok.part,hok.came, ?_⟩ ⟨by rw [hh'];first|(unfold Zh;rfl),trivial⟩))
 refine Int.le_trans (Int.le_of_eq hca) ?_
 omega
theorem ZcX (W:ZA->LI->ZA) (F:ZA->LI) (r0:ZA) (a b:LI) (hh:LI) (B:Int) (hB:B=900000000000) (ha:a.length<100000000000) (hb:b.length<100000000000) (hr0:r0=YU) (hW:W=ZA.write) (hF:F=ZA.fin) (hh':hh=Z8W a b):
  evF (G7 W F B r0) 20 75 [.vrows 1 2 (fun i=>match i with|0=>[.vints .u8 a a.length]|_=>[.vints .u8 b b.length]) 2] ⟨0,[]⟩ (Wk 0 [] (.agg [.arr .u8 32 hh]) 0 []):=by
 refine @Eq.mpr _ (let i:=a.length;let g:=r0.came;let f:=b.length;let e:=W (ZA.mk r0.st r0.part g) a;let l:=e.st;let k:=e.part;let d:=e.came;let c:=W (ZA.mk l k d) b;let j:=c.st;let m:=c.part;let h:=c.came;
 Z6 (decide (i=i)) (Z6 (decide (r0.st.length=8/\r0.part.length=64/\0<=g/\g+ ↑i<=B)) (Z6 (decide (f=f)) (Z6 (decide (l.length=8/\k.length=64/\0<=d/\d+ ↑f<=B)) (Z6 (decide (j.length=8/\m.length=64/\0<=h/\h<=B)) (F (ZA.mk j m h)=hh/\True) False) False) False) False) False) (by kernel_rfl) ?_
 conv=>zeta
 subst hW hF hB hr0
 have i0:YU.came=0:=rfl
 have hok:=VO YU a VP
 have hca:(YU.write a).came=0+a.length:=Uh _ _ VP
 have hok2:=VO (YU.write a) b hok
 have hca2:((YU.write a).write b).came=(YU.write a).came+b.length:=Uh _ _ hok
 refine nd rfl (nd ⟨rfl,rfl,by omega,by omega⟩ (nd rfl (nd ⟨hok.st,hok.part,hok.came, ?_⟩ (nd ⟨hok2.st,hok2.part,hok2.came, ?_⟩ ⟨by rw [hh'];first|(unfold Z8W;rfl),trivial⟩))))
 ·refine Int.le_trans (Int.le_of_eq (congrArg (· +(b.length:Int)) hca)) ?_
  omega
 ·refine Int.le_trans (Int.le_of_eq hca2) ?_
  omega
theorem Zd.rows {esz n len:Nat} {f g:Nat->List AV} {r:Value} (h:Zd E (.vrows esz n f len) r) (hfg:∀i,i<n->f i=g i):Zd E (.vrows esz n g len) r:=by
 cases h with
 | vrowsNil esz n f len h1 h2=>exact .vrowsNil _ _ _ _ h1 h2
 | vrows esz n f len a cap q h1 h2 hc hl hi=>exact .vrows _ _ _ _ a cap q h1 h2 (fun i hi'=>hfg i hi'▸hc i hi') hl hi
def Z0b (v:List AV) (K:LI->Prop):Prop:=match v with
 | [.vints .u8 xs len]=>Z5 (len=xs.length) (K xs)
 | _=>False
theorem VQ {v:List AV} {K:LI->Prop} (h:Z0b v K):∃xs:LI,v=[.vints .u8 xs xs.length]/\K xs:=by
 unfold Z0b at h
 grind [Zg]
def ZjA (H1:LI->LI) (H2:LI->LI->LI) (B:Nat):Yk:=fun args h K=>X1 none h true 20 args fun a=>match a with
 | [.vrows 1 n f len]=>match Nat.beq n 1&&Nat.beq len 1 with
  | true=>Z0b (f 0) fun xs=>Z5 (xs.length<=B) (K (.agg [.arr .u8 32 (H1 xs)]))
  | false=>match Nat.beq n 2&&Nat.beq len 2 with
   | true=>Z0b (f 0) fun xs=>Z0b (f 1) fun ys=>Z5 (xs.length<=B/\ys.length<=B) (K (.agg [.arr .u8 32 (H2 xs ys)]))
   | false=>False
 | _=>False
theorem Zfu (B:Nat) (hB:B<100000000000) (args:List AV) (h:Z7) (K:AV->Prop) (hl:ZjA Zh Z8W B args h K):Zi PP 75 args h fun o h'=>∃v,o=.ret v/\h'=h/\K v:=by
 obtain ⟨a₀,ha,hr⟩:=Wb (fun x hx=>by cases hx) _ _ _ _ hl
 split at ha
 ·split at ha
  ·rename_i hb
   rw [J1] at hb
   have e1:=J0 hb.1
   have e2:=J0 hb.2
   subst e1 e2
   obtain ⟨xs,hf,hK⟩:=VQ ha
   obtain ⟨hx,hK⟩:=Zg hK
   have hp:=Y6.ev (Zhg 900000000000 (by decide)) (ZcW _ _ _ xs _ _ rfl (by omega) rfl rfl rfl rfl)
   refine hp.calls (v':=.agg [.arr .u8 32 (Zh xs)]) (fun E w rs he hrr=> ?_) rfl trivial ⟨_,rfl,rfl,hK⟩
   have:=hr E w rs he hrr
   cases this with
   | cons v c vs cs h1 h2=>
    cases h2
    refine .cons _ _ _ _ (h1.rows (fun i hi=> ?_)) .nil
    match i,hi with
    | 0,_=>exact hf
  ·split at ha
   ·rename_i hb
    rw [J1] at hb
    have e1:=J0 hb.1
    have e2:=J0 hb.2
    subst e1 e2
    obtain ⟨xs,hf,hK⟩:=VQ ha
    obtain ⟨ys,hg,hK⟩:=VQ hK
    obtain ⟨⟨hx,hy⟩,hK⟩:=Zg hK
    have hp:=Y6.ev (Zhg 900000000000 (by decide)) (ZcX _ _ _ xs ys _ _ rfl (by omega) (by omega) rfl rfl rfl rfl)
    refine hp.calls (v':=.agg [.arr .u8 32 (Z8W xs ys)]) (fun E w rs he hrr=> ?_) rfl trivial ⟨_,rfl,rfl,hK⟩
    have:=hr E w rs he hrr
    cases this with
    | cons v c vs cs h1 h2=>
     cases h2
     refine .cons _ _ _ _ (h1.rows (fun i hi=> ?_)) .nil
     match i,hi with
     | 0,_=>exact hf
     | 1,_=>exact hg
   simp_all
 simp_all
structure InS where
 name:LI
 index:Int
 way:Int
 tag:LI
 also:LI
 secret:LI
structure Z1r where
 kind:Int
 amount:Int
 owner:LI
 other:LI
 point:LI
 hash:LI
 delay:Int
 expiry:Int
def InS.c (x:InS):List AV:=[.arr .u8 32 x.name,.int .i64 x.index,.int .i64 x.way,.arr .u8 32 x.tag,.arr .u8 32 x.also,.arr .u8 32 x.secret]
def Z1r.c (o:Z1r):List AV:=[.int .i64 o.kind,.int .i64 o.amount,.arr .u8 32 o.owner,.arr .u8 32 o.other,.arr .u8 32 o.point,.arr .u8 32 o.hash,.int .i64 o.delay,.int .i64 o.expiry]
structure InS.Ok (x:InS):Prop where
 name:x.name.length=32
 tag:x.tag.length=32
 also:x.also.length=32
 secret:x.secret.length=32
structure Z1r.Ok (o:Z1r):Prop where
 owner:o.owner.length=32
 other:o.other.length=32
 point:o.point.length=32
 hash:o.hash.length=32
def Ze:LI:=List.replicate 32 0
end Go.Tk
end
