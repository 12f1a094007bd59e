/- G: part 3 of an engine (a symbolic evaluator, proved against the model) and of the walk by it. -/
import Derived.Test.YtjfekgpoodeinaaGreatG2
import Derived.Test.YtjfekgpoodeinaaGreatProg
import Derived.OpenShut
import Derived.WideShapes
import Derived.ChangeSlices
import Derived.WalkKit
import Derived.ProofKit
import Derived.Below
import Derived.Handed
import Derived.Carry
set_option linter.unusedVariables false
set_option linter.unusedSimpArgs false
set_option maxRecDepth 100000
set_option maxHeartbeats 0
section
namespace Go.Tk
open IntKind (i64 u8 u32 u64 wrap)
theorem Z3e {E:Env} {h:Z1} {w:World} (e:Emb E h w) (b N:Nat) (B:Blk) (hb:¬Y5 E h b) (hi:∀ad c,E.imm ad c->ad.block≠b)
  (hB:ZB (E.ext h.next b N) w h.next B):Emb (E.ext h.next b N) (h.add B) w:=by
 have hfr:E.blk h.next=none:=e.fresh _ (J4 _)
 have hle:E.le (E.ext h.next b N):=Env.ext_le hfr
 have hget:∀y B',(h.add B).get y=some B'->(y=h.next/\B'=B)\/(y≠h.next/\h.get y=some B'):=fun y B' hy=>by
  grind [Z1.get_add_same,Z1.get_add_other]
 refine ⟨?_, ?_, ?_, ?_,e.imm, ?_⟩
 ·intro x hx
  have hx':h.next+1<=x:=hx
  rw [Env.ext_other _ _ _ (by omega)]
  exact e.fresh x (by omega)
 ·intro x B' hx
  show x<h.next+1
  rcases hget x B' hx with ⟨rfl,_⟩|⟨_,h'⟩
  ·omega
  ·have:=e.lt x B' h';omega
 ·intro x B' hx
  rcases hget x B' hx with ⟨rfl,rfl⟩|⟨hne,h'⟩
  ·exact hB
  ·exact (e.own x B' h').mono hle (fun hn=>by rw [Env.ext_other _ _ _ hne];exact hn)
 ·intro x y B1 B2 b' M M' hx hy hbx hby
  rcases hget x B1 hx with ⟨rfl,_⟩|⟨hnx,hx'⟩<;>rcases hget y B2 hy with ⟨rfl,_⟩|⟨hny,hy'⟩
  ·rfl
  ·rw [Env.ext_same] at hbx;cases hbx
   rw [Env.ext_other _ _ _ hny] at hby
   exact absurd ⟨y,B2,M',hy',hby⟩ hb
  ·rw [Env.ext_same] at hby;cases hby
   rw [Env.ext_other _ _ _ hnx] at hbx
   exact absurd ⟨x,B1,M,hx',hbx⟩ hb
  ·rw [Env.ext_other _ _ _ hnx] at hbx;rw [Env.ext_other _ _ _ hny] at hby
   exact e.disj x y B1 B2 b' M M' hx' hy' hbx hby
 ·intro ad c x B' M him hx hbx
  rcases hget x B' hx with ⟨rfl,_⟩|⟨hne,hx'⟩
  ·rw [Env.ext_same] at hbx
   have:b=ad.block:=by simp_all
   exact hi ad c him this.symm
  ·rw [Env.ext_other _ _ _ hne] at hbx
   exact e.sep ad c x B' M him hx' hbx
theorem Vr {E:Env} {h:Z1} {b N b':Nat} {B:Blk} (ho:Y5 (E.ext h.next b N) (h.add B) b'):b'=b\/Y5 E h b':=by
 obtain ⟨x,C,M,hx,hb⟩:=ho
 by_cases hn:h.next=x
 ·simp_all [Env.ext_same]
 ·rw [Z1.get_add_other _ _ _ hn] at hx
  rw [Env.ext_other _ _ _ (fun e=>hn e.symm)] at hb
  exact .inr ⟨x,C,M,hx,hb⟩
theorem Qx {E0:Env} {h0:Z1} {w0:World} {E:Env} {h:Z1} {w:World} (v:Evo E0 h0 w0 E h w) (b N:Nat) (B:Blk) (hb:¬Y5 E h b) (hi:∀ad c,E.imm ad c->ad.block≠b)
  (hB:ZB (E.ext h.next b N) w h.next B) (hw:w0.heap.size<=b):Evo E0 h0 w0 (E.ext h.next b N) (h.add B) w:=
 ⟨v.le.trans (Env.ext_le (v.emb.fresh _ (J4 _))),Z3e v.emb b N B hb hi hB,v.size,v.os,v.tape,v.output,v.keep,fun b' ho=>by
  rcases Vr ho with rfl|ho
  ·omega
  ·exact v.own b' ho,v.imm⟩
theorem Xy {P:Program} {t:Zn} {h:Z1} {K:Prop}:∀{pend:List (It×AV)},Xj P t h K pend->K/\∀q v,(q,v)∈pend->worldless q.o.op=true\/Vp P q t h v
 | [],hk=>⟨hk,by simp⟩
 | (it,u)::r,hk=>by
  unfold Xj at hk
  split at hk
  ·rename_i hw
   have:=Xy hk
   refine ⟨this.1,fun q v' hq=> ?_⟩
   rcases J5.1 hq with h4|h4
   ·cases h4;exact .inl hw
   ·exact this.2 q v' h4
  ·obtain ⟨v,h12,h3⟩:=Z2u hk
   obtain ⟨h1,h2⟩:=UO _ _ _ h12
   subst h1
   have:=Xy h2
   refine ⟨this.1,fun q v' hq=> ?_⟩
   rcases J5.1 hq with h4|h4
   ·cases h4;exact .inr h3
   ·exact this.2 q v' h4
theorem Qy {P:Program} {o:Oper} {T:TypeId} (ho:o.op=.alloc T) {z:Value} (hz:∀w,(zeroValue T).run P w=.ok z w) (ρ:Operand->Value) (w:World):
  (execOp ρ o).run P w=.ok (.value (.pointer (some ⟨w.heap.size,0,none⟩))) { w with heap:=w.heap.push (.cells z.cells T (0,0))}:=by
 simp_all [execOp,Instr.alloc,newVar,newRow]
theorem UV {P:Program} {it:It} {t:Zn} {h:Z1} {K:AV->Z1->Prop} (hl:Zl it=true) (h1:Qs P h it.o.op t K):
  ∃v B,K v (h.add B)/\∀(E:Env) (a:Act),(∀x u,Zd t x=some u->Z4 E u (a.tmps.getD x undef))->
   ∃mkv obj N,X5 P it a mkv obj/\∀(E':Env) (w':World) (b:Nat),E.le E'->E'.blk h.next=some (b,N)->w'.heap[b]? =some obj->ZB E' w' h.next B/\Z4 E' v (mkv b):=by
 rcases XV hl with ⟨T,ho⟩|⟨T,len,ps,ho,_,hlen0⟩
 ·rw [ho] at h1
  unfold Qs Uh at h1
  simp only at h1
  split at h1
  ·rename_i cs hz
   obtain ⟨z,z1,z2⟩:=YN hz
   refine ⟨_,_,h1,fun E a _=>⟨fun b=>.pointer (some ⟨b,0,none⟩),.cells z.cells T (0,0),z.cells.size,fun w=>Qy ho z1 _ w,fun E' w' b hle hb hw=>⟨?_,Wt hb⟩⟩⟩
   exact .flat cs b z.cells T (0,0) z.cells.toList hb hw (YO _) ((z2 E).mono hle) (fun j c hj=>by simp_all)
  simp_all
 ·rw [ho] at h1
  unfold Qs Yu at h1
  simp only at h1
  split at h1
  ·rename_i e hu
   split at h1
   ·rename_i size vs hs hrow
    split at h1
    ·rename_i zc hb1 hb2 hz
     have hlen:vs.length=len:=J0 hb1
     have hle:=X8 hb2
     obtain ⟨z,hz1,_⟩:=YN hz
     have hrun:∀(a:Act) (rs:List Value) (cells:Array Value),(ps.toList.map fun (x:Nat×Operand)=>(x.1,a.eval x.2))=Yt 0 rs->
       (∀w:World,(Instr.buildSlice T len (Yt 0 rs).toArray).run P w=((newRow e cells).run P w).andThen fun ad w'=>.ok (.slice (some ad) len len) w')->
       X5 P it a (fun b=>.slice (some ⟨b,0,none⟩) len len) (.cells cells e (0,0)):=fun a rs cells hr hc w=>by
      have e1:(ps.map fun (x:Nat×Operand)=>(x.1,a.eval x.2))=(Yt 0 rs).toArray:=by
       grind
      simp_all [execOp,newRow]
     split at h1
     ·simp_all
     ·split at h1
      ·rename_i k hue hb
       have hsz:size=1:=J0 hb
       subst hsz
       split at h1
       ·rename_i xs hx
        refine ⟨_,_,h1,fun E a ht=> ?_⟩
        obtain ⟨rs,hr1,hr2⟩:=YL _ _ _ _ hrow (XK (a:=a) (n:=a.tmps.size) ⟨rfl,ht⟩ ps.toList)
        obtain ⟨i0,i1,i2⟩:=Wu _ _ _ hx hr1
        have hrl:rs.length=len:=by rw [hr1.length,hlen]
        obtain ⟨cells,c1,c2,c3⟩:=run_buildSlice hu hs hle hz1 rs hrl i1
        refine ⟨_,_,cells.size,hrun a rs cells hr2 c3,fun E' w' b hlE hb' hw=>⟨?_, ?_⟩⟩
        ·exact .ints k xs b cells e (0,0) hb' hw (YO _) (fun j hj=>c2 _ _ (i2 j hj))
        ·exact .nslice ⟨h.next,0,0,0,0⟩ 1 len len b cells.size len hb' (J4 _) (J4 _) (by simp [Zr.tot,c1])
       simp_all
      ·simp_all
      ·split at h1
       ·rename_i cs hcat
        refine ⟨_,_,h1,fun E a ht=> ?_⟩
        obtain ⟨rs,hr1,hr2⟩:=YL _ _ _ _ hrow (XK (a:=a) (n:=a.tmps.size) ⟨rfl,ht⟩ ps.toList)
        obtain ⟨i1,i2⟩:=Um _ _ _ hcat hr1
        have hrl:rs.length=len:=by rw [hr1.length,hlen]
        obtain ⟨cells,c1,c2,c3⟩:=run_buildSlice hu hs hle hz1 rs hrl i2
        refine ⟨_,_,cells.size,hrun a rs cells hr2 c3,fun E' w' b hlE hb' hw=>⟨?_, ?_⟩⟩
        ·exact .flat cs b cells e (0,0) _ hb' hw (YO _) (i1.mono hlE) c2
        ·exact .nslice ⟨h.next,0,0,0,0⟩ size len len b cells.size len hb' (J4 _) (J4 _) (by simp [Zr.tot,c1])
       simp_all
    simp_all
   simp_all
  simp_all
theorem X5.uniq {P:Program} {it:It} {a:Act} {mkv mkv':Nat->Value} {obj obj':Obj} (w:World) (h:X5 P it a mkv obj) (h':X5 P it a mkv' obj'):(∀b,mkv b=mkv' b)/\obj=obj':=by
 have key:∀b,mkv b=mkv' b/\obj=obj':=fun b=>by
  have h1:=h { w with heap:=Array.replicate b obj}
  rw [h'] at h1
  simp only [Result.ok.injEq,World.mk.injEq] at h1
  have h2:=h1.2
  have h3:=h2.1
  have h4:=Array.push_inj_right.1 h3
  simp_all
 exact ⟨fun b=>(key b).1,(key 0).2⟩
section
variable {P:Program} {all:List Oper} {its0 its:List It} {sp:Option SpD} {n0:Nat} {E0:Env} {h0:Z1} {w0:World} {L:Nat->Prop} {bl:Nat->Nat} {rem rem':List It} {D:Nat} {pend pend':List (It×AV)} {s s2:St} {E:Env} {a:Act} {w:World}
theorem Inv.adoptStep (hst:Stat P all its0 its sp n0) (I:Inv P all its sp E0 h0 w0 L bl rem D pend s E a w) {it:It} (hit:it∈rem) (hl:Zl it=true) (hm:∀p,it.m.testBit p=true->L p) (hL:L it.i) (hp:∀q∈its,∀v,(q,v)∈pend->L q.i\/worldless q.o.op=true\/Vp P q s2.t s2.h v) {v:AV} {B:Blk}
  (hv:∀(E:Env) (a:Act),(∀x u,Zd (X2 s.t (opT it.o.op)) x=some u->Z4 E u (a.tmps.getD x undef))->
   ∃mkv obj N,X5 P it a mkv obj/\∀(E':Env) (w':World) (b:Nat),E.le E'->E'.blk s.h.next=some (b,N)->w'.heap[b]? =some obj->ZB E' w' s.h.next B/\Z4 E' v (mkv b))
  (hr:∀x,x∈rem'↔x∈rem/\x≠it) (hnd:rem'.Pairwise fun a b=>a.i≠b.i)
  (e1:s2.h=s.h.add B) (e2:s2.n=s.n) (e3:s2.d=s.d) (e4:∀x,it.o.dst=some x->Zd s2.t x=some v/\x<s.n) (e5:∀x,it.o.dst≠some x->Zd s2.t x=Zd s.t x):
  ∃E',Inv P all its sp E0 h0 w0 L bl rem' (Nat.lor D (2^it.i)) pend s2 E' a w:=by
 have hits:=I.sub it hit
 obtain ⟨mkv,obj,z1,z2,z3,z4,z5,z6,z7⟩:=I.adopt it hit hL hl
 obtain ⟨mkv',obj',N,y1,y2⟩:=hv E a fun x u hu=>by
  have h1:=Ym hu
  exact I.tmps x u h1.1 fun q hq' hdq _ _=>hm _ (hst.lrd it hits hl q hq' x hdq h1.2)
 obtain ⟨u1,rfl⟩:=z1.uniq w y1
 have hle:E.le (E.ext s.h.next (bl it.i) N):=Env.ext_le (I.evo.emb.fresh _ (J4 _))
 obtain ⟨b1,b2⟩:=y2 (E.ext s.h.next (bl it.i) N) w (bl it.i) hle (Env.ext_same ..) z3
 have hback:∀q∈its,q∉rem'->q=it\/q∉rem:=fun q _ hn=>by
  by_cases h:q=it
  ·exact .inl h
  ·exact .inr fun hr'=>hn ((hr q).2 ⟨hr',h⟩)
 have hfwd:∀q,q∉rem->q∉rem':=fun q hn h=>hn ((hr q).1 h).1
 have hev:=Qx I.evo (bl it.i) N B z4 z5 b1 z6
 refine ⟨E.ext s.h.next (bl it.i) N,⟨fun q hq'=>I.sub q ((hr q).1 hq').1,hnd,fun q hq' hb=> ?_,fun q hq' hnl hn p hp' hb=> ?_,fun q hq' he=> ?_,fun q hq' hl' hn=> ?_,fun q hq' hqq hL'=>hfwd q (I.quiet q hq' hqq hL'),fun q hq' hqq hn hL'=> ?_,by rw [e2];exact I.size,fun x u hx hc=> ?_,
  by rw [e3];exact I.defs.mono hle,by rw [e1];exact hev,fun q hq' hl' x hx=> ?_,fun q hq' hL' hT'=> ?_,fun q hq' q' hq''=>I.inj q ((hr q).1 hq').1 q' ((hr q').1 hq'').1,fun q hq' x hx hn=> ?_,fun q hq' hn=> ?_,by rw [e2];exact I.ln, ?_⟩⟩
 ·rcases Z0e hb with h|h
  ·exact hfwd q (I.dbit q hq' h)
  ·have:q=it:=hst.uniq q hq' it hits h
   subst this
   exact fun h=>((hr q).1 h).2 rfl
 ·rcases hback q hq' hn with rfl|hn'
  ·rw [hl] at hnl;cases hnl
  ·exact hfwd p (I.born q hq' hnl hn' p hp' hb)
 ·rw [I.eff q hq' he]
  have:q≠it:=fun h=>by subst h;rw [ZW he] at hl;cases hl
  exact ⟨fun h=>hfwd q h,fun h h'=>h ((hr q).2 ⟨h',this⟩)⟩
 ·rcases hback q hq' hn with rfl|h
  ·exact hL
  ·exact I.late q hq' hl' h
 ·have hqi:q≠it:=fun h=>by subst h;rw [Zu hqq] at hl;cases hl
  have hn':q∉rem:=(hback q hq' hn).resolve_left hqi
  obtain ⟨u,h1,h2⟩:=I.fact q hq' hqq hn' hL'
  have hsame:∀x∈YD all q.o,Zd s2.t x=Zd s.t x:=fun x hx=>e5 x fun hd=>by
   rcases hst.rd it hits q hq' (fun e=>hqi e.symm) x hd hx with h|⟨h3,h4⟩
   ·exact I.born q hq' (Zu hqq) hn' it hits h hit
   ·rcases h4 with h4|⟨h4,_⟩
    ·rw [ZW h4] at hl;cases hl
    ·rw [Zu h4] at hl;cases hl
  refine ⟨u,fun x hx=> ?_, ?_⟩
  ·rw [e5 x fun hd=>hst.dst it hits q hq' (fun e=>hqi e.symm) x hd hx]
   exact h1 x hx
  ·rw [X4 fun x hx=>hsame x (Jj _ hx)]
   rcases h2 with ⟨h0,h3,h4⟩|h
   ·rcases hp _ hq' _ h3 with h5|h5|h5
    ·exact absurd h5 hL'
    ·refine .inl ⟨h0,h3,fun E' w' a' _ hx=>h4 E' w' a' (fun hw=>by rw [h5] at hw;cases hw) fun x hx' u hu=>hx x hx' u ?_⟩
     rw [hsame x (Jh _ hx')];exact hu
    ·exact .inl ⟨h0,h3,h5⟩
   ·exact .inr h
 ·by_cases hd:it.o.dst=some x
  ·rw [(e4 x hd).1] at hx
   cases hx
   rw [z2 x hd,u1]
   exact b2
  ·rw [e5 x hd] at hx
   exact (I.tmps x u hx fun q hq' hdq hqq hn=>hc q hq' hdq hqq (hfwd q hn)).mono hle
 ·have hq1:=(hr q).1 hq'
  rw [e5 x fun hd=>hst.dst it hits q (I.sub q hq1.1) (fun e=>hq1.2 e.symm) x hd hx]
  exact I.lt q hq1.1 hl' x hx
 ·have hq1:=(hr q).1 hq'
  obtain ⟨y,y0,y1,y2,y3,y4,y5,y6,y7⟩:=I.adopt q hq1.1 hL' hT'
  refine ⟨y,y0,y1,y2,y3,fun ho=> ?_,y5,y6,y7⟩
  rw [e1] at ho
  rcases Vr ho with h|h
  ·exact hq1.2 (I.inj q hq1.1 it hit hL' hL hT' hl h)
  simp_all
 ·rw [e2]
  rcases hback q hq' hn with rfl|hn'
  ·simp_all
  ·exact I.dst q hq' x hx hn'
 ·rcases hback q hq' hn with rfl|hn'
  ·simp_all
  ·exact UU (I.dset q hq' hn')
 ·exact I.mp.step (fun d hd=>⟨id,fun j _=>.rfl⟩) (fun d hd h=>by rw [e5 _ (Yo hst hd hits).2.2.1];exact h) rfl (fun _ _=>rfl) (fun _ _ _ _ _=>rfl) (fun _ _ _=>rfl)
   (fun b _ hno hne ho=>by
    grind [Vr])
   (fun _ _ h=>h) (J4 _) (fun q hq' hL' hl' b _ hb=>hb q ((hr q).1 hq').1 hL' hl')
theorem Z0U (hst:Stat P all its0 its sp n0) (hmc:∀it∈its,L it.i->∀p,it.m.testBit p=true->L p) {m:Nat} {pd:List (It×AV)} {K:List It->Nat->St->Prop} (hmL:∀it∈its,Zl it=true->m.testBit it.i=true->L it.i) (hok:∀q∈its,∀v,(q,v)∈pend->L q.i\/(q,v)∈pd):
  ∀(todo kept:List It) (D:Nat) (s:St) (E:Env),Vn P m pd todo kept D s K->Inv P all its sp E0 h0 w0 L bl (kept++todo) D pend s E a w->
   (∀q∈kept,Zl q=true->m.testBit q.i=false)->
   ∃rem D' s' E',K rem D' s'/\Inv P all its sp E0 h0 w0 L bl rem D' pend s' E' a w/\(∀q,q∈rem->q∈kept++todo)/\(∀q,q∈kept++todo->Zl q=false->q∈rem)/\(∀q∈rem,Zl q=true->m.testBit q.i=false):=by
 intro todo
 induction todo with
 | nil=>intro kept D s E h I hk;exact ⟨kept,D,s,E,h,by simp_all,fun q hq=>by simp_all,fun q hq _=>by simp_all,hk⟩
 | cons it r ih=>
  intro kept D s E h I hk
  unfold Vn at h
  split at h
  ·rename_i hlb
   ·rw [J2] at hlb
    obtain ⟨hl,hb⟩:=hlb
    ·obtain ⟨v,B,h,hv⟩:=UV hl h
     obtain ⟨s2,k0,k1,k2,k3,k4,k5⟩:=Y1 h
     obtain ⟨k0,krc⟩:=Xy k0
     have hmem:it∈kept++it::r:=by simp
     have hnd:=I.nodup
     have hnd':(kept++r).Pairwise fun a b=>a.i≠b.i:=hnd.sublist (List.Sublist.append (List.Sublist.refl _) (List.sublist_cons_self _ _))
     have hr:∀x,x∈kept++r↔x∈kept++it::r/\x≠it:=fun x=>by
      grind
     have hLi:=hmL it (I.sub it hmem) hl hb
     obtain ⟨E',I'⟩:=I.adoptStep hst hmem hl (hmc it (I.sub it hmem) hLi) hLi (fun q hq v hqv=>(hok q hq v hqv).imp id (krc q v)) hv hr hnd' k1 k2 k3 k4 k5
     grind
  ·obtain ⟨rem,D',s',E',k1,k2,k3,k4,k5⟩:=ih (kept++[it]) D s E h (by simp_all) (fun q hq hl=>by
    grind)
   grind
theorem Vs (hst:Stat P all its0 its sp n0) (hm:∀q∈its0,L q.i->∀p,q.m.testBit p=true->L p) {it q:It} (hits:it∈its) (hq:q∈its) (hl:Zl q=true) (hL:L q.i) (hnL:¬L it.i) {a a':Act} {r:Value} (ha:a'=a.put it.o.dst r) {mkv:Nat->Value} {obj:Obj}
  (h:X5 P q a mkv obj):X5 P q a' mkv obj:=by
 subst ha
 refine h.congr hl fun x hx=>ZG fun hd=>hnL ?_
 exact hm q (hst.sub q hq) hL _ (hst.lrd q hq hl it hits x hd hx)
theorem Z1Z (hst:Stat P all its0 its sp n0) (hm:∀q∈its0,L q.i->∀p,q.m.testBit p=true->L p) {it:It} (hits:it∈its) (hnL:¬L it.i) (M:MpI sp w0 L bl rem s.t E s.h a w)
  {t':Zn} {rem':List It} {bl':Nat->Nat} {E':Env} {h':Z1} {a':Act} {w':World} {r:Value} (ha:∀x,a'.tmps.getD x undef=(a.put it.o.dst r).tmps.getD x undef) (hz:a'.tmps.size=a.tmps.size)
  (ht:∀x,it.o.dst≠some x->Zd s.t x=none->Zd t' x=none)
  (hw:∀b,b<w.heap.size->¬Y5 E s.h b->w'.heap[b]? =w.heap[b]?)
  (ho:∀b,b<w.heap.size->¬Y5 E s.h b->(∀q∈rem,L q.i->Zl q=true->bl q.i≠b)->¬Y5 E' h' b)
  (hi:∀ad c,E'.imm ad c->E.imm ad c)
  (hs:w.heap.size<=w'.heap.size)
  (hb:∀q∈rem',(L q.i\/q.i=it.i)->Zl q=true->∀b,b<w.heap.size->(∀q∈rem,L q.i->Zl q=true->bl q.i≠b)->bl' q.i≠b):
  MpI sp w0 (fun j=>L j\/j=it.i) bl' rem' t' E' h' a' w':=by
 refine M.step (fun d hd=> ?_) (fun d hd=>ht d.x (Yo hst hd hits).2.2.1) hz (fun d hd=> ?_) (fun d hd j hj hLj=> ?_) hw ho hi hs hb
 ·have hu:=Yo hst hd hits
  grind
 ·rw [ha,ZG (Yo hst hd hits).2.2.1]
 ·rw [ha,ZG fun e=>hnL ((UT hst hd hj hm hLj).2.2 it hits e)]
theorem Inv.doQuiet (hst:Stat P all its0 its sp n0) (hm:∀q∈its0,L q.i->∀p,q.m.testBit p=true->L p) (I:Inv P all its sp E0 h0 w0 L bl rem D pend s E a w) {it:It} (hits:it∈its) (hnL:¬L it.i) (hq:ZN it=true) (hn:it∉rem) {v:AV} {r:Value} (hd:∀x,it.o.dst=some x->Zd s.t x=some v) (hv:Z4 E v r):
  Inv P all its sp E0 h0 w0 (fun j=>L j\/j=it.i) bl rem D pend s E (a.put it.o.dst r) w:=by
 have hne:∀q∈its,q≠it->q.i≠it.i:=fun q hq' hn' e=>hn' (hst.uniq q hq' it hits e)
 have hback:∀q∈its,q≠it->(L q.i\/q.i=it.i)->L q.i:=fun q hq' hn' h=>h.resolve_right (hne q hq' hn')
 refine ⟨I.sub,I.nodup,I.dbit,I.born,fun q hq' he=> ?_,fun q hq' hl hn'=>.inl (I.late q hq' hl hn'),fun q hq' hqq hL=> ?_,fun q hq' hqq hn' hL=>I.fact q hq' hqq hn' (fun h=>hL (.inl h)),by rw [Yg];exact I.size,fun x u hx hc=> ?_,
  by rw [put_defers];exact I.defs,I.evo,I.lt,fun q hq' hL hT=> ?_,fun q hq' q' hq'' hL hL' hl hl' hb=> ?_,I.dst,I.dset,I.ln, ?_⟩
 ·have hqi:q≠it:=fun h=>by simp_all [ZE]
  rw [<-I.eff q hq' he]
  simp_all
 ·by_cases hqi:q=it
  ·simp_all
  ·exact I.quiet q hq' hqq (hback q hq' hqi hL)
 ·by_cases hdx:it.o.dst=some x
  ·rw [hd x hdx] at hx
   cases hx
   rw [hdx,XU (by rw [I.size];exact I.dst it hits x hdx hn)]
   exact hv
  ·rw [ZG hdx]
   refine I.tmps x u hx fun q hq' hdq hqq hn'=>hback q hq' (fun e=> ?_) (hc q hq' hdq hqq hn')
   simp_all
 ·have hqi:q≠it:=fun h=>by simp_all
  have hLq:=hback q (I.sub q hq') hqi hL
  obtain ⟨y,y0,y1,y2,y3,y4,y5,y6,y7⟩:=I.adopt q hq' hLq hT
  refine ⟨y,y0,Vs hst hm hits (I.sub q hq') hT hLq hnL rfl y1,fun x hx=> ?_,y3,y4,y5,y6,y7⟩
  rw [ZG (hst.dst q (I.sub q hq') it hits hqi x hx)]
  simp_all
 ·have hqi:q≠it:=fun h=>by simp_all
  have hqi':q'≠it:=fun h=>by simp_all
  exact I.inj q hq' q' hq'' (hback q (I.sub q hq') hqi hL) (hback q' (I.sub q' hq'') hqi' hL') hl hl' hb
 ·refine Z1Z hst hm hits hnL I.mp (fun _=>rfl) Yg (fun _ _ h=>h) (fun _ _ _=>rfl) (fun _ _ h _=>h) (fun _ _ h=>h) (J4 _) (fun q hq' hL hl b _ hb=>hb q hq' ?_ hl)
  exact hback q (I.sub q hq') (fun h=>by simp_all) hL
theorem Inv.doLate (hst:Stat P all its0 its sp n0) (hm:∀q∈its0,L q.i->∀p,q.m.testBit p=true->L p) (I:Inv P all its sp E0 h0 w0 L bl rem D pend s E a w) {it:It} (hit:it∈rem) (hl:Zl it=true) (hnL:¬L it.i) {mkv:Nat->Value} {obj:Obj} (hz:X5 P it a mkv obj):
  Inv P all its sp E0 h0 w0 (fun j=>L j\/j=it.i) (fun j=>if j=it.i then w.heap.size else bl j) rem D pend s E (a.put it.o.dst (mkv w.heap.size)) { w with heap:=w.heap.push obj}:=by
 have hits:=I.sub it hit
 have hne:∀q∈its,q≠it->q.i≠it.i:=fun q hq' hn' e=>hn' (hst.uniq q hq' it hits e)
 have hback:∀q∈its,q≠it->(L q.i\/q.i=it.i)->L q.i:=fun q hq' hn' h=>h.resolve_right (hne q hq' hn')
 have hnown:¬Y5 E s.h w.heap.size:=fun ⟨x,B,N,hx,hb⟩=>by
  have:=(I.evo.emb.own x B hx).lt hb
  omega
 have hnimm:∀ad c,E.imm ad c->ad.block≠w.heap.size:=fun ad c hi e=>by
  have h1:=I.evo.emb.imm ad c hi
  simp [World.cell?,e] at h1
 have key:∀q∈rem,q≠it->(L q.i\/q.i=it.i)->Zl q=true->bl q.i<w.heap.size:=fun q hq hqi hL hl'=>by
  obtain ⟨y,y0,y1,y2,y3,y4,y5,y6,y7⟩:=I.adopt q hq (hback q (I.sub q hq) hqi hL) hl'
  exact y7
 refine ⟨I.sub,I.nodup,I.dbit,I.born,fun q hq' he=> ?_,fun q hq' hl' hn'=>.inl (I.late q hq' hl' hn'),fun q hq' hqq hL=> ?_,fun q hq' hqq hn' hL=>I.fact q hq' hqq hn' (fun h=>hL (.inl h)),by rw [Yg];exact I.size,fun x u hx hc=> ?_,
  by rw [put_defers];exact I.defs,I.evo.trans (Uj I.evo.emb _),I.lt,fun q hq' hL hT'=> ?_,fun q hq' q' hq'' hL hL' hl1 hl2 hb=> ?_,I.dst,I.dset,I.ln, ?_⟩
 ·have hqi:q≠it:=fun h=>by simp_all [ZW]
  rw [<-I.eff q hq' he]
  simp_all
 ·have hqi:q≠it:=fun h=>by simp_all [Zu]
  exact I.quiet q hq' hqq (hback q hq' hqi hL)
 ·by_cases hdx:it.o.dst=some x
  ·rw [I.lt it hit hl x hdx] at hx;cases hx
  ·rw [ZG hdx]
   refine I.tmps x u hx fun q hq' hdq hqq hn'=>hback q hq' (fun e=> ?_) (hc q hq' hdq hqq hn')
   simp_all
 ·by_cases hqi:q=it
  ·subst hqi
   refine ⟨mkv,obj,hz.congr hl fun x hx=>ZG fun hd=>hst.self q hits ?_ x hd (Jh _ hx),fun x hx=> ?_, ?_, ?_, ?_, ?_, ?_⟩
   ·simp_all [Yf]
   all_goals simp only [if_true]
   ·rw [hx,XU (by rw [I.size];exact I.ln q hits hl x hx)]
   ·simp
   ·exact hnown
   ·exact hnimm
   ·exact I.evo.size
   ·simp
  ·simp only [if_neg (hne q (I.sub q hq') hqi)]
   have hLq:=hback q (I.sub q hq') hqi hL
   obtain ⟨y,y0,y1,y2,y3,y4,y5,y6,y7⟩:=I.adopt q hq' hLq hT'
   refine ⟨y,y0,Vs hst hm hits (I.sub q hq') hT' hLq hnL rfl y1,fun x hx=> ?_, ?_,y4,y5,y6, ?_⟩
   ·rw [ZG (hst.dst q (I.sub q hq') it hits hqi x hx)]
    simp_all
   all_goals grind
 ·by_cases hqi:q=it
  ·by_cases hqi':q'=it
   ·rw [hqi,hqi']
   ·subst hqi
    simp only [if_true,if_neg (hne q' (I.sub q' hq'') hqi')] at hb
    have:=key q' hq'' hqi' hL' hl2
    omega
  ·by_cases hqi':q'=it
   ·subst hqi'
    simp only [if_true,if_neg (hne q (I.sub q hq') hqi)] at hb
    have:=key q hq' hqi hL hl1
    omega
   ·simp only [if_neg (hne q (I.sub q hq') hqi),if_neg (hne q' (I.sub q' hq'') hqi')] at hb
    exact I.inj q hq' q' hq'' (hback q (I.sub q hq') hqi hL) (hback q' (I.sub q' hq'') hqi' hL') hl1 hl2 hb
 ·refine Z1Z hst hm hits hnL I.mp (fun _=>rfl) Yg (fun _ _ h=>h) (fun b hb _=>World.push_old hb) (fun _ _ h _=>h) (fun _ _ h=>h) (by simp_all) (fun q hq' hL hl' b hbs hb=> ?_)
  grind
end
end Go.Tk
end
section
namespace Go.Tk
open IntKind (i64 u8 u32 u64 wrap)
theorem Z0V {qm:Nat} {all:List Oper} (hed:∀i o e,all[i]? =some o->e∈o.after.toList->Region.binds .any e=true->e.on<i):
  ∀{r:List Oper} {k:Nat} {acc:List Nat},(∀j,r[j]? =all[k+j]?)->(∀j p,(Wf acc j).testBit p=true->p<j)->acc.length=k->
   ∀it∈Zg qm k acc r,∀p,it.m.testBit p=true->p<it.i
 | [],_,_,_,_,_,it,h,_,_=>by simp [Zg] at h
 | o::r,k,acc,hr,hacc,hk,it,h,p,hp=>by
  have h0:all[k]? =some o:=by have:=hr 0;simp_all
  have hself:∀p,(Wm acc o.after.toList 0).testBit p=true->p<k:=fun p hp=>by
   rcases Wb hp with h1|⟨e,he,hb,h2⟩
   all_goals grind
  simp only [Zg,J5] at h
  rcases h with rfl|h
  ·simp_all
  ·refine Z0V hed (k:=k+1) (acc:=acc++[Wm acc o.after.toList 0]) (fun j=> ?_) ?_ (by simp [hk]) it h p hp
   ·have:=hr (j+1)
    rw [show k+1+j=k+(j+1) from by omega,<-this]
    simp
   grind [Qv]
theorem Wd {m:Nat} {q:It} {v:AV}:∀{pend:List (It×AV)},(q,v)∈Xl m pend↔(q,v)∈pend/\m.testBit q.i=false
 | []=>by simp [Xl]
 | (it,u)::r=>by
  unfold Xl
  split
  ·rename_i h
   rw [Wd]
   constructor
   ·rintro ⟨h1,h2⟩;exact ⟨Jg _ h1,h2⟩
   ·rintro ⟨h1,h2⟩
    rcases J5.1 h1 with h3|h3
    ·cases h3;rw [h] at h2;cases h2
    ·exact ⟨h3,h2⟩
  ·rename_i h
   rw [J5,Wd,J5]
   constructor
   ·rintro (h1|⟨h1,h2⟩)
    ·cases h1;exact ⟨.inl rfl,h⟩
    ·exact ⟨.inr h1,h2⟩
   ·rintro ⟨h1|h1,h2⟩
    ·exact .inl h1
    ·exact .inr ⟨h1,h2⟩
theorem ZH {i:Nat} {q:It}:∀{l:List It},q∈Xk i l↔q∈l/\q.i≠i
 | []=>by simp [Xk]
 | it::r=>by
  unfold Xk
  split
  ·rename_i h
   have e:=J0 h
   rw [ZH,J5]
   constructor
   ·rintro ⟨h1,h2⟩;exact ⟨.inr h1,h2⟩
   ·rintro ⟨h1|h1,h2⟩
    ·subst h1;exact absurd e h2
    ·exact ⟨h1,h2⟩
  ·rename_i h
   have e:it.i≠i:=fun e=>by rw [e,Jc] at h;cases h
   rw [J5,ZH,J5]
   constructor
   ·rintro (h1|⟨h1,h2⟩)
    ·subst h1;exact ⟨.inl rfl,e⟩
    ·exact ⟨.inr h1,h2⟩
   ·rintro ⟨h1|h1,h2⟩
    ·exact .inl h1
    ·exact .inr ⟨h1,h2⟩
theorem Vt {i:Nat}:∀{l:List It},(Xk i l).Sublist l
 | []=>List.Sublist.refl _
 | it::r=>by
  unfold Xk
  split
  ·exact List.Sublist.cons _ Vt
  ·exact List.Sublist.cons_cons _ Vt
theorem WF {x:Nat} {v:AV} {t:Zn}:∀{its:List It},Zd (UQ t its) x=some v->Zd t x=some v/\∀it∈its,it.o.dst≠some x
 | [],h=>⟨h,by simp⟩
 | it::r,h=>by
  unfold UQ at h
  split at h
  ·rename_i y hy
   by_cases hxy:y=x
   ·subst hxy;rw [Yr] at h;cases h
   ·rw [Ye _ _ _ hxy] at h
    have:=WF h
    refine ⟨this.1,fun q hq=> ?_⟩
    rcases J5.1 hq with rfl|hq
    ·rw [hy];exact fun e=>hxy (by injection e)
    ·exact this.2 q hq
  ·rename_i hy
   have:=WF h
   refine ⟨this.1,fun q hq=> ?_⟩
   rcases J5.1 hq with rfl|hq
   ·rw [hy];simp
   ·exact this.2 q hq
theorem YJ {x:Nat} {v:AV} {t:Zn}:∀{its:List It},Zd (YS t its) x=some v->Zd t x=some v/\∀it∈its,Zl it=true->it.o.dst≠some x
 | [],h=>⟨h,by simp⟩
 | it::r,h=>by
  unfold YS at h
  split at h
  ·rename_i y hT hy
   by_cases hxy:y=x
   ·subst hxy;rw [Yr] at h;cases h
   ·rw [Ye _ _ _ hxy] at h
    have:=YJ h
    refine ⟨this.1,fun q hq hl=> ?_⟩
    rcases J5.1 hq with rfl|hq
    ·rw [hy];exact fun e=>hxy (by injection e)
    ·exact this.2 q hq hl
  ·rename_i hno
   have:=YJ h
   refine ⟨this.1,fun q hq hl hd=> ?_⟩
   rcases J5.1 hq with rfl|hq
   ·exact hno x hl hd
   ·exact this.2 q hq hl hd
theorem Wn:∀{l:List It},YR l=none->∀q∈l,Yf q=false
 | [],_,q,hq=>by simp at hq
 | it::r,h,q,hq=>by
  unfold YR at h
  split at h
  ·cases h
  ·rename_i he
   rcases J5.1 hq with rfl|hq
   ·exact he
   ·exact Wn h q hq
theorem Wo:∀{l:List It} {e:It},YR l=some e->e∈l/\Yf e=true
 | [],e,h=>by simp [YR] at h
 | it::r,e,h=>by
  unfold YR at h
  split at h
  ·rename_i he;cases h;exact ⟨Jo ..,he⟩
  ·have:=Wo h
   exact ⟨Jg _ this.1,this.2⟩
section
variable {P:Program} {all:List Oper} {its0 its:List It} {sp:Option SpD} {n0:Nat} {E0:Env} {h0:Z1} {w0:World} {L:Nat->Prop} {bl:Nat->Nat} {rem rem':List It} {D:Nat} {pend pend':List (It×AV)} {s s2:St} {E:Env} {a:Act} {w:World}
theorem Inv.doEff (hst:Stat P all its0 its sp n0) (hm:∀q∈its0,L q.i->∀p,q.m.testBit p=true->L p) (I:Inv P all its sp E0 h0 w0 L bl rem D pend s E a w) {e:It} (he:e∈rem) (hnL:¬L e.i) (heff:Yf e=true) (hD:∀p,e.m.testBit p=true->D.testBit p=true) (hme:∀p,e.m.testBit p=true->L p)
  {s3:St} {E':Env} {w':World} {ds:List Deferred} {v:AV} {r:Value} (hev:Evo E s.h w E' s3.h w') (hev0:Evo E0 h0 w0 E' s3.h w') (hds:Xt E' s3.d ds) (hv:Z4 E' v r)
  (e2:s3.n=s.n) (e4:∀x,e.o.dst=some x->Zd s3.t x=some v/\x<s.n) (e5:∀x,e.o.dst≠some x->Zd s3.t x=Zd s.t x)
  (hre:∀q v,(q,v)∈Xl e.m pend->Vp P q s.t s.h v->(∀x∈opT q.o.op,Zd s3.t x=Zd s.t x)->Vp P q s3.t s3.h v):
  Inv P all its sp E0 h0 w0 (fun j=>L j\/j=e.i) bl (Xk e.i rem) (Nat.lor D (2^e.i)) (Xl e.m pend) s3 E' (({ a with defers:=ds}:Act).put e.o.dst r) w':=by
 have hits:=I.sub e he
 have hne:∀q∈its,q≠e->q.i≠e.i:=fun q hq' hn' h=>hn' (hst.uniq q hq' e hits h)
 have hback:∀q∈its,q≠e->(L q.i\/q.i=e.i)->L q.i:=fun q hq' hn' h=>h.resolve_right (hne q hq' hn')
 have hrm:∀q∈its,q∉Xk e.i rem->q=e\/q∉rem:=fun q hq hn=>by
  by_cases h:q=e
  ·exact .inl h
  ·exact .inr fun hr=>hn (ZH.2 ⟨hr,hne q hq h⟩)
 have hfwd:∀q,q∉rem->q∉Xk e.i rem:=fun q hn h=>hn (ZH.1 h).1
 refine ⟨fun q hq=>I.sub q (ZH.1 hq).1,I.nodup.sublist Vt,fun q hq hb=> ?_,fun q hq hnl hn p hp hb=> ?_,fun q hq hqe=> ?_,fun q hq hl hn=> ?_,fun q hq hqq hL=> ?_,fun q hq hqq hn hL=> ?_,
  by rw [Yg,e2];exact I.size,fun x u hx hc=> ?_,by rw [put_defers];exact hds,hev0,fun q hq hl x hx=> ?_,fun q hq hL hT=> ?_,fun q hq q' hq' hL hL' hl hl' hb=> ?_,fun q hq x hx hn=> ?_,fun q hq hn=> ?_,by rw [e2];exact I.ln, ?_⟩
 ·rcases Z0e hb with h|h
  ·exact hfwd q (I.dbit q hq h)
  ·exact fun hr=>(ZH.1 hr).2 h
 ·rcases hrm q hq hn with rfl|hn'
  ·exact hfwd p (I.dbit p hp (hD _ hb))
  ·exact hfwd p (I.born q hq hnl hn' p hp hb)
 ·by_cases hqi:q=e
  ·subst hqi
   exact ⟨fun _ h=>(ZH.1 h).2 rfl,fun _=>.inr rfl⟩
  ·constructor
   ·intro h
    exact hfwd q ((I.eff q hq hqe).1 (hback q hq hqi h))
   ·intro h
    exact .inl ((I.eff q hq hqe).2 ((hrm q hq h).resolve_left hqi))
 ·have hqi:q≠e:=fun h=>by subst h;rw [ZW heff] at hl;cases hl
  exact .inl (I.late q hq hl ((hrm q hq hn).resolve_left hqi))
 ·have hqi:q≠e:=fun h=>by subst h;rw [ZE heff] at hqq;cases hqq
  exact hfwd q (I.quiet q hq hqq (hback q hq hqi hL))
 ·have hqi:q≠e:=fun h=>by subst h;rw [ZE heff] at hqq;cases hqq
  have hn':=(hrm q hq hn).resolve_left hqi
  have hL':¬L q.i:=fun h=>hL (.inl h)
  obtain ⟨u,h1,h2⟩:=I.fact q hq hqq hn' hL'
  have hsame:∀x∈YD all q.o,Zd s3.t x=Zd s.t x:=fun x hx=>e5 x fun hd=>by
   rcases hst.rd e hits q hq (fun h=>hqi h.symm) x hd hx with h|⟨h3,_⟩
   ·exact I.born q hq (Zu hqq) hn' e hits h he
   ·exact hL' (hme _ h3)
  refine ⟨u,fun x hx=> ?_, ?_⟩
  ·rw [e5 x fun hd=>hst.dst e hits q hq (fun h=>hqi h.symm) x hd hx]
   exact h1 x hx
  ·rw [X4 fun x hx=>hsame x (Jj _ hx)]
   rcases h2 with ⟨h2,h3,h4⟩|h
   ·have hmem:(q,u)∈Xl e.m pend:=Wd.2 ⟨h3,by
     cases hb:e.m.testBit q.i with
     | false=>rfl
     | true=>exact absurd (hme _ hb) hL'⟩
    exact .inl ⟨h2,hmem,hre q u hmem h4 fun x hx=>hsame x (Jh _ hx)⟩
   ·exact .inr h
 ·by_cases hdx:e.o.dst=some x
  ·rw [(e4 x hdx).1] at hx
   cases hx
   rw [hdx,XU (by show x<a.tmps.size;rw [I.size];simp_all)]
   exact hv
  ·rw [ZG hdx]
   rw [e5 x hdx] at hx
   refine (I.tmps x u hx fun q hq hdq hqq hn=> ?_).mono hev.le
   grind
 ·have hq1:=ZH.1 hq
  have hqi:q≠e:=fun h=>by simp_all
  rw [e5 x fun hd=>hst.dst e hits q (I.sub q hq1.1) (fun h=>hqi h.symm) x hd hx]
  exact I.lt q hq1.1 hl x hx
 ·have hq1:=ZH.1 hq
  have hqi:q≠e:=fun h=>by simp_all
  have hLq:=hback q (I.sub q hq1.1) hqi hL
  obtain ⟨y,y0,y1,y2,y3,y4,y5,y6,y7⟩:=I.adopt q hq1.1 hLq hT
  refine ⟨y,y0,Vs hst hm hits (I.sub q hq1.1) hT hLq hnL (a:={ a with defers:=ds}) rfl y1,fun x hx=> ?_,(hev.keep _ y7 y4).trans y3,fun ho=> ?_,fun ad c hi=>y5 ad c (hev.imm ad c hi),y6,Nat.lt_of_lt_of_le y7 hev.size⟩
  ·rw [ZG (hst.dst q (I.sub q hq1.1) e hits hqi x hx)]
   simp_all
  ·rcases hev.own _ ho with h|h
   all_goals grind
 ·have hq1:=ZH.1 hq
  have hq2:=ZH.1 hq'
  have hqi:q≠e:=fun h=>by simp_all
  have hqi':q'≠e:=fun h=>by simp_all
  exact I.inj q hq1.1 q' hq2.1 (hback q (I.sub q hq1.1) hqi hL) (hback q' (I.sub q' hq2.1) hqi' hL') hl hl' hb
 ·rw [e2]
  rcases hrm q hq hn with rfl|hn'
  ·simp_all
  ·exact I.dst q hq x hx hn'
 ·rcases hrm q hq hn with rfl|hn'
  ·simp_all
  ·exact UU (I.dset q hq hn')
 ·refine Z1Z hst hm hits hnL I.mp (r:=r) (fun x=>by cases hq:e.o.dst<;>simp [Act.put]) (by rw [Yg]) (fun x hd h=>by rw [e5 x hd];exact h) hev.keep
   (fun b hb hno _ ho=>(hev.own b ho).elim hno fun h=>by omega) (fun ad c h=>hev.imm ad c h) hev.size (fun q hq hL hl b _ hb=> ?_)
  have hq1:=ZH.1 hq
  simp_all
end
end Go.Tk
end
section
namespace Go.Tk
open IntKind (i64 u8 u32 u64 wrap)
theorem Z3f {E0:Env} {h0:Z1} {w0:World} {E:Env} {h:Z1} {w:World} (v:Evo E0 h0 w0 E h w) (b:Nat) (o:Obj) (hb:¬Y5 E h b) (hi:∀ad c,E.imm ad c->ad.block≠b) (hw:w0.heap.size<=b):
  Evo E0 h0 w0 E h { w with heap:=w.heap.setIfInBounds b o}:=by
 have hget:∀i,i≠b->(w.heap.setIfInBounds b o)[i]? =w.heap[i]?:=fun i hi=>by rw [J6,if_neg (fun e=>hi e.symm)]
 refine ⟨v.le,⟨v.emb.fresh,v.emb.lt,fun x B hx=>(v.emb.own x B hx).congr fun b' N hb'=>hget b' fun e=>hb ⟨x,B,N,hx,by rw [hb',e]⟩,v.emb.disj,fun ad c him=> ?_,v.emb.sep⟩,by simpa using v.size,v.os,v.tape,v.output,fun b' hb' hn=> ?_,v.own,v.imm⟩
 ·have h1:=v.emb.imm ad c him
  grind [World.cell?]
 ·rw [hget b' (by omega)]
  exact v.keep b' hb' hn
theorem WG {d:SpD} {it:It} (h:Z0S d it=true):it.o.guard=none/\((∃T,it.o.op=.makeMap T none/\it.i=d.i/\it.o.dst=some d.x)\/
  ∃j∈d.js,j.i=it.i/\it.o.op=.insert d.T (.tmp d.x) (.const (.int d.k j.c)) (.tmp j.y)/\it.o.dst=none):=by
 unfold Z0S at h
 simp only [J2] at h
 obtain ⟨⟨_,h1⟩,h2⟩:=h
 refine ⟨by simp_all, ?_⟩
 split at h2
 ·grind [J0,Qu]
 ·rename_i T m k c y ho
  simp only [J2] at h2
  obtain ⟨⟨⟨⟨h3,h4⟩,h5⟩,h6⟩,h7⟩:=h2
  obtain ⟨j,hj,h8⟩:=(Z0R _ _).1 h7
  simp only [J2] at h8
  have e1:=J0 h4
  have e2:=J0 h5
  have e3:=of_decide_eq_true h6
  have e4:=of_decide_eq_true h8.1.2
  have e5:=J0 h8.2
  exact .inr ⟨j,hj,J0 h8.1.1,by rw [ho,e1,e2,e3,e4,e5],by simp_all⟩
 ·cases h2
theorem Xm:∀{l:List YT},WE l=true->l.Pairwise fun a b=>a.i≠b.i/\a.c≠b.c
 | [],_=>.nil
 | a::r,h=>by
  unfold WE at h
  rw [J2] at h
  refine .cons (fun b hb=> ?_) (Xm h.2)
  have h1:=(XS _ _).1 h.1 b hb
  simp only [J2,Jl,decide_eq_false_iff_not] at h1
  exact ⟨fun e=>(by rw [e,Jc] at h1;cases h1.1),h1.2⟩
theorem Z58 {l:List YT} (h:WE l=true):∀{a b:YT},a∈l->b∈l->a.i=b.i->a=b:=by
 have hp:=Xm h
 clear h
 induction hp with
 | nil=>simp_all
 | cons h1 _ ih=>
  grind
theorem Z59 {l:List YT} (h:WE l=true):∀{a b:YT},a∈l->b∈l->a.c=b.c->a=b:=by
 have hp:=Xm h
 clear h
 induction hp with
 | nil=>simp_all
 | cons h1 _ ih=>
  grind
theorem Z3g {f:MapEntry->Value×Value} {g:YT->Value×Value} {l1 l2:List YT} (h:l1.Perm l2):∀ents:List MapEntry,ents.map f=l2.map g->∃ents':List MapEntry,ents'.Perm ents/\ents'.map f=l1.map g:=by
 induction h with
 | nil=>simp_all
 | cons x _ ih=>
  intro ents h
  cases ents with
  | nil=>simp at h
  | cons e r=>
   simp only [Jy,List.cons.injEq] at h
   obtain ⟨r',h1,h2⟩:=ih r h.2
   exact ⟨e::r',h1.cons e,by simp_all⟩
 | swap x y l=>
  intro ents h
  match ents,h with
  | e1::e2::r,h=>
   exact ⟨e2::e1::r,.swap ..,by simp_all⟩
  | [],h=>simp at h
  | [_],h=>simp at h
 | trans _ _ ih1 ih2=>
  intro ents h
  obtain ⟨r1,h1,h2⟩:=ih2 ents h
  obtain ⟨r2,h3,h4⟩:=ih1 r1 h2
  exact ⟨r2,h3.trans h1,h4⟩
theorem Z0W {t:Zn} {k:IntKind}:∀{js:List YT} {K:List (AV×AV)->Prop},Z2s t k js K->
  ∃es,K es/\∀(E:Env) (a:Act),(∀j∈js,∀v,Zd t j.y=some v->Z4 E v (a.tmps.getD j.y undef))->Zc E (es.map (·.1)) (js.map fun j=>(US k a j).1)/\Zc E (es.map (·.2)) (js.map fun j=>(US k a j).2)
 | [],K,h=>⟨[],h,fun _ _ _=>⟨.nil,.nil⟩⟩
 | j::r,K,h=>by
  unfold Z2s at h
  split at h
  ·rename_i v hv
   obtain ⟨es,h1,h2⟩:=Z0W h
   refine ⟨_,h1,fun E a hr=> ?_⟩
   obtain ⟨h3,h4⟩:=h2 E a fun j' hj'=>hr j' (Jg _ hj')
   exact ⟨.cons _ _ _ _ (.int _ _) h3,.cons _ _ _ _ (hr j (Jo ..) v hv) h4⟩
  simp_all
theorem Z44 {it:It} (h:bsI it=true):Zl it=true:=by
 grind [bsI]
theorem XW {P:Program} {D:Nat} {s:St} {K:Prop}:∀{l:List It},UP P D s K l->K/\∀it∈l,bsI it=true->Nat.beq (Nat.land it.m D) it.m=true->∃Z:Prop,Qs P s.h it.o.op (X2 s.t (opT it.o.op)) fun _ _=>Z
 | [],h=>⟨h,fun _ h=>by cases h⟩
 | it::r,h=>by
  unfold UP at h
  split at h
  ·rename_i hb
   rw [J2] at hb
   have h0:=h
   obtain ⟨v,B,h1,_⟩:=UV (Z44 hb.1) h
   obtain ⟨h2,h3⟩:=XW h1
   refine ⟨h2,fun q hq hbq hm=> ?_⟩
   rcases J5.1 hq with rfl|hq
   ·exact ⟨_,h0⟩
   simp_all
  ·rename_i hb
   obtain ⟨h2,h3⟩:=XW h
   refine ⟨h2,fun q hq hbq hm=> ?_⟩
   rcases J5.1 hq with rfl|hq
   ·rw [hbq,hm] at hb;cases hb
   ·exact h3 q hq hbq hm
section
variable {P:Program} {all:List Oper} {its0 its:List It} {sp:Option SpD} {n0:Nat} {E0:Env} {h0:Z1} {w0:World} {L:Nat->Prop} {bl:Nat->Nat} {rem:List It} {D:Nat} {pend:List (It×AV)} {s:St} {E:Env} {a:Act} {w:World} {cx:Ctx} {X:KE}
theorem Z45 (hst:Stat P all its0 its sp n0) (I:Inv P all its sp E0 h0 w0 L bl rem D pend s E a w) (hlt:∀it∈its,it.i<n0) (hspl:∀d,sp=some d->d.i<n0/\∀j∈d.js,j.i<n0) (hall:∀j,j<n0->L j) (h:Z41 sp s fun s=>X .normal s):Xv E0 h0 w0 X .normal a w:=by
 unfold Z41 at h
 cases sp with
 | none=>exact ⟨E,.normal,s,h,I.evo,⟨I.evo.emb,⟨I.size,fun x v hv=>I.tmps x v hv fun it hi _ _ _=>hall it.i (hlt it hi)⟩,I.defs⟩,.normal⟩
 | some d=>
  simp only at h
  obtain ⟨es,h1,h2⟩:=Z0W h
  obtain ⟨h3,h4⟩:=h2 E a fun j _ v hv=>I.tmps _ v hv fun it hi _ _ _=>hall it.i (hlt it hi)
  obtain ⟨s2,k0,k1,k2,k3,k4,k5⟩:=Y1 h1
  obtain ⟨m1,m2,m3⟩:=I.mp d rfl
  obtain ⟨b,ents,clock,n1,n2,n3,n4,n5,n6,n7,done,d1,d2,d3⟩:=m3 (hall _ (hspl d rfl).1)
  have hal:=hst.alone d rfl
  have hnd:d.js.Nodup:=(Xm hal).imp fun h e=>h.1 (by rw [e])
  have hnd':done.Nodup:=by
   unfold List.Nodup at d1⊢
   rw [List.pairwise_map] at d1
   exact d1.imp fun h e=>h (by rw [e])
  have hperm:d.js.Perm done:=(List.perm_ext_iff_of_nodup hnd hnd').2 fun j=>by
   simp_all
  obtain ⟨ents',p1,p2⟩:=Z3g hperm ents.toList d3
  have hkeys:ents'.map (·.key)=d.js.map fun j=>(US d.k a j).1:=by
   have:=congrArg (List.map Prod.fst) p2
   grind [Function.comp_def]
  have hvals:ents'.map (·.val)=d.js.map fun j=>(US d.k a j).2:=by
   have:=congrArg (List.map Prod.snd) p2
   grind [Function.comp_def]
  have hle:E.le (E.ext s.h.next b 0):=Env.ext_le (I.evo.emb.fresh _ (J4 _))
  have hB:ZB (E.ext s.h.next b 0) w s.h.next (.pmap es):=by
   refine .pmap es b d.k ents.toList ents' clock (Env.ext_same ..) (by omega) p1 ?_ (fun e he=> ?_) ?_ ?_
   ·rw [hkeys]
    unfold List.Nodup
    rw [List.pairwise_map]
    refine (Xm hal).imp fun h e=>h.2 ?_
    injection e
   ·have:e.key∈ents'.map (·.key):=List.mem_map_of_mem he
    rw [hkeys] at this
    obtain ⟨j,_,hj⟩:=JF.1 this
    exact ⟨j.c,hj.symm⟩
   ·rw [hkeys];exact h3.mono hle
   ·rw [hvals];exact h4.mono hle
  have hev:=Qx I.evo b 0 (.pmap es) n3 n4 hB n5
  refine ⟨E.ext s.h.next b 0,.normal,s2,k0,by rw [k1];exact hev,⟨by rw [k1];exact hev.emb,⟨by rw [k2];exact I.size,fun x v hv=> ?_⟩,by rw [k3];exact I.defs.mono hle⟩,.normal⟩
  by_cases hx:d.x=x
  ·subst hx
   rw [(k4 d.x rfl).1] at hv
   cases hv
   rw [n1]
   exact .map _ _ 0 (Env.ext_same ..)
  ·rw [k5 x (fun e=>hx (by injection e))] at hv
   exact (I.tmps x v hv fun it hi _ _ _=>hall it.i (hlt it hi)).mono hle
theorem finish (hst:Stat P all its0 its sp n0) (I:Inv P all its sp E0 h0 w0 L bl rem D pend s E a w) (hlt:∀it∈its,it.i<n0) (hml:∀it∈its,∀p,it.m.testBit p=true->p<it.i) (hspl:∀d,sp=some d->d.i<n0/\∀j∈d.js,j.i<n0) (hall:∀j,j<n0->L j) {next:List It->Nat->List (It×AV)->St->KE->Prop} (h:Xw cx P all its next rem D pend s (spX sp X)):
  Xv E0 h0 w0 X .normal a w:=by
 unfold Xw at h
 split at h
 ·simp_all
 ·replace h:=(XW h).1
  split at h
  ·obtain ⟨rem',D',s',E',hx,I',_,_,_⟩:=Z0U (kept:=[]) hst (fun it hi _ p hp=>hall _ (Nat.lt_trans (hml it hi p hp) (hlt it hi))) (fun it hi _ _=>hall it.i (hlt it hi)) (fun q hq v _=>.inl (hall q.i (hlt q hq))) rem D s E h I (by simp)
   exact Z45 hst I' hlt hspl hall hx
  ·rename_i e he
   have h1:=Wo he
   have hits:=I.sub e h1.1
   exact absurd h1.1 ((I.eff e hits h1.2).1 (hall e.i (hlt e hits)))
theorem Inv.doSp (hst:Stat P all its0 its sp n0) (I:Inv P all its sp E0 h0 w0 L bl rem D pend s E a w) {i:Nat} (hi:∀it∈its,it.i≠i) {a':Act} {w':World} (hz:a'.tmps.size=a.tmps.size) (hdf:a'.defers=a.defers)
  (hta:∀x,(∀d,sp=some d->x≠d.x)->a'.tmps.getD x undef=a.tmps.getD x undef) (hev:Evo E0 h0 w0 E s.h w') (hk:∀q∈rem,L q.i->Zl q=true->w'.heap[bl q.i]? =w.heap[bl q.i]?) (hs:w.heap.size<=w'.heap.size)
  (hmp:MpI sp w0 (fun j=>L j\/j=i) bl rem s.t E s.h a' w'):Inv P all its sp E0 h0 w0 (fun j=>L j\/j=i) bl rem D pend s E a' w':=by
 have hback:∀q∈its,(L q.i\/q.i=i)->L q.i:=fun q hq h=>h.resolve_right (hi q hq)
 refine ⟨I.sub,I.nodup,I.dbit,I.born,fun q hq' he=> ?_,fun q hq' hl' hn'=>.inl (I.late q hq' hl' hn'),fun q hq' hqq hL=>I.quiet q hq' hqq (hback q hq' hL),fun q hq' hqq hn' hL=>I.fact q hq' hqq hn' (fun h=>hL (.inl h)),by rw [hz];exact I.size,fun x u hx hc=> ?_,
  by rw [hdf];exact I.defs,hev,I.lt,fun q hq' hL hT'=> ?_,fun q hq' q' hq'' hL hL' hl1 hl2 hb=>I.inj q hq' q' hq'' (hback q (I.sub q hq') hL) (hback q' (I.sub q' hq'') hL') hl1 hl2 hb,I.dst,I.dset,I.ln,hmp⟩
 ·rw [<-I.eff q hq' he]
  simp_all
 ·rw [hta x fun d hd e=>by subst e;rw [(I.mp d hd).2.1] at hx;cases hx]
  exact I.tmps x u hx fun q hq' hdq hqq hn=>hback q hq' (hc q hq' hdq hqq hn)
 ·have hits:=I.sub q hq'
  have hLq:=hback q hits hL
  obtain ⟨y,y0,y1,y2,y3,y4,y5,y6,y7⟩:=I.adopt q hq' hLq hT'
  refine ⟨y,y0,y1.congr hT' fun x hx=>hta x fun d hd e=> ?_,fun x hx=> ?_,(hk q hq' hLq hT').trans y3,y4,y5,y6,Nat.lt_of_lt_of_le y7 hs⟩
  ·subst e
   exact (Yo hst hd hits).2.2.2.1 (Jh _ hx)
  ·rw [hta x fun d hd e=>(Yo hst hd hits).2.2.1 (by rw [hx,e])]
   simp_all
theorem Inv.doMap (hst:Stat P all its0 its sp n0) (hm:∀q∈its0,L q.i->∀p,q.m.testBit p=true->L p) (I:Inv P all its sp E0 h0 w0 L bl rem D pend s E a w) {d:SpD} (hd:sp=some d) (hnL:¬L d.i):
  Inv P all its sp E0 h0 w0 (fun j=>L j\/j=d.i) bl rem D pend s E (a.put (some d.x) (.map (some w.heap.size))) { w with heap:=w.heap.push (.map #[] 0)}:=by
 have hnown:¬Y5 E s.h w.heap.size:=fun ⟨x,B,N,hx,hb⟩=>by
  have:=(I.evo.emb.own x B hx).lt hb
  omega
 have hnimm:∀ad c,E.imm ad c->ad.block≠w.heap.size:=fun ad c hi e=>by
  have h1:=I.evo.emb.imm ad c hi
  simp [World.cell?,e] at h1
 have hlt:∀q∈rem,L q.i->Zl q=true->bl q.i<w.heap.size:=fun q hq hL hl'=>by
  obtain ⟨y,y0,y1,y2,y3,y4,y5,y6,y7⟩:=I.adopt q hq hL hl'
  exact y7
 have hnj:∀j∈d.js,¬L j.i/\j.i≠d.i:=fun j hj=>by
  refine ⟨fun h=>hnL (UT hst hd hj hm h).1,fun e=> ?_⟩
  have h:=hst.jok d hd j hj
  simp_all [jOk]
 refine I.doSp hst (fun it hit=>(Yo hst hd hit).1) Yg put_defers (fun x hx=>ZG fun e=>hx d hd (by simp_all)) (I.evo.trans (Uj I.evo.emb _)) (fun q hq hL hl=>World.push_old (hlt q hq hL hl)) (by simp_all) ?_
 intro d' hd'
 rw [hd] at hd'
 cases hd'
 obtain ⟨m1,m2,_⟩:=I.mp d hd
 refine ⟨by rw [Yg];exact m1,m2,fun _=>⟨w.heap.size, #[],0,XU m1,by simp,hnown,hnimm,I.evo.size,by simp,fun q hq hL hl e=> ?_,[],by simp,fun j=> ?_,rfl⟩⟩
 ·have:=hlt q hq (hL.resolve_right (Yo hst hd (I.sub q hq)).1) hl
  omega
 simp_all
theorem run_makeMap {o:Oper} {T:TypeId} (ho:o.op=.makeMap T none) (ρ:Operand->Value) (w:World):
  (execOp ρ o).run P w=.ok (.value (.map (some w.heap.size))) { w with heap:=w.heap.push (.map #[] 0)}:=by
 simp [execOp,ho,Instr.makeMap]
theorem Inv.doIns (hst:Stat P all its0 its sp n0) (hm:∀q∈its0,L q.i->∀p,q.m.testBit p=true->L p) (I:Inv P all its sp E0 h0 w0 L bl rem D pend s E a w) {d:SpD} (hd:sp=some d) {j:YT} (hj:j∈d.js) (hnL:¬L j.i) (hLd:L d.i)
  {o:Oper} (ho:o.op=.insert d.T (.tmp d.x) (.const (.int d.k j.c)) (.tmp j.y)):
  ∃w',(execOp a.eval o).run P w=.ok .skip w'/\Inv P all its sp E0 h0 w0 (fun i=>L i\/i=j.i) bl rem D pend s E a w':=by
 obtain ⟨m1,m2,m3⟩:=I.mp d hd
 obtain ⟨b,ents,clock,n1,n2,n3,n4,n5,n6,n7,done,k1,k2,k3⟩:=m3 hLd
 have hal:=hst.alone d hd
 obtain ⟨et,het⟩:=hst.key d hd
 obtain ⟨kt,kk,hT,hkt⟩:=Vg het
 have hkey:∀e∈ents.toList,∃j'∈done,e.key=.int d.k j'.c:=fun e he=>by
  have h1:(e.key,e.val)∈ents.toList.map (fun e=>(e.key,e.val)):=List.mem_map_of_mem (f:=fun e:MapEntry=>(e.key,e.val)) he
  rw [k3] at h1
  obtain ⟨j',h2,h3⟩:=JF.1 h1
  refine ⟨j',h2, ?_⟩
  unfold US at h3
  injection h3 with h3 _
  exact h3.symm
 have hfind:Instr.findNow (.int kk) (.int d.k j.c) ents.toList 0=some none:=by
  grind [Yw,Z59]
 refine ⟨{ w with heap:=w.heap.setIfInBounds b (.map (ents.push ⟨.int d.k j.c,a.tmps.getD j.y undef,clock⟩) (clock+1))}, ?_, ?_⟩
 ·have e1:a.eval (.tmp d.x)=.map (some b):=n1
  have e2:a.eval (.tmp j.y)=a.tmps.getD j.y undef:=rfl
  have e3:a.eval (.const (.int d.k j.c))=.int d.k j.c:=rfl
  simp only [execOp,ho,e1,e2,e3,Instr.mapUpdate,J3,run_underlying hT,J1,Ze n2,Zy hkt _ 9999,Instr.findKey,run_underlying hkt,hfind,J9,Zz _ n2]
 ·refine I.doSp hst (fun it hit=>((Yo hst hd hit).2.2.2.2 j hj).1) rfl rfl (fun x hx=>rfl) (Z3f I.evo b _ n3 n4 n5) (fun q hq hL hl=> ?_) (by simp) ?_
  ·rw [J6,if_neg (fun e=>n7 q hq hL hl e.symm)]
  ·intro d' hd'
   rw [hd] at hd'
   cases hd'
   refine ⟨m1,m2,fun _=>⟨b,ents.push ⟨.int d.k j.c,a.tmps.getD j.y undef,clock⟩,clock+1,n1,by simp_all,n3,n4,n5,by simp_all,fun q hq hL hl=>n7 q hq (hL.resolve_right ((Yo hst hd (I.sub q hq)).2.2.2.2 j hj).1) hl,done++[j], ?_,fun j'=> ?_, ?_⟩⟩
   ·grind
   ·grind [Z58]
   ·rw [Array.toList_push,Jm,k3,Jm]
    rfl
theorem Qz:∀(m n:Nat) (l:List Nat),(∀j,n<=j->j<n+m->j∈l)->m<=l.length
 | 0,_,_,_=>JQ _
 | m+1,n,l,h=>by
  have h1:=h (n+m) (by omega) (by omega)
  have h2:=Qz m n (l.erase (n+m)) fun j h3 h4=>(List.mem_erase_of_ne (by omega)).2 (h j h3 (by omega))
  rw [List.length_erase_of_mem h1] at h2
  have:=List.length_pos_of_mem h1
  omega
theorem QA (hst:Stat P all its0 its sp n0) (listed:Array Bool) (hsz:listed.size=all.length) (hr:Region.ready .any all.toArray listed=[]) (j:Nat):listed.getD j true=true:=by
 induction j using Nat.strongRecOn with
 | _ j ih=>
  cases hj:listed.getD j true with
  | true=>rfl
  | false=>
   have hjl:j<all.length:=by
    grind
   obtain ⟨it,hit,rfl⟩:=hst.ex j hjl
   have hm:=hst.mem0 it hit
   have:it.i∈Region.ready .any all.toArray listed:=mem_ready.2 ⟨hj,it.o,by simp_all,fun e he hb=>by
    have h1:=hst.edges it hit e (by simp_all) hb
    grind⟩
   rw [hr] at this
   cases this
theorem Z0f {it:It} (h:VR it=true):it.o.guard=none/\(∀p,p<it.i->it.m.testBit p=true)/\((∃x,it.o.op=.move x)\/∃x,it.o.op=.assign x):=by
 unfold VR at h
 simp only [J2] at h
 obtain ⟨⟨⟨_,h1⟩,h2⟩,h3⟩:=h
 refine ⟨by simp_all,fun p hp=> ?_, ?_⟩
 ·have h4:=J0 h2
  have h5:it.m=2^it.i-1:=by omega
  simp_all
 grind
theorem Z2v {qm:Nat} (hst:Stat P all (Zg qm 0 [] all) its sp n0) {ro:Option Nat} {n:Nat}:∀(T:List It) (k fuel:Nat) (listed:Array Bool) (a:Act) (w:World),(Zg qm 0 [] all).drop k=T->(∀q∈T,VR q=true)->listed.size=all.length->
  (∀j,listed.getD j true=true↔(j<k\/all.length<=j))->T.length<=fuel->Xv E0 h0 w0 (tlX P T X) .normal a w->wpAnyIn (Fr ro) n P .any all.toArray (Xv E0 h0 w0 X) fuel listed a w
 | [],k,fuel,listed,a,w,hd,htl,hsz,hli,hf,hp=>by
  have hlen:all.length<=k:=by
   have:=List.drop_eq_nil_iff.1 hd
   rw [Yn] at this
   exact this
  have hall:∀j,listed.getD j true=true:=fun j=>(hli j).2 (by omega)
  have hp':Xv E0 h0 w0 X .normal a w:=by
   obtain ⟨E',x,s',hx,h1,h2,h3⟩:=hp
   cases h3
   exact ⟨E',.normal,s',hx,h1,h2,.normal⟩
  cases fuel with
  | zero=>
   refine ⟨?_,hp'⟩
   simp_all [Region.ready]
  | succ fuel=>
   refine ⟨fun _=>hp',fun i hi=> ?_⟩
   have:=(mem_ready.1 hi).1
   rw [hall i] at this;cases this
 |it::r,k,fuel,listed,a,w,hd,htl,hsz,hli,hf,hp=>by
  have hk:(Zg qm 0 [] all)[k]? =some it:=by
   have:=congrArg (fun l=>l[0]?) hd
   grind
  have hki:=Yc hk
  have hik:it.i=k:=by omega
  have hklen:k<all.length:=by
   have:=(Jb.1 hk).1
   rw [Yn] at this
   exact this
  cases fuel with
  | zero=>simp at hf
  | succ fuel=>
   refine ⟨fun hr=> ?_,fun i hi=> ?_⟩
   ·have:=(hli k).1 (QA hst listed hsz hr k)
    omega
   obtain ⟨hun,o,ho,hpre⟩:=mem_ready.1 hi
   have ho':all[i]? =some o:=by simp_all
   have hil:i<all.length:=by
    grind
   have hik2:k<=i:=by
    grind
   obtain ⟨q,hq0,hqi⟩:=hst.ex i hil
   have hoi:=hst.mem0 q hq0
   rw [hqi,ho'] at hoi
   cases hoi
   have hei:i=k:=by
    rcases Jk k i with h|h
    ·exfalso
     have hqt:q∈it::r:=by
      rw [<-hd]
      obtain ⟨p,hp⟩:=Jv.1 hq0
      have h1:=Yc hp
      refine Jv.2 ⟨p-k, ?_⟩
      rw [Jt,show k+(p-k)=p from by omega]
      exact hp
     have h2:=(Z0f (htl q hqt)).2.1 k (by omega)
     have hL:=Xx (qm:=qm) (L:=fun j=>listed.getD j true=true\/j=i) (all:=all) (fun i' o' e hio hLi he hb=>by
      rcases hLi with hLi|rfl
      ·have h3:=(hli i').1 hLi
       have h4:i'<all.length:=by
        grind
       obtain ⟨q',hq',hqi'⟩:=hst.ex i' h4
       have h5:=hst.mem0 q' hq'
       rw [hqi',hio] at h5
       cases h5
       have h6:=hst.edges q' hq' e he hb
       grind
      grind) (k:=0) (acc:=[]) rfl (fun j=>by simp) (fun j p hj=>by omega) (fun j _=>by simp [Wf]) q hq0 (.inr hqi) k h2
     grind
    ·omega
   subst hei
   have hqe:q=it:=hst.uniq0 q hq0 it (List.mem_of_getElem? hk) (by omega)
   subst hqe
   obtain ⟨hg,_,hop⟩:=Z0f (htl q (Jo ..))
   obtain ⟨E',x,s',hx,h1,h2,h3⟩:=hp
   cases h3
   have hx':opQ P q.o.op s'.t s'.h fun v=>XD s' q.o.dst v fun s2=>tailA P r s2 fun s=>X .normal s:=hx
   obtain ⟨v,hv,hrun⟩:=Z1Q hx'
   obtain ⟨r',hr1,hr2⟩:=hrun E' w s'.n a (fun _=>h1.emb) h2.tmps
   obtain ⟨s2,k0,k1,k2,k3,k4,k5⟩:=Y1 hv
   unfold wpOpIn
   rw [ho]
   simp only
   rw [if_pos (by simp [Region.wanted,hg])]
   refine ⟨fun _ _=>trivial, ?_⟩
   rw [show (Fr ro).round=ro from rfl,Zi (fun c e=>by rcases hop with ⟨x,h⟩|⟨x,h⟩<;>rw [h] at e<;>cases e),hr1]
   refine Z2v hst r (i+1) fuel (listed.setIfInBounds i true) (a.put q.o.dst r') w ?_ (fun q' hq'=>htl q' (Jg _ hq')) (by simp_all) (fun j=> ?_) (by simp_all) ⟨E',.normal,s2,k0,by rw [k1];exact h1,⟨by rw [k1];exact h2.emb,⟨by rw [Yg,k2];exact h2.tmps.size,fun x u hu=> ?_⟩,by rw [k3,put_defers];exact h2.defs⟩,.normal⟩
   ·rw [<-List.drop_drop,hd];rfl
   ·by_cases hj:i=j
    ·simp_all
    ·have h4:(listed.setIfInBounds i true).getD j true=listed.getD j true:=by simp_all
     rw [h4,hli]
     omega
   ·by_cases hdx:q.o.dst=some x
    ·rw [(k4 x hdx).1] at hu
     cases hu
     rw [hdx,XU (by rw [h2.tmps.size];simp_all)]
     exact hr2
    ·rw [ZG hdx]
     rw [k5 x hdx] at hu
     exact h2.tmps.get x u hu
theorem Z3h {qm:Nat} (hcx:cx.Ok P) {ro:Option Nat} (hro:cx.inR=none->ro=none) (hst:Stat P all (Zg qm 0 [] all) its sp n0) {n:Nat} {T:List It} (hT:(Zg qm 0 [] all).drop n0=T) (htl:∀q∈T,VR q=true) (hn0:n0<=all.length) (hlt0:∀it∈its,it.i<n0) (hspl:∀d,sp=some d->d.i<n0/\∀j∈d.js,j.i<n0):
  ∀(fuel:Nat) (listed:Array Bool) (l:List Nat) (ns:Nat) (bl:Nat->Nat) (rem:List It) (D:Nat) (pend:List (It×AV)) (s:St) (E:Env) (a:Act) (w:World),
   l.length<=fuel->(∀j,listed.getD j true=false->j∈l)->listed.size=all.length->(∀j,n0<=j->j<all.length->listed.getD j true=false)->
   (∀i o e,all[i]? =some o->listed.getD i true=true->e∈o.after.toList->Region.binds .any e=true->listed.getD e.on true=true)->
   Inv P all its sp E0 h0 w0 (fun j=>listed.getD j true=true) bl rem D pend s E a w->
   Xw cx P all its (Vo cx P all its ns) rem D pend s (spX sp (tlX P T X))->
   wpAnyIn (Fr ro) n P .any all.toArray (Xv E0 h0 w0 X) fuel listed a w:=by
 have hlt:∀it∈Zg qm 0 [] all,∀p,it.m.testBit p=true->p<it.i:=by
  refine Z0V (all:=all) (fun i o e ho he hb=> ?_) (fun j=>by simp) (fun j p h=>by simp [Wf] at h) rfl
  have hi:i<all.length:=by
   rcases Jk i all.length with h|h
   ·exact h
   ·rw [List.getElem?_eq_none h] at ho;cases ho
  obtain ⟨it,hit,rfl⟩:=hst.ex i hi
  have:=hst.mem0 it hit
  rw [this] at ho
  cases ho
  exact hst.edges it hit e he hb
 have hml:∀it∈its,∀p,it.m.testBit p=true->p<it.i:=fun it hit=>hlt it (hst.sub it hit)
 -- all of the main part is done
 have hend:∀(fuel:Nat) (listed:Array Bool) (l:List Nat) (ns:Nat) (bl:Nat->Nat) (rem:List It) (D:Nat) (pend:List (It×AV)) (s:St) (E:Env) (a:Act) (w:World),
   l.length<=fuel->(∀j,listed.getD j true=false->j∈l)->listed.size=all.length->(∀j,n0<=j->j<all.length->listed.getD j true=false)->(∀j,j<n0->listed.getD j true=true)->
   Inv P all its sp E0 h0 w0 (fun j=>listed.getD j true=true) bl rem D pend s E a w->Xw cx P all its (Vo cx P all its ns) rem D pend s (spX sp (tlX P T X))->
   wpAnyIn (Fr ro) n P .any all.toArray (Xv E0 h0 w0 X) fuel listed a w:=fun fuel listed l ns bl rem D pend s E a w hl hcov hsz hunT hmain I h=>by
  refine Z2v hst T n0 fuel listed a w hT htl hsz (fun j=> ?_) ?_ (finish hst I hlt0 hml hspl hmain h)
  ·constructor
   ·intro h1
    rcases Jk j n0 with h2|h2
    ·exact .inl h2
    ·rcases Jk j all.length with h3|h3
     ·rw [hunT j h2 h3] at h1;cases h1
     ·exact .inr h3
   ·rintro (h1|h1)
    ·exact hmain j h1
    ·rw [Je,Array.getElem?_eq_none (by omega)]
     rfl
  ·have h1:=Qz (all.length-n0) n0 l fun j h2 h3=>hcov j (hunT j h2 (by omega))
   have h2:=congrArg List.length hT
   rw [Js,Yn] at h2
   omega
 intro fuel
 induction fuel with
 | zero=>
  intro listed l ns bl rem D pend s E a w hl hcov hsz hunT hdown I h
  have hl0:l=[]:=List.length_eq_zero_iff.1 (Nat.le_zero.1 hl)
  refine hend 0 listed l ns bl rem D pend s E a w hl hcov hsz hunT (fun j _=> ?_) I h
  cases hj:listed.getD j true with
  | true=>rfl
  | false=>have:=hcov j hj;rw [hl0] at this;cases this
 | succ fuel ih=>
  intro listed l ns bl rem D pend s E a w hl hcov hsz hunT hdown I h
  by_cases hmain:∀j,j<n0->listed.getD j true=true
  ·exact hend (fuel+1) listed l ns bl rem D pend s E a w hl hcov hsz hunT hmain I h
  refine ⟨fun hr=>absurd (fun j _=>QA hst listed hsz hr j) hmain,fun i hi=> ?_⟩
  obtain ⟨hun,o,ho,hpre⟩:=mem_ready.1 hi
  have ho':all[i]? =some o:=by simpa using ho
  have hil:i<all.length:=by
   grind
  obtain ⟨it,hit0,hii⟩:=hst.ex i hil
  subst hii
  have hoi:=hst.mem0 it hit0
  rw [ho'] at hoi
  cases hoi
  -- what is listed then
  have hL':(fun j=>(listed.setIfInBounds it.i true).getD j true=true)=(fun j=>listed.getD j true=true\/j=it.i):=by
   funext j
   apply propext
   by_cases hj:it.i=j
   ·subst hj
    have:it.i<listed.size:=by omega
    simp [Je,this]
   ·have hj':¬j=it.i:=fun e=>hj e.symm
    simp [Je,hj,hj']
  have hpreL:∀e∈it.o.after.toList,Region.binds .any e=true->listed.getD e.on true=true:=fun e he hb=>by
   have h1:=hpre e (by grind) hb
   rw [Je] at h1⊢
   grind
  have hdown':∀i o e,all[i]? =some o->(listed.getD i true=true\/i=it.i)->e∈o.after.toList->Region.binds .any e=true->(listed.getD e.on true=true\/e.on=it.i):=fun i o e hio hLi he hb=>by
   grind
  have hmaskL:∀q∈Zg qm 0 [] all,(listed.getD q.i true=true)->∀p,q.m.testBit p=true->listed.getD p true=true:=
   Xx (L:=fun j=>listed.getD j true=true) hdown (k:=0) (acc:=[]) rfl (fun j=>by simp) (fun j p hj=>by omega) (fun j _=>by simp [Wf])
  have hmask':∀q∈Zg qm 0 [] all,(listed.getD q.i true=true\/q.i=it.i)->∀p,q.m.testBit p=true->(listed.getD p true=true\/p=it.i):=
   Xx (L:=fun j=>listed.getD j true=true\/j=it.i) hdown' (k:=0) (acc:=[]) rfl (fun j=>by simp) (fun j p hj=>by omega) (fun j _=>by simp [Wf])
  have hbits:∀p,it.m.testBit p=true->listed.getD p true=true:=fun p hp=>by
   grind
  have hspc:it∈its\/∃d,sp=some d/\Z0S d it=true:=by
   rcases hst.spc it hit0 with h1|h1|⟨h1,h2⟩
   ·exact .inl h1
   ·exact .inr h1
   ·exact absurd (fun j hj=>hbits j ((Z0f h1).2.1 j (by omega))) hmain
  have hin0:it.i<n0:=by
   rcases hspc with h1|⟨d,hd,h1⟩
   ·exact hlt0 it h1
   ·obtain ⟨_,⟨_,_,h2,_⟩|⟨j,hj,h2,_⟩⟩:=WG h1
    ·rw [h2];exact (hspl d hd).1
    ·rw [<-h2];exact (hspl d hd).2 j hj
  -- going on
  have hgo:∀(ns':Nat) (bl':Nat->Nat) (rem':List It) (D':Nat) (pend':List (It×AV)) (s':St) (E':Env) (a':Act) (w':World),
    Inv P all its sp E0 h0 w0 (fun j=>listed.getD j true=true\/j=it.i) bl' rem' D' pend' s' E' a' w'->
    Xw cx P all its (Vo cx P all its ns') rem' D' pend' s' (spX sp (tlX P T X))->
    wpAnyIn (Fr ro) n P .any all.toArray (Xv E0 h0 w0 X) fuel (listed.setIfInBounds it.i true) a' w':=fun ns' bl' rem' D' pend' s' E' a' w' I' h'=>by
   refine ih (listed.setIfInBounds it.i true) (l.erase it.i) ns' bl' rem' D' pend' s' E' a' w' ?_ ?_ (by simpa using hsz) (fun j h1 h2=> ?_) ?_ (by rw [hL'];exact I') h'
   ·rw [List.length_erase_of_mem (hcov it.i hun)];omega
   ·intro j hj
    have hne:j≠it.i:=fun e=>by
     subst e
     have:=congrFun hL' it.i
     have h2:(listed.setIfInBounds it.i true).getD it.i true=true:=by rw [this];exact .inr rfl
     rw [h2] at hj;cases hj
    have hj':listed.getD j true=false:=by
     cases hq:listed.getD j true with
     | false=>rfl
     | true=>
      have:=congrFun hL' j
      have h2:(listed.setIfInBounds it.i true).getD j true=true:=by rw [this];exact .inl hq
      rw [h2] at hj;cases hj
    exact (List.mem_erase_of_ne hne).2 (hcov j hj')
   ·have h3:(listed.setIfInBounds it.i true).getD j true=listed.getD j true:=by
     have:it.i≠j:=by omega
     simp [Je,this]
    rw [h3]
    exact hunT j h1 h2
   ·intro i o e hio hLi he hb
    have e1:=congrFun hL' i
    have e2:=congrFun hL' e.on
    have h1:(listed.getD i true=true\/i=it.i):=by rw [<-e1];exact hLi
    have h2:=hdown' i o e hio h1 he hb
    rw [<-e2] at h2
    exact h2
  have hnext:∀(ns':Nat) (bl':Nat->Nat) (rem':List It) (D':Nat) (pend':List (It×AV)) (s':St) (E':Env) (a':Act) (w':World),
    Inv P all its sp E0 h0 w0 (fun j=>listed.getD j true=true\/j=it.i) bl' rem' D' pend' s' E' a' w'->
    Vo cx P all its ns' rem' D' pend' s' (spX sp (tlX P T X))->
    wpAnyIn (Fr ro) n P .any all.toArray (Xv E0 h0 w0 X) fuel (listed.setIfInBounds it.i true) a' w':=fun ns' bl' rem' D' pend' s' E' a' w' I' h'=>by
   cases ns' with
   | zero=>exact h'.elim
   | succ ns'=>
    obtain ⟨r2,D2,p2,s2,k1,k2⟩:=Qw hst (fun q hq=>hmask' q (hst.sub q hq)) rem' [] D' pend' s' h' I'
    exact hgo ns' bl' r2 D2 p2 s2 E' a' w' k2 k1
  unfold wpOpIn
  rw [ho]
  simp only
  have hnL:¬(listed.getD it.i true=true):=by rw [hun];simp
  rcases hspc with hit|⟨d,hd,hsp⟩
  rotate_left
  ·-- the map, its entries
   obtain ⟨hg,⟨T,hT,hi,hdst⟩|⟨j,hj,hi,hT,hdst⟩⟩:=WG hsp
   ·rw [if_pos (by simp [Region.wanted,hg])]
    refine ⟨fun _ _=>trivial, ?_⟩
    rw [show (Fr ro).round=ro from rfl,Zi (fun c e=>by rw [e] at hT;cases hT),run_makeMap hT]
    refine hgo ns bl rem D pend s E _ _ ?_ h
    rw [hi] at hnL
    rw [hdst,hi]
    exact I.doMap hst hmaskL hd hnL
   ·rw [if_pos (by simp [Region.wanted,hg])]
    refine ⟨fun _ _=>trivial, ?_⟩
    have hLd:listed.getD d.i true=true:=by
     have h1:=(UT (L:=fun j=>listed.getD j true=true\/j=it.i) hst hd hj hmask' (.inr hi)).1
     rcases h1 with h1|h1
     ·exact h1
     ·have h2:=hst.jok d hd j hj
      unfold jOk at h2
      simp only [J2,Jl] at h2
      rw [hi,<-h1,Jc] at h2
      cases h2.1.1
    rw [<-hi] at hnL
    obtain ⟨w',hr,I'⟩:=I.doIns hst hmaskL hd hj hnL hLd hT
    rw [show (Fr ro).round=ro from rfl,Zi (fun c e=>by rw [e] at hT;cases hT),hr]
    have hput:a.put it.o.dst undef=a:=by rw [hdst];rfl
    refine hgo ns bl rem D pend s E (a.put it.o.dst undef) w' ?_ h
    rw [hput,<-hi]
    exact I'
  -- what is ready is in reach
  have hDm:(ZN it||bsI it)=true->Nat.beq (Nat.land it.m D) it.m=true:=fun hq=>by
   have:it.m&&&D=it.m:=by
    apply Nat.eq_of_testBit_eq
    intro p
    rw [Nat.testBit_and]
    cases hp:it.m.testBit p with
    | false=>rfl
    | true=>
     have hpl:=hlt it hit0 p hp
     obtain ⟨q,hqi0,rfl⟩:=hst.ex p (by omega)
     have hLq:=hbits _ hp
     have hqi:q∈its:=by
      rcases hst.spc q hqi0 with h1|⟨d,hd,h1⟩|⟨_,h1⟩
      ·exact h1
      rotate_left
      ·have:=hlt0 it hit;omega
      ·obtain ⟨_,⟨T,_,hi,_⟩|⟨j,hj,hi,_⟩⟩:=WG h1
       ·rw [hi,(Yo hst hd hit).2.1] at hp;cases hp
       ·rw [<-hi,((Yo hst hd hit).2.2.2.2 j hj).2] at hp;cases hp
     have hqn:q∉rem:=by
      rcases kinds q with h4|h4|h4
      ·exact I.quiet q hqi h4 hLq
      ·exact (I.eff q hqi h4).1 hLq
      ·obtain ⟨e,he,h5,h6,h7⟩:=hst.qlate it hit hq q hqi h4 hp
       exact I.born e he (ZW h5) ((I.eff e he h5).1 (hbits _ h7)) q hqi h6
     rw [I.dset q hqi hqn]
     rfl
   show Nat.beq (it.m&&&D) it.m=true
   rw [this];exact Jc _
  rcases kinds it with hq|hef|hlt2
  ·-- quiet
   have hnr:it∉rem:=fun hin=>by
    have h2:=h
    unfold Xw at h2
    split at h2
    ·exact h2
    ·rename_i hchk
     have h3:=(ZU _ _).1 hchk it hin
     simp only [JB,Jl] at h3
     rcases h3 with h3|h3
     ·rw [hq] at h3;cases h3
     ·have h5:=hDm (by rw [hq];rfl)
      rw [h5] at h3;cases h3
   obtain ⟨v,hd,hf⟩:=I.fact it hit hq hnr hnL
   have hqe:Yf it=false:=by
    cases he:Yf it with
    | false=>rfl
    | true=>rw [ZE he] at hq;cases hq
   have hrel:∀x∈YD all it.o,∀u,Zd s.t x=some u->Z4 E u (a.tmps.getD x undef):=fun x hx u hu=>I.tmps x u hu fun q hqi hdq hqq hqn=>by
    have hne:q≠it:=fun e=>by subst e;exact hst.self q hqi hqe x hdq hx
    rcases hst.rd q hqi it hit hne x hdq hx with h3|⟨h3,h4⟩
    ·exact hbits _ h3
    ·rcases h4 with h4|⟨_,e,he,h5,h6,h7⟩
     ·rw [ZE h4] at hqq;cases hqq
     ·have hLe:=(I.eff e he h5).2 (I.born q hqi (Zu hqq) hqn e he h7)
      exact absurd (hmaskL e (hst.sub e he) hLe _ h6) hnL
   rcases hf with ⟨hw,_,hsem⟩|⟨hw,rfl⟩
   ·rw [if_pos (Wc hw fun x hx u hu=>hrel x (Jj _ hx) u hu)]
    obtain ⟨r,hr,hv⟩:=hsem E w a (fun _=>I.evo.emb) fun x hx u hu=>hrel x (Jh _ hx) u hu
    refine ⟨fun _ _=>trivial, ?_⟩
    rw [show (Fr ro).round=ro from rfl,Zi (fun c e=>by unfold ZN at hq;rw [e] at hq;simp [Z3Y,Z3X] at hq),hr]
    exact hgo ns bl rem D pend s E _ w (I.doQuiet hst hmaskL hit hnL hq hnr hd hv) h
   ·rw [if_neg (by rw [Wc hw fun x hx u hu=>hrel x (Jj _ hx) u hu];simp)]
    refine ⟨fun _ _=>trivial, ?_⟩
    exact hgo ns bl rem D pend s E _ w (I.doQuiet hst hmaskL hit hnL hq hnr hd (.tuple [] [] .nil)) h
  ·-- an effect
   have hin:it∈rem:=by
    by_cases hin:it∈rem
    ·exact hin
    ·exact absurd ((I.eff it hit hef).2 hin) hnL
   unfold Xw at h
   split at h
   ·exact h.elim
   ·replace h:=(XW h).1
    split at h
    ·rename_i hno
     have:=Wn hno it hin
     rw [hef] at this;cases this
    ·rename_i e he
     have hcand:Qt rem it=true:=by
      unfold Qt
      rw [hef,XR fun q hq heq=> ?_]
      ·rfl
      ·cases hb:it.m.testBit q.i with
       | false=>rfl
       | true=>exact absurd hq ((I.eff q (I.sub q hq) heq).1 (hbits _ hb))
     replace h:=WD h hin hcand
     ·skip
      obtain ⟨rem1,D1,s1,E1,h,I1,k1,k2,_⟩:=Z0U (kept:=[]) hst (fun q hq=>hmaskL q (hst.sub q hq)) (fun q hq hl hb=>hbits _ hb) (fun q _ v hqv=>by
        cases hb:it.m.testBit q.i with
        | true=>exact .inl (hbits _ hb)
        | false=>exact .inr (Wd.2 ⟨hqv,hb⟩)) rem D s E h I (by simp)
      have hin1:it∈rem1:=k2 it (by simpa using hin) (ZW hef)
      split at h
      ·exact h.elim
      ·rename_i hland
       have hD:∀p,it.m.testBit p=true->D1.testBit p=true:=fun p hp=>Vq hland hp
       have hrel:∀x∈YD all it.o,∀u,Zd s1.t x=some u->Z4 E1 u (a.tmps.getD x undef):=fun x hx u hu=>I1.tmps x u hu fun q hqi hdq hqq hqn=>by
        have hne:q≠it:=fun e=>by subst e;rw [ZE hef] at hqq;cases hqq
        rcases hst.rd q hqi it hit hne x hdq hx with h3|⟨h3,_⟩
        ·exact hbits _ h3
        ·exact absurd hin1 (I1.born q hqi (Zu hqq) hqn it hit h3)
       obtain ⟨s2,g1,g2,g3,g4,g5⟩:=VK h
       rcases g5 with ⟨hw,hrun⟩|⟨hw,hskip⟩
       ·rw [if_pos (Wc hw fun x hx u hu=>hrel x (Jj _ hx) u hu)]
        split at hrun
        ·rename_i S0 args0 hp0
         rw [g2] at hrun
         have hcore:=Z0J (d:=s1.d) hcx cx.inR hp0 hrun
         refine UM (Z37 P cx.inR) hcore I1.evo.emb (m:=a.tmps.size) ⟨rfl,fun x u hu=> ?_⟩ I1.defs I1.evo hro ?_ (fun _ _ _ _ _ hx=>hx.elim)
         ·have:=Ym hu
          exact hrel x (Jh _ this.2) u (by rw [<-g1 x];exact this.1)
         ·rintro v h' d' E' ds r w' ⟨hk,rfl,rfl⟩ hv hv0 hds hvr
          obtain ⟨s3,hst',j1,j2,j3,j4,j5⟩:=Y1 hk
          have j1':=j1.trans g2
          refine hnext ns bl _ _ _ s3 E' _ w' (I1.doEff hst hmaskL hin1 hnL hef hD hbits (s3:=s3) (by rw [j1'];exact hv) (by rw [j1'];exact hv0) (by rw [j3,g4];exact hds) hvr (j2.trans g3) (fun x hx=>⟨(j4 x hx).1,g3▸(j4 x hx).2⟩) (fun x hx=>(j5 x hx).trans (g1 x)) ?_) hst'
          intro q u hqu hs0 ht0
          rw [j1']
          exact hs0.congr ht0
        rw [g2,g4] at hrun
        refine UM hcx hrun I1.evo.emb (m:=a.tmps.size) ⟨rfl,fun x u hu=> ?_⟩ I1.defs I1.evo hro ?_ ?_
        ·have:=Ym hu
         exact hrel x (Jh _ this.2) u (by rw [<-g1 x];exact this.1)
        ·intro v h' d' E' ds r w' hk hv hv0 hds hvr
         obtain ⟨s3,k0,j1,j2,j3,j4,j5⟩:=Y1 hk
         obtain ⟨hst',hsem⟩:=Xy k0
         simp only at j1 j2 j3 j4 j5
         refine hnext ns bl _ _ _ s3 E' _ w' (I1.doEff hst hmaskL hin1 hnL hef hD hbits (s3:=s3) (by rw [j1];exact hv) (by rw [j1];exact hv0) (by rw [j3];exact hds) hvr (j2.trans g3) (fun x hx=>⟨(j4 x hx).1,g3▸(j4 x hx).2⟩) (fun x hx=>(j5 x hx).trans (g1 x)) ?_) hst'
         intro q u hqu hs0 ht0
         rcases hsem q u hqu with hw0|hs1
         ·exact (hs0.congr ht0).worldless hw0
         ·exact hs1
        ·intro v h' E' r w' hx hv hv0 hvr
         refine ⟨E',.panic v,_,hx,hv0,⟨hv.emb,⟨I1.size.trans g3.symm,fun x u hu=> ?_⟩,I1.defs.mono hv.le⟩,.panic v r hvr⟩
         have h3:=WF hu
         exact (I1.tmps x u (by rw [<-g1 x];exact h3.1) fun q hq hdq _ _=>absurd hdq (h3.2 q hq)).mono hv.le
       ·rw [if_neg (by rw [Wc hw fun x hx u hu=>hrel x (Jj _ hx) u hu];simp)]
        refine ⟨fun _ _=>trivial, ?_⟩
        obtain ⟨s3,k0,j1,j2,j3,j4,j5⟩:=Y1 hskip
        have hh:s3.h=s1.h:=j1.trans g2
        refine hnext ns bl _ _ _ s3 E1 _ w (I1.doEff hst hmaskL hin1 hnL hef hD hbits (s3:=s3) (ds:=a.defers) (by rw [hh];exact .refl I1.evo.emb) (by rw [hh];exact I1.evo) (by rw [j3,g4];exact I1.defs) (.tuple [] [] .nil) (j2.trans g3) (fun x hx=>⟨(j4 x hx).1,g3▸(j4 x hx).2⟩) (fun x hx=>(j5 x hx).trans (g1 x)) ?_) k0
        intro q u _ h3 h4
        rw [hh]
        exact h3.congr h4
  ·-- a block
   have hin:it∈rem:=by
    by_cases hin:it∈rem
    ·exact hin
    ·exact absurd (I.late it hit hlt2 hin) hnL
   obtain ⟨hg,_⟩:=hst.late it hit hlt2
   have hpush:∃mkv obj,X5 P it a mkv obj:=by
    rcases XV hlt2 with ⟨T,hT⟩|⟨T,len,ps,hT,hbs,_⟩
    ·obtain ⟨cs,hz⟩:=hst.lz it hit T hT
     obtain ⟨z,z1,_⟩:=YN hz
     exact ⟨fun b=>.pointer (some ⟨b,0,none⟩),.cells z.cells T (0,0),fun w=>Qy hT z1 _ w⟩
    ·have h2:=h
     unfold Xw at h2
     split at h2
     ·exact h2.elim
     ·obtain ⟨Z,h3⟩:=(XW h2).2 it hin hbs (hDm (by rw [hbs];simp))
      obtain ⟨v,B,_,h4⟩:=UV hlt2 h3
      obtain ⟨mkv,obj,N,h5,_⟩:=h4 E a fun x u hu=>by
       have h6:=Ym hu
       exact I.tmps x u h6.1 fun q hqi hdq _ _=>hbits _ (hst.lrd it hit hlt2 q hqi x hdq h6.2)
      exact ⟨mkv,obj,h5⟩
   obtain ⟨mkv,obj,hp⟩:=hpush
   rw [if_pos (by simp [Region.wanted,hg])]
   refine ⟨fun _ _=>trivial, ?_⟩
   rw [show (Fr ro).round=ro from rfl,Zi (fun c e=>by rcases XV hlt2 with ⟨T,hT⟩|⟨T,l,ps,hT,_⟩<;>rw [hT] at e<;>cases e),hp w]
   exact hgo ns _ rem D pend s E _ _ (I.doLate hst hmaskL hin hlt2 hnL hp) h
theorem QB {sp:Option SpD} {t:Zn} {x:Nat} {v:AV} (h:Zd (Z0T sp t) x=some v):Zd t x=some v:=by
 unfold Z0T at h
 grind [Yr,Ye]
theorem Z0X {qm:Nat} {its:List It} {sp:Option SpD} {Z:Prop} {k:Nat} (hcx:cx.Ok P) {ro:Option Nat} (hro:cx.inR=none->ro=none) {id:Nat} {ops:Array Oper} {T:List It} {n0:Nat} (hT:(Zg qm 0 [] ops.toList).drop n0=T) (hn0:n0<=ops.toList.length) (hsub:∀it∈its,it∈Zg qm 0 [] ops.toList) (hpw:its.Pairwise fun a b=>a.i≠b.i)
  (hcov:∀it∈Zg qm 0 [] ops.toList,it∈its\/(isSp it.o.op=true/\sp≠none)\/it∈T)
  (h:Z2t cx P ops.toList (Zg qm 0 [] ops.toList) its sp T n0 s X Z):ZO P k ro (.region id ops true) s X\/Z:=by
 unfold Z2t at h
 split at h
 ·rename_i hchk
  refine .inl ?_
  simp only [J2] at hchk
  have htl:=(ZU _ _).1 hchk.1.2
  have hlt0:∀it∈its,it.i<n0:=fun it hit=>J8 ((ZU _ _).1 hchk.1.1.2 it hit)
  have hst:Stat P ops.toList (Zg qm 0 [] ops.toList) its sp n0:=Z57 hsub (fun it hit=>by
   rcases hcov it hit with h1|h1|h1
   ·simp_all
   ·simp_all
   ·refine .inr (.inr ⟨htl it h1, ?_⟩)
    rw [<-hT] at h1
    obtain ⟨p,hp⟩:=Jv.1 h1
    rw [Jt] at hp
    have:=Yc hp
    omega) hchk.1.1.1.1.1.2 hchk.1.1.1.1.2
  have hmix:=hchk.1.1.1.1.1.1
  have hspl:=hchk.1.1.1.2
  have hln:=hchk.2
  have hspl2:∀d,sp=some d->d.i<n0/\∀j∈d.js,j.i<n0:=fun d hd=>by
   simp_all [Z5P,XS]
  intro E0 h0 w0 E a w n _ hs hev
  refine wpIn_region_any hmix ?_
  let w1:World:={ w with drawn:=w.drawn+1}
  have hdrew:Evo E s.h w E s.h w1:=WM hs.emb rfl rfl rfl ⟨rfl,Nat.le_succ _⟩
  have hlist:∀j,(Array.replicate ops.size false).getD j true=true↔ops.size<=j:=fun j=>by
   by_cases hj:j<ops.size
   ·simp [hj]
   grind
  have hnL:∀it∈its,¬((Array.replicate ops.size false).getD it.i true=true):=fun it hit hL=>by
   have h1:=hst.mem it hit
   rw [hlist] at hL
   rw [List.getElem?_eq_none (by omega)] at h1
   cases h1
  have hdown:∀i o e,ops.toList[i]? =some o->(Array.replicate ops.size false).getD i true=true->e∈o.after.toList->Region.binds .any e=true->(Array.replicate ops.size false).getD e.on true=true:=fun i o e hio hL=>by
   rw [hlist] at hL
   rw [List.getElem?_eq_none (by omega)] at hio
   cases hio
  have I0:Inv P ops.toList its sp E0 h0 w0 (fun j=>(Array.replicate ops.size false).getD j true=true) (fun _=>0) its 0 [] { s with t:=Z0T sp (YS s.t its)} E a w1:=by
   refine ⟨fun _ h=>h,hpw,fun it _ hb=>by simp at hb,fun it hit _ hn=>absurd hit hn,fun it hit _=>⟨fun hL=>absurd hL (hnL it hit),fun hn=>absurd hit hn⟩,fun it hit _ hn=>absurd hit hn,fun it hit _ hL=>absurd hL (hnL it hit),fun it hit _ hn=>absurd hit hn,
    hs.tmps.size,fun x v hx _=>hs.tmps.get x v (YJ (QB hx)).1,hs.defs,hev.trans hdrew,fun it hit hl x hx=> ?_,fun it hit hL=>absurd hL (hnL it hit),fun it hit _ _ hL=>absurd hL (hnL it hit),fun it hit _ _ hn=>absurd hit hn,fun it hit hn=>absurd hit hn,fun it hit hl x hx=> ?_,fun d hd=> ?_⟩
   ·cases hg:Zd (Z0T sp (YS s.t its)) x with
    | none=>rfl
    | some v=>exact absurd hx ((YJ (QB hg)).2 it hit hl)
   ·have h1:=(ZU _ _).1 hln it hit
    rw [hx] at h1
    simp only [JB,Jl] at h1
    rcases h1 with h1|h1
    ·rw [h1] at hl;cases hl
    ·exact J8 h1
   ·subst hd
    unfold Z5P at hspl
    simp only [J2] at hspl
    refine ⟨by rw [hs.tmps.size];exact J8 hspl.1.1,Yr _ _,fun hL=> ?_⟩
    rw [hlist] at hL
    have h1:=J8 hspl.1.2
    rw [Array.length_toList] at hn0
    omega
  have hmask:∀q∈its,((Array.replicate ops.size false).getD q.i true=true)->∀p,q.m.testBit p=true->(Array.replicate ops.size false).getD p true=true:=fun q hq hL=>absurd hL (hnL q hq)
  obtain ⟨r2,D2,p2,s2,k1,k2⟩:=Qw hst hmask _ [] 0 [] _ h I0
  have:=Z3h (X:=X) hcx hro hst (n:=n) hT htl hn0 hlt0 hspl2 ops.size (Array.replicate ops.size false) (List.range ops.size) _ _ r2 D2 p2 s2 E a w1 (by simp) (fun j hj=>by
   grind) (by simp) (fun j _ h2=>by
    grind) hdown k2 k1
  exact this
 simp_all
theorem Z0Y {qm:Nat} {all:List Oper}:(Zg qm 0 [] all).Pairwise fun a b=>a.i≠b.i:=by
 rw [List.pairwise_iff_getElem]
 intro i j hi hj hij
 have h1:=Yc (Ja hi)
 have h2:=Yc (Ja hj)
 omega
theorem X6 {it:It}:∀{l:List It},it∈X3 l↔it∈l/\isSp it.o.op=false
 | []=>by simp [X3]
 | q::r=>by
  unfold X3
  split
  ·rename_i h
   rw [X6,J5]
   constructor
   ·rintro ⟨h1,h2⟩;exact ⟨.inr h1,h2⟩
   ·rintro ⟨rfl|h1,h2⟩
    ·rw [h] at h2;cases h2
    ·exact ⟨h1,h2⟩
  ·rename_i h
   rw [J5,X6,J5]
   constructor
   ·rintro (rfl|⟨h1,h2⟩)
    ·exact ⟨.inl rfl,h⟩
    ·exact ⟨.inr h1,h2⟩
   ·rintro ⟨rfl|h1,h2⟩
    ·exact .inl rfl
    ·exact .inr ⟨h1,h2⟩
theorem XX:∀{l:List It},(X3 l).Sublist l
 | []=>.slnil
 | q::r=>by
  unfold X3
  split
  ·exact .cons _ XX
  ·exact .cons_cons _ XX
theorem Z46:∀l:List It,YE l++XT l=l
 | []=>rfl
 | it::r=>by
  have ih:=Z46 r
  unfold YE XT
  split
  all_goals grind
theorem Z47 {qm:Nat} {Z:Prop} {k:Nat} (hcx:cx.Ok P) {ro:Option Nat} (hro:cx.inR=none->ro=none) {id:Nat} {ops:Array Oper} (h:Z42 P cx ops.toList (Zg qm 0 [] ops.toList) s X Z):ZO P k ro (.region id ops true) s X\/Z:=
 Z0X hcx hro (List.drop_eq_nil_iff.2 (by rw [Yn];omega)) (J4 _) (fun _ h=>h) Z0Y (fun _ h=>.inl h) h
theorem Z48 {k:Nat} (hcx:cx.Ok P) {ro:Option Nat} (hro:cx.inR=none->ro=none) {id:Nat} {ops:Array Oper} (h:Z43 P cx ops.toList s X):ZO P k ro (.region id ops true) s X:=by
 unfold Z43 at h
 split at h
 ·unfold Z5w at h
  have happ:=Z46 (Zg 2 0 [] ops.toList)
  have hmem:∀q∈YE (Zg 2 0 [] ops.toList),q∈Zg 2 0 [] ops.toList:=fun q hq=>by grind
  have hsub:(YE (Zg 2 0 [] ops.toList)).Sublist (Zg 2 0 [] ops.toList):=by
   have:=List.sublist_append_left (YE (Zg 2 0 [] ops.toList)) (XT (Zg 2 0 [] ops.toList))
   rw [happ] at this
   exact this
  have hdrop:(Zg 2 0 [] ops.toList).drop (YE (Zg 2 0 [] ops.toList)).length=XT (Zg 2 0 [] ops.toList):=by
   have:=congrArg (fun l=>l.drop (YE (Zg 2 0 [] ops.toList)).length) happ
   rw [<-this,List.drop_left]
  have hlen:(YE (Zg 2 0 [] ops.toList)).length<=ops.toList.length:=by
   have:=hsub.length_le
   rw [Yn] at this
   exact this
  split at h
  ·rcases Z0X hcx hro hdrop hlen (fun _ h=>hmem _ (X6.1 h).1) ((Z0Y.sublist hsub).sublist XX) (fun it h=>by
    rw [<-happ,List.mem_append] at h
    rcases h with h|h
    ·cases hs:isSp it.o.op with
     | false=>exact .inl (X6.2 ⟨h,hs⟩)
     | true=>simp_all
    simp_all) h with h|h
   ·exact h
   simp_all
  simp_all
 grind [Z47]
end
end Go.Tk
end
section
namespace Go.Tk
open IntKind (i64 u8 u32 u64 wrap)
variable {E E':Env} {Z:Prop} {v:AV} {B B₂:Blk} {s s₂:St} {mv ro:Option Nat} {X:KE} {f:FuncId} {G:Zk} {r:Value} {args:List AV} {nx:Nat} {K:KO}
abbrev Ren:=List (Nat×Nat)
variable {τ:Ren}
def Z20:Ren->Nat->Option Nat
 | [],_=>none
 | (y,x)::r,z=>match Nat.beq y z with|true=>some x|false=>Z20 r z
def rn (k:Nat) (τ:Ren) (y:Nat):Option Nat:=match Nat.blt y k with|true=>some y|false=>Z20 τ y
def Env.ren (E:Env) (k:Nat) (τ:Ren):Env:=⟨fun y=>match rn k τ y with|some x=>E.blk x|none=>none,E.imm⟩
theorem Env.ren_some {k:Nat} {x y:Nat} (h:rn k τ y=some x):(E.ren k τ).blk y=E.blk x:=by simp [Env.ren,h]
theorem Env.ren_none {k:Nat} {y:Nat} (h:rn k τ y=none):(E.ren k τ).blk y=none:=by simp [Env.ren,h]
theorem Env.ren_views {k:Nat}:E.views.le (E.ren k τ).views:=⟨fun _ _ h=>by simp [Env.views] at h,fun _ _ h=>h⟩
def XY (k:Nat) (τ:Ren) (y x:Nat) (Z:Prop):Prop:=
 match rn k τ y with
 | some x'=>match Nat.beq x' x with
  | true=>Z
  | false=>False
 | none=>False
theorem Yh {k:Nat} {y x:Nat} (h:XY k τ y x Z):rn k τ y=some x/\Z:=by
 grind [XY,J0]
def eqP (k:Nat) (τ:Ren) (q p:Zr) (Z:Prop):Prop:=
 XY k τ q.blk p.blk (Z8 (p.row=q.row) (Z8 (p.sz=q.sz) (Z8 (p.off=q.off) (Z8 (p.inn=q.inn) Z))))
theorem Z49 {k:Nat} {q p:Zr} (h:eqP k τ q p Z):rn k τ q.blk=some p.blk/\p.tot=q.tot/\Z:=by
 obtain ⟨h0,h⟩:=Yh h
 grind [Z5,Zr.tot]
mutual
/-- A value (behind) taken for another (ahead). -/
def eqV (k:Nat) (τ:Ren):AV->AV->Prop->Prop
 | .top,_,Z=>Z
 | .bool b,v,Z=>match v with
  | .bool a=>Z8 (a=b) Z
  | _=>False
 | .int kk b,v,Z=>match v with
  | .int kk' a=>match decide (kk'=kk) with
   | true=>Z8 (a=b) Z
   | false=>False
  | _=>False
 | .str b,v,Z=>match v with
  | .str a=>a=b/\Z
  | _=>False
 | .ptr none,v,Z=>match v with
  | .ptr none=>Z
  | _=>False
 | .ptr (some q),v,Z=>match v with
  | .ptr (some p)=>eqP k τ q p Z
  | _=>False
 | .pview cs inn,v,Z=>match v with
  | .pview cs' inn'=>cs'=cs/\Z8 (inn'=inn) Z
  | _=>False
 | .nslice q esz len lo,v,Z=>match v with
  | .nslice p esz' len' lo'=>eqP k τ q p (Z8 (esz'=esz) (Z8 (len'=len) (Z8 (lo<=lo') Z)))
  | .nilslice=>Z8 (len=0) (Z8 (lo=0) Z)
  | .eslice=>Z8 (len=0) (Z8 (lo=0) Z)
  | _=>False
 | .vints kk xs len,v,Z=>match v with
  | .vints kk' xs' len'=>match decide (kk'=kk) with
   | true=>xs'=xs/\Z8 (len'=len) Z
   | false=>False
  | _=>False
 | .vrows esz n f len,v,Z=>match v with
  | .vrows esz' n' f' len'=>Z8 (esz'=esz) (Z8 (n'=n) (f'=f/\Z8 (len'=len) Z))
  | _=>False
 | .eslice,v,Z=>match v with
  | .eslice=>Z
  | .nilslice=>Z
  | _=>False
 | .fslice,v,Z=>match v with
  | .fslice=>Z
  | _=>False
 | .nilslice,v,Z=>match v with
  | .nilslice=>Z
  | _=>False
 | .map none,v,Z=>match v with
  | .map none=>Z
  | _=>False
 | .map (some y),v,Z=>match v with
  | .map (some x)=>XY k τ y x Z
  | _=>False
 | .func (.func g) fs cs,v,Z=>match v with
  | .func (.func g') fs' cs'=>match Nat.beq g' g with
   | true=>eqL k τ fs fs' (eqL k τ cs cs' Z)
   | false=>False
  | _=>False
 | .func _ _ _,_,_=>False
 | .yield y,v,Z=>match v with
  | .yield x=>XY k τ y x Z
  | _=>False
 | .nilFunc,v,Z=>match v with
  | .nilFunc=>Z
  | _=>False
 | .nilIface,v,Z=>match v with
  | .nilIface=>Z
  | _=>False
 | .iface t u,v,Z=>match v with
  | .iface t' u'=>match Nat.beq t' t with
   | true=>eqV k τ u u' Z
   | false=>False
  | _=>False
 | .agg cs,v,Z=>match v with
  | .agg cs'=>eqC k τ cs cs' Z
  | _=>False
 | .arr _ _ _,_,_=>False
 | .tuple vs,v,Z=>match v with
  | .tuple vs'=>eqL k τ vs vs' Z
  | _=>False
 | .stamp y,v,Z=>match v with
  | .stamp x=>XY k τ y x Z
  | _=>False
def eqC (k:Nat) (τ:Ren):List AV->List AV->Prop->Prop
 | [],l,Z=>match l with
  | []=>Z
  | _::_=>False
 | .arr kk n xs::r,l,Z=>match l with
  | .arr kk' n' xs'::r'=>match decide (kk'=kk)&&Nat.beq n' n with
   | true=>xs'=xs/\eqC k τ r r' Z
   | false=>False
  | _=>False
 | v::r,l,Z=>match l with
  | v'::r'=>match v.isCell&&v'.isCell with
   | true=>eqV k τ v v' (eqC k τ r r' Z)
   | false=>False
  | []=>False
def eqL (k:Nat) (τ:Ren):List AV->List AV->Prop->Prop
 | [],l,Z=>match l with
  | []=>Z
  | _::_=>False
 | v::r,l,Z=>match l with
  | v'::r'=>eqV k τ v v' (eqL k τ r r' Z)
  | []=>False
end
theorem Z0Z (h:v.isCell=true) (r:List AV):csz (v::r)=1+csz r:=by
 cases v<;>simp_all [csz,AV.isCell]
set_option maxHeartbeats 1000000 in
mutual
theorem WH {k:Nat} {τ:Ren}:∀(v₂ v:AV) (Z:Prop),eqV k τ v₂ v Z->Z/\∀(E:Env) (r:Value),Z4 E v r->Z4 (E.ren k τ) v₂ r
 | .top,v,Z,h=>⟨by unfold eqV at h;exact h,fun E r _=>.top r⟩
 | .bool b,v,Z,h=>by
  unfold eqV at h
  split at h
  ·replace h:=Z5 h;obtain ⟨rfl,h⟩:=h
   exact ⟨h,fun E r hv=>by cases hv;exact .bool _⟩
  simp_all
 | .int kk b,v,Z,h=>by
  unfold eqV at h
  split at h
  ·split at h
   ·rename_i hk
    have hk:=of_decide_eq_true hk
    subst hk
    replace h:=Z5 h;obtain ⟨rfl,h⟩:=h
    exact ⟨h,fun E r hv=>by cases hv;exact .int _ _⟩
   simp_all
  simp_all
 | .str b,v,Z,h=>by
  unfold eqV at h
  split at h
  ·obtain ⟨rfl,h⟩:=h
   exact ⟨h,fun E r hv=>by cases hv;exact .str _⟩
  simp_all
 | .ptr none,v,Z,h=>by
  unfold eqV at h
  split at h
  ·exact ⟨h,fun E r hv=>by cases hv;exact .nilptr⟩
  simp_all
 | .ptr (some q),v,Z,h=>by
  unfold eqV at h
  split at h
  ·obtain ⟨h1,h2,h3⟩:=Z49 h
   refine ⟨h3,fun E r hv=> ?_⟩
   cases hv
   rename_i b N hb
   rw [h2]
   exact .ptr q b N (by rw [Env.ren_some h1];exact hb)
  simp_all
 | .pview cs inn,v,Z,h=>by
  unfold eqV at h
  split at h
  ·obtain ⟨rfl,h⟩:=h
   replace h:=Z5 h;obtain ⟨rfl,h⟩:=h
   refine ⟨h,fun E r hv=> ?_⟩
   cases hv with
   | pview cs inn a vs hc hi=>exact .pview _ _ a vs (hc.mono Env.ren_views) hi
  simp_all
 | .nslice q esz len lo,v,Z,h=>by
  unfold eqV at h
  split at h
  ·replace h:=Z49 h;obtain ⟨h1,h2,h⟩:=h
   replace h:=Z5 h;obtain ⟨rfl,h⟩:=h
   replace h:=Z5 h;obtain ⟨rfl,h⟩:=h
   obtain ⟨h4,h⟩:=Z5 h
   refine ⟨h,fun E r hv=> ?_⟩
   cases hv with
   | nslice0 p esz len lo a e1 e2=>exact .nslice0 _ _ _ _ a e1 (by omega)
   | nslice p esz len lo b N cap hb e1 e2 e3=>
    rw [h2]
    exact .nslice q _ _ _ b N cap (by rw [Env.ren_some h1];exact hb) e1 (by omega) (by omega)
  ·replace h:=Z5 h;obtain ⟨rfl,h⟩:=h
   replace h:=Z5 h;obtain ⟨rfl,h⟩:=h
   exact ⟨h,fun E r hv=>by cases hv;exact .nslice0 _ _ _ _ _ rfl rfl⟩
  ·replace h:=Z5 h;obtain ⟨rfl,h⟩:=h
   replace h:=Z5 h;obtain ⟨rfl,h⟩:=h
   exact ⟨h,fun E r hv=>by cases hv;exact .nslice0 _ _ _ _ _ rfl rfl⟩
  simp_all
 | .vints kk xs len,v,Z,h=>by
  unfold eqV at h
  split at h
  ·split at h
   ·rename_i hk
    have hk:=of_decide_eq_true hk
    subst hk
    obtain ⟨rfl,h⟩:=h
    replace h:=Z5 h;obtain ⟨rfl,h⟩:=h
    refine ⟨h,fun E r hv=> ?_⟩
    cases hv with
    | vintsNil k xs len h1 h2=>exact .vintsNil _ _ _ h1 h2
    | vints k xs len a cap h1 h2 hi=>exact .vints _ _ _ a cap h1 h2 hi
   simp_all
  simp_all
 | .vrows esz n f len,v,Z,h=>by
  unfold eqV at h
  split at h
  ·replace h:=Z5 h;obtain ⟨rfl,h⟩:=h
   replace h:=Z5 h;obtain ⟨rfl,h⟩:=h
   obtain ⟨rfl,h⟩:=h
   replace h:=Z5 h;obtain ⟨rfl,h⟩:=h
   refine ⟨h,fun E r hv=> ?_⟩
   cases hv with
   | vrowsNil esz n f len h1 h2=>exact .vrowsNil _ _ _ _ h1 h2
   | vrows esz n f len a cap g h1 h2 hc hl hi=>exact .vrows _ _ _ _ a cap g h1 h2 (fun i hi'=>(hc i hi').mono Env.ren_views) hl hi
  simp_all
 | .eslice,v,Z,h=>by
  unfold eqV at h
  split at h
  ·exact ⟨h,fun E r hv=>by cases hv;exact .eslice _⟩
  ·exact ⟨h,fun E r hv=>by cases hv;exact .eslice _⟩
  simp_all
 | .fslice,v,Z,h=>by
  unfold eqV at h
  split at h
  ·exact ⟨h,fun E r hv=>by cases hv;exact .fslice _ _⟩
  simp_all
 | .nilslice,v,Z,h=>by
  unfold eqV at h
  split at h
  ·exact ⟨h,fun E r hv=>by cases hv;exact .nilslice⟩
  simp_all
 | .map none,v,Z,h=>by
  unfold eqV at h
  split at h
  ·exact ⟨h,fun E r hv=>by cases hv;exact .nilmap⟩
  simp_all
 | .map (some y),v,Z,h=>by
  unfold eqV at h
  split at h
  ·obtain ⟨h1,h⟩:=Yh h
   refine ⟨h,fun E r hv=> ?_⟩
   cases hv
   rename_i b N hb
   exact .map y b N (by rw [Env.ren_some h1];exact hb)
  simp_all
 | .func (.func g) fs cs,v,Z,h=>by
  unfold eqV at h
  split at h
  ·split at h
   ·rename_i hb
    have:=J0 hb
    subst this
    obtain ⟨h,h1⟩:=Xz fs _ _ h
    obtain ⟨h,h2⟩:=Xz cs _ _ h
    refine ⟨h,fun E r hv=> ?_⟩
    cases hv
    rename_i a b ha hb
    exact .func _ _ _ a b (h1 E _ ha) (h2 E _ hb)
   simp_all
  simp_all
 | .func (.method _) _ _,v,Z,h=>by unfold eqV at h;simp_all
 | .func (.methodOf _ _) _ _,v,Z,h=>by unfold eqV at h;simp_all
 | .func (.via _ _ _ _) _ _,v,Z,h=>by unfold eqV at h;simp_all
 | .func (.yield _) _ _,v,Z,h=>by unfold eqV at h;simp_all
 | .yield y,v,Z,h=>by
  unfold eqV at h
  split at h
  ·obtain ⟨h1,h⟩:=Yh h
   refine ⟨h,fun E r hv=> ?_⟩
   cases hv
   rename_i b N hb
   exact .yield y b N (by rw [Env.ren_some h1];exact hb)
  simp_all
 | .stamp y,v,Z,h=>by
  unfold eqV at h
  split at h
  ·obtain ⟨h1,h⟩:=Yh h
   refine ⟨h,fun E r hv=> ?_⟩
   cases hv
   rename_i c hb
   exact .stamp y c (by rw [Env.ren_some h1];exact hb)
  simp_all
 | .nilFunc,v,Z,h=>by
  unfold eqV at h
  split at h
  ·exact ⟨h,fun E r hv=>by cases hv;exact .nilFunc⟩
  simp_all
 | .nilIface,v,Z,h=>by
  unfold eqV at h
  split at h
  ·exact ⟨h,fun E r hv=>by cases hv;exact .nilIface⟩
  simp_all
 | .iface t u,v,Z,h=>by
  unfold eqV at h
  split at h
  ·split at h
   ·rename_i hb
    have:=J0 hb
    subst this
    obtain ⟨h,h1⟩:=WH u _ _ h
    refine ⟨h,fun E r hv=> ?_⟩
    cases hv
    rename_i x hx
    exact .iface _ _ _ (h1 E _ hx)
   ·exact h.elim
  ·exact h.elim
 | .agg cs,v,Z,h=>by
  unfold eqV at h
  split at h
  ·obtain ⟨h,_,h1⟩:=UW cs _ _ h
   refine ⟨h,fun E r hv=> ?_⟩
   cases hv
   rename_i vs hc
   exact .agg _ _ (h1 E _ hc)
  simp_all
 | .arr _ _ _,v,Z,h=>by unfold eqV at h;simp_all
 | .tuple vs,v,Z,h=>by
  unfold eqV at h
  split at h
  ·obtain ⟨h,h1⟩:=Xz vs _ _ h
   refine ⟨h,fun E r hv=> ?_⟩
   cases hv
   rename_i rs hl
   exact .tuple _ _ (h1 E _ hl)
  simp_all
theorem UW {k:Nat} {τ:Ren}:∀(l₂ l:List AV) (Z:Prop),eqC k τ l₂ l Z->Z/\csz l=csz l₂/\∀(E:Env) (r:List Value),Za E l r->Za (E.ren k τ) l₂ r
 | [],l,Z,h=>by
  unfold eqC at h
  split at h
  ·exact ⟨h,rfl,fun E r hv=>by cases hv;exact .nil⟩
  simp_all
 | v::r,l,Z,h=>by
  by_cases ha:∃kk n xs,v=.arr kk n xs
  ·obtain ⟨kk,n,xs,rfl⟩:=ha
   unfold eqC at h
   split at h
   ·split at h
    ·rename_i hb
     rw [J2] at hb
     have h1:=of_decide_eq_true hb.1
     have h2:=J0 hb.2
     subst h1 h2
     obtain ⟨rfl,h⟩:=h
     obtain ⟨h,hz,h3⟩:=UW r _ _ h
     refine ⟨h,by simp [csz,hz],fun E q hv=> ?_⟩
     obtain ⟨cs',rfl,ht⟩:=Za.cons_arr hv
     exact .arr _ _ _ _ _ (h3 E _ ht)
    simp_all
   simp_all
  ·have he:eqC k τ (v::r) l Z=(match l with
     | v'::r'=>match v.isCell&&v'.isCell with
      | true=>eqV k τ v v' (eqC k τ r r' Z)
      | false=>False
     | []=>False):=by
    cases v<;>first|(exact absurd ⟨_,_,_,rfl⟩ ha)|(cases l<;>rfl)
   rw [he] at h
   split at h
   ·split at h
    ·rename_i hb
     rw [J2] at hb
     obtain ⟨h,h1⟩:=WH v _ _ h
     obtain ⟨h,hz,h3⟩:=UW r _ _ h
     refine ⟨h,by rw [Z0Z hb.1,Z0Z hb.2,hz],fun E q hv=> ?_⟩
     cases hv with
     | one v' c vs cs h0 hc hvr t=>exact .one _ _ _ _ hb.1 hc (h1 E _ hvr) (h3 E _ t)
     | arr k n xs vs cs t=>simp [AV.isCell] at hb
    simp_all
   simp_all
theorem Xz {k:Nat} {τ:Ren}:∀(l₂ l:List AV) (Z:Prop),eqL k τ l₂ l Z->Z/\∀(E:Env) (r:List Value),Zc E l r->Zc (E.ren k τ) l₂ r
 | [],l,Z,h=>by
  unfold eqL at h
  split at h
  ·exact ⟨h,fun E r hv=>by cases hv;exact .nil⟩
  simp_all
 | v::r,l,Z,h=>by
  unfold eqL at h
  split at h
  ·obtain ⟨h,h1⟩:=WH v _ _ h
   obtain ⟨h,h2⟩:=Xz r _ _ h
   refine ⟨h,fun E q hv=> ?_⟩
   cases hv
   rename_i c cs hc ht
   exact .cons _ _ _ _ (h1 E _ hc) (h2 E _ ht)
  ·exact h.elim
end
theorem Zc.at {E:Env}:∀{vs:List AV} {rs:List Value} {i:Nat} {v:AV} {r:Value},Zc E vs rs->vs[i]? =some v->rs[i]? =some r->Z4 E v r
 | _,_,0,v,r,.cons _ _ _ _ h _,h1,h2=>by
  simp_all
 | _,_,i+1,v,r,.cons _ _ _ _ _ t,h1,h2=>Zc.at t (by simpa using h1) (by simp_all)
 | _,_,_,v,r,.nil,h1,_=>by simp at h1
inductive Z21 (k:Nat) (τ:Ren) (n:Nat) (kf vf kf' vf':Nat->AV):Prop
 | mk (h:∀i,i<n->eqV k τ (kf i) (kf' i) True/\eqV k τ (vf i) (vf' i) True):Z21 k τ n kf vf kf' vf'
inductive Z4a (k:Nat) (τ:Ren) (n:Nat) (f f':Nat->List AV):Prop
 | mk (h:∀i,i<n->eqC k τ (f i) (f' i) True):Z4a k τ n f f'
def Z22 (k:Nat) (τ:Ren):Blk->Blk->Prop->Prop
 | .flat cs,B,Z=>match B with
  | .flat cs'=>eqC k τ cs cs' Z
  | _=>False
 | .ints kk xs,B,Z=>match B with
  | .ints kk' xs'=>match decide (kk'=kk) with
   | true=>xs'=xs/\Z
   | false=>False
  | _=>False
 | .rows sz n f,B,Z=>match B with
  | .rows sz' n' f'=>match Nat.beq sz' sz with
   | true=>Z8 (n'=n) (Z4a k τ n f f'/\Z)
   | false=>False
  | _=>False
 | .map es,B,Z=>match B with
  | .map es'=>eqL k τ (es.map (·.1)) (es'.map (·.1)) (eqL k τ (es.map (·.2)) (es'.map (·.2)) Z)
  | _=>False
 | .fmap n kf vf,B,Z=>match B with
  | .fmap n' kf' vf'=>Z8 (n'=n) (Z21 k τ n kf vf kf' vf'/\Z)
  | .map es'=>Z8 (es'.length=n) (Z21 k τ n kf vf (fun i=>(es'.getD i (.top,.top)).1) (fun i=>(es'.getD i (.top,.top)).2)/\Z)
  | _=>False
 | .pmap es,B,Z=>match B with
  | .pmap es'=>eqL k τ (es.map (·.1)) (es'.map (·.1)) (eqL k τ (es.map (·.2)) (es'.map (·.2)) Z)
  | _=>False
 | .smap _ _ _,_,_=>False
 | .sfmap _ _ _ _ _,_,_=>False
 | .git m y js,B,Z=>match B with
  | .git m' y' js'=>XY k τ m m' (XY k τ y y' (js'=js/\Z))
  | _=>False
 | .froz _ _,_,_=>False
 | .loop l,B,Z=>match B with
  | .loop l'=>(l'.state=l.state/\l'.pending=l.pending/\l'.fn=l.fn/\l'.n=l.n/\l'.params=l.params/\l'.assign=l.assign/\l'.body=l.body)/\XY k τ l.defers l'.defers (eqT k τ l'.tmps Z l.tmps)
  | _=>False
 | .defd,B,Z=>match B with
  | .defd=>Z
  | _=>False
where eqT (k:Nat) (τ:Ren) (t:Zn) (Z:Prop):Zn->Prop
 | []=>Z
 | (x,v₂)::r=>match Zd t x with
  | some v=>eqV k τ v₂ v (eqT k τ t Z r)
  | none=>match v₂ with
   | .top=>eqT k τ t Z r
   | _=>False
theorem Z0g {k:Nat} {τ:Ren} {t:Zn} {Z:Prop}:∀(t₂:Zn),Z22.eqT k τ t Z t₂->Z/\∀(E:Env) (n:Nat) (tm:Array Value),X7 E n t tm->X7 (E.ren k τ) n t₂ tm
 | [],h=>⟨h,fun E n tm ht=>⟨ht.size,fun x v hx=>by simp [Zd] at hx⟩⟩
 | (y,v₂)::r,h=>by
  unfold Z22.eqT at h
  split at h
  ·rename_i v hv
   obtain ⟨h,h1⟩:=WH _ _ _ h
   obtain ⟨h,h2⟩:=Z0g r h
   refine ⟨h,fun E n tm ht=>⟨ht.size,fun x u hx=> ?_⟩⟩
   simp only [Zd] at hx
   split at hx
   ·rename_i hb
    have:=J0 hb
    subst this
    cases hx
    exact h1 E _ (ht.get _ _ hv)
   ·exact (h2 E n tm ht).get x u hx
  ·split at h
   ·obtain ⟨h,h2⟩:=Z0g r h
    refine ⟨h,fun E n tm ht=>⟨ht.size,fun x u hx=> ?_⟩⟩
    simp only [Zd] at hx
    split at hx
    ·cases hx;exact .top _
    ·exact (h2 E n tm ht).get x u hx
   ·exact h.elim
theorem Z2w {k:Nat} (h:Z22 k τ B₂ B Z):
  Z/\∀(E:Env) (w:World) (x y:Nat),rn k τ y=some x->ZB E w x B->ZB (E.ren k τ) w y B₂:=by
 unfold Z22 at h
 split at h
 ·split at h
  ·obtain ⟨h,hz,h1⟩:=UW _ _ _ h
   refine ⟨h,fun E w x y hy hB=> ?_⟩
   cases hB with
   | flat0 cs h0 hn=>exact .flat0 _ (by omega) (by rw [Env.ren_some hy];exact hn)
   | flat cs b cells elem fr vs hb hw hf hc hv=>exact .flat _ b cells elem fr vs (by rw [Env.ren_some hy];exact hb) hw hf (h1 E _ hc) hv
  simp_all
 ·split at h
  ·split at h
   ·rename_i hk
    have hk:=of_decide_eq_true hk
    subst hk
    obtain ⟨rfl,h⟩:=h
    refine ⟨h,fun E w x y hy hB=> ?_⟩
    cases hB with
    | ints0 kk xs h0 hn=>exact .ints0 _ _ h0 (by rw [Env.ren_some hy];exact hn)
    | ints kk xs b cells elem fr hb hw hf hv=>exact .ints _ _ b cells elem fr (by rw [Env.ren_some hy];exact hb) hw hf hv
   simp_all
  simp_all
 ·split at h
  ·split at h
   ·rename_i hk
    have hk:=J0 hk
    subst hk
    replace h:=Z5 h
    obtain ⟨rfl,⟨h1⟩,h⟩:=h
    refine ⟨h,fun E w x y hy hB=> ?_⟩
    cases hB with
    | rows0 sz n f h0 hn=>exact .rows0 _ _ _ h0 (by rw [Env.ren_some hy];exact hn)
    | rows sz n f b cells elem fr g hb hw hf hc hl hv=>exact .rows _ _ _ b cells elem fr g (by rw [Env.ren_some hy];exact hb) hw hf (fun i hi=>(UW _ _ _ (h1 i hi)).2.2 E _ (hc i hi)) hl hv
   simp_all
  simp_all
 ·split at h
  ·obtain ⟨h,h1⟩:=Xz _ _ _ h
   obtain ⟨h,h2⟩:=Xz _ _ _ h
   refine ⟨h,fun E w x y hy hB=> ?_⟩
   cases hB with
   | map es b ents clock hb hw hk hv hbn=>exact .map _ b ents clock (by rw [Env.ren_some hy];exact hb) hw (h1 E _ hk) (h2 E _ hv) hbn
  simp_all
 ·split at h
  ·replace h:=Z5 h
   obtain ⟨rfl,⟨h1⟩,h⟩:=h
   refine ⟨h,fun E w x y hy hB=> ?_⟩
   cases hB with
   | fmap n kf vf b ents clock hb hw hl hk hv hbn=>
    refine .fmap _ _ _ b ents clock (by rw [Env.ren_some hy];exact hb) hw hl (fun i e he=> ?_) (fun i e he=> ?_) hbn
    all_goals grind [WH]
  ·replace h:=Z5 h
   obtain ⟨rfl,⟨h1⟩,h⟩:=h
   refine ⟨h,fun E w x y hy hB=> ?_⟩
   cases hB with
   | map es b ents clock hb hw hk hv hbn=>
    have hl:=hk.length
    simp only [List.length_map] at hl
    refine .fmap _ _ _ b ents clock (by rw [Env.ren_some hy];exact hb) hw hl (fun i e he=> ?_) (fun i e he=> ?_) hbn
    ·have hi:=(Jb.1 he).1
     refine (WH _ _ _ (h1 i (by omega)).1).2 E _ ?_
     refine Zc.at hk (i:=i) ?_ ?_
     all_goals simp_all
    ·have hi:=(Jb.1 he).1
     refine (WH _ _ _ (h1 i (by omega)).2).2 E _ ?_
     refine Zc.at hv (i:=i) ?_ ?_
     all_goals simp_all
  simp_all
 ·split at h
  ·obtain ⟨h,h1⟩:=Xz _ _ _ h
   obtain ⟨h,h2⟩:=Xz _ _ _ h
   refine ⟨h,fun E w x y hy hB=> ?_⟩
   cases hB with
   | pmap es b kk ents ents' clock hb hw hp hn hi hk hv=>exact .pmap _ b kk ents ents' clock (by rw [Env.ren_some hy];exact hb) hw hp hn hi (h1 E _ hk) (h2 E _ hv)
  simp_all
 ·simp_all
 ·simp_all
 ·split at h
  ·obtain ⟨hd',h⟩:=Yh h
   obtain ⟨hd2,hz⟩:=Yh h
   obtain ⟨e,hz⟩:=hz
   subst e
   refine ⟨hz,fun E w x y hy hB=> ?_⟩
   cases hB with
   | git m y js b mb clock bs seen hb hm hy' hs hj hw=>exact .git _ _ _ b mb clock bs seen (by rw [Env.ren_some hy];exact hb) (by rw [Env.ren_some hd'];exact hm) (by rw [Env.ren_some hd2];exact hy') hs hj hw
  simp_all
 ·simp_all
 ·split at h
  ·obtain ⟨⟨e1,e2,e3,e4,e5,e6,e7⟩,h⟩:=h
   obtain ⟨hd',h⟩:=Yh h
   obtain ⟨h,h1⟩:=Z0g _ h
   refine ⟨h,fun E w x y hy hB=> ?_⟩
   cases hB with
   | loop l0 b d N fnr tm hb hd hw ht=>
    refine .loop _ b d N fnr tm (by rw [Env.ren_some hy];exact hb) (by rw [Env.ren_some hd'];exact hd) ?_ (h1 E _ _ (e4▸ht))
    rw [e1,e2,e5,e6,e7] at hw
    exact hw
  simp_all
 ·split at h
  ·refine ⟨h,fun E w x y hy hB=> ?_⟩
   cases hB with
   | defd b hb hw=>exact .defd b (by rw [Env.ren_some hy];exact hb) hw
  simp_all
def eqB (k:Nat) (τ:Ren) (B₂ B:Blk) (Z:Prop):Prop:=match B₂ with
 | .froz C y=>match B with
  | .froz C' y'=>XY k τ y y' (Z22 k τ C C' Z)
  | _=>False
 | B₂=>Z22 k τ B₂ B Z
theorem Z5Q {k:Nat} (h:eqB k τ B₂ B Z):
  Z/\∀(E:Env) (w:World) (x y:Nat),rn k τ y=some x->ZB E w x B->ZB (E.ren k τ) w y B₂:=by
 unfold eqB at h
 split at h
 ·split at h
  ·obtain ⟨hd,h⟩:=Yh h
   obtain ⟨h,h1⟩:=Z2w h
   refine ⟨h,fun E w x y hy hB=> ?_⟩
   cases hB with
   | froz B y b ents clock hB hb hw hbn hy'=>exact .froz _ _ b ents clock (h1 E w _ _ hy hB) (by rw [Env.ren_some hy];exact hb) hw hbn (by rw [Env.ren_some hd];exact hy')
  ·exact h.elim
 ·exact Z2w h
def Z4b:Blk->Prop->Prop
 | .flat cs,Z=>Z8 (csz cs=0) Z
 | .ints _ xs,Z=>xs=[]/\Z
 | .rows _ n _,Z=>Z8 (n=0) Z
 | _,_=>False
theorem Z4c (h:Z4b B Z):Z/\∀(E:Env) (w:World) (y:Nat),E.blk y=none->ZB E w y B:=by
 unfold Z4b at h
 split at h
 ·obtain ⟨h1,h⟩:=Z5 h
  exact ⟨h,fun E w y hy=>.flat0 _ h1 hy⟩
 ·exact ⟨h.2,fun E w y hy=>.ints0 _ _ h.1 hy⟩
 ·obtain ⟨h1,h⟩:=Z5 h
  exact ⟨h,fun E w y hy=>.rows0 _ _ _ h1 hy⟩
 simp_all
def eqH (k:Nat) (τ:Ren) (h:Z1) (Z:Prop):List (Nat×Blk)->Prop
 | []=>Z
 | (y,B₂)::r=>match rn k τ y with
  | some x=>match Zm h.bs x with
   | some B=>eqB k τ B₂ B (eqH k τ h Z r)
   | none=>False
  | none=>Z4b B₂ (eqH k τ h Z r)
theorem Z23 {k:Nat} {τ:Ren} {h:Z1} {Z:Prop}:∀(bs:List (Nat×Blk)),eqH k τ h Z bs->Z/\∀y B₂,Zm bs y=some B₂->
  (rn k τ y=none/\∀(E:Env) (w:World),E.blk y=none->ZB E w y B₂)\/∃x B,rn k τ y=some x/\h.get x=some B/\∀(E:Env) (w:World),ZB E w x B->ZB (E.ren k τ) w y B₂
 | [],hl=>⟨hl,fun y B₂ hy=>by simp [Zm] at hy⟩
 | (z,B)::r,hl=>by
  unfold eqH at hl
  split at hl
  ·rename_i x hx
   split at hl
   ·rename_i B' hB'
    obtain ⟨hl,h1⟩:=Z5Q hl
    obtain ⟨hl,h2⟩:=Z23 r hl
    refine ⟨hl,fun y B₂ hy=> ?_⟩
    simp only [Zm] at hy
    split at hy
    ·rename_i hb
     have:=J0 hb
     subst this
     cases hy
     exact .inr ⟨x,B',hx,hB',fun E w hB=>h1 E w x _ hx hB⟩
    ·exact h2 y B₂ hy
   ·exact hl.elim
  ·rename_i hx
   obtain ⟨hl,h1⟩:=Z4c hl
   obtain ⟨hl,h2⟩:=Z23 r hl
   refine ⟨hl,fun y B₂ hy=> ?_⟩
   simp only [Zm] at hy
   split at hy
   ·rename_i hb
    have:=J0 hb
    subst this
    cases hy
    exact .inl ⟨hx,fun E w he=>h1 E w _ he⟩
   ·exact h2 y B₂ hy
def Z10 (k:Nat) (τ:Ren) (x:Nat):List (Nat×Blk)->Bool
 | []=>true
 | (y,_)::r=>match rn k τ y with
  | some x'=> !(Nat.beq x' x)&&Z10 k τ x r
  | none=>Z10 k τ x r
def Z2x (k:Nat) (τ:Ren):List (Nat×Blk)->Bool
 | []=>true
 | (y,_)::r=>(match rn k τ y with|some x=>Z10 k τ x r|none=>true)&&Z2x k τ r
def ltB (m:Nat):List (Nat×Blk)->Bool
 | []=>true
 | (y,_)::r=>Nat.blt y m&&ltB m r
def ltR (m:Nat):Ren->Bool
 | []=>true
 | (y,_)::r=>Nat.blt y m&&ltR m r
theorem UX {bs:List (Nat×Blk)} {y:Nat} (h:Zm bs y=some B):∃B',(y,B')∈bs:=by
 induction bs with
 | nil=>simp [Zm] at h
 | cons p r ih=>
  grind [Zm,J0]
theorem V9 {k:Nat} {τ:Ren} {x:Nat}:∀{bs:List (Nat×Blk)},Z10 k τ x bs=true->∀y B,(y,B)∈bs->rn k τ y≠some x
 | (z,C)::r,h,y,B,hm=>by
  unfold Z10 at h
  rcases J5.1 hm with e|hm
  ·split at h
   ·grind [Jc]
   simp_all
  ·split at h
   ·rw [J2] at h
    exact V9 h.2 y B hm
   ·exact V9 h y B hm
theorem Z11 {k:Nat} {τ:Ren}:∀{bs:List (Nat×Blk)},Z2x k τ bs=true->∀y z B C x,(y,B)∈bs->(z,C)∈bs->rn k τ y=some x->rn k τ z=some x->y=z
 | (u,D)::r,h,y,z,B,C,x,hy,hz,ey,ez=>by
  unfold Z2x at h
  rw [J2] at h
  rcases J5.1 hy with e1|hy'<;>rcases J5.1 hz with e2|hz'
  ·cases e1;cases e2;rfl
  ·cases e1
   rw [ey] at h
   exact absurd ez (V9 h.1 z C hz')
  ·cases e2
   rw [ez] at h
   exact absurd ey (V9 h.1 y B hy')
  ·exact Z11 h.2 y z B C x hy' hz' ey ez
theorem Z4d {m:Nat}:∀{bs:List (Nat×Blk)},ltB m bs=true->∀y B,(y,B)∈bs->y<m
 | (z,C)::r,h,y,B,hm=>by
  unfold ltB at h
  rw [J2] at h
  rcases J5.1 hm with e|hm
  ·simp_all
  ·exact Z4d h.2 y B hm
theorem Z4e {m:Nat}:∀{τ:Ren},ltR m τ=true->∀y x,Z20 τ y=some x->y<m
 | [],_,y,x,hy=>by simp [Z20] at hy
 | (z,u)::r,h,y,x,hy=>by
  unfold ltR at h
  rw [J2] at h
  simp only [Z20] at hy
  split at hy
  ·simp_all
  ·exact Z4e h.2 y x hy
def eqD (k:Nat) (τ:Ren) (Z:Prop):List XN->List XN->Prop
 | [],l=>match l with
  | []=>Z
  | _::_=>False
 | .call f args::r,l=>match l with
  | .call f' args'::r'=>match Nat.beq f' f with
   | true=>eqL k τ args args' (eqD k τ Z r r')
   | false=>False
  | _=>False
 | .mark y::r,l=>match l with
  | .mark x::r'=>XY k τ y x (eqD k τ Z r r')
  | _=>False
theorem Z24 {k:Nat} {τ:Ren} {Z:Prop}:∀(l₂ l:List XN),eqD k τ Z l₂ l->Z/\∀(E:Env) (rd:List Deferred),Xt E l rd->Xt (E.ren k τ) l₂ rd
 | [],l,h=>by
  unfold eqD at h
  split at h
  ·exact ⟨h,fun E rd hd=>by cases hd;exact .nil⟩
  simp_all
 | .call f args::r,l,h=>by
  unfold eqD at h
  split at h
  ·split at h
   ·rename_i hb
    have:=J0 hb
    subst this
    obtain ⟨h,h1⟩:=Xz _ _ _ h
    obtain ⟨h,h2⟩:=Z24 r _ h
    refine ⟨h,fun E rd hd=> ?_⟩
    cases hd with
    | call f args fn cap rs ds rd hf hl t=>exact .call _ _ fn cap rs _ _ hf (h1 E _ hl) (h2 E _ t)
   ·exact h.elim
  ·exact h.elim
 | .mark y::r,l,h=>by
  unfold eqD at h
  split at h
  ·obtain ⟨h1,h⟩:=Yh h
   obtain ⟨h,h2⟩:=Z24 r _ h
   refine ⟨h,fun E rd hd=> ?_⟩
   cases hd with
   | mark x b N ds rd hb t=>exact .mark _ b N _ _ (by rw [Env.ren_some h1];exact hb) (h2 E _ t)
  ·exact h.elim
def Z12 (k:Nat) (s s₂:St):Prop:=
 ∀(E0:Env) (h0:Z1) (w0:World) (E:Env) (a:Act) (w:World),(∀x,k<=x->E0.blk x=none)->Xc E s a w->Evo E0 h0 w0 E s.h w->∃E₂,Xc E₂ s₂ a w/\Evo E0 h0 w0 E₂ s₂.h w
def Z2y (k:Nat) (τ:Ren) (s₂ s:St) (Z:Prop):Prop:=
 match Nat.ble k s₂.h.next&&ltB s₂.h.next s₂.h.bs&&ltR s₂.h.next τ&&Z2x k τ s₂.h.bs&&Nat.beq s.n s₂.n with
 | true=>Z22.eqT k τ s.t (eqH k τ s.h (eqD k τ Z s₂.d s.d) s₂.h.bs) s₂.t
 | false=>False
theorem Z13 {k:Nat} (hl:Z2y k τ s₂ s Z):Z/\Z12 k s s₂:=by
 unfold Z2y at hl
 split at hl
 ·rename_i hb
  simp only [J2] at hb
  obtain ⟨⟨⟨⟨b1,b2⟩,b3⟩,b4⟩,b5⟩:=hb
  have b1:k<=s₂.h.next:=J8 b1
  have b5:s.n=s₂.n:=J0 b5
  obtain ⟨hl,hT⟩:=Z0g _ hl
  obtain ⟨hl,hH⟩:=Z23 _ hl
  obtain ⟨hl,hD⟩:=Z24 _ _ hl
  refine ⟨hl,fun E0 h0 w0 E a w hk hs hev=> ?_⟩
  have he:=hs.emb
  have hfr:∀y,s₂.h.next<=y->(E.ren k τ).blk y=none:=fun y hy=>by
   refine Env.ren_none ?_
   unfold rn
   have:Nat.blt y k=false:=by
    cases hq:Nat.blt y k with
    | false=>rfl
    | true=>have:y<k:=J8 hq;omega
   rw [this]
   cases hg:Z20 τ y with
   | none=>rfl
   | some x=>have:=Z4e b3 y x hg;omega
  have hgo:∀y B b N,s₂.h.get y=some B->(E.ren k τ).blk y=some (b,N)->∃x C,rn k τ y=some x/\s.h.get x=some C/\E.blk x=some (b,N):=fun y B b N hy hb=>by
   rcases hH y B hy with ⟨hn,_⟩|⟨x,C,hx,hC,_⟩
   all_goals simp_all [Env.ren_none,Env.ren_some]
  have hemb:Emb (E.ren k τ) s₂.h w:=by
   refine ⟨hfr, ?_, ?_, ?_, ?_, ?_⟩
   ·intro y B hy
    obtain ⟨B',hm⟩:=UX hy
    exact Z4d b2 y B' hm
   ·intro y B hy
    rcases hH y B hy with ⟨hn,h1⟩|⟨x,C,hx,hC,h1⟩
    ·exact h1 _ w (Env.ren_none hn)
    ·exact h1 E w (he.own x C hC)
   ·intro y z B C b N N' hy hz hby hbz
    obtain ⟨x,D,hx,hD',hbx⟩:=hgo y B b N hy hby
    obtain ⟨x',D'',hx',hD'',hbx'⟩:=hgo z C b N' hz hbz
    have:=he.disj x x' D D'' b N N' hD' hD'' hbx hbx'
    subst this
    obtain ⟨B',hm⟩:=UX hy
    obtain ⟨C',hm'⟩:=UX hz
    exact Z11 b4 y z B' C' x hm hm' hx hx'
   ·exact he.imm
   ·intro ad c y B N hi hy hb
    obtain ⟨x,D,hx,hD',hbx⟩:=hgo y B _ N hy hb
    exact he.sep ad c x D N hi hD' hbx
  refine ⟨E.ren k τ,⟨hemb,b5▸hT E _ _ hs.tmps,hD E _ hs.defs⟩,⟨fun x r hx=> ?_,hev.le.imm⟩,hemb,hev.size,hev.os,hev.tape,hev.output,hev.keep,fun b ho=> ?_,hev.imm⟩
  ·have hlt:x<k:=by
    grind
   have hrx:rn k τ x=some x:=by
    unfold rn
    have:Nat.blt x k=true:=Jw hlt
    rw [this]
   rw [Env.ren_some hrx]
   exact hev.le.blk x r hx
  ·obtain ⟨y,B,N,hy,hb⟩:=ho
   obtain ⟨x,D,hx,hD',hbx⟩:=hgo y B b N hy hb
   exact hev.own b ⟨x,D,N,hD',hbx⟩
 simp_all
theorem ZO.weak {P:Program} {k:Nat} {c:Code} (h:ZO P k ro c s₂ X) (hw:Z12 k s s₂):ZO P k ro c s X:=by
 intro E0 h0 w0 E a w n hk hs hev
 obtain ⟨E₂,hs₂,hev₂⟩:=hw E0 h0 w0 E a w hk hs hev
 exact h E0 h0 w0 E₂ a w n hk hs₂ hev₂
def Z2z {ι:Type} (k:Nat) (m:ι->Nat) (S:ι->St) (i:ι) (X:KE):KE:=fun e s=>match e with
 | .normal=>∃j,m j<m i/\Z12 k s (S j)
 | .panic v=>X (.panic v) s
 | .exit id=>∃s₂,Z12 k s s₂/\X (.exit id) s₂
 | .goto l=>∃s₂,Z12 k s s₂/\X (.goto l) s₂
 | .ret=>∃s₂,Z12 k s s₂/\X .ret s₂
theorem ZO.mono {P:Program} {k:Nat} {c:Code} {Y:KE} (h:ZO P k ro c s X) (hxy:∀e s,X e s->Y e s):ZO P k ro c s Y:=
 fun E0 h0 w0 E a w n hk hs hev=>wpIn_mono (h E0 h0 w0 E a w n hk hs hev) fun _ _ _ hp=>hp.mono hxy
theorem Z3i {P:Program} {k:Nat} {c:Code} {ι:Type} (m:ι->Nat) (S:ι->St) (X:KE)
  (h:∀i,ZO P k ro c (S i) (Z2z k m S i X)):∀i,ZO P k ro (.loop c) (S i) X:=by
 have key:∀N i,m i<N->∀(E0:Env) (h0:Z1) (w0:World) (E:Env) (a:Act) (w:World) (n:Nat),(∀x,k<=x->E0.blk x=none)->Xc E (S i) a w->Evo E0 h0 w0 E (S i).h w->
   Code.roundsIn (Fr ro) n P c (Xv E0 h0 w0 X) N a w:=by
  intro N
  induction N with
  | zero=>omega
  | succ N ih=>
   intro i hi E0 h0 w0 E a w n hk hs hev
   refine wpIn_mono (h i E0 h0 w0 E a w n hk hs hev) ?_
   rintro e a' w' ⟨E',x,s',hx,hev',hs',he⟩
   cases he with
   | normal=>
    obtain ⟨j,hj,hw⟩:=hx
    obtain ⟨E₂,hs₂,hev₂⟩:=hw E0 h0 w0 E' a' w' hk hs' hev'
    exact ih j (by omega) E0 h0 w0 E₂ a' w' n hk hs₂ hev₂
   | exit id=>
    obtain ⟨s₂,hw,hx⟩:=hx
    obtain ⟨E₂,hs₂,hev₂⟩:=hw E0 h0 w0 E' a' w' hk hs' hev'
    exact ⟨E₂,_,s₂,hx,hev₂,hs₂,.exit id⟩
   | goto l=>
    obtain ⟨s₂,hw,hx⟩:=hx
    obtain ⟨E₂,hs₂,hev₂⟩:=hw E0 h0 w0 E' a' w' hk hs' hev'
    exact ⟨E₂,_,s₂,hx,hev₂,hs₂,.goto l⟩
   | ret=>
    obtain ⟨s₂,hw,hx⟩:=hx
    obtain ⟨E₂,hs₂,hev₂⟩:=hw E0 h0 w0 E' a' w' hk hs' hev'
    exact ⟨E₂,_,s₂,hx,hev₂,hs₂,.ret⟩
   | panic v r hv=>exact ⟨E',_,s',hx,hev',hs',.panic v r hv⟩
 intro i E0 h0 w0 E a w n hk hs hev
 exact wpIn_loop_rounds (m i+1) (key (m i+1) i (Nat.lt_succ_self _) E0 h0 w0 E a w n hk hs hev)
theorem UY:∀(body:Code) (id:Nat) (c:Code),(id,c)∈Zb body->∀b,b∈Zb c->b∈Zb body:=by
 intro body
 induction body with
 | seq x y ihx ihy=>
  grind [Zb]
 | cond o x y ihx ihy=>
  grind [Zb]
 | block i x ih=>
  grind [Zb]
 | loop x ih=>grind [Zb]
 | scope x ih=>grind [Zb]
 | _=>intro id c h;simp [Zb] at h
def We (id:Nat):List (Nat×Code)->List Code
 | []=>[]
 | (i,c)::r=>match Nat.beq i id with|true=>c::We id r|false=>We id r
theorem XZ {id:Nat} {c:Code}:∀{l:List (Nat×Code)},(id,c)∈l->c∈We id l
 | (i,d)::r,h=>by
  unfold We
  rcases J5.1 h with e|h
  ·cases e;simp [Jc]
  ·split
   ·exact Jg _ (XZ h)
   ·exact XZ h
def Z25 (P:Program) (f:FuncId):Code:=match P.funcs[f]? with|some fn=>(match fn.body with|some b=>b|none=>.skip)|none=>.skip
def U1 (P:Program) (f:FuncId) (id:Nat):Code:=match We id (Zb (Z25 P f)) with|c::_=>c|[]=>.skip
def Z4f:Code->Code
 | .loop c=>c
 | _=>.skip
def Va (P:Program) (f:FuncId) (id:Nat):Bool:=match P.funcs[f]? with
 | some fn=>match fn.body with
  | some b=>match We id (Zb b) with|[.loop _]=>true|_=>false
  | none=>false
 | none=>false
theorem Z14 {P:Program} {id:Nat} (h:Va P f id=true) {fn:Func} {body c:Code} (hf:P.funcs[f]? =some fn) (hb:fn.body=some body) (hm:(id,c)∈Zb body):c=.loop (Z4f (U1 P f id)):=by
 have hc:=XZ hm
 simp only [Va,hf,hb] at h
 split at h
 ·rename_i d hd
  have hbo:Z25 P f=body:=by simp [Z25,hf,hb]
  have hbl:U1 P f id=.loop d:=by unfold U1;rw [hbo,hd]
  rw [hd] at hc
  rw [List.mem_singleton] at hc
  rw [hbl];exact hc
 ·cases h
def Zk.withL (G:Zk) (f:FuncId) (id:Nat) (S:Nat->St->KE->Prop):Zk:=
 { G with lsumm:=fun f' id'=>match Nat.beq f' f&&Nat.beq id' id with|true=>some S|false=>G.lsumm f' id'}
def Zk.withF (G:Zk) (f:FuncId) (S:Qq):Zk:=
 { G with fsumm:=fun f'=>match Nat.beq f' f with|true=>some S|false=>G.fsumm f'}
theorem Zk.withF_ok (hG:G.Ok) {S:Qq} (h:∀args hp K,S args hp K->Zj G.P f args hp K):(G.withF f S).Ok where
 draw:=hG.draw
 psumm:=hG.psumm
 lsumm:=hG.lsumm
 fsumm:=fun f' S' args hp K hS hs=>by
  simp only [Zk.withF] at hS
  split at hS
  ·rename_i hb
   have:=J0 hb
   subst this
   cases hS
   exact h args hp K hs
  ·exact hG.fsumm f' S' args hp K hS hs
def Zk.withP (G:Zk) (f:FuncId) (S:Yy):Zk:=
 { G with psumm:=fun f'=>match Nat.beq f' f with|true=>some S|false=>G.psumm f'}
theorem Zk.withP_ok (hG:G.Ok) {S:Yy} (h:∀args hp K,S args hp K->Zj G.P f args hp fun o h'=>∃v,o=.ret v/\h'=hp/\K v):(G.withP f S).Ok where
 draw:=hG.draw
 lsumm:=hG.lsumm
 fsumm:=hG.fsumm
 psumm:=fun f' S' args hp K hS hs=>by
  simp only [Zk.withP] at hS
  split at hS
  ·rename_i hb
   have:=J0 hb
   subst this
   cases hS
   exact h args hp K hs
  ·exact hG.psumm f' S' args hp K hS hs
@[irreducible] def UZ (G:Zk) (n:Nat) (f:FuncId) (id:Nat) (k:Nat) (s:St) (X:KE):Prop:=evC G (Z0b G n f none) k (Z4f (U1 G.P f id)) s X
theorem Zk.withL_ok (hG:G.Ok) {id:Nat} {S:Nat->St->KE->Prop} (h1:Va G.P f id=true)
  (h:∀k s X,S k s X->∃ι:Type,∃m:ι->Nat,∃I:ι->St,∃i n,Z12 k s (I i)/\∀i,∃Y,UZ G n f id k (I i) Y/\∀e s,Y e s->Z2z k m I i X e s):(G.withL f id S).Ok where
 draw:=hG.draw
 psumm:=hG.psumm
 fsumm:=hG.fsumm
 lsumm:=fun f' id' S' fn c body hS hf hb hm k s X hs=>by
  simp only [Zk.withL] at hS
  split at hS
  ·rename_i hq
   rw [J2] at hq
   have e1:=J0 hq.1
   have e2:=J0 hq.2
   subst e1 e2
   cases hS
   have hc:=Z14 h1 hf hb hm
   obtain ⟨ι,m,I,i,n,hw,hr⟩:=h k s X hs
   subst hc
   refine ZO.weak (Z3i m I X (fun i=> ?_) i) hw
   have hk:=VZ hG n f' none
   obtain ⟨Y,hY,hYX⟩:=hr i
   unfold UZ at hY
   refine ZO.mono ?_ hYX
   refine Z0c (k:=k) (ro:=none) hG hk.1 (fun _=>rfl) (fun _=>rfl) (fun _=>⟨fn,body,by rw [hk.2.1];exact hf,hb,fun b hbm=>UY body id' _ hm b (by simpa [Zb] using hbm)⟩) hY
  ·exact hG.lsumm f' id' S' fn c body hS hf hb hm k s X hs
theorem nd {p x:Prop} [Decidable p] (hp:p) (hx:x):Z9 (decide p) x False:=by rw [decide_eq_true hp];exact hx
def Env.bor (E:Env) (mv:Option Nat) (w:World) (t:Bool):Env:=
 ⟨fun y=>match t,y,mv with|true,0,some x=>E.blk x|_,_,_=>none,fun a c=>w.cell? a=some c/\∀x N,mv=some x->E.blk x=some (a.block,N)->False⟩
def AV.plain:AV->Bool
 | .top|.bool _|.int _ _|.str _|.ptr none|.eslice|.fslice|.nilslice|.map none|.nilFunc|.nilIface|.arr _ _ _=>true
 | _=>false
def plainC:List AV->Bool
 | []=>true
 | v::r=>v.plain&&plainC r
theorem Z4.plain (h:Z4 E v r) (hp:v.plain=true):Z4 E' v r:=by
 cases h with
 | top=>exact .top _
 | bool b=>exact .bool b
 | int k n=>exact .int k n
 | str s=>exact .str s
 | nilptr=>exact .nilptr
 | eslice a=>exact .eslice a
 | fslice a cap=>exact .fslice a cap
 | nilslice=>exact .nilslice
 | nilmap=>exact .nilmap
 | nilFunc=>exact .nilFunc
 | nilIface=>exact .nilIface
 | _=>simp [AV.plain] at hp
theorem Za.plain {E E':Env}:∀{cs:List AV} {vs:List Value},Za E cs vs->plainC cs=true->Za E' cs vs
 | _,_,.nil,_=>.nil
 | _,_,.one v c vs cs h0 h1 h t,hp=>by
  simp only [plainC,J2] at hp
  exact .one _ _ _ _ h0 h1 (h.plain hp.1) (Za.plain t hp.2)
 | _,_,.arr k n xs vs cs t,hp=>by
  simp only [plainC,J2] at hp
  exact .arr _ _ _ _ _ (Za.plain t hp.2)
def Z2A:List AV->Bool
 | .arr _ _ _::_=>true
 | _=>false
def Vu (mv:Option Nat) (x:Nat):Bool:=match mv with|some y=>Nat.beq y x|none=>false
mutual
def Wp (mv:Option Nat) (h:Z1) (t:Bool):Nat->AV->(AV->Prop)->Prop
 | 0,_,_=>False
 | d+1,v,K=>match v with
  | .top=>K .top
  | .bool b=>K (.bool b)
  | .int k n=>K (.int k n)
  | .str s=>K (.str s)
  | .ptr none=>K (.ptr none)
  | .eslice=>K .eslice
  | .fslice=>K .fslice
  | .nilslice=>K .nilslice
  | .map none=>K (.map none)
  | .nilFunc=>K .nilFunc
  | .nilIface=>K .nilIface
  | .pview cs inn=>K (.pview cs inn)
  | .vints k xs len=>K (.vints k xs len)
  | .vrows esz n f len=>K (.vrows esz n f len)
  | .ptr (some p)=>match Vu mv p.blk with
   | true=>match t with|false=>False|true=>K (.ptr (some ⟨0,p.row,p.sz,p.off,p.inn⟩))
   | false=>match h.get p.blk with
    | some (.flat cs)=>match p.row,ZF p.off cs with
     | 0,some rest=>Xn mv h false d rest fun rest'=>K (.pview rest' p.inn)
     | _,_=>False
    | some (.rows sz n f)=>match Nat.beq sz p.sz with
     | true=>Z8 (p.row<n) (match ZF p.off (f p.row) with
      | some rest=>Xn mv h false d rest fun rest'=>K (.pview rest' p.inn)
      | none=>False)
     | false=>False
    | _=>False
  | .nslice p esz len lo=>match Vu mv p.blk with
   | true=>match t with|false=>False|true=>K (.nslice ⟨0,p.row,p.sz,p.off,p.inn⟩ esz len lo)
   | false=>match h.get p.blk with
    | some (.ints k xs)=>match Nat.beq esz 1 with
     | true=>Z8 (p.tot+len<=xs.length) (K (.vints k ((WU p.tot xs).take len) len))
     | false=>False
    | some (.rows sz n f)=>match Nat.beq sz esz&&Nat.beq p.off 0&&Nat.beq p.inn 0&&(Nat.beq p.sz esz||Nat.beq p.row 0) with
     | true=>Z8 (p.row+len<=n) ((∀i,i<len->plainC (Ww p.row f i)=true)/\K (.vrows esz len (Ww p.row f) len))
     | false=>False
    | some (.flat cs)=>match p.row,ZF p.off cs with
     | 0,some rest=>match Z2A rest&&Nat.beq esz 1 with
      | true=>match rest with
       | .arr k n xs::_=>match Nat.beq esz 1,Nat.beq p.inn 0&&Nat.beq len n with
        | true,true=>Z8 (xs.length=n) (K (.vints k xs len))
        | true,false=>Z8 (xs.length=n/\p.inn+len<=n) (K (.vints k ((WU p.inn xs).take len) len))
        | false,_=>False
       | _=>False
      | false=>match Nat.beq p.inn 0,takeC (len*esz) rest with
       | true,some part=>Xn mv h false d part fun part'=>match Wv part' 0 esz len with
        | true=>K (.vrows esz len (Z2U part' 0 esz) len)
        | false=>False
       | _,_=>False
     | _,_=>False
    | _=>False
  | .func (.func g) fs cs=>YV mv h t d fs fun fs'=>YV mv h t d cs fun cs'=>K (.func (.func g) fs' cs')
  | .iface T u=>Wp mv h t d u fun u'=>K (.iface T u')
  | .agg cs=>Xn mv h t d cs fun cs'=>K (.agg cs')
  | .tuple vs=>YV mv h t d vs fun vs'=>K (.tuple vs')
  | _=>False
def Xn (mv:Option Nat) (h:Z1) (t:Bool):Nat->List AV->(List AV->Prop)->Prop
 | 0,_,_=>False
 | d+1,l,K=>match l with
  | []=>K []
  | .arr k n xs::r=>Xn mv h t d r fun r'=>K (.arr k n xs::r')
  | v::r=>Wp mv h t d v fun v'=>match v'.isCell with
   | true=>Xn mv h t d r fun r'=>K (v'::r')
   | false=>False
def YV (mv:Option Nat) (h:Z1) (t:Bool):Nat->List AV->(List AV->Prop)->Prop
 | 0,_,_=>False
 | d+1,l,K=>match l with
  | []=>K []
  | v::r=>Wp mv h t d v fun v'=>YV mv h t d r fun r'=>K (v'::r')
end
theorem QC {w:World} {t:Bool} {h:Z1} (he:Emb E h w) (hm:∀x,mv=some x->∃B,h.get x=some B):E.views.le (E.bor mv w t).views:=
 ⟨fun _ _ hq=>by simp [Env.views] at hq,fun a c hi=>⟨he.imm a c hi,fun x N hx hb=>let ⟨B,hB⟩:=hm x hx;he.sep a c x B N hi hB hb⟩⟩
theorem Z0h {w:World} {t:Bool} {h:Z1} (he:Emb E h w) (hm:∀x,mv=some x->∃B,h.get x=some B) {a:Addr} {c:Value} (hi:E.imm a c):(E.bor mv w t).imm a c:=
 ⟨he.imm a c hi,fun x N hx hb=>let ⟨B,hB⟩:=hm x hx;he.sep a c x B N hi hB hb⟩
theorem YW {w:World} {t:Bool} {h:Z1} (he:Emb E h w) (hm:∀x,mv=some x->∃B,h.get x=some B) {y b N o:Nat} (hy:h.get y=some B) (hb:E.blk y=some (b,N)) (hn:Vu mv y=false) {c:Value}
  (hc:w.cell? ⟨b,o,none⟩=some c):(E.bor mv w t).imm ⟨b,o,none⟩ c:=
 ⟨hc,fun x N' hx hbx=>by
  obtain ⟨C,hC⟩:=hm x hx
  have:=he.disj x y C B b N' N hC hy hbx hb
  simp_all [Vu]⟩
theorem QD {w:World} {x:Nat} (h:Vu mv x=true):(E.bor mv w true).blk 0=E.blk x:=by
 unfold Vu at h
 split at h
 ·have:=J0 h
  subst this
  rfl
 ·cases h
theorem addr_add (b o j:Nat):(⟨b,o,none⟩:Addr).add j=⟨b,o+j,none⟩:=by
 simp_all [Addr.add]
theorem Z2B {cells:Array Value} {vs:List Value} (hv:∀(j:Nat) (c:Value),vs[j]? =some c->cells[j]? =some c) {w:World} {b:Nat} {elem:TypeId} {fr:Nat×Nat} (hw:w.heap[b]? =some (.cells cells elem fr)) {j:Nat} {c:Value} (h:vs[j]? =some c):
  w.cell? ⟨b,j,none⟩=some c:=by rw [cell_of_heap hw];simp_all
set_option maxHeartbeats 2000000 in
mutual
theorem Q0 {mv:Option Nat} {h:Z1} (hm:∀x,mv=some x->∃B,h.get x=some B):∀(d:Nat) (t:Bool) (v:AV) (K:AV->Prop),Wp mv h t d v K->∃v₀,K v₀/\∀(E:Env) (w:World) (r:Value),Emb E h w->Z4 E v r->Z4 (E.bor mv w t) v₀ r
 | 0,t,v,K,hl=>by unfold Wp at hl;simp_all
 | d+1,t,v,K,hl=>by
  unfold Wp at hl
  split at hl
  ·exact ⟨_,hl,fun E w r he hv=>.top r⟩
  ·exact ⟨_,hl,fun E w r he hv=>hv.plain rfl⟩
  ·exact ⟨_,hl,fun E w r he hv=>hv.plain rfl⟩
  ·exact ⟨_,hl,fun E w r he hv=>hv.plain rfl⟩
  ·exact ⟨_,hl,fun E w r he hv=>hv.plain rfl⟩
  ·exact ⟨_,hl,fun E w r he hv=>hv.plain rfl⟩
  ·exact ⟨_,hl,fun E w r he hv=>hv.plain rfl⟩
  ·exact ⟨_,hl,fun E w r he hv=>hv.plain rfl⟩
  ·exact ⟨_,hl,fun E w r he hv=>hv.plain rfl⟩
  ·exact ⟨_,hl,fun E w r he hv=>hv.plain rfl⟩
  ·exact ⟨_,hl,fun E w r he hv=>hv.plain rfl⟩
  ·refine ⟨_,hl,fun E w r he hv=> ?_⟩
   cases hv with
   | pview cs inn a vs hc hi=>exact .pview _ _ a vs (hc.mono (QC he hm)) (fun j c hj=>Z0h he hm (hi j c hj))
  ·refine ⟨_,hl,fun E w r he hv=> ?_⟩
   cases hv with
   | vintsNil k xs len h1 h2=>exact .vintsNil _ _ _ h1 h2
   | vints k xs len a cap h1 h2 hi=>exact .vints _ _ _ a cap h1 h2 (fun i hi'=>Z0h he hm (hi i hi'))
  ·refine ⟨_,hl,fun E w r he hv=> ?_⟩
   cases hv with
   | vrowsNil esz n f len h1 h2=>exact .vrowsNil _ _ _ _ h1 h2
   | vrows esz n f len a cap g h1 h2 hc hl' hi=>exact .vrows _ _ _ _ a cap g h1 h2 (fun i hi'=>(hc i hi').mono (QC he hm)) hl' (fun i j c hi' hj=>Z0h he hm (hi i j c hi' hj))
  ·rename_i p
   split at hl
   ·rename_i hmv
    split at hl
    ·simp_all
    ·refine ⟨_,hl,fun E w r he hv=> ?_⟩
     cases hv with
     | ptr p b N hb=>exact .ptr ⟨0,p.row,p.sz,p.off,p.inn⟩ b N (by rw [QD hmv];exact hb)
   ·rename_i hmv
    split at hl
    ·rename_i cs hg
     split at hl
     ·rename_i rest hrow hrest
      obtain ⟨rest',hK,hr⟩:=Xo hm d false rest _ hl
      refine ⟨_,hK,fun E w r he hv=> ?_⟩
      cases hv with
      | ptr p b N hb=>
       cases he.own _ _ hg with
       | flat0 cs h0 hn=>rw [hn] at hb;cases hb
       | flat cs b' cells elem fr vs hb' hw hf hc hvs=>
        rw [hb] at hb'
        cases hb'
        have hd:=(Zv _ _ _ _ hrest hc).1
        have e:(⟨b,p.tot,none⟩:Addr)=(⟨b,p.off,none⟩:Addr).add p.inn:=by rw [addr_add];simp [Zr.tot,hrow]
        rw [e]
        refine .pview _ _ ⟨b,p.off,none⟩ _ (hr E w _ he hd) (fun j c hj=> ?_)
        rw [addr_add]
        grind [YW,Z2B]
     simp_all
    ·rename_i sz n f hg
     split at hl
     ·rename_i hsz
      have hsz:=J0 hsz
      obtain ⟨hrow,hl⟩:=Z5 hl
      split at hl
      ·rename_i rest hrest
       obtain ⟨rest',hK,hr⟩:=Xo hm d false rest _ hl
       refine ⟨_,hK,fun E w r he hv=> ?_⟩
       cases hv with
       | ptr p b N hb=>
        cases he.own _ _ hg with
        | rows0 sz n f h0 hn=>omega
        | rows sz n f b' cells elem fr g hb' hw hf hc hlg hvs=>
         rw [hb] at hb'
         cases hb'
         have hd:=(Zv _ _ _ _ hrest (hc _ hrow)).1
         have e:(⟨b,p.tot,none⟩:Addr)=(⟨b,p.row*sz+p.off,none⟩:Addr).add p.inn:=by rw [addr_add];simp [Zr.tot,hsz]
         rw [e]
         refine .pview _ _ ⟨b,p.row*sz+p.off,none⟩ _ (hr E w _ he hd) (fun j c hj=> ?_)
         rw [addr_add]
         grind [YW,cell_of_heap]
      simp_all
     simp_all
    simp_all
  ·rename_i p esz len lo
   split at hl
   ·rename_i hmv
    split at hl
    ·simp_all
    ·refine ⟨_,hl,fun E w r he hv=> ?_⟩
     cases hv with
     | nslice0 p esz len lo a h1 h2=>exact .nslice0 _ _ _ _ a h1 h2
     | nslice p esz len lo b N cap hb h1 h2 h3=>exact .nslice ⟨0,p.row,p.sz,p.off,p.inn⟩ _ _ _ b N cap (by rw [QD hmv];exact hb) h1 h2 h3
   ·rename_i hmv
    split at hl
    ·rename_i k xs hg
     split at hl
     ·rename_i hes
      have hes:=J0 hes
      subst hes
      obtain ⟨hle,hK⟩:=Z5 hl
      have hlen:((WU p.tot xs).take len).length=len:=by rw [Xf,Ji,Js];omega
      refine ⟨_,hK,fun E w r he hv=> ?_⟩
      cases hv with
      | nslice0 p esz len lo a h1 h2=>
       subst h1
       cases a with
       | none=>exact .vintsNil _ _ _ (by simp) rfl
       | some a=>exact .vints _ _ _ a 0 (by simp) (by simp) (fun i hi=>by simp at hi)
      | nslice p esz len lo b N cap hb h1 h2 h3=>
       refine .vints _ _ _ _ cap (by omega) (by omega) (fun i hi=> ?_)
       rw [hlen] at hi
       rw [addr_add]
       refine YW he hm hg hb hmv ?_
       cases he.own _ _ hg with
       | ints0 k xs h0 hn=>rw [hn] at hb;cases hb
       | ints k xs b' cells elem fr hb' hw hf hvs=>
        rw [hb] at hb'
        cases hb'
        rw [cell_of_heap hw,hvs _ (by omega)]
        congr 2
        rw [Xf]
        simp_all
     simp_all
    ·rename_i sz n f hg
     split at hl
     ·rename_i hb
      simp only [J2,JB] at hb
      obtain ⟨⟨⟨q1,q2⟩,q3⟩,q4⟩:=hb
      have q1:=J0 q1
      have q2:=J0 q2
      have q3:=J0 q3
      obtain ⟨hle,hpl,hK⟩:=Z5 hl
      refine ⟨_,hK,fun E w r he hv=> ?_⟩
      have htot:p.tot=p.row*sz:=by
       grind [J0,Zr.tot]
      cases hv with
      | nslice0 p esz len lo a h1 h2=>
       subst h1
       cases a with
       | none=>exact .vrowsNil _ _ _ _ rfl rfl
       | some a=>exact .vrows _ _ _ _ a 0 (fun _=>[]) (by omega) (by omega) (fun i hi=>by omega) (fun i hi=>by omega) (fun i j c hi=>by omega)
      | nslice p esz len lo b N cap hb h1 h2 h3=>
       cases he.own _ _ hg with
       | rows0 sz n f h0 hn=>rw [hn] at hb;cases hb
       | rows sz n f b' cells elem fr g hb' hw hf hc hlg hvs=>
        rw [hb] at hb'
        cases hb'
        refine .vrows _ _ _ _ _ cap (fun i=>g (p.row+i)) (by omega) h1 (fun i hi=> ?_) (fun i hi=>by rw [<-q1];grind) (fun i j c hi hj=> ?_)
        ·have:=hc (p.row+i) (by omega)
         have hp:=hpl i hi
         rw [Qe] at hp⊢
         exact this.plain hp
        ·rw [addr_add]
         refine YW he hm hg hb hmv ?_
         rw [cell_of_heap hw,htot,<-q1]
         have:=hvs (p.row+i) j c (by omega) hj
         rw [JE] at this
         rw [show p.row*sz+(i*sz+j)=p.row*sz+i*sz+j by omega]
         exact this
     simp_all
    ·rename_i cs hg
     split at hl
     ·rename_i rest hrow hrest
      have hbase:∀(E:Env) (w:World) (b N:Nat),Emb E h w->E.blk p.blk=some (b,N)->∃vs,Za E rest vs/\∀j c,vs[j]? =some c->w.cell? ⟨b,p.off+j,none⟩=some c:=by
       intro E w b N he hb
       cases he.own _ _ hg with
       | flat0 cs h0 hn=>rw [hn] at hb;cases hb
       | flat cs b' cells elem fr vs hb' hw hf hc hvs=>
        rw [hb] at hb'
        cases hb'
        refine ⟨_,(Zv _ _ _ _ hrest hc).1,fun j c hj=> ?_⟩
        rw [Jt] at hj
        exact Z2B hvs hw hj
      split at hl
      ·split at hl
       ·rename_i k n xs rest2 harr
        split at hl
        ·rename_i hes hbb
         have hes:=J0 hes
         subst hes
         rw [J2] at hbb
         have e1:=J0 hbb.1
         have e2:=J0 hbb.2
         obtain ⟨hxl,hK⟩:=Z5 hl
         refine ⟨_,hK,fun E w r he hv=> ?_⟩
         cases hv with
         | nslice0 p esz len lo a h1 h2=>
          have hx0:xs=[]:=by
           grind
          subst hx0
          subst h1
          cases a with
          | none=>exact .vintsNil _ _ _ rfl rfl
          | some a=>exact .vints _ _ _ a 0 (by simp) (by simp) (fun i hi=>by simp at hi)
         | nslice p esz len lo b N cap hb h1 h2 h3=>
          obtain ⟨vs,hcr,hcell⟩:=hbase E w b N he hb
          obtain ⟨ws,rfl,_⟩:=Za.cons_arr hcr
          refine .vints _ _ _ _ cap (by omega) (by omega) (fun i hi=> ?_)
          rw [addr_add]
          refine YW he hm hg hb hmv ?_
          have:=hcell i (.int k (xs.getD i 0)) (by
           rw [J7 (by rw [Z2];omega),Z7 (by omega)])
          rw [show p.tot+i=p.off+i by simp [Zr.tot,hrow,e1]]
          exact this
        ·rename_i hes hbb
         have hes:=J0 hes
         subst hes
         obtain ⟨⟨hxl,hle⟩,hK⟩:=Z5 hl
         have hlen:((WU p.inn xs).take len).length=len:=by rw [Xf,Ji,Js];omega
         refine ⟨_,hK,fun E w r he hv=> ?_⟩
         cases hv with
         | nslice0 p esz len lo a h1 h2=>
          subst h1
          cases a with
          | none=>exact .vintsNil _ _ _ (by simp) rfl
          | some a=>exact .vints _ _ _ a 0 (by simp) (by simp) (fun i hi=>by simp at hi)
         | nslice p esz len lo b N cap hb h1 h2 h3=>
          obtain ⟨vs,hcr,hcell⟩:=hbase E w b N he hb
          obtain ⟨ws,rfl,_⟩:=Za.cons_arr hcr
          refine .vints _ _ _ _ cap (by omega) (by omega) (fun i hi=> ?_)
          rw [hlen] at hi
          rw [addr_add]
          refine YW he hm hg hb hmv ?_
          have:=hcell (p.inn+i) (.int k (xs.getD (p.inn+i) 0)) (by
           rw [J7 (by rw [Z2];omega),Z7 (by omega)])
          rw [show p.tot+i=p.off+(p.inn+i) by simp [Zr.tot,hrow];omega]
          rw [this]
          congr 2
          rw [Xf]
          simp_all
        simp_all
       simp_all
      ·split at hl
       ·rename_i part hinn hpart
        have hinn:=J0 hinn
        obtain ⟨part',hK,hr⟩:=Xo hm d false part _ hl
        split at hK
        ·rename_i hrows
         refine ⟨_,hK,fun E w r he hv=> ?_⟩
         cases hv with
         | nslice0 p esz len lo a h1 h2=>
          subst h1
          cases a with
          | none=>exact .vrowsNil _ _ _ _ rfl rfl
          | some a=>exact .vrows _ _ _ _ a 0 (fun _=>[]) (by omega) (by omega) (fun i hi=>by omega) (fun i hi=>by omega) (fun i j c hi=>by omega)
         | nslice p esz len lo b N cap hb h1 h2 h3=>
          obtain ⟨vs,hcr,hcell⟩:=hbase E w b N he hb
          have hpr:=(W3 _ _ _ _ hpart hcr).1
          have hpr':=hr E w _ he hpr
          refine .vrows _ _ _ _ _ cap (fun i=>((vs.take (len*esz)).drop (0+i*esz)).take esz) (by omega) h1 (fun i hi=>(YM (Y9 hrows i hi) hpr').1) (fun i hi=>(YM (Y9 hrows i hi) hpr').2) (fun i j c hi hj=> ?_)
          rw [addr_add]
          grind [YW,Zr.tot]
        simp_all
       simp_all
     simp_all
    simp_all
  ·obtain ⟨fs',hl,h1⟩:=Xp hm d t _ _ hl
   obtain ⟨cs',hl,h2⟩:=Xp hm d t _ _ hl
   refine ⟨_,hl,fun E w r he hv=> ?_⟩
   cases hv with
   | func fn first captured fs cs ha hb=>exact .func _ _ _ _ _ (h1 E w _ he ha) (h2 E w _ he hb)
  ·obtain ⟨u',hl,h1⟩:=Q0 hm d t _ _ hl
   refine ⟨_,hl,fun E w r he hv=> ?_⟩
   cases hv with
   | iface T v x hx=>exact .iface _ _ _ (h1 E w _ he hx)
  ·obtain ⟨cs',hl,h1⟩:=Xo hm d t _ _ hl
   refine ⟨_,hl,fun E w r he hv=> ?_⟩
   cases hv with
   | agg cs vs hc=>exact .agg _ _ (h1 E w _ he hc)
  ·obtain ⟨vs',hl,h1⟩:=Xp hm d t _ _ hl
   refine ⟨_,hl,fun E w r he hv=> ?_⟩
   cases hv with
   | tuple vs rs hc=>exact .tuple _ _ (h1 E w _ he hc)
  simp_all
theorem Xo {mv:Option Nat} {h:Z1} (hm:∀x,mv=some x->∃B,h.get x=some B):∀(d:Nat) (t:Bool) (l:List AV) (K:List AV->Prop),Xn mv h t d l K->∃l₀,K l₀/\∀(E:Env) (w:World) (r:List Value),Emb E h w->Za E l r->Za (E.bor mv w t) l₀ r
 | 0,t,l,K,hl=>by unfold Xn at hl;simp_all
 | d+1,t,l,K,hl=>by
  unfold Xn at hl
  split at hl
  ·exact ⟨_,hl,fun E w r he hv=>by cases hv;exact .nil⟩
  ·obtain ⟨r',hl,h1⟩:=Xo hm d t _ _ hl
   refine ⟨_,hl,fun E w r he hv=> ?_⟩
   obtain ⟨ws,rfl,ht⟩:=Za.cons_arr hv
   exact .arr _ _ _ _ _ (h1 E w _ he ht)
  ·rename_i v r hna
   obtain ⟨v',hl,h1⟩:=Q0 hm d t _ _ hl
   split at hl
   ·rename_i hcell
    obtain ⟨r',hl,h2⟩:=Xo hm d t _ _ hl
    refine ⟨_,hl,fun E w q he hv=> ?_⟩
    obtain ⟨c,ws,rfl,q1,q2,q3,q4⟩:=Za.cons_cell hv (fun k m xs e=>hna k m xs e)
    exact .one _ _ _ _ hcell q2 (h1 E w _ he q3) (h2 E w _ he q4)
   ·exact hl.elim
theorem Xp {mv:Option Nat} {h:Z1} (hm:∀x,mv=some x->∃B,h.get x=some B):∀(d:Nat) (t:Bool) (l:List AV) (K:List AV->Prop),YV mv h t d l K->∃l₀,K l₀/\∀(E:Env) (w:World) (r:List Value),Emb E h w->Zc E l r->Zc (E.bor mv w t) l₀ r
 | 0,t,l,K,hl=>by unfold YV at hl;simp_all
 | d+1,t,l,K,hl=>by
  unfold YV at hl
  split at hl
  ·exact ⟨_,hl,fun E w r he hv=>by cases hv;exact .nil⟩
  ·obtain ⟨v',hl,h1⟩:=Q0 hm d t _ _ hl
   obtain ⟨r',hl,h2⟩:=Xp hm d t _ _ hl
   refine ⟨_,hl,fun E w q he hv=> ?_⟩
   cases hv with
   | cons v c vs cs ha hb=>exact .cons _ _ _ _ (h1 E w _ he ha) (h2 E w _ he hb)
end
def Xq (P:Program) (f:FuncId) (args:List AV) (v:AV) (nx:Nat) (bs:List (Nat×Blk)):Prop:=
 ∀(E:Env) (w:World) (rs:List Value),Emb E ⟨0,[]⟩ w->Zc E args rs->Calls P f rs.toArray w fun e w'=>∃E' r,e=.returned r/\Evo E ⟨0,[]⟩ w E' ⟨nx,bs⟩ w'/\Z4 E' v r
def shP (d:Nat) (p:Zr):Zr:=⟨d+p.blk,p.row,p.sz,p.off,p.inn⟩
mutual
def shV (d:Nat):AV->Option AV
 | .top=>some .top
 | .bool b=>some (.bool b)
 | .int k n=>some (.int k n)
 | .str s=>some (.str s)
 | .ptr none=>some (.ptr none)
 | .ptr (some p)=>some (.ptr (some (shP d p)))
 | .nslice p esz len lo=>some (.nslice (shP d p) esz len lo)
 | .eslice=>some .eslice
 | .fslice=>some .fslice
 | .nilslice=>some .nilslice
 | .map none=>some (.map none)
 | .map (some x)=>some (.map (some (d+x)))
 | .nilFunc=>some .nilFunc
 | .nilIface=>some .nilIface
 | .iface t v=>match shV d v with|some v'=>some (.iface t v')|none=>none
 | .agg cs=>match shC d cs with|some cs'=>some (.agg cs')|none=>none
 | .tuple vs=>match shL d vs with|some vs'=>some (.tuple vs')|none=>none
 | _=>none
def shC (d:Nat):List AV->Option (List AV)
 | []=>some []
 | .arr k n xs::r=>match shC d r with|some r'=>some (.arr k n xs::r')|none=>none
 | v::r=>match shV d v,shC d r with
  | some v',some r'=>match v'.isCell with|true=>some (v'::r')|false=>none
  | _,_=>none
def shL (d:Nat):List AV->Option (List AV)
 | []=>some []
 | v::r=>match shV d v,shL d r with
  | some v',some r'=>some (v'::r')
  | _,_=>none
end
mutual
theorem Z0i {d:Nat} {E E':Env} (hb:∀x r,E.blk x=some r->E'.blk (d+x)=some r):∀(v v':AV) (r:Value),shV d v=some v'->Z4 E v r->Z4 E' v' r
 | .top,v',r,h,hv=>by simp [shV] at h;subst h;exact .top r
 | .bool b,v',r,h,hv=>by simp [shV] at h;subst h;exact hv.plain rfl
 | .int k n,v',r,h,hv=>by simp [shV] at h;subst h;exact hv.plain rfl
 | .str s,v',r,h,hv=>by simp [shV] at h;subst h;exact hv.plain rfl
 | .ptr none,v',r,h,hv=>by simp [shV] at h;subst h;exact hv.plain rfl
 | .ptr (some p),v',r,h,hv=>by
  simp [shV] at h;subst h
  cases hv with
  | ptr p b N hq=>exact .ptr (shP d p) b N (hb _ _ hq)
 | .pview _ _,v',r,h,hv=>by simp [shV] at h
 | .nslice p esz len lo,v',r,h,hv=>by
  simp [shV] at h;subst h
  cases hv with
  | nslice0 p esz len lo a h1 h2=>exact .nslice0 _ _ _ _ a h1 h2
  | nslice p esz len lo b N cap hq h1 h2 h3=>exact .nslice (shP d p) _ _ _ b N cap (hb _ _ hq) h1 h2 h3
 | .vints _ _ _,v',r,h,hv=>by simp [shV] at h
 | .vrows _ _ _ _,v',r,h,hv=>by simp [shV] at h
 | .eslice,v',r,h,hv=>by simp [shV] at h;subst h;exact hv.plain rfl
 | .fslice,v',r,h,hv=>by simp [shV] at h;subst h;exact hv.plain rfl
 | .nilslice,v',r,h,hv=>by simp [shV] at h;subst h;exact hv.plain rfl
 | .map none,v',r,h,hv=>by simp [shV] at h;subst h;exact hv.plain rfl
 | .map (some x),v',r,h,hv=>by
  simp [shV] at h;subst h
  cases hv with
  | map x b N hq=>exact .map _ b N (hb _ _ hq)
 | .func _ _ _,v',r,h,hv=>by simp [shV] at h
 | .yield _,v',r,h,hv=>by simp [shV] at h
 | .stamp _,v',r,h,hv=>by simp [shV] at h
 | .nilFunc,v',r,h,hv=>by simp [shV] at h;subst h;exact hv.plain rfl
 | .nilIface,v',r,h,hv=>by simp [shV] at h;subst h;exact hv.plain rfl
 | .iface t v,v',r,h,hv=>by
  unfold shV at h
  split at h
  ·rename_i u hu
   cases h
   cases hv with
   | iface t v x hx=>exact .iface _ _ _ (Z0i hb _ _ _ hu hx)
  ·cases h
 | .agg cs,v',r,h,hv=>by
  unfold shV at h
  split at h
  ·rename_i u hu
   cases h
   cases hv with
   | agg cs vs hc=>exact .agg _ _ (Z26 hb _ _ _ hu hc)
  ·cases h
 | .arr _ _ _,v',r,h,hv=>by simp [shV] at h
 | .tuple vs,v',r,h,hv=>by
  unfold shV at h
  split at h
  ·rename_i u hu
   cases h
   cases hv with
   | tuple vs rs hc=>exact .tuple _ _ (Z4g hb _ _ _ hu hc)
  ·cases h
theorem Z26 {d:Nat} {E E':Env} (hb:∀x r,E.blk x=some r->E'.blk (d+x)=some r):∀(l l':List AV) (r:List Value),shC d l=some l'->Za E l r->Za E' l' r
 | [],l',r,h,hv=>by simp [shC] at h;subst h;cases hv;exact .nil
 | v::q,l',r,h,hv=>by
  unfold shC at h
  split at h
  ·rename_i heq;cases heq
  ·rename_i k n xs q' heq
   cases heq
   split at h
   ·rename_i u hu
    cases h
    obtain ⟨ws,rfl,ht⟩:=Za.cons_arr hv
    exact .arr _ _ _ _ _ (Z26 hb _ _ _ hu ht)
   ·cases h
  ·rename_i v0 q' hna heq
   cases heq
   split at h
   ·rename_i u us hu hus
    split at h
    ·rename_i hcell
     cases h
     obtain ⟨c,ws,rfl,q1,q2,q3,q4⟩:=Za.cons_cell hv (fun k m xs e=>hna k m xs e)
     exact .one _ _ _ _ hcell q2 (Z0i hb _ _ _ hu q3) (Z26 hb _ _ _ hus q4)
    ·cases h
   ·cases h
theorem Z4g {d:Nat} {E E':Env} (hb:∀x r,E.blk x=some r->E'.blk (d+x)=some r):∀(l l':List AV) (r:List Value),shL d l=some l'->Zc E l r->Zc E' l' r
 | [],l',r,h,hv=>by simp [shL] at h;subst h;cases hv;exact .nil
 | v::q,l',r,h,hv=>by
  unfold shL at h
  split at h
  ·rename_i u us hu hus
   cases h
   cases hv with
   | cons v c vs cs ha hb'=>exact .cons _ _ _ _ (Z0i hb _ _ _ hu ha) (Z4g hb _ _ _ hus hb')
  ·cases h
end
def Z15 (d:Nat):List (Nat×Blk)->List (Nat×Blk)
 | []=>[]
 | (x,B)::r=>(d+x,B)::Z15 d r
inductive WI:Blk->Prop
 | ints (k:IntKind) (xs:LI):WI (.ints k xs)
 | flat (cs:List AV) (h:plainC cs=true):WI (.flat cs)
 | rows (sz n:Nat) (f:Nat->List AV) (h:∀i,i<n->plainC (f i)=true):WI (.rows sz n f)
def U2 (nx:Nat):List (Nat×Blk)->Prop
 | []=>True
 | (x,B)::r=>x<nx/\WI B/\U2 nx r
theorem WI.move {w:World} {x y:Nat} (hp:WI B) (he:E'.blk y=E.blk x) (h:ZB E w x B):ZB E' w y B:=by
 cases h with
 | flat0 cs h0 hn=>exact .flat0 _ h0 (he.trans hn)
 | flat cs b cells elem fr vs hb hw hf hc hv=>cases hp with|flat _ h=>exact .flat _ b cells elem fr vs (he.trans hb) hw hf (hc.plain h) hv
 | ints0 k xs h0 hn=>exact .ints0 _ _ h0 (he.trans hn)
 | ints k xs b cells elem fr hb hw hf hv=>exact .ints _ _ b cells elem fr (he.trans hb) hw hf hv
 | rows0 sz n f h0 hn=>exact .rows0 _ _ _ h0 (he.trans hn)
 | rows sz n f b cells elem fr g hb hw hf hc hl hv=>cases hp with|rows _ _ _ h=>exact .rows _ _ _ b cells elem fr g (he.trans hb) hw hf (fun i hi=>(hc i hi).plain (h i hi)) hl hv
 | map es b ents clock hb hw hk hv hbn=>cases hp
 | fmap n kf vf b ents clock hb hw hl hk hv hbn=>cases hp
 | pmap es b k ents ents' clock hb hw hq hn hi hk hv=>cases hp
 | sfmap n kf vf key y b ents clock e hb hw hl hk hv hbn hs he=>cases hp
 | git m y js b mb clock bs seen hb hm hy hs hj hw=>cases hp
 | froz B y b ents clock hB hb hw hbn hy=>cases hp
 | smap es i y b ents clock s e hb hw hk hv hbn hs he hy=>cases hp
 | loop l b d N fnr tm hb hd hw ht=>cases hp
 | defd b hb hw=>cases hp
def Q1:List (Nat×Blk)->List (Nat×Blk)->List (Nat×Blk)
 | [],l=>l
 | p::r,l=>p::Q1 r l
theorem Z3j (a b:List (Nat×Blk)) (y:Nat):Zm (Q1 a b) y=match Zm a y with|some B=>some B|none=>Zm b y:=by
 induction a with
 | nil=>rfl
 | cons p r ih=>
  grind [Q1,Zm]
theorem Z2C {d:Nat}:∀(bs:List (Nat×Blk)) (y:Nat) (B:Blk),Zm (Z15 d bs) y=some B->∃x,y=d+x/\Zm bs x=some B
 | [],y,B,h=>by simp [Z15,Zm] at h
 | (z,C)::r,y,B,h=>by
  simp only [Z15,Zm] at h
  split at h
  ·rename_i hb
   have:=J0 hb
   cases h
   exact ⟨z,this.symm,by simp [Zm]⟩
  ·rename_i hb
   obtain ⟨x,rfl,hx⟩:=Z2C r y B h
   refine ⟨x,rfl, ?_⟩
   simp only [Zm]
   have:Nat.beq z x=false:=by
    cases hq:Nat.beq z x with
    | false=>rfl
    | true=>have:=J0 hq;subst this;simp [Jc] at hb
   rw [this]
   exact hx
theorem W0 {nx:Nat}:∀{bs:List (Nat×Blk)},U2 nx bs->∀x B,Zm bs x=some B->x<nx/\WI B
 | (z,C)::r,h,x,B,hx=>by
  obtain ⟨h1,h2,h3⟩:=h
  simp only [Zm] at hx
  split at hx
  ·simp_all
  ·exact W0 h3 x B hx
theorem Z4h {w:World}:Emb (E.bor none w true) ⟨0,[]⟩ w where
 fresh:=fun x _=>by cases x<;>rfl
 lt:=fun x B h=>by simp [Z1.get,Zm] at h
 own:=fun x B h=>by simp [Z1.get,Zm] at h
 disj:=fun x y B B' b N N' h=>by simp [Z1.get,Zm] at h
 imm:=fun a c h=>h.1
 sep:=fun a c x B N _ h=>by simp [Z1.get,Zm] at h
theorem Xq.calls {P:Program} {args₀:List AV} {v':AV} {bs:List (Nat×Blk)} {h:Z1} (hp:Xq P f args₀ v nx bs)
  (ha:∀(E:Env) (w:World) (rs:List Value),Emb E h w->Zc E args rs->Zc (E.bor none w true) args₀ rs)
  (hv:shV h.next v=some v') (hb:U2 nx bs) (hK:K (.ret v') ⟨h.next+nx,Q1 (Z15 h.next bs) h.bs⟩):Zj P f args h K:=by
 intro E w rs he hl
 refine (hp (E.bor none w true) w rs Z4h (ha E w rs he hl)).mono ?_
 rintro e w' ⟨E₁,r,rfl,hev,hr⟩
 let E':Env:=⟨fun x=>if x<h.next then E.blk x else E₁.blk (x-h.next),E.imm⟩
 have hE'old:∀x,x<h.next->E'.blk x=E.blk x:=fun x hx=>if_pos hx
 have hE'new:∀x,E'.blk (h.next+x)=E₁.blk x:=fun x=>by
  grind
 have hfresh:∀x,E.blk x≠none->x<h.next:=fun x hx=>by
  rcases Jk x h.next with hl|hg
  ·exact hl
  ·exact absurd (he.fresh x hg) hx
 have hle:E.le E':=⟨fun x q hx=>by rw [hE'old x (hfresh x (by rw [hx];simp))];exact hx,fun _ _ h=>h⟩
 have hkeep:∀b,b<w.heap.size->w'.heap[b]? =w.heap[b]?:=fun b hb=>hev.keep b hb (fun ⟨x,B,N,hx,_⟩=>by simp [Z1.get,Zm] at hx)
 have hlt:∀b o,w.heap[b]? =some o->b<w.heap.size:=fun b o ho=>by
  grind
 have hcell:∀a c,w.cell? a=some c->w'.cell? a=some c:=fun a c hc=>by
  grind [World.cell?]
 have hget:∀y B,Z1.get ⟨h.next+nx,Q1 (Z15 h.next bs) h.bs⟩ y=some B->(∃x,y=h.next+x/\Zm bs x=some B)\/(y<h.next/\h.get y=some B):=fun y B hy=>by
  simp only [Z1.get,Z3j] at hy
  split at hy
  ·simp_all [Z2C]
  ·exact .inr ⟨he.lt y B hy,hy⟩
 have hnewsz:∀x B b N,Zm bs x=some B->E₁.blk x=some (b,N)->w.heap.size<=b:=fun x B b N hx hb=>by
  rcases hev.own b ⟨x,B,N,hx,hb⟩ with ⟨z,C,M,hz,_⟩|hq
  all_goals simp_all [Z1.get,Zm]
 have hemb:Emb E' ⟨h.next+nx,Q1 (Z15 h.next bs) h.bs⟩ w':=by
  refine ⟨?_, ?_, ?_, ?_, ?_, ?_⟩
  ·intro x hx
   have hx':h.next+nx<=x:=hx
   obtain ⟨y,rfl⟩:=Nat.exists_eq_add_of_le (show h.next<=x by omega)
   rw [hE'new]
   exact hev.emb.fresh y (by simp_all)
  ·intro y B hy
   show y<h.next+nx
   rcases hget y B hy with ⟨x,rfl,hx⟩|⟨hlt',_⟩
   ·have:=(W0 hb x B hx).1;omega
   ·omega
  ·intro y B hy
   rcases hget y B hy with ⟨x,rfl,hx⟩|⟨hlt',hy'⟩
   ·exact (W0 hb x B hx).2.move (hE'new x) (hev.emb.own x B hx)
   ·have h1:=(he.own y B hy').mono hle (fun hn=>by rw [hE'old y hlt'];exact hn)
    refine h1.congr fun b N hbb=> ?_
    rw [hE'old y hlt'] at hbb
    exact hkeep b ((he.own y B hy').lt hbb)
  ·intro y z B C b N N' hy hz hby hbz
   rcases hget y B hy with ⟨x,rfl,hx⟩|⟨hly,hy'⟩<;>rcases hget z C hz with ⟨x',rfl,hx'⟩|⟨hlz,hz'⟩
   ·rw [hE'new] at hby hbz
    rw [hev.emb.disj x x' B C b N N' hx hx' hby hbz]
   ·rw [hE'new] at hby
    rw [hE'old z hlz] at hbz
    have:=hnewsz x B b N hx hby
    have:=(he.own z C hz').lt hbz
    omega
   ·rw [hE'new] at hbz
    rw [hE'old y hly] at hby
    have:=hnewsz x' C b N' hx' hbz
    have:=(he.own y B hy').lt hby
    omega
   ·rw [hE'old y hly] at hby
    rw [hE'old z hlz] at hbz
    exact he.disj y z B C b N N' hy' hz' hby hbz
  ·intro a c hi
   exact hcell a c (he.imm a c hi)
  ·intro a c y B N hi hy hbb
   rcases hget y B hy with ⟨x,rfl,hx⟩|⟨hly,hy'⟩
   ·rw [hE'new] at hbb
    have:=hnewsz x B _ N hx hbb
    have hc:=he.imm a c hi
    simp_all [World.cell?]
   ·rw [hE'old y hly] at hbb
    exact he.sep a c y B N hi hy' hbb
 refine ⟨E',.ret v',_,hK,⟨hle,hemb,hev.size,hev.os,hev.tape,hev.output,fun b hb' _=>hkeep b hb', ?_,fun _ _ h=>h⟩,.ret _ _ (Z0i (fun x q hx=>by rw [hE'new];exact hx) v v' r hv hr)⟩
 rintro b ⟨y,B,N,hy,hbb⟩
 rcases hget y B hy with ⟨x,rfl,hx⟩|⟨hly,hy'⟩
 ·grind
 ·rw [hE'old y hly] at hbb
  exact .inl ⟨y,B,N,hy',hbb⟩
theorem Xq.psumm {P:Program} {h:Z1} {d:Nat} {K:AV->Prop}
  (hl:YV none h true d args fun a₀=>∃v,Xq P f a₀ v 0 []/\(∀d,shV d v=some v)/\K v):Zj P f args h fun o h'=>∃v,o=.ret v/\h'=h/\K v:=by
 obtain ⟨a₀,⟨v,hp,hs,hK⟩,ha⟩:=Xp (fun x hx=>by cases hx) _ _ _ _ hl
 refine hp.calls (v':=v) (fun E w rs he hr=>ha E w rs he hr) (hs _) trivial ?_
 exact ⟨v,rfl,rfl,hK⟩
theorem Xq.fsumm {P:Program} {h:Z1} {d:Nat}
  (hl:YV none h true d args fun a₀=>∃v v' nx bs,Xq P f a₀ v nx bs/\shV h.next v=some v'/\U2 nx bs/\K (.ret v') ⟨h.next+nx,Q1 (Z15 h.next bs) h.bs⟩):Zj P f args h K:=by
 obtain ⟨a₀,⟨v,v',nx,bs,hp,hs,hb,hK⟩,ha⟩:=Xp (fun x hx=>by cases hx) _ _ _ _ hl
 exact hp.calls (fun E w rs he hr=>ha E w rs he hr) hs hb hK
noncomputable abbrev PP:Program:=Go.Proofs.Tryz.prog
noncomputable def G0:Zk:={ P:=PP,draw:=Z43 PP,psumm:=fun _=>none,fsumm:=fun _=>none,lsumm:=fun _ _=>none,fuel:=100}
theorem Yd:G0.Ok where
 draw:=fun _ _ _ _ _ _ hcx hro h _=>Z48 hcx hro h
 psumm:=fun _ _ _ _ _ h=>by simp [G0] at h
 fsumm:=fun _ _ _ _ _ h=>by simp [G0] at h
 lsumm:=fun _ _ _ _ _ _ h=>by simp [G0] at h
theorem tm {a n:Int} (h:0<=a):a.tmod n=a%n:=Int.tmod_eq_emod_of_nonneg h
def Z6F (st part:LI) (came:Int):Blk:=.flat [.arr .u32 8 st,.arr .u8 64 part,.int .i64 came,.bool true]
structure Z6f where
 st:LI
 part:LI
 came:Int
def Z6f.blk (r:Z6f):Blk:=Z6F r.st r.part r.came
theorem Z4.hash {k:IntKind} {n:Nat} {xs:LI} (h:Z4 E (.agg [.arr k n xs]) r):Z4 E' (.agg [.arr k n xs]) r:=by
 cases h with
 | agg cs vs hc=>exact .agg _ _ (hc.plain rfl)
theorem Z4.rows {esz n len:Nat} {f g:Nat->List AV} (h:Z4 E (.vrows esz n f len) r) (hfg:∀i,i<n->f i=g i):Z4 E (.vrows esz n g len) r:=by
 cases h with
 | vrowsNil esz n f len h1 h2=>exact .vrowsNil _ _ _ _ h1 h2
 | vrows esz n f len a cap q h1 h2 hc hl hi=>exact .vrows _ _ _ _ a cap q h1 h2 (fun i hi'=>hfg i hi'▸hc i hi') hl hi
structure InS where
 name:LI
 index:Int
 way:Int
 tag:LI
 also:LI
 secret:LI
structure Z0j where
 kind:Int
 amount:Int
 owner:LI
 other:LI
 point:LI
 hash:LI
 delay:Int
 expiry:Int
def InS.c (x:InS):List AV:=[.arr .u8 32 x.name,.int .i64 x.index,.int .i64 x.way,.arr .u8 32 x.tag,.arr .u8 32 x.also,.arr .u8 32 x.secret]
def Z0j.c (o:Z0j):List AV:=[.int .i64 o.kind,.int .i64 o.amount,.arr .u8 32 o.owner,.arr .u8 32 o.other,.arr .u8 32 o.point,.arr .u8 32 o.hash,.int .i64 o.delay,.int .i64 o.expiry]
def Z5a:List Nat->Nat->Option Nat
 | [],_=>none
 | y::r,x=>match Nat.beq y x with
  | true=>some 0
  | false=>match Z5a r x with|some i=>some (i+1)|none=>none
mutual
def vwV (σ:List Nat) (h:Z1) (t:Bool):Nat->AV->(AV->Prop)->Prop
 | 0,_,_=>False
 | d+1,v,K=>match v with
  | .top=>K .top
  | .bool b=>K (.bool b)
  | .int k n=>K (.int k n)
  | .str s=>K (.str s)
  | .ptr none=>K (.ptr none)
  | .eslice=>K .eslice
  | .fslice=>K .fslice
  | .nilslice=>K .nilslice
  | .map none=>K (.map none)
  | .nilFunc=>K .nilFunc
  | .nilIface=>K .nilIface
  | .pview cs inn=>K (.pview cs inn)
  | .vints k xs len=>K (.vints k xs len)
  | .vrows esz n f len=>K (.vrows esz n f len)
  | .ptr (some p)=>match Z5a σ p.blk with
   | some i=>match t with|false=>False|true=>K (.ptr (some ⟨i,p.row,p.sz,p.off,p.inn⟩))
   | none=>match h.get p.blk with
    | some (.flat cs)=>match p.row,ZF p.off cs with
     | 0,some rest=>vwC σ h false d rest fun rest'=>K (.pview rest' p.inn)
     | _,_=>False
    | some (.rows sz n f)=>match Nat.beq sz p.sz with
     | true=>Z8 (p.row<n) (match ZF p.off (f p.row) with
      | some rest=>vwC σ h false d rest fun rest'=>K (.pview rest' p.inn)
      | none=>False)
     | false=>False
    | _=>False
  | .nslice p esz len lo=>match Z5a σ p.blk with
   | some i=>match t with|false=>False|true=>K (.nslice ⟨i,p.row,p.sz,p.off,p.inn⟩ esz len lo)
   | none=>match h.get p.blk with
    | some (.ints k xs)=>match Nat.beq esz 1 with
     | true=>Z8 (p.tot+len<=xs.length) (K (.vints k ((WU p.tot xs).take len) len))
     | false=>False
    | some (.rows sz n f)=>match Nat.beq sz esz&&Nat.beq p.off 0&&Nat.beq p.inn 0&&(Nat.beq p.sz esz||Nat.beq p.row 0) with
     | true=>Z8 (p.row+len<=n) ((∀i,i<len->plainC (Ww p.row f i)=true)/\K (.vrows esz len (Ww p.row f) len))
     | false=>False
    | some (.flat cs)=>match p.row,ZF p.off cs with
     | 0,some rest=>match Z2A rest&&Nat.beq esz 1 with
      | true=>match rest with
       | .arr k n xs::_=>match Nat.beq esz 1,Nat.beq p.inn 0&&Nat.beq len n with
        | true,true=>Z8 (xs.length=n) (K (.vints k xs len))
        | true,false=>Z8 (xs.length=n/\p.inn+len<=n) (K (.vints k ((WU p.inn xs).take len) len))
        | false,_=>False
       | _=>False
      | false=>match Nat.beq p.inn 0,takeC (len*esz) rest with
       | true,some part=>vwC σ h false d part fun part'=>match Wv part' 0 esz len with
        | true=>K (.vrows esz len (Z2U part' 0 esz) len)
        | false=>False
       | _,_=>False
     | _,_=>False
    | _=>False
  | .func (.func g) fs cs=>vwL σ h t d fs fun fs'=>vwL σ h t d cs fun cs'=>K (.func (.func g) fs' cs')
  | .iface T u=>vwV σ h t d u fun u'=>K (.iface T u')
  | .agg cs=>vwC σ h t d cs fun cs'=>K (.agg cs')
  | .tuple vs=>vwL σ h t d vs fun vs'=>K (.tuple vs')
  | _=>False
def vwC (σ:List Nat) (h:Z1) (t:Bool):Nat->List AV->(List AV->Prop)->Prop
 | 0,_,_=>False
 | d+1,l,K=>match l with
  | []=>K []
  | .arr k n xs::r=>vwC σ h t d r fun r'=>K (.arr k n xs::r')
  | v::r=>vwV σ h t d v fun v'=>match v'.isCell with
   | true=>vwC σ h t d r fun r'=>K (v'::r')
   | false=>False
def vwL (σ:List Nat) (h:Z1) (t:Bool):Nat->List AV->(List AV->Prop)->Prop
 | 0,_,_=>False
 | d+1,l,K=>match l with
  | []=>K []
  | v::r=>vwV σ h t d v fun v'=>vwL σ h t d r fun r'=>K (v'::r')
end
def vwB (σ:List Nat) (h:Z1) (d:Nat) (B:Blk) (K:Blk->Prop):Prop:=
 match B with
 | .ints k xs=>K (.ints k xs)
 | .flat cs=>vwC σ h true d cs fun cs'=>match Nat.beq (csz cs') (csz cs) with|true=>K (.flat cs')|false=>False
 | .rows sz n f=>(∀i,i<n->plainC (f i)=true)/\K (.rows sz n f)
 | _=>False
def Z6g (σ:List Nat) (h:Z1) (d:Nat):List Nat->(List Blk->Prop)->Prop
 | [],K=>K []
 | x::r,K=>match h.get x with
  | some B=>vwB σ h d B fun B'=>Z6g σ h d r fun Bs=>K (B'::Bs)
  | none=>False
def hasB (h:Z1):List Nat->Bool
 | []=>true
 | x::r=>match h.get x with|some _=>hasB h r|none=>false
def Z5x:List Nat->Bool
 | []=>true
 | x::r=>match Z5a r x with|some _=>false|none=>Z5x r
def frA (σ:List Nat) (h:Z1) (d:Nat) (args:List AV) (K0:List Blk->List AV->Prop):Prop:=
 match hasB h σ&&Z5x σ with
 | true=>Z6g σ h d σ fun Bs=>vwL σ h true d args fun a=>K0 Bs a
 | false=>False
def Spec (P:Program) (f:FuncId) (args:List AV) (h0:Z1) (o:Out) (nx:Nat) (bs:List (Nat×Blk)):Prop:=
 ∀(E:Env) (w:World) (rs:List Value),Emb E h0 w->Zc E args rs->Calls P f rs.toArray w fun e w'=>∃E',Evo E h0 w E' ⟨nx,bs⟩ w'/\WA E' o e
theorem Z2D {k:Nat} {u:AV} {bs:List (Nat×Blk)} {h0 h:Z1} (hk:k=h0.next) (hl:Z2y k τ ⟨1,[(0,v)],⟨nx,bs⟩,[]⟩ ⟨1,[(0,u)],h,[]⟩ True) {E0:Env} {w0 w:World}
  (he0:Emb E0 h0 w0) (hev:Evo E0 h0 w0 E h w) (hr:Z4 E u r):∃E',Evo E0 h0 w0 E' ⟨nx,bs⟩ w/\Z4 E' v r:=by
 obtain ⟨_,hw⟩:=Z13 hl
 have hs:Xc E ⟨1,[(0,u)],h,[]⟩ { tmps:= #[r],defers:=[]} w:=by
  refine ⟨hev.emb,⟨rfl,fun x v' hx=> ?_⟩,.nil⟩
  simp only [Zd] at hx
  split at hx
  all_goals simp_all
 obtain ⟨E₂,hs2,hev2⟩:=hw E0 h0 w0 E _ w (fun x hx=>he0.fresh x (hk▸hx)) hs hev
 refine ⟨E₂,hev2, ?_⟩
 have:=hs2.tmps.get 0 v (by simp [Zd])
 simp_all
def mvN:List Nat->Nat->Nat->Nat
 | [],d,y=>d+y
 | x::_,_,0=>x
 | _::r,d,y+1=>mvN r d y
mutual
/-- Names moved. -/
def mvV (σ:List Nat) (d:Nat):AV->Option AV
 | .top=>some .top
 | .bool b=>some (.bool b)
 | .int k n=>some (.int k n)
 | .str s=>some (.str s)
 | .ptr none=>some (.ptr none)
 | .ptr (some p)=>some (.ptr (some ⟨mvN σ d p.blk,p.row,p.sz,p.off,p.inn⟩))
 | .nslice p esz len lo=>some (.nslice ⟨mvN σ d p.blk,p.row,p.sz,p.off,p.inn⟩ esz len lo)
 | .eslice=>some .eslice
 | .fslice=>some .fslice
 | .nilslice=>some .nilslice
 | .map none=>some (.map none)
 | .map (some x)=>some (.map (some (mvN σ d x)))
 | .nilFunc=>some .nilFunc
 | .nilIface=>some .nilIface
 | .func (.func g) fs cs=>match mvL σ d fs,mvL σ d cs with
  | some fs',some cs'=>some (.func (.func g) fs' cs')
  | _,_=>none
 | .iface t v=>match mvV σ d v with|some v'=>some (.iface t v')|none=>none
 | .agg cs=>match mvC σ d cs with|some cs'=>some (.agg cs')|none=>none
 | .tuple vs=>match mvL σ d vs with|some vs'=>some (.tuple vs')|none=>none
 | _=>none
def mvC (σ:List Nat) (d:Nat):List AV->Option (List AV)
 | []=>some []
 | .arr k n xs::r=>match mvC σ d r with|some r'=>some (.arr k n xs::r')|none=>none
 | v::r=>match mvV σ d v,mvC σ d r with
  | some v',some r'=>match v'.isCell with|true=>some (v'::r')|false=>none
  | _,_=>none
def mvL (σ:List Nat) (d:Nat):List AV->Option (List AV)
 | []=>some []
 | v::r=>match mvV σ d v,mvL σ d r with
  | some v',some r'=>some (v'::r')
  | _,_=>none
end
inductive MvB (σ:List Nat) (d:Nat):Blk->Blk->Prop
 | ints (k:IntKind) (xs:LI):MvB σ d (.ints k xs) (.ints k xs)
 | flat (cs cs':List AV) (h:mvC σ d cs=some cs'):MvB σ d (.flat cs) (.flat cs')
 | rows (sz n:Nat) (f:Nat->List AV) (h:∀i,i<n->plainC (f i)=true):MvB σ d (.rows sz n f) (.rows sz n f)
 | rowsM (sz n:Nat) (f f':Nat->List AV) (h:∀i,i<n->mvC σ d (f i)=some (f' i)):MvB σ d (.rows sz n f) (.rows sz n f')
 | pmap (es es':List (AV×AV)) (h1:mvL σ d (es.map (·.1))=some (es'.map (·.1))) (h2:mvL σ d (es.map (·.2))=some (es'.map (·.2))):MvB σ d (.pmap es) (.pmap es')
inductive Z4i (σ:List Nat) (d:Nat):List (Nat×Blk)->List (Nat×Blk)->Prop
 | nil:Z4i σ d [] []
 | cons (y x:Nat) (B B':Blk) (r r':List (Nat×Blk)) (hx:mvN σ d y=x) (h:MvB σ d B B') (t:Z4i σ d r r'):Z4i σ d ((y,B)::r) ((x,B')::r')
theorem Z4i.get {σ:List Nat} {d:Nat}:∀{bs bs':List (Nat×Blk)},Z4i σ d bs bs'->∀x B',Zm bs' x=some B'->∃y B,mvN σ d y=x/\Zm bs y=some B/\MvB σ d B B'
 | _,_,.nil,x,B',h=>by simp [Zm] at h
 | _,_,.cons y x0 B B0 r r' hx hm t,x,B',h=>by
  unfold Zm at h
  split at h
  ·grind [J0,Zm,Jc]
  ·obtain ⟨z,C,h1,h2,h3⟩:=t.get x B' h
   grind [Jc,Zm,Zh]
end Go.Tk
end
section
namespace Go.Tk
open IntKind (i64 u8 u32 u64 wrap)
def Z4j (id n l:Nat) (go ex re jm:Nat->Prop) (En Rn Jn:Nat->St):KE->Prop:=fun X=>
 ∀i,i<=n->(∀j,j<i->go j)->(ex i->X (.exit id) (En i))/\(re i->X .ret (Rn i))/\(jm i->X (.goto l) (Jn i))
theorem XA {p x:Prop} [Decidable p]:Z9 (decide p) x False=(p/\x):=by
 by_cases h:p
 all_goals simp_all [Z9]
theorem Z2E {p x:Prop} [Decidable p]:Z9 (decide p) False x=(¬p/\x):=by
 by_cases h:p
 all_goals simp_all [Z9]
theorem Z0k {p x y:Prop} [Decidable p]:Z9 (decide p) x y=((p->x)/\(¬p->y)):=by
 by_cases h:p
 all_goals simp_all [Z9]
theorem Z0l {b:Bool} {x:Prop}:Z9 b x False=(b=true/\x):=by cases b<;>simp [Z9]
theorem Z2F {b:Bool} {x:Prop}:Z9 b False x=(b=false/\x):=by cases b<;>simp [Z9]
theorem Z2G {b:Bool} {x y:Prop}:Z9 b x y=((b=true->x)/\(b=false->y)):=by cases b<;>simp [Z9]
def Z2H (b:Bool) (x:Prop):Prop:=Z9 b x False
theorem vcA:(∀(p x:Prop) [Decidable p],Z9 (decide p) x False=(p/\x))/\(∀(p x:Prop) [Decidable p],Z8 p x=(p/\x))/\(∀(p x:Prop) [Decidable p],Z2H (decide p) x=(p/\x))/\∀(p x:Prop) [Decidable p],Z9 (decide p) False x=(¬p/\x):=
 ⟨fun _ _ _=>XA,fun _ _ _=>XA,fun _ _ _=>XA,fun _ _ _=>Z2E⟩
theorem vcB:(∀(p x y:Prop) [Decidable p],Z9 (decide p) x y=((p->x)/\(¬p->y)))/\(∀(b:Bool) (x:Prop),Z9 b x False=(b=true/\x))/\(∀(b:Bool) (x:Prop),Z2H b x=(b=true/\x))/\∀(b:Bool) (x:Prop),Z9 b False x=(b=false/\x):=
 ⟨fun _ _ _ _=>Z0k,fun _ _=>Z0l,fun _ _=>Z0l,fun _ _=>Z2F⟩
theorem Z6X:(∀(p x:Prop) [Decidable p],Z9 (decide p) x False=(p/\x))/\(∀(p x:Prop) [Decidable p],Z8 p x=(p/\x))/\(∀(p x:Prop) [Decidable p],Z2H (decide p) x=(p/\x))/\(∀(b:Bool) (x:Prop),Z2H b x=Z9 b x False):=
 ⟨fun _ _ _=>XA,fun _ _ _=>XA,fun _ _ _=>XA,fun _ _=>rfl⟩
theorem Z6Y:∀(p x y:Prop) [Decidable p],Z9 (decide p) x y=((p->x)/\(¬p->y)):=fun _ _ _ _=>Z0k
theorem vcC:(∀(b:Bool) (x y:Prop),Z9 b x y=((b=true->x)/\(b=false->y)))/\(∀n:Nat,((n:Int)).toNat=n)/\(∀n:Nat,0+n=n)/\(∀p:Prop,(True/\p)=p)/\(∀p:Prop,(p/\True)=p)/\∀n:Nat,(n<=n)=True:=
 ⟨fun _ _ _=>Z2G,Int.toNat_natCast,Jr,true_and,and_true,fun n=>eq_true (J4 n)⟩
theorem Xq.vints0 {P:Program} {f:FuncId} {k:IntKind} {v:AV} {nx:Nat} {bs:List (Nat×Blk)} (h1:Xq P f [.nilslice] v nx bs) (h2:Xq P f [.fslice] v nx bs):Xq P f [.vints k [] 0] v nx bs:=by
 intro E w rs he hr
 cases hr with
 | cons v r vs rs hv ht=>cases ht with
  | nil=>cases hv with
   | vintsNil k xs len _ _=>exact h1 E w _ he (.cons _ _ _ _ .nilslice .nil)
   | vints k xs len a cap _ _ _=>exact h2 E w _ he (.cons _ _ _ _ (.fslice a cap) .nil)
end Go.Tk
namespace Go.Tk
open IntKind (i64 u8 u32 u64 wrap)
mutual
theorem WJ {mv:Option Nat} {h:Z1}:∀(d:Nat) (t:Bool) (v:AV) (K K':AV->Prop),Wp mv h t d v K->(∀a,K a->K' a)->Wp mv h t d v K'
 | 0,t,v,K,K',hl,hK=>by unfold Wp at hl;simp_all
 | d+1,t,v,K,K',hl,hK=>by
  unfold Wp at hl⊢
  split at hl
  all_goals try exact hK _ hl
  all_goals try exact hl.elim
  ·split at hl
   ·split at hl
    ·exact hl.elim
    ·exact hK _ hl
   ·split at hl
    ·split at hl
     ·exact Yp _ _ _ _ _ hl fun _ h=>hK _ h
     ·exact hl.elim
    ·split at hl
     ·obtain ⟨h1,h2⟩:=Z5 hl
      refine WL h1 ?_
      split at h2
      ·exact Yp _ _ _ _ _ h2 fun _ h=>hK _ h
      ·exact h2.elim
     ·exact hl.elim
    ·exact hl.elim
  ·split at hl
   ·split at hl
    ·exact hl.elim
    ·exact hK _ hl
   ·split at hl
    ·split at hl
     ·obtain ⟨h1,h2⟩:=Z5 hl
      exact WL h1 (hK _ h2)
     ·exact hl.elim
    ·split at hl
     ·obtain ⟨h1,h2,h3⟩:=Z5 hl
      exact WL h1 ⟨h2,hK _ h3⟩
     ·exact hl.elim
    ·split at hl
     ·split at hl
      ·split at hl
       ·split at hl
        ·obtain ⟨h1,h2⟩:=Z5 hl
         exact WL h1 (hK _ h2)
        ·obtain ⟨h1,h2⟩:=Z5 hl
         exact WL h1 (hK _ h2)
        ·exact hl.elim
       ·exact hl.elim
      ·split at hl
       ·refine Yp _ _ _ _ _ hl fun _ h=> ?_
        split at h
        ·exact hK _ h
        ·exact h.elim
       ·exact hl.elim
     ·exact hl.elim
    ·exact hl.elim
  ·exact Yq _ _ _ _ _ hl fun _ h=>Yq _ _ _ _ _ h fun _ h=>hK _ h
  ·exact WJ _ _ _ _ _ hl fun _ h=>hK _ h
  ·exact Yp _ _ _ _ _ hl fun _ h=>hK _ h
  ·exact Yq _ _ _ _ _ hl fun _ h=>hK _ h
theorem Yp {mv:Option Nat} {h:Z1}:∀(d:Nat) (t:Bool) (l:List AV) (K K':List AV->Prop),Xn mv h t d l K->(∀a,K a->K' a)->Xn mv h t d l K'
 | 0,t,l,K,K',hl,hK=>by unfold Xn at hl;simp_all
 | d+1,t,l,K,K',hl,hK=>by
  unfold Xn at hl⊢
  split at hl
  ·exact hK _ hl
  ·exact Yp _ _ _ _ _ hl fun _ h=>hK _ h
  ·refine WJ _ _ _ _ _ hl fun _ h=> ?_
   split at h
   ·exact Yp _ _ _ _ _ h fun _ h=>hK _ h
   ·exact h.elim
theorem Yq {mv:Option Nat} {h:Z1}:∀(d:Nat) (t:Bool) (l:List AV) (K K':List AV->Prop),YV mv h t d l K->(∀a,K a->K' a)->YV mv h t d l K'
 | 0,t,l,K,K',hl,hK=>by unfold YV at hl;simp_all
 | d+1,t,l,K,K',hl,hK=>by
  unfold YV at hl⊢
  split at hl
  ·exact hK _ hl
  ·exact WJ _ _ _ _ _ hl fun _ h=>Yq _ _ _ _ _ h fun _ h=>hK _ h
end
end Go.Tk
end
section
namespace Go.Tk
open IntKind (i64 u8 u32 u64 wrap)
def Z5R (g:Nat->InS):Nat->List AV:=fun q=>(g q).c
def Z5b (g:Nat->Z0j):Nat->List AV:=fun q=>(g q).c
theorem InS.plainC (x:InS):plainC x.c=true:=rfl
theorem Z0j.plainC (x:Z0j):plainC x.c=true:=rfl
theorem InS.cells (x:InS):∀v∈x.c,v.isCell=true\/∃k n xs,v=.arr k n xs:=by simp [InS.c,AV.isCell]
theorem Z0j.cells (x:Z0j):∀v∈x.c,v.isCell=true\/∃k n xs,v=.arr k n xs:=by simp [Z0j.c,AV.isCell]
theorem Z4.rows0 {E:Env} {esz:Nat} {f:Nat->List AV} {r:Value} {a:Option Addr} {c:Nat} (h:r=.slice a 0 c) (hc:a=none->c=0):Z4 E (.vrows esz 0 f 0) r:=by
 subst h
 cases a with
 | none=>rw [hc rfl];exact .vrowsNil _ _ _ _ rfl rfl
 | some a=>exact .vrows _ _ _ _ a c (fun _=>[]) (J4 _) (JQ _) (fun i h=>by omega) (fun i h=>by omega) (fun i j c h=>by omega)
structure TxS where
 num:Int
 N:Nat
 ins:Nat->InS
 M:Nat
 outs:Nat->Z0j
def TxS.c (t:TxS):List AV:=[.int .i64 t.num,.vrows 130 t.N (Z5R t.ins) t.N,.vrows 132 t.M (Z5b t.outs) t.M]
end Go.Tk
end
section
namespace Go.Tk
open IntKind (i64 u8 u32 u64 wrap)
def Z16 (k:Nat) (τ:Ren) (y x:Nat):Ren:=match Nat.blt y k with
 | true=>τ
 | false=>match Z20 τ y with
  | some _=>τ
  | none=>(y,x)::τ
mutual
def Z5S (k:Nat) (τ:Ren):AV->AV->Ren
 | .ptr (some q),v=>match v with|.ptr (some p)=>Z16 k τ q.blk p.blk|_=>τ
 | .nslice q _ _ _,v=>match v with|.nslice p _ _ _=>Z16 k τ q.blk p.blk|_=>τ
 | .map (some y),v=>match v with|.map (some x)=>Z16 k τ y x|_=>τ
 | .yield y,v=>match v with|.yield x=>Z16 k τ y x|_=>τ
 | .func _ fs cs,v=>match v with|.func _ fs' cs'=>Vv k (Vv k τ fs fs') cs cs'|_=>τ
 | .iface _ u,v=>match v with|.iface _ u'=>Z5S k τ u u'|_=>τ
 | .agg cs,v=>match v with|.agg cs'=>Vv k τ cs cs'|_=>τ
 | .tuple cs,v=>match v with|.tuple cs'=>Vv k τ cs cs'|_=>τ
 | _,_=>τ
def Vv (k:Nat) (τ:Ren):List AV->List AV->Ren
 | [],_=>τ
 | v::r,l=>match l with|v'::r'=>Vv k (Z5S k τ v v') r r'|[]=>τ
end
def Z6G (k:Nat) (τ:Ren):Blk->Blk->Ren
 | .flat cs,B=>match B with|.flat cs'=>Vv k τ cs cs'|_=>τ
 | .map es,B=>match B with|.map es'=>Vv k (Vv k τ (es.map (·.1)) (es'.map (·.1))) (es.map (·.2)) (es'.map (·.2))|_=>τ
 | .pmap es,B=>match B with|.pmap es'=>Vv k (Vv k τ (es.map (·.1)) (es'.map (·.1))) (es.map (·.2)) (es'.map (·.2))|_=>τ
 | .git m y _,B=>match B with|.git m' y' _=>Z16 k (Z16 k τ m m') y y'|_=>τ
 | .froz C y,B=>match B with|.froz C' y'=>Z16 k (infZ C C') y y'|_=>τ
 | _,_=>τ
where infZ (C C':Blk):Ren:=match C with
 | .map es=>match C' with|.map es'=>Vv k (Vv k τ (es.map (·.1)) (es'.map (·.1))) (es.map (·.2)) (es'.map (·.2))|_=>τ
 | _=>τ
def Z6h (k:Nat) (t:Zn):Zn->Ren->Ren
 | [],τ=>τ
 | (x,v)::r,τ=>Z6h k t r (match Zd t x with|some u=>Z5S k τ v u|none=>τ)
def Z5T (k:Nat):List XN->List XN->Ren->Ren
 | .call _ a::r,l,τ=>match l with|.call _ b::r'=>Z5T k r r' (Vv k τ a b)|_=>τ
 | .mark y::r,l,τ=>match l with|.mark x::r'=>Z5T k r r' (Z16 k τ y x)|_=>τ
 | [],_,τ=>τ
def Z5c (k:Nat) (bs:List (Nat×Blk)):List (Nat×Blk)->Ren->Ren
 | [],τ=>τ
 | (y,B)::r,τ=>Z5c k bs r (match rn k τ y with
  | some x=>match Zm bs x with|some C=>Z6G k τ B C|none=>τ
  | none=>τ)
def Z6H (k:Nat) (s₂ s:St):Ren:=Z5c k s.h.bs s₂.h.bs (Z5c k s.h.bs s₂.h.bs (Z5c k s.h.bs s₂.h.bs (Z5T k s₂.d s.d (Z6h k s.t s₂.t []))))
def VL (k:Nat) (s₂ s:St) (Z:Prop):Prop:=Z2y k (Z6H k s₂ s) s₂ s Z
theorem W1 {k:Nat} {s₂ s:St} {Z:Prop} (hl:VL k s₂ s Z):Z/\Z12 k s s₂:=Z13 hl
def Z3k (k:Nat) (o:Out) (nx:Nat) (bs:List (Nat×Blk)):KO:=fun o' h=>match o with
 | .ret v=>match o' with
  | .ret u=>VL k ⟨1,[(0,v)],⟨nx,bs⟩,[]⟩ ⟨1,[(0,u)],h,[]⟩ True
  | .panic _=>False
 | .panic v=>match o' with
  | .panic u=>VL k ⟨1,[(0,v)],⟨nx,bs⟩,[]⟩ ⟨1,[(0,u)],h,[]⟩ True
  | .ret _=>False
theorem Spec.evM {G:Zk} (hG:G.Ok) {n:Nat} {f:FuncId} {args:List AV} {h0:Z1} {o:Out} {nx:Nat} {bs:List (Nat×Blk)} (h:evF G n f args h0 (Z3k h0.next o nx bs)):Spec G.P f args h0 o nx bs:=by
 intro E w rs he hl
 refine (Z1W hG h E w rs he hl).mono ?_
 rintro e w' ⟨E',o',h',hK,hev,hor⟩
 unfold Z3k at hK
 cases o with
 | ret v=>
  cases hor with
  | ret u r hr=>
   obtain ⟨E₂,h1,h2⟩:=Z2D rfl hK he hev hr
   exact ⟨E₂,h1,.ret _ _ h2⟩
  | panic u r hr=>simp_all
 | panic v=>
  cases hor with
  | panic u r hr=>
   obtain ⟨E₂,h1,h2⟩:=Z2D rfl hK he hev hr
   exact ⟨E₂,h1,.panic _ _ h2⟩
  | ret u r hr=>simp_all
theorem Spec.pure {P:Program} {f:FuncId} {args:List AV} {v:AV} {nx:Nat} {bs:List (Nat×Blk)} (h:Spec P f args ⟨0,[]⟩ (.ret v) nx bs):Xq P f args v nx bs:=by
 intro E w rs he hl
 refine (h E w rs he hl).mono ?_
 rintro e w' ⟨E',hev,hor⟩
 cases hor with
 | ret v r hr=>grind
theorem Xq.evM {G:Zk} (hG:G.Ok) {n:Nat} {f:FuncId} {args:List AV} {v:AV} {nx:Nat} {bs:List (Nat×Blk)} (h:evF G n f args ⟨0,[]⟩ (Z3k 0 (.ret v) nx bs)):Xq G.P f args v nx bs:=(Spec.evM hG h).pure
def goM (k:Nat) (S0:St) (C:Prop) (ends:KE->Prop):Nat->St->KE->Prop:=fun k' s X=>match Nat.beq k' k with
 | true=>VL k S0 s (C/\ends X)
 | false=>False
def rdM (k id l:Nat) (S1 En Rn Jn:St) (go ex re jm:Prop):KE:=fun e s=>match e with
 | .normal=>VL k S1 s go
 | .exit x=>(match Nat.beq x id with|true=>VL k En s ex|false=>False)
 | .ret=>VL k Rn s re
 | .goto x=>(match Nat.beq x l with|true=>VL k Jn s jm|false=>False)
 | .panic _=>False
theorem Zk.withGoM {G:Zk} (hG:G.Ok) {f:FuncId} {id k N n l:Nat} {S En Rn Jn:Nat->St} {S0:St} {C:Prop} {go ex re jm:Nat->Prop} (h1:Va G.P f id=true) (hC:C->S 0=S0/\
   ∀i,i<=n->(∀j,j<i->go j)->UZ G N f id k (S i) (rdM k id l (S (i+1)) (En i) (Rn i) (Jn i) (go i/\i<n) (ex i) (re i) (jm i))):
  (G.withL f id (goM k S0 C (Z4j id n l go ex re jm En Rn Jn))).Ok:=by
 refine Zk.withL_ok hG h1 ?_
 intro k' s X hl
 unfold goM at hl
 split at hl
 ·rename_i hk
  have:=J0 hk
  subst this
  obtain ⟨⟨hc,hX⟩,hw⟩:=W1 hl
  obtain ⟨e0,hr⟩:=hC hc
  refine ⟨{ t:Nat//t<=n/\∀j,j<t->go j},fun t=>n-t.1,fun t=>S t.1,⟨0,JQ _,fun j hj=>by omega⟩,N,by simp_all, ?_⟩
  rintro ⟨t,ht,hgo⟩
  refine ⟨_,hr t ht hgo, ?_⟩
  intro e s' hY
  unfold rdM at hY
  split at hY
  ·obtain ⟨⟨hg,hlt⟩,hw'⟩:=W1 hY
   refine ⟨⟨t+1,hlt,fun j hj=> ?_⟩,by show n-(t+1)<n-t;omega,hw'⟩
   grind
  ·split at hY
   ·rename_i hi
    have:=J0 hi
    subst this
    obtain ⟨hex,hw'⟩:=W1 hY
    exact ⟨_,hw',(hX t ht hgo).1 hex⟩
   simp_all
  ·obtain ⟨hre,hw'⟩:=W1 hY
   exact ⟨_,hw',(hX t ht hgo).2.1 hre⟩
  ·split at hY
   ·rename_i hi
    have:=J0 hi
    subst this
    obtain ⟨hjm,hw'⟩:=W1 hY
    exact ⟨_,hw',(hX t ht hgo).2.2 hjm⟩
   ·exact hY.elim
  ·exact hY.elim
 ·exact hl.elim
end Go.Tk
namespace Go.Tk
open IntKind (i64 u8 u32 u64 wrap)
theorem Zk.withL_join {G H:Zk} (hG:G.Ok) (hP:G.P=H.P) {f:FuncId} {id:Nat} {S:Nat->St->KE->Prop} (h:(H.withL f id S).Ok):(G.withL f id S).Ok where
 draw:=hG.draw
 psumm:=hG.psumm
 fsumm:=hG.fsumm
 lsumm:=fun f' id' S' fn c body hS hf hb hm k s X hs=>by
  simp only [Zk.withL] at hS
  split at hS
  ·have:=h.lsumm f' id' S' fn c body
   simp_all [Zk.withL]
  ·exact hG.lsumm f' id' S' fn c body hS hf hb hm k s X hs
end Go.Tk
end
section
namespace Go.Tk
open IntKind (i64 u8 u32 u64 wrap)
variable {q10 q18:Int} {A u:Nat} {f:FuncId} {args:List AV} {K R:AV->Prop}
def Z6Z (W:Int->LI):Qq:=fun args h K=>match args with
 | [.nslice ⟨b,0,_,0,0⟩ 1 _ _,.int .i64 _]=>frA [b] h 20 args fun Bs a=>match Bs,a with
  | [.ints .u8 xs],[.nslice ⟨0,0,_,0,0⟩ 1 len _,.int .i64 n]=>Z8 (xs.length=len/\len<90000000000000) (K (.ret (.nslice ⟨h.next,0,0,0,0⟩ 1 (xs++W n).length (xs++W n).length)) ⟨h.next+1,(h.next,.ints .u8 (xs++W n))::QH h.bs b⟩)
  | _,_=>False
 | [.nilslice,.int .i64 n]=>K (.ret (.nslice ⟨h.next,0,0,0,0⟩ 1 (W n).length (W n).length)) ⟨h.next+1,(h.next,.ints .u8 (W n))::h.bs⟩
 | _=>False
theorem Z4k (x:Int) (xs:LI) (N:Nat) (hN:(x::xs).length=N) (hB:N<90000000000000):
  evF G0 20 94 [.vints .u8 (x::xs) N] ⟨0,[]⟩ (Z3k 0 (.ret (.nslice ⟨0,0,0,0,0⟩ 1 N N)) 1 [(0,.ints .u8 (x::xs))]):=by
 refine @Eq.mpr _ (let b:=[]++List.take N (x::xs);let a:=b.length;
 Z8 (a*1<=140737488355328) (Z8 (a=N) (Z8 (N<=a) (b=x::xs/\True)))) (by kernel_rfl) ?_
 conv=>zeta
 try simp only [vcA]
 try simp only [vcB]
 try simp only [vcC]
 subst hN
 simp only [List.nil_append,List.take_length]
 and_intros<;>first|trivial|omega
theorem Z4l (u:Unit) :
  evF G0 20 94 [.nilslice] ⟨0,[]⟩ (Z3k 0 (.ret (.nslice ⟨0,0,0,0,0⟩ 1 0 0)) 1 [(0,.ints .u8 [])]):=by
 refine @Eq.mpr _ (([]:LI)=[]/\True) (by kernel_rfl) ?_
 trivial
theorem Z4m (u:Unit) :
  evF G0 20 94 [.fslice] ⟨0,[]⟩ (Z3k 0 (.ret (.nslice ⟨0,0,0,0,0⟩ 1 0 0)) 1 [(0,.ints .u8 [])]):=by
 refine @Eq.mpr _ (([]:LI)=[]/\True) (by kernel_rfl) ?_
 trivial
theorem Z17 (xs:LI) (N:Nat) (hN:xs.length=N) (hB:N<90000000000000):Xq PP 94 [.vints .u8 xs N] (.nslice ⟨0,0,0,0,0⟩ 1 N N) 1 [(0,.ints .u8 xs)]:=by
 cases xs with
 | nil=>subst hN;exact Xq.vints0 (.evM Yd (Z4l ())) (.evM Yd (Z4m ()))
 | cons x r=>exact .evM Yd (Z4k x r N hN hB)
def Z2I:Qq:=fun args h K=>YV none h true 20 args fun a=>match a with
 | [.vints .u8 xs n]=>Z8 (xs.length=n/\n<90000000000000) (K (.ret (.nslice ⟨h.next,0,0,0,0⟩ 1 n n)) ⟨h.next+1,(h.next,.ints .u8 xs)::h.bs⟩)
 | _=>False
theorem Z27 (args:List AV) (h:Z1) (K:KO) (hl:Z2I args h K):Zj PP 94 args h K:=by
 refine Xq.fsumm (d:=20) (Yq _ _ _ _ _ hl fun a ha=> ?_)
 split at ha
 ·obtain ⟨⟨h1,h2⟩,hK⟩:=Z5 ha
  exact ⟨_,_,_,_,Z17 _ _ h1 h2,rfl,⟨Nat.one_pos,.ints _ _,trivial⟩,hK⟩
 simp_all
theorem Vb (x:Int):u64.wrap x=x%18446744073709551616:=by
 unfold wrap
 simp [IntKind.bits,IntKind.signed]
theorem Vc {x:Int} (h0: -9223372036854775808<=x) (h1:x<9223372036854775808):i64.wrap x=x:=by
 unfold wrap
 simp [IntKind.bits,IntKind.signed]
 omega
theorem Z6i (x n:Nat) (hn:n<=64):Ya .u64 x n=((x/2^n:Nat):Int):=by
 unfold Ya
 have:min (n:Int).toNat u64.bits=n:=by simp [IntKind.bits];omega
 rw [this,Int.fdiv_eq_ediv_of_nonneg _ (Int.le_of_lt (Int.pow_pos (by decide)))]
 simp
theorem Z6I (x n:Nat) (hn:n<=64):WW .u64 x n=((x*2^n%18446744073709551616:Nat):Int):=by
 unfold WW
 have:min (n:Int).toNat u64.bits=n:=by simp [IntKind.bits];omega
 rw [this,Vb,show (x:Int)*2^n=((x*2^n:Nat):Int) by push_cast;rfl]
 omega
theorem Z6J (x y:Nat) (hx:x<18446744073709551616) (hy:y<18446744073709551616):XC .u64 x y=((x&&&y:Nat):Int):=by
 unfold XC
 rw [Vb]
 show (((BitVec.ofInt 64 (x:Int)&&&BitVec.ofInt 64 (y:Int)).toNat:Nat):Int)%_=_
 rw [BitVec.toNat_and,BitVec.ofInt_natCast,BitVec.ofInt_natCast,BitVec.toNat_ofNat,BitVec.toNat_ofNat,JG hx,JG hy]
 have:x&&&y<=x:=Nat.and_le_left
 omega
theorem orU (x y:Nat) (hx:x<18446744073709551616) (hy:y<18446744073709551616):bOr .u64 x y=((x|||y:Nat):Int):=by
 unfold bOr
 rw [Vb]
 show (((BitVec.ofInt 64 (x:Int)|||BitVec.ofInt 64 (y:Int)).toNat:Nat):Int)%_=_
 rw [BitVec.toNat_or,BitVec.ofInt_natCast,BitVec.ofInt_natCast,BitVec.toNat_ofNat,BitVec.toNat_ofNat,JG hx,JG hy]
 have:x|||y<2^64:=Nat.or_lt_two_pow (n:=64) (by omega) (by omega)
 omega
theorem Z4n (x:Nat) (hx:x<18446744073709551616):XC .u64 x 4294967295=((x%4294967296:Nat):Int):=by
 have:=Z6J x 4294967295 hx (by omega)
 rw [show ((4294967295:Nat):Int)=4294967295 from rfl] at this
 rw [this,show (4294967295:Nat)=2^32-1 from rfl,Nat.and_two_pow_sub_one_eq_mod]
theorem Vw (x:Nat):Ya .u64 x 32=((x/4294967296:Nat):Int):=by
 have:=Z6i x 32 (by omega)
 rw [show ((32:Nat):Int)=32 from rfl] at this
 exact this
def Q2 (x y:Int):Int:=
 let w:=u64.wrap (u64.wrap (Ya .u64 x 32*XC .u64 y 4294967295)+Ya .u64 (u64.wrap (XC .u64 x 4294967295*XC .u64 y 4294967295)) 32)
 u64.wrap (u64.wrap (u64.wrap (Ya .u64 x 32*Ya .u64 y 32)+Ya .u64 w 32)+Ya .u64 (u64.wrap (XC .u64 w 4294967295+u64.wrap (XC .u64 x 4294967295*Ya .u64 y 32))) 32)
theorem Z4o (x y:Nat) (hx:x<=1125899906842624) (hy:y<=1000000):Q2 x y=((x*y/18446744073709551616:Nat):Int):=by
 unfold Q2
 have hP:x/4294967296*y<=262144*1000000:=JP (by omega) hy
 have hQ:x%4294967296*y<=4294967295*1000000:=JP (by omega) hy
 have hxy:x*y=x/4294967296*y*4294967296+x%4294967296*y:=by
  conv=>lhs;rw [<-Nat.div_add_mod x 4294967296]
  rw [JE,Nat.mul_comm 4294967296,JH]
 rw [hxy]
 rw [Vw x,Vw y,Z4n x (by omega),Z4n y (by omega),Nat.div_eq_of_lt (show y<4294967296 by omega),JG (show y<4294967296 by omega)]
 simp only [<-Int.natCast_mul,Nat.mul_zero,Vb]
 generalize x/4294967296*y=p at*
 generalize x%4294967296*y=q at*
 have e1:((q:Nat):Int)%18446744073709551616=q:=by omega
 have e2:((p:Nat):Int)%18446744073709551616=p:=by omega
 rw [e1,e2,Vw q]
 have e3:(((p:Nat):Int)+((q/4294967296:Nat):Int))%18446744073709551616=((p+q/4294967296:Nat):Int):=by omega
 rw [e3,Vw,Z4n _ (by omega)]
 have e4:(((p+q/4294967296)%4294967296:Nat):Int)+((0:Nat):Int)%18446744073709551616=(((p+q/4294967296)%4294967296:Nat):Int):=by omega
 rw [e4]
 have e5:(((p+q/4294967296)%4294967296:Nat):Int)%18446744073709551616=(((p+q/4294967296)%4294967296:Nat):Int):=by omega
 rw [e5,Vw]
 omega
structure DvE (x y c q4 q7 q8 q9 q10 q16 q11 q13 q14 q26 q17 q18:Int):Prop where
 ha:c=1000000
 hb:q4=44
 hd:q7=WW .u64 c q4
 he:q8=Ya .u64 q7 32
 hf:q9=bOr .u64 (WW .u64 x q4) (Ya .u64 y (u64.wrap (64-q4)))
 hg:q10=u64.wrap (Int.tdiv q9 q8)
 hh:q11=WW .u64 y q4
 hi:q13=Ya .u64 q11 32
 hj:q14=XC .u64 q11 4294967295
 hk:q16=u64.wrap (q9-u64.wrap (q10*q8))
 hl:q17=u64.wrap (u64.wrap (u64.wrap (q9*4294967296)+q13)-u64.wrap (q10*q7))
 hm:q18=u64.wrap (Int.tdiv q17 q8)
 hn:q26=u64.wrap (q17-u64.wrap (q18*q8))
theorem Z4p (x:Nat):WW .u64 x 44=((x*17592186044416%18446744073709551616:Nat):Int):=by
 have:=Z6I x 44 (by omega)
 simpa using this
theorem Z5U (x:Nat):Ya .u64 x 20=((x/1048576:Nat):Int):=by
 have:=Z6i x 20 (by omega)
 simpa using this
theorem Z6K (x y:Nat) (hx:x<1000000) (hy:y<17592186044416):bOr .u64 ((x*17592186044416:Nat):Int) (y:Int)=((x*17592186044416+y:Nat):Int):=by
 rw [orU _ _ (by omega) (by omega)]
 have h:x<<<44+y=x<<<44|||y:=Nat.shiftLeft_add_eq_or_of_lt (by simpa using hy) x
 rw [Nat.shiftLeft_eq] at h
 have e:(2:Nat)^44=17592186044416:=by decide
 rw [e] at h
 rw [h]
theorem Z6j (n m A:Nat) (hn:n<1000000) (hm:m<18446744073709551616) (hA:A=n*17592186044416+m/1048576):A<18446744073709551616/\A/4096000000<4294967296:=by
 constructor<;>omega
theorem Z6k (A u:Nat) (hu:u<1048576):(A%4096000000*4294967296+u*4096)/4096000000<4294967296:=by omega
theorem Z6L (n m A u:Nat) (hA:A=n*17592186044416+m/1048576) (hu:u=m%1048576):
  A/4096000000*4294967296+(A%4096000000*4294967296+u*4096)/4096000000=(n*18446744073709551616+m)/1000000:=by
 subst hA hu
 omega
theorem Z5y:WW .u64 1000000 44=17592186044416000000:=by decide
theorem Z6l:Ya .u64 17592186044416000000 32=4096000000:=by decide
theorem Z6m:u64.wrap (64-44)=20:=by decide
theorem Z6M (n m A:Nat) (q9:Int) (hn:n<1000000) (hm:m<18446744073709551616) (hA:A=n*17592186044416+m/1048576) (hf:q9=bOr .u64 (WW .u64 n 44) (Ya .u64 m 20)):q9=(A:Int):=by
 have h1:n*17592186044416%18446744073709551616=n*17592186044416:=JG (by omega)
 rw [hf,Z4p n,Z5U m,h1,Z6K n _ hn (by omega),hA]
theorem Z6N (m u:Nat) (q11 q13:Int) (hu:u=m%1048576) (hh:q11=WW .u64 m 44) (hi:q13=Ya .u64 q11 32):q13=((u*4096:Nat):Int):=by
 rw [hi,hh,Z4p m,Vw,hu]
 omega
theorem Z6n (A:Nat) (q10:Int) (d:A/4096000000<4294967296) (hg:q10=u64.wrap (Int.tdiv (A:Int) 4096000000)):q10=((A/4096000000:Nat):Int):=by
 rw [JD (by omega),Vb] at hg
 omega
theorem Z6O (A u:Nat) (q17:Int) (hu:u<1048576) (hl:q17=u64.wrap (u64.wrap (u64.wrap ((A:Int)*4294967296)+((u*4096:Nat):Int))-u64.wrap (((A/4096000000:Nat):Int)*17592186044416000000))):q17=((A%4096000000*4294967296+u*4096:Nat):Int):=by
 simp only [Vb] at hl
 omega
theorem DvE.vals {x y c q4 q7 q8 q9 q16 q11 q13 q14 q26 q17:Int} (D:DvE x y c q4 q7 q8 q9 q10 q16 q11 q13 q14 q26 q17 q18) {n m:Nat} (hx:x=n) (hy:y=m) (hn:n<1000000) (hm:m<18446744073709551616)
  (hAe:A=n*17592186044416+m/1048576) (hue:u=m%1048576):
  q8=4096000000/\q10=((A/4096000000:Nat):Int)/\q18=(((A%4096000000*4294967296+u*4096)/4096000000:Nat):Int):=by
 obtain ⟨hD,d1⟩:=Z6j n m A hn hm hAe
 have hu1:u<1048576:=by omega
 have d2:=Z6k A u hu1
 obtain ⟨hc,h4,hd,he,hf,hg,hh,hi,_,_,hl,hm',_⟩:=D
 have e7:q7=17592186044416000000:=by rw [hd,hc,h4];exact Z5y
 have e8:q8=4096000000:=by rw [he,e7];exact Z6l
 have e9:q9=(A:Int):=Z6M n m A q9 hn hm hAe (by rw [hf,h4,hx,hy,Z6m])
 have e13:=Z6N m u q11 q13 hue (by rw [hh,h4,hy]) hi
 have e10:q10=((A/4096000000:Nat):Int):=Z6n A q10 d1 (by rw [hg,e9,e8])
 have e17:=Z6O A u q17 hu1 (by rw [hl,e9,e13,e10,e7])
 exact ⟨e8,e10,Z6n _ q18 d2 (by rw [hm',e17,e8])⟩
theorem Z6P {n m:Nat} (hn:n<1000000) (hm:m<18446744073709551616) (hAe:A=n*17592186044416+m/1048576) (hue:u=m%1048576) (h1:q10=((A/4096000000:Nat):Int)) (h2:q18=(((A%4096000000*4294967296+u*4096)/4096000000:Nat):Int)):
  q10<4294967296/\q18<4294967296/\u64.wrap (u64.wrap (q10*4294967296)+q18)=(((n*18446744073709551616+m)/1000000:Nat):Int)%18446744073709551616:=by
 obtain ⟨_,d1⟩:=Z6j n m A hn hm hAe
 have d2:=Z6k A u (by omega)
 have d3:=Z6L n m A u hAe hue
 rw [<-d3]
 clear d3 hAe hue
 subst h1 h2
 simp only [Vb]
 generalize A/4096000000=a at*
 generalize (A%4096000000*4294967296+u*4096)/4096000000=b at*
 refine ⟨by omega,by omega,by omega⟩
mutual
/-- Without names; views may be. -/
def AV.vplain:AV->Bool
 | .top|.bool _|.int _ _|.str _|.ptr none|.eslice|.fslice|.nilslice|.map none|.nilFunc|.nilIface|.arr _ _ _=>true
 | .vints _ _ _|.vrows _ _ _ _|.pview _ _=>true
 | .agg cs=>YK cs
 | .tuple cs=>YK cs
 | .iface _ v=>v.vplain
 | _=>false
def YK:List AV->Bool
 | []=>true
 | v::r=>v.vplain&&YK r
end
mutual
theorem Z4.vplain {E E':Env} (hi:∀a c,E.imm a c->E'.imm a c):∀(v:AV) (r:Value),v.vplain=true->Z4 E v r->Z4 E' v r
 | .top,r,_,_=>.top r
 | .bool b,r,_,h=>h.plain rfl
 | .int k n,r,_,h=>h.plain rfl
 | .str s,r,_,h=>h.plain rfl
 | .ptr none,r,_,h=>h.plain rfl
 | .eslice,r,_,h=>h.plain rfl
 | .fslice,r,_,h=>h.plain rfl
 | .nilslice,r,_,h=>h.plain rfl
 | .map none,r,_,h=>h.plain rfl
 | .nilFunc,r,_,h=>h.plain rfl
 | .nilIface,r,_,h=>h.plain rfl
 | .arr k n xs,r,_,h=>h.plain rfl
 | .ptr (some p),r,hp,_=>by simp [AV.vplain] at hp
 | .nslice p a b c,r,hp,_=>by simp [AV.vplain] at hp
 | .map (some x),r,hp,_=>by simp [AV.vplain] at hp
 | .func a b c,r,hp,_=>by simp [AV.vplain] at hp
 | .yield x,r,hp,_=>by simp [AV.vplain] at hp
 | .stamp x,r,hp,_=>by simp [AV.vplain] at hp
 | .pview cs inn,r,_,h=>by
  cases h with
  | pview cs inn a vs hc hq=>exact .pview cs inn a vs (Za.mono (⟨fun _ _ h=>by simp [Env.views] at h,hi⟩:E.views.le E'.views) hc) (fun j c h=>hi _ _ (hq j c h))
 | .vints k xs len,r,_,h=>by
  cases h with
  | vintsNil k xs len h1 h2=>exact .vintsNil k xs len h1 h2
  | vints k xs len a cap h1 h2 hq=>exact .vints k xs len a cap h1 h2 (fun i h=>hi _ _ (hq i h))
 | .vrows esz n f len,r,_,h=>by
  cases h with
  | vrowsNil esz n f len h1 h2=>exact .vrowsNil esz n f len h1 h2
  | vrows esz n f len a cap g h1 h2 hc hl hq=>exact .vrows esz n f len a cap g h1 h2 (fun i h=>Za.mono (⟨fun _ _ h=>by simp [Env.views] at h,hi⟩:E.views.le E'.views) (hc i h)) hl (fun i j c h h'=>hi _ _ (hq i j c h h'))
 | .iface t v,r,hp,h=>by
  cases h with
  | iface t v x hx=>exact .iface t v x (Z4.vplain hi v x (by simpa [AV.vplain] using hp) hx)
 | .agg cs,r,hp,h=>by
  cases h with
  | agg cs vs hc=>exact .agg cs vs (Za.vplain hi cs vs (by simpa [AV.vplain] using hp) hc)
 | .tuple cs,r,hp,h=>by
  cases h with
  | tuple _ rs hc=>exact .tuple _ rs (Zc.vplain hi cs rs (by simpa [AV.vplain] using hp) hc)
theorem Za.vplain {E E':Env} (hi:∀a c,E.imm a c->E'.imm a c):∀(l:List AV) (r:List Value),YK l=true->Za E l r->Za E' l r
 | [],r,_,h=>by cases h;exact .nil
 | v::l,r,hp,h=>by
  simp only [YK,J2] at hp
  cases h with
  | one v c vs cs h0 h1 hv t=>exact .one v c _ cs h0 h1 (Z4.vplain hi v c hp.1 hv) (Za.vplain hi l cs hp.2 t)
  | arr k n xs vs cs t=>exact .arr k n xs _ cs (Za.vplain hi l cs hp.2 t)
theorem Zc.vplain {E E':Env} (hi:∀a c,E.imm a c->E'.imm a c):∀(l:List AV) (r:List Value),YK l=true->Zc E l r->Zc E' l r
 | [],r,_,h=>by cases h;exact .nil
 | v::l,r,hp,h=>by
  simp only [YK,J2] at hp
  cases h with
  | cons v c vs cs hv t=>exact .cons v c _ cs (Z4.vplain hi v c hp.1 hv) (Zc.vplain hi l cs hp.2 t)
end
def Xd (R:AV->Prop):KO:=fun o _=>match o with
 | .ret u=>(match u.vplain with|true=>R u|false=>False)
 | .panic _=>False
theorem Z28 {P:Program} {h:Z1} (hp:YK args=true) (hc:Zj P f args ⟨0,[]⟩ (Xd R)) (hK:∀u,R u->K u):
  Zj P f args h fun o h'=>∃v,o=.ret v/\h'=h/\K v:=by
 intro E w rs he hr
 have hemb:Emb E.views ⟨0,[]⟩ w:=
  ⟨fun x _=>rfl,fun x B h=>by simp [Z1.get,Zm] at h,fun x B h=>by simp [Z1.get,Zm] at h,fun x y B B' b N N' h=>by simp [Z1.get,Zm] at h,he.imm,fun a c x B N _ h=>by simp [Z1.get,Zm] at h⟩
 refine (hc E.views w rs hemb (Zc.vplain (E:=E) (E':=E.views) (fun _ _ h=>h) _ _ hp hr)).mono ?_
 rintro e w' ⟨E₁,o,h',hK0,hev,hor⟩
 cases hor with
 | panic u r hr=>exact hK0.elim
 | ret u r hr=>
  unfold Xd at hK0
  simp only at hK0
  split at hK0
  ·rename_i hu
   have hkeep:∀b,b<w.heap.size->w'.heap[b]? =w.heap[b]?:=fun b hb=>hev.keep b hb (fun ⟨x,B,N,hx,_⟩=>by simp [Z1.get,Zm] at hx)
   have hemb':Emb E h w':=by
    refine ⟨he.fresh,he.lt,fun x B hx=>(he.own x B hx).congr fun b N hb=>hkeep b ((he.own x B hx).lt hb),he.disj,fun a c hi=> ?_,he.sep⟩
    have hcc:=he.imm a c hi
    grind [World.cell?]
   exact ⟨E,.ret u,h,⟨u,rfl,rfl,hK u hK0⟩,⟨.refl E,hemb',hev.size,hev.os,hev.tape,hev.output,fun b hb _=>hkeep b hb,fun b ho=>.inl ho,fun _ _ h=>h⟩,.ret _ _ (Z4.vplain (E:=E₁) (E':=E) (fun a c hi=>hev.imm a c hi) _ _ hu hr)⟩
  simp_all
theorem ZT {G:Zk} (hG:G.Ok) {n:Nat} {h:Z1} (hp:YK args=true) (hc:evF G n f args ⟨0,[]⟩ (Xd R)) (hK:∀u,R u->K u):
  Zj G.P f args h fun o h'=>∃v,o=.ret v/\h'=h/\K v:=Z28 hp (Z1W hG hc) hK
end Go.Tk
end
section
namespace Go.Tk
open IntKind (i64 u8 u32 u64 wrap)
inductive Ty where
 | bool
 | int (k:IntKind)
 | str
 | arr (k:IntKind) (n:Nat)
 | ints (k:IntKind)
 | rows (esz:Nat) (ts:List Ty)
def Z4q (P:Program) (r:TypeId->Option (List Ty)) (sz:Nat):Nat->List Field->Option (List Ty)
 | o,[]=>if o=sz then some [] else none
 | o,f::fs=>if f.offset=o then (r f.type).bind fun a=>(Z4q P r sz (o+P.cellsOf f.type) fs).bind fun b=>some (a++b) else none
def VT (P:Program):Nat->TypeId->Option (List Ty)
 | 0,_=>none
 | m+1,t=>match P.underlying t with
  | some .bool=>some [.bool]
  | some (.int k)=>some [.int k]
  | some .string=>some [.str]
  | some (.array n e)=>match P.underlying e with
   | some (.int k)=>if P.cellsOf t=n/\P.cellsOf e=1 then some [.arr k n] else none
   | _=>(VT P m e).bind fun ts=>if P.cellsOf t=n*P.cellsOf e then some (List.replicate n ts).flatten else none
  | some (.slice e)=>match P.underlying e with
   | some (.int k)=>if P.cellsOf e=1 then some [.ints k] else none
   | _=>(VT P m e).bind fun ts=>some [.rows (P.cellsOf e) ts]
  | some (.struct fs)=>Z4q P (VT P m) (P.cellsOf t) 0 fs.toList
  | _=>none
mutual
inductive VM:Ty->AV->Prop
 | bool (b:Bool):VM .bool (.bool b)
 | int (k:IntKind) (n:Int) (h:(Lit.int k n).wf=true):VM (.int k) (.int k n)
 | str (s:ByteArray) (h:s.size<=maxLen):VM .str (.str s)
 | arr (k:IntKind) (n:Nat) (xs:LI) (h:xs.length=n) (hw:∀i,i<n->(Lit.int k (xs.getD i 0)).wf=true):VM (.arr k n) (.arr k n xs)
 | ints (k:IntKind) (xs:LI) (n:Nat) (h:xs.length=n) (hm:n<=maxLen) (hw:∀i,i<n->(Lit.int k (xs.getD i 0)).wf=true):VM (.ints k) (.vints k xs n)
 | rows (esz:Nat) (ts:List Ty) (n:Nat) (f:Nat->List AV) (hm:n<=maxLen) (h:∀i,i<n->Fits ts (f i)):VM (.rows esz ts) (.vrows esz n f n)
inductive Fits:List Ty->List AV->Prop
 | nil:Fits [] []
 | cons (t:Ty) (a:AV) (ts:List Ty) (vz:List AV) (h:VM t a) (r:Fits ts vz):Fits (t::ts) (a::vz)
end
theorem Fits.append:∀{ts wz:List Ty} {vz bs:List AV},Fits ts vz->Fits wz bs->Fits (ts++wz) (vz++bs)
 | _,_,_,_,.nil,h=>h
 | _,_,_,_,.cons t a ts vz h r,k=>.cons t a _ _ h (Fits.append r k)
def tE (w:World):Env:=⟨fun _=>none,fun a c=>w.cell? a=some c⟩
section
variable {H:Type} {enc:TypeId×Value->H} {P:Program} {w:World} {sp:Nat->Bool} {held:Bool}
theorem Wq {k:IntKind} {n:Nat} {cs:List Value} (hl:cs.length=n) (h:∀i,i<n->∃z,cs[i]? =some (.int k z)/\(Lit.int k z).wf=true):
  ∃xs:LI,xs.length=n/\(∀i,i<n->(Lit.int k (xs.getD i 0)).wf=true)/\∀i,i<n->cs[i]? =some (.int k (xs.getD i 0)):=by
 refine ⟨cs.map fun v=>match v with|.int _ z=>z|_=>0,by simp [hl],fun i hi=> ?_,fun i hi=> ?_⟩
 all_goals grind
theorem Z5d {α β:Type} {n:Nat} {p:Nat->α->β->Prop} [Inhabited α] [Inhabited β] (h:∀i,i<n->∃a b,p i a b):∃(f:Nat->α) (g:Nat->β),∀i,i<n->p i (f i) (g i):=
 ⟨fun i=>if hi:i<n then Classical.choose (h i hi) else default,fun i=>if hi:i<n then Classical.choose (Classical.choose_spec (h i hi)) else default,fun i hi=>by
  grind⟩
theorem U3:∀(m:Nat) (t:TypeId) (ts:List Ty),VT P m t=some ts->∀(fuel:Nat) (cs:List Value) (x:DataW H×List MemPlace),DataW.trod enc P w 0 sp held fuel t cs=some x->∃vz,Fits ts vz/\Za (tE w) vz cs
 | 0,_,_,ht=>by simp [VT] at ht
 | m+1,t,ts,ht=>by
  intro fuel cs x hx
  unfold VT at ht
  split at ht
  ·rename_i hu
   cases ht
   obtain ⟨b,rfl,_⟩:=DataW.trod_bool hu hx
   exact ⟨[.bool b],.cons _ _ _ _ (.bool b) .nil,.one _ _ _ _ rfl rfl (.bool b) .nil⟩
  ·rename_i k hu
   cases ht
   obtain ⟨n,rfl,_,hw⟩:=DataW.trod_int hu hx
   exact ⟨[.int k n],.cons _ _ _ _ (.int k n hw) .nil,.one _ _ _ _ rfl rfl (.int k n) .nil⟩
  ·rename_i hu
   cases ht
   obtain ⟨s,rfl,_,hw⟩:=DataW.trod_string hu hx
   exact ⟨[.str s],.cons _ _ _ _ (.str s hw) .nil,.one _ _ _ _ rfl rfl (.str s) .nil⟩
  ·rename_i n e hu
   split at ht
   ·rename_i k he
    split at ht
    ·rename_i hc
     obtain ⟨hc,h1⟩:=hc
     cases ht
     obtain ⟨xs,q,rfl,rfl,hl,hn,hi⟩:=DataW.trod_array hu hx
     rw [hc] at hl
     obtain ⟨zs,z1,z2,z3⟩:=Wq (k:=k) hl fun i hlt=>by
      have:=hi i hlt
      rw [Ja (by omega),h1] at this
      obtain ⟨z,e1,_,e2⟩:=DataW.trod_int he this
      refine ⟨z, ?_,e2⟩
      rw [Jp] at e1
      have:=congrArg (fun l=>l[0]?) e1
      grind
     refine ⟨[.arr k n zs],.cons _ _ _ _ (.arr k n zs z1 z2) .nil, ?_⟩
     have:cs=intCells k n zs++[]:=by
      rw [JJ]
      refine JL fun i=> ?_
      grind [intCells]
     rw [this]
     exact .arr _ _ _ _ _ .nil
    ·cases ht
   ·obtain ⟨es,e1,e2⟩:=Jf.1 ht
    split at e2
    ·rename_i hc
     cases e2
     obtain ⟨xs,q,rfl,rfl,hl,hn,hi⟩:=DataW.trod_array hu hx
     rw [hc] at hl
     have key:∀j,j<=n->∃vz,Fits (List.replicate j es).flatten vz/\Za (tE w) vz (cs.take (j*P.cellsOf e)):=by
      intro j
      induction j with
      | zero=>intro _;exact ⟨[],.nil,by simp;exact .nil⟩
      | succ j ih=>
       intro hj
       obtain ⟨vz,f1,f2⟩:=ih (by omega)
       have:=hi j (by omega)
       rw [Ja (by omega)] at this
       obtain ⟨bs,p1,p2⟩:=U3 m _ _ e1 _ _ _ this
       refine ⟨vz++bs, ?_, ?_⟩
       ·rw [List.replicate_succ',List.flatten_append,List.flatten_singleton]
        exact f1.append p1
       ·rw [Nat.succ_mul,List.take_add]
        exact f2.append p2
     obtain ⟨vz,f1,f2⟩:=key n (J4 _)
     rw [List.take_of_length_le (by omega)] at f2
     grind
    ·cases e2
  ·rename_i e hu
   split at ht
   ·rename_i k he
    split at ht
    ·rename_i hc
     cases ht
     rcases DataW.trod_slice hu hx with ⟨rfl,_⟩|⟨a,len,cap,elems,rest,n,rfl,rfl,_,_,hl,hm,hlen,hi,_,_⟩
     ·exact ⟨[.vints k [] 0],.cons _ _ _ _ (.ints k [] 0 rfl (JQ _) fun i hi=>absurd hi (Nat.not_lt_zero i)) .nil,.one _ _ _ _ rfl rfl (.vintsNil _ _ _ rfl rfl) .nil⟩
     ·obtain ⟨zs,z1,z2,z3⟩:=Wq (k:=k) (n:=len) (cs:=(List.range len).map fun i=>(w.cell? (a.add i)).getD undef) (by simp) fun i hlt=>by
       have:=hi i hlt
       rw [Ja (by omega),hc,Jp] at this
       obtain ⟨cs',h1,h2⟩:=Jf.1 this
       grind [DataW.trod_int,Go.ChangeShapes.cell_of_cells?_one]
      refine ⟨[.vints k zs len],.cons _ _ _ _ (.ints k zs len z1 (by omega) z2) .nil,.one _ _ _ _ rfl rfl (.vints k zs len a cap (by omega) (by omega) fun i hlt=> ?_) .nil⟩
      rw [z1] at hlt
      have:=hi i hlt
      rw [Ja (by omega),hc,Jp] at this
      obtain ⟨cs',h1,h2⟩:=Jf.1 this
      obtain ⟨z,rfl,_,e2⟩:=DataW.trod_int he h2
      have h3:=z3 i hlt
      have h4:=Go.ChangeShapes.cell_of_cells?_one h1
      simp [hlt,h4] at h3
      show w.cell? (a.add i)=_
      rw [h4,h3,JC]
    ·cases ht
   ·obtain ⟨es,h1,h2⟩:=Jf.1 ht
    cases h2
    rcases DataW.trod_slice hu hx with ⟨rfl,_⟩|⟨a,len,cap,elems,rest,n,rfl,rfl,_,_,hl,hm,hlen,hi,_,_⟩
    ·exact ⟨[.vrows (P.cellsOf e) 0 (fun _=>[]) 0],.cons _ _ _ _ (.rows _ _ 0 _ (JQ _) fun i hi=>absurd hi (Nat.not_lt_zero i)) .nil,.one _ _ _ _ rfl rfl (.vrowsNil _ _ _ _ rfl rfl) .nil⟩
    ·obtain ⟨f,g,hfg⟩:=Z5d (n:=len) (p:=fun i (vz:List AV) (vs:List Value)=>Fits es vz/\Za (tE w) vz vs/\w.cells? 0 (a.add (i*P.cellsOf e)) (P.cellsOf e)=some vs) fun i hlt=>by
      have:=hi i hlt
      rw [Ja (by omega)] at this
      obtain ⟨cs',k1,k2⟩:=Jf.1 this
      obtain ⟨vz,f1,f2⟩:=U3 m _ _ h1 _ _ _ k2
      exact ⟨vz,cs',f1,f2,k1⟩
     refine ⟨[.vrows (P.cellsOf e) len f len],.cons _ _ _ _ (.rows _ _ len f (by omega) fun i hlt=>(hfg i hlt).1) .nil,.one _ _ _ _ rfl rfl (.vrows _ _ _ _ a cap g (J4 _) hl (fun i hlt=>(hfg i hlt).2.1) (fun i hlt=>(World.cells?_some (hfg i hlt).2.2).2.1) fun i j c hlt hj=> ?_) .nil⟩
     obtain ⟨_,hl',hc'⟩:=World.cells?_some (hfg i hlt).2.2
     have hj':j<P.cellsOf e:=by
      grind
     have:=hc' j hj'
     rw [hj] at this
     show w.cell? (a.add (i*P.cellsOf e+j))=some c
     rw [<-this]
     rw [Addr.add_add]
  ·rename_i fs hu
   obtain ⟨xs,n,rfl,rfl,hl,hn,hf⟩:=DataW.trod_struct hu hx
   have key:∀(l:List Field) (o:Nat) (ts:List Ty) (i0:Nat),Z4q P (VT P m) (P.cellsOf t) o l=some ts->(∀i f,l[i]? =some f->fs[i0+i]? =some f)->∃vz,Fits ts vz/\Za (tE w) vz (cs.drop o):=by
    intro l
    induction l with
    | nil=>
     intro o ts i0 h _
     unfold Z4q at h
     split at h
     ·cases h
      exact ⟨[],.nil,by rw [List.drop_eq_nil_of_le (by omega)];exact .nil⟩
     ·cases h
    | cons f l ih=>
     intro o ts i0 h hl'
     unfold Z4q at h
     split at h
     ·rename_i ho
      obtain ⟨a,h1,h2⟩:=Jf.1 h
      obtain ⟨b,h3,h4⟩:=Jf.1 h2
      cases h4
      have h0:fs[i0]? =some f:=hl' 0 f rfl
      have hlt:i0<fs.size:=by
       grind
      have k:=hf i0 f h0
      rw [Ja (by omega),ho] at k
      obtain ⟨vz,p1,p2⟩:=U3 m _ _ h1 _ _ _ k
      obtain ⟨bs,q1,q2⟩:=ih (o+P.cellsOf f.type) b (i0+1) h3 fun i g hg=>by
       have:=hl' (i+1) g hg
       grind
      refine ⟨vz++bs,p1.append q1, ?_⟩
      have e:cs.drop o=(cs.drop o).take (P.cellsOf f.type)++cs.drop (o+P.cellsOf f.type):=by
       rw [<-List.drop_drop,List.take_append_drop]
      rw [e]
      exact p2.append q2
     ·cases h
   obtain ⟨vz,h1,h2⟩:=key fs.toList 0 ts 0 ht fun i f h=>by simp_all
   grind
  ·cases ht
def isAgg (P:Program) (t:TypeId):Bool:=match P.underlying t with
 | some (.struct _)|some (.array _ _)=>true
 | _=>false
inductive Q3:Bool->List Ty->AV->Prop
 | agg (ts:List Ty) (vz:List AV) (h:Fits ts vz):Q3 true ts (.agg vz)
 | one (t:Ty) (a:AV) (h:VM t a):Q3 false [t] a
theorem Z4r {m:Nat} {t:TypeId} {ts:List Ty} (ht:VT P m t=some ts) (hg:isAgg P t=false) {v:Value} {r:Reach} {b:Nat} (hv:Value.okWide P w r b t v):
  v.cells.toList=[v]/\∃τ,ts=[τ]/\∀k n,τ≠.arr k n:=by
 cases m with
 | zero=>simp [VT] at ht
 | succ m=>
  unfold VT at ht
  unfold isAgg at hg
  split at ht
  ·rename_i hu;cases ht;obtain ⟨b,rfl⟩:=Go.WideShapes.okWide_bool hu hv;exact ⟨rfl,_,rfl,fun _ _ h=>by cases h⟩
  ·rename_i hu;cases ht;obtain ⟨b,rfl⟩:=Go.WideShapes.okWide_int hu hv;exact ⟨rfl,_,rfl,fun _ _ h=>by cases h⟩
  ·rename_i hu;cases ht;obtain ⟨b,rfl⟩:=Go.WideShapes.okWide_string hu hv;exact ⟨rfl,_,rfl,fun _ _ h=>by cases h⟩
  ·simp_all
  ·rename_i hu
   obtain ⟨a,l,c,rfl⟩:=Go.WideShapes.okWide_slice hu hv
   split at ht
   ·split at ht
    ·cases ht;exact ⟨rfl,_,rfl,fun _ _ h=>by cases h⟩
    ·cases ht
   ·obtain ⟨es,h1,h2⟩:=Jf.1 ht
    cases h2;exact ⟨rfl,_,rfl,fun _ _ h=>by cases h⟩
  all_goals simp_all
theorem Z4s {m:Nat} {t:TypeId} {ts:List Ty} {g:Bool} (ht:VT P m t=some ts) (hg:isAgg P t=g) {v:Value} {r:Reach} {b:Nat} (hv:Value.okWide P w r b t v) {d:DataW H} {ps:List MemPlace} (h:DataW.Trod enc P w 0 sp held t v d ps):
  ∃a,Q3 g ts a/\Z4 (tE w) a v:=by
 obtain ⟨fuel,hf⟩:=h
 obtain ⟨vz,f1,f2⟩:=U3 m _ _ ht _ _ _ hf
 cases g with
 | true=>
  have:∃cs,v=.agg cs:=by
   grind [isAgg,Value.okWide]
  obtain ⟨cs,rfl⟩:=this
  refine ⟨.agg vz,.agg _ _ f1, ?_⟩
  exact .agg _ _ f2
 | false=>
  obtain ⟨h1,τ,rfl,h2⟩:=Z4r ht hg hv
  rw [h1] at f2
  cases f1 with
  | cons _ a _ vz f r=>
   generalize hL:[v]=L at f2
   cases f2 with
   | one _ _ _ _ h0 h1 h t=>cases hL;exact ⟨_,.one _ _ f,h⟩
   | arr k n xs _ cs t=>cases f;simp_all
end
end Go.Tk
end
section
namespace Go.Tk
open IntKind (i64 u8 u32 u64 wrap)
open Go.ChangeShapes Go.WideShapes Go.RowKit
theorem Z5V (w:World):Emb (tE w) ⟨0,[]⟩ w where
 fresh:=fun _ _=>rfl
 lt:=fun x B h=>by simp [Z1.get,Zm] at h
 own:=fun x B h=>by simp [Z1.get,Zm] at h
 disj:=fun x y B B' b N N' h=>absurd h (by simp [Z1.get,Zm])
 imm:=fun _ _ h=>h
 sep:=fun a c x B N _ h=>absurd h (by simp [Z1.get,Zm])
theorem Zj.topT {P:Program} {f:FuncId} {args:List AV} (h:Zj P f args ⟨0,[]⟩ fun o h'=>∃v,o=.ret v/\h'=⟨0,[]⟩/\v=.bool true) {w:World} {rs:List Value} (hl:Zc (tE w) args rs):
  Calls P f rs.toArray w fun e w'=>e=.returned (.bool true)/\Go.RowKit.Below w.heap.size w w':=by
 refine (h (tE w) w rs (Z5V w) hl).mono ?_
 rintro e w' ⟨E',o,h',⟨v,rfl,rfl,hv⟩,hev,hor⟩
 obtain rfl:=hv
 cases hor with
 | ret v r hr=>
  cases hr
  refine ⟨rfl,hev.os,hev.tape,hev.output.1,hev.size,fun k hk=>hev.keep k hk ?_⟩
  rintro ⟨x,B,N,hx,_⟩
  exact absurd hx (by simp [Z1.get,Zm])
def Z29 (P:Program) (m:Nat):List TypeId->Option (List (Bool×List Ty))
 | []=>some []
 | t::r=>(VT P m t).bind fun a=>(Z29 P m r).bind fun b=>some ((isAgg P t,a)::b)
inductive QE:List (Bool×List Ty)->List AV->Prop
 | nil:QE [] []
 | cons (g:Bool) (ts:List Ty) (a:AV) (r:List (Bool×List Ty)) (vz:List AV) (h:Q3 g ts a) (k:QE r vz):QE ((g,ts)::r) (a::vz)
section
variable {H:Type} {enc:TypeId×Value->H} {P:Program} {w:World}
theorem QF {m:Nat} {r:Reach} {b:Nat}:∀{ts:List TypeId} {τs:List (Bool×List Ty)} {vs:List Value} {ds:List (DataW H)} {ps:List MemPlace},Z29 P m ts=some τs->(∀(j:Nat) t v,ts[j]? =some t->vs[j]? =some v->Value.okWide P w r b t v)->
  DataW.TrodAll enc P w 0 (fun _=>true) true ts vs ds ps->∃vz,QE τs vz/\Zc (tE w) vz vs
 | [],τs,vs,ds,ps,ha,_,h=>by
  cases ha
  obtain ⟨rfl,_,_⟩:=trodAll_nil h
  exact ⟨[],.nil,.nil⟩
 | t::ts,τs,vs,ds,ps,ha,hv,h=>by
  obtain ⟨a,h1,h2⟩:=Jf.1 ha
  obtain ⟨c,h3,h4⟩:=Jf.1 h2
  cases h4
  obtain ⟨v,vs',d,ds',p,q,rfl,rfl,rfl,k1,k2⟩:=trodAll_cons h
  obtain ⟨x,f1,f2⟩:=Z4s h1 rfl (hv 0 t v rfl rfl) k1
  obtain ⟨vz,g1,g2⟩:=QF h3 (fun j t' v' e1 e2=>hv (j+1) t' v' e1 e2) k2
  exact ⟨x::vz,.cons _ _ _ _ _ f1 g1,.cons _ _ _ _ f2 g2⟩
theorem VN {sp:Nat->Bool} {held:Bool}:∀{ts:List TypeId} {vs:List Value} {ds:List (DataW H)} {ps:List MemPlace},DataW.TrodAll enc P w 0 sp held ts vs ds ps->ds.length=ts.length
 | [],_,_,_,h=>by obtain ⟨_,rfl,_⟩:=trodAll_nil h;rfl
 | t::ts,_,_,_,h=>by
  obtain ⟨v,vs',d,ds',p,q,rfl,rfl,rfl,k1,k2⟩:=trodAll_cons h
  simp [VN k2]
theorem QG {W':World} (laid:laidOutB P=true) (hb:Below w.heap.size w W'):∀{ts:List TypeId} {vs:List Value} {ds:List (DataW H)} {ps:List MemPlace},ts.all (fun t=>P.readableRec t&&decide (t<P.types.size))=true->
  DataW.TrodAll enc P w 0 (fun _=>true) true ts vs ds ps->DataW.TrodAll enc P W' 0 (fun b=>decide (b<w.heap.size)) true ts vs ds ps
 | [],_,_,_,_,h=>by obtain ⟨rfl,rfl,rfl⟩:=trodAll_nil h;exact trodAll_mk0
 | t::ts,_,_,_,hr,h=>by
  obtain ⟨v,vs',d,ds',p,q,rfl,rfl,rfl,k1,k2⟩:=trodAll_cons h
  simp only [List.all_cons,J2,decide_eq_true_eq] at hr
  have lt:∀x∈p,x.block<w.heap.size:=by obtain ⟨m,hm⟩:=k1;exact DataW.trod_lt m _ _ _ hm
  exact trodAll_cons_mk (Below.trod laid hr.1.1 hr.1.2 k1 hb lt) (QG laid hb hr.2 k2)
end
theorem lifted_gen {H:Type} {enc:TypeId×Value->H} {C:Checked} {os:Os} {f:FuncId} {fn:Func} {s:ChangeSpec} {conds:List PathCond} {tb:TypeId} {m:Nat} {τs:List (Bool×List Ty)}
  (own:ownKnob C.prog.godebug=none) (laid:laidOutB C.prog=true) (started:os.Started) (noInit:C.prog.inits.idxOf? f=none) (hfn:C.prog.funcs[f]? =some fn)
  (witness:∃(w:World) (tape:Tape) (i:Input),w.os=os/\(w.forCall tape i).Shaped C.prog/\i.vars=[]/\Input.okWide C.prog (w.forCall tape i) .any w.heap.size f i/\
   s.pre6 enc C.prog fn conds false (w.forCall tape i).memory i.args/\({}:Assume).holds C.prog (lone (Frame.enter C.prog f i.args .normal) [] (w.forCall tape i)))
  (hvars:s.vars=[]) (hr:fn.resultTypes= #[tb]) (hb:C.prog.underlying tb=some .bool) (hread:fn.params.toList.all (fun t=>C.prog.readableRec t&&decide (t<C.prog.types.size))=true) (hτ:Z29 C.prog m fn.params.toList=some τs)
  (hs:∀ds:List (DataW H),ds.length=fn.params.toList.length->s.fn H ds={ results:=[.lit (.bool true)],args:=ds})
  (walk:∀vz,QE τs vz->Zj C.prog f vz ⟨0,[]⟩ fun o h'=>∃v,o=.ret v/\h'=⟨0,[]⟩/\v=.bool true):
  ReturnsInHanded {} C os f .any (s.pre6 enc C.prog fn conds false) (s.post enc C.prog fn false true false false):=by
 refine returnsInHanded_of_change own started noInit hfn witness ?_
 intro W base args ds gs before hval hW _ _
 have hW':=hW
 obtain ⟨p,q,hA,hV,rfl,hfz,hnd⟩:=hW
 rw [hvars] at hV
 obtain ⟨rfl,rfl⟩:=trodVars_none hV
 obtain ⟨vz,f1,f2⟩:=QF hτ (fun j t v e1 e2=>hval j t v (by simp_all) (by simp_all)) hA
 have key:=(walk vz f1).topT f2
 refine key.mono fun e W' ⟨he,bel⟩=> ?_
 subst he
 have hfn':=hs ds (VN hA)
 refine ⟨_,rfl,ds,[],_,[],p,[],hW', ?_, ?_, ?_,bel.frame _,fun h=>by cases h⟩
 ·rw [JJ,hfn',hr]
  exact trodAll_mk1 (shut_bool hb _)
 ·rw [JJ,hfn']
  exact QG laid bel hread hA
 ·rw [JJ,hfn',hvars]
  rfl
end Go.Tk
end
section
namespace Go.Tk
open IntKind (i64 u8 u32 u64 wrap)
variable {f:FuncId} {r:Int}
theorem Zj.eslice {P:Program} {h:Z1} {K:KO} (h1:Zj P f [.nilslice] h K) (h2:Zj P f [.fslice] h K):Zj P f [.eslice] h K:=by
 intro E w rs he hl
 cases hl with
 | cons v r vs rs hv ht=>
  cases ht
  cases hv with
  | eslice a=>
   cases a with
   | none=>exact h1 E w _ he (.cons _ _ _ _ .nilslice .nil)
   | some a=>exact h2 E w _ he (.cons _ _ _ _ (.fslice a 0) .nil)
theorem Z6Q (u:Unit) :
  evF G0 40 166 [.int .u64 1000000] ⟨0,[]⟩ (Xd (fun v=>v=.int .i64 44)):=by
 refine @Eq.mpr _ (AV.int i64 44=AV.int i64 44) (by kernel_rfl) ?_
 trivial
theorem Z6o (x y z:Int) (hz:z=Q2 x y):
  evF G0 40 145 [.int .u64 x,.int .u64 y] ⟨0,[]⟩ (Xd (fun v=>v=.tuple [.int .u64 z,.int .u64 (u64.wrap (x*y))])):=by
 refine @Eq.mpr _ (let b:=wrap u64 (wrap u64 (Ya u64 x 32*XC u64 y 4294967295)+Ya u64 (wrap u64 (XC u64 x 4294967295*XC u64 y 4294967295)) 32);let a:=[AV.int u64 (wrap u64 (x*y))];
 AV.tuple (AV.int u64 (wrap u64 (wrap u64 (wrap u64 (Ya u64 x 32*Ya u64 y 32)+Ya u64 b 32)+Ya u64 (wrap u64 (XC u64 b 4294967295+wrap u64 (XC u64 x 4294967295*Ya u64 y 32))) 32))::a)=AV.tuple (AV.int u64 z::a)) (by kernel_rfl) ?_
 conv=>zeta
 subst hz
 rfl
def lzX (s:Int):Yy:=fun args h K=>match args with
 | [.int .u64 n]=>n=1000000/\K (.int .i64 s)
 | _=>False
theorem Z5W (args:List AV) (h:Z1) (K:AV->Prop) (hl:lzX 44 args h K):Zj PP 166 args h fun o h'=>∃v,o=.ret v/\h'=h/\K v:=by
 unfold lzX at hl
 split at hl
 ·obtain ⟨rfl,hK⟩:=hl
  exact ZT Yd rfl (Z6Q ()) fun u hu=>hu▸hK
 ·exact hl.elim
def Z4t (q4 q7 q8 q9 q10 q16 q11 q13 q14:Int):St:=⟨135,[(15,.int .u64 q10),(10,.int .u64 0),(16,.int .u64 q16),(13,.int .u64 q13),(9,.int .u64 q8),(11,.int .u64 q9),(2,.int .u64 q7),(14,.int .u64 q14),(8,.int .u64 q4)],⟨0,[]⟩,[]⟩
def Z4u (q4 q7 q8 q10 q16 q17 q18 q14:Int):St:=⟨135,[(18,.int .u64 q18),(10,.int .u64 0),(16,.int .u64 q16),(14,.int .u64 q14),(9,.int .u64 q8),(15,.int .u64 q10),(17,.int .u64 q17),(2,.int .u64 q7),(8,.int .u64 q4)],⟨0,[]⟩,[]⟩
def dvN:St:=⟨135,[],⟨0,[]⟩,[]⟩
theorem Z4v (G:Zk) (f:FuncId) (id:Nat) (S:Nat->St->KE->Prop):(G.withL f id S).P=G.P:=rfl
theorem Z4w {x a b:Int} (h:u64.wrap (x*0)>u64.wrap (a+b)):False:=by
 simp only [Int.mul_zero,Vb] at h
 omega
theorem Z6p (q4 q7 q8 q9 q10 q16 q11 q13 q14:Int) (Z0 Z:Prop) (h:q10<4294967296) (hz:Z):
  UZ G0 20 146 0 0 (Z4t q4 q7 q8 q9 q10 q16 q11 q13 q14) (rdM 0 0 9 dvN (Z4t q4 q7 q8 q9 q10 q16 q11 q13 q14) dvN dvN Z0 Z False False):=by
 refine @Eq.mpr _ (let c:=wrap u64 (q16+q8);let b:=Z8 (q13=q13) (Z8 (q8=q8) (Z8 (q9=q9) (Z8 (q7=q7) (Z8 (q14=q14) (Z8 (q4=q4) Z)))));let a:=Z9 (decide (c>=4294967296)) (Z8 (wrap u64 (q10-1)=q10) (Z8 (c=q16) b)) Z0;
 Z9 (decide (q10>=4294967296)) a (Z9 (decide (wrap u64 (q10*0)>wrap u64 (wrap u64 (4294967296*q16)+q13))) a (Z8 (q10=q10) (Z8 (q16=q16) b)))) (by kernel_rfl) ?_
 conv=>zeta
 try simp only [vcA]
 try simp only [vcB]
 try simp only [vcC]
 exact ⟨fun hc=>absurd h (by omega),fun _=>⟨fun hc=>(Z4w hc).elim,fun _=>by simpa using hz⟩⟩
theorem Z6q (q4 q7 q8 q10 q16 q17 q18 q14:Int) (Z0 Z:Prop) (h:q18<4294967296) (hz:Z):
  UZ G0 20 146 2 0 (Z4u q4 q7 q8 q10 q16 q17 q18 q14) (rdM 0 2 9 dvN (Z4u q4 q7 q8 q10 q16 q17 q18 q14) dvN dvN Z0 Z False False):=by
 refine @Eq.mpr _ (let c:=wrap u64 (q16+q8);let b:=Z8 (q14=q14) (Z8 (q8=q8) (Z8 (q10=q10) (Z8 (q17=q17) (Z8 (q7=q7) (Z8 (q4=q4) Z)))));let a:=Z9 (decide (c>=4294967296)) (Z8 (wrap u64 (q18-1)=q18) (Z8 (c=q16) b)) Z0;
 Z9 (decide (q18>=4294967296)) a (Z9 (decide (wrap u64 (q18*0)>wrap u64 (wrap u64 (4294967296*q16)+q14))) a (Z8 (q18=q18) (Z8 (q16=q16) b)))) (by kernel_rfl) ?_
 conv=>zeta
 try simp only [vcA]
 try simp only [vcB]
 try simp only [vcC]
 exact ⟨fun hc=>absurd h (by omega),fun _=>⟨fun hc=>(Z4w hc).elim,fun _=>by simpa using hz⟩⟩
noncomputable def Z4x (q4 q7 q8 q9 q10 q16 q11 q13 q14:Int):Zk:=G0.withL 146 0 (goM 0 (Z4t q4 q7 q8 q9 q10 q16 q11 q13 q14) (q10<4294967296) (Z4j 0 0 9 (fun _=>False) (fun _=>True) (fun _=>False) (fun _=>False) (fun _=>Z4t q4 q7 q8 q9 q10 q16 q11 q13 q14) (fun _=>dvN) (fun _=>dvN)))
def dvT (A:St):Nat->St
 | 0=>A
 | _=>dvN
theorem Z4y (q4 q7 q8 q9 q10 q16 q11 q13 q14:Int):(Z4x q4 q7 q8 q9 q10 q16 q11 q13 q14).Ok:=
 Zk.withGoM (N:=20) (S:=dvT (Z4t q4 q7 q8 q9 q10 q16 q11 q13 q14)) Yd (by kernel_rfl) fun hC=>⟨rfl,fun i hi hg=>by
  obtain rfl:i=0:=by omega
  exact Z6p q4 q7 q8 q9 q10 q16 q11 q13 q14 _ True hC trivial⟩
noncomputable def Z5z (q4 q7 q8 q9 q10 q16 q11 q13 q14 q26 q17 q18:Int):Zk:=(Z4x q4 q7 q8 q9 q10 q16 q11 q13 q14).withL 146 2 (goM 0 (Z4u q4 q7 q8 q10 q26 q17 q18 q14) (q18<4294967296) (Z4j 2 0 9 (fun _=>False) (fun _=>True) (fun _=>False) (fun _=>False) (fun _=>Z4u q4 q7 q8 q10 q26 q17 q18 q14) (fun _=>dvN) (fun _=>dvN)))
theorem Z4z (q4 q7 q8 q9 q10 q16 q11 q13 q14 q26 q17 q18:Int):(Z5z q4 q7 q8 q9 q10 q16 q11 q13 q14 q26 q17 q18).Ok:=
 Zk.withL_join (H:=G0) (Z4y _ _ _ _ _ _ _ _ _) (by unfold Z4x;simp only [Z4v]) (Zk.withGoM (N:=20) (k:=0) (n:=0) (l:=9) (S:=dvT (Z4u q4 q7 q8 q10 q26 q17 q18 q14)) Yd (by kernel_rfl) fun hC=>⟨rfl,fun i hi hg=>by
  obtain rfl:i=0:=by omega
  exact Z6q q4 q7 q8 q10 q26 q17 q18 q14 _ True hC trivial⟩)
noncomputable def Z6r (s q4 q7 q8 q9 q10 q16 q11 q13 q14 q26 q17 q18:Int):Zk:=(Z5z q4 q7 q8 q9 q10 q16 q11 q13 q14 q26 q17 q18).withP 166 (lzX s)
theorem Z5e (q4 q7 q8 q9 q10 q16 q11 q13 q14 q26 q17 q18:Int):(Z6r 44 q4 q7 q8 q9 q10 q16 q11 q13 q14 q26 q17 q18).Ok:=Zk.withP_ok (Z4z _ _ _ _ _ _ _ _ _ _ _ _) Z5W
theorem Z6R (s x y c q4 q7 q8 q9 q10 q16 q11 q13 q14 q26 q17 q18 z r:Int) (n m:Nat) (D:DvE x y c q4 q7 q8 q9 q10 q16 q11 q13 q14 q26 q17 q18) (hs:s=44) (hx:x=n) (hy:y=m) (hn:n<1000000) (hm:m<18446744073709551616) (hz:z=(((n*18446744073709551616+m)/1000000:Nat):Int)%18446744073709551616) (hr:r=if x=0 then Int.tmod y c else Ya .u64 (u64.wrap (u64.wrap (u64.wrap (q17*4294967296)+q14)-u64.wrap (q18*q7))) q4):
  evF (Z6r s q4 q7 q8 q9 q10 q16 q11 q13 q14 q26 q17 q18) 40 146 [.int .u64 x,.int .u64 y,.int .u64 c] ⟨0,[]⟩ (Xd (fun v=>v=.tuple [.int .u64 z,.int .u64 r])):=by
 refine @Eq.mpr _ (let p:=decide (c≠0);let o:=AV.tuple [AV.int u64 z,AV.int u64 r];let a:=wrap u64 s;let d:=decide (0<=a);let h:=wrap u64 (64-a);let g:=WW u64 c a;let b:=Ya u64 g 32;let f:=bOr u64 (WW u64 x a) (Ya u64 y h);let n:=wrap u64 (Int.tdiv f b);let m:=WW u64 y a;let e:=wrap u64 (wrap u64 (wrap u64 (q9*4294967296)+q13)-wrap u64 (q10*q7));let l:=wrap u64 (Int.tdiv e q8);let k:=(False->False)/\(False->False);
 Z9 (c==0) False
 (Z9 (decide (c<=x)) False
 (Z9 (x==0) (Z9 p (Z9 p (AV.tuple [AV.int u64 (wrap u64 (Int.tdiv y c)),AV.int u64 (Int.tmod y c)]=o) False) False)
 (c=1000000/\
 Z9 d
 (Z9 d
 (Z9 (decide (0<=h))
 (Z9 d
 (Z9 (decide (b≠0))
 (Z9 (decide (n=q10))
 (Z9 (decide (XC u64 g 4294967295=0))
 (Z9 (decide (wrap u64 (f-wrap u64 (n*b))=q16))
 (Z9 (decide (Ya u64 m 32=q13))
 (Z9 (decide (b=q8))
 (Z9 (decide (f=q9))
 (Z9 (decide (g=q7))
 (Z9 (decide (XC u64 m 4294967295=q14)) (Z9 (decide (a=q4)) (q10<4294967296/\∀(i:Nat),i<=0->(∀(j:Nat),j<i->(fun (x:Nat)=>False) j)->(True->Z9 (decide (q8≠0)) (Z9 (decide (l=q18)) (Z9 (decide (wrap u64 (e-wrap u64 (l*q8))=q26)) (Z9 (decide (q14=q14)) (Z9 (decide (q8=q8)) (Z9 (decide (q10=q10)) (Z9 (decide (e=q17)) (Z9 (decide (q7=q7)) (Z9 (decide (q4=q4)) (q18<4294967296/\∀(i:Nat),i<=0->(∀(j:Nat),j<i->(fun (x:Nat)=>False) j)->(True->Z9 (decide (0<=q4)) (AV.tuple [AV.int u64 (wrap u64 (wrap u64 (q10*4294967296)+q18)),AV.int u64 (Ya u64 (wrap u64 (wrap u64 (wrap u64 (q17*4294967296)+q14)-wrap u64 (q18*q7))) q4)]=o) False)/\k) False) False) False) False) False) False) False) False) False)/\k) False)
 False)
 False)
 False)
 False)
 False)
 False)
 False)
 False)
 False)
 False)
 False)
 False)
 False)))) (by kernel_rfl) ?_
 conv=>zeta
 obtain ⟨v1,v2,v3⟩:=D.vals hx hy hn hm rfl rfl
 obtain ⟨w1,w2,w3⟩:=Z6P hn hm rfl rfl v2 v3
 rw [<-hz] at w3
 obtain ⟨ha,hb,hd,he,hf,hg,hh,hi,hj,hk,hl,hm',hn'⟩:=D
 have hw:u64.wrap s=q4:=by rw [hs,hb];decide
 rw [hw]
 try simp only [XA]
 try simp only [Z2E]
 try simp only [Z0k]
 try simp only [Z0l]
 try simp only [Z2F]
 try simp only [Z2G]
 try simp only [Y_s]
 simp only [<-hd,<-he,<-hf,<-hh,<-hi,<-hj,<-hg,<-hk,<-hl,<-hm',<-hn',w3]
 have hc0:(c==0)=false:=by rw [ha];rfl
 have hq:q8≠0:=by rw [v1];decide
 have hmask:XC .u64 q7 4294967295=0:=by rw [hd,ha,hb,Z5y];decide
 have hx0:0<=q4:=by rw [hb];decide
 refine ⟨hc0,by omega,fun hz0=> ?_,fun hz0=> ?_⟩
 ·have hz0:x=0:=by simpa using hz0
  obtain rfl:n=0:=by omega
  rw [if_pos hz0] at hr
  refine ⟨by omega,by omega, ?_⟩
  rw [hr,hz,ha,hy,JD (by omega),Vb]
  simp only [Nat.zero_mul,Jr]
  rfl
 ·have hz0:x≠0:=by simpa using hz0
  rw [if_neg hz0] at hr
  simp only [true_and,forall_const,false_implies,implies_true,and_true]
  rw [hr]
  have hq6:0<=u64.wrap (64-q4):=by rw [Vb];omega
  simp [ha,hx0,hq,hmask,w1,w2,hq6]
theorem Xq.evV5 {G:Zk} (hG:G.Ok) {n:Nat} {args:List AV} {v:AV} (h:evF G n f args ⟨0,[]⟩ (Xd fun u=>u=v)):Xq G.P f args v 0 []:=by
 intro E w rs he hr
 refine (Z1W hG h E w rs he hr).mono ?_
 rintro e w' ⟨E₁,o,h',hK0,hev,hor⟩
 cases hor with
 | panic u r hr=>exact hK0.elim
 | ret u r hr=>
  unfold Xd at hK0
  simp only at hK0
  split at hK0
  ·rename_i hu
   subst hK0
   refine ⟨E,r,rfl,⟨.refl E,⟨he.fresh,fun x B hx=>by simp [Z1.get,Zm] at hx,fun x B hx=>by simp [Z1.get,Zm] at hx,fun x y B B' b N N' hx=>by simp [Z1.get,Zm] at hx,fun a c hi=>hev.emb.imm a c (hev.le.imm a c hi),fun a c x B N _ hx=>by simp [Z1.get,Zm] at hx⟩,hev.size,hev.os,hev.tape,hev.output,hev.keep,fun b hb=> ?_,fun _ _ h=>h⟩,Z4.vplain (E:=E₁) (E':=E) (fun a c hi=>hev.imm a c hi) _ _ hu hr⟩
   obtain ⟨x,B,N,hx,_⟩:=hb
   simp [Z1.get,Zm] at hx
  ·exact hK0.elim
@[irreducible] def Zx (a r:Int):Int:=((a.toNat*r.toNat/1000000:Nat):Int)
def Z5X (M:Int->Int->Int):Yy:=fun args h K=>match args with
 | [.int .u64 x,.int .u64 y]=>K (.tuple [.int .u64 (M x y),.int .u64 (u64.wrap (x*y))])
 | _=>False
theorem Z5f (args:List AV) (h:Z1) (K:AV->Prop) (hl:Z5X Q2 args h K):Zj PP 145 args h fun o h'=>∃v,o=.ret v/\h'=h/\K v:=by
 unfold Z5X at hl
 split at hl
 ·exact ZT Yd rfl (Z6o _ _ _ rfl) fun u hu=>hu▸hl
 ·exact hl.elim
structure Z4A (x y z:Int) (n:Nat):Prop where
 hn:n<1000000*18446744073709551616
 hx:x=((n/18446744073709551616:Nat):Int)
 hy:y=((n%18446744073709551616:Nat):Int)
 hz:z=((n/1000000:Nat):Int)%18446744073709551616
def Z5Y (B:Int):Yy:=fun args h K=>match args with
 | [.int .u64 x,.int .u64 y,.int .u64 c]=>∃z n,c=B/\Z4A x y z n/\∀r,K (.tuple [.int .u64 z,.int .u64 r])
 | _=>False
theorem Z5g (args:List AV) (h:Z1) (K:AV->Prop) (hl:Z5Y 1000000 args h K):Zj PP 146 args h fun o h'=>∃v,o=.ret v/\h'=h/\K v:=by
 unfold Z5Y at hl
 split at hl
 ·obtain ⟨z,n,rfl,⟨hn,rfl,rfl,hz⟩,hK⟩:=hl
  exact ZT (Z5e _ _ _ _ _ _ _ _ _ _ _ _) rfl (Z6R 44 _ _ _ _ _ _ _ _ _ _ _ _ _ _ _ z _ _ _ ⟨rfl,rfl,rfl,rfl,rfl,rfl,rfl,rfl,rfl,rfl,rfl,rfl,rfl⟩ rfl rfl rfl (Nat.div_lt_of_lt_mul (by omega)) (Nat.mod_lt _ (by omega)) (by rw [hz];congr 3;omega) rfl) fun u hu=>hu▸hK _
 ·exact hl.elim
noncomputable def Z6s (M:Int->Int->Int) (B:Int):Zk:=(G0.withP 145 (Z5X M)).withP 146 (Z5Y B)
theorem Z5h:(Z6s Q2 1000000).Ok:=Zk.withP_ok (Zk.withP_ok Yd Z5f) Z5g
theorem Z6S (M:Int->Int->Int) (B a r z:Int) (c:Int) (hM:M=Q2) (hc:c=B) (ha:0<=a/\a<=1125899906842624) (hr:0<=r/\r<=1000000) (hz:z=Zx a r):
  evF (Z6s M B) 40 144 [.int .u64 (u64.wrap r),.int .u64 c,.pview [.int .i64 a] 0] ⟨0,[]⟩ (Xd (fun v=>v=.int .i64 z)):=by
 refine @Eq.mpr _ (let d:=wrap u64 a;let b:=wrap u64 r;
 ∃(z_1:Int),∃(n:Nat),c=B/\Z4A (M d b) (wrap u64 (d*b)) z_1 n/\∀(r:Int),AV.int i64 (wrap i64 z_1)=AV.int i64 z) (by kernel_rfl) ?_
 conv=>zeta
 try simp only [vcA]
 try simp only [vcB]
 try simp only [vcC]
 subst hM hc
 have e1:u64.wrap a=((a.toNat:Nat):Int):=by rw [Vb];omega
 have e2:u64.wrap r=((r.toNat:Nat):Int):=by rw [Vb];omega
 have hP:a.toNat*r.toNat<=1125899906842624*1000000:=JP (by omega) (by omega)
 refine ⟨_,a.toNat*r.toNat,rfl,⟨by omega, ?_, ?_,rfl⟩,fun _=> ?_⟩
 ·rw [e1,e2]
  exact Z4o _ _ (by omega) (by omega)
 ·rw [e1,e2,Vb,<-Int.natCast_mul]
  omega
 ·rw [hz]
  unfold Zx
  rw [Vc (by omega) (by omega)]
  congr 1
  omega
structure AmR (a r:Int):Prop where
 ha:0<=a/\a<=1125899906842624
 hr:0<=r/\r<=1000000
def Z6t (S:Int->Int->Int) (B:Int):Yy:=fun args h K=>YV none h true 20 args fun x=>match x with
 | [.int .u64 r',.int .u64 c,.pview [.int .i64 a] 0]=>∃r,r'=u64.wrap r/\c=B/\AmR a r/\K (.int .i64 (S a r))
 | _=>False
theorem Z5i (args:List AV) (h:Z1) (K:AV->Prop) (hl:Z6t Zx 1000000 args h K):Zj PP 144 args h fun o h'=>∃v,o=.ret v/\h'=h/\K v:=by
 refine Xq.psumm (d:=20) (Yq _ _ _ _ _ hl fun a ha=> ?_)
 split at ha
 ·obtain ⟨r,rfl,rfl,h1,hK⟩:=ha
  exact ⟨_,Xq.evV5 Z5h (Z6S Q2 1000000 _ r _ _ rfl rfl h1.ha h1.hr rfl),fun _=>rfl,hK⟩
 ·exact ha.elim
noncomputable def Z5A (S:Int->Int->Int) (B:Int):Zk:=G0.withP 144 (Z6t S B)
theorem Z4B:(Z5A Zx 1000000).Ok:=Zk.withP_ok Yd Z5i
def Yj (S:Int->Int->Int) (b r a:Int):Int×Int:=
 if (0<=b/\b<=1125899906842624)/\(0<=r/\r<=1000000)/\0<=a/\a<=1125899906842624 then (if b+S a r>1125899906842624 then (0,150) else (b+S a r,0)) else (0,2)
theorem Vx {a:Int} (h:AmR a r):0<=Zx a r/\Zx a r<=1125899906842624:=by
 obtain ⟨h1,h2⟩:=h
 have hP:a.toNat*r.toNat<=1125899906842624*1000000:=JP (by omega) (by omega)
 unfold Zx
 omega
theorem Z5Z (S:Int->Int->Int) (B b r a v e:Int) (hB:B=1000000) (hS:∀a r,AmR a r->0<=S a r/\S a r<=1125899906842624) (hv:(v,e)=Yj S b r a):
  evF (Z5A S B) 40 23 [.agg [.int .i64 b,.int .i64 r],.int .i64 a] ⟨0,[]⟩ (Xd (fun u=>u=.tuple [.int .i64 v,.int .i64 e])):=by
 refine @Eq.mpr _ (let f:=AV.int i64 0;let d:=AV.tuple [AV.int i64 v,AV.int i64 e];let c:=AV.tuple [f,AV.int i64 2]=d;let h:=wrap i64 (0+b);let g:=AV.tuple [f,AV.int i64 150]=d;
 Z9 (decide (b<0)) c (Z9 (decide (b>1125899906842624)) c (Z9 (decide (r<0)) c (Z9 (decide (r>1000000)) c (Z9 (decide (a<0)) c (Z9 (decide (a>1125899906842624)) c (Z9 (decide (r<0)) c (Z9 (decide (r>1000000)) c (∃(r_1:Int),
 let i:=wrap i64 (h+S a r_1);
 wrap u64 r=wrap u64 r_1/\1000000=B/\AmR a r_1/\Z9 (decide (b<0)) c (Z9 (decide (b>1125899906842624)) c (Z9 (decide (S a r_1<0)) c (Z9 (decide (S a r_1>1125899906842624)) c (Z9 (decide (h>1125899906842624)) g (Z9 (decide (i>1125899906842624)) g (AV.tuple [AV.int i64 i,f]=d))))))))))))))) (by kernel_rfl) ?_
 conv=>zeta
 try simp only [vcA]
 try simp only [vcB]
 try simp only [vcC]
 have key:∀w e',(v,e)=(w,e')->AV.tuple [.int .i64 w,.int .i64 e']=AV.tuple [.int .i64 v,.int .i64 e]:=fun w e' h=>by
  obtain ⟨rfl,rfl⟩:=Prod.mk.inj h
  rfl
 have bad:¬((0<=b/\b<=1125899906842624)/\(0<=r/\r<=1000000)/\0<=a/\a<=1125899906842624)->(v,e)=(0,2):=fun h=>by rw [hv];unfold Yj;rw [if_neg h]
 refine ⟨fun h=>key _ _ (bad (by omega)),fun h1=>⟨fun h=>key _ _ (bad (by omega)),fun h2=>⟨fun h=>key _ _ (bad (by omega)),fun h3=>⟨fun h=>key _ _ (bad (by omega)),fun h4=>⟨fun h=>key _ _ (bad (by omega)),fun h5=>⟨fun h=>key _ _ (bad (by omega)),fun h6=>⟨fun h=>key _ _ (bad (by omega)),fun h7=>⟨fun h=>key _ _ (bad (by omega)),fun h8=> ?_⟩⟩⟩⟩⟩⟩⟩⟩
 have hA:AmR a r:=⟨⟨by omega,by omega⟩,⟨by omega,by omega⟩⟩
 obtain ⟨s1,s2⟩:=hS a r hA
 have hc:(0<=b/\b<=1125899906842624)/\(0<=r/\r<=1000000)/\0<=a/\a<=1125899906842624:=by omega
 unfold Yj at hv
 rw [if_pos hc] at hv
 have e0:i64.wrap (0+b)=b:=by rw [Vc (by omega) (by omega)];omega
 have e1:i64.wrap (b+S a r)=b+S a r:=Vc (by omega) (by omega)
 refine ⟨r,rfl,hB.symm,hA,fun h=>by omega,fun _=>⟨fun h=>by omega,fun _=>⟨fun h=>by omega,fun _=>⟨fun h=>by omega,fun _=> ?_⟩⟩⟩⟩
 rw [e0,e1]
 refine ⟨fun h=>by omega,fun _=>⟨fun h=>key _ _ ?_,fun h=>key _ _ ?_⟩⟩
 ·rw [hv,if_pos h]
 ·rw [hv,if_neg h]
theorem Z6u (S:Int->Int->Int) (a r z:Int) (hA:AmR a r) (hz:z=Zx a r):
  evF G0 40 83 [.int .i64 a,.int .i64 r] ⟨0,[]⟩ (Xd (fun u=>u=.tuple [.int .i64 z,.int .i64 0])):=by
 refine @Eq.mpr _ (let d:=[AV.int i64 0];let c:=AV.tuple (AV.int i64 z::d);let b:=AV.tuple [AV.int i64 0,AV.int i64 2]=c;
 Z9 (decide (a>=0)) (Z9 (!decide (a<=1125899906842624)) b (Z9 (decide (r>=0)) (Z9 (!decide (r<=1000000)) b (AV.tuple (AV.int i64 (wrap i64 (wrap i64 (wrap i64 (Int.tdiv a 1000000)*r)+wrap i64 (Int.tdiv (wrap i64 (Int.tmod a 1000000*r)) 1000000)))::d)=c)) b)) b) (by kernel_rfl) ?_
 conv=>zeta
 try simp only [vcA]
 try simp only [vcB]
 try simp only [vcC]
 obtain ⟨h1,h2⟩:=hA
 have hP:a.toNat/1000000*r.toNat<=1125899907*1000000:=JP (by omega) (by omega)
 have hQ:a.toNat%1000000*r.toNat<=1000000*1000000:=JP (by omega) (by omega)
 have ea:a=((a.toNat:Nat):Int):=by omega
 have er:r=((r.toNat:Nat):Int):=by omega
 have hz2:z=((a.toNat/1000000*r.toNat+a.toNat%1000000*r.toNat/1000000:Nat):Int):=by
  rw [hz]
  unfold Zx
  congr 1
  conv=>lhs;rw [<-Nat.div_add_mod a.toNat 1000000]
  rw [JE,Nat.mul_assoc,Nat.mul_add_div (by omega)]
 have e1:i64.wrap (a.tdiv 1000000)=((a.toNat/1000000:Nat):Int):=by
  rw [JD (by omega),Vc (by omega) (by omega)]
  omega
 have e2:a.tmod 1000000=((a.toNat%1000000:Nat):Int):=by
  rw [Int.tmod_eq_emod_of_nonneg (by omega)]
  omega
 have e3:((a.toNat/1000000:Nat):Int)*r=((a.toNat/1000000*r.toNat:Nat):Int):=by rw [Int.natCast_mul];rw [<-er]
 have e4:((a.toNat%1000000:Nat):Int)*r=((a.toNat%1000000*r.toNat:Nat):Int):=by rw [Int.natCast_mul];rw [<-er]
 rw [e1,e2,e3,e4]
 generalize a.toNat/1000000*r.toNat=p at*
 generalize a.toNat%1000000*r.toNat=q at*
 have e5:i64.wrap ((p:Nat):Int)=p:=Vc (by omega) (by omega)
 have e6:i64.wrap ((q:Nat):Int)=q:=Vc (by omega) (by omega)
 rw [e5,e6,JD (by omega),Vc (x:=(q:Int)/1000000) (by omega) (by omega),Vc (by omega) (by omega),hz2]
 simp [h1.1,h1.2,h2.1,h2.2]
def Z60 (S:Int->Int->Int):Yy:=fun args h K=>match args with
 | [.int .i64 a,.int .i64 r]=>AmR a r/\K (.tuple [.int .i64 (S a r),.int .i64 0])
 | _=>False
theorem Z5j (args:List AV) (h:Z1) (K:AV->Prop) (hl:Z60 Zx args h K):Zj PP 83 args h fun o h'=>∃v,o=.ret v/\h'=h/\K v:=by
 unfold Z60 at hl
 split at hl
 ·exact ZT Yd rfl (Z6u Zx _ _ _ hl.1 rfl) fun u hu=>hu▸hl.2
 ·exact hl.elim
noncomputable def Z5B (S:Int->Int->Int):Zk:=G0.withP 83 (Z60 S)
theorem Z4C:(Z5B Zx).Ok:=Zk.withP_ok Yd Z5j
theorem Z5k (S:Int->Int->Int) (b r a v e:Int) (hS:∀a r,AmR a r->0<=S a r/\S a r<=1125899906842624) (hv:(v,e)=Yj S b r a):
  evF (Z5B S) 40 28 [.agg [.int .i64 b,.int .i64 r],.int .i64 a] ⟨0,[]⟩ (Xd (fun u=>u=.tuple [.int .i64 v,.int .i64 e])):=by
 refine @Eq.mpr _ (let f:=AV.int i64 0;let d:=AV.tuple [AV.int i64 v,AV.int i64 e];let c:=AV.tuple [f,AV.int i64 2]=d;let i:=wrap i64 (0+b);let h:=AV.tuple [f,AV.int i64 150]=d;let g:=wrap i64 (i+S a r);
 Z9 (decide (b>=0)) (Z9 (decide (b<=1125899906842624)) (Z9 (decide (r>=0)) (Z9 (!decide (r<=1000000)) c (Z9 (decide (a>=0)) (Z9 (!decide (a<=1125899906842624)) c (AmR a r/\Z9 (decide (b>=0)) (Z9 (!decide (b<=1125899906842624)) c (Z9 (decide (S a r>=0)) (Z9 (!decide (S a r<=1125899906842624)) c (Z9 (decide (i>1125899906842624)) h (Z9 (decide (g>1125899906842624)) h (AV.tuple [AV.int i64 g,f]=d)))) c)) c)) c)) c) c) c) (by kernel_rfl) ?_
 conv=>zeta
 try simp only [vcA]
 try simp only [vcB]
 try simp only [vcC]
 have key:∀w e',(v,e)=(w,e')->AV.tuple [.int .i64 w,.int .i64 e']=AV.tuple [.int .i64 v,.int .i64 e]:=fun w e' h=>by
  obtain ⟨rfl,rfl⟩:=Prod.mk.inj h
  rfl
 have bad:¬((0<=b/\b<=1125899906842624)/\(0<=r/\r<=1000000)/\0<=a/\a<=1125899906842624)->(v,e)=(0,2):=fun h=>by rw [hv];unfold Yj;rw [if_neg h]
 have nt:∀{x y:Int},(!decide (x<=y))=true->¬x<=y:=fun h=>by simpa using h
 have nf:∀{x y:Int},(!decide (x<=y))=false->x<=y:=fun h=>by simpa using h
 refine ⟨fun h1=>⟨fun h2=>⟨fun h3=>⟨fun h=>key _ _ (bad (by have:=nt h;omega)),fun h4=>⟨fun h5=>⟨fun h=>key _ _ (bad (by have:=nt h;omega)),fun h6=> ?_⟩,fun h=>key _ _ (bad (by omega))⟩⟩,fun h=>key _ _ (bad (by omega))⟩,fun h=>key _ _ (bad (by omega))⟩,fun h=>key _ _ (bad (by omega))⟩
 replace h4:=nf h4
 replace h6:=nf h6
 have hA:AmR a r:=⟨⟨by omega,by omega⟩,⟨by omega,by omega⟩⟩
 obtain ⟨s1,s2⟩:=hS a r hA
 have hc:(0<=b/\b<=1125899906842624)/\(0<=r/\r<=1000000)/\0<=a/\a<=1125899906842624:=by omega
 unfold Yj at hv
 rw [if_pos hc] at hv
 have e0:i64.wrap (0+b)=b:=by rw [Vc (by omega) (by omega)];omega
 have e1:i64.wrap (b+S a r)=b+S a r:=Vc (by omega) (by omega)
 refine ⟨hA,fun _=>⟨fun h=>by have:=nt h;omega,fun _=>⟨fun _=>⟨fun h=>by have:=nt h;omega,fun _=> ?_⟩,fun h=>by omega⟩⟩,fun h=>by omega⟩
 rw [e0,e1]
 refine ⟨fun h=>by omega,fun _=>⟨fun h=>key _ _ ?_,fun h=>key _ _ ?_⟩⟩
 ·rw [hv,if_pos h]
 ·rw [hv,if_neg h]
def Z2a (T:Int->Int->Int->Int×Int):Yy:=fun args h K=>match args with
 | [.agg [.int .i64 b,.int .i64 r],.int .i64 a]=>K (.tuple [.int .i64 (T b r a).1,.int .i64 (T b r a).2])
 | _=>False
theorem Z2J (args:List AV) (h:Z1) (K:AV->Prop) (hl:Z2a (Yj Zx) args h K):Zj PP 23 args h fun o h'=>∃v,o=.ret v/\h'=h/\K v:=by
 unfold Z2a at hl
 split at hl
 ·exact ZT Z4B rfl (Z5Z Zx 1000000 _ _ _ _ _ rfl (fun _ _=>Vx) rfl) fun u hu=>hu▸hl
 ·exact hl.elim
theorem Z4D (args:List AV) (h:Z1) (K:AV->Prop) (hl:Z2a (Yj Zx) args h K):Zj PP 28 args h fun o h'=>∃v,o=.ret v/\h'=h/\K v:=by
 unfold Z2a at hl
 split at hl
 ·exact ZT Z4C rfl (Z5k Zx _ _ _ _ _ (fun _ _=>Vx) rfl) fun u hu=>hu▸hl
 ·exact hl.elim
structure I64 (x:Int):Prop where
 lo: -9223372036854775808<=x
 hi:x<9223372036854775808
structure AbR (a c b:Int):Prop where
 ha:I64 a
 hb:I64 b
 hc:0<=c/\c<=1125899906842624
def abV (a c b:Int):Bool:=decide (b+c<=a)
theorem Z6T (a c b:Int) (z:Bool) (h:AbR a c b) (hz:z=abV a c b):
  evF G0 40 24 [.int .i64 a,.int .i64 c,.int .i64 b] ⟨0,[]⟩ (Xd (fun u=>u=.bool z)):=by
 refine @Eq.mpr _ (Z9 (decide (a>=b)) (AV.bool (decide (wrap u64 (wrap u64 a-wrap u64 b)>=wrap u64 c))=AV.bool z) (AV.bool false=AV.bool z)) (by kernel_rfl) ?_
 try simp only [vcA]
 try simp only [vcB]
 try simp only [vcC]
 obtain ⟨⟨h1,h2⟩,⟨h3,h4⟩,h5,h6⟩:=h
 subst hz
 unfold abV
 simp only [Vb]
 refine ⟨fun h=> ?_,fun h=> ?_⟩
 ·congr 1
  rw [Bool.eq_iff_iff,decide_eq_true_iff,decide_eq_true_iff]
  omega
 ·congr 1
  rw [eq_comm,decide_eq_false_iff_not]
  omega
theorem Z6v (a c b:Int) (z:Bool) (h:AbR a c b) (hz:z=abV a c b):
  evF G0 40 29 [.int .i64 a,.int .i64 c,.int .i64 b] ⟨0,[]⟩ (Xd (fun u=>u=.bool z)):=by
 refine @Eq.mpr _ (Z9 (decide (b<=wrap i64 (9223372036854775807-c))) (AV.bool (decide (a>=wrap i64 (b+c)))=AV.bool z) (AV.bool false=AV.bool z)) (by kernel_rfl) ?_
 try simp only [vcA]
 try simp only [vcB]
 try simp only [vcC]
 obtain ⟨⟨h1,h2⟩,⟨h3,h4⟩,h5,h6⟩:=h
 subst hz
 unfold abV
 have e1:i64.wrap (9223372036854775807-c)=9223372036854775807-c:=Vc (by omega) (by omega)
 rw [e1]
 refine ⟨fun h=> ?_,fun h=> ?_⟩
 ·congr 1
  rw [Bool.eq_iff_iff,decide_eq_true_iff,decide_eq_true_iff,Vc (by omega) (by omega)]
 ·congr 1
  rw [eq_comm,decide_eq_false_iff_not]
  omega
def abS (A:Int->Int->Int->Bool):Yy:=fun args h K=>match args with
 | [.int .i64 a,.int .i64 c,.int .i64 b]=>AbR a c b/\K (.bool (A a c b))
 | _=>False
theorem Z61 (args:List AV) (h:Z1) (K:AV->Prop) (hl:abS abV args h K):Zj PP 24 args h fun o h'=>∃v,o=.ret v/\h'=h/\K v:=by
 unfold abS at hl
 split at hl
 ·exact ZT Yd rfl (Z6T _ _ _ _ hl.1 rfl) fun u hu=>hu▸hl.2
 ·exact hl.elim
theorem Z5l (args:List AV) (h:Z1) (K:AV->Prop) (hl:abS abV args h K):Zj PP 29 args h fun o h'=>∃v,o=.ret v/\h'=h/\K v:=by
 unfold abS at hl
 split at hl
 ·exact ZT Yd rfl (Z6v _ _ _ _ hl.1 rfl) fun u hu=>hu▸hl.2
 ·exact hl.elim
structure YA where
 base:Int
 rate:Int
 delta:Int
 soon:Int
 far:Int
def YA.c (p:YA):List AV:=[.int .i64 p.base,.int .i64 p.rate,.int .i64 p.delta,.int .i64 p.soon,.int .i64 p.far]
structure YA.Ok (p:YA):Prop where
 base:0<=p.base/\p.base<=1125899906842624
 rate:0<=p.rate/\p.rate<=1000000
 delta:0<=p.delta/\p.delta<=1000
 soon:0<=p.soon/\p.soon<=1000
 far:0<=p.far/\p.far<=1000
def WK (p:YA):Bool:=decide ((0<=p.base/\p.base<=1125899906842624)/\(0<=p.rate/\p.rate<=1000000)/\(0<=p.delta/\p.delta<=1000)/\(0<=p.soon/\p.soon<=1000)/\0<=p.far/\p.far<=1000)
theorem W2 {p:YA}:WK p=true↔p.Ok:=by
 unfold WK
 rw [decide_eq_true_iff]
 exact ⟨fun ⟨a,b,c,d,e⟩=>⟨a,b,c,d,e⟩,fun ⟨a,b,c,d,e⟩=>⟨a,b,c,d,e⟩⟩
theorem Z0m {p:YA}:WK p=false↔¬p.Ok:=by rw [<-W2,Bool.not_eq_true]
def Z3l (b:Bool):Int:=match b with|true=>0|false=>2
noncomputable def Z5C (T:Int->Int->Int->Int×Int):Zk:=G0.withP 23 (Z2a T)
theorem Z4E:(Z5C (Yj Zx)).Ok:=Zk.withP_ok Yd Z2J
theorem Z6w {S:Int->Int->Int} {b:Int} (hS:S 0 r=0):(Yj S b r 0).2=0↔(0<=b/\b<=1125899906842624)/\(0<=r/\r<=1000000):=by
 unfold Yj
 rw [hS]
 split
 ·rename_i h
  rw [if_neg (by omega)]
  simp [h]
 ·rename_i h
  simp only [false_iff,show ((0:Int),(2:Int)).2=2 from rfl]
  omega
theorem Z62 (r:Int):Zx 0 r=0:=by unfold Zx;simp
theorem Z6U (T:Int->Int->Int->Int×Int) (p:YA) (z:Int) (hT:T=Yj Zx) (hz:z=Z3l (WK p)):
  evF (Z5C T) 40 11 [.agg p.c] ⟨0,[]⟩ (Xd (fun u=>u=.int .i64 z)):=by
 refine @Eq.mpr _ (let a:=AV.int i64 2=AV.int i64 z;
 Z9 ((T p.base p.rate 0).snd !=0) a (Z9 (decide (0<=p.delta)) (Z9 (!decide (p.delta<=1000)) a (Z9 (decide (0<=p.soon)) (Z9 (!decide (p.soon<=1000)) a (Z9 (decide (0<=p.far)) (Z9 (!decide (p.far<=1000)) a (AV.int i64 0=AV.int i64 z)) a)) a)) a)) (by kernel_rfl) ?_
 conv=>zeta
 try simp only [vcA]
 try simp only [vcB]
 try simp only [vcC]
 subst hT hz
 have yes:p.Ok->AV.int .i64 0=AV.int .i64 (Z3l (WK p)):=fun h=>by rw [W2.2 h];rfl
 have no:¬p.Ok->AV.int .i64 2=AV.int .i64 (Z3l (WK p)):=fun h=>by rw [Z0m.2 h];rfl
 have nt:∀{x y:Int},(!decide (x<=y))=true->¬x<=y:=fun h=>by simpa using h
 have nf:∀{x y:Int},(!decide (x<=y))=false->x<=y:=fun h=>by simpa using h
 have t0:=Z6w (S:=Zx) (b:=p.base) (r:=p.rate) (Z62 _)
 refine ⟨fun h=>no fun ho=> ?_,fun h=> ?_⟩
 ·have:=t0.2 ⟨ho.base,ho.rate⟩
  rw [this] at h
  cases h
 ·have h0:(Yj Zx p.base p.rate 0).2=0:=by simpa using h
  obtain ⟨b1,b2⟩:=t0.1 h0
  refine ⟨fun h1=>⟨fun h=>no fun ho=>nt h ho.delta.2,fun h2=>⟨fun h3=>⟨fun h=>no fun ho=>nt h ho.soon.2,fun h4=>⟨fun h5=>⟨fun h=>no fun ho=>nt h ho.far.2,fun h6=>yes ⟨b1,b2,⟨h1,nf h2⟩,⟨h3,nf h4⟩,⟨h5,nf h6⟩⟩⟩,fun h=>no fun ho=>h ho.far.1⟩⟩,fun h=>no fun ho=>h ho.soon.1⟩⟩,fun h=>no fun ho=>h ho.delta.1⟩
theorem Z6x (p:YA) (z:Bool) (hz:z=WK p):
  evF G0 40 7 [.agg p.c] ⟨0,[]⟩ (Xd (fun u=>u=.bool z)):=by
 refine @Eq.mpr _ (let a:=AV.bool false=AV.bool z;
 Z9 (decide (p.base>=0)) (Z9 (decide (p.base<=1125899906842624)) (Z9 (decide (p.rate>=0)) (Z9 (decide (p.rate<=1000000)) (Z9 (decide (p.delta>=0)) (Z9 (decide (p.delta<=1000)) (Z9 (decide (p.soon>=0)) (Z9 (decide (p.soon<=1000)) (Z9 (decide (p.far>=0)) (AV.bool (decide (p.far<=1000))=AV.bool z) a) a) a) a) a) a) a) a) a) (by kernel_rfl) ?_
 conv=>zeta
 try simp only [vcA]
 try simp only [vcB]
 try simp only [vcC]
 subst hz
 have no:¬p.Ok->AV.bool false=AV.bool (WK p):=fun h=>by rw [Z0m.2 h]
 refine ⟨fun h1=>⟨fun h2=>⟨fun h3=>⟨fun h4=>⟨fun h5=>⟨fun h6=>⟨fun h7=>⟨fun h8=>⟨fun h9=> ?_,fun h=>no fun ho=>h ho.far.1⟩,fun h=>no fun ho=>h ho.soon.2⟩,fun h=>no fun ho=>h ho.soon.1⟩,fun h=>no fun ho=>h ho.delta.2⟩,fun h=>no fun ho=>h ho.delta.1⟩,fun h=>no fun ho=>h ho.rate.2⟩,fun h=>no fun ho=>h ho.rate.1⟩,fun h=>no fun ho=>h ho.base.2⟩,fun h=>no fun ho=>h ho.base.1⟩
 by_cases hf:p.far<=1000
 ·rw [decide_eq_true hf,W2.2 ⟨⟨h1,h2⟩,⟨h3,h4⟩,⟨h5,h6⟩,⟨h7,h8⟩,⟨h9,hf⟩⟩]
 ·rw [decide_eq_false hf,Z0m.2 fun ho=>hf ho.far.2]
def Z5m (Pb:YA->Bool):Yy:=fun args h K=>match args with
 | [.agg [.int .i64 a,.int .i64 b,.int .i64 c,.int .i64 d,.int .i64 e]]=>K (.int .i64 (Z3l (Pb ⟨a,b,c,d,e⟩)))
 | _=>False
theorem Z2K (args:List AV) (h:Z1) (K:AV->Prop) (hl:Z5m WK args h K):Zj PP 11 args h fun o h'=>∃v,o=.ret v/\h'=h/\K v:=by
 unfold Z5m at hl
 split at hl
 ·exact ZT Z4E rfl (Z6U _ ⟨_,_,_,_,_⟩ _ rfl rfl) fun u hu=>hu▸hl
 ·exact hl.elim
def Z2L (Pb:YA->Bool):Yy:=fun args h K=>match args with
 | [.agg [.int .i64 a,.int .i64 b,.int .i64 c,.int .i64 d,.int .i64 e]]=>K (.bool (Pb ⟨a,b,c,d,e⟩))
 | _=>False
theorem Z18 (args:List AV) (h:Z1) (K:AV->Prop) (hl:Z2L WK args h K):Zj PP 7 args h fun o h'=>∃v,o=.ret v/\h'=h/\K v:=by
 unfold Z2L at hl
 split at hl
 ·exact ZT Yd rfl (Z6x ⟨_,_,_,_,_⟩ _ rfl) fun u hu=>hu▸hl
 ·exact hl.elim
end Go.Tk
end
