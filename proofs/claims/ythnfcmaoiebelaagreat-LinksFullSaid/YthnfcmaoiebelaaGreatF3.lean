/- F: part 3 of an engine (a symbolic evaluator, proved against the model) and of the walk by it. -/
import Derived.Test.YthnfcmaoiebelaaGreatF2
import Derived.Test.YthnfcmaoiebelaaGreatProg
set_option linter.unusedVariables false
set_option linter.unusedSimpArgs false
set_option maxRecDepth 100000
set_option maxHeartbeats 0
section
namespace Go.Tk
open IntKind (i64 u8 u32 u64 wrap)
theorem Zaj {E:Env} {h:Z6} {w:World} (e:Emb E h w) (b N:Nat) (B:Blk) (hb:¬X5 E h b) (hi:∀ad c,E.imm ad c->ad.block≠b)
  (hB:ZV (E.ext h.next b N) w h.next B):Emb (E.ext h.next b N) (h.add B) w:=by
 have hfr:E.blk h.next=none:=e.fresh _ (J1 _)
 have hle:E.le (E.ext h.next b N):=Env.ext_le hfr
 have hget:∀y B',(h.add B).get y=some B'->(y=h.next/\B'=B)\/(y≠h.next/\h.get y=some B'):=fun y B' hy=>by
  grind [Z6.get_add_same,Z6.get_add_other]
 refine ⟨?_, ?_, ?_, ?_,e.imm, ?_⟩
 ·intro x hx
  have hx':h.next+1<=x:=hx
  rw [Env.ext_other _ _ _ (by omega)]
  exact e.fresh x (by omega)
 ·intro x B' hx
  show x<h.next+1
  rcases hget x B' hx with ⟨rfl,_⟩|⟨_,h'⟩
  ·omega
  ·have:=e.lt x B' h';omega
 ·intro x B' hx
  rcases hget x B' hx with ⟨rfl,rfl⟩|⟨hne,h'⟩
  ·exact hB
  ·exact (e.own x B' h').mono hle (fun hn=>by rw [Env.ext_other _ _ _ hne];exact hn)
 ·intro x y B1 B2 b' M M' hx hy hbx hby
  rcases hget x B1 hx with ⟨rfl,_⟩|⟨hnx,hx'⟩<;>rcases hget y B2 hy with ⟨rfl,_⟩|⟨hny,hy'⟩
  ·rfl
  ·rw [Env.ext_same] at hbx;cases hbx
   rw [Env.ext_other _ _ _ hny] at hby
   exact absurd ⟨y,B2,M',hy',hby⟩ hb
  ·rw [Env.ext_same] at hby;cases hby
   rw [Env.ext_other _ _ _ hnx] at hbx
   exact absurd ⟨x,B1,M,hx',hbx⟩ hb
  ·rw [Env.ext_other _ _ _ hnx] at hbx;rw [Env.ext_other _ _ _ hny] at hby
   exact e.disj x y B1 B2 b' M M' hx' hy' hbx hby
 ·intro ad c x B' M him hx hbx
  rcases hget x B' hx with ⟨rfl,_⟩|⟨hne,hx'⟩
  ·rw [Env.ext_same] at hbx
   have:b=ad.block:=by simp_all
   exact hi ad c him this.symm
  ·rw [Env.ext_other _ _ _ hne] at hbx
   exact e.sep ad c x B' M him hx' hbx
theorem Z14 {E:Env} {h:Z6} {b N b':Nat} {B:Blk} (ho:X5 (E.ext h.next b N) (h.add B) b'):b'=b\/X5 E h b':=by
 obtain ⟨x,C,M,hx,hb⟩:=ho
 by_cases hn:h.next=x
 ·simp_all [Env.ext_same]
 ·rw [Z6.get_add_other _ _ _ hn] at hx
  rw [Env.ext_other _ _ _ (fun e=>hn e.symm)] at hb
  exact .inr ⟨x,C,M,hx,hb⟩
theorem Z4j {E0:Env} {h0:Z6} {w0:World} {E:Env} {h:Z6} {w:World} (v:Evo E0 h0 w0 E h w) (b N:Nat) (B:Blk) (hb:¬X5 E h b) (hi:∀ad c,E.imm ad c->ad.block≠b)
  (hB:ZV (E.ext h.next b N) w h.next B) (hw:w0.heap.size<=b):Evo E0 h0 w0 (E.ext h.next b N) (h.add B) w:=
 ⟨v.le.trans (Env.ext_le (v.emb.fresh _ (J1 _))),Zaj v.emb b N B hb hi hB,v.size,v.os,v.tape,v.output,v.keep,fun b' ho=>by
  rcases Z14 ho with rfl|ho
  ·omega
  ·exact v.own b' ho,v.imm⟩
theorem VX {P:Program} {t:ZM} {h:Z6} {K:Prop}:∀{pend:List (It×AV)},Vn P t h K pend->K/\∀q v,(q,v)∈pend->worldless q.o.op=true\/Z12 P q t h v
 | [],hk=>⟨hk,by simp⟩
 | (it,u)::r,hk=>by
  unfold Vn at hk
  split at hk
  ·rename_i hw
   have:=VX hk
   refine ⟨this.1,fun q v' hq=> ?_⟩
   rcases J7.1 hq with h4|h4
   ·cases h4;exact .inl hw
   ·exact this.2 q v' h4
  ·obtain ⟨v,h12,h3⟩:=Z92 hk
   obtain ⟨h1,h2⟩:=Z0l _ _ _ h12
   subst h1
   have:=VX h2
   refine ⟨this.1,fun q v' hq=> ?_⟩
   rcases J7.1 hq with h4|h4
   ·cases h4;exact .inr h3
   ·exact this.2 q v' h4
theorem Z4k {P:Program} {o:Oper} {T:TypeId} (ho:o.op=.alloc T) {z:Value} (hz:∀w,(zeroValue T).run P w=.ok z w) (ρ:Operand->Value) (w:World):
  (execOp ρ o).run P w=.ok (.value (.pointer (some ⟨w.heap.size,0,none⟩))) { w with heap:=w.heap.push (.cells z.cells T (0,0))}:=by
 simp_all [execOp,Instr.alloc,newVar,newRow]
theorem Z3d {P:Program} {it:It} {t:ZM} {h:Z6} {K:AV->Z6->Prop} (hl:ZL it=true) (h1:Z4e P h it.o.op t K):
  ∃v B,K v (h.add B)/\∀(E:Env) (a:Act),(∀x u,ZD t x=some u->Zc E u (a.tmps.getD x undef))->
   ∃mkv obj N,WX P it a mkv obj/\∀(E':Env) (w':World) (b:Nat),E.le E'->E'.blk h.next=some (b,N)->w'.heap[b]? =some obj->ZV E' w' h.next B/\Zc E' v (mkv b):=by
 rcases Uu hl with ⟨T,ho⟩|⟨T,len,ps,ho,_,hlen0⟩
 ·rw [ho] at h1
  unfold Z4e Z2A at h1
  simp only at h1
  split at h1
  ·rename_i cs hz
   obtain ⟨z,z1,z2⟩:=WB hz
   refine ⟨_,_,h1,fun E a _=>⟨fun b=>.pointer (some ⟨b,0,none⟩),.cells z.cells T (0,0),z.cells.size,fun w=>Z4k ho z1 _ w,fun E' w' b hle hb hw=>⟨?_,QA hb⟩⟩⟩
   exact .flat cs b z.cells T (0,0) z.cells.toList hb hw (WC _) ((z2 E).mono hle) (fun j c hj=>by simp_all)
  simp_all
 ·rw [ho] at h1
  unfold Z4e XW at h1
  simp only at h1
  split at h1
  ·rename_i e hu
   split at h1
   ·rename_i size vs hs hrow
    split at h1
    ·rename_i zc hb1 hb2 hz
     have hlen:vs.length=len:=J0 hb1
     have hle:=V9 hb2
     obtain ⟨z,hz1,_⟩:=WB hz
     have hrun:∀(a:Act) (rs:List Value) (cells:Array Value),(ps.toList.map fun (x:Nat×Operand)=>(x.1,a.eval x.2))=XV 0 rs->
       (∀w:World,(Instr.buildSlice T len (XV 0 rs).toArray).run P w=((newRow e cells).run P w).andThen fun ad w'=>.ok (.slice (some ad) len len) w')->
       WX P it a (fun b=>.slice (some ⟨b,0,none⟩) len len) (.cells cells e (0,0)):=fun a rs cells hr hc w=>by
      have e1:(ps.map fun (x:Nat×Operand)=>(x.1,a.eval x.2))=(XV 0 rs).toArray:=by
       grind
      simp_all [execOp,newRow]
     split at h1
     ·simp_all
     ·split at h1
      ·rename_i k hue hb
       have hsz:size=1:=J0 hb
       subst hsz
       split at h1
       ·rename_i xs hx
        refine ⟨_,_,h1,fun E a ht=> ?_⟩
        obtain ⟨rs,hr1,hr2⟩:=Wx _ _ _ _ hrow (Uj (a:=a) (n:=a.tmps.size) ⟨rfl,ht⟩ ps.toList)
        obtain ⟨i0,i1,i2⟩:=QB _ _ _ hx hr1
        have hrl:rs.length=len:=by rw [hr1.length,hlen]
        obtain ⟨cells,c1,c2,c3⟩:=run_buildSlice hu hs hle hz1 rs hrl i1
        refine ⟨_,_,cells.size,hrun a rs cells hr2 c3,fun E' w' b hlE hb' hw=>⟨?_, ?_⟩⟩
        ·exact .ints k xs b cells e (0,0) hb' hw (WC _) (fun j hj=>c2 _ _ (i2 j hj))
        ·exact .nslice ⟨h.next,0,0,0,0⟩ 1 len len b cells.size len hb' (J1 _) (J1 _) (by simp [ZI.tot,c1])
       simp_all
      ·simp_all
      ·split at h1
       ·rename_i cs hcat
        refine ⟨_,_,h1,fun E a ht=> ?_⟩
        obtain ⟨rs,hr1,hr2⟩:=Wx _ _ _ _ hrow (Uj (a:=a) (n:=a.tmps.size) ⟨rfl,ht⟩ ps.toList)
        obtain ⟨i1,i2⟩:=Z2F _ _ _ hcat hr1
        have hrl:rs.length=len:=by rw [hr1.length,hlen]
        obtain ⟨cells,c1,c2,c3⟩:=run_buildSlice hu hs hle hz1 rs hrl i2
        refine ⟨_,_,cells.size,hrun a rs cells hr2 c3,fun E' w' b hlE hb' hw=>⟨?_, ?_⟩⟩
        ·exact .flat cs b cells e (0,0) _ hb' hw (WC _) (i1.mono hlE) c2
        ·exact .nslice ⟨h.next,0,0,0,0⟩ size len len b cells.size len hb' (J1 _) (J1 _) (by simp [ZI.tot,c1])
       simp_all
    simp_all
   simp_all
  simp_all
theorem WX.uniq {P:Program} {it:It} {a:Act} {mkv mkv':Nat->Value} {obj obj':Obj} (w:World) (h:WX P it a mkv obj) (h':WX P it a mkv' obj'):(∀b,mkv b=mkv' b)/\obj=obj':=by
 have key:∀b,mkv b=mkv' b/\obj=obj':=fun b=>by
  have h1:=h { w with heap:=Array.replicate b obj}
  rw [h'] at h1
  simp only [Result.ok.injEq,World.mk.injEq] at h1
  have h2:=h1.2
  have h3:=h2.1
  have h4:=Array.push_inj_right.1 h3
  simp_all
 exact ⟨fun b=>(key b).1,(key 0).2⟩
section
variable {P:Program} {all:List Oper} {its0 its:List It} {sp:Option SpD} {n0:Nat} {E0:Env} {h0:Z6} {w0:World} {L:Nat->Prop} {bl:Nat->Nat} {rem rem':List It} {D:Nat} {pend pend':List (It×AV)} {s s2:St} {E:Env} {a:Act} {w:World}
theorem Inv.adoptStep (hst:Stat P all its0 its sp n0) (I:Inv P all its sp E0 h0 w0 L bl rem D pend s E a w) {it:It} (hit:it∈rem) (hl:ZL it=true) (hm:∀p,it.m.testBit p=true->L p) (hL:L it.i) (hp:∀q∈its,∀v,(q,v)∈pend->L q.i\/worldless q.o.op=true\/Z12 P q s2.t s2.h v) {v:AV} {B:Blk}
  (hv:∀(E:Env) (a:Act),(∀x u,ZD (WU s.t (opT it.o.op)) x=some u->Zc E u (a.tmps.getD x undef))->
   ∃mkv obj N,WX P it a mkv obj/\∀(E':Env) (w':World) (b:Nat),E.le E'->E'.blk s.h.next=some (b,N)->w'.heap[b]? =some obj->ZV E' w' s.h.next B/\Zc E' v (mkv b))
  (hr:∀x,x∈rem'↔x∈rem/\x≠it) (hnd:rem'.Pairwise fun a b=>a.i≠b.i)
  (e1:s2.h=s.h.add B) (e2:s2.n=s.n) (e3:s2.d=s.d) (e4:∀x,it.o.dst=some x->ZD s2.t x=some v/\x<s.n) (e5:∀x,it.o.dst≠some x->ZD s2.t x=ZD s.t x):
  ∃E',Inv P all its sp E0 h0 w0 L bl rem' (Nat.lor D (2^it.i)) pend s2 E' a w:=by
 have hits:=I.sub it hit
 obtain ⟨mkv,obj,z1,z2,z3,z4,z5,z6,z7⟩:=I.adopt it hit hL hl
 obtain ⟨mkv',obj',N,y1,y2⟩:=hv E a fun x u hu=>by
  have h1:=XG hu
  exact I.tmps x u h1.1 fun q hq' hdq _ _=>hm _ (hst.lrd it hits hl q hq' x hdq h1.2)
 obtain ⟨u1,rfl⟩:=z1.uniq w y1
 have hle:E.le (E.ext s.h.next (bl it.i) N):=Env.ext_le (I.evo.emb.fresh _ (J1 _))
 obtain ⟨b1,b2⟩:=y2 (E.ext s.h.next (bl it.i) N) w (bl it.i) hle (Env.ext_same ..) z3
 have hback:∀q∈its,q∉rem'->q=it\/q∉rem:=fun q _ hn=>by
  by_cases h:q=it
  ·exact .inl h
  ·exact .inr fun hr'=>hn ((hr q).2 ⟨hr',h⟩)
 have hfwd:∀q,q∉rem->q∉rem':=fun q hn h=>hn ((hr q).1 h).1
 have hev:=Z4j I.evo (bl it.i) N B z4 z5 b1 z6
 refine ⟨E.ext s.h.next (bl it.i) N,⟨fun q hq'=>I.sub q ((hr q).1 hq').1,hnd,fun q hq' hb=> ?_,fun q hq' hnl hn p hp' hb=> ?_,fun q hq' he=> ?_,fun q hq' hl' hn=> ?_,fun q hq' hqq hL'=>hfwd q (I.quiet q hq' hqq hL'),fun q hq' hqq hn hL'=> ?_,by rw [e2];exact I.size,fun x u hx hc=> ?_,
  by rw [e3];exact I.defs.mono hle,by rw [e1];exact hev,fun q hq' hl' x hx=> ?_,fun q hq' hL' hT'=> ?_,fun q hq' q' hq''=>I.inj q ((hr q).1 hq').1 q' ((hr q').1 hq'').1,fun q hq' x hx hn=> ?_,fun q hq' hn=> ?_,by rw [e2];exact I.ln, ?_⟩⟩
 ·rcases Z5y hb with h|h
  ·exact hfwd q (I.dbit q hq' h)
  ·have:q=it:=hst.uniq q hq' it hits h
   subst this
   exact fun h=>((hr q).1 h).2 rfl
 ·rcases hback q hq' hn with rfl|hn'
  ·rw [hl] at hnl;cases hnl
  ·exact hfwd p (I.born q hq' hnl hn' p hp' hb)
 ·rw [I.eff q hq' he]
  have:q≠it:=fun h=>by subst h;rw [YN he] at hl;cases hl
  exact ⟨fun h=>hfwd q h,fun h h'=>h ((hr q).2 ⟨h',this⟩)⟩
 ·rcases hback q hq' hn with rfl|h
  ·exact hL
  ·exact I.late q hq' hl' h
 ·have hqi:q≠it:=fun h=>by subst h;rw [ZY hqq] at hl;cases hl
  have hn':q∉rem:=(hback q hq' hn).resolve_left hqi
  obtain ⟨u,h1,h2⟩:=I.fact q hq' hqq hn' hL'
  have hsame:∀x∈Wb all q.o,ZD s2.t x=ZD s.t x:=fun x hx=>e5 x fun hd=>by
   rcases hst.rd it hits q hq' (fun e=>hqi e.symm) x hd hx with h|⟨h3,h4⟩
   ·exact I.born q hq' (ZY hqq) hn' it hits h hit
   ·rcases h4 with h4|⟨h4,_⟩
    ·rw [YN h4] at hl;cases hl
    ·rw [ZY h4] at hl;cases hl
  refine ⟨u,fun x hx=> ?_, ?_⟩
  ·rw [e5 x fun hd=>hst.dst it hits q hq' (fun e=>hqi e.symm) x hd hx]
   exact h1 x hx
  ·rw [WW fun x hx=>hsame x (JO _ hx)]
   rcases h2 with ⟨h0,h3,h4⟩|h
   ·rcases hp _ hq' _ h3 with h5|h5|h5
    ·exact absurd h5 hL'
    ·refine .inl ⟨h0,h3,fun E' w' a' _ hx=>h4 E' w' a' (fun hw=>by rw [h5] at hw;cases hw) fun x hx' u hu=>hx x hx' u ?_⟩
     rw [hsame x (JB _ hx')];exact hu
    ·exact .inl ⟨h0,h3,h5⟩
   ·exact .inr h
 ·by_cases hd:it.o.dst=some x
  ·rw [(e4 x hd).1] at hx
   cases hx
   rw [z2 x hd,u1]
   exact b2
  ·rw [e5 x hd] at hx
   exact (I.tmps x u hx fun q hq' hdq hqq hn=>hc q hq' hdq hqq (hfwd q hn)).mono hle
 ·have hq1:=(hr q).1 hq'
  rw [e5 x fun hd=>hst.dst it hits q (I.sub q hq1.1) (fun e=>hq1.2 e.symm) x hd hx]
  exact I.lt q hq1.1 hl' x hx
 ·have hq1:=(hr q).1 hq'
  obtain ⟨y,y0,y1,y2,y3,y4,y5,y6,y7⟩:=I.adopt q hq1.1 hL' hT'
  refine ⟨y,y0,y1,y2,y3,fun ho=> ?_,y5,y6,y7⟩
  rw [e1] at ho
  rcases Z14 ho with h|h
  ·exact hq1.2 (I.inj q hq1.1 it hit hL' hL hT' hl h)
  simp_all
 ·rw [e2]
  rcases hback q hq' hn with rfl|hn'
  ·simp_all
  ·exact I.dst q hq' x hx hn'
 ·rcases hback q hq' hn with rfl|hn'
  ·simp_all
  ·exact Z3c (I.dset q hq' hn')
 ·exact I.mp.step (fun d hd=>⟨id,fun j _=>.rfl⟩) (fun d hd h=>by rw [e5 _ (XI hst hd hits).2.2.1];exact h) rfl (fun _ _=>rfl) (fun _ _ _ _ _=>rfl) (fun _ _ _=>rfl)
   (fun b _ hno hne ho=>by
    grind [Z14])
   (fun _ _ h=>h) (J1 _) (fun q hq' hL' hl' b _ hb=>hb q ((hr q).1 hq').1 hL' hl')
theorem Z6r (hst:Stat P all its0 its sp n0) (hmc:∀it∈its,L it.i->∀p,it.m.testBit p=true->L p) {m:Nat} {pd:List (It×AV)} {K:List It->Nat->St->Prop} (hmL:∀it∈its,ZL it=true->m.testBit it.i=true->L it.i) (hok:∀q∈its,∀v,(q,v)∈pend->L q.i\/(q,v)∈pd):
  ∀(todo kept:List It) (D:Nat) (s:St) (E:Env),Z10 P m pd todo kept D s K->Inv P all its sp E0 h0 w0 L bl (kept++todo) D pend s E a w->
   (∀q∈kept,ZL q=true->m.testBit q.i=false)->
   ∃rem D' s' E',K rem D' s'/\Inv P all its sp E0 h0 w0 L bl rem D' pend s' E' a w/\(∀q,q∈rem->q∈kept++todo)/\(∀q,q∈kept++todo->ZL q=false->q∈rem)/\(∀q∈rem,ZL q=true->m.testBit q.i=false):=by
 intro todo
 induction todo with
 | nil=>intro kept D s E h I hk;exact ⟨kept,D,s,E,h,by simp_all,fun q hq=>by simp_all,fun q hq _=>by simp_all,hk⟩
 | cons it r ih=>
  intro kept D s E h I hk
  unfold Z10 at h
  split at h
  ·rename_i hlb
   ·rw [J2] at hlb
    obtain ⟨hl,hb⟩:=hlb
    ·obtain ⟨v,B,h,hv⟩:=Z3d hl h
     obtain ⟨s2,k0,k1,k2,k3,k4,k5⟩:=YW h
     obtain ⟨k0,krc⟩:=VX k0
     have hmem:it∈kept++it::r:=by simp
     have hnd:=I.nodup
     have hnd':(kept++r).Pairwise fun a b=>a.i≠b.i:=hnd.sublist (List.Sublist.append (List.Sublist.refl _) (List.sublist_cons_self _ _))
     have hr:∀x,x∈kept++r↔x∈kept++it::r/\x≠it:=fun x=>by
      grind
     have hLi:=hmL it (I.sub it hmem) hl hb
     obtain ⟨E',I'⟩:=I.adoptStep hst hmem hl (hmc it (I.sub it hmem) hLi) hLi (fun q hq v hqv=>(hok q hq v hqv).imp id (krc q v)) hv hr hnd' k1 k2 k3 k4 k5
     grind
  ·obtain ⟨rem,D',s',E',k1,k2,k3,k4,k5⟩:=ih (kept++[it]) D s E h (by simp_all) (fun q hq hl=>by
    grind)
   grind
theorem Z15 (hst:Stat P all its0 its sp n0) (hm:∀q∈its0,L q.i->∀p,q.m.testBit p=true->L p) {it q:It} (hits:it∈its) (hq:q∈its) (hl:ZL q=true) (hL:L q.i) (hnL:¬L it.i) {a a':Act} {r:Value} (ha:a'=a.put it.o.dst r) {mkv:Nat->Value} {obj:Obj}
  (h:WX P q a mkv obj):WX P q a' mkv obj:=by
 subst ha
 refine h.congr hl fun x hx=>Yo fun hd=>hnL ?_
 exact hm q (hst.sub q hq) hL _ (hst.lrd q hq hl it hits x hd hx)
theorem Z7Y (hst:Stat P all its0 its sp n0) (hm:∀q∈its0,L q.i->∀p,q.m.testBit p=true->L p) {it:It} (hits:it∈its) (hnL:¬L it.i) (M:MpI sp w0 L bl rem s.t E s.h a w)
  {t':ZM} {rem':List It} {bl':Nat->Nat} {E':Env} {h':Z6} {a':Act} {w':World} {r:Value} (ha:∀x,a'.tmps.getD x undef=(a.put it.o.dst r).tmps.getD x undef) (hz:a'.tmps.size=a.tmps.size)
  (ht:∀x,it.o.dst≠some x->ZD s.t x=none->ZD t' x=none)
  (hw:∀b,b<w.heap.size->¬X5 E s.h b->w'.heap[b]? =w.heap[b]?)
  (ho:∀b,b<w.heap.size->¬X5 E s.h b->(∀q∈rem,L q.i->ZL q=true->bl q.i≠b)->¬X5 E' h' b)
  (hi:∀ad c,E'.imm ad c->E.imm ad c)
  (hs:w.heap.size<=w'.heap.size)
  (hb:∀q∈rem',(L q.i\/q.i=it.i)->ZL q=true->∀b,b<w.heap.size->(∀q∈rem,L q.i->ZL q=true->bl q.i≠b)->bl' q.i≠b):
  MpI sp w0 (fun j=>L j\/j=it.i) bl' rem' t' E' h' a' w':=by
 refine M.step (fun d hd=> ?_) (fun d hd=>ht d.x (XI hst hd hits).2.2.1) hz (fun d hd=> ?_) (fun d hd j hj hLj=> ?_) hw ho hi hs hb
 ·have hu:=XI hst hd hits
  grind
 ·rw [ha,Yo (XI hst hd hits).2.2.1]
 ·rw [ha,Yo fun e=>hnL ((Z3b hst hd hj hm hLj).2.2 it hits e)]
theorem Inv.doQuiet (hst:Stat P all its0 its sp n0) (hm:∀q∈its0,L q.i->∀p,q.m.testBit p=true->L p) (I:Inv P all its sp E0 h0 w0 L bl rem D pend s E a w) {it:It} (hits:it∈its) (hnL:¬L it.i) (hq:Yy it=true) (hn:it∉rem) {v:AV} {r:Value} (hd:∀x,it.o.dst=some x->ZD s.t x=some v) (hv:Zc E v r):
  Inv P all its sp E0 h0 w0 (fun j=>L j\/j=it.i) bl rem D pend s E (a.put it.o.dst r) w:=by
 have hne:∀q∈its,q≠it->q.i≠it.i:=fun q hq' hn' e=>hn' (hst.uniq q hq' it hits e)
 have hback:∀q∈its,q≠it->(L q.i\/q.i=it.i)->L q.i:=fun q hq' hn' h=>h.resolve_right (hne q hq' hn')
 refine ⟨I.sub,I.nodup,I.dbit,I.born,fun q hq' he=> ?_,fun q hq' hl hn'=>.inl (I.late q hq' hl hn'),fun q hq' hqq hL=> ?_,fun q hq' hqq hn' hL=>I.fact q hq' hqq hn' (fun h=>hL (.inl h)),by rw [Xp];exact I.size,fun x u hx hc=> ?_,
  by rw [put_defers];exact I.defs,I.evo,I.lt,fun q hq' hL hT=> ?_,fun q hq' q' hq'' hL hL' hl hl' hb=> ?_,I.dst,I.dset,I.ln, ?_⟩
 ·have hqi:q≠it:=fun h=>by simp_all [Yl]
  rw [<-I.eff q hq' he]
  simp_all
 ·by_cases hqi:q=it
  ·simp_all
  ·exact I.quiet q hq' hqq (hback q hq' hqi hL)
 ·by_cases hdx:it.o.dst=some x
  ·rw [hd x hdx] at hx
   cases hx
   rw [hdx,Ut (by rw [I.size];exact I.dst it hits x hdx hn)]
   exact hv
  ·rw [Yo hdx]
   refine I.tmps x u hx fun q hq' hdq hqq hn'=>hback q hq' (fun e=> ?_) (hc q hq' hdq hqq hn')
   simp_all
 ·have hqi:q≠it:=fun h=>by simp_all
  have hLq:=hback q (I.sub q hq') hqi hL
  obtain ⟨y,y0,y1,y2,y3,y4,y5,y6,y7⟩:=I.adopt q hq' hLq hT
  refine ⟨y,y0,Z15 hst hm hits (I.sub q hq') hT hLq hnL rfl y1,fun x hx=> ?_,y3,y4,y5,y6,y7⟩
  rw [Yo (hst.dst q (I.sub q hq') it hits hqi x hx)]
  simp_all
 ·have hqi:q≠it:=fun h=>by simp_all
  have hqi':q'≠it:=fun h=>by simp_all
  exact I.inj q hq' q' hq'' (hback q (I.sub q hq') hqi hL) (hback q' (I.sub q' hq'') hqi' hL') hl hl' hb
 ·refine Z7Y hst hm hits hnL I.mp (fun _=>rfl) Xp (fun _ _ h=>h) (fun _ _ _=>rfl) (fun _ _ h _=>h) (fun _ _ h=>h) (J1 _) (fun q hq' hL hl b _ hb=>hb q hq' ?_ hl)
  exact hback q (I.sub q hq') (fun h=>by simp_all) hL
theorem Inv.doLate (hst:Stat P all its0 its sp n0) (hm:∀q∈its0,L q.i->∀p,q.m.testBit p=true->L p) (I:Inv P all its sp E0 h0 w0 L bl rem D pend s E a w) {it:It} (hit:it∈rem) (hl:ZL it=true) (hnL:¬L it.i) {mkv:Nat->Value} {obj:Obj} (hz:WX P it a mkv obj):
  Inv P all its sp E0 h0 w0 (fun j=>L j\/j=it.i) (fun j=>if j=it.i then w.heap.size else bl j) rem D pend s E (a.put it.o.dst (mkv w.heap.size)) { w with heap:=w.heap.push obj}:=by
 have hits:=I.sub it hit
 have hne:∀q∈its,q≠it->q.i≠it.i:=fun q hq' hn' e=>hn' (hst.uniq q hq' it hits e)
 have hback:∀q∈its,q≠it->(L q.i\/q.i=it.i)->L q.i:=fun q hq' hn' h=>h.resolve_right (hne q hq' hn')
 have hnown:¬X5 E s.h w.heap.size:=fun ⟨x,B,N,hx,hb⟩=>by
  have:=(I.evo.emb.own x B hx).lt hb
  omega
 have hnimm:∀ad c,E.imm ad c->ad.block≠w.heap.size:=fun ad c hi e=>by
  have h1:=I.evo.emb.imm ad c hi
  simp [World.cell?,e] at h1
 have key:∀q∈rem,q≠it->(L q.i\/q.i=it.i)->ZL q=true->bl q.i<w.heap.size:=fun q hq hqi hL hl'=>by
  obtain ⟨y,y0,y1,y2,y3,y4,y5,y6,y7⟩:=I.adopt q hq (hback q (I.sub q hq) hqi hL) hl'
  exact y7
 refine ⟨I.sub,I.nodup,I.dbit,I.born,fun q hq' he=> ?_,fun q hq' hl' hn'=>.inl (I.late q hq' hl' hn'),fun q hq' hqq hL=> ?_,fun q hq' hqq hn' hL=>I.fact q hq' hqq hn' (fun h=>hL (.inl h)),by rw [Xp];exact I.size,fun x u hx hc=> ?_,
  by rw [put_defers];exact I.defs,I.evo.trans (Z2C I.evo.emb _),I.lt,fun q hq' hL hT'=> ?_,fun q hq' q' hq'' hL hL' hl1 hl2 hb=> ?_,I.dst,I.dset,I.ln, ?_⟩
 ·have hqi:q≠it:=fun h=>by simp_all [YN]
  rw [<-I.eff q hq' he]
  simp_all
 ·have hqi:q≠it:=fun h=>by simp_all [ZY]
  exact I.quiet q hq' hqq (hback q hq' hqi hL)
 ·by_cases hdx:it.o.dst=some x
  ·rw [I.lt it hit hl x hdx] at hx;cases hx
  ·rw [Yo hdx]
   refine I.tmps x u hx fun q hq' hdq hqq hn'=>hback q hq' (fun e=> ?_) (hc q hq' hdq hqq hn')
   simp_all
 ·by_cases hqi:q=it
  ·subst hqi
   refine ⟨mkv,obj,hz.congr hl fun x hx=>Yo fun hd=>hst.self q hits ?_ x hd (JB _ hx),fun x hx=> ?_, ?_, ?_, ?_, ?_, ?_⟩
   ·simp_all [Xo]
   all_goals simp only [if_true]
   ·rw [hx,Ut (by rw [I.size];exact I.ln q hits hl x hx)]
   ·simp
   ·exact hnown
   ·exact hnimm
   ·exact I.evo.size
   ·simp
  ·simp only [if_neg (hne q (I.sub q hq') hqi)]
   have hLq:=hback q (I.sub q hq') hqi hL
   obtain ⟨y,y0,y1,y2,y3,y4,y5,y6,y7⟩:=I.adopt q hq' hLq hT'
   refine ⟨y,y0,Z15 hst hm hits (I.sub q hq') hT' hLq hnL rfl y1,fun x hx=> ?_, ?_,y4,y5,y6, ?_⟩
   ·rw [Yo (hst.dst q (I.sub q hq') it hits hqi x hx)]
    simp_all
   all_goals grind
 ·by_cases hqi:q=it
  ·by_cases hqi':q'=it
   ·rw [hqi,hqi']
   ·subst hqi
    simp only [if_true,if_neg (hne q' (I.sub q' hq'') hqi')] at hb
    have:=key q' hq'' hqi' hL' hl2
    omega
  ·by_cases hqi':q'=it
   ·subst hqi'
    simp only [if_true,if_neg (hne q (I.sub q hq') hqi)] at hb
    have:=key q hq' hqi hL hl1
    omega
   ·simp only [if_neg (hne q (I.sub q hq') hqi),if_neg (hne q' (I.sub q' hq'') hqi')] at hb
    exact I.inj q hq' q' hq'' (hback q (I.sub q hq') hqi hL) (hback q' (I.sub q' hq'') hqi' hL') hl1 hl2 hb
 ·refine Z7Y hst hm hits hnL I.mp (fun _=>rfl) Xp (fun _ _ h=>h) (fun b hb _=>World.push_old hb) (fun _ _ h _=>h) (fun _ _ h=>h) (by simp_all) (fun q hq' hL hl' b hbs hb=> ?_)
  grind
end
end Go.Tk
end
section
namespace Go.Tk
open IntKind (i64 u8 u32 u64 wrap)
theorem Z6s {qm:Nat} {all:List Oper} (hed:∀i o e,all[i]? =some o->e∈o.after.toList->Region.binds .any e=true->e.on<i):
  ∀{r:List Oper} {k:Nat} {acc:List Nat},(∀j,r[j]? =all[k+j]?)->(∀j p,(Qe acc j).testBit p=true->p<j)->acc.length=k->
   ∀it∈ZG qm k acc r,∀p,it.m.testBit p=true->p<it.i
 | [],_,_,_,_,_,it,h,_,_=>by simp [ZG] at h
 | o::r,k,acc,hr,hacc,hk,it,h,p,hp=>by
  have h0:all[k]? =some o:=by have:=hr 0;simp_all
  have hself:∀p,(Qr acc o.after.toList 0).testBit p=true->p<k:=fun p hp=>by
   rcases Q3 hp with h1|⟨e,he,hb,h2⟩
   all_goals grind
  simp only [ZG,J7] at h
  rcases h with rfl|h
  ·simp_all
  ·refine Z6s hed (k:=k+1) (acc:=acc++[Qr acc o.after.toList 0]) (fun j=> ?_) ?_ (by simp [hk]) it h p hp
   ·have:=hr (j+1)
    rw [show k+1+j=k+(j+1) from by omega,<-this]
    simp
   grind [Z4h]
theorem Q5 {m:Nat} {q:It} {v:AV}:∀{pend:List (It×AV)},(q,v)∈Vp m pend↔(q,v)∈pend/\m.testBit q.i=false
 | []=>by simp [Vp]
 | (it,u)::r=>by
  unfold Vp
  split
  ·rename_i h
   rw [Q5]
   constructor
   ·rintro ⟨h1,h2⟩;exact ⟨Jh _ h1,h2⟩
   ·rintro ⟨h1,h2⟩
    rcases J7.1 h1 with h3|h3
    ·cases h3;rw [h] at h2;cases h2
    ·exact ⟨h3,h2⟩
  ·rename_i h
   rw [J7,Q5,J7]
   constructor
   ·rintro (h1|⟨h1,h2⟩)
    ·cases h1;exact ⟨.inl rfl,h⟩
    ·exact ⟨.inr h1,h2⟩
   ·rintro ⟨h1|h1,h2⟩
    ·exact .inl h1
    ·exact .inr ⟨h1,h2⟩
theorem Yp {i:Nat} {q:It}:∀{l:List It},q∈Vo i l↔q∈l/\q.i≠i
 | []=>by simp [Vo]
 | it::r=>by
  unfold Vo
  split
  ·rename_i h
   have e:=J0 h
   rw [Yp,J7]
   constructor
   ·rintro ⟨h1,h2⟩;exact ⟨.inr h1,h2⟩
   ·rintro ⟨h1|h1,h2⟩
    ·subst h1;exact absurd e h2
    ·exact ⟨h1,h2⟩
  ·rename_i h
   have e:it.i≠i:=fun e=>by rw [e,Jj] at h;cases h
   rw [J7,Yp,J7]
   constructor
   ·rintro (h1|⟨h1,h2⟩)
    ·subst h1;exact ⟨.inl rfl,e⟩
    ·exact ⟨.inr h1,h2⟩
   ·rintro ⟨h1|h1,h2⟩
    ·exact .inl h1
    ·exact .inr ⟨h1,h2⟩
theorem Z16 {i:Nat}:∀{l:List It},(Vo i l).Sublist l
 | []=>List.Sublist.refl _
 | it::r=>by
  unfold Vo
  split
  ·exact List.Sublist.cons _ Z16
  ·exact List.Sublist.cons_cons _ Z16
theorem QL {x:Nat} {v:AV} {t:ZM}:∀{its:List It},ZD (Z38 t its) x=some v->ZD t x=some v/\∀it∈its,it.o.dst≠some x
 | [],h=>⟨h,by simp⟩
 | it::r,h=>by
  unfold Z38 at h
  split at h
  ·rename_i y hy
   by_cases hxy:y=x
   ·subst hxy;rw [XS] at h;cases h
   ·rw [Xn _ _ _ hxy] at h
    have:=QL h
    refine ⟨this.1,fun q hq=> ?_⟩
    rcases J7.1 hq with rfl|hq
    ·rw [hy];exact fun e=>hxy (by injection e)
    ·exact this.2 q hq
  ·rename_i hy
   have:=QL h
   refine ⟨this.1,fun q hq=> ?_⟩
   rcases J7.1 hq with rfl|hq
   ·rw [hy];simp
   ·exact this.2 q hq
theorem Wo {x:Nat} {v:AV} {t:ZM}:∀{its:List It},ZD (WG t its) x=some v->ZD t x=some v/\∀it∈its,ZL it=true->it.o.dst≠some x
 | [],h=>⟨h,by simp⟩
 | it::r,h=>by
  unfold WG at h
  split at h
  ·rename_i y hT hy
   by_cases hxy:y=x
   ·subst hxy;rw [XS] at h;cases h
   ·rw [Xn _ _ _ hxy] at h
    have:=Wo h
    refine ⟨this.1,fun q hq hl=> ?_⟩
    rcases J7.1 hq with rfl|hq
    ·rw [hy];exact fun e=>hxy (by injection e)
    ·exact this.2 q hq hl
  ·rename_i hno
   have:=Wo h
   refine ⟨this.1,fun q hq hl hd=> ?_⟩
   rcases J7.1 hq with rfl|hq
   ·exact hno x hl hd
   ·exact this.2 q hq hl hd
theorem Qs:∀{l:List It},WF l=none->∀q∈l,Xo q=false
 | [],_,q,hq=>by simp at hq
 | it::r,h,q,hq=>by
  unfold WF at h
  split at h
  ·cases h
  ·rename_i he
   rcases J7.1 hq with rfl|hq
   ·exact he
   ·exact Qs h q hq
theorem Qt:∀{l:List It} {e:It},WF l=some e->e∈l/\Xo e=true
 | [],e,h=>by simp [WF] at h
 | it::r,e,h=>by
  unfold WF at h
  split at h
  ·rename_i he;cases h;exact ⟨Jz ..,he⟩
  ·have:=Qt h
   exact ⟨Jh _ this.1,this.2⟩
section
variable {P:Program} {all:List Oper} {its0 its:List It} {sp:Option SpD} {n0:Nat} {E0:Env} {h0:Z6} {w0:World} {L:Nat->Prop} {bl:Nat->Nat} {rem rem':List It} {D:Nat} {pend pend':List (It×AV)} {s s2:St} {E:Env} {a:Act} {w:World}
theorem Inv.doEff (hst:Stat P all its0 its sp n0) (hm:∀q∈its0,L q.i->∀p,q.m.testBit p=true->L p) (I:Inv P all its sp E0 h0 w0 L bl rem D pend s E a w) {e:It} (he:e∈rem) (hnL:¬L e.i) (heff:Xo e=true) (hD:∀p,e.m.testBit p=true->D.testBit p=true) (hme:∀p,e.m.testBit p=true->L p)
  {s3:St} {E':Env} {w':World} {ds:List Deferred} {v:AV} {r:Value} (hev:Evo E s.h w E' s3.h w') (hev0:Evo E0 h0 w0 E' s3.h w') (hds:VT E' s3.d ds) (hv:Zc E' v r)
  (e2:s3.n=s.n) (e4:∀x,e.o.dst=some x->ZD s3.t x=some v/\x<s.n) (e5:∀x,e.o.dst≠some x->ZD s3.t x=ZD s.t x)
  (hre:∀q v,(q,v)∈Vp e.m pend->Z12 P q s.t s.h v->(∀x∈opT q.o.op,ZD s3.t x=ZD s.t x)->Z12 P q s3.t s3.h v):
  Inv P all its sp E0 h0 w0 (fun j=>L j\/j=e.i) bl (Vo e.i rem) (Nat.lor D (2^e.i)) (Vp e.m pend) s3 E' (({ a with defers:=ds}:Act).put e.o.dst r) w':=by
 have hits:=I.sub e he
 have hne:∀q∈its,q≠e->q.i≠e.i:=fun q hq' hn' h=>hn' (hst.uniq q hq' e hits h)
 have hback:∀q∈its,q≠e->(L q.i\/q.i=e.i)->L q.i:=fun q hq' hn' h=>h.resolve_right (hne q hq' hn')
 have hrm:∀q∈its,q∉Vo e.i rem->q=e\/q∉rem:=fun q hq hn=>by
  by_cases h:q=e
  ·exact .inl h
  ·exact .inr fun hr=>hn (Yp.2 ⟨hr,hne q hq h⟩)
 have hfwd:∀q,q∉rem->q∉Vo e.i rem:=fun q hn h=>hn (Yp.1 h).1
 refine ⟨fun q hq=>I.sub q (Yp.1 hq).1,I.nodup.sublist Z16,fun q hq hb=> ?_,fun q hq hnl hn p hp hb=> ?_,fun q hq hqe=> ?_,fun q hq hl hn=> ?_,fun q hq hqq hL=> ?_,fun q hq hqq hn hL=> ?_,
  by rw [Xp,e2];exact I.size,fun x u hx hc=> ?_,by rw [put_defers];exact hds,hev0,fun q hq hl x hx=> ?_,fun q hq hL hT=> ?_,fun q hq q' hq' hL hL' hl hl' hb=> ?_,fun q hq x hx hn=> ?_,fun q hq hn=> ?_,by rw [e2];exact I.ln, ?_⟩
 ·rcases Z5y hb with h|h
  ·exact hfwd q (I.dbit q hq h)
  ·exact fun hr=>(Yp.1 hr).2 h
 ·rcases hrm q hq hn with rfl|hn'
  ·exact hfwd p (I.dbit p hp (hD _ hb))
  ·exact hfwd p (I.born q hq hnl hn' p hp hb)
 ·by_cases hqi:q=e
  ·subst hqi
   exact ⟨fun _ h=>(Yp.1 h).2 rfl,fun _=>.inr rfl⟩
  ·constructor
   ·intro h
    exact hfwd q ((I.eff q hq hqe).1 (hback q hq hqi h))
   ·intro h
    exact .inl ((I.eff q hq hqe).2 ((hrm q hq h).resolve_left hqi))
 ·have hqi:q≠e:=fun h=>by subst h;rw [YN heff] at hl;cases hl
  exact .inl (I.late q hq hl ((hrm q hq hn).resolve_left hqi))
 ·have hqi:q≠e:=fun h=>by subst h;rw [Yl heff] at hqq;cases hqq
  exact hfwd q (I.quiet q hq hqq (hback q hq hqi hL))
 ·have hqi:q≠e:=fun h=>by subst h;rw [Yl heff] at hqq;cases hqq
  have hn':=(hrm q hq hn).resolve_left hqi
  have hL':¬L q.i:=fun h=>hL (.inl h)
  obtain ⟨u,h1,h2⟩:=I.fact q hq hqq hn' hL'
  have hsame:∀x∈Wb all q.o,ZD s3.t x=ZD s.t x:=fun x hx=>e5 x fun hd=>by
   rcases hst.rd e hits q hq (fun h=>hqi h.symm) x hd hx with h|⟨h3,_⟩
   ·exact I.born q hq (ZY hqq) hn' e hits h he
   ·exact hL' (hme _ h3)
  refine ⟨u,fun x hx=> ?_, ?_⟩
  ·rw [e5 x fun hd=>hst.dst e hits q hq (fun h=>hqi h.symm) x hd hx]
   exact h1 x hx
  ·rw [WW fun x hx=>hsame x (JO _ hx)]
   rcases h2 with ⟨h2,h3,h4⟩|h
   ·have hmem:(q,u)∈Vp e.m pend:=Q5.2 ⟨h3,by
     cases hb:e.m.testBit q.i with
     | false=>rfl
     | true=>exact absurd (hme _ hb) hL'⟩
    exact .inl ⟨h2,hmem,hre q u hmem h4 fun x hx=>hsame x (JB _ hx)⟩
   ·exact .inr h
 ·by_cases hdx:e.o.dst=some x
  ·rw [(e4 x hdx).1] at hx
   cases hx
   rw [hdx,Ut (by show x<a.tmps.size;rw [I.size];simp_all)]
   exact hv
  ·rw [Yo hdx]
   rw [e5 x hdx] at hx
   refine (I.tmps x u hx fun q hq hdq hqq hn=> ?_).mono hev.le
   grind
 ·have hq1:=Yp.1 hq
  have hqi:q≠e:=fun h=>by simp_all
  rw [e5 x fun hd=>hst.dst e hits q (I.sub q hq1.1) (fun h=>hqi h.symm) x hd hx]
  exact I.lt q hq1.1 hl x hx
 ·have hq1:=Yp.1 hq
  have hqi:q≠e:=fun h=>by simp_all
  have hLq:=hback q (I.sub q hq1.1) hqi hL
  obtain ⟨y,y0,y1,y2,y3,y4,y5,y6,y7⟩:=I.adopt q hq1.1 hLq hT
  refine ⟨y,y0,Z15 hst hm hits (I.sub q hq1.1) hT hLq hnL (a:={ a with defers:=ds}) rfl y1,fun x hx=> ?_,(hev.keep _ y7 y4).trans y3,fun ho=> ?_,fun ad c hi=>y5 ad c (hev.imm ad c hi),y6,Nat.lt_of_lt_of_le y7 hev.size⟩
  ·rw [Yo (hst.dst q (I.sub q hq1.1) e hits hqi x hx)]
   simp_all
  ·rcases hev.own _ ho with h|h
   all_goals grind
 ·have hq1:=Yp.1 hq
  have hq2:=Yp.1 hq'
  have hqi:q≠e:=fun h=>by simp_all
  have hqi':q'≠e:=fun h=>by simp_all
  exact I.inj q hq1.1 q' hq2.1 (hback q (I.sub q hq1.1) hqi hL) (hback q' (I.sub q' hq2.1) hqi' hL') hl hl' hb
 ·rw [e2]
  rcases hrm q hq hn with rfl|hn'
  ·simp_all
  ·exact I.dst q hq x hx hn'
 ·rcases hrm q hq hn with rfl|hn'
  ·simp_all
  ·exact Z3c (I.dset q hq hn')
 ·refine Z7Y hst hm hits hnL I.mp (r:=r) (fun x=>by cases hq:e.o.dst<;>simp [Act.put]) (by rw [Xp]) (fun x hd h=>by rw [e5 x hd];exact h) hev.keep
   (fun b hb hno _ ho=>(hev.own b ho).elim hno fun h=>by omega) (fun ad c h=>hev.imm ad c h) hev.size (fun q hq hL hl b _ hb=> ?_)
  have hq1:=Yp.1 hq
  simp_all
end
end Go.Tk
end
section
namespace Go.Tk
open IntKind (i64 u8 u32 u64 wrap)
theorem Zak {E0:Env} {h0:Z6} {w0:World} {E:Env} {h:Z6} {w:World} (v:Evo E0 h0 w0 E h w) (b:Nat) (o:Obj) (hb:¬X5 E h b) (hi:∀ad c,E.imm ad c->ad.block≠b) (hw:w0.heap.size<=b):
  Evo E0 h0 w0 E h { w with heap:=w.heap.setIfInBounds b o}:=by
 have hget:∀i,i≠b->(w.heap.setIfInBounds b o)[i]? =w.heap[i]?:=fun i hi=>by rw [Jd,if_neg (fun e=>hi e.symm)]
 refine ⟨v.le,⟨v.emb.fresh,v.emb.lt,fun x B hx=>(v.emb.own x B hx).congr fun b' N hb'=>hget b' fun e=>hb ⟨x,B,N,hx,by rw [hb',e]⟩,v.emb.disj,fun ad c him=> ?_,v.emb.sep⟩,by simpa using v.size,v.os,v.tape,v.output,fun b' hb' hn=> ?_,v.own,v.imm⟩
 ·have h1:=v.emb.imm ad c him
  grind [World.cell?]
 ·rw [hget b' (by omega)]
  exact v.keep b' hb' hn
theorem QM {d:SpD} {it:It} (h:Z6p d it=true):it.o.guard=none/\((∃T,it.o.op=.makeMap T none/\it.i=d.i/\it.o.dst=some d.x)\/
  ∃j∈d.js,j.i=it.i/\it.o.op=.insert d.T (.tmp d.x) (.const (.int d.k j.c)) (.tmp j.y)/\it.o.dst=none):=by
 unfold Z6p at h
 simp only [J2] at h
 obtain ⟨⟨_,h1⟩,h2⟩:=h
 refine ⟨by simp_all, ?_⟩
 split at h2
 ·grind [J0,Z4g]
 ·rename_i T m k c y ho
  simp only [J2] at h2
  obtain ⟨⟨⟨⟨h3,h4⟩,h5⟩,h6⟩,h7⟩:=h2
  obtain ⟨j,hj,h8⟩:=(Z6o _ _).1 h7
  simp only [J2] at h8
  have e1:=J0 h4
  have e2:=J0 h5
  have e3:=of_decide_eq_true h6
  have e4:=of_decide_eq_true h8.1.2
  have e5:=J0 h8.2
  exact .inr ⟨j,hj,J0 h8.1.1,by rw [ho,e1,e2,e3,e4,e5],by simp_all⟩
 ·cases h2
theorem Vq:∀{l:List WH},QK l=true->l.Pairwise fun a b=>a.i≠b.i/\a.c≠b.c
 | [],_=>.nil
 | a::r,h=>by
  unfold QK at h
  rw [J2] at h
  refine .cons (fun b hb=> ?_) (Vq h.2)
  have h1:=(Ur _ _).1 h.1 b hb
  simp only [J2,Jy,decide_eq_false_iff_not] at h1
  exact ⟨fun e=>(by rw [e,Jj] at h1;cases h1.1),h1.2⟩
theorem Zef {l:List WH} (h:QK l=true):∀{a b:WH},a∈l->b∈l->a.i=b.i->a=b:=by
 have hp:=Vq h
 clear h
 induction hp with
 | nil=>simp_all
 | cons h1 _ ih=>
  grind
theorem Zeg {l:List WH} (h:QK l=true):∀{a b:WH},a∈l->b∈l->a.c=b.c->a=b:=by
 have hp:=Vq h
 clear h
 induction hp with
 | nil=>simp_all
 | cons h1 _ ih=>
  grind
theorem Zal {f:MapEntry->Value×Value} {g:WH->Value×Value} {l1 l2:List WH} (h:l1.Perm l2):∀ents:List MapEntry,ents.map f=l2.map g->∃ents':List MapEntry,ents'.Perm ents/\ents'.map f=l1.map g:=by
 induction h with
 | nil=>simp_all
 | cons x _ ih=>
  intro ents h
  cases ents with
  | nil=>simp at h
  | cons e r=>
   simp only [K3,List.cons.injEq] at h
   obtain ⟨r',h1,h2⟩:=ih r h.2
   exact ⟨e::r',h1.cons e,by simp_all⟩
 | swap x y l=>
  intro ents h
  match ents,h with
  | e1::e2::r,h=>
   exact ⟨e2::e1::r,.swap ..,by simp_all⟩
  | [],h=>simp at h
  | [_],h=>simp at h
 | trans _ _ ih1 ih2=>
  intro ents h
  obtain ⟨r1,h1,h2⟩:=ih2 ents h
  obtain ⟨r2,h3,h4⟩:=ih1 r1 h2
  exact ⟨r2,h3.trans h1,h4⟩
theorem Z6t {t:ZM} {k:IntKind}:∀{js:List WH} {K:List (AV×AV)->Prop},Z90 t k js K->
  ∃es,K es/\∀(E:Env) (a:Act),(∀j∈js,∀v,ZD t j.y=some v->Zc E v (a.tmps.getD j.y undef))->Zt E (es.map (·.1)) (js.map fun j=>(Z3a k a j).1)/\Zt E (es.map (·.2)) (js.map fun j=>(Z3a k a j).2)
 | [],K,h=>⟨[],h,fun _ _ _=>⟨.nil,.nil⟩⟩
 | j::r,K,h=>by
  unfold Z90 at h
  split at h
  ·rename_i v hv
   obtain ⟨es,h1,h2⟩:=Z6t h
   refine ⟨_,h1,fun E a hr=> ?_⟩
   obtain ⟨h3,h4⟩:=h2 E a fun j' hj'=>hr j' (Jh _ hj')
   exact ⟨.cons _ _ _ _ (.int _ _) h3,.cons _ _ _ _ (hr j (Jz ..) v hv) h4⟩
  simp_all
theorem ZbN {it:It} (h:bsI it=true):ZL it=true:=by
 grind [bsI]
theorem Uv {P:Program} {D:Nat} {s:St} {K:Prop}:∀{l:List It},Z37 P D s K l->K/\∀it∈l,bsI it=true->Nat.beq (Nat.land it.m D) it.m=true->∃Z:Prop,Z4e P s.h it.o.op (WU s.t (opT it.o.op)) fun _ _=>Z
 | [],h=>⟨h,fun _ h=>by cases h⟩
 | it::r,h=>by
  unfold Z37 at h
  split at h
  ·rename_i hb
   rw [J2] at hb
   have h0:=h
   obtain ⟨v,B,h1,_⟩:=Z3d (ZbN hb.1) h
   obtain ⟨h2,h3⟩:=Uv h1
   refine ⟨h2,fun q hq hbq hm=> ?_⟩
   rcases J7.1 hq with rfl|hq
   ·exact ⟨_,h0⟩
   simp_all
  ·rename_i hb
   obtain ⟨h2,h3⟩:=Uv h
   refine ⟨h2,fun q hq hbq hm=> ?_⟩
   rcases J7.1 hq with rfl|hq
   ·rw [hbq,hm] at hb;cases hb
   ·exact h3 q hq hbq hm
section
variable {P:Program} {all:List Oper} {its0 its:List It} {sp:Option SpD} {n0:Nat} {E0:Env} {h0:Z6} {w0:World} {L:Nat->Prop} {bl:Nat->Nat} {rem:List It} {D:Nat} {pend:List (It×AV)} {s:St} {E:Env} {a:Act} {w:World} {cx:Ctx} {X:KE}
theorem ZbO (hst:Stat P all its0 its sp n0) (I:Inv P all its sp E0 h0 w0 L bl rem D pend s E a w) (hlt:∀it∈its,it.i<n0) (hspl:∀d,sp=some d->d.i<n0/\∀j∈d.js,j.i<n0) (hall:∀j,j<n0->L j) (h:ZbK sp s fun s=>X .normal s):Vl E0 h0 w0 X .normal a w:=by
 unfold ZbK at h
 cases sp with
 | none=>exact ⟨E,.normal,s,h,I.evo,⟨I.evo.emb,⟨I.size,fun x v hv=>I.tmps x v hv fun it hi _ _ _=>hall it.i (hlt it hi)⟩,I.defs⟩,.normal⟩
 | some d=>
  simp only at h
  obtain ⟨es,h1,h2⟩:=Z6t h
  obtain ⟨h3,h4⟩:=h2 E a fun j _ v hv=>I.tmps _ v hv fun it hi _ _ _=>hall it.i (hlt it hi)
  obtain ⟨s2,k0,k1,k2,k3,k4,k5⟩:=YW h1
  obtain ⟨m1,m2,m3⟩:=I.mp d rfl
  obtain ⟨b,ents,clock,n1,n2,n3,n4,n5,n6,n7,done,d1,d2,d3⟩:=m3 (hall _ (hspl d rfl).1)
  have hal:=hst.alone d rfl
  have hnd:d.js.Nodup:=(Vq hal).imp fun h e=>h.1 (by rw [e])
  have hnd':done.Nodup:=by
   unfold List.Nodup at d1⊢
   rw [List.pairwise_map] at d1
   exact d1.imp fun h e=>h (by rw [e])
  have hperm:d.js.Perm done:=(List.perm_ext_iff_of_nodup hnd hnd').2 fun j=>by
   simp_all
  obtain ⟨ents',p1,p2⟩:=Zal hperm ents.toList d3
  have hkeys:ents'.map (·.key)=d.js.map fun j=>(Z3a d.k a j).1:=by
   have:=congrArg (List.map Prod.fst) p2
   grind [Function.comp_def]
  have hvals:ents'.map (·.val)=d.js.map fun j=>(Z3a d.k a j).2:=by
   have:=congrArg (List.map Prod.snd) p2
   grind [Function.comp_def]
  have hle:E.le (E.ext s.h.next b 0):=Env.ext_le (I.evo.emb.fresh _ (J1 _))
  have hB:ZV (E.ext s.h.next b 0) w s.h.next (.pmap es):=by
   refine .pmap es b d.k ents.toList ents' clock (Env.ext_same ..) (by omega) p1 ?_ (fun e he=> ?_) ?_ ?_
   ·rw [hkeys]
    unfold List.Nodup
    rw [List.pairwise_map]
    refine (Vq hal).imp fun h e=>h.2 ?_
    injection e
   ·have:e.key∈ents'.map (·.key):=List.mem_map_of_mem he
    rw [hkeys] at this
    obtain ⟨j,_,hj⟩:=Kh.1 this
    exact ⟨j.c,hj.symm⟩
   ·rw [hkeys];exact h3.mono hle
   ·rw [hvals];exact h4.mono hle
  have hev:=Z4j I.evo b 0 (.pmap es) n3 n4 hB n5
  refine ⟨E.ext s.h.next b 0,.normal,s2,k0,by rw [k1];exact hev,⟨by rw [k1];exact hev.emb,⟨by rw [k2];exact I.size,fun x v hv=> ?_⟩,by rw [k3];exact I.defs.mono hle⟩,.normal⟩
  by_cases hx:d.x=x
  ·subst hx
   rw [(k4 d.x rfl).1] at hv
   cases hv
   rw [n1]
   exact .map _ _ 0 (Env.ext_same ..)
  ·rw [k5 x (fun e=>hx (by injection e))] at hv
   exact (I.tmps x v hv fun it hi _ _ _=>hall it.i (hlt it hi)).mono hle
theorem finish (hst:Stat P all its0 its sp n0) (I:Inv P all its sp E0 h0 w0 L bl rem D pend s E a w) (hlt:∀it∈its,it.i<n0) (hml:∀it∈its,∀p,it.m.testBit p=true->p<it.i) (hspl:∀d,sp=some d->d.i<n0/\∀j∈d.js,j.i<n0) (hall:∀j,j<n0->L j) {next:List It->Nat->List (It×AV)->St->KE->Prop} (h:VV cx P all its next rem D pend s (spX sp X)):
  Vl E0 h0 w0 X .normal a w:=by
 unfold VV at h
 split at h
 ·simp_all
 ·replace h:=(Uv h).1
  split at h
  ·obtain ⟨rem',D',s',E',hx,I',_,_,_⟩:=Z6r (kept:=[]) hst (fun it hi _ p hp=>hall _ (Nat.lt_trans (hml it hi p hp) (hlt it hi))) (fun it hi _ _=>hall it.i (hlt it hi)) (fun q hq v _=>.inl (hall q.i (hlt q hq))) rem D s E h I (by simp)
   exact ZbO hst I' hlt hspl hall hx
  ·rename_i e he
   have h1:=Qt he
   have hits:=I.sub e h1.1
   exact absurd h1.1 ((I.eff e hits h1.2).1 (hall e.i (hlt e hits)))
theorem Inv.doSp (hst:Stat P all its0 its sp n0) (I:Inv P all its sp E0 h0 w0 L bl rem D pend s E a w) {i:Nat} (hi:∀it∈its,it.i≠i) {a':Act} {w':World} (hz:a'.tmps.size=a.tmps.size) (hdf:a'.defers=a.defers)
  (hta:∀x,(∀d,sp=some d->x≠d.x)->a'.tmps.getD x undef=a.tmps.getD x undef) (hev:Evo E0 h0 w0 E s.h w') (hk:∀q∈rem,L q.i->ZL q=true->w'.heap[bl q.i]? =w.heap[bl q.i]?) (hs:w.heap.size<=w'.heap.size)
  (hmp:MpI sp w0 (fun j=>L j\/j=i) bl rem s.t E s.h a' w'):Inv P all its sp E0 h0 w0 (fun j=>L j\/j=i) bl rem D pend s E a' w':=by
 have hback:∀q∈its,(L q.i\/q.i=i)->L q.i:=fun q hq h=>h.resolve_right (hi q hq)
 refine ⟨I.sub,I.nodup,I.dbit,I.born,fun q hq' he=> ?_,fun q hq' hl' hn'=>.inl (I.late q hq' hl' hn'),fun q hq' hqq hL=>I.quiet q hq' hqq (hback q hq' hL),fun q hq' hqq hn' hL=>I.fact q hq' hqq hn' (fun h=>hL (.inl h)),by rw [hz];exact I.size,fun x u hx hc=> ?_,
  by rw [hdf];exact I.defs,hev,I.lt,fun q hq' hL hT'=> ?_,fun q hq' q' hq'' hL hL' hl1 hl2 hb=>I.inj q hq' q' hq'' (hback q (I.sub q hq') hL) (hback q' (I.sub q' hq'') hL') hl1 hl2 hb,I.dst,I.dset,I.ln,hmp⟩
 ·rw [<-I.eff q hq' he]
  simp_all
 ·rw [hta x fun d hd e=>by subst e;rw [(I.mp d hd).2.1] at hx;cases hx]
  exact I.tmps x u hx fun q hq' hdq hqq hn=>hback q hq' (hc q hq' hdq hqq hn)
 ·have hits:=I.sub q hq'
  have hLq:=hback q hits hL
  obtain ⟨y,y0,y1,y2,y3,y4,y5,y6,y7⟩:=I.adopt q hq' hLq hT'
  refine ⟨y,y0,y1.congr hT' fun x hx=>hta x fun d hd e=> ?_,fun x hx=> ?_,(hk q hq' hLq hT').trans y3,y4,y5,y6,Nat.lt_of_lt_of_le y7 hs⟩
  ·subst e
   exact (XI hst hd hits).2.2.2.1 (JB _ hx)
  ·rw [hta x fun d hd e=>(XI hst hd hits).2.2.1 (by rw [hx,e])]
   simp_all
theorem Inv.doMap (hst:Stat P all its0 its sp n0) (hm:∀q∈its0,L q.i->∀p,q.m.testBit p=true->L p) (I:Inv P all its sp E0 h0 w0 L bl rem D pend s E a w) {d:SpD} (hd:sp=some d) (hnL:¬L d.i):
  Inv P all its sp E0 h0 w0 (fun j=>L j\/j=d.i) bl rem D pend s E (a.put (some d.x) (.map (some w.heap.size))) { w with heap:=w.heap.push (.map #[] 0)}:=by
 have hnown:¬X5 E s.h w.heap.size:=fun ⟨x,B,N,hx,hb⟩=>by
  have:=(I.evo.emb.own x B hx).lt hb
  omega
 have hnimm:∀ad c,E.imm ad c->ad.block≠w.heap.size:=fun ad c hi e=>by
  have h1:=I.evo.emb.imm ad c hi
  simp [World.cell?,e] at h1
 have hlt:∀q∈rem,L q.i->ZL q=true->bl q.i<w.heap.size:=fun q hq hL hl'=>by
  obtain ⟨y,y0,y1,y2,y3,y4,y5,y6,y7⟩:=I.adopt q hq hL hl'
  exact y7
 have hnj:∀j∈d.js,¬L j.i/\j.i≠d.i:=fun j hj=>by
  refine ⟨fun h=>hnL (Z3b hst hd hj hm h).1,fun e=> ?_⟩
  have h:=hst.jok d hd j hj
  simp_all [jOk]
 refine I.doSp hst (fun it hit=>(XI hst hd hit).1) Xp put_defers (fun x hx=>Yo fun e=>hx d hd (by simp_all)) (I.evo.trans (Z2C I.evo.emb _)) (fun q hq hL hl=>World.push_old (hlt q hq hL hl)) (by simp_all) ?_
 intro d' hd'
 rw [hd] at hd'
 cases hd'
 obtain ⟨m1,m2,_⟩:=I.mp d hd
 refine ⟨by rw [Xp];exact m1,m2,fun _=>⟨w.heap.size, #[],0,Ut m1,by simp,hnown,hnimm,I.evo.size,by simp,fun q hq hL hl e=> ?_,[],by simp,fun j=> ?_,rfl⟩⟩
 ·have:=hlt q hq (hL.resolve_right (XI hst hd (I.sub q hq)).1) hl
  omega
 simp_all
theorem run_makeMap {o:Oper} {T:TypeId} (ho:o.op=.makeMap T none) (ρ:Operand->Value) (w:World):
  (execOp ρ o).run P w=.ok (.value (.map (some w.heap.size))) { w with heap:=w.heap.push (.map #[] 0)}:=by
 simp [execOp,ho,Instr.makeMap]
theorem Inv.doIns (hst:Stat P all its0 its sp n0) (hm:∀q∈its0,L q.i->∀p,q.m.testBit p=true->L p) (I:Inv P all its sp E0 h0 w0 L bl rem D pend s E a w) {d:SpD} (hd:sp=some d) {j:WH} (hj:j∈d.js) (hnL:¬L j.i) (hLd:L d.i)
  {o:Oper} (ho:o.op=.insert d.T (.tmp d.x) (.const (.int d.k j.c)) (.tmp j.y)):
  ∃w',(execOp a.eval o).run P w=.ok .skip w'/\Inv P all its sp E0 h0 w0 (fun i=>L i\/i=j.i) bl rem D pend s E a w':=by
 obtain ⟨m1,m2,m3⟩:=I.mp d hd
 obtain ⟨b,ents,clock,n1,n2,n3,n4,n5,n6,n7,done,k1,k2,k3⟩:=m3 hLd
 have hal:=hst.alone d hd
 obtain ⟨et,het⟩:=hst.key d hd
 obtain ⟨kt,kk,hT,hkt⟩:=Z0S het
 have hkey:∀e∈ents.toList,∃j'∈done,e.key=.int d.k j'.c:=fun e he=>by
  have h1:(e.key,e.val)∈ents.toList.map (fun e=>(e.key,e.val)):=List.mem_map_of_mem (f:=fun e:MapEntry=>(e.key,e.val)) he
  rw [k3] at h1
  obtain ⟨j',h2,h3⟩:=Kh.1 h1
  refine ⟨j',h2, ?_⟩
  unfold Z3a at h3
  injection h3 with h3 _
  exact h3.symm
 have hfind:Instr.findNow (.int kk) (.int d.k j.c) ents.toList 0=some none:=by
  grind [XY,Zeg]
 refine ⟨{ w with heap:=w.heap.setIfInBounds b (.map (ents.push ⟨.int d.k j.c,a.tmps.getD j.y undef,clock⟩) (clock+1))}, ?_, ?_⟩
 ·have e1:a.eval (.tmp d.x)=.map (some b):=n1
  have e2:a.eval (.tmp j.y)=a.tmps.getD j.y undef:=rfl
  have e3:a.eval (.const (.int d.k j.c))=.int d.k j.c:=rfl
  simp only [execOp,ho,e1,e2,e3,Instr.mapUpdate,J6,run_underlying hT,J4,ZE n2,Y6 hkt _ 9999,Instr.findKey,run_underlying hkt,hfind,Jf,Y7 _ n2]
 ·refine I.doSp hst (fun it hit=>((XI hst hd hit).2.2.2.2 j hj).1) rfl rfl (fun x hx=>rfl) (Zak I.evo b _ n3 n4 n5) (fun q hq hL hl=> ?_) (by simp) ?_
  ·rw [Jd,if_neg (fun e=>n7 q hq hL hl e.symm)]
  ·intro d' hd'
   rw [hd] at hd'
   cases hd'
   refine ⟨m1,m2,fun _=>⟨b,ents.push ⟨.int d.k j.c,a.tmps.getD j.y undef,clock⟩,clock+1,n1,by simp_all,n3,n4,n5,by simp_all,fun q hq hL hl=>n7 q hq (hL.resolve_right ((XI hst hd (I.sub q hq)).2.2.2.2 j hj).1) hl,done++[j], ?_,fun j'=> ?_, ?_⟩⟩
   ·grind
   ·grind [Zef]
   ·rw [Array.toList_push,JS,k3,JS]
    rfl
theorem Z4l:∀(m n:Nat) (l:List Nat),(∀j,n<=j->j<n+m->j∈l)->m<=l.length
 | 0,_,_,_=>JI _
 | m+1,n,l,h=>by
  have h1:=h (n+m) (by omega) (by omega)
  have h2:=Z4l m n (l.erase (n+m)) fun j h3 h4=>(List.mem_erase_of_ne (by omega)).2 (h j h3 (by omega))
  rw [List.length_erase_of_mem h1] at h2
  have:=List.length_pos_of_mem h1
  omega
theorem Z4m (hst:Stat P all its0 its sp n0) (listed:Array Bool) (hsz:listed.size=all.length) (hr:Region.ready .any all.toArray listed=[]) (j:Nat):listed.getD j true=true:=by
 induction j using Nat.strongRecOn with
 | _ j ih=>
  cases hj:listed.getD j true with
  | true=>rfl
  | false=>
   have hjl:j<all.length:=by
    grind
   obtain ⟨it,hit,rfl⟩:=hst.ex j hjl
   have hm:=hst.mem0 it hit
   have:it.i∈Region.ready .any all.toArray listed:=mem_ready.2 ⟨hj,it.o,by simp_all,fun e he hb=>by
    have h1:=hst.edges it hit e (by simp_all) hb
    grind⟩
   rw [hr] at this
   cases this
theorem Z5z {it:It} (h:Z1R it=true):it.o.guard=none/\(∀p,p<it.i->it.m.testBit p=true)/\((∃x,it.o.op=.move x)\/∃x,it.o.op=.assign x):=by
 unfold Z1R at h
 simp only [J2] at h
 obtain ⟨⟨⟨_,h1⟩,h2⟩,h3⟩:=h
 refine ⟨by simp_all,fun p hp=> ?_, ?_⟩
 ·have h4:=J0 h2
  have h5:it.m=2^it.i-1:=by omega
  simp_all
 grind
theorem Z93 {qm:Nat} (hst:Stat P all (ZG qm 0 [] all) its sp n0) {ro:Option Nat} {n:Nat}:∀(T:List It) (k fuel:Nat) (listed:Array Bool) (a:Act) (w:World),(ZG qm 0 [] all).drop k=T->(∀q∈T,Z1R q=true)->listed.size=all.length->
  (∀j,listed.getD j true=true↔(j<k\/all.length<=j))->T.length<=fuel->Vl E0 h0 w0 (tlX P T X) .normal a w->wpAnyIn (Fr ro) n P .any all.toArray (Vl E0 h0 w0 X) fuel listed a w
 | [],k,fuel,listed,a,w,hd,htl,hsz,hli,hf,hp=>by
  have hlen:all.length<=k:=by
   have:=List.drop_eq_nil_iff.1 hd
   rw [XH] at this
   exact this
  have hall:∀j,listed.getD j true=true:=fun j=>(hli j).2 (by omega)
  have hp':Vl E0 h0 w0 X .normal a w:=by
   obtain ⟨E',x,s',hx,h1,h2,h3⟩:=hp
   cases h3
   exact ⟨E',.normal,s',hx,h1,h2,.normal⟩
  cases fuel with
  | zero=>
   refine ⟨?_,hp'⟩
   simp_all [Region.ready]
  | succ fuel=>
   refine ⟨fun _=>hp',fun i hi=> ?_⟩
   have:=(mem_ready.1 hi).1
   rw [hall i] at this;cases this
 |it::r,k,fuel,listed,a,w,hd,htl,hsz,hli,hf,hp=>by
  have hk:(ZG qm 0 [] all)[k]? =some it:=by
   have:=congrArg (fun l=>l[0]?) hd
   grind
  have hki:=Xj hk
  have hik:it.i=k:=by omega
  have hklen:k<all.length:=by
   have:=(Ja.1 hk).1
   rw [XH] at this
   exact this
  cases fuel with
  | zero=>simp at hf
  | succ fuel=>
   refine ⟨fun hr=> ?_,fun i hi=> ?_⟩
   ·have:=(hli k).1 (Z4m hst listed hsz hr k)
    omega
   obtain ⟨hun,o,ho,hpre⟩:=mem_ready.1 hi
   have ho':all[i]? =some o:=by simp_all
   have hil:i<all.length:=by
    grind
   have hik2:k<=i:=by
    grind
   obtain ⟨q,hq0,hqi⟩:=hst.ex i hil
   have hoi:=hst.mem0 q hq0
   rw [hqi,ho'] at hoi
   cases hoi
   have hei:i=k:=by
    rcases Jo k i with h|h
    ·exfalso
     have hqt:q∈it::r:=by
      rw [<-hd]
      obtain ⟨p,hp⟩:=JX.1 hq0
      have h1:=Xj hp
      refine JX.2 ⟨p-k, ?_⟩
      rw [JF,show k+(p-k)=p from by omega]
      exact hp
     have h2:=(Z5z (htl q hqt)).2.1 k (by omega)
     have hL:=VW (qm:=qm) (L:=fun j=>listed.getD j true=true\/j=i) (all:=all) (fun i' o' e hio hLi he hb=>by
      rcases hLi with hLi|rfl
      ·have h3:=(hli i').1 hLi
       have h4:i'<all.length:=by
        grind
       obtain ⟨q',hq',hqi'⟩:=hst.ex i' h4
       have h5:=hst.mem0 q' hq'
       rw [hqi',hio] at h5
       cases h5
       have h6:=hst.edges q' hq' e he hb
       grind
      grind) (k:=0) (acc:=[]) rfl (fun j=>by simp) (fun j p hj=>by omega) (fun j _=>by simp [Qe]) q hq0 (.inr hqi) k h2
     grind
    ·omega
   subst hei
   have hqe:q=it:=hst.uniq0 q hq0 it (K2 hk) (by omega)
   subst hqe
   obtain ⟨hg,_,hop⟩:=Z5z (htl q (Jz ..))
   obtain ⟨E',x,s',hx,h1,h2,h3⟩:=hp
   cases h3
   have hx':opQ P q.o.op s'.t s'.h fun v=>Ub s' q.o.dst v fun s2=>tailA P r s2 fun s=>X .normal s:=hx
   obtain ⟨v,hv,hrun⟩:=Z7Q hx'
   obtain ⟨r',hr1,hr2⟩:=hrun E' w s'.n a (fun _=>h1.emb) h2.tmps
   obtain ⟨s2,k0,k1,k2,k3,k4,k5⟩:=YW hv
   unfold wpOpIn
   rw [ho]
   simp only
   rw [if_pos (by simp [Region.wanted,hg])]
   refine ⟨fun _ _=>trivial, ?_⟩
   rw [show (Fr ro).round=ro from rfl,ZH (fun c e=>by rcases hop with ⟨x,h⟩|⟨x,h⟩<;>rw [h] at e<;>cases e),hr1]
   refine Z93 hst r (i+1) fuel (listed.setIfInBounds i true) (a.put q.o.dst r') w ?_ (fun q' hq'=>htl q' (Jh _ hq')) (by simp_all) (fun j=> ?_) (by simp_all) ⟨E',.normal,s2,k0,by rw [k1];exact h1,⟨by rw [k1];exact h2.emb,⟨by rw [Xp,k2];exact h2.tmps.size,fun x u hu=> ?_⟩,by rw [k3,put_defers];exact h2.defs⟩,.normal⟩
   ·rw [<-List.drop_drop,hd];rfl
   ·by_cases hj:i=j
    ·simp_all
    ·have h4:(listed.setIfInBounds i true).getD j true=listed.getD j true:=by simp_all
     rw [h4,hli]
     omega
   ·by_cases hdx:q.o.dst=some x
    ·rw [(k4 x hdx).1] at hu
     cases hu
     rw [hdx,Ut (by rw [h2.tmps.size];simp_all)]
     exact hr2
    ·rw [Yo hdx]
     rw [k5 x hdx] at hu
     exact h2.tmps.get x u hu
theorem Zam {qm:Nat} (hcx:cx.Ok P) {ro:Option Nat} (hro:cx.inR=none->ro=none) (hst:Stat P all (ZG qm 0 [] all) its sp n0) {n:Nat} {T:List It} (hT:(ZG qm 0 [] all).drop n0=T) (htl:∀q∈T,Z1R q=true) (hn0:n0<=all.length) (hlt0:∀it∈its,it.i<n0) (hspl:∀d,sp=some d->d.i<n0/\∀j∈d.js,j.i<n0):
  ∀(fuel:Nat) (listed:Array Bool) (l:List Nat) (ns:Nat) (bl:Nat->Nat) (rem:List It) (D:Nat) (pend:List (It×AV)) (s:St) (E:Env) (a:Act) (w:World),
   l.length<=fuel->(∀j,listed.getD j true=false->j∈l)->listed.size=all.length->(∀j,n0<=j->j<all.length->listed.getD j true=false)->
   (∀i o e,all[i]? =some o->listed.getD i true=true->e∈o.after.toList->Region.binds .any e=true->listed.getD e.on true=true)->
   Inv P all its sp E0 h0 w0 (fun j=>listed.getD j true=true) bl rem D pend s E a w->
   VV cx P all its (Z11 cx P all its ns) rem D pend s (spX sp (tlX P T X))->
   wpAnyIn (Fr ro) n P .any all.toArray (Vl E0 h0 w0 X) fuel listed a w:=by
 have hlt:∀it∈ZG qm 0 [] all,∀p,it.m.testBit p=true->p<it.i:=by
  refine Z6s (all:=all) (fun i o e ho he hb=> ?_) (fun j=>by simp) (fun j p h=>by simp [Qe] at h) rfl
  have hi:i<all.length:=by
   rcases Jo i all.length with h|h
   ·exact h
   ·rw [Jv h] at ho;cases ho
  obtain ⟨it,hit,rfl⟩:=hst.ex i hi
  have:=hst.mem0 it hit
  rw [this] at ho
  cases ho
  exact hst.edges it hit e he hb
 have hml:∀it∈its,∀p,it.m.testBit p=true->p<it.i:=fun it hit=>hlt it (hst.sub it hit)
 -- all of the main part is done
 have hend:∀(fuel:Nat) (listed:Array Bool) (l:List Nat) (ns:Nat) (bl:Nat->Nat) (rem:List It) (D:Nat) (pend:List (It×AV)) (s:St) (E:Env) (a:Act) (w:World),
   l.length<=fuel->(∀j,listed.getD j true=false->j∈l)->listed.size=all.length->(∀j,n0<=j->j<all.length->listed.getD j true=false)->(∀j,j<n0->listed.getD j true=true)->
   Inv P all its sp E0 h0 w0 (fun j=>listed.getD j true=true) bl rem D pend s E a w->VV cx P all its (Z11 cx P all its ns) rem D pend s (spX sp (tlX P T X))->
   wpAnyIn (Fr ro) n P .any all.toArray (Vl E0 h0 w0 X) fuel listed a w:=fun fuel listed l ns bl rem D pend s E a w hl hcov hsz hunT hmain I h=>by
  refine Z93 hst T n0 fuel listed a w hT htl hsz (fun j=> ?_) ?_ (finish hst I hlt0 hml hspl hmain h)
  ·constructor
   ·intro h1
    rcases Jo j n0 with h2|h2
    ·exact .inl h2
    ·rcases Jo j all.length with h3|h3
     ·rw [hunT j h2 h3] at h1;cases h1
     ·exact .inr h3
   ·rintro (h1|h1)
    ·exact hmain j h1
    ·rw [Jw,K8 (by omega)]
     rfl
  ·have h1:=Z4l (all.length-n0) n0 l fun j h2 h3=>hcov j (hunT j h2 (by omega))
   have h2:=congrArg List.length hT
   rw [J9,XH] at h2
   omega
 intro fuel
 induction fuel with
 | zero=>
  intro listed l ns bl rem D pend s E a w hl hcov hsz hunT hdown I h
  have hl0:l=[]:=List.length_eq_zero_iff.1 (Nat.le_zero.1 hl)
  refine hend 0 listed l ns bl rem D pend s E a w hl hcov hsz hunT (fun j _=> ?_) I h
  cases hj:listed.getD j true with
  | true=>rfl
  | false=>have:=hcov j hj;rw [hl0] at this;cases this
 | succ fuel ih=>
  intro listed l ns bl rem D pend s E a w hl hcov hsz hunT hdown I h
  by_cases hmain:∀j,j<n0->listed.getD j true=true
  ·exact hend (fuel+1) listed l ns bl rem D pend s E a w hl hcov hsz hunT hmain I h
  refine ⟨fun hr=>absurd (fun j _=>Z4m hst listed hsz hr j) hmain,fun i hi=> ?_⟩
  obtain ⟨hun,o,ho,hpre⟩:=mem_ready.1 hi
  have ho':all[i]? =some o:=by simpa using ho
  have hil:i<all.length:=by
   grind
  obtain ⟨it,hit0,hii⟩:=hst.ex i hil
  subst hii
  have hoi:=hst.mem0 it hit0
  rw [ho'] at hoi
  cases hoi
  -- what is listed then
  have hL':(fun j=>(listed.setIfInBounds it.i true).getD j true=true)=(fun j=>listed.getD j true=true\/j=it.i):=by
   funext j
   apply propext
   by_cases hj:it.i=j
   ·subst hj
    have:it.i<listed.size:=by omega
    simp [Jw,this]
   ·have hj':¬j=it.i:=fun e=>hj e.symm
    simp [Jw,hj,hj']
  have hpreL:∀e∈it.o.after.toList,Region.binds .any e=true->listed.getD e.on true=true:=fun e he hb=>by
   have h1:=hpre e (by grind) hb
   rw [Jw] at h1⊢
   grind
  have hdown':∀i o e,all[i]? =some o->(listed.getD i true=true\/i=it.i)->e∈o.after.toList->Region.binds .any e=true->(listed.getD e.on true=true\/e.on=it.i):=fun i o e hio hLi he hb=>by
   grind
  have hmaskL:∀q∈ZG qm 0 [] all,(listed.getD q.i true=true)->∀p,q.m.testBit p=true->listed.getD p true=true:=
   VW (L:=fun j=>listed.getD j true=true) hdown (k:=0) (acc:=[]) rfl (fun j=>by simp) (fun j p hj=>by omega) (fun j _=>by simp [Qe])
  have hmask':∀q∈ZG qm 0 [] all,(listed.getD q.i true=true\/q.i=it.i)->∀p,q.m.testBit p=true->(listed.getD p true=true\/p=it.i):=
   VW (L:=fun j=>listed.getD j true=true\/j=it.i) hdown' (k:=0) (acc:=[]) rfl (fun j=>by simp) (fun j p hj=>by omega) (fun j _=>by simp [Qe])
  have hbits:∀p,it.m.testBit p=true->listed.getD p true=true:=fun p hp=>by
   grind
  have hspc:it∈its\/∃d,sp=some d/\Z6p d it=true:=by
   rcases hst.spc it hit0 with h1|h1|⟨h1,h2⟩
   ·exact .inl h1
   ·exact .inr h1
   ·exact absurd (fun j hj=>hbits j ((Z5z h1).2.1 j (by omega))) hmain
  have hin0:it.i<n0:=by
   rcases hspc with h1|⟨d,hd,h1⟩
   ·exact hlt0 it h1
   ·obtain ⟨_,⟨_,_,h2,_⟩|⟨j,hj,h2,_⟩⟩:=QM h1
    ·rw [h2];exact (hspl d hd).1
    ·rw [<-h2];exact (hspl d hd).2 j hj
  -- going on
  have hgo:∀(ns':Nat) (bl':Nat->Nat) (rem':List It) (D':Nat) (pend':List (It×AV)) (s':St) (E':Env) (a':Act) (w':World),
    Inv P all its sp E0 h0 w0 (fun j=>listed.getD j true=true\/j=it.i) bl' rem' D' pend' s' E' a' w'->
    VV cx P all its (Z11 cx P all its ns') rem' D' pend' s' (spX sp (tlX P T X))->
    wpAnyIn (Fr ro) n P .any all.toArray (Vl E0 h0 w0 X) fuel (listed.setIfInBounds it.i true) a' w':=fun ns' bl' rem' D' pend' s' E' a' w' I' h'=>by
   refine ih (listed.setIfInBounds it.i true) (l.erase it.i) ns' bl' rem' D' pend' s' E' a' w' ?_ ?_ (by simpa using hsz) (fun j h1 h2=> ?_) ?_ (by rw [hL'];exact I') h'
   ·rw [List.length_erase_of_mem (hcov it.i hun)];omega
   ·intro j hj
    have hne:j≠it.i:=fun e=>by
     subst e
     have:=congrFun hL' it.i
     have h2:(listed.setIfInBounds it.i true).getD it.i true=true:=by rw [this];exact .inr rfl
     rw [h2] at hj;cases hj
    have hj':listed.getD j true=false:=by
     cases hq:listed.getD j true with
     | false=>rfl
     | true=>
      have:=congrFun hL' j
      have h2:(listed.setIfInBounds it.i true).getD j true=true:=by rw [this];exact .inl hq
      rw [h2] at hj;cases hj
    exact (List.mem_erase_of_ne hne).2 (hcov j hj')
   ·have h3:(listed.setIfInBounds it.i true).getD j true=listed.getD j true:=by
     have:it.i≠j:=by omega
     simp [Jw,this]
    rw [h3]
    exact hunT j h1 h2
   ·intro i o e hio hLi he hb
    have e1:=congrFun hL' i
    have e2:=congrFun hL' e.on
    have h1:(listed.getD i true=true\/i=it.i):=by rw [<-e1];exact hLi
    have h2:=hdown' i o e hio h1 he hb
    rw [<-e2] at h2
    exact h2
  have hnext:∀(ns':Nat) (bl':Nat->Nat) (rem':List It) (D':Nat) (pend':List (It×AV)) (s':St) (E':Env) (a':Act) (w':World),
    Inv P all its sp E0 h0 w0 (fun j=>listed.getD j true=true\/j=it.i) bl' rem' D' pend' s' E' a' w'->
    Z11 cx P all its ns' rem' D' pend' s' (spX sp (tlX P T X))->
    wpAnyIn (Fr ro) n P .any all.toArray (Vl E0 h0 w0 X) fuel (listed.setIfInBounds it.i true) a' w':=fun ns' bl' rem' D' pend' s' E' a' w' I' h'=>by
   cases ns' with
   | zero=>exact h'.elim
   | succ ns'=>
    obtain ⟨r2,D2,p2,s2,k1,k2⟩:=Z4i hst (fun q hq=>hmask' q (hst.sub q hq)) rem' [] D' pend' s' h' I'
    exact hgo ns' bl' r2 D2 p2 s2 E' a' w' k2 k1
  unfold wpOpIn
  rw [ho]
  simp only
  have hnL:¬(listed.getD it.i true=true):=by rw [hun];simp
  rcases hspc with hit|⟨d,hd,hsp⟩
  rotate_left
  ·-- the map, its entries
   obtain ⟨hg,⟨T,hT,hi,hdst⟩|⟨j,hj,hi,hT,hdst⟩⟩:=QM hsp
   ·rw [if_pos (by simp [Region.wanted,hg])]
    refine ⟨fun _ _=>trivial, ?_⟩
    rw [show (Fr ro).round=ro from rfl,ZH (fun c e=>by rw [e] at hT;cases hT),run_makeMap hT]
    refine hgo ns bl rem D pend s E _ _ ?_ h
    rw [hi] at hnL
    rw [hdst,hi]
    exact I.doMap hst hmaskL hd hnL
   ·rw [if_pos (by simp [Region.wanted,hg])]
    refine ⟨fun _ _=>trivial, ?_⟩
    have hLd:listed.getD d.i true=true:=by
     have h1:=(Z3b (L:=fun j=>listed.getD j true=true\/j=it.i) hst hd hj hmask' (.inr hi)).1
     rcases h1 with h1|h1
     ·exact h1
     ·have h2:=hst.jok d hd j hj
      unfold jOk at h2
      simp only [J2,Jy] at h2
      rw [hi,<-h1,Jj] at h2
      cases h2.1.1
    rw [<-hi] at hnL
    obtain ⟨w',hr,I'⟩:=I.doIns hst hmaskL hd hj hnL hLd hT
    rw [show (Fr ro).round=ro from rfl,ZH (fun c e=>by rw [e] at hT;cases hT),hr]
    have hput:a.put it.o.dst undef=a:=by rw [hdst];rfl
    refine hgo ns bl rem D pend s E (a.put it.o.dst undef) w' ?_ h
    rw [hput,<-hi]
    exact I'
  -- what is ready is in reach
  have hDm:(Yy it||bsI it)=true->Nat.beq (Nat.land it.m D) it.m=true:=fun hq=>by
   have:it.m&&&D=it.m:=by
    apply Nat.eq_of_testBit_eq
    intro p
    rw [Nat.testBit_and]
    cases hp:it.m.testBit p with
    | false=>rfl
    | true=>
     have hpl:=hlt it hit0 p hp
     obtain ⟨q,hqi0,rfl⟩:=hst.ex p (by omega)
     have hLq:=hbits _ hp
     have hqi:q∈its:=by
      rcases hst.spc q hqi0 with h1|⟨d,hd,h1⟩|⟨_,h1⟩
      ·exact h1
      rotate_left
      ·have:=hlt0 it hit;omega
      ·obtain ⟨_,⟨T,_,hi,_⟩|⟨j,hj,hi,_⟩⟩:=QM h1
       ·rw [hi,(XI hst hd hit).2.1] at hp;cases hp
       ·rw [<-hi,((XI hst hd hit).2.2.2.2 j hj).2] at hp;cases hp
     have hqn:q∉rem:=by
      rcases kinds q with h4|h4|h4
      ·exact I.quiet q hqi h4 hLq
      ·exact (I.eff q hqi h4).1 hLq
      ·obtain ⟨e,he,h5,h6,h7⟩:=hst.qlate it hit hq q hqi h4 hp
       exact I.born e he (YN h5) ((I.eff e he h5).1 (hbits _ h7)) q hqi h6
     rw [I.dset q hqi hqn]
     rfl
   show Nat.beq (it.m&&&D) it.m=true
   rw [this];exact Jj _
  rcases kinds it with hq|hef|hlt2
  ·-- quiet
   have hnr:it∉rem:=fun hin=>by
    have h2:=h
    unfold VV at h2
    split at h2
    ·exact h2
    ·rename_i hchk
     have h3:=(YL _ _).1 hchk it hin
     simp only [JJ,Jy] at h3
     rcases h3 with h3|h3
     ·rw [hq] at h3;cases h3
     ·have h5:=hDm (by rw [hq];rfl)
      rw [h5] at h3;cases h3
   obtain ⟨v,hd,hf⟩:=I.fact it hit hq hnr hnL
   have hqe:Xo it=false:=by
    cases he:Xo it with
    | false=>rfl
    | true=>rw [Yl he] at hq;cases hq
   have hrel:∀x∈Wb all it.o,∀u,ZD s.t x=some u->Zc E u (a.tmps.getD x undef):=fun x hx u hu=>I.tmps x u hu fun q hqi hdq hqq hqn=>by
    have hne:q≠it:=fun e=>by subst e;exact hst.self q hqi hqe x hdq hx
    rcases hst.rd q hqi it hit hne x hdq hx with h3|⟨h3,h4⟩
    ·exact hbits _ h3
    ·rcases h4 with h4|⟨_,e,he,h5,h6,h7⟩
     ·rw [Yl h4] at hqq;cases hqq
     ·have hLe:=(I.eff e he h5).2 (I.born q hqi (ZY hqq) hqn e he h7)
      exact absurd (hmaskL e (hst.sub e he) hLe _ h6) hnL
   rcases hf with ⟨hw,_,hsem⟩|⟨hw,rfl⟩
   ·rw [if_pos (Q4 hw fun x hx u hu=>hrel x (JO _ hx) u hu)]
    obtain ⟨r,hr,hv⟩:=hsem E w a (fun _=>I.evo.emb) fun x hx u hu=>hrel x (JB _ hx) u hu
    refine ⟨fun _ _=>trivial, ?_⟩
    rw [show (Fr ro).round=ro from rfl,ZH (fun c e=>by unfold Yy at hq;rw [e] at hq;simp [ZbH,ZbG] at hq),hr]
    exact hgo ns bl rem D pend s E _ w (I.doQuiet hst hmaskL hit hnL hq hnr hd hv) h
   ·rw [if_neg (by rw [Q4 hw fun x hx u hu=>hrel x (JO _ hx) u hu];simp)]
    refine ⟨fun _ _=>trivial, ?_⟩
    exact hgo ns bl rem D pend s E _ w (I.doQuiet hst hmaskL hit hnL hq hnr hd (.tuple [] [] .nil)) h
  ·-- an effect
   have hin:it∈rem:=by
    by_cases hin:it∈rem
    ·exact hin
    ·exact absurd ((I.eff it hit hef).2 hin) hnL
   unfold VV at h
   split at h
   ·exact h.elim
   ·replace h:=(Uv h).1
    split at h
    ·rename_i hno
     have:=Qs hno it hin
     rw [hef] at this;cases this
    ·rename_i e he
     have hcand:Z4f rem it=true:=by
      unfold Z4f
      rw [hef,Uq fun q hq heq=> ?_]
      ·rfl
      ·cases hb:it.m.testBit q.i with
       | false=>rfl
       | true=>exact absurd hq ((I.eff q (I.sub q hq) heq).1 (hbits _ hb))
     replace h:=QJ h hin hcand
     ·skip
      obtain ⟨rem1,D1,s1,E1,h,I1,k1,k2,_⟩:=Z6r (kept:=[]) hst (fun q hq=>hmaskL q (hst.sub q hq)) (fun q hq hl hb=>hbits _ hb) (fun q _ v hqv=>by
        cases hb:it.m.testBit q.i with
        | true=>exact .inl (hbits _ hb)
        | false=>exact .inr (Q5.2 ⟨hqv,hb⟩)) rem D s E h I (by simp)
      have hin1:it∈rem1:=k2 it (by simpa using hin) (YN hef)
      split at h
      ·exact h.elim
      ·rename_i hland
       have hD:∀p,it.m.testBit p=true->D1.testBit p=true:=fun p hp=>Z13 hland hp
       have hrel:∀x∈Wb all it.o,∀u,ZD s1.t x=some u->Zc E1 u (a.tmps.getD x undef):=fun x hx u hu=>I1.tmps x u hu fun q hqi hdq hqq hqn=>by
        have hne:q≠it:=fun e=>by subst e;rw [Yl hef] at hqq;cases hqq
        rcases hst.rd q hqi it hit hne x hdq hx with h3|⟨h3,_⟩
        ·exact hbits _ h3
        ·exact absurd hin1 (I1.born q hqi (ZY hqq) hqn it hit h3)
       obtain ⟨s2,g1,g2,g3,g4,g5⟩:=Z1C h
       rcases g5 with ⟨hw,hrun⟩|⟨hw,hskip⟩
       ·rw [if_pos (Q4 hw fun x hx u hu=>hrel x (JO _ hx) u hu)]
        split at hrun
        ·rename_i S0 args0 hp0
         rw [g2] at hrun
         have hcore:=Z6g (d:=s1.d) hcx cx.inR hp0 hrun
         refine Z34 (Zac P cx.inR) hcore I1.evo.emb (m:=a.tmps.size) ⟨rfl,fun x u hu=> ?_⟩ I1.defs I1.evo hro ?_ (fun _ _ _ _ _ hx=>hx.elim)
         ·have:=XG hu
          exact hrel x (JB _ this.2) u (by rw [<-g1 x];exact this.1)
         ·rintro v h' d' E' ds r w' ⟨hk,rfl,rfl⟩ hv hv0 hds hvr
          obtain ⟨s3,hst',j1,j2,j3,j4,j5⟩:=YW hk
          have j1':=j1.trans g2
          refine hnext ns bl _ _ _ s3 E' _ w' (I1.doEff hst hmaskL hin1 hnL hef hD hbits (s3:=s3) (by rw [j1'];exact hv) (by rw [j1'];exact hv0) (by rw [j3,g4];exact hds) hvr (j2.trans g3) (fun x hx=>⟨(j4 x hx).1,g3▸(j4 x hx).2⟩) (fun x hx=>(j5 x hx).trans (g1 x)) ?_) hst'
          intro q u hqu hs0 ht0
          rw [j1']
          exact hs0.congr ht0
        rw [g2,g4] at hrun
        refine Z34 hcx hrun I1.evo.emb (m:=a.tmps.size) ⟨rfl,fun x u hu=> ?_⟩ I1.defs I1.evo hro ?_ ?_
        ·have:=XG hu
         exact hrel x (JB _ this.2) u (by rw [<-g1 x];exact this.1)
        ·intro v h' d' E' ds r w' hk hv hv0 hds hvr
         obtain ⟨s3,k0,j1,j2,j3,j4,j5⟩:=YW hk
         obtain ⟨hst',hsem⟩:=VX k0
         simp only at j1 j2 j3 j4 j5
         refine hnext ns bl _ _ _ s3 E' _ w' (I1.doEff hst hmaskL hin1 hnL hef hD hbits (s3:=s3) (by rw [j1];exact hv) (by rw [j1];exact hv0) (by rw [j3];exact hds) hvr (j2.trans g3) (fun x hx=>⟨(j4 x hx).1,g3▸(j4 x hx).2⟩) (fun x hx=>(j5 x hx).trans (g1 x)) ?_) hst'
         intro q u hqu hs0 ht0
         rcases hsem q u hqu with hw0|hs1
         ·exact (hs0.congr ht0).worldless hw0
         ·exact hs1
        ·intro v h' E' r w' hx hv hv0 hvr
         refine ⟨E',.panic v,_,hx,hv0,⟨hv.emb,⟨I1.size.trans g3.symm,fun x u hu=> ?_⟩,I1.defs.mono hv.le⟩,.panic v r hvr⟩
         have h3:=QL hu
         exact (I1.tmps x u (by rw [<-g1 x];exact h3.1) fun q hq hdq _ _=>absurd hdq (h3.2 q hq)).mono hv.le
       ·rw [if_neg (by rw [Q4 hw fun x hx u hu=>hrel x (JO _ hx) u hu];simp)]
        refine ⟨fun _ _=>trivial, ?_⟩
        obtain ⟨s3,k0,j1,j2,j3,j4,j5⟩:=YW hskip
        have hh:s3.h=s1.h:=j1.trans g2
        refine hnext ns bl _ _ _ s3 E1 _ w (I1.doEff hst hmaskL hin1 hnL hef hD hbits (s3:=s3) (ds:=a.defers) (by rw [hh];exact .refl I1.evo.emb) (by rw [hh];exact I1.evo) (by rw [j3,g4];exact I1.defs) (.tuple [] [] .nil) (j2.trans g3) (fun x hx=>⟨(j4 x hx).1,g3▸(j4 x hx).2⟩) (fun x hx=>(j5 x hx).trans (g1 x)) ?_) k0
        intro q u _ h3 h4
        rw [hh]
        exact h3.congr h4
  ·-- a block
   have hin:it∈rem:=by
    by_cases hin:it∈rem
    ·exact hin
    ·exact absurd (I.late it hit hlt2 hin) hnL
   obtain ⟨hg,_⟩:=hst.late it hit hlt2
   have hpush:∃mkv obj,WX P it a mkv obj:=by
    rcases Uu hlt2 with ⟨T,hT⟩|⟨T,len,ps,hT,hbs,_⟩
    ·obtain ⟨cs,hz⟩:=hst.lz it hit T hT
     obtain ⟨z,z1,_⟩:=WB hz
     exact ⟨fun b=>.pointer (some ⟨b,0,none⟩),.cells z.cells T (0,0),fun w=>Z4k hT z1 _ w⟩
    ·have h2:=h
     unfold VV at h2
     split at h2
     ·exact h2.elim
     ·obtain ⟨Z,h3⟩:=(Uv h2).2 it hin hbs (hDm (by rw [hbs];simp))
      obtain ⟨v,B,_,h4⟩:=Z3d hlt2 h3
      obtain ⟨mkv,obj,N,h5,_⟩:=h4 E a fun x u hu=>by
       have h6:=XG hu
       exact I.tmps x u h6.1 fun q hqi hdq _ _=>hbits _ (hst.lrd it hit hlt2 q hqi x hdq h6.2)
      exact ⟨mkv,obj,h5⟩
   obtain ⟨mkv,obj,hp⟩:=hpush
   rw [if_pos (by simp [Region.wanted,hg])]
   refine ⟨fun _ _=>trivial, ?_⟩
   rw [show (Fr ro).round=ro from rfl,ZH (fun c e=>by rcases Uu hlt2 with ⟨T,hT⟩|⟨T,l,ps,hT,_⟩<;>rw [hT] at e<;>cases e),hp w]
   exact hgo ns _ rem D pend s E _ _ (I.doLate hst hmaskL hin hlt2 hnL hp) h
theorem Z4n {sp:Option SpD} {t:ZM} {x:Nat} {v:AV} (h:ZD (Z6q sp t) x=some v):ZD t x=some v:=by
 unfold Z6q at h
 grind [XS,Xn]
theorem Z6u {qm:Nat} {its:List It} {sp:Option SpD} {Z:Prop} {k:Nat} (hcx:cx.Ok P) {ro:Option Nat} (hro:cx.inR=none->ro=none) {id:Nat} {ops:Array Oper} {T:List It} {n0:Nat} (hT:(ZG qm 0 [] ops.toList).drop n0=T) (hn0:n0<=ops.toList.length) (hsub:∀it∈its,it∈ZG qm 0 [] ops.toList) (hpw:its.Pairwise fun a b=>a.i≠b.i)
  (hcov:∀it∈ZG qm 0 [] ops.toList,it∈its\/(isSp it.o.op=true/\sp≠none)\/it∈T)
  (h:Z91 cx P ops.toList (ZG qm 0 [] ops.toList) its sp T n0 s X Z):Yj P k ro (.region id ops true) s X\/Z:=by
 unfold Z91 at h
 split at h
 ·rename_i hchk
  refine .inl ?_
  simp only [J2] at hchk
  have htl:=(YL _ _).1 hchk.1.2
  have hlt0:∀it∈its,it.i<n0:=fun it hit=>Je ((YL _ _).1 hchk.1.1.2 it hit)
  have hst:Stat P ops.toList (ZG qm 0 [] ops.toList) its sp n0:=Zee hsub (fun it hit=>by
   rcases hcov it hit with h1|h1|h1
   ·simp_all
   ·simp_all
   ·refine .inr (.inr ⟨htl it h1, ?_⟩)
    rw [<-hT] at h1
    obtain ⟨p,hp⟩:=JX.1 h1
    rw [JF] at hp
    have:=Xj hp
    omega) hchk.1.1.1.1.1.2 hchk.1.1.1.1.2
  have hmix:=hchk.1.1.1.1.1.1
  have hspl:=hchk.1.1.1.2
  have hln:=hchk.2
  have hspl2:∀d,sp=some d->d.i<n0/\∀j∈d.js,j.i<n0:=fun d hd=>by
   simp_all [ZgH,Ur]
  intro E0 h0 w0 E a w n _ hs hev
  refine wpIn_region_any hmix ?_
  let w1:World:={ w with drawn:=w.drawn+1}
  have hdrew:Evo E s.h w E s.h w1:=Z01 hs.emb rfl rfl rfl ⟨rfl,Nat.le_succ _⟩
  have hlist:∀j,(Array.replicate ops.size false).getD j true=true↔ops.size<=j:=fun j=>by
   by_cases hj:j<ops.size
   ·simp [hj]
   grind
  have hnL:∀it∈its,¬((Array.replicate ops.size false).getD it.i true=true):=fun it hit hL=>by
   have h1:=hst.mem it hit
   rw [hlist] at hL
   rw [Jv (by omega)] at h1
   cases h1
  have hdown:∀i o e,ops.toList[i]? =some o->(Array.replicate ops.size false).getD i true=true->e∈o.after.toList->Region.binds .any e=true->(Array.replicate ops.size false).getD e.on true=true:=fun i o e hio hL=>by
   rw [hlist] at hL
   rw [Jv (by omega)] at hio
   cases hio
  have I0:Inv P ops.toList its sp E0 h0 w0 (fun j=>(Array.replicate ops.size false).getD j true=true) (fun _=>0) its 0 [] { s with t:=Z6q sp (WG s.t its)} E a w1:=by
   refine ⟨fun _ h=>h,hpw,fun it _ hb=>by simp at hb,fun it hit _ hn=>absurd hit hn,fun it hit _=>⟨fun hL=>absurd hL (hnL it hit),fun hn=>absurd hit hn⟩,fun it hit _ hn=>absurd hit hn,fun it hit _ hL=>absurd hL (hnL it hit),fun it hit _ hn=>absurd hit hn,
    hs.tmps.size,fun x v hx _=>hs.tmps.get x v (Wo (Z4n hx)).1,hs.defs,hev.trans hdrew,fun it hit hl x hx=> ?_,fun it hit hL=>absurd hL (hnL it hit),fun it hit _ _ hL=>absurd hL (hnL it hit),fun it hit _ _ hn=>absurd hit hn,fun it hit hn=>absurd hit hn,fun it hit hl x hx=> ?_,fun d hd=> ?_⟩
   ·cases hg:ZD (Z6q sp (WG s.t its)) x with
    | none=>rfl
    | some v=>exact absurd hx ((Wo (Z4n hg)).2 it hit hl)
   ·have h1:=(YL _ _).1 hln it hit
    rw [hx] at h1
    simp only [JJ,Jy] at h1
    rcases h1 with h1|h1
    ·rw [h1] at hl;cases hl
    ·exact Je h1
   ·subst hd
    unfold ZgH at hspl
    simp only [J2] at hspl
    refine ⟨by rw [hs.tmps.size];exact Je hspl.1.1,XS _ _,fun hL=> ?_⟩
    rw [hlist] at hL
    have h1:=Je hspl.1.2
    rw [Array.length_toList] at hn0
    omega
  have hmask:∀q∈its,((Array.replicate ops.size false).getD q.i true=true)->∀p,q.m.testBit p=true->(Array.replicate ops.size false).getD p true=true:=fun q hq hL=>absurd hL (hnL q hq)
  obtain ⟨r2,D2,p2,s2,k1,k2⟩:=Z4i hst hmask _ [] 0 [] _ h I0
  have:=Zam (X:=X) hcx hro hst (n:=n) hT htl hn0 hlt0 hspl2 ops.size (Array.replicate ops.size false) (List.range ops.size) _ _ r2 D2 p2 s2 E a w1 (by simp) (fun j hj=>by
   grind) (by simp) (fun j _ h2=>by
    grind) hdown k2 k1
  exact this
 simp_all
theorem Z6v {qm:Nat} {all:List Oper}:(ZG qm 0 [] all).Pairwise fun a b=>a.i≠b.i:=by
 rw [Jk]
 intro i j hi hj hij
 have h1:=Xj (J8 hi)
 have h2:=Xj (J8 hj)
 omega
theorem WY {it:It}:∀{l:List It},it∈WV l↔it∈l/\isSp it.o.op=false
 | []=>by simp [WV]
 | q::r=>by
  unfold WV
  split
  ·rename_i h
   rw [WY,J7]
   constructor
   ·rintro ⟨h1,h2⟩;exact ⟨.inr h1,h2⟩
   ·rintro ⟨rfl|h1,h2⟩
    ·rw [h] at h2;cases h2
    ·exact ⟨h1,h2⟩
  ·rename_i h
   rw [J7,WY,J7]
   constructor
   ·rintro (rfl|⟨h1,h2⟩)
    ·exact ⟨.inl rfl,h⟩
    ·exact ⟨.inr h1,h2⟩
   ·rintro ⟨rfl|h1,h2⟩
    ·exact .inl rfl
    ·exact .inr ⟨h1,h2⟩
theorem Uw:∀{l:List It},(WV l).Sublist l
 | []=>.slnil
 | q::r=>by
  unfold WV
  split
  ·exact .cons _ Uw
  ·exact .cons_cons _ Uw
theorem ZbP:∀l:List It,Wc l++Us l=l
 | []=>rfl
 | it::r=>by
  have ih:=ZbP r
  unfold Wc Us
  split
  all_goals grind
theorem ZbQ {qm:Nat} {Z:Prop} {k:Nat} (hcx:cx.Ok P) {ro:Option Nat} (hro:cx.inR=none->ro=none) {id:Nat} {ops:Array Oper} (h:ZbL P cx ops.toList (ZG qm 0 [] ops.toList) s X Z):Yj P k ro (.region id ops true) s X\/Z:=
 Z6u hcx hro (List.drop_eq_nil_iff.2 (by rw [XH];omega)) (J1 _) (fun _ h=>h) Z6v (fun _ h=>.inl h) h
theorem ZbR {k:Nat} (hcx:cx.Ok P) {ro:Option Nat} (hro:cx.inR=none->ro=none) {id:Nat} {ops:Array Oper} (h:ZbM P cx ops.toList s X):Yj P k ro (.region id ops true) s X:=by
 unfold ZbM at h
 split at h
 ·unfold ZfX at h
  have happ:=ZbP (ZG 2 0 [] ops.toList)
  have hmem:∀q∈Wc (ZG 2 0 [] ops.toList),q∈ZG 2 0 [] ops.toList:=fun q hq=>by grind
  have hsub:(Wc (ZG 2 0 [] ops.toList)).Sublist (ZG 2 0 [] ops.toList):=by
   have:=List.sublist_append_left (Wc (ZG 2 0 [] ops.toList)) (Us (ZG 2 0 [] ops.toList))
   rw [happ] at this
   exact this
  have hdrop:(ZG 2 0 [] ops.toList).drop (Wc (ZG 2 0 [] ops.toList)).length=Us (ZG 2 0 [] ops.toList):=by
   have:=congrArg (fun l=>l.drop (Wc (ZG 2 0 [] ops.toList)).length) happ
   rw [<-this,List.drop_left]
  have hlen:(Wc (ZG 2 0 [] ops.toList)).length<=ops.toList.length:=by
   have:=hsub.length_le
   rw [XH] at this
   exact this
  split at h
  ·rcases Z6u hcx hro hdrop hlen (fun _ h=>hmem _ (WY.1 h).1) ((Z6v.sublist hsub).sublist Uw) (fun it h=>by
    rw [<-happ,JV] at h
    rcases h with h|h
    ·cases hs:isSp it.o.op with
     | false=>exact .inl (WY.2 ⟨h,hs⟩)
     | true=>simp_all
    simp_all) h with h|h
   ·exact h
   simp_all
  simp_all
 grind [ZbQ]
end
end Go.Tk
end
section
namespace Go.Tk
open IntKind (i64 u8 u32 u64 wrap)
variable {E E':Env} {Z:Prop} {B B' B₂:Blk} {s₂:St} {mv ro:Option Nat} {X:KE} {G:Zg} {r:Value} {args args₀ cs:List AV} {nx:Nat} {v':AV} {K:AV->Prop}
abbrev Ren:=List (Nat×Nat)
variable {τ:Ren}
def Z7Z:Ren->Nat->Option Nat
 | [],_=>none
 | (y,x)::r,z=>match Nat.beq y z with|true=>some x|false=>Z7Z r z
def rn (k:Nat) (τ:Ren) (y:Nat):Option Nat:=match Nat.blt y k with|true=>some y|false=>Z7Z τ y
def Env.ren (E:Env) (k:Nat) (τ:Ren):Env:=⟨fun y=>match rn k τ y with|some x=>E.blk x|none=>none,E.imm⟩
theorem Env.ren_some {k:Nat} {x y:Nat} (h:rn k τ y=some x):(E.ren k τ).blk y=E.blk x:=by simp [Env.ren,h]
theorem Env.ren_none {k:Nat} {y:Nat} (h:rn k τ y=none):(E.ren k τ).blk y=none:=by simp [Env.ren,h]
theorem Env.ren_views {k:Nat}:E.views.le (E.ren k τ).views:=⟨fun _ _ h=>by simp [Env.views] at h,fun _ _ h=>h⟩
def Ux (k:Nat) (τ:Ren) (y x:Nat) (Z:Prop):Prop:=
 match rn k τ y with
 | some x'=>match Nat.beq x' x with
  | true=>Z
  | false=>False
 | none=>False
theorem Xq {k:Nat} {y x:Nat} (h:Ux k τ y x Z):rn k τ y=some x/\Z:=by
 grind [Ux,J0]
def eqP (k:Nat) (τ:Ren) (q p:ZI) (Z:Prop):Prop:=
 Ux k τ q.blk p.blk (Z4 (p.row=q.row) (Z4 (p.sz=q.sz) (Z4 (p.off=q.off) (Z4 (p.inn=q.inn) Z))))
theorem ZbS {k:Nat} {q p:ZI} (h:eqP k τ q p Z):rn k τ q.blk=some p.blk/\p.tot=q.tot/\Z:=by
 obtain ⟨h0,h⟩:=Xq h
 grind [Zd,ZI.tot]
mutual
/-- A value (behind) taken for another (ahead). -/
def eqV (k:Nat) (τ:Ren):AV->AV->Prop->Prop
 | .top,_,Z=>Z
 | .bool b,v,Z=>match v with
  | .bool a=>Z4 (a=b) Z
  | _=>False
 | .int kk b,v,Z=>match v with
  | .int kk' a=>match decide (kk'=kk) with
   | true=>Z4 (a=b) Z
   | false=>False
  | _=>False
 | .str b,v,Z=>match v with
  | .str a=>a=b/\Z
  | _=>False
 | .ptr none,v,Z=>match v with
  | .ptr none=>Z
  | _=>False
 | .ptr (some q),v,Z=>match v with
  | .ptr (some p)=>eqP k τ q p Z
  | _=>False
 | .pview cs inn,v,Z=>match v with
  | .pview cs' inn'=>cs'=cs/\Z4 (inn'=inn) Z
  | _=>False
 | .nslice q esz len lo,v,Z=>match v with
  | .nslice p esz' len' lo'=>eqP k τ q p (Z4 (esz'=esz) (Z4 (len'=len) (Z4 (lo<=lo') Z)))
  | .nilslice=>Z4 (len=0) (Z4 (lo=0) Z)
  | .eslice=>Z4 (len=0) (Z4 (lo=0) Z)
  | _=>False
 | .vints kk xs len,v,Z=>match v with
  | .vints kk' xs' len'=>match decide (kk'=kk) with
   | true=>xs'=xs/\Z4 (len'=len) Z
   | false=>False
  | _=>False
 | .vrows esz n f len,v,Z=>match v with
  | .vrows esz' n' f' len'=>Z4 (esz'=esz) (Z4 (n'=n) (f'=f/\Z4 (len'=len) Z))
  | _=>False
 | .eslice,v,Z=>match v with
  | .eslice=>Z
  | .nilslice=>Z
  | _=>False
 | .fslice,v,Z=>match v with
  | .fslice=>Z
  | _=>False
 | .nilslice,v,Z=>match v with
  | .nilslice=>Z
  | _=>False
 | .map none,v,Z=>match v with
  | .map none=>Z
  | _=>False
 | .map (some y),v,Z=>match v with
  | .map (some x)=>Ux k τ y x Z
  | _=>False
 | .func (.func g) fs cs,v,Z=>match v with
  | .func (.func g') fs' cs'=>match Nat.beq g' g with
   | true=>eqL k τ fs fs' (eqL k τ cs cs' Z)
   | false=>False
  | _=>False
 | .func _ _ _,_,_=>False
 | .yield y,v,Z=>match v with
  | .yield x=>Ux k τ y x Z
  | _=>False
 | .nilFunc,v,Z=>match v with
  | .nilFunc=>Z
  | _=>False
 | .nilIface,v,Z=>match v with
  | .nilIface=>Z
  | _=>False
 | .iface t u,v,Z=>match v with
  | .iface t' u'=>match Nat.beq t' t with
   | true=>eqV k τ u u' Z
   | false=>False
  | _=>False
 | .agg cs,v,Z=>match v with
  | .agg cs'=>eqC k τ cs cs' Z
  | _=>False
 | .arr _ _ _,_,_=>False
 | .tuple vs,v,Z=>match v with
  | .tuple vs'=>eqL k τ vs vs' Z
  | _=>False
 | .stamp y,v,Z=>match v with
  | .stamp x=>Ux k τ y x Z
  | _=>False
def eqC (k:Nat) (τ:Ren):List AV->List AV->Prop->Prop
 | [],l,Z=>match l with
  | []=>Z
  | _::_=>False
 | .arr kk n xs::r,l,Z=>match l with
  | .arr kk' n' xs'::r'=>match decide (kk'=kk)&&Nat.beq n' n with
   | true=>xs'=xs/\eqC k τ r r' Z
   | false=>False
  | _=>False
 | v::r,l,Z=>match l with
  | v'::r'=>match v.isCell&&v'.isCell with
   | true=>eqV k τ v v' (eqC k τ r r' Z)
   | false=>False
  | []=>False
def eqL (k:Nat) (τ:Ren):List AV->List AV->Prop->Prop
 | [],l,Z=>match l with
  | []=>Z
  | _::_=>False
 | v::r,l,Z=>match l with
  | v'::r'=>eqV k τ v v' (eqL k τ r r' Z)
  | []=>False
end
theorem Z6w {v:AV} (h:v.isCell=true) (r:List AV):csz (v::r)=1+csz r:=by
 cases v<;>simp_all [csz,AV.isCell]
set_option maxHeartbeats 1000000 in
mutual
theorem QN {k:Nat} {τ:Ren}:∀(v₂ v:AV) (Z:Prop),eqV k τ v₂ v Z->Z/\∀(E:Env) (r:Value),Zc E v r->Zc (E.ren k τ) v₂ r
 | .top,v,Z,h=>⟨by unfold eqV at h;exact h,fun E r _=>.top r⟩
 | .bool b,v,Z,h=>by
  unfold eqV at h
  split at h
  ·replace h:=Zd h;obtain ⟨rfl,h⟩:=h
   exact ⟨h,fun E r hv=>by cases hv;exact .bool _⟩
  simp_all
 | .int kk b,v,Z,h=>by
  unfold eqV at h
  split at h
  ·split at h
   ·rename_i hk
    have hk:=of_decide_eq_true hk
    subst hk
    replace h:=Zd h;obtain ⟨rfl,h⟩:=h
    exact ⟨h,fun E r hv=>by cases hv;exact .int _ _⟩
   simp_all
  simp_all
 | .str b,v,Z,h=>by
  unfold eqV at h
  split at h
  ·obtain ⟨rfl,h⟩:=h
   exact ⟨h,fun E r hv=>by cases hv;exact .str _⟩
  simp_all
 | .ptr none,v,Z,h=>by
  unfold eqV at h
  split at h
  ·exact ⟨h,fun E r hv=>by cases hv;exact .nilptr⟩
  simp_all
 | .ptr (some q),v,Z,h=>by
  unfold eqV at h
  split at h
  ·obtain ⟨h1,h2,h3⟩:=ZbS h
   refine ⟨h3,fun E r hv=> ?_⟩
   cases hv
   rename_i b N hb
   rw [h2]
   exact .ptr q b N (by rw [Env.ren_some h1];exact hb)
  simp_all
 | .pview cs inn,v,Z,h=>by
  unfold eqV at h
  split at h
  ·obtain ⟨rfl,h⟩:=h
   replace h:=Zd h;obtain ⟨rfl,h⟩:=h
   refine ⟨h,fun E r hv=> ?_⟩
   cases hv with
   | pview cs inn a vs hc hi=>exact .pview _ _ a vs (hc.mono Env.ren_views) hi
  simp_all
 | .nslice q esz len lo,v,Z,h=>by
  unfold eqV at h
  split at h
  ·replace h:=ZbS h;obtain ⟨h1,h2,h⟩:=h
   replace h:=Zd h;obtain ⟨rfl,h⟩:=h
   replace h:=Zd h;obtain ⟨rfl,h⟩:=h
   obtain ⟨h4,h⟩:=Zd h
   refine ⟨h,fun E r hv=> ?_⟩
   cases hv with
   | nslice0 p esz len lo a e1 e2=>exact .nslice0 _ _ _ _ a e1 (by omega)
   | nslice p esz len lo b N cap hb e1 e2 e3=>
    rw [h2]
    exact .nslice q _ _ _ b N cap (by rw [Env.ren_some h1];exact hb) e1 (by omega) (by omega)
  ·replace h:=Zd h;obtain ⟨rfl,h⟩:=h
   replace h:=Zd h;obtain ⟨rfl,h⟩:=h
   exact ⟨h,fun E r hv=>by cases hv;exact .nslice0 _ _ _ _ _ rfl rfl⟩
  ·replace h:=Zd h;obtain ⟨rfl,h⟩:=h
   replace h:=Zd h;obtain ⟨rfl,h⟩:=h
   exact ⟨h,fun E r hv=>by cases hv;exact .nslice0 _ _ _ _ _ rfl rfl⟩
  simp_all
 | .vints kk xs len,v,Z,h=>by
  unfold eqV at h
  split at h
  ·split at h
   ·rename_i hk
    have hk:=of_decide_eq_true hk
    subst hk
    obtain ⟨rfl,h⟩:=h
    replace h:=Zd h;obtain ⟨rfl,h⟩:=h
    refine ⟨h,fun E r hv=> ?_⟩
    cases hv with
    | vintsNil k xs len h1 h2=>exact .vintsNil _ _ _ h1 h2
    | vints k xs len a cap h1 h2 hi=>exact .vints _ _ _ a cap h1 h2 hi
   simp_all
  simp_all
 | .vrows esz n f len,v,Z,h=>by
  unfold eqV at h
  split at h
  ·replace h:=Zd h;obtain ⟨rfl,h⟩:=h
   replace h:=Zd h;obtain ⟨rfl,h⟩:=h
   obtain ⟨rfl,h⟩:=h
   replace h:=Zd h;obtain ⟨rfl,h⟩:=h
   refine ⟨h,fun E r hv=> ?_⟩
   cases hv with
   | vrowsNil esz n f len h1 h2=>exact .vrowsNil _ _ _ _ h1 h2
   | vrows esz n f len a cap g h1 h2 hc hl hi=>exact .vrows _ _ _ _ a cap g h1 h2 (fun i hi'=>(hc i hi').mono Env.ren_views) hl hi
  simp_all
 | .eslice,v,Z,h=>by
  unfold eqV at h
  split at h
  ·exact ⟨h,fun E r hv=>by cases hv;exact .eslice _⟩
  ·exact ⟨h,fun E r hv=>by cases hv;exact .eslice _⟩
  simp_all
 | .fslice,v,Z,h=>by
  unfold eqV at h
  split at h
  ·exact ⟨h,fun E r hv=>by cases hv;exact .fslice _ _⟩
  simp_all
 | .nilslice,v,Z,h=>by
  unfold eqV at h
  split at h
  ·exact ⟨h,fun E r hv=>by cases hv;exact .nilslice⟩
  simp_all
 | .map none,v,Z,h=>by
  unfold eqV at h
  split at h
  ·exact ⟨h,fun E r hv=>by cases hv;exact .nilmap⟩
  simp_all
 | .map (some y),v,Z,h=>by
  unfold eqV at h
  split at h
  ·obtain ⟨h1,h⟩:=Xq h
   refine ⟨h,fun E r hv=> ?_⟩
   cases hv
   rename_i b N hb
   exact .map y b N (by rw [Env.ren_some h1];exact hb)
  simp_all
 | .func (.func g) fs cs,v,Z,h=>by
  unfold eqV at h
  split at h
  ·split at h
   ·rename_i hb
    have:=J0 hb
    subst this
    obtain ⟨h,h1⟩:=VY fs _ _ h
    obtain ⟨h,h2⟩:=VY cs _ _ h
    refine ⟨h,fun E r hv=> ?_⟩
    cases hv
    rename_i a b ha hb
    exact .func _ _ _ a b (h1 E _ ha) (h2 E _ hb)
   simp_all
  simp_all
 | .func (.method _) _ _,v,Z,h=>by unfold eqV at h;simp_all
 | .func (.methodOf _ _) _ _,v,Z,h=>by unfold eqV at h;simp_all
 | .func (.via _ _ _ _) _ _,v,Z,h=>by unfold eqV at h;simp_all
 | .func (.yield _) _ _,v,Z,h=>by unfold eqV at h;simp_all
 | .yield y,v,Z,h=>by
  unfold eqV at h
  split at h
  ·obtain ⟨h1,h⟩:=Xq h
   refine ⟨h,fun E r hv=> ?_⟩
   cases hv
   rename_i b N hb
   exact .yield y b N (by rw [Env.ren_some h1];exact hb)
  simp_all
 | .stamp y,v,Z,h=>by
  unfold eqV at h
  split at h
  ·obtain ⟨h1,h⟩:=Xq h
   refine ⟨h,fun E r hv=> ?_⟩
   cases hv
   rename_i c hb
   exact .stamp y c (by rw [Env.ren_some h1];exact hb)
  simp_all
 | .nilFunc,v,Z,h=>by
  unfold eqV at h
  split at h
  ·exact ⟨h,fun E r hv=>by cases hv;exact .nilFunc⟩
  simp_all
 | .nilIface,v,Z,h=>by
  unfold eqV at h
  split at h
  ·exact ⟨h,fun E r hv=>by cases hv;exact .nilIface⟩
  simp_all
 | .iface t u,v,Z,h=>by
  unfold eqV at h
  split at h
  ·split at h
   ·rename_i hb
    have:=J0 hb
    subst this
    obtain ⟨h,h1⟩:=QN u _ _ h
    refine ⟨h,fun E r hv=> ?_⟩
    cases hv
    rename_i x hx
    exact .iface _ _ _ (h1 E _ hx)
   ·exact h.elim
  ·exact h.elim
 | .agg cs,v,Z,h=>by
  unfold eqV at h
  split at h
  ·obtain ⟨h,_,h1⟩:=Z3e cs _ _ h
   refine ⟨h,fun E r hv=> ?_⟩
   cases hv
   rename_i vs hc
   exact .agg _ _ (h1 E _ hc)
  simp_all
 | .arr _ _ _,v,Z,h=>by unfold eqV at h;simp_all
 | .tuple vs,v,Z,h=>by
  unfold eqV at h
  split at h
  ·obtain ⟨h,h1⟩:=VY vs _ _ h
   refine ⟨h,fun E r hv=> ?_⟩
   cases hv
   rename_i rs hl
   exact .tuple _ _ (h1 E _ hl)
  simp_all
theorem Z3e {k:Nat} {τ:Ren}:∀(l₂ l:List AV) (Z:Prop),eqC k τ l₂ l Z->Z/\csz l=csz l₂/\∀(E:Env) (r:List Value),Zm E l r->Zm (E.ren k τ) l₂ r
 | [],l,Z,h=>by
  unfold eqC at h
  split at h
  ·exact ⟨h,rfl,fun E r hv=>by cases hv;exact .nil⟩
  simp_all
 | v::r,l,Z,h=>by
  by_cases ha:∃kk n xs,v=.arr kk n xs
  ·obtain ⟨kk,n,xs,rfl⟩:=ha
   unfold eqC at h
   split at h
   ·split at h
    ·rename_i hb
     rw [J2] at hb
     have h1:=of_decide_eq_true hb.1
     have h2:=J0 hb.2
     subst h1 h2
     obtain ⟨rfl,h⟩:=h
     obtain ⟨h,hz,h3⟩:=Z3e r _ _ h
     refine ⟨h,by simp [csz,hz],fun E q hv=> ?_⟩
     obtain ⟨cs',rfl,ht⟩:=Zm.cons_arr hv
     exact .arr _ _ _ _ _ (h3 E _ ht)
    simp_all
   simp_all
  ·have he:eqC k τ (v::r) l Z=(match l with
     | v'::r'=>match v.isCell&&v'.isCell with
      | true=>eqV k τ v v' (eqC k τ r r' Z)
      | false=>False
     | []=>False):=by
    cases v<;>first|(exact absurd ⟨_,_,_,rfl⟩ ha)|(cases l<;>rfl)
   rw [he] at h
   split at h
   ·split at h
    ·rename_i hb
     rw [J2] at hb
     obtain ⟨h,h1⟩:=QN v _ _ h
     obtain ⟨h,hz,h3⟩:=Z3e r _ _ h
     refine ⟨h,by rw [Z6w hb.1,Z6w hb.2,hz],fun E q hv=> ?_⟩
     cases hv with
     | one v' c vs cs h0 hc hvr t=>exact .one _ _ _ _ hb.1 hc (h1 E _ hvr) (h3 E _ t)
     | arr k n xs vs cs t=>simp [AV.isCell] at hb
    simp_all
   simp_all
theorem VY {k:Nat} {τ:Ren}:∀(l₂ l:List AV) (Z:Prop),eqL k τ l₂ l Z->Z/\∀(E:Env) (r:List Value),Zt E l r->Zt (E.ren k τ) l₂ r
 | [],l,Z,h=>by
  unfold eqL at h
  split at h
  ·exact ⟨h,fun E r hv=>by cases hv;exact .nil⟩
  simp_all
 | v::r,l,Z,h=>by
  unfold eqL at h
  split at h
  ·obtain ⟨h,h1⟩:=QN v _ _ h
   obtain ⟨h,h2⟩:=VY r _ _ h
   refine ⟨h,fun E q hv=> ?_⟩
   cases hv
   rename_i c cs hc ht
   exact .cons _ _ _ _ (h1 E _ hc) (h2 E _ ht)
  ·exact h.elim
end
theorem Zt.at {E:Env}:∀{vs:List AV} {rs:List Value} {i:Nat} {v:AV} {r:Value},Zt E vs rs->vs[i]? =some v->rs[i]? =some r->Zc E v r
 | _,_,0,v,r,.cons _ _ _ _ h _,h1,h2=>by
  simp_all
 | _,_,i+1,v,r,.cons _ _ _ _ _ t,h1,h2=>Zt.at t (by simpa using h1) (by simp_all)
 | _,_,_,v,r,.nil,h1,_=>by simp at h1
inductive Z7 (k:Nat) (τ:Ren) (n:Nat) (kf vf kf' vf':Nat->AV):Prop
 | mk (h:∀i,i<n->eqV k τ (kf i) (kf' i) True/\eqV k τ (vf i) (vf' i) True):Z7 k τ n kf vf kf' vf'
inductive Z5 (k:Nat) (τ:Ren) (n:Nat) (f f':Nat->List AV):Prop
 | mk (h:∀i,i<n->eqC k τ (f i) (f' i) True):Z5 k τ n f f'
inductive Z3S (a b:List Nat):Prop
 | mk (h:a=b):Z3S a b
theorem Z3S.refl (a:List Nat):Z3S a a:=⟨rfl⟩
def Z80 (k:Nat) (τ:Ren):Blk->Blk->Prop->Prop
 | .flat cs,B,Z=>match B with
  | .flat cs'=>eqC k τ cs cs' Z
  | _=>False
 | .ints kk xs,B,Z=>match B with
  | .ints kk' xs'=>match decide (kk'=kk) with
   | true=>xs'=xs/\Z
   | false=>False
  | _=>False
 | .rows sz n f,B,Z=>match B with
  | .rows sz' n' f'=>match Nat.beq sz' sz with
   | true=>Z4 (n'=n) (Z5 k τ n f f'/\Z)
   | false=>False
  | _=>False
 | .map es,B,Z=>match B with
  | .map es'=>eqL k τ (es.map (·.1)) (es'.map (·.1)) (eqL k τ (es.map (·.2)) (es'.map (·.2)) Z)
  | _=>False
 | .fmap n kf vf,B,Z=>match B with
  | .fmap n' kf' vf'=>Z4 (n'=n) (Z7 k τ n kf vf kf' vf'/\Z)
  | .map es'=>Z4 (es'.length=n) (Z7 k τ n kf vf (fun i=>(es'.getD i (.top,.top)).1) (fun i=>(es'.getD i (.top,.top)).2)/\Z)
  | _=>False
 | .pmap es,B,Z=>match B with
  | .pmap es'=>eqL k τ (es.map (·.1)) (es'.map (·.1)) (eqL k τ (es.map (·.2)) (es'.map (·.2)) Z)
  | _=>False
 | .smap _ _ _,_,_=>False
 | .sfmap _ _ _ _ _,_,_=>False
 | .git m y js,B,Z=>match B with
  | .git m' y' js'=>Ux k τ m m' (Ux k τ y y' (Z3S js' js/\Z))
  | _=>False
 | .froz _ _,_,_=>False
 | .loop l,B,Z=>match B with
  | .loop l'=>(l'.state=l.state/\l'.pending=l.pending/\l'.fn=l.fn/\l'.n=l.n/\l'.params=l.params/\l'.assign=l.assign/\l'.body=l.body)/\Ux k τ l.defers l'.defers (eqT k τ l'.tmps Z l.tmps)
  | _=>False
 | .defd,B,Z=>match B with
  | .defd=>Z
  | _=>False
where eqT (k:Nat) (τ:Ren) (t:ZM) (Z:Prop):ZM->Prop
 | []=>Z
 | (x,v₂)::r=>match ZD t x with
  | some v=>eqV k τ v₂ v (eqT k τ t Z r)
  | none=>match v₂ with
   | .top=>eqT k τ t Z r
   | _=>False
theorem Z5A {k:Nat} {τ:Ren} {t:ZM} {Z:Prop}:∀(t₂:ZM),Z80.eqT k τ t Z t₂->Z/\∀(E:Env) (n:Nat) (tm:Array Value),V8 E n t tm->V8 (E.ren k τ) n t₂ tm
 | [],h=>⟨h,fun E n tm ht=>⟨ht.size,fun x v hx=>by simp [ZD] at hx⟩⟩
 | (y,v₂)::r,h=>by
  unfold Z80.eqT at h
  split at h
  ·rename_i v hv
   obtain ⟨h,h1⟩:=QN _ _ _ h
   obtain ⟨h,h2⟩:=Z5A r h
   refine ⟨h,fun E n tm ht=>⟨ht.size,fun x u hx=> ?_⟩⟩
   simp only [ZD] at hx
   split at hx
   ·rename_i hb
    have:=J0 hb
    subst this
    cases hx
    exact h1 E _ (ht.get _ _ hv)
   ·exact (h2 E n tm ht).get x u hx
  ·split at h
   ·obtain ⟨h,h2⟩:=Z5A r h
    refine ⟨h,fun E n tm ht=>⟨ht.size,fun x u hx=> ?_⟩⟩
    simp only [ZD] at hx
    split at hx
    ·cases hx;exact .top _
    ·exact (h2 E n tm ht).get x u hx
   ·exact h.elim
theorem Z94 {k:Nat} (h:Z80 k τ B₂ B Z):
  Z/\∀(E:Env) (w:World) (x y:Nat),rn k τ y=some x->ZV E w x B->ZV (E.ren k τ) w y B₂:=by
 unfold Z80 at h
 split at h
 ·split at h
  ·obtain ⟨h,hz,h1⟩:=Z3e _ _ _ h
   refine ⟨h,fun E w x y hy hB=> ?_⟩
   cases hB with
   | flat0 cs h0 hn=>exact .flat0 _ (by omega) (by rw [Env.ren_some hy];exact hn)
   | flat cs b cells elem fr vs hb hw hf hc hv=>exact .flat _ b cells elem fr vs (by rw [Env.ren_some hy];exact hb) hw hf (h1 E _ hc) hv
  simp_all
 ·split at h
  ·split at h
   ·rename_i hk
    have hk:=of_decide_eq_true hk
    subst hk
    obtain ⟨rfl,h⟩:=h
    refine ⟨h,fun E w x y hy hB=> ?_⟩
    cases hB with
    | ints0 kk xs h0 hn=>exact .ints0 _ _ h0 (by rw [Env.ren_some hy];exact hn)
    | ints kk xs b cells elem fr hb hw hf hv=>exact .ints _ _ b cells elem fr (by rw [Env.ren_some hy];exact hb) hw hf hv
   simp_all
  simp_all
 ·split at h
  ·split at h
   ·rename_i hk
    have hk:=J0 hk
    subst hk
    replace h:=Zd h
    obtain ⟨rfl,⟨h1⟩,h⟩:=h
    refine ⟨h,fun E w x y hy hB=> ?_⟩
    cases hB with
    | rows0 sz n f h0 hn=>exact .rows0 _ _ _ h0 (by rw [Env.ren_some hy];exact hn)
    | rows sz n f b cells elem fr g hb hw hf hc hl hv=>exact .rows _ _ _ b cells elem fr g (by rw [Env.ren_some hy];exact hb) hw hf (fun i hi=>(Z3e _ _ _ (h1 i hi)).2.2 E _ (hc i hi)) hl hv
   simp_all
  simp_all
 ·split at h
  ·obtain ⟨h,h1⟩:=VY _ _ _ h
   obtain ⟨h,h2⟩:=VY _ _ _ h
   refine ⟨h,fun E w x y hy hB=> ?_⟩
   cases hB with
   | map es b ents clock hb hw hk hv hbn=>exact .map _ b ents clock (by rw [Env.ren_some hy];exact hb) hw (h1 E _ hk) (h2 E _ hv) hbn
  simp_all
 ·split at h
  ·replace h:=Zd h
   obtain ⟨rfl,⟨h1⟩,h⟩:=h
   refine ⟨h,fun E w x y hy hB=> ?_⟩
   cases hB with
   | fmap n kf vf b ents clock hb hw hl hk hv hbn=>
    refine .fmap _ _ _ b ents clock (by rw [Env.ren_some hy];exact hb) hw hl (fun i e he=> ?_) (fun i e he=> ?_) hbn
    all_goals grind [QN]
  ·replace h:=Zd h
   obtain ⟨rfl,⟨h1⟩,h⟩:=h
   refine ⟨h,fun E w x y hy hB=> ?_⟩
   cases hB with
   | map es b ents clock hb hw hk hv hbn=>
    have hl:=hk.length
    simp only [List.length_map] at hl
    refine .fmap _ _ _ b ents clock (by rw [Env.ren_some hy];exact hb) hw hl (fun i e he=> ?_) (fun i e he=> ?_) hbn
    ·have hi:=(Ja.1 he).1
     refine (QN _ _ _ (h1 i (by omega)).1).2 E _ ?_
     refine Zt.at hk (i:=i) ?_ ?_
     all_goals simp_all
    ·have hi:=(Ja.1 he).1
     refine (QN _ _ _ (h1 i (by omega)).2).2 E _ ?_
     refine Zt.at hv (i:=i) ?_ ?_
     all_goals simp_all
  simp_all
 ·split at h
  ·obtain ⟨h,h1⟩:=VY _ _ _ h
   obtain ⟨h,h2⟩:=VY _ _ _ h
   refine ⟨h,fun E w x y hy hB=> ?_⟩
   cases hB with
   | pmap es b kk ents ents' clock hb hw hp hn hi hk hv=>exact .pmap _ b kk ents ents' clock (by rw [Env.ren_some hy];exact hb) hw hp hn hi (h1 E _ hk) (h2 E _ hv)
  simp_all
 ·simp_all
 ·simp_all
 ·split at h
  ·obtain ⟨hd',h⟩:=Xq h
   obtain ⟨hd2,hz⟩:=Xq h
   obtain ⟨⟨e⟩,hz⟩:=hz
   subst e
   refine ⟨hz,fun E w x y hy hB=> ?_⟩
   cases hB with
   | git m y js b mb clock bs seen hb hm hy' hs hj hw=>exact .git _ _ _ b mb clock bs seen (by rw [Env.ren_some hy];exact hb) (by rw [Env.ren_some hd'];exact hm) (by rw [Env.ren_some hd2];exact hy') hs hj hw
  simp_all
 ·simp_all
 ·split at h
  ·obtain ⟨⟨e1,e2,e3,e4,e5,e6,e7⟩,h⟩:=h
   obtain ⟨hd',h⟩:=Xq h
   obtain ⟨h,h1⟩:=Z5A _ h
   refine ⟨h,fun E w x y hy hB=> ?_⟩
   cases hB with
   | loop l0 b d N fnr tm hb hd hw ht=>
    refine .loop _ b d N fnr tm (by rw [Env.ren_some hy];exact hb) (by rw [Env.ren_some hd'];exact hd) ?_ (h1 E _ _ (e4▸ht))
    rw [e1,e2,e5,e6,e7] at hw
    exact hw
  simp_all
 ·split at h
  ·refine ⟨h,fun E w x y hy hB=> ?_⟩
   cases hB with
   | defd b hb hw=>exact .defd b (by rw [Env.ren_some hy];exact hb) hw
  simp_all
def eqB (k:Nat) (τ:Ren) (B₂ B:Blk) (Z:Prop):Prop:=match B₂ with
 | .froz C y=>match B with
  | .froz C' y'=>Ux k τ y y' (Z80 k τ C C' Z)
  | _=>False
 | B₂=>Z80 k τ B₂ B Z
theorem ZgI {k:Nat} (h:eqB k τ B₂ B Z):
  Z/\∀(E:Env) (w:World) (x y:Nat),rn k τ y=some x->ZV E w x B->ZV (E.ren k τ) w y B₂:=by
 unfold eqB at h
 split at h
 ·split at h
  ·obtain ⟨hd,h⟩:=Xq h
   obtain ⟨h,h1⟩:=Z94 h
   refine ⟨h,fun E w x y hy hB=> ?_⟩
   cases hB with
   | froz B y b ents clock hB hb hw hbn hy'=>exact .froz _ _ b ents clock (h1 E w _ _ hy hB) (by rw [Env.ren_some hy];exact hb) hw hbn (by rw [Env.ren_some hd];exact hy')
  ·exact h.elim
 ·exact Z94 h
def ZbT:Blk->Prop->Prop
 | .flat cs,Z=>Z4 (csz cs=0) Z
 | .ints _ xs,Z=>xs=[]/\Z
 | .rows _ n _,Z=>Z4 (n=0) Z
 | _,_=>False
theorem ZbU (h:ZbT B Z):Z/\∀(E:Env) (w:World) (y:Nat),E.blk y=none->ZV E w y B:=by
 unfold ZbT at h
 split at h
 ·obtain ⟨h1,h⟩:=Zd h
  exact ⟨h,fun E w y hy=>.flat0 _ h1 hy⟩
 ·exact ⟨h.2,fun E w y hy=>.ints0 _ _ h.1 hy⟩
 ·obtain ⟨h1,h⟩:=Zd h
  exact ⟨h,fun E w y hy=>.rows0 _ _ _ h1 hy⟩
 simp_all
def eqH (k:Nat) (τ:Ren) (h:Z6) (Z:Prop):List (Nat×Blk)->Prop
 | []=>Z
 | (y,B₂)::r=>match rn k τ y with
  | some x=>match ZC h.bs x with
   | some B=>eqB k τ B₂ B (eqH k τ h Z r)
   | none=>False
  | none=>ZbT B₂ (eqH k τ h Z r)
theorem Z81 {k:Nat} {τ:Ren} {h:Z6} {Z:Prop}:∀(bs:List (Nat×Blk)),eqH k τ h Z bs->Z/\∀y B₂,ZC bs y=some B₂->
  (rn k τ y=none/\∀(E:Env) (w:World),E.blk y=none->ZV E w y B₂)\/∃x B,rn k τ y=some x/\h.get x=some B/\∀(E:Env) (w:World),ZV E w x B->ZV (E.ren k τ) w y B₂
 | [],hl=>⟨hl,fun y B₂ hy=>by simp [ZC] at hy⟩
 | (z,B)::r,hl=>by
  unfold eqH at hl
  split at hl
  ·rename_i x hx
   split at hl
   ·rename_i B' hB'
    obtain ⟨hl,h1⟩:=ZgI hl
    obtain ⟨hl,h2⟩:=Z81 r hl
    refine ⟨hl,fun y B₂ hy=> ?_⟩
    simp only [ZC] at hy
    split at hy
    ·rename_i hb
     have:=J0 hb
     subst this
     cases hy
     exact .inr ⟨x,B',hx,hB',fun E w hB=>h1 E w x _ hx hB⟩
    ·exact h2 y B₂ hy
   ·exact hl.elim
  ·rename_i hx
   obtain ⟨hl,h1⟩:=ZbU hl
   obtain ⟨hl,h2⟩:=Z81 r hl
   refine ⟨hl,fun y B₂ hy=> ?_⟩
   simp only [ZC] at hy
   split at hy
   ·rename_i hb
    have:=J0 hb
    subst this
    cases hy
    exact .inl ⟨hx,fun E w he=>h1 E w _ he⟩
   ·exact h2 y B₂ hy
def Z6x (k:Nat) (τ:Ren) (x:Nat):List (Nat×Blk)->Bool
 | []=>true
 | (y,_)::r=>match rn k τ y with
  | some x'=> !(Nat.beq x' x)&&Z6x k τ x r
  | none=>Z6x k τ x r
def Z95 (k:Nat) (τ:Ren):List (Nat×Blk)->Bool
 | []=>true
 | (y,_)::r=>(match rn k τ y with|some x=>Z6x k τ x r|none=>true)&&Z95 k τ r
def ltB (m:Nat):List (Nat×Blk)->Bool
 | []=>true
 | (y,_)::r=>Nat.blt y m&&ltB m r
def ltR (m:Nat):Ren->Bool
 | []=>true
 | (y,_)::r=>Nat.blt y m&&ltR m r
theorem Z3f {bs:List (Nat×Blk)} {y:Nat} (h:ZC bs y=some B):∃B',(y,B')∈bs:=by
 induction bs with
 | nil=>simp [ZC] at h
 | cons p r ih=>
  grind [ZC,J0]
theorem Z0n {k:Nat} {τ:Ren} {x:Nat}:∀{bs:List (Nat×Blk)},Z6x k τ x bs=true->∀y B,(y,B)∈bs->rn k τ y≠some x
 | (z,C)::r,h,y,B,hm=>by
  unfold Z6x at h
  rcases J7.1 hm with e|hm
  ·split at h
   ·grind [Jj]
   simp_all
  ·split at h
   ·rw [J2] at h
    exact Z0n h.2 y B hm
   ·exact Z0n h y B hm
theorem Z6y {k:Nat} {τ:Ren}:∀{bs:List (Nat×Blk)},Z95 k τ bs=true->∀y z B C x,(y,B)∈bs->(z,C)∈bs->rn k τ y=some x->rn k τ z=some x->y=z
 | (u,D)::r,h,y,z,B,C,x,hy,hz,ey,ez=>by
  unfold Z95 at h
  rw [J2] at h
  rcases J7.1 hy with e1|hy'<;>rcases J7.1 hz with e2|hz'
  ·cases e1;cases e2;rfl
  ·cases e1
   rw [ey] at h
   exact absurd ez (Z0n h.1 z C hz')
  ·cases e2
   rw [ez] at h
   exact absurd ey (Z0n h.1 y B hy')
  ·exact Z6y h.2 y z B C x hy' hz' ey ez
theorem ZbV {m:Nat}:∀{bs:List (Nat×Blk)},ltB m bs=true->∀y B,(y,B)∈bs->y<m
 | (z,C)::r,h,y,B,hm=>by
  unfold ltB at h
  rw [J2] at h
  rcases J7.1 hm with e|hm
  ·simp_all
  ·exact ZbV h.2 y B hm
theorem ZbW {m:Nat}:∀{τ:Ren},ltR m τ=true->∀y x,Z7Z τ y=some x->y<m
 | [],_,y,x,hy=>by simp [Z7Z] at hy
 | (z,u)::r,h,y,x,hy=>by
  unfold ltR at h
  rw [J2] at h
  simp only [Z7Z] at hy
  split at hy
  ·simp_all
  ·exact ZbW h.2 y x hy
def eqD (k:Nat) (τ:Ren) (Z:Prop):List Ua->List Ua->Prop
 | [],l=>match l with
  | []=>Z
  | _::_=>False
 | .call f args::r,l=>match l with
  | .call f' args'::r'=>match Nat.beq f' f with
   | true=>eqL k τ args args' (eqD k τ Z r r')
   | false=>False
  | _=>False
 | .mark y::r,l=>match l with
  | .mark x::r'=>Ux k τ y x (eqD k τ Z r r')
  | _=>False
theorem Z82 {k:Nat} {τ:Ren} {Z:Prop}:∀(l₂ l:List Ua),eqD k τ Z l₂ l->Z/\∀(E:Env) (rd:List Deferred),VT E l rd->VT (E.ren k τ) l₂ rd
 | [],l,h=>by
  unfold eqD at h
  split at h
  ·exact ⟨h,fun E rd hd=>by cases hd;exact .nil⟩
  simp_all
 | .call f args::r,l,h=>by
  unfold eqD at h
  split at h
  ·split at h
   ·rename_i hb
    have:=J0 hb
    subst this
    obtain ⟨h,h1⟩:=VY _ _ _ h
    obtain ⟨h,h2⟩:=Z82 r _ h
    refine ⟨h,fun E rd hd=> ?_⟩
    cases hd with
    | call f args fn cap rs ds rd hf hl t=>exact .call _ _ fn cap rs _ _ hf (h1 E _ hl) (h2 E _ t)
   ·exact h.elim
  ·exact h.elim
 | .mark y::r,l,h=>by
  unfold eqD at h
  split at h
  ·obtain ⟨h1,h⟩:=Xq h
   obtain ⟨h,h2⟩:=Z82 r _ h
   refine ⟨h,fun E rd hd=> ?_⟩
   cases hd with
   | mark x b N ds rd hb t=>exact .mark _ b N _ _ (by rw [Env.ren_some h1];exact hb) (h2 E _ t)
  ·exact h.elim
def Z0o (k:Nat) (s s₂:St):Prop:=
 ∀(E0:Env) (h0:Z6) (w0:World) (E:Env) (a:Act) (w:World),(∀x,k<=x->E0.blk x=none)->WN E s a w->Evo E0 h0 w0 E s.h w->∃E₂,WN E₂ s₂ a w/\Evo E0 h0 w0 E₂ s₂.h w
def Uy (k:Nat) (τ:Ren) (s₂ s:St) (Z:Prop):Prop:=
 match Nat.ble k s₂.h.next&&ltB s₂.h.next s₂.h.bs&&ltR s₂.h.next τ&&Z95 k τ s₂.h.bs&&Nat.beq s.n s₂.n with
 | true=>Z80.eqT k τ s.t (eqH k τ s.h (eqD k τ Z s₂.d s.d) s₂.h.bs) s₂.t
 | false=>False
theorem Xr {k:Nat} {s:St} (hl:Uy k τ s₂ s Z):Z/\Z0o k s s₂:=by
 unfold Uy at hl
 split at hl
 ·rename_i hb
  simp only [J2] at hb
  obtain ⟨⟨⟨⟨b1,b2⟩,b3⟩,b4⟩,b5⟩:=hb
  have b1:k<=s₂.h.next:=Je b1
  have b5:s.n=s₂.n:=J0 b5
  obtain ⟨hl,hT⟩:=Z5A _ hl
  obtain ⟨hl,hH⟩:=Z81 _ hl
  obtain ⟨hl,hD⟩:=Z82 _ _ hl
  refine ⟨hl,fun E0 h0 w0 E a w hk hs hev=> ?_⟩
  have he:=hs.emb
  have hfr:∀y,s₂.h.next<=y->(E.ren k τ).blk y=none:=fun y hy=>by
   refine Env.ren_none ?_
   unfold rn
   have:Nat.blt y k=false:=by
    cases hq:Nat.blt y k with
    | false=>rfl
    | true=>have:y<k:=Je hq;omega
   rw [this]
   cases hg:Z7Z τ y with
   | none=>rfl
   | some x=>have:=ZbW b3 y x hg;omega
  have hgo:∀y B b N,s₂.h.get y=some B->(E.ren k τ).blk y=some (b,N)->∃x C,rn k τ y=some x/\s.h.get x=some C/\E.blk x=some (b,N):=fun y B b N hy hb=>by
   rcases hH y B hy with ⟨hn,_⟩|⟨x,C,hx,hC,_⟩
   all_goals simp_all [Env.ren_none,Env.ren_some]
  have hemb:Emb (E.ren k τ) s₂.h w:=by
   refine ⟨hfr, ?_, ?_, ?_, ?_, ?_⟩
   ·intro y B hy
    obtain ⟨B',hm⟩:=Z3f hy
    exact ZbV b2 y B' hm
   ·intro y B hy
    rcases hH y B hy with ⟨hn,h1⟩|⟨x,C,hx,hC,h1⟩
    ·exact h1 _ w (Env.ren_none hn)
    ·exact h1 E w (he.own x C hC)
   ·intro y z B C b N N' hy hz hby hbz
    obtain ⟨x,D,hx,hD',hbx⟩:=hgo y B b N hy hby
    obtain ⟨x',D'',hx',hD'',hbx'⟩:=hgo z C b N' hz hbz
    have:=he.disj x x' D D'' b N N' hD' hD'' hbx hbx'
    subst this
    obtain ⟨B',hm⟩:=Z3f hy
    obtain ⟨C',hm'⟩:=Z3f hz
    exact Z6y b4 y z B' C' x hm hm' hx hx'
   ·exact he.imm
   ·intro ad c y B N hi hy hb
    obtain ⟨x,D,hx,hD',hbx⟩:=hgo y B _ N hy hb
    exact he.sep ad c x D N hi hD' hbx
  refine ⟨E.ren k τ,⟨hemb,b5▸hT E _ _ hs.tmps,hD E _ hs.defs⟩,⟨fun x r hx=> ?_,hev.le.imm⟩,hemb,hev.size,hev.os,hev.tape,hev.output,hev.keep,fun b ho=> ?_,hev.imm⟩
  ·have hlt:x<k:=by
    grind
   have hrx:rn k τ x=some x:=by
    unfold rn
    have:Nat.blt x k=true:=JY hlt
    rw [this]
   rw [Env.ren_some hrx]
   exact hev.le.blk x r hx
  ·obtain ⟨y,B,N,hy,hb⟩:=ho
   obtain ⟨x,D,hx,hD',hbx⟩:=hgo y B b N hy hb
   exact hev.own b ⟨x,D,N,hD',hbx⟩
 simp_all
theorem Yj.weak {P:Program} {k:Nat} {c:Code} {s:St} (h:Yj P k ro c s₂ X) (hw:Z0o k s s₂):Yj P k ro c s X:=by
 intro E0 h0 w0 E a w n hk hs hev
 obtain ⟨E₂,hs₂,hev₂⟩:=hw E0 h0 w0 E a w hk hs hev
 exact h E0 h0 w0 E₂ a w n hk hs₂ hev₂
def Z96 {ι:Type} (k:Nat) (m:ι->Nat) (S:ι->St) (i:ι) (X:KE):KE:=fun e s=>match e with
 | .normal=>∃j,m j<m i/\Z0o k s (S j)
 | .panic v=>X (.panic v) s
 | .exit id=>∃s₂,Z0o k s s₂/\X (.exit id) s₂
 | .goto l=>∃s₂,Z0o k s s₂/\X (.goto l) s₂
 | .ret=>∃s₂,Z0o k s s₂/\X .ret s₂
theorem Yj.mono {P:Program} {k:Nat} {c:Code} {s:St} {Y:KE} (h:Yj P k ro c s X) (hxy:∀e s,X e s->Y e s):Yj P k ro c s Y:=
 fun E0 h0 w0 E a w n hk hs hev=>wpIn_mono (h E0 h0 w0 E a w n hk hs hev) fun _ _ _ hp=>hp.mono hxy
theorem Zan {P:Program} {k:Nat} {c:Code} {ι:Type} (m:ι->Nat) (S:ι->St) (X:KE)
  (h:∀i,Yj P k ro c (S i) (Z96 k m S i X)):∀i,Yj P k ro (.loop c) (S i) X:=by
 have key:∀N i,m i<N->∀(E0:Env) (h0:Z6) (w0:World) (E:Env) (a:Act) (w:World) (n:Nat),(∀x,k<=x->E0.blk x=none)->WN E (S i) a w->Evo E0 h0 w0 E (S i).h w->
   Code.roundsIn (Fr ro) n P c (Vl E0 h0 w0 X) N a w:=by
  intro N
  induction N with
  | zero=>omega
  | succ N ih=>
   intro i hi E0 h0 w0 E a w n hk hs hev
   refine wpIn_mono (h i E0 h0 w0 E a w n hk hs hev) ?_
   rintro e a' w' ⟨E',x,s',hx,hev',hs',he⟩
   cases he with
   | normal=>
    obtain ⟨j,hj,hw⟩:=hx
    obtain ⟨E₂,hs₂,hev₂⟩:=hw E0 h0 w0 E' a' w' hk hs' hev'
    exact ih j (by omega) E0 h0 w0 E₂ a' w' n hk hs₂ hev₂
   | exit id=>
    obtain ⟨s₂,hw,hx⟩:=hx
    obtain ⟨E₂,hs₂,hev₂⟩:=hw E0 h0 w0 E' a' w' hk hs' hev'
    exact ⟨E₂,_,s₂,hx,hev₂,hs₂,.exit id⟩
   | goto l=>
    obtain ⟨s₂,hw,hx⟩:=hx
    obtain ⟨E₂,hs₂,hev₂⟩:=hw E0 h0 w0 E' a' w' hk hs' hev'
    exact ⟨E₂,_,s₂,hx,hev₂,hs₂,.goto l⟩
   | ret=>
    obtain ⟨s₂,hw,hx⟩:=hx
    obtain ⟨E₂,hs₂,hev₂⟩:=hw E0 h0 w0 E' a' w' hk hs' hev'
    exact ⟨E₂,_,s₂,hx,hev₂,hs₂,.ret⟩
   | panic v r hv=>exact ⟨E',_,s',hx,hev',hs',.panic v r hv⟩
 intro i E0 h0 w0 E a w n hk hs hev
 exact wpIn_loop_rounds (m i+1) (key (m i+1) i (Kr _) E0 h0 w0 E a w n hk hs hev)
theorem Uz:∀(body:Code) (id:Nat) (c:Code),(id,c)∈Zs body->∀b,b∈Zs c->b∈Zs body:=by
 intro body
 induction body with
 | seq x y ihx ihy=>
  grind [Zs]
 | cond o x y ihx ihy=>
  grind [Zs]
 | block i x ih=>
  grind [Zs]
 | loop x ih=>grind [Zs]
 | scope x ih=>grind [Zs]
 | _=>intro id c h;simp [Zs] at h
def Q6 (id:Nat):List (Nat×Code)->List Code
 | []=>[]
 | (i,c)::r=>match Nat.beq i id with|true=>c::Q6 id r|false=>Q6 id r
theorem UA {id:Nat} {c:Code}:∀{l:List (Nat×Code)},(id,c)∈l->c∈Q6 id l
 | (i,d)::r,h=>by
  unfold Q6
  rcases J7.1 h with e|h
  ·cases e;simp [Jj]
  ·split
   ·exact Jh _ (UA h)
   ·exact UA h
def Z3g (P:Program) (f:FuncId):Code:=match P.funcs[f]? with|some fn=>(match fn.body with|some b=>b|none=>.skip)|none=>.skip
def Z27 (P:Program) (f:FuncId) (id:Nat):Code:=match Q6 id (Zs (Z3g P f)) with|c::_=>c|[]=>.skip
def ZbX:Code->Code
 | .loop c=>c
 | _=>.skip
def W2 (P:Program) (f:FuncId) (id:Nat):Bool:=match P.funcs[f]? with
 | some fn=>match fn.body with
  | some b=>match Q6 id (Zs b) with|[.loop _]=>true|_=>false
  | none=>false
 | none=>false
theorem Z1D {P:Program} {f:FuncId} {id:Nat} (h:W2 P f id=true) {fn:Func} {body c:Code} (hf:P.funcs[f]? =some fn) (hb:fn.body=some body) (hm:(id,c)∈Zs body):c=.loop (ZbX (Z27 P f id)):=by
 have hc:=UA hm
 simp only [W2,hf,hb] at h
 split at h
 ·rename_i d hd
  have hbo:Z3g P f=body:=by simp [Z3g,hf,hb]
  have hbl:Z27 P f id=.loop d:=by unfold Z27;rw [hbo,hd]
  rw [hd] at hc
  rw [JL] at hc
  rw [hbl];exact hc
 ·cases h
def Zg.withL (G:Zg) (f:FuncId) (id:Nat) (S:Nat->St->KE->Prop):Zg:=
 { G with lsumm:=fun f' id'=>match Nat.beq f' f&&Nat.beq id' id with|true=>some S|false=>G.lsumm f' id'}
def Zg.withF (G:Zg) (f:FuncId) (S:ZJ):Zg:=
 { G with fsumm:=fun f'=>match Nat.beq f' f with|true=>some S|false=>G.fsumm f'}
theorem Zg.withF_ok (hG:G.Ok) {f:FuncId} {S:ZJ} (h:∀args hp K,S args hp K->Zh G.P f args hp K):(G.withF f S).Ok where
 draw:=hG.draw
 psumm:=hG.psumm
 lsumm:=hG.lsumm
 fsumm:=fun f' S' args hp K hS hs=>by
  simp only [Zg.withF] at hS
  split at hS
  ·rename_i hb
   have:=J0 hb
   subst this
   cases hS
   exact h args hp K hs
  ·exact hG.fsumm f' S' args hp K hS hs
def Zg.withP (G:Zg) (f:FuncId) (S:YK):Zg:=
 { G with psumm:=fun f'=>match Nat.beq f' f with|true=>some S|false=>G.psumm f'}
theorem Zg.withP_ok (hG:G.Ok) {f:FuncId} {S:YK} (h:∀args hp K,S args hp K->Zh G.P f args hp fun o h'=>∃v,o=.ret v/\h'=hp/\K v):(G.withP f S).Ok where
 draw:=hG.draw
 lsumm:=hG.lsumm
 fsumm:=hG.fsumm
 psumm:=fun f' S' args hp K hS hs=>by
  simp only [Zg.withP] at hS
  split at hS
  ·rename_i hb
   have:=J0 hb
   subst this
   cases hS
   exact h args hp K hs
  ·exact hG.psumm f' S' args hp K hS hs
@[irreducible] def ZA (G:Zg) (n:Nat) (f:FuncId) (id:Nat) (k:Nat) (s:St) (X:KE):Prop:=evC G (Z5w G n f none) k (ZbX (Z27 G.P f id)) s X
theorem Zg.withL_ok (hG:G.Ok) {f:FuncId} {id:Nat} {S:Nat->St->KE->Prop} (h1:W2 G.P f id=true)
  (h:∀k s X,S k s X->∃ι:Type,∃m:ι->Nat,∃I:ι->St,∃i n,Z0o k s (I i)/\∀i,∃Y,ZA G n f id k (I i) Y/\∀e s,Y e s->Z96 k m I i X e s):(G.withL f id S).Ok where
 draw:=hG.draw
 psumm:=hG.psumm
 fsumm:=hG.fsumm
 lsumm:=fun f' id' S' fn c body hS hf hb hm k s X hs=>by
  simp only [Zg.withL] at hS
  split at hS
  ·rename_i hq
   rw [J2] at hq
   have e1:=J0 hq.1
   have e2:=J0 hq.2
   subst e1 e2
   cases hS
   have hc:=Z1D h1 hf hb hm
   obtain ⟨ι,m,I,i,n,hw,hr⟩:=h k s X hs
   subst hc
   refine Yj.weak (Zan m I X (fun i=> ?_) i) hw
   have hk:=Z0i hG n f' none
   obtain ⟨Y,hY,hYX⟩:=hr i
   unfold ZA at hY
   refine Yj.mono ?_ hYX
   refine Z35 (k:=k) (ro:=none) hG hk.1 (fun _=>rfl) (fun _=>rfl) (fun _=>⟨fn,body,by rw [hk.2.1];exact hf,hb,fun b hbm=>Uz body id' _ hm b (by simpa [Zs] using hbm)⟩) hY
  ·exact hG.lsumm f' id' S' fn c body hS hf hb hm k s X hs
def Z5B:Code->List (Code×Code)
 | .seq a b=>Z5B a++Z5B b
 | .cond _ x y=>Z5B x++Z5B y
 | .block _ c=>Z5B c
 | .loop c=>Z5B c
 | .scope c=>Z5B c
 | .rangeFunc _ _ a b=>[(a,b)]
 | _=>[]
def rfA (P:Program) (f i:Nat):Code:=match (Z5B (Z3g P f))[i]? with|some (a,_)=>a|none=>.skip
def rfB (P:Program) (f i:Nat):Code:=match (Z5B (Z3g P f))[i]? with|some (_,b)=>b|none=>.skip
theorem nd {p x:Prop} [Decidable p] (hp:p) (hx:x):Z8 (decide p) x False:=by rw [decide_eq_true hp];exact hx
theorem ifB {b:Bool} {x y:Prop} (h1:b=true->x) (h2:b=false->y):Z8 b x y:=by
 cases b with
 | true=>exact h1 rfl
 | false=>exact h2 rfl
theorem ifD {p x y:Prop} [Decidable p] (h1:p->x) (h2:¬p->y):Z8 (decide p) x y:=ifB (fun h=>h1 (of_decide_eq_true h)) (fun h=>h2 (of_decide_eq_false h))
def Env.bor (E:Env) (mv:Option Nat) (w:World) (t:Bool):Env:=
 ⟨fun y=>match t,y,mv with|true,0,some x=>E.blk x|_,_,_=>none,fun a c=>w.cell? a=some c/\∀x N,mv=some x->E.blk x=some (a.block,N)->False⟩
def AV.plain:AV->Bool
 | .top|.bool _|.int _ _|.str _|.ptr none|.eslice|.fslice|.nilslice|.map none|.nilFunc|.nilIface|.arr _ _ _=>true
 | _=>false
def YA:List AV->Bool
 | []=>true
 | v::r=>v.plain&&YA r
theorem Zc.plain {v:AV} (h:Zc E v r) (hp:v.plain=true):Zc E' v r:=by
 cases h with
 | top=>exact .top _
 | bool b=>exact .bool b
 | int k n=>exact .int k n
 | str s=>exact .str s
 | nilptr=>exact .nilptr
 | eslice a=>exact .eslice a
 | fslice a cap=>exact .fslice a cap
 | nilslice=>exact .nilslice
 | nilmap=>exact .nilmap
 | nilFunc=>exact .nilFunc
 | nilIface=>exact .nilIface
 | _=>simp [AV.plain] at hp
theorem Zm.plain {E E':Env}:∀{cs:List AV} {vs:List Value},Zm E cs vs->YA cs=true->Zm E' cs vs
 | _,_,.nil,_=>.nil
 | _,_,.one v c vs cs h0 h1 h t,hp=>by
  simp only [YA,J2] at hp
  exact .one _ _ _ _ h0 h1 (h.plain hp.1) (Zm.plain t hp.2)
 | _,_,.arr k n xs vs cs t,hp=>by
  simp only [YA,J2] at hp
  exact .arr _ _ _ _ _ (Zm.plain t hp.2)
def Z97:List AV->Bool
 | .arr _ _ _::_=>true
 | _=>false
def Z17 (mv:Option Nat) (x:Nat):Bool:=match mv with|some y=>Nat.beq y x|none=>false
mutual
def UB (mv:Option Nat) (h:Z6) (t:Bool):Nat->AV->(AV->Prop)->Prop
 | 0,_,_=>False
 | d+1,v,K=>match v with
  | .top=>K .top
  | .bool b=>K (.bool b)
  | .int k n=>K (.int k n)
  | .str s=>K (.str s)
  | .ptr none=>K (.ptr none)
  | .eslice=>K .eslice
  | .fslice=>K .fslice
  | .nilslice=>K .nilslice
  | .map none=>K (.map none)
  | .nilFunc=>K .nilFunc
  | .nilIface=>K .nilIface
  | .pview cs inn=>K (.pview cs inn)
  | .vints k xs len=>K (.vints k xs len)
  | .vrows esz n f len=>K (.vrows esz n f len)
  | .ptr (some p)=>match Z17 mv p.blk with
   | true=>match t with|false=>False|true=>K (.ptr (some ⟨0,p.row,p.sz,p.off,p.inn⟩))
   | false=>match h.get p.blk with
    | some (.flat cs)=>match p.row,Ym p.off cs with
     | 0,some rest=>Vr mv h false d rest fun rest'=>K (.pview rest' p.inn)
     | _,_=>False
    | some (.rows sz n f)=>match Nat.beq sz p.sz with
     | true=>Z4 (p.row<n) (match Ym p.off (f p.row) with
      | some rest=>Vr mv h false d rest fun rest'=>K (.pview rest' p.inn)
      | none=>False)
     | false=>False
    | _=>False
  | .nslice p esz len lo=>match Z17 mv p.blk with
   | true=>match t with|false=>False|true=>K (.nslice ⟨0,p.row,p.sz,p.off,p.inn⟩ esz len lo)
   | false=>match h.get p.blk with
    | some (.ints k xs)=>match Nat.beq esz 1 with
     | true=>Z4 (p.tot+len<=xs.length) (K (.vints k ((Y2 p.tot xs).take len) len))
     | false=>False
    | some (.rows sz n f)=>match Nat.beq sz esz&&Nat.beq p.off 0&&Nat.beq p.inn 0&&(Nat.beq p.sz esz||Nat.beq p.row 0) with
     | true=>Z4 (p.row+len<=n) ((∀i,i<len->YA (Yk p.row f i)=true)/\K (.vrows esz len (Yk p.row f) len))
     | false=>False
    | some (.flat cs)=>match p.row,Ym p.off cs with
     | 0,some rest=>match Z97 rest&&Nat.beq esz 1 with
      | true=>match rest with
       | .arr k n xs::_=>match Nat.beq esz 1,Nat.beq p.inn 0&&Nat.beq len n with
        | true,true=>Z4 (xs.length=n) (K (.vints k xs len))
        | true,false=>Z4 (xs.length=n/\p.inn+len<=n) (K (.vints k ((Y2 p.inn xs).take len) len))
        | false,_=>False
       | _=>False
      | false=>match Nat.beq p.inn 0,takeC (len*esz) rest with
       | true,some part=>Vr mv h false d part fun part'=>match QC part' 0 esz len with
        | true=>K (.vrows esz len (XD part' 0 esz) len)
        | false=>False
       | _,_=>False
     | _,_=>False
    | _=>False
  | .func (.func g) fs cs=>X1 mv h t d fs fun fs'=>X1 mv h t d cs fun cs'=>K (.func (.func g) fs' cs')
  | .iface T u=>UB mv h t d u fun u'=>K (.iface T u')
  | .agg cs=>Vr mv h t d cs fun cs'=>K (.agg cs')
  | .tuple vs=>X1 mv h t d vs fun vs'=>K (.tuple vs')
  | _=>False
def Vr (mv:Option Nat) (h:Z6) (t:Bool):Nat->List AV->(List AV->Prop)->Prop
 | 0,_,_=>False
 | d+1,l,K=>match l with
  | []=>K []
  | .arr k n xs::r=>Vr mv h t d r fun r'=>K (.arr k n xs::r')
  | v::r=>UB mv h t d v fun v'=>match v'.isCell with
   | true=>Vr mv h t d r fun r'=>K (v'::r')
   | false=>False
def X1 (mv:Option Nat) (h:Z6) (t:Bool):Nat->List AV->(List AV->Prop)->Prop
 | 0,_,_=>False
 | d+1,l,K=>match l with
  | []=>K []
  | v::r=>UB mv h t d v fun v'=>X1 mv h t d r fun r'=>K (v'::r')
end
theorem Z4o {w:World} {t:Bool} {h:Z6} (he:Emb E h w) (hm:∀x,mv=some x->∃B,h.get x=some B):E.views.le (E.bor mv w t).views:=
 ⟨fun _ _ hq=>by simp [Env.views] at hq,fun a c hi=>⟨he.imm a c hi,fun x N hx hb=>let ⟨B,hB⟩:=hm x hx;he.sep a c x B N hi hB hb⟩⟩
theorem Z5C {w:World} {t:Bool} {h:Z6} (he:Emb E h w) (hm:∀x,mv=some x->∃B,h.get x=some B) {a:Addr} {c:Value} (hi:E.imm a c):(E.bor mv w t).imm a c:=
 ⟨he.imm a c hi,fun x N hx hb=>let ⟨B,hB⟩:=hm x hx;he.sep a c x B N hi hB hb⟩
theorem WJ {w:World} {t:Bool} {h:Z6} (he:Emb E h w) (hm:∀x,mv=some x->∃B,h.get x=some B) {y b N o:Nat} (hy:h.get y=some B) (hb:E.blk y=some (b,N)) (hn:Z17 mv y=false) {c:Value}
  (hc:w.cell? ⟨b,o,none⟩=some c):(E.bor mv w t).imm ⟨b,o,none⟩ c:=
 ⟨hc,fun x N' hx hbx=>by
  obtain ⟨C,hC⟩:=hm x hx
  have:=he.disj x y C B b N' N hC hy hbx hb
  simp_all [Z17]⟩
theorem Z4p {w:World} {x:Nat} (h:Z17 mv x=true):(E.bor mv w true).blk 0=E.blk x:=by
 unfold Z17 at h
 split at h
 ·have:=J0 h
  subst this
  rfl
 ·cases h
theorem addr_add (b o j:Nat):(⟨b,o,none⟩:Addr).add j=⟨b,o+j,none⟩:=by
 simp_all [Addr.add]
theorem Z28 {cells:Array Value} {vs:List Value} (hv:∀(j:Nat) (c:Value),vs[j]? =some c->cells[j]? =some c) {w:World} {b:Nat} {elem:TypeId} {fr:Nat×Nat} (hw:w.heap[b]? =some (.cells cells elem fr)) {j:Nat} {c:Value} (h:vs[j]? =some c):
  w.cell? ⟨b,j,none⟩=some c:=by rw [cell_of_heap hw];simp_all
set_option maxHeartbeats 2000000 in
mutual
theorem Z0p {mv:Option Nat} {h:Z6} (hm:∀x,mv=some x->∃B,h.get x=some B):∀(d:Nat) (t:Bool) (v:AV) (K:AV->Prop),UB mv h t d v K->∃v₀,K v₀/\∀(E:Env) (w:World) (r:Value),Emb E h w->Zc E v r->Zc (E.bor mv w t) v₀ r
 | 0,t,v,K,hl=>by unfold UB at hl;simp_all
 | d+1,t,v,K,hl=>by
  unfold UB at hl
  split at hl
  ·exact ⟨_,hl,fun E w r he hv=>.top r⟩
  ·exact ⟨_,hl,fun E w r he hv=>hv.plain rfl⟩
  ·exact ⟨_,hl,fun E w r he hv=>hv.plain rfl⟩
  ·exact ⟨_,hl,fun E w r he hv=>hv.plain rfl⟩
  ·exact ⟨_,hl,fun E w r he hv=>hv.plain rfl⟩
  ·exact ⟨_,hl,fun E w r he hv=>hv.plain rfl⟩
  ·exact ⟨_,hl,fun E w r he hv=>hv.plain rfl⟩
  ·exact ⟨_,hl,fun E w r he hv=>hv.plain rfl⟩
  ·exact ⟨_,hl,fun E w r he hv=>hv.plain rfl⟩
  ·exact ⟨_,hl,fun E w r he hv=>hv.plain rfl⟩
  ·exact ⟨_,hl,fun E w r he hv=>hv.plain rfl⟩
  ·refine ⟨_,hl,fun E w r he hv=> ?_⟩
   cases hv with
   | pview cs inn a vs hc hi=>exact .pview _ _ a vs (hc.mono (Z4o he hm)) (fun j c hj=>Z5C he hm (hi j c hj))
  ·refine ⟨_,hl,fun E w r he hv=> ?_⟩
   cases hv with
   | vintsNil k xs len h1 h2=>exact .vintsNil _ _ _ h1 h2
   | vints k xs len a cap h1 h2 hi=>exact .vints _ _ _ a cap h1 h2 (fun i hi'=>Z5C he hm (hi i hi'))
  ·refine ⟨_,hl,fun E w r he hv=> ?_⟩
   cases hv with
   | vrowsNil esz n f len h1 h2=>exact .vrowsNil _ _ _ _ h1 h2
   | vrows esz n f len a cap g h1 h2 hc hl' hi=>exact .vrows _ _ _ _ a cap g h1 h2 (fun i hi'=>(hc i hi').mono (Z4o he hm)) hl' (fun i j c hi' hj=>Z5C he hm (hi i j c hi' hj))
  ·rename_i p
   split at hl
   ·rename_i hmv
    split at hl
    ·simp_all
    ·refine ⟨_,hl,fun E w r he hv=> ?_⟩
     cases hv with
     | ptr p b N hb=>exact .ptr ⟨0,p.row,p.sz,p.off,p.inn⟩ b N (by rw [Z4p hmv];exact hb)
   ·rename_i hmv
    split at hl
    ·rename_i cs hg
     split at hl
     ·rename_i rest hrow hrest
      obtain ⟨rest',hK,hr⟩:=Vs hm d false rest _ hl
      refine ⟨_,hK,fun E w r he hv=> ?_⟩
      cases hv with
      | ptr p b N hb=>
       cases he.own _ _ hg with
       | flat0 cs h0 hn=>rw [hn] at hb;cases hb
       | flat cs b' cells elem fr vs hb' hw hf hc hvs=>
        rw [hb] at hb'
        cases hb'
        have hd:=(ZN _ _ _ _ hrest hc).1
        have e:(⟨b,p.tot,none⟩:Addr)=(⟨b,p.off,none⟩:Addr).add p.inn:=by rw [addr_add];simp [ZI.tot,hrow]
        rw [e]
        refine .pview _ _ ⟨b,p.off,none⟩ _ (hr E w _ he hd) (fun j c hj=> ?_)
        rw [addr_add]
        grind [WJ,Z28]
     simp_all
    ·rename_i sz n f hg
     split at hl
     ·rename_i hsz
      have hsz:=J0 hsz
      obtain ⟨hrow,hl⟩:=Zd hl
      split at hl
      ·rename_i rest hrest
       obtain ⟨rest',hK,hr⟩:=Vs hm d false rest _ hl
       refine ⟨_,hK,fun E w r he hv=> ?_⟩
       cases hv with
       | ptr p b N hb=>
        cases he.own _ _ hg with
        | rows0 sz n f h0 hn=>omega
        | rows sz n f b' cells elem fr g hb' hw hf hc hlg hvs=>
         rw [hb] at hb'
         cases hb'
         have hd:=(ZN _ _ _ _ hrest (hc _ hrow)).1
         have e:(⟨b,p.tot,none⟩:Addr)=(⟨b,p.row*sz+p.off,none⟩:Addr).add p.inn:=by rw [addr_add];simp [ZI.tot,hsz]
         rw [e]
         refine .pview _ _ ⟨b,p.row*sz+p.off,none⟩ _ (hr E w _ he hd) (fun j c hj=> ?_)
         rw [addr_add]
         grind [WJ,cell_of_heap]
      simp_all
     simp_all
    simp_all
  ·rename_i p esz len lo
   split at hl
   ·rename_i hmv
    split at hl
    ·simp_all
    ·refine ⟨_,hl,fun E w r he hv=> ?_⟩
     cases hv with
     | nslice0 p esz len lo a h1 h2=>exact .nslice0 _ _ _ _ a h1 h2
     | nslice p esz len lo b N cap hb h1 h2 h3=>exact .nslice ⟨0,p.row,p.sz,p.off,p.inn⟩ _ _ _ b N cap (by rw [Z4p hmv];exact hb) h1 h2 h3
   ·rename_i hmv
    split at hl
    ·rename_i k xs hg
     split at hl
     ·rename_i hes
      have hes:=J0 hes
      subst hes
      obtain ⟨hle,hK⟩:=Zd hl
      have hlen:((Y2 p.tot xs).take len).length=len:=by rw [ZU,Jc,J9];omega
      refine ⟨_,hK,fun E w r he hv=> ?_⟩
      cases hv with
      | nslice0 p esz len lo a h1 h2=>
       subst h1
       cases a with
       | none=>exact .vintsNil _ _ _ (by simp) rfl
       | some a=>exact .vints _ _ _ a 0 (by simp) (by simp) (fun i hi=>by simp at hi)
      | nslice p esz len lo b N cap hb h1 h2 h3=>
       refine .vints _ _ _ _ cap (by omega) (by omega) (fun i hi=> ?_)
       rw [hlen] at hi
       rw [addr_add]
       refine WJ he hm hg hb hmv ?_
       cases he.own _ _ hg with
       | ints0 k xs h0 hn=>rw [hn] at hb;cases hb
       | ints k xs b' cells elem fr hb' hw hf hvs=>
        rw [hb] at hb'
        cases hb'
        rw [cell_of_heap hw,hvs _ (by omega)]
        congr 2
        rw [ZU]
        simp_all
     simp_all
    ·rename_i sz n f hg
     split at hl
     ·rename_i hb
      simp only [J2,JJ] at hb
      obtain ⟨⟨⟨q1,q2⟩,q3⟩,q4⟩:=hb
      have q1:=J0 q1
      have q2:=J0 q2
      have q3:=J0 q3
      obtain ⟨hle,hpl,hK⟩:=Zd hl
      refine ⟨_,hK,fun E w r he hv=> ?_⟩
      have htot:p.tot=p.row*sz:=by
       grind [J0,ZI.tot]
      cases hv with
      | nslice0 p esz len lo a h1 h2=>
       subst h1
       cases a with
       | none=>exact .vrowsNil _ _ _ _ rfl rfl
       | some a=>exact .vrows _ _ _ _ a 0 (fun _=>[]) (by omega) (by omega) (fun i hi=>by omega) (fun i hi=>by omega) (fun i j c hi=>by omega)
      | nslice p esz len lo b N cap hb h1 h2 h3=>
       cases he.own _ _ hg with
       | rows0 sz n f h0 hn=>rw [hn] at hb;cases hb
       | rows sz n f b' cells elem fr g hb' hw hf hc hlg hvs=>
        rw [hb] at hb'
        cases hb'
        refine .vrows _ _ _ _ _ cap (fun i=>g (p.row+i)) (by omega) h1 (fun i hi=> ?_) (fun i hi=>by rw [<-q1];grind) (fun i j c hi hj=> ?_)
        ·have:=hc (p.row+i) (by omega)
         have hp:=hpl i hi
         rw [Wy] at hp⊢
         exact this.plain hp
        ·rw [addr_add]
         refine WJ he hm hg hb hmv ?_
         rw [cell_of_heap hw,htot,<-q1]
         have:=hvs (p.row+i) j c (by omega) hj
         rw [K7] at this
         rw [show p.row*sz+(i*sz+j)=p.row*sz+i*sz+j by omega]
         exact this
     simp_all
    ·rename_i cs hg
     split at hl
     ·rename_i rest hrow hrest
      have hbase:∀(E:Env) (w:World) (b N:Nat),Emb E h w->E.blk p.blk=some (b,N)->∃vs,Zm E rest vs/\∀j c,vs[j]? =some c->w.cell? ⟨b,p.off+j,none⟩=some c:=by
       intro E w b N he hb
       cases he.own _ _ hg with
       | flat0 cs h0 hn=>rw [hn] at hb;cases hb
       | flat cs b' cells elem fr vs hb' hw hf hc hvs=>
        rw [hb] at hb'
        cases hb'
        refine ⟨_,(ZN _ _ _ _ hrest hc).1,fun j c hj=> ?_⟩
        rw [JF] at hj
        exact Z28 hvs hw hj
      split at hl
      ·split at hl
       ·rename_i k n xs rest2 harr
        split at hl
        ·rename_i hes hbb
         have hes:=J0 hes
         subst hes
         rw [J2] at hbb
         have e1:=J0 hbb.1
         have e2:=J0 hbb.2
         obtain ⟨hxl,hK⟩:=Zd hl
         refine ⟨_,hK,fun E w r he hv=> ?_⟩
         cases hv with
         | nslice0 p esz len lo a h1 h2=>
          have hx0:xs=[]:=by
           grind
          subst hx0
          subst h1
          cases a with
          | none=>exact .vintsNil _ _ _ rfl rfl
          | some a=>exact .vints _ _ _ a 0 (by simp) (by simp) (fun i hi=>by simp at hi)
         | nslice p esz len lo b N cap hb h1 h2 h3=>
          obtain ⟨vs,hcr,hcell⟩:=hbase E w b N he hb
          obtain ⟨ws,rfl,_⟩:=Zm.cons_arr hcr
          refine .vints _ _ _ _ cap (by omega) (by omega) (fun i hi=> ?_)
          rw [addr_add]
          refine WJ he hm hg hb hmv ?_
          have:=hcell i (.int k (xs.getD i 0)) (by
           rw [Jb (by rw [Z9];omega),Zj (by omega)])
          rw [show p.tot+i=p.off+i by simp [ZI.tot,hrow,e1]]
          exact this
        ·rename_i hes hbb
         have hes:=J0 hes
         subst hes
         obtain ⟨⟨hxl,hle⟩,hK⟩:=Zd hl
         have hlen:((Y2 p.inn xs).take len).length=len:=by rw [ZU,Jc,J9];omega
         refine ⟨_,hK,fun E w r he hv=> ?_⟩
         cases hv with
         | nslice0 p esz len lo a h1 h2=>
          subst h1
          cases a with
          | none=>exact .vintsNil _ _ _ (by simp) rfl
          | some a=>exact .vints _ _ _ a 0 (by simp) (by simp) (fun i hi=>by simp at hi)
         | nslice p esz len lo b N cap hb h1 h2 h3=>
          obtain ⟨vs,hcr,hcell⟩:=hbase E w b N he hb
          obtain ⟨ws,rfl,_⟩:=Zm.cons_arr hcr
          refine .vints _ _ _ _ cap (by omega) (by omega) (fun i hi=> ?_)
          rw [hlen] at hi
          rw [addr_add]
          refine WJ he hm hg hb hmv ?_
          have:=hcell (p.inn+i) (.int k (xs.getD (p.inn+i) 0)) (by
           rw [Jb (by rw [Z9];omega),Zj (by omega)])
          rw [show p.tot+i=p.off+(p.inn+i) by simp [ZI.tot,hrow];omega]
          rw [this]
          congr 2
          rw [ZU]
          simp_all
        simp_all
       simp_all
      ·split at hl
       ·rename_i part hinn hpart
        have hinn:=J0 hinn
        obtain ⟨part',hK,hr⟩:=Vs hm d false part _ hl
        split at hK
        ·rename_i hrows
         refine ⟨_,hK,fun E w r he hv=> ?_⟩
         cases hv with
         | nslice0 p esz len lo a h1 h2=>
          subst h1
          cases a with
          | none=>exact .vrowsNil _ _ _ _ rfl rfl
          | some a=>exact .vrows _ _ _ _ a 0 (fun _=>[]) (by omega) (by omega) (fun i hi=>by omega) (fun i hi=>by omega) (fun i j c hi=>by omega)
         | nslice p esz len lo b N cap hb h1 h2 h3=>
          obtain ⟨vs,hcr,hcell⟩:=hbase E w b N he hb
          have hpr:=(Vh _ _ _ _ hpart hcr).1
          have hpr':=hr E w _ he hpr
          refine .vrows _ _ _ _ _ cap (fun i=>((vs.take (len*esz)).drop (0+i*esz)).take esz) (by omega) h1 (fun i hi=>(Xh (YG hrows i hi) hpr').1) (fun i hi=>(Xh (YG hrows i hi) hpr').2) (fun i j c hi hj=> ?_)
          rw [addr_add]
          grind [WJ,ZI.tot]
        simp_all
       simp_all
     simp_all
    simp_all
  ·obtain ⟨fs',hl,h1⟩:=W3 hm d t _ _ hl
   obtain ⟨cs',hl,h2⟩:=W3 hm d t _ _ hl
   refine ⟨_,hl,fun E w r he hv=> ?_⟩
   cases hv with
   | func fn first captured fs cs ha hb=>exact .func _ _ _ _ _ (h1 E w _ he ha) (h2 E w _ he hb)
  ·obtain ⟨u',hl,h1⟩:=Z0p hm d t _ _ hl
   refine ⟨_,hl,fun E w r he hv=> ?_⟩
   cases hv with
   | iface T v x hx=>exact .iface _ _ _ (h1 E w _ he hx)
  ·obtain ⟨cs',hl,h1⟩:=Vs hm d t _ _ hl
   refine ⟨_,hl,fun E w r he hv=> ?_⟩
   cases hv with
   | agg cs vs hc=>exact .agg _ _ (h1 E w _ he hc)
  ·obtain ⟨vs',hl,h1⟩:=W3 hm d t _ _ hl
   refine ⟨_,hl,fun E w r he hv=> ?_⟩
   cases hv with
   | tuple vs rs hc=>exact .tuple _ _ (h1 E w _ he hc)
  simp_all
theorem Vs {mv:Option Nat} {h:Z6} (hm:∀x,mv=some x->∃B,h.get x=some B):∀(d:Nat) (t:Bool) (l:List AV) (K:List AV->Prop),Vr mv h t d l K->∃l₀,K l₀/\∀(E:Env) (w:World) (r:List Value),Emb E h w->Zm E l r->Zm (E.bor mv w t) l₀ r
 | 0,t,l,K,hl=>by unfold Vr at hl;simp_all
 | d+1,t,l,K,hl=>by
  unfold Vr at hl
  split at hl
  ·exact ⟨_,hl,fun E w r he hv=>by cases hv;exact .nil⟩
  ·obtain ⟨r',hl,h1⟩:=Vs hm d t _ _ hl
   refine ⟨_,hl,fun E w r he hv=> ?_⟩
   obtain ⟨ws,rfl,ht⟩:=Zm.cons_arr hv
   exact .arr _ _ _ _ _ (h1 E w _ he ht)
  ·rename_i v r hna
   obtain ⟨v',hl,h1⟩:=Z0p hm d t _ _ hl
   split at hl
   ·rename_i hcell
    obtain ⟨r',hl,h2⟩:=Vs hm d t _ _ hl
    refine ⟨_,hl,fun E w q he hv=> ?_⟩
    obtain ⟨c,ws,rfl,q1,q2,q3,q4⟩:=Zm.cons_cell hv (fun k m xs e=>hna k m xs e)
    exact .one _ _ _ _ hcell q2 (h1 E w _ he q3) (h2 E w _ he q4)
   ·exact hl.elim
theorem W3 {mv:Option Nat} {h:Z6} (hm:∀x,mv=some x->∃B,h.get x=some B):∀(d:Nat) (t:Bool) (l:List AV) (K:List AV->Prop),X1 mv h t d l K->∃l₀,K l₀/\∀(E:Env) (w:World) (r:List Value),Emb E h w->Zt E l r->Zt (E.bor mv w t) l₀ r
 | 0,t,l,K,hl=>by unfold X1 at hl;simp_all
 | d+1,t,l,K,hl=>by
  unfold X1 at hl
  split at hl
  ·exact ⟨_,hl,fun E w r he hv=>by cases hv;exact .nil⟩
  ·obtain ⟨v',hl,h1⟩:=Z0p hm d t _ _ hl
   obtain ⟨r',hl,h2⟩:=W3 hm d t _ _ hl
   refine ⟨_,hl,fun E w q he hv=> ?_⟩
   cases hv with
   | cons v c vs cs ha hb=>exact .cons _ _ _ _ (h1 E w _ he ha) (h2 E w _ he hb)
end
def Y8 (P:Program) (f:FuncId) (args:List AV) (v:AV) (nx:Nat) (bs:List (Nat×Blk)):Prop:=
 ∀(E:Env) (w:World) (rs:List Value),Emb E ⟨0,[]⟩ w->Zt E args rs->Calls P f rs.toArray w fun e w'=>∃E' r,e=.returned r/\Evo E ⟨0,[]⟩ w E' ⟨nx,bs⟩ w'/\Zc E' v r
def Z3T (P:Program) (f:FuncId) (args:List AV) (B:Blk) (v:AV) (B':Blk):Prop:=
 ∀(E:Env) (w:World) (rs:List Value),Emb E ⟨1,[(0,B)]⟩ w->Zt E args rs->Calls P f rs.toArray w fun e w'=>∃E' r,e=.returned r/\Evo E ⟨1,[(0,B)]⟩ w E' ⟨1,[(0,B')]⟩ w'/\Zc E' v r
def Wd (k:Nat) (τ:Ren) (v:AV) (nx:Nat) (bs:List (Nat×Blk)):KO:=fun o h=>match o with
 | .ret u=>Uy k τ ⟨1,[(0,v)],⟨nx,bs⟩,[]⟩ ⟨1,[(0,u)],h,[]⟩ True
 | .panic _=>False
theorem QO {P:Program} {f:FuncId} {h0:Z6} {v:AV} {bs:List (Nat×Blk)} (h:Zh P f args h0 (Wd h0.next τ v nx bs)) {w:World} {rs:List Value} (he:Emb E h0 w) (hl:Zt E args rs):
  Calls P f rs.toArray w fun e w'=>∃E' r,e=.returned r/\Evo E h0 w E' ⟨nx,bs⟩ w'/\Zc E' v r:=by
 refine (h E w rs he hl).mono ?_
 rintro e w' ⟨E',o,h',hK,hev,ho⟩
 cases ho with
 | panic v r h=>exact hK.elim
 | ret u r hr=>
  obtain ⟨_,hw⟩:=Xr hK
  obtain ⟨E₂,hs,hev₂⟩:=hw E h0 w E' { tmps:= #[r],defers:=[]} w' he.fresh ⟨hev.emb,⟨rfl,fun x u' hx=>by
   simp only [ZD] at hx
   split at hx
   all_goals simp_all⟩,.nil⟩ hev
  exact ⟨E₂,r,rfl,hev₂,by simpa using hs.tmps.get 0 v rfl⟩
theorem Y8.of {P:Program} {f:FuncId} {v:AV} {bs:List (Nat×Blk)} (h:Zh P f args ⟨0,[]⟩ (Wd 0 τ v nx bs)):Y8 P f args v nx bs:=
 fun _ _ _ he hl=>QO h he hl
theorem Z3T.of {P:Program} {f:FuncId} {v:AV} (h:Zh P f args ⟨1,[(0,B)]⟩ (Wd 1 τ v 1 [(0,B')])):Z3T P f args B v B':=
 fun _ _ _ he hl=>QO h he hl
def shP (d:Nat) (p:ZI):ZI:=⟨d+p.blk,p.row,p.sz,p.off,p.inn⟩
mutual
def shV (d:Nat):AV->Option AV
 | .top=>some .top
 | .bool b=>some (.bool b)
 | .int k n=>some (.int k n)
 | .str s=>some (.str s)
 | .ptr none=>some (.ptr none)
 | .ptr (some p)=>some (.ptr (some (shP d p)))
 | .nslice p esz len lo=>some (.nslice (shP d p) esz len lo)
 | .eslice=>some .eslice
 | .fslice=>some .fslice
 | .nilslice=>some .nilslice
 | .map none=>some (.map none)
 | .map (some x)=>some (.map (some (d+x)))
 | .nilFunc=>some .nilFunc
 | .nilIface=>some .nilIface
 | .iface t v=>match shV d v with|some v'=>some (.iface t v')|none=>none
 | .agg cs=>match shC d cs with|some cs'=>some (.agg cs')|none=>none
 | .tuple vs=>match shL d vs with|some vs'=>some (.tuple vs')|none=>none
 | _=>none
def shC (d:Nat):List AV->Option (List AV)
 | []=>some []
 | .arr k n xs::r=>match shC d r with|some r'=>some (.arr k n xs::r')|none=>none
 | v::r=>match shV d v,shC d r with
  | some v',some r'=>match v'.isCell with|true=>some (v'::r')|false=>none
  | _,_=>none
def shL (d:Nat):List AV->Option (List AV)
 | []=>some []
 | v::r=>match shV d v,shL d r with
  | some v',some r'=>some (v'::r')
  | _,_=>none
end
mutual
theorem Z5D {d:Nat} {E E':Env} (hb:∀x r,E.blk x=some r->E'.blk (d+x)=some r):∀(v v':AV) (r:Value),shV d v=some v'->Zc E v r->Zc E' v' r
 | .top,v',r,h,hv=>by simp [shV] at h;subst h;exact .top r
 | .bool b,v',r,h,hv=>by simp [shV] at h;subst h;exact hv.plain rfl
 | .int k n,v',r,h,hv=>by simp [shV] at h;subst h;exact hv.plain rfl
 | .str s,v',r,h,hv=>by simp [shV] at h;subst h;exact hv.plain rfl
 | .ptr none,v',r,h,hv=>by simp [shV] at h;subst h;exact hv.plain rfl
 | .ptr (some p),v',r,h,hv=>by
  simp [shV] at h;subst h
  cases hv with
  | ptr p b N hq=>exact .ptr (shP d p) b N (hb _ _ hq)
 | .pview _ _,v',r,h,hv=>by simp [shV] at h
 | .nslice p esz len lo,v',r,h,hv=>by
  simp [shV] at h;subst h
  cases hv with
  | nslice0 p esz len lo a h1 h2=>exact .nslice0 _ _ _ _ a h1 h2
  | nslice p esz len lo b N cap hq h1 h2 h3=>exact .nslice (shP d p) _ _ _ b N cap (hb _ _ hq) h1 h2 h3
 | .vints _ _ _,v',r,h,hv=>by simp [shV] at h
 | .vrows _ _ _ _,v',r,h,hv=>by simp [shV] at h
 | .eslice,v',r,h,hv=>by simp [shV] at h;subst h;exact hv.plain rfl
 | .fslice,v',r,h,hv=>by simp [shV] at h;subst h;exact hv.plain rfl
 | .nilslice,v',r,h,hv=>by simp [shV] at h;subst h;exact hv.plain rfl
 | .map none,v',r,h,hv=>by simp [shV] at h;subst h;exact hv.plain rfl
 | .map (some x),v',r,h,hv=>by
  simp [shV] at h;subst h
  cases hv with
  | map x b N hq=>exact .map _ b N (hb _ _ hq)
 | .func _ _ _,v',r,h,hv=>by simp [shV] at h
 | .yield _,v',r,h,hv=>by simp [shV] at h
 | .stamp _,v',r,h,hv=>by simp [shV] at h
 | .nilFunc,v',r,h,hv=>by simp [shV] at h;subst h;exact hv.plain rfl
 | .nilIface,v',r,h,hv=>by simp [shV] at h;subst h;exact hv.plain rfl
 | .iface t v,v',r,h,hv=>by
  unfold shV at h
  split at h
  ·rename_i u hu
   cases h
   cases hv with
   | iface t v x hx=>exact .iface _ _ _ (Z5D hb _ _ _ hu hx)
  ·cases h
 | .agg cs,v',r,h,hv=>by
  unfold shV at h
  split at h
  ·rename_i u hu
   cases h
   cases hv with
   | agg cs vs hc=>exact .agg _ _ (Z83 hb _ _ _ hu hc)
  ·cases h
 | .arr _ _ _,v',r,h,hv=>by simp [shV] at h
 | .tuple vs,v',r,h,hv=>by
  unfold shV at h
  split at h
  ·rename_i u hu
   cases h
   cases hv with
   | tuple vs rs hc=>exact .tuple _ _ (ZbY hb _ _ _ hu hc)
  ·cases h
theorem Z83 {d:Nat} {E E':Env} (hb:∀x r,E.blk x=some r->E'.blk (d+x)=some r):∀(l l':List AV) (r:List Value),shC d l=some l'->Zm E l r->Zm E' l' r
 | [],l',r,h,hv=>by simp [shC] at h;subst h;cases hv;exact .nil
 | v::q,l',r,h,hv=>by
  unfold shC at h
  split at h
  ·rename_i heq;cases heq
  ·rename_i k n xs q' heq
   cases heq
   split at h
   ·rename_i u hu
    cases h
    obtain ⟨ws,rfl,ht⟩:=Zm.cons_arr hv
    exact .arr _ _ _ _ _ (Z83 hb _ _ _ hu ht)
   ·cases h
  ·rename_i v0 q' hna heq
   cases heq
   split at h
   ·rename_i u us hu hus
    split at h
    ·rename_i hcell
     cases h
     obtain ⟨c,ws,rfl,q1,q2,q3,q4⟩:=Zm.cons_cell hv (fun k m xs e=>hna k m xs e)
     exact .one _ _ _ _ hcell q2 (Z5D hb _ _ _ hu q3) (Z83 hb _ _ _ hus q4)
    ·cases h
   ·cases h
theorem ZbY {d:Nat} {E E':Env} (hb:∀x r,E.blk x=some r->E'.blk (d+x)=some r):∀(l l':List AV) (r:List Value),shL d l=some l'->Zt E l r->Zt E' l' r
 | [],l',r,h,hv=>by simp [shL] at h;subst h;cases hv;exact .nil
 | v::q,l',r,h,hv=>by
  unfold shL at h
  split at h
  ·rename_i u us hu hus
   cases h
   cases hv with
   | cons v c vs cs ha hb'=>exact .cons _ _ _ _ (Z5D hb _ _ _ hu ha) (ZbY hb _ _ _ hus hb')
  ·cases h
end
def Z6z (d:Nat):List (Nat×Blk)->List (Nat×Blk)
 | []=>[]
 | (x,B)::r=>(d+x,B)::Z6z d r
inductive Vd:Blk->Prop
 | ints (k:IntKind) (xs:LI):Vd (.ints k xs)
 | flat (cs:List AV) (h:YA cs=true):Vd (.flat cs)
 | rows (sz n:Nat) (f:Nat->List AV) (h:∀i,i<n->YA (f i)=true):Vd (.rows sz n f)
def Z29 (nx:Nat):List (Nat×Blk)->Prop
 | []=>True
 | (x,B)::r=>x<nx/\Vd B/\Z29 nx r
theorem Vd.move {w:World} {x y:Nat} (hp:Vd B) (he:E'.blk y=E.blk x) (h:ZV E w x B):ZV E' w y B:=by
 cases h with
 | flat0 cs h0 hn=>exact .flat0 _ h0 (he.trans hn)
 | flat cs b cells elem fr vs hb hw hf hc hv=>cases hp with|flat _ h=>exact .flat _ b cells elem fr vs (he.trans hb) hw hf (hc.plain h) hv
 | ints0 k xs h0 hn=>exact .ints0 _ _ h0 (he.trans hn)
 | ints k xs b cells elem fr hb hw hf hv=>exact .ints _ _ b cells elem fr (he.trans hb) hw hf hv
 | rows0 sz n f h0 hn=>exact .rows0 _ _ _ h0 (he.trans hn)
 | rows sz n f b cells elem fr g hb hw hf hc hl hv=>cases hp with|rows _ _ _ h=>exact .rows _ _ _ b cells elem fr g (he.trans hb) hw hf (fun i hi=>(hc i hi).plain (h i hi)) hl hv
 | map es b ents clock hb hw hk hv hbn=>cases hp
 | fmap n kf vf b ents clock hb hw hl hk hv hbn=>cases hp
 | pmap es b k ents ents' clock hb hw hq hn hi hk hv=>cases hp
 | sfmap n kf vf key y b ents clock e hb hw hl hk hv hbn hs he=>cases hp
 | git m y js b mb clock bs seen hb hm hy hs hj hw=>cases hp
 | froz B y b ents clock hB hb hw hbn hy=>cases hp
 | smap es i y b ents clock s e hb hw hk hv hbn hs he hy=>cases hp
 | loop l b d N fnr tm hb hd hw ht=>cases hp
 | defd b hb hw=>cases hp
def UC:List (Nat×Blk)->List (Nat×Blk)->List (Nat×Blk)
 | [],l=>l
 | p::r,l=>p::UC r l
theorem Z4q (a b:List (Nat×Blk)) (y:Nat):ZC (UC a b) y=match ZC a y with|some B=>some B|none=>ZC b y:=by
 induction a with
 | nil=>rfl
 | cons p r ih=>
  grind [UC,ZC]
theorem Z98 {d:Nat}:∀(bs:List (Nat×Blk)) (y:Nat) (B:Blk),ZC (Z6z d bs) y=some B->∃x,y=d+x/\ZC bs x=some B
 | [],y,B,h=>by simp [Z6z,ZC] at h
 | (z,C)::r,y,B,h=>by
  simp only [Z6z,ZC] at h
  split at h
  ·rename_i hb
   have:=J0 hb
   cases h
   exact ⟨z,this.symm,by simp [ZC]⟩
  ·rename_i hb
   obtain ⟨x,rfl,hx⟩:=Z98 r y B h
   refine ⟨x,rfl, ?_⟩
   simp only [ZC]
   have:Nat.beq z x=false:=by
    cases hq:Nat.beq z x with
    | false=>rfl
    | true=>have:=J0 hq;subst this;simp [Jj] at hb
   rw [this]
   exact hx
theorem UD {nx:Nat}:∀{bs:List (Nat×Blk)},Z29 nx bs->∀x B,ZC bs x=some B->x<nx/\Vd B
 | (z,C)::r,h,x,B,hx=>by
  obtain ⟨h1,h2,h3⟩:=h
  simp only [ZC] at hx
  split at hx
  ·simp_all
  ·exact UD h3 x B hx
theorem ZbZ {w:World}:Emb (E.bor none w true) ⟨0,[]⟩ w where
 fresh:=fun x _=>by cases x<;>rfl
 lt:=fun x B h=>by simp [Z6.get,ZC] at h
 own:=fun x B h=>by simp [Z6.get,ZC] at h
 disj:=fun x y B B' b N N' h=>by simp [Z6.get,ZC] at h
 imm:=fun a c h=>h.1
 sep:=fun a c x B N _ h=>by simp [Z6.get,ZC] at h
theorem Y8.calls {P:Program} {f:FuncId} {v:AV} {bs:List (Nat×Blk)} {h:Z6} {K:KO} (hp:Y8 P f args₀ v nx bs)
  (ha:∀(E:Env) (w:World) (rs:List Value),Emb E h w->Zt E args rs->Zt (E.bor none w true) args₀ rs)
  (hv:shV h.next v=some v') (hb:Z29 nx bs) (hK:K (.ret v') ⟨h.next+nx,UC (Z6z h.next bs) h.bs⟩):Zh P f args h K:=by
 intro E w rs he hl
 refine (hp (E.bor none w true) w rs ZbZ (ha E w rs he hl)).mono ?_
 rintro e w' ⟨E₁,r,rfl,hev,hr⟩
 let E':Env:=⟨fun x=>if x<h.next then E.blk x else E₁.blk (x-h.next),E.imm⟩
 have hE'old:∀x,x<h.next->E'.blk x=E.blk x:=fun x hx=>if_pos hx
 have hE'new:∀x,E'.blk (h.next+x)=E₁.blk x:=fun x=>by
  grind
 have hfresh:∀x,E.blk x≠none->x<h.next:=fun x hx=>by
  rcases Jo x h.next with hl|hg
  ·exact hl
  ·exact absurd (he.fresh x hg) hx
 have hle:E.le E':=⟨fun x q hx=>by rw [hE'old x (hfresh x (by rw [hx];simp))];exact hx,fun _ _ h=>h⟩
 have hkeep:∀b,b<w.heap.size->w'.heap[b]? =w.heap[b]?:=fun b hb=>hev.keep b hb (fun ⟨x,B,N,hx,_⟩=>by simp [Z6.get,ZC] at hx)
 have hlt:∀b o,w.heap[b]? =some o->b<w.heap.size:=fun b o ho=>by
  grind
 have hcell:∀a c,w.cell? a=some c->w'.cell? a=some c:=fun a c hc=>by
  grind [World.cell?]
 have hget:∀y B,Z6.get ⟨h.next+nx,UC (Z6z h.next bs) h.bs⟩ y=some B->(∃x,y=h.next+x/\ZC bs x=some B)\/(y<h.next/\h.get y=some B):=fun y B hy=>by
  simp only [Z6.get,Z4q] at hy
  split at hy
  ·simp_all [Z98]
  ·exact .inr ⟨he.lt y B hy,hy⟩
 have hnewsz:∀x B b N,ZC bs x=some B->E₁.blk x=some (b,N)->w.heap.size<=b:=fun x B b N hx hb=>by
  rcases hev.own b ⟨x,B,N,hx,hb⟩ with ⟨z,C,M,hz,_⟩|hq
  all_goals simp_all [Z6.get,ZC]
 have hemb:Emb E' ⟨h.next+nx,UC (Z6z h.next bs) h.bs⟩ w':=by
  refine ⟨?_, ?_, ?_, ?_, ?_, ?_⟩
  ·intro x hx
   have hx':h.next+nx<=x:=hx
   obtain ⟨y,rfl⟩:=Nat.exists_eq_add_of_le (show h.next<=x by omega)
   rw [hE'new]
   exact hev.emb.fresh y (by simp_all)
  ·intro y B hy
   show y<h.next+nx
   rcases hget y B hy with ⟨x,rfl,hx⟩|⟨hlt',_⟩
   ·have:=(UD hb x B hx).1;omega
   ·omega
  ·intro y B hy
   rcases hget y B hy with ⟨x,rfl,hx⟩|⟨hlt',hy'⟩
   ·exact (UD hb x B hx).2.move (hE'new x) (hev.emb.own x B hx)
   ·have h1:=(he.own y B hy').mono hle (fun hn=>by rw [hE'old y hlt'];exact hn)
    refine h1.congr fun b N hbb=> ?_
    rw [hE'old y hlt'] at hbb
    exact hkeep b ((he.own y B hy').lt hbb)
  ·intro y z B C b N N' hy hz hby hbz
   rcases hget y B hy with ⟨x,rfl,hx⟩|⟨hly,hy'⟩<;>rcases hget z C hz with ⟨x',rfl,hx'⟩|⟨hlz,hz'⟩
   ·rw [hE'new] at hby hbz
    rw [hev.emb.disj x x' B C b N N' hx hx' hby hbz]
   ·rw [hE'new] at hby
    rw [hE'old z hlz] at hbz
    have:=hnewsz x B b N hx hby
    have:=(he.own z C hz').lt hbz
    omega
   ·rw [hE'new] at hbz
    rw [hE'old y hly] at hby
    have:=hnewsz x' C b N' hx' hbz
    have:=(he.own y B hy').lt hby
    omega
   ·rw [hE'old y hly] at hby
    rw [hE'old z hlz] at hbz
    exact he.disj y z B C b N N' hy' hz' hby hbz
  ·intro a c hi
   exact hcell a c (he.imm a c hi)
  ·intro a c y B N hi hy hbb
   rcases hget y B hy with ⟨x,rfl,hx⟩|⟨hly,hy'⟩
   ·rw [hE'new] at hbb
    have:=hnewsz x B _ N hx hbb
    have hc:=he.imm a c hi
    simp_all [World.cell?]
   ·rw [hE'old y hly] at hbb
    exact he.sep a c y B N hi hy' hbb
 refine ⟨E',.ret v',_,hK,⟨hle,hemb,hev.size,hev.os,hev.tape,hev.output,fun b hb' _=>hkeep b hb', ?_,fun _ _ h=>h⟩,.ret _ _ (Z5D (fun x q hx=>by rw [hE'new];exact hx) v v' r hv hr)⟩
 rintro b ⟨y,B,N,hy,hbb⟩
 rcases hget y B hy with ⟨x,rfl,hx⟩|⟨hly,hy'⟩
 ·grind
 ·rw [hE'old y hly] at hbb
  exact .inl ⟨y,B,N,hy',hbb⟩
theorem Zc0 {w:World} {h:Z6} {x:Nat} (he:Emb E h w) (hx:h.get x=some B) (hp:Vd B):Emb (E.bor (some x) w true) ⟨1,[(0,B)]⟩ w:=by
 have hget:∀y C,Z6.get ⟨1,[(0,B)]⟩ y=some C->y=0/\C=B:=fun y C hy=>by
  grind [Z6.get,ZC,J0]
 refine ⟨fun y hy=> ?_,fun y C hy=> ?_,fun y C hy=> ?_,fun y z C D b N N' hy hz _ _=> ?_,fun a c h=>h.1,fun a c y C N hi hy hb=> ?_⟩
 ·have hy':1<=y:=hy
  match y,hy' with
  | y+1,_=>rfl
 ·grind
 ·obtain ⟨rfl,rfl⟩:=hget y C hy
  exact hp.move (E:=E) (x:=x) rfl (he.own x _ hx)
 ·rw [(hget y C hy).1,(hget z D hz).1]
 ·obtain ⟨rfl,rfl⟩:=hget y C hy
  exact hi.2 x N rfl hb
theorem Zc.nothing (E E':Env) (r:Value) (h:Zc E (.tuple []) r):Zc E' (.tuple []) r:=by
 cases h with
 | tuple vs rs hl=>cases hl;exact .tuple [] [] .nil
theorem Z3T.calls {P:Program} {f:FuncId} {v:AV} {h:Z6} {K:KO} {x:Nat} (hc:Z3T P f args₀ (.flat cs) v B') (hx:h.get x=some (.flat cs)) (hp:YA cs=true) (hne:csz cs≠0) (hp':Vd B') (hv:∀(E E':Env) (r:Value),Zc E v r->Zc E' v r)
  (ha:∀(E:Env) (w:World) (rs:List Value),Emb E h w->Zt E args rs->Zt (E.bor (some x) w true) args₀ rs)
  (hK:K (.ret v) (h.set x B')):Zh P f args h K:=by
 intro E w rs he hl
 refine (hc (E.bor (some x) w true) w rs (Zc0 he hx (.flat _ hp)) (ha E w rs he hl)).mono ?_
 rintro e w' ⟨E₁,r,rfl,hev,hr⟩
 have hex:∃b N,E.blk x=some (b,N):=by
  cases he.own x _ hx with
  | flat0 cs h0 hn=>omega
  | flat cs b cells elem fr vs hb hw hf hc hv=>simp_all
 obtain ⟨b0,N0,hbx⟩:=hex
 have hE1:E₁.blk 0=some (b0,N0):=hev.le.blk 0 _ hbx
 have hown:∀b,X5 (E.bor (some x) w true) ⟨1,[(0,.flat cs)]⟩ b->b=b0:=fun b ⟨y,C,N,hy,hb⟩=>by
  simp only [Z6.get,ZC] at hy
  split at hy
  ·rename_i hq
   have:=J0 hq
   subst this
   have hb':E.blk x=some (b,N):=hb
   simp_all
  ·cases hy
 have hkeep:∀b,b<w.heap.size->b≠b0->w'.heap[b]? =w.heap[b]?:=fun b hb hn=>hev.keep b hb (fun ho=>hn (hown b ho))
 have hget:∀y C,(h.set x B').get y=some C->(y=x/\C=B')\/(y≠x/\h.get y=some C):=fun y C hy=>by
  grind [Z6.get_set_same,Z6.get_set_other]
 have hget':∀y C,(h.set x B').get y=some C->∃C',h.get y=some C':=fun y C hy=>by
  grind
 have hemb:Emb E (h.set x B') w':=by
  refine ⟨he.fresh, ?_, ?_, ?_, ?_, ?_⟩
  ·intro y C hy
   obtain ⟨C',h'⟩:=hget' y C hy
   exact he.lt y C' h'
  ·intro y C hy
   rcases hget y C hy with ⟨rfl,rfl⟩|⟨hn,h'⟩
   ·exact hp'.move (E:=E₁) (x:=0) (hbx.trans hE1.symm) (hev.emb.own 0 _ rfl)
   ·refine (he.own y C h').congr fun b M hb=>hkeep b ((he.own y C h').lt hb) ?_
    rintro rfl
    exact hn (he.disj y x C _ b M N0 h' hx hb hbx)
  ·intro y z C D b M M' hy hz hby hbz
   obtain ⟨C',hy'⟩:=hget' y C hy
   obtain ⟨D',hz'⟩:=hget' z D hz
   exact he.disj y z C' D' b M M' hy' hz' hby hbz
  ·intro a c hi
   have hc:=he.imm a c hi
   have hlt:a.block<w.heap.size:=by
    grind [World.cell?]
   have hn:a.block≠b0:=by
    rintro rfl
    exact he.sep a c x _ N0 hi hx hbx
   simpa [World.cell?,hkeep _ hlt hn] using hc
  ·intro a c y C M hi hy hb
   obtain ⟨C',hy'⟩:=hget' y C hy
   exact he.sep a c y C' M hi hy' hb
 refine ⟨E,.ret v,_,hK,⟨.refl E,hemb,hev.size,hev.os,hev.tape,hev.output,fun b hb hno=>hkeep b hb ?_, ?_,fun _ _ h=>h⟩,.ret _ _ (hv _ _ _ hr)⟩
 ·rintro rfl
  exact hno ⟨x,_,N0,hx,hbx⟩
 ·rintro b ⟨y,C,M,hy,hb⟩
  obtain ⟨C',hy'⟩:=hget' y C hy
  exact .inl ⟨y,C',M,hy',hb⟩
def Z3U (P:Program) (f:FuncId) (args:List AV) (n:Nat) (bs:List (Nat×Blk)) (v:AV):Prop:=
 ∀(E:Env) (w:World) (rs:List Value),Emb E ⟨n,bs⟩ w->Zt E args rs->Calls P f rs.toArray w fun e w'=>∃E' r,e=.returned r/\Evo E ⟨n,bs⟩ w E' ⟨n,bs⟩ w'/\Zc E' v r
theorem Z3U.of {P:Program} {f:FuncId} {n:Nat} {bs:List (Nat×Blk)} {v:AV} (h:Zh P f args ⟨n,bs⟩ (Wd n τ v n bs)):Z3U P f args n bs v:=
 fun _ _ _ he hl=>QO h he hl
def Env.sub (E:Env) (σ:List Nat):Env:=⟨fun y=>match σ[y]? with|some x=>E.blk x|none=>none,fun _ _=>False⟩
def Wk:Nat->List Nat->List Blk->List (Nat×Blk)
 | k,_::σ,B::Bs=>(k,B)::Wk (k+1) σ Bs
 | _,_,_=>[]
theorem XJ:∀(σ:List Nat) (Bs:List Blk) (k y:Nat) (B:Blk),ZC (Wk k σ Bs) y=some B->∃i x,y=k+i/\σ[i]? =some x/\Bs[i]? =some B
 | [],Bs,k,y,B,h=>by simp [Wk,ZC] at h
 | _::_,[],k,y,B,h=>by simp [Wk,ZC] at h
 | x::σ,C::Bs,k,y,B,h=>by
  simp only [Wk,ZC] at h
  split at h
  ·rename_i hb
   have:=J0 hb
   cases h
   exact ⟨0,x,by omega,rfl,rfl⟩
  ·obtain ⟨i,x',rfl,h1,h2⟩:=XJ σ Bs (k+1) y B h
   exact ⟨i+1,x',by omega,by simpa using h1,by simpa using h2⟩
theorem Z4r:∀(σ:List Nat) (Bs:List Blk) (k i x:Nat) (B:Blk),σ[i]? =some x->Bs[i]? =some B->ZC (Wk k σ Bs) (k+i)=some B
 | [],Bs,k,i,x,B,h,_=>by simp at h
 | _::_,[],k,i,x,B,_,h=>by simp at h
 | y::σ,C::Bs,k,0,x,B,h1,h2=>by
  simp_all [Wk,ZC]
 | y::σ,C::Bs,k,i+1,x,B,h1,h2=>by
  have:=Z4r σ Bs (k+1) i x B (by simp_all) (by simp_all)
  grind [Wk,ZC,Zu]
theorem Z3U.calls {P:Program} {f:FuncId} {σ:List Nat} {Bs:List Blk} {v:AV} {h:Z6} (hc:Z3U P f args₀ σ.length (Wk 0 σ Bs) v)
  (hl:σ.length=Bs.length) (inj:∀(i j x:Nat),σ[i]? =some x->σ[j]? =some x->i=j) (hx:∀(i x:Nat) (B:Blk),σ[i]? =some x->Bs[i]? =some B->h.get x=some B) (hp:∀B∈Bs,Vd B)
  (ha:∀(E:Env) (w:World) (rs:List Value),Emb E h w->Zt E args rs->Zt (E.sub σ) args₀ rs)
  (hv:∀(E E₁:Env) (r:Value),(E.sub σ).le E₁->(∀x,σ.length<=x->E₁.blk x=none)->(∀x∈σ,∃q,E.blk x=some q)->Zc E₁ v r->Zc E v' r) (hne:∀(E:Env) (w:World),Emb E h w->∀x∈σ,∃q,E.blk x=some q)
  (hK:K v'):Zh P f args h fun o h'=>∃v,o=.ret v/\h'=h/\K v:=by
 intro E w rs he hr
 have hlt:∀i x,σ[i]? =some x->i<σ.length:=fun i x hi=>(Ja.1 hi).1
 have hB:∀i x,σ[i]? =some x->∃B,Bs[i]? =some B:=fun i x hi=>by
  have:=hlt i x hi
  exact ⟨Bs[i],J8 (by omega)⟩
 have hsub:∀i x,σ[i]? =some x->(E.sub σ).blk i=E.blk x:=fun i x hi=>by simp [Env.sub,hi]
 have hnone:∀i,σ.length<=i->(E.sub σ).blk i=none:=fun i hi=>by simp [Env.sub,Jv hi]
 have hemb:Emb (E.sub σ) ⟨σ.length,Wk 0 σ Bs⟩ w:=by
  refine ⟨hnone, ?_, ?_, ?_,fun _ _ h=>h.elim,fun _ _ _ _ _ h=>h.elim⟩
  ·intro y B hy
   obtain ⟨i,x,rfl,h1,_⟩:=XJ σ Bs 0 y B hy
   grind
  ·intro y B hy
   obtain ⟨i,x,rfl,h1,h2⟩:=XJ σ Bs 0 y B hy
   rw [Jq]
   exact (hp B (K2 h2)).move (hsub i x h1) (he.own x B (hx i x B h1 h2))
  ·intro y z B C b N N' hy hz hby hbz
   obtain ⟨i,x,rfl,h1,h2⟩:=XJ σ Bs 0 y B hy
   obtain ⟨j,x',rfl,h3,h4⟩:=XJ σ Bs 0 z C hz
   rw [Jq] at hby hbz⊢
   rw [hsub i x h1] at hby
   rw [hsub j x' h3] at hbz
   have:=he.disj x x' B C b N N' (hx i x B h1 h2) (hx j x' C h3 h4) hby hbz
   grind
 refine (hc (E.sub σ) w rs hemb (ha E w rs he hr)).mono ?_
 rintro e w' ⟨E₁,r,rfl,hev,hvr⟩
 have hkeep:∀b,b<w.heap.size->(∀i x N,σ[i]? =some x->E.blk x=some (b,N)->False)->w'.heap[b]? =w.heap[b]?:=fun b hb hn=>hev.keep b hb (fun ⟨y,B,N,hy,hbb⟩=>by
  obtain ⟨i,x,rfl,h1,_⟩:=XJ σ Bs 0 y B hy
  rw [Jq,hsub i x h1] at hbb
  exact hn i x N h1 hbb)
 have hemb':Emb E h w':=by
  refine ⟨he.fresh,he.lt, ?_,he.disj, ?_,he.sep⟩
  ·intro y B hy
   by_cases hin:∃i:Nat,σ[i]? =some y
   ·obtain ⟨i,hi⟩:=hin
    obtain ⟨B',hB'⟩:=hB i y hi
    have hBB:=hx i y B' hi hB'
    rw [hy] at hBB
    cases hBB
    cases hq:E.blk y with
    | none=>
     obtain ⟨q,hq'⟩:=hne E w he y (K2 hi)
     rw [hq] at hq'
     cases hq'
    | some q=>
     have h0:(E.sub σ).blk i=some q:=(hsub i y hi).trans hq
     have h1:E₁.blk i=some q:=hev.le.blk i q h0
     have hg:Z6.get ⟨σ.length,Wk 0 σ Bs⟩ i=some B:=by
      have:=Z4r σ Bs 0 i y B hi hB'
      rwa [Jq] at this
     exact (hp B (K2 hB')).move (E:=E₁) (x:=i) (hq.trans h1.symm) (hev.emb.own i B hg)
   ·refine (he.own y B hy).congr fun b N hb=>hkeep b ((he.own y B hy).lt hb) ?_
    intro i x N' hi hbx
    obtain ⟨B',hB'⟩:=hB i x hi
    have:=he.disj y x B B' b N N' hy (hx i x B' hi hB') hb hbx
    subst this
    exact hin ⟨i,hi⟩
  ·intro a c hi
   have hcc:=he.imm a c hi
   have hlt':a.block<w.heap.size:=by
    rcases Jo a.block w.heap.size with hl|hg
    ·exact hl
    ·simp [World.cell?,K8 hg] at hcc
   have hk:=hkeep a.block hlt' (fun i x N hi' hbx=>by
    obtain ⟨B',hB'⟩:=hB i x hi'
    exact he.sep a c x B' N hi (hx i x B' hi' hB') hbx)
   simpa [World.cell?,hk] using hcc
 refine ⟨E,.ret v',h,⟨v',rfl,rfl,hK⟩,⟨.refl E,hemb',hev.size,hev.os,hev.tape,hev.output,fun b hb hno=>hkeep b hb (fun i x N hi hbx=> ?_),fun b ho=>.inl ho,fun _ _ h=>h⟩,.ret _ _ (hv E E₁ r hev.le hev.emb.fresh (hne E w he) hvr)⟩
 obtain ⟨B',hB'⟩:=hB i x hi
 exact hno ⟨x,B',N,hx i x B' hi hB',hbx⟩
theorem ZkE {a b:Nat} (h:a≠b):∀(i j x:Nat),([a,b]:List Nat)[i]? =some x->([a,b]:List Nat)[j]? =some x->i=j
 | 0,0,_,_,_=>rfl
 | 0,1,x,h1,h2=>by simp_all
 | 1,0,x,h1,h2=>by simp_all
 | 1,1,_,_,_=>rfl
 | i+2,_,x,h1,_=>by simp at h1
 | 0,j+2,x,_,h2=>by simp at h2
 | 1,j+2,x,_,h2=>by simp at h2
theorem Z6A {h:Z6} {w:World} {x:Nat} (he:Emb E h w) (hx:h.get x=some (.flat cs)) (hn:csz cs≠0):∃q,E.blk x=some q:=by
 cases he.own x _ hx with
 | flat0 cs h0 hn'=>omega
 | flat cs b cells elem fr vs hb hw hf hc hv=>simp_all
theorem Y8.psumm {P:Program} {f:FuncId} {h:Z6} {d:Nat}
  (hl:X1 none h true d args fun a₀=>∃v,Y8 P f a₀ v 0 []/\(∀d,shV d v=some v)/\K v):Zh P f args h fun o h'=>∃v,o=.ret v/\h'=h/\K v:=by
 obtain ⟨a₀,⟨v,hp,hs,hK⟩,ha⟩:=W3 (fun x hx=>by cases hx) _ _ _ _ hl
 refine hp.calls (v':=v) (fun E w rs he hr=>ha E w rs he hr) (hs _) trivial ?_
 exact ⟨v,rfl,rfl,hK⟩
theorem Y8.fsumm {P:Program} {f:FuncId} {h:Z6} {d:Nat} {K:KO}
  (hl:X1 none h true d args fun a₀=>∃v v' nx bs,Y8 P f a₀ v nx bs/\shV h.next v=some v'/\Z29 nx bs/\K (.ret v') ⟨h.next+nx,UC (Z6z h.next bs) h.bs⟩):Zh P f args h K:=by
 obtain ⟨a₀,⟨v,v',nx,bs,hp,hs,hb,hK⟩,ha⟩:=W3 (fun x hx=>by cases hx) _ _ _ _ hl
 exact hp.calls (fun E w rs he hr=>ha E w rs he hr) hs hb hK
theorem Y8.ev (hG:G.Ok) {n:Nat} {f:FuncId} {v:AV} {bs:List (Nat×Blk)} (h:evF G n f args ⟨0,[]⟩ (Wd 0 τ v nx bs)):Y8 G.P f args v nx bs:=.of (Z0Z hG h)
theorem Z3T.ev (hG:G.Ok) {n:Nat} {f:FuncId} {v:AV} (h:evF G n f args ⟨1,[(0,B)]⟩ (Wd 1 τ v 1 [(0,B')])):Z3T G.P f args B v B':=.of (Z0Z hG h)
theorem Z3U.ev (hG:G.Ok) {n:Nat} {f:FuncId} {v:AV} {bs:List (Nat×Blk)} (h:evF G n f args ⟨nx,bs⟩ (Wd nx τ v nx bs)):Z3U G.P f args nx bs v:=.of (Z0Z hG h)
noncomputable abbrev PP:Program:=Go.Proofs.Tryz.prog
noncomputable def G0:Zg:={ P:=PP,draw:=ZbM PP,psumm:=fun _=>none,fsumm:=fun _=>none,lsumm:=fun _ _=>none,fuel:=100}
theorem Zv:G0.Ok where
 draw:=fun _ _ _ _ _ _ hcx hro h _=>ZbR hcx hro h
 psumm:=fun _ _ _ _ _ h=>by simp [G0] at h
 fsumm:=fun _ _ _ _ _ h=>by simp [G0] at h
 lsumm:=fun _ _ _ _ _ _ h=>by simp [G0] at h
def Z84 (w n:Int):Int:=bOr .u32 (Zx .u32 w n) (Zo .u32 w (32-n))
def Wp (shift:Int) (places:LI) (w:Int):Int:=places.foldl (fun x n=>Yz .u32 x (Z84 w (32-n))) (Zo .u32 w shift)
theorem ZhZ (w:Int) :
  evF G0 20 184 [.int .u32 w,.pview [.int .i64 3] 0,.pview [.vints .i64 [7,18] 2] 0] ⟨0,[]⟩ (Wd 0 [] (.int .u32 (Wp 3 [7,18] w)) 0 []):=by
 refine @Eq.mpr _ (Z8 (decide (Yz u32 (Yz u32 (Zo u32 w 3) (bOr u32 (Zx u32 w 25) (Zo u32 w 7))) (bOr u32 (Zx u32 w 14) (Zo u32 w 18))=Wp 3 [(7:Int),18] w)) True False) (by kernel_rfl) ?_
 exact nd (by kernel_rfl) trivial
theorem Zi0 (w:Int) :
  evF G0 20 184 [.int .u32 w,.pview [.int .i64 10] 0,.pview [.vints .i64 [17,19] 2] 0] ⟨0,[]⟩ (Wd 0 [] (.int .u32 (Wp 10 [17,19] w)) 0 []):=by
 refine @Eq.mpr _ (Z8 (decide (Yz u32 (Yz u32 (Zo u32 w 10) (bOr u32 (Zx u32 w 15) (Zo u32 w 17))) (bOr u32 (Zx u32 w 13) (Zo u32 w 19))=Wp 10 [(17:Int),19] w)) True False) (by kernel_rfl) ?_
 exact nd (by kernel_rfl) trivial
theorem Zi1 (w:Int) :
  evF G0 20 184 [.int .u32 w,.pview [.int .i64 32] 0,.pview [.vints .i64 [2,13,22] 3] 0] ⟨0,[]⟩ (Wd 0 [] (.int .u32 (Wp 32 [2,13,22] w)) 0 []):=by
 refine @Eq.mpr _ (Z8 (decide (Yz u32 (Yz u32 (Yz u32 (Zo u32 w 32) (bOr u32 (Zx u32 w 30) (Zo u32 w 2))) (bOr u32 (Zx u32 w 19) (Zo u32 w 13))) (bOr u32 (Zx u32 w 10) (Zo u32 w 22))=Wp 32 [(2:Int),13,22] w)) True False) (by kernel_rfl) ?_
 exact nd (by kernel_rfl) trivial
theorem Zi2 (w:Int) :
  evF G0 20 184 [.int .u32 w,.pview [.int .i64 32] 0,.pview [.vints .i64 [6,11,25] 3] 0] ⟨0,[]⟩ (Wd 0 [] (.int .u32 (Wp 32 [6,11,25] w)) 0 []):=by
 refine @Eq.mpr _ (Z8 (decide (Yz u32 (Yz u32 (Yz u32 (Zo u32 w 32) (bOr u32 (Zx u32 w 26) (Zo u32 w 6))) (bOr u32 (Zx u32 w 21) (Zo u32 w 11))) (bOr u32 (Zx u32 w 7) (Zo u32 w 25))=Wp 32 [(6:Int),11,25] w)) True False) (by kernel_rfl) ?_
 exact nd (by kernel_rfl) trivial
def Zi3:YK:=fun args h K=>X1 none h true 20 args fun a=>match a with
 | [.int .u32 w,.pview [.int .i64 s] 0,.pview [.vints .i64 ps len] 0]=>
  match decide (s=3/\ps=[7,18]/\len=2) with
  | true=>K (.int .u32 (Wp 3 [7,18] w))
  | false=>match decide (s=10/\ps=[17,19]/\len=2) with
  | true=>K (.int .u32 (Wp 10 [17,19] w))
  | false=>match decide (s=32/\ps=[2,13,22]/\len=3) with
  | true=>K (.int .u32 (Wp 32 [2,13,22] w))
  | false=>match decide (s=32/\ps=[6,11,25]/\len=3) with
  | true=>K (.int .u32 (Wp 32 [6,11,25] w))
  | false=>False
 | _=>False
theorem Z85 {h:Z6} {t:Bool} {d:Nat} {l:List AV} {K K':List AV->Prop} (hm:∀x,mv=some x->∃B,h.get x=some B) (hl:X1 mv h t d l K) (hK:∀a,K a->K' a):
  ∃l₀,K' l₀/\∀(E:Env) (w:World) (r:List Value),Emb E h w->Zt E l r->Zt (E.bor mv w t) l₀ r:=
 let ⟨l₀,h1,h2⟩:=W3 hm _ _ _ _ hl;⟨l₀,hK _ h1,h2⟩
theorem Z0q {P:Program} {f:FuncId} {h:Z6} {d:Nat} {K0:List AV->Prop} (hl:X1 none h true d args K0) (hK:∀a,K0 a->∃v,Y8 P f a v 0 []/\(∀d,shV d v=some v)/\K v):
  Zh P f args h fun o h'=>∃v,o=.ret v/\h'=h/\K v:=by
 obtain ⟨a₀,⟨v,hp,hs,hKv⟩,ha⟩:=Z85 (fun x hx=>by cases hx) hl hK
 refine hp.calls (v':=v) (fun E w rs he hr=>ha E w rs he hr) (hs _) trivial ?_
 exact ⟨v,rfl,rfl,hKv⟩
theorem Zeh (args:List AV) (h:Z6) (K:AV->Prop) (hl:Zi3 args h K):Zh PP 184 args h fun o h'=>∃v,o=.ret v/\h'=h/\K v:=by
 refine Z0q hl fun a ha=> ?_
 split at ha
 ·rename_i w s ps len
  split at ha
  ·rename_i hd
   obtain ⟨rfl,rfl,rfl⟩:=of_decide_eq_true hd
   exact ⟨_,.ev Zv (ZhZ w),fun _=>rfl,ha⟩
  ·split at ha
   ·rename_i hd
    obtain ⟨rfl,rfl,rfl⟩:=of_decide_eq_true hd
    exact ⟨_,.ev Zv (Zi0 w),fun _=>rfl,ha⟩
   ·split at ha
    ·rename_i hd
     obtain ⟨rfl,rfl,rfl⟩:=of_decide_eq_true hd
     exact ⟨_,.ev Zv (Zi1 w),fun _=>rfl,ha⟩
    ·split at ha
     ·rename_i hd
      obtain ⟨rfl,rfl,rfl⟩:=of_decide_eq_true hd
      exact ⟨_,.ev Zv (Zi2 w),fun _=>rfl,ha⟩
     simp_all
 simp_all
theorem w64 {x:Int} (h: -9223372036854775808<=x/\x<9223372036854775808):i64.wrap x=x:=by
 grind [wrap,IntKind.bits,IntKind.signed]
theorem tm {a n:Int} (h:0<=a):a.tmod n=a%n:=Int.tmod_eq_emod_of_nonneg h
def atI (i t:Int):Nat:=0+(Int.tmod (i64.wrap (i64.wrap (i+64)-t)) 8).toNat
theorem ZkF (i t:Int) (x:LI) (hi:0<=i/\i<8/\0<=t/\t<64):
  evF G0 20 161 [.int .i64 i,.ptr (some ⟨0,0,0,0,0⟩),.ptr (some ⟨1,0,0,0,0⟩)] ⟨2,[(0,.flat [.arr .u32 8 x]),(1,.flat [.int .i64 t])]⟩ (Wd 2 [] (.ptr (some ⟨0,0,0,0,atI i t⟩)) 2 [(0,.flat [.arr .u32 8 x]),(1,.flat [.int .i64 t])]):=by
 refine @Eq.mpr _ (let a:=Int.tmod (wrap i64 (wrap i64 (i+64)-t)) 8;
 Z8 (decide (0<=a/\a<8)) (Z8 (decide (0+Int.toNat a=atI i t)) (x=x/\Z8 (decide (t=t)) True False) False) False) (by kernel_rfl) ?_
 conv=>zeta
 have e1:i64.wrap (i+64)=i+64:=w64 (by omega)
 have e2:i64.wrap (i+64-t)=i+64-t:=w64 (by omega)
 refine nd ?_ (nd rfl ⟨rfl,nd rfl trivial⟩)
 rw [e1,e2,tm (by omega)]
 omega
def atS:YK:=fun args h K=>match args with
 | [.int .i64 i,.ptr (some ⟨b,0,0,0,0⟩),.ptr (some ⟨c,0,0,0,0⟩)]=>match h.get b,h.get c,Nat.beq b c with
  | some (.flat [.arr .u32 8 _]),some (.flat [.int .i64 t]),false=>Z4 (0<=i/\i<8/\0<=t/\t<64) (K (.ptr (some ⟨b,0,0,0,atI i t⟩)))
  | _,_,_=>False
 | _=>False
theorem ZgJ (args:List AV) (h:Z6) (K:AV->Prop) (hl:atS args h K):Zh PP 161 args h fun o h'=>∃v,o=.ret v/\h'=h/\K v:=by
 unfold atS at hl
 split at hl
 ·rename_i i b c
  split at hl
  ·rename_i x t hb hc hne
   obtain ⟨hi,hK⟩:=Zd hl
   have hne':b≠c:=fun e=>by simp_all
   refine Z3U.calls (σ:=[b,c]) (Bs:=[.flat [.arr .u32 8 x],.flat [.int .i64 t]]) (Z3U.ev Zv (ZkF i t x hi)) rfl (ZkE hne') ?_ ?_ ?_ ?_ ?_ hK
   ·intro j y B hj hB
    match j with
    | 0=>simp_all
    | 1=>simp_all
    | j+2=>simp at hj
   ·intro B hB
    simp at hB
    rcases hB with rfl|rfl
    ·exact .flat _ rfl
    ·exact .flat _ rfl
   ·intro E w rs he hr
    cases hr with
    | cons v r1 vs rs1 h1 hr=>cases hr with
     | cons v r2 vs rs2 h2 hr=>cases hr with
      | cons v r3 vs rs3 h3 hr=>
       cases hr
       cases h1
       cases h2 with
       | ptr p b' N hb'=>cases h3 with
        | ptr p' c' N' hc'=>exact .cons _ _ _ _ (.int _ _) (.cons _ _ _ _ (.ptr ⟨0,0,0,0,0⟩ b' N hb') (.cons _ _ _ _ (.ptr ⟨1,0,0,0,0⟩ c' N' hc') .nil))
   ·intro E E₁ r hle hfr hq hv
    obtain ⟨q,hq⟩:=hq b (by simp)
    have h0:E₁.blk 0=some q:=hle.blk 0 q hq
    cases hv with
    | ptr p b' N hb'=>
     rw [h0] at hb'
     cases hb'
     exact .ptr ⟨b,0,0,0,atI i t⟩ b' N hq
   grind [Z6A,csz]
  simp_all
 simp_all
noncomputable def G1:Zg:=(G0.withP 184 Zi3).withP 161 atS
theorem ZfY:G1.Ok:=Zg.withP_ok (Zg.withP_ok Zv Zeh) ZgJ
noncomputable def Z0r:Code:=rfA PP 136 0
noncomputable def Z0s:Code:=rfB PP 136 0
def Ve:LI:=[1116352408,1899447441,3049323471,3921009573,961987163,1508970993,2453635748,2870763221,3624381080,310598401,607225278,1426881987,1925078388,2162078206,2614888103,3248222580,3835390401,4022224774,264347078,604807628,770255983,1249150122,1555081692,1996064986,2554220882,2821834349,2952996808,3210313671,3336571891,3584528711,113926993,338241895,666307205,773529912,1294757372,1396182291,1695183700,1986661051,2177026350,2456956037,2730485921,2820302411,3259730800,3345764771,3516065817,3600352804,4094571909,275423344,430227734,506948616,659060556,883997877,958139571,1322822218,1537002063,1747873779,1955562222,2024104815,2227730452,2361852424,2428436474,2756734187,3204031479,3329325298]
def pt (n:Nat):AV:=.ptr (some ⟨n,0,0,0,0⟩)
def Z1T (st part:LI) (came:Int):Blk:=.flat [.arr .u32 8 st,.arr .u8 64 part,.int .i64 came,.bool true]
noncomputable def Zao (st part:LI) (came:Int) (m x:LI) (t:Int):St:=⟨59,[(0,.yield 23),(1,pt 13),(2,pt 20),(3,pt 21),(7,.int .i64 t)],⟨24,[
 (23,.loop ⟨.ready,none,136,137,[(0,pt 0),(6,pt 3),(7,pt 10),(8,pt 11),(9,pt 12)],[46,47],Z0r,Z0s,22⟩),(22,.defd),
 (21,.flat [.func (.func 184) [] [pt 18,pt 19]]),(20,.flat [.func (.func 184) [] [pt 15,pt 16]]),(19,.flat [.nslice ⟨17,0,0,0,0⟩ 1 2 2]),(18,.flat [.int .i64 10]),(17,.ints .i64 [17,19]),
 (16,.flat [.nslice ⟨14,0,0,0,0⟩ 1 2 2]),(15,.flat [.int .i64 3]),(14,.ints .i64 [7,18]),(13,.flat [pt 1]),(12,.flat [.arr .u32 8 x]),
 (11,.flat [.func (.func 184) [] [pt 8,pt 9]]),(10,.flat [.func (.func 184) [] [pt 5,pt 6]]),(9,.flat [.nslice ⟨7,0,0,0,0⟩ 1 3 3]),(8,.flat [.int .i64 32]),(7,.ints .i64 [6,11,25]),
 (6,.flat [.nslice ⟨4,0,0,0,0⟩ 1 3 3]),(5,.flat [.int .i64 32]),(4,.ints .i64 [2,13,22]),(3,.flat [.arr .u32 64 Ve]),(1,.flat [.arr .u32 16 m]),(0,Z1T st part came)]⟩,[]⟩
def mAt (t:Int):Nat:=0+(Int.tmod t 16).toNat
def QP (t:Int) (m:LI):LI:=if t>=16 then m.set (mAt t) (u32.wrap (m.getD (mAt t) 0+u32.wrap (u32.wrap (Wp 3 [7,18] (m.getD (mAt (i64.wrap (t+1))) 0)+m.getD (mAt (i64.wrap (t+9))) 0)+Wp 10 [17,19] (m.getD (mAt (i64.wrap (t+14))) 0)))) else m
def Z5E (t:Int) (m x:LI):Int:=u32.wrap (u32.wrap (u32.wrap (u32.wrap (x.getD (atI 7 t) 0+Wp 32 [6,11,25] (x.getD (atI 4 t) 0))+Yz .u32 (x.getD (atI 6 t) 0) (Z1O .u32 (x.getD (atI 4 t) 0) (Yz .u32 (x.getD (atI 5 t) 0) (x.getD (atI 6 t) 0))))+Ve.getD (0+t.toNat) 0)+m.getD (mAt t) 0)
def Z6B (t:Int) (m x:LI):LI:=(x.set (atI 3 t) (u32.wrap (x.getD (atI 3 t) 0+Z5E t m x))).set (atI 7 t) (u32.wrap (u32.wrap (Z5E t m x+Wp 32 [2,13,22] (x.getD (atI 0 t) 0))+bOr .u32 (Z1O .u32 (x.getD (atI 0 t) 0) (bOr .u32 (x.getD (atI 1 t) 0) (x.getD (atI 2 t) 0))) (Z1O .u32 (x.getD (atI 1 t) 0) (x.getD (atI 2 t) 0))))
theorem Z6C (t:Int) (m:LI):(QP t m).length=m.length:=by unfold QP;split<;>simp
theorem Z6D (t:Int) (m x:LI):(Z6B t m x).length=x.length:=by unfold Z6B;simp
theorem Z5F {t:Int} (h:0<=t/\t<100):0<=Int.tmod t 16/\Int.tmod t 16<16:=by rw [tm (by omega)];omega
theorem ZgK {i t:Int} (h:0<=i/\i<8/\0<=t/\t<64):atI i t<8:=by
 grind [atI]
theorem Zc1 (st part:LI) (came:Int) (m x:LI) (t:Int) (Z Z2:Prop) (ht:0<=t) (hm:m.length=16) (hx:x.length=8) (hZ:64<=t->Z) (hZ2:t<64->Z2):
  ZA G1 20 185 0 24 (Zao st part came m x t) (fun e s=>match e with|.normal=>Uy 24 [] (Zao st part came (QP t m) (Z6B t (QP t m) x) (t+1)) s Z2|.exit 0=>Uy 24 [] (Zao st part came m x t) s Z|_=>False):=by
 refine @Eq.mpr _ (let u:=Int.tmod t 16;let e:=decide (0<=u/\u<16);let b:=0+Int.toNat u;let N:=wrap i64 (t+1);let l:=Int.tmod N 16;let B:=0+Int.toNat l;let g:=Int.tmod (wrap i64 (t+9)) 16;let v:=0+Int.toNat g;let f:=Int.tmod (wrap i64 (t+14)) 16;let b4:=0+Int.toNat f;let b3:=decide (b<16);let b2:=decide ((0:Int)<=0/\(0:Int)<8/\0<=t/\t<64);let b1:=decide (atI 0 t<8);let b0:=decide ((0:Int)<=1/\(1:Int)<8/\0<=t/\t<64);let a9:=decide (atI 1 t<8);let a8:=decide ((0:Int)<=2/\(2:Int)<8/\0<=t/\t<64);let a7:=decide (atI 2 t<8);let a6:=decide ((0:Int)<=4/\(4:Int)<8/\0<=t/\t<64);let a5:=decide (atI 4 t<8);let a4:=decide ((0:Int)<=5/\(5:Int)<8/\0<=t/\t<64);let a3:=decide (atI 5 t<8);let a2:=decide ((0:Int)<=6/\(6:Int)<8/\0<=t/\t<64);let a1:=decide (atI 6 t<8);let a0:=decide (0<=t/\t<64);let Y:=0+Int.toNat t;let X:=decide (Y<64);let d:=decide ((0:Int)<=7/\(7:Int)<8/\0<=t/\t<64);let a:=atI 7 t;let W:=decide (a<8);let V:=decide ((0:Int)<=3/\(3:Int)<8/\0<=t/\t<64);let c:=atI 3 t;let U:=decide (c<8);let T:=decide (u32=u32/\c<8/\c<x.length);let S:=List.getD x c 0;let s:=[(6:Int),11,25];let R:=List.getD x (atI 4 t) 0;let Q:=List.getD x (atI 6 t) 0;let P:=wrap u32 (wrap u32 (wrap u32 (List.getD x a 0+Wp 32 s R)+Yz u32 Q (Z1O u32 R (Yz u32 (List.getD x (atI 5 t) 0) Q)))+List.getD Ve Y 0);let O:=List.getD m b 0;let r:=[(7:Int),18];let q:=[(17:Int),19];let M:=List.set m b (wrap u32 (O+wrap u32 (wrap u32 (Wp 3 r (List.getD m B 0)+List.getD m v 0)+Wp 10 q (List.getD m b4 0))));let L:=wrap u32 (P+List.getD M b 0);let K:=List.set x c (wrap u32 (S+L));let J:=decide (N=t+1);let I:=[(46:Nat),47];let p:=LoopState.ready=LoopState.ready/\(none:Option Code)=none/\(136:FuncId)=136/\(137:Nat)=137/\I=I/\Z0r=Z0r/\Z0s=Z0s;let o:=q=q;let n:=r=r;let k:=[(2:Int),13,22];let H:=List.getD x (atI 0 t) 0;let G:=Wp 32 k H;let F:=List.getD x (atI 1 t) 0;let E:=List.getD x (atI 2 t) 0;let D:=bOr u32 (Z1O u32 H (bOr u32 F E)) (Z1O u32 F E);let j:=QP t m;let C:=Z6B t j x;let i:=s=s;let h:=k=k;let A:=decide (came=came);let z:=st=st/\part=part/\Z8 A Z2 False;let y:=wrap u32 (P+O);let w:=List.set x c (wrap u32 (S+y));
 Z8 (decide (t<64))
 (Z8 (decide (t>=16))
 (Z8 e (Z8 (decide (b<16)) (Z8 (decide (0<=l/\l<16)) (Z8 (decide (B<16)) (Z8 (decide (0<=g/\g<16)) (Z8 (decide (v<16)) (Z8 (decide (0<=f/\f<16)) (Z8 (decide (b4<16)) (Z8 e (Z8 (decide (u32=u32/\b<16/\b<m.length)) (Z8 e (Z8 b3 (Z8 b2 (Z8 b1 (Z8 b0 (Z8 a9 (Z8 a8 (Z8 a7 (Z8 a6 (Z8 a5 (Z8 a4 (Z8 a3 (Z8 a2 (Z8 a1 (Z8 a0 (Z8 X (Z8 d (Z8 W (Z8 V (Z8 U (Z8 T (Z8 d (Z8 (decide (u32=u32/\a<8/\a<K.length)) (Z8 J (p/\o/\n/\List.set K a (wrap u32 (wrap u32 (L+G)+D))=C/\i/\h/\Ve=Ve/\M=j/\z) False) False) False) False) False) False) False) False) False) False) False) False) False) False) False) False) False) False) False) False) False) False) False) False) False) False) False) False) False) False) False) False) False) False)
 (Z8 e (Z8 b3 (Z8 b2 (Z8 b1 (Z8 b0 (Z8 a9 (Z8 a8 (Z8 a7 (Z8 a6 (Z8 a5 (Z8 a4 (Z8 a3 (Z8 a2 (Z8 a1 (Z8 a0 (Z8 X (Z8 d (Z8 W (Z8 V (Z8 U (Z8 T (Z8 d (Z8 (decide (u32=u32/\a<8/\a<w.length)) (Z8 J (p/\o/\n/\List.set w a (wrap u32 (wrap u32 (y+G)+D))=C/\i/\h/\Ve=Ve/\m=j/\z) False) False) False) False) False) False) False) False) False) False) False) False) False) False) False) False) False) False) False) False) False) False) False) False))
 (Z8 (decide (t=t)) (p/\o/\n/\x=x/\i/\h/\Ve=Ve/\m=m/\st=st/\part=part/\Z8 A Z False) False)) (by kernel_rfl) ?_
 conv=>zeta
 refine ifD (fun h64=> ?_) (fun h64=> ?_)
 ·have e1:i64.wrap (t+1)=t+1:=w64 (by omega)
  have b0:=Z5F (t:=t) (by omega)
  have b1:=Z5F (t:=i64.wrap (t+1)) (by omega)
  have b9:=Z5F (t:=i64.wrap (t+9)) (by rw [w64 (by omega)];omega)
  have b14:=Z5F (t:=i64.wrap (t+14)) (by rw [w64 (by omega)];omega)
  have a:∀i:Int,0<=i/\i<8->atI i t<8:=fun i hi=>ZgK (by omega)
  refine ifD (fun h16=> ?_) (fun h16=> ?_)
  all_goals
   repeat (refine nd ?_ ?_;· first|omega|exact a _ (by omega)|exact ⟨rfl,by first|omega|exact a _ (by omega),by first|simp_all⟩)
  ·refine ⟨⟨rfl,rfl,rfl,rfl,rfl,rfl,rfl⟩,rfl,rfl, ?_,rfl,rfl,rfl, ?_,rfl,rfl,nd rfl (hZ2 h64)⟩
   ·simp only [QP,if_pos h16];rfl
   ·simp only [QP,if_pos h16];rfl
  ·refine ⟨⟨rfl,rfl,rfl,rfl,rfl,rfl,rfl⟩,rfl,rfl, ?_,rfl,rfl,rfl, ?_,rfl,rfl,nd rfl (hZ2 h64)⟩
   ·simp only [QP,if_neg h16];rfl
   ·simp only [QP,if_neg h16]
 grind [nd]
def Vt (m x:LI):Nat->LI×LI
 | 0=>(m,x)
 | t+1=>let p:=Vt m x t;(QP t p.1,Z6B t (QP t p.1) p.2)
theorem Z0t (m x:LI) (hm:m.length=16) (hx:x.length=8):∀t,(Vt m x t).1.length=16/\(Vt m x t).2.length=8
 | 0=>⟨hm,hx⟩
 | t+1=>by
  have:=Z0t m x hm hx t
  simp_all [Vt,Z6C,Z6D]
theorem Z4s (m x:LI):Vt m x 0=(m,x):=rfl
theorem Z4t (m x:LI) (t:Nat):Vt m x (t+1)=(QP t (Vt m x t).1,Z6B t (QP t (Vt m x t).1) (Vt m x t).2):=rfl
attribute [irreducible] Vt
def Zi4 (st part:LI) (came:Int) (m m' x':LI) (C:Prop):Nat->St->KE->Prop:=fun k s X=>match Nat.beq k 24 with
 | true=>Uy 24 [] (Zao st part came m st 0) s (C/\X (.exit 0) (Zao st part came m' x' 64))
 | false=>False
noncomputable def G2 (st part:LI) (came:Int) (m m' x':LI) (C:Prop):Zg:=G1.withL 185 0 (Zi4 st part came m m' x' C)
theorem Zi5 (st part:LI) (came:Int) (m m' x':LI) (C:Prop) (hC:C->m.length=16/\st.length=8/\m'=(Vt m st 64).1/\x'=(Vt m st 64).2):(G2 st part came m m' x' C).Ok:=by
 refine Zg.withL_ok ZfY (by kernel_rfl) ?_
 intro k s X hl
 unfold Zi4 at hl
 split at hl
 ·rename_i hk
  have:=J0 hk
  subst this
  obtain ⟨⟨hc,hX⟩,hw⟩:=Xr hl
  obtain ⟨hm,hx,rfl,rfl⟩:=hC hc
  refine ⟨{ t:Nat//t<=64},fun t=>64-t.1,fun t=>Zao st part came (Vt m st t.1).1 (Vt m st t.1).2 t.1,⟨0,by omega⟩,20,by grind [Z4s], ?_⟩
  rintro ⟨t,ht⟩
  obtain ⟨l1,l2⟩:=Z0t m st hm hx t
  refine ⟨_,Zc1 st part came (Vt m st t).1 (Vt m st t).2 t (t=64) (t<64) (by omega) l1 l2 (by omega) (by omega), ?_⟩
  intro e s' hY
  split at hY
  ·obtain ⟨h64,hw'⟩:=Xr hY
   refine ⟨⟨t+1,by omega⟩,by grind, ?_⟩
   grind [Z4t]
  ·obtain ⟨h64,hw'⟩:=Xr hY
   subst h64
   exact ⟨_,hw',hX⟩
  simp_all
 simp_all
def XB (b:LI) (i:Nat):Int:=bOr .u32 (Zx .u32 (bOr .u32 (Zx .u32 (bOr .u32 (Zx .u32 (bOr .u32 0 (u32.wrap (b.getD i 0))) 8) (u32.wrap (b.getD (i+1) 0))) 8) (u32.wrap (b.getD (i+2) 0))) 8) (u32.wrap (b.getD (i+3) 0))
def Vf (b:LI):LI:=[XB b 0,XB b 4,XB b 8,XB b 12,XB b 16,XB b 20,XB b 24,XB b 28,XB b 32,XB b 36,XB b 40,XB b 44,XB b 48,XB b 52,XB b 56,XB b 60]
def Zap (st x:LI):LI:=List.zipWith (fun a b=>u32.wrap (a+b)) st x
def W4 (st part:LI):LI:=Zap st (Vt (Vf part) st 64).2
theorem Z86 (a0 a1 a2 a3 a4 a5 a6 a7 b0 b1 b2 b3 b4 b5 b6 b7:Int) (part:LI) (came:Int) (m m' st':LI) (C:Prop) (hm:m=Vf part) (hst:st'=Zap [a0,a1,a2,a3,a4,a5,a6,a7] [b0,b1,b2,b3,b4,b5,b6,b7]) (hC:C):
  evF (G2 [a0,a1,a2,a3,a4,a5,a6,a7] part came m m' [b0,b1,b2,b3,b4,b5,b6,b7] C) 20 136 [.ptr (some ⟨0,0,0,0,0⟩),.nslice ⟨0,0,0,8,0⟩ 1 64 64] ⟨1,[(0,Z1T [a0,a1,a2,a3,a4,a5,a6,a7] part came)]⟩ (Wd 1 [] (.tuple []) 1 [(0,Z1T st' part came)]):=by
 refine @Eq.mpr _ ((LoopState.ready=LoopState.ready/\(none:Option Code)=none/\(136:FuncId)=(136:FuncId)/\(137:Nat)=(137:Nat)/\[(46:Nat),(47:Nat)]=[(46:Nat),(47:Nat)]/\Z0r=Z0r/\Z0s=Z0s)/\
 [(17:Int),(19:Int)]=[(17:Int),(19:Int)]/\
 [(7:Int),(18:Int)]=[(7:Int),(18:Int)]/\
 [a0,a1,a2,a3,a4,a5,a6,a7]=[a0,a1,a2,a3,a4,a5,a6,a7]/\
 [(6:Int),(11:Int),(25:Int)]=[(6:Int),(11:Int),(25:Int)]/\
 [(2:Int),(13:Int),(22:Int)]=[(2:Int),(13:Int),(22:Int)]/\
 [(1116352408:Int),(1899447441:Int),(3049323471:Int),(3921009573:Int),(961987163:Int),(1508970993:Int),(2453635748:Int),(2870763221:Int),(3624381080:Int),(310598401:Int),(607225278:Int),(1426881987:Int),(1925078388:Int),(2162078206:Int),(2614888103:Int),(3248222580:Int),(3835390401:Int),(4022224774:Int),(264347078:Int),(604807628:Int),(770255983:Int),(1249150122:Int),(1555081692:Int),(1996064986:Int),(2554220882:Int),(2821834349:Int),(2952996808:Int),(3210313671:Int),(3336571891:Int),(3584528711:Int),(113926993:Int),(338241895:Int),(666307205:Int),(773529912:Int),(1294757372:Int),(1396182291:Int),(1695183700:Int),(1986661051:Int),(2177026350:Int),(2456956037:Int),(2730485921:Int),(2820302411:Int),(3259730800:Int),(3345764771:Int),(3516065817:Int),(3600352804:Int),(4094571909:Int),(275423344:Int),(430227734:Int),(506948616:Int),
 (659060556:Int),(883997877:Int),(958139571:Int),(1322822218:Int),(1537002063:Int),(1747873779:Int),(1955562222:Int),(2024104815:Int),(2227730452:Int),(2361852424:Int),(2428436474:Int),(2756734187:Int),(3204031479:Int),(3329325298:Int)]=
 Ve/\
 [bOr u32 (Zx u32 (bOr u32 (Zx u32 (bOr u32 (Zx u32 (bOr u32 (0:Int) (wrap u32 (List.getD part (0:Nat) (0:Int)))) (8:Int)) (wrap u32 (List.getD part (1:Nat) (0:Int)))) (8:Int)) (wrap u32 (List.getD part (2:Nat) (0:Int)))) (8:Int)) (wrap u32 (List.getD part (3:Nat) (0:Int))),bOr u32 (Zx u32 (bOr u32 (Zx u32 (bOr u32 (Zx u32 (bOr u32 (0:Int) (wrap u32 (List.getD part (4:Nat) (0:Int)))) (8:Int)) (wrap u32 (List.getD part (5:Nat) (0:Int)))) (8:Int)) (wrap u32 (List.getD part (6:Nat) (0:Int)))) (8:Int)) (wrap u32 (List.getD part (7:Nat) (0:Int))),
 bOr u32 (Zx u32 (bOr u32 (Zx u32 (bOr u32 (Zx u32 (bOr u32 (0:Int) (wrap u32 (List.getD part (8:Nat) (0:Int)))) (8:Int)) (wrap u32 (List.getD part (9:Nat) (0:Int)))) (8:Int)) (wrap u32 (List.getD part (10:Nat) (0:Int)))) (8:Int)) (wrap u32 (List.getD part (11:Nat) (0:Int))),bOr u32 (Zx u32 (bOr u32 (Zx u32 (bOr u32 (Zx u32 (bOr u32 (0:Int) (wrap u32 (List.getD part (12:Nat) (0:Int)))) (8:Int)) (wrap u32 (List.getD part (13:Nat) (0:Int)))) (8:Int)) (wrap u32 (List.getD part (14:Nat) (0:Int)))) (8:Int)) (wrap u32 (List.getD part (15:Nat) (0:Int))),
 bOr u32 (Zx u32 (bOr u32 (Zx u32 (bOr u32 (Zx u32 (bOr u32 (0:Int) (wrap u32 (List.getD part (16:Nat) (0:Int)))) (8:Int)) (wrap u32 (List.getD part (17:Nat) (0:Int)))) (8:Int)) (wrap u32 (List.getD part (18:Nat) (0:Int)))) (8:Int)) (wrap u32 (List.getD part (19:Nat) (0:Int))),bOr u32 (Zx u32 (bOr u32 (Zx u32 (bOr u32 (Zx u32 (bOr u32 (0:Int) (wrap u32 (List.getD part (20:Nat) (0:Int)))) (8:Int)) (wrap u32 (List.getD part (21:Nat) (0:Int)))) (8:Int)) (wrap u32 (List.getD part (22:Nat) (0:Int)))) (8:Int)) (wrap u32 (List.getD part (23:Nat) (0:Int))),
 bOr u32 (Zx u32 (bOr u32 (Zx u32 (bOr u32 (Zx u32 (bOr u32 (0:Int) (wrap u32 (List.getD part (24:Nat) (0:Int)))) (8:Int)) (wrap u32 (List.getD part (25:Nat) (0:Int)))) (8:Int)) (wrap u32 (List.getD part (26:Nat) (0:Int)))) (8:Int)) (wrap u32 (List.getD part (27:Nat) (0:Int))),bOr u32 (Zx u32 (bOr u32 (Zx u32 (bOr u32 (Zx u32 (bOr u32 (0:Int) (wrap u32 (List.getD part (28:Nat) (0:Int)))) (8:Int)) (wrap u32 (List.getD part (29:Nat) (0:Int)))) (8:Int)) (wrap u32 (List.getD part (30:Nat) (0:Int)))) (8:Int)) (wrap u32 (List.getD part (31:Nat) (0:Int))),
 bOr u32 (Zx u32 (bOr u32 (Zx u32 (bOr u32 (Zx u32 (bOr u32 (0:Int) (wrap u32 (List.getD part (32:Nat) (0:Int)))) (8:Int)) (wrap u32 (List.getD part (33:Nat) (0:Int)))) (8:Int)) (wrap u32 (List.getD part (34:Nat) (0:Int)))) (8:Int)) (wrap u32 (List.getD part (35:Nat) (0:Int))),bOr u32 (Zx u32 (bOr u32 (Zx u32 (bOr u32 (Zx u32 (bOr u32 (0:Int) (wrap u32 (List.getD part (36:Nat) (0:Int)))) (8:Int)) (wrap u32 (List.getD part (37:Nat) (0:Int)))) (8:Int)) (wrap u32 (List.getD part (38:Nat) (0:Int)))) (8:Int)) (wrap u32 (List.getD part (39:Nat) (0:Int))),
 bOr u32 (Zx u32 (bOr u32 (Zx u32 (bOr u32 (Zx u32 (bOr u32 (0:Int) (wrap u32 (List.getD part (40:Nat) (0:Int)))) (8:Int)) (wrap u32 (List.getD part (41:Nat) (0:Int)))) (8:Int)) (wrap u32 (List.getD part (42:Nat) (0:Int)))) (8:Int)) (wrap u32 (List.getD part (43:Nat) (0:Int))),bOr u32 (Zx u32 (bOr u32 (Zx u32 (bOr u32 (Zx u32 (bOr u32 (0:Int) (wrap u32 (List.getD part (44:Nat) (0:Int)))) (8:Int)) (wrap u32 (List.getD part (45:Nat) (0:Int)))) (8:Int)) (wrap u32 (List.getD part (46:Nat) (0:Int)))) (8:Int)) (wrap u32 (List.getD part (47:Nat) (0:Int))),
 bOr u32 (Zx u32 (bOr u32 (Zx u32 (bOr u32 (Zx u32 (bOr u32 (0:Int) (wrap u32 (List.getD part (48:Nat) (0:Int)))) (8:Int)) (wrap u32 (List.getD part (49:Nat) (0:Int)))) (8:Int)) (wrap u32 (List.getD part (50:Nat) (0:Int)))) (8:Int)) (wrap u32 (List.getD part (51:Nat) (0:Int))),bOr u32 (Zx u32 (bOr u32 (Zx u32 (bOr u32 (Zx u32 (bOr u32 (0:Int) (wrap u32 (List.getD part (52:Nat) (0:Int)))) (8:Int)) (wrap u32 (List.getD part (53:Nat) (0:Int)))) (8:Int)) (wrap u32 (List.getD part (54:Nat) (0:Int)))) (8:Int)) (wrap u32 (List.getD part (55:Nat) (0:Int))),
 bOr u32 (Zx u32 (bOr u32 (Zx u32 (bOr u32 (Zx u32 (bOr u32 (0:Int) (wrap u32 (List.getD part (56:Nat) (0:Int)))) (8:Int)) (wrap u32 (List.getD part (57:Nat) (0:Int)))) (8:Int)) (wrap u32 (List.getD part (58:Nat) (0:Int)))) (8:Int)) (wrap u32 (List.getD part (59:Nat) (0:Int))),bOr u32 (Zx u32 (bOr u32 (Zx u32 (bOr u32 (Zx u32 (bOr u32 (0:Int) (wrap u32 (List.getD part (60:Nat) (0:Int)))) (8:Int)) (wrap u32 (List.getD part (61:Nat) (0:Int)))) (8:Int)) (wrap u32 (List.getD part (62:Nat) (0:Int)))) (8:Int)) (wrap u32 (List.getD part (63:Nat) (0:Int)))]=
 m/\
 [a0,a1,a2,a3,a4,a5,a6,a7]=[a0,a1,a2,a3,a4,a5,a6,a7]/\part=part/\Z8 (decide (came=came)) (C/\[wrap u32 (a0+b0),wrap u32 (a1+b1),wrap u32 (a2+b2),wrap u32 (a3+b3),wrap u32 (a4+b4),wrap u32 (a5+b5),wrap u32 (a6+b6),wrap u32 (a7+b7)]=st'/\part=part/\Z8 (decide (came=came)) True False) False) (by kernel_rfl) ?_
 refine ⟨⟨rfl,rfl,rfl,rfl,rfl,rfl,rfl⟩,rfl,rfl,rfl,rfl,rfl,rfl, ?_,rfl,rfl,nd rfl ⟨hC, ?_⟩⟩
 ·rw [hm];rfl
 ·exact ⟨by rw [hst];rfl,rfl,nd rfl trivial⟩
theorem eight (l:LI) (h:l.length=8):∃a b c d e f g i,l=[a,b,c,d,e,f,g,i]:=by
 match l,h with
 | [a,b,c,d,e,f,g,i],_=>simp_all
theorem QQ (b:LI):(Vf b).length=16:=rfl
theorem Zaq (st part:LI) (came:Int) (hs:st.length=8):
  Z3T PP 136 [.ptr (some ⟨0,0,0,0,0⟩),.nslice ⟨0,0,0,8,0⟩ 1 64 64] (Z1T st part came) (.tuple []) (Z1T (W4 st part) part came):=by
 have hl:=Z0t (Vf part) st (QQ part) hs 64
 generalize hq:Vt (Vf part) st 64=q at hl
 obtain ⟨a0,a1,a2,a3,a4,a5,a6,a7,rfl⟩:=eight st hs
 obtain ⟨b0,b1,b2,b3,b4,b5,b6,b7,hb⟩:=eight q.2 hl.2
 have hG:=Zi5 [a0,a1,a2,a3,a4,a5,a6,a7] part came (Vf part) q.1 q.2 True (fun _=>⟨QQ part,hs,by rw [hq],by rw [hq]⟩)
 rw [hb] at hG
 refine Z3T.ev hG (Z86 a0 a1 a2 a3 a4 a5 a6 a7 b0 b1 b2 b3 b4 b5 b6 b7 part came (Vf part) q.1 _ True rfl ?_ trivial)
 unfold W4
 rw [hq,hb]
def Z87:ZJ:=fun args h K=>match args with
 | [.ptr (some ⟨x,0,0,0,0⟩),.nslice ⟨y,0,0,8,0⟩ 1 64 lo]=>match Nat.beq y x,h.get x with
  | true,some (.flat [.arr .u32 8 st,.arr .u8 64 part,.int .i64 came,.bool true])=>Z4 (st.length=8/\64<=lo) (K (.ret (.tuple [])) (h.set x (Z1T (W4 st part) part came)))
  | _,_=>False
 | _=>False
theorem Zar (args:List AV) (h:Z6) (K:KO) (hl:Z87 args h K):Zh PP 136 args h K:=by
 unfold Z87 at hl
 split at hl
 ·split at hl
  ·rename_i st part came hy hx
   have:=J0 hy
   subst this
   obtain ⟨⟨hs,hlo⟩,hK⟩:=Zd hl
   refine (Zaq st part came hs).calls hx rfl (by simp [csz]) (.flat _ rfl) Zc.nothing ?_ hK
   intro E w rs he hr
   cases hr with
   | cons v r1 vs rs1 h1 hr=>cases hr with
    | cons v r2 vs rs2 h2 hr=>
     cases hr
     cases h1 with
     | ptr p b N hb=>cases h2 with
      | nslice0 p' esz len lo' a h1 h2'=>cases h1
      | nslice p' esz len lo' b' N' cap hb' h1 h2' h3=>exact .cons _ _ _ _ (.ptr ⟨0,0,0,0,0⟩ b N hb) (.cons _ _ _ _ (.nslice ⟨0,0,0,8,0⟩ 1 64 64 b' N' cap hb' h1 (by omega) h3) .nil)
  simp_all
 simp_all
noncomputable def G3:Zg:=G1.withF 136 Z87
theorem ZfZ:G3.Ok:=Zg.withF_ok ZfY Zar
def wAt (came:Int):Nat:=(Int.tmod came 64).toNat
def wTk (came:Int) (bs:LI):LI:=bs.take (64-wAt came)
def UE (part:LI) (came:Int) (bs:LI):LI:=spl part (wAt came) (wTk came bs)
def wSt (st part:LI) (came:Int) (bs:LI):LI:=if wAt came+(wTk came bs).length=64 then W4 st (UE part came bs) else st
def wrS (st part:LI) (came:Int) (bs:LI) (len:Nat):St:=⟨47,[(0,pt 0),(1,.vints .u8 bs len)],⟨1,[(0,Z1T st part came)]⟩,[]⟩
theorem Z88 (st part bs:LI) (came:Int) (len:Nat) (Z Z2:Prop) (hc:0<=came/\came<4611686018427387904) (hs:st.length=8) (hp:part.length=64) (hlen:len=bs.length) (hbl:bs.length<4611686018427387904) (hZ:bs=[]->Z) (hZ2:bs≠[]->Z2):
  ZA G3 20 105 0 1 (wrS st part came bs len) (fun e s=>match e with|.normal=>Uy 1 [] (wrS (wSt st part came bs) (UE part came bs) (came+(wTk came bs).length) (bs.drop (wTk came bs).length) (bs.drop (wTk came bs).length).length) s Z2|.exit 0=>Uy 1 [] (wrS st part came bs len) s Z|_=>False):=by
 refine @Eq.mpr _ (let b:=Int.tmod came 64;let i:=some (Int.toNat b);let h:=0+ZP i;let g:=U9 64 i;let f:=List.take g (List.take len bs);let a:=(↑(f.length):Int);let e:=some (Int.toNat a);let d:=List.length (wTk came bs);let c:=List.drop d bs;let n:=Z1p e bs=c;let m:=decide (U9 len e=c.length);let l:=spl part h f;let k:=wSt st part came bs;let j:=l=UE part came bs/\Z8 (decide (wrap i64 (came+a)=came+(↑d:Int))) Z2 False;
 Z8 (decide ((↑len:Int)>0)) (Z8 (decide (0<=b/\b<=64)) (Z8 (decide (u8=u8/\part.length=64/\h+g<=64)) (Z8 (decide (len<=bs.length)) (Z8 (decide (0<=a/\a<=(↑len:Int))) (Z8 (wrap i64 (b+a)==64) (Z8 (decide (st.length=8/\(64:Nat)<=64)) (n/\Z8 m (W4 st l=k/\j) False) False) (n/\Z8 m (st=k/\j) False)) False) False) False) False) (bs=bs/\Z8 (decide (len=len)) (st=st/\part=part/\Z8 (decide (came=came)) Z False) False)) (by kernel_rfl) ?_
 conv=>zeta
 subst hlen
 have t0:Int.tmod came 64=came%64:=tm hc.1
 have hat:wAt came=(came%64).toNat:=by unfold wAt;rw [t0]
 have ht:bs.take bs.length=bs:=Jr
 have hn:(wTk came bs).length<=64-wAt came/\(wTk came bs).length<=bs.length:=by unfold wTk;rw [Jc];omega
 have e0:List.take (64-(Int.tmod came 64).toNat) bs=wTk came bs:=rfl
 simp only [ZP,U9,ht,e0,JR]
 rw [t0]
 have e1:i64.wrap (came%64+((wTk came bs).length:Int))=came%64+((wTk came bs).length:Int):=w64 (by omega)
 have e2:i64.wrap (came+((wTk came bs).length:Int))=came+((wTk came bs).length:Int):=w64 (by omega)
 refine ifD (fun hpos=> ?_) (fun hpos=> ?_)
 ·have hne:bs≠[]:=fun e=>by simp_all
  refine nd (by omega) (nd ⟨by trivial,hp,by omega⟩ (nd (by omega) (nd (by omega) ?_)))
  refine ifB (fun h64=> ?_) (fun h64=> ?_)
  ·have h64':wAt came+(wTk came bs).length=64:=by rw [beq_iff_eq] at h64;omega
   refine nd ⟨hs,by omega⟩ ⟨by trivial,nd (by rw [J9]) ⟨?_, ?_,nd (by trivial) (hZ2 hne)⟩⟩
   all_goals simp_all [wSt,UE]
  ·have h64':¬wAt came+(wTk came bs).length=64:=by rw [beq_eq_false_iff_ne] at h64;omega
   refine ⟨by trivial,nd (by rw [J9]) ⟨?_, ?_,nd (by trivial) (hZ2 hne)⟩⟩
   all_goals simp_all [wSt,UE]
 ·have he:bs=[]:=by
   simp_all
  exact ⟨by trivial,nd (by trivial) ⟨by trivial,by trivial,nd (by trivial) (hZ he)⟩⟩
structure Zw where
 st:LI
 part:LI
 came:Int
def Zw.blk (r:Zw):Blk:=Z1T r.st r.part r.came
def Zw.one (r:Zw) (bs:LI):Zw:=⟨wSt r.st r.part r.came bs,UE r.part r.came bs,r.came+(wTk r.came bs).length⟩
def Zw.many:Nat->Zw->LI->Zw×LI
 | 0,r,bs=>(r,bs)
 | n+1,r,bs=>match bs with
  | []=>(r,[])
  | _::_=>Zw.many n (r.one bs) (bs.drop (wTk r.came bs).length)
def Zw.write (r:Zw) (bs:LI):Zw:=(Zw.many bs.length r bs).1
structure Zw.Ok (r:Zw):Prop where
 st:r.st.length=8
 part:r.part.length=64
 came:0<=r.came
theorem Z4u (st part:LI) (h:st.length=8):(W4 st part).length=8:=by
 grind [W4,Zap,Z0t,QQ]
theorem Zw.Ok.one {r:Zw} (h:r.Ok) (bs:LI):(r.one bs).Ok where
 st:=by show (wSt _ _ _ _).length=8;unfold wSt;split;exact Z4u _ _ h.st;exact h.st
 part:=by
  show (spl _ _ _).length=64
  rw [Z2I]
  ·exact h.part
  ·rw [h.part]
   have h0:wAt r.came=(r.came%64).toNat:=by unfold wAt;rw [tm h.came]
   grind [wTk]
 came:=by show 0<=r.came+_;have:=h.came;omega
theorem Q7 {r:Zw} (h:r.Ok) {bs:LI} (hb:bs≠[]):0<(wTk r.came bs).length:=by
 have h0:wAt r.came=(r.came%64).toNat:=by unfold wAt;rw [tm h.came]
 grind [wTk]
theorem Zc2 (c:Int) (bs:LI):(wTk c bs).length<=bs.length:=by unfold wTk;rw [Jc];omega
def wrL (r:Zw) (bs:LI) (r':Zw) (C:Prop):Nat->St->KE->Prop:=fun k s X=>match Nat.beq k 1 with
 | true=>Uy 1 [] (wrS r.st r.part r.came bs bs.length) s (C/\X (.exit 0) (wrS r'.st r'.part r'.came [] 0))
 | false=>False
noncomputable def G4 (r:Zw) (bs:LI) (r':Zw) (C:Prop):Zg:=G3.withL 105 0 (wrL r bs r' C)
theorem Zc3:∀(n:Nat) (r:Zw) (bs:LI),r.Ok->bs.length<=n->(Zw.many n r bs).2=[]
 | 0,r,bs,_,h=>by cases bs with|nil=>rfl|cons b bs=>simp at h
 | n+1,r,bs,hr,h=>by
  unfold Zw.many
  split
  ·rfl
  ·rename_i b bs
   have:=Q7 hr (bs:=b::bs) (by simp)
   exact Zc3 n _ _ (hr.one _) (by rw [J9];omega)
theorem Z4v:∀(n m:Nat) (r:Zw) (bs:LI),r.Ok->bs.length<=n->bs.length<=m->Zw.many n r bs=Zw.many m r bs
 | 0,0,_,_,_,_,_=>rfl
 | 0,m+1,r,bs,_,h,_=>by cases bs with|nil=>rfl|cons b bs=>simp at h
 | n+1,0,r,bs,_,_,h=>by cases bs with|nil=>rfl|cons b bs=>simp at h
 | n+1,m+1,r,bs,hr,h1,h2=>by
  unfold Zw.many
  split
  ·rfl
  ·rename_i b bs
   have:=Q7 hr (bs:=b::bs) (by simp)
   exact Z4v n m _ _ (hr.one _) (by rw [J9];omega) (by rw [J9];omega)
theorem Zas (r:Zw) (bs:LI) (hr:r.Ok) (hb:bs≠[]):Zw.many bs.length r bs=Zw.many (bs.drop (wTk r.came bs).length).length (r.one bs) (bs.drop (wTk r.came bs).length):=by
 cases bs with
 | nil=>simp_all
 | cons b bs=>
  have:=Q7 hr hb
  exact Z4v _ _ _ _ (hr.one _) (by rw [J9,Jt];omega) (J1 _)
theorem Zi6 (r:Zw) (bs:LI) (r':Zw) (C:Prop) (hC:C->r.Ok/\r.came+bs.length<4611686018427387904/\r'=r.write bs):(G4 r bs r' C).Ok:=by
 refine Zg.withL_ok ZfZ (by kernel_rfl) ?_
 intro k s X hl
 unfold wrL at hl
 split at hl
 ·rename_i hk
  have:=J0 hk
  subst this
  obtain ⟨⟨hc,hX⟩,hw⟩:=Xr hl
  obtain ⟨hr,hle,hr'⟩:=hC hc
  refine ⟨{ q:Zw×LI//q.1.Ok/\q.1.came+q.2.length<4611686018427387904/\(Zw.many q.2.length q.1 q.2).1=r'},fun q=>q.1.2.length,fun q=>wrS q.1.1.st q.1.1.part q.1.1.came q.1.2 q.1.2.length,⟨(r,bs),hr,hle,hr'.symm⟩,20,hw, ?_⟩
  rintro ⟨⟨q,cs⟩,hq,hqle,hqr⟩
  have hq0:=hq.came
  simp only at hq hqle hqr hq0
  refine ⟨_,Z88 q.st q.part cs q.came cs.length (cs=[]) (cs≠[]) ⟨hq0,by omega⟩ hq.st hq.part rfl (by omega) id id, ?_⟩
  intro e s' hY
  split at hY
  ·obtain ⟨hne,hw'⟩:=Xr hY
   have hp:=Q7 hq hne
   have hl2:=Zc2 q.came cs
   have hd:(cs.drop (wTk q.came cs).length).length=cs.length-(wTk q.came cs).length:=J9 ..
   refine ⟨⟨(q.one cs,cs.drop (wTk q.came cs).length),hq.one cs, ?_, ?_⟩, ?_,hw'⟩
   ·show q.came+_+_<_
    rw [hd];omega
   all_goals grind [Zas]
  ·obtain ⟨he,hw'⟩:=Xr hY
   subst he
   have:q=r':=hqr
   subst this
   exact ⟨_,hw',hX⟩
  simp_all
 simp_all
theorem Z89 (r r':Zw) (bs:LI) (C:Prop) (hC:C):
  evF (G4 r bs r' C) 20 105 [.ptr (some ⟨0,0,0,0,0⟩),.vints .u8 bs bs.length] ⟨1,[(0,r.blk)]⟩ (Wd 1 [] (.int .i64 0) 1 [(0,r'.blk)]):=by
 refine @Eq.mpr _ (bs=bs/\Z8 (decide (bs.length=bs.length)) (r.st=r.st/\r.part=r.part/\Z8 (decide (r.came=r.came)) (C/\r'.st=r'.st/\r'.part=r'.part/\Z8 (decide (r'.came=r'.came)) True False) False) False) (by kernel_rfl) ?_
 exact ⟨rfl,nd rfl ⟨rfl,rfl,nd rfl ⟨hC,rfl,rfl,nd rfl trivial⟩⟩⟩
theorem Zat (r:Zw) (bs:LI) (hr:r.Ok) (hl:r.came+bs.length<4611686018427387904):Z3T PP 105 [.ptr (some ⟨0,0,0,0,0⟩),.vints .u8 bs bs.length] r.blk (.int .i64 0) (r.write bs).blk:=
 Z3T.ev (Zi6 r bs (r.write bs) True (fun _=>⟨hr,hl,rfl⟩)) (Z89 r (r.write bs) bs True trivial)
theorem Z99:∀(n:Nat) (r:Zw) (bs:LI),r.Ok->(Zw.many n r bs).1.Ok
 | 0,_,_,h=>h
 | n+1,r,bs,h=>by
  unfold Zw.many
  split
  ·exact h
  ·exact Z99 n _ _ (h.one _)
theorem Vu (r:Zw) (bs:LI) (h:r.Ok):(r.write bs).Ok:=Z99 _ _ _ h
theorem Z4w:∀(n:Nat) (r:Zw) (bs:LI),r.Ok->bs.length<=n->(Zw.many n r bs).1.came=r.came+bs.length
 | 0,r,bs,_,h=>by simp_all [Zw.many]
 | n+1,r,bs,hr,h=>by
  unfold Zw.many
  split
  ·simp
  ·rename_i b bs
   have h1:=Q7 hr (bs:=b::bs) (by simp)
   have h2:=Zc2 r.came (b::bs)
   rw [Z4w n _ _ (hr.one _) (by rw [J9];omega)]
   show r.came+_+_=_
   rw [J9]
   omega
theorem VZ (r:Zw) (bs:LI) (h:r.Ok):(r.write bs).came=r.came+bs.length:=Z4w _ _ _ h (J1 _)
attribute [irreducible] Zw.write
def ZgL (h:Z6) (mv:Option Nat) (b:AV) (K:LI->Prop):Prop:=UB mv h true 4 b fun v=>match v with
 | .vints .u8 xs len=>Z4 (len=xs.length) (K xs)
 | .nilslice=>K []
 | .eslice=>K []
 | _=>False
def Z8a (W:Zw->LI->Zw) (B:Int):ZJ:=fun args h K=>match args with
 | [.ptr (some ⟨x,0,0,0,0⟩),b]=>match h.get x with
  |some (.flat [.arr .u32 8 st,.arr .u8 64 part,.int .i64 came,.bool true])=>ZgL h (some x) b fun xs=>
   Z4 (st.length=8/\part.length=64/\0<=came/\came+xs.length<=B) (K (.ret (.int .i64 0)) (h.set x ((W ⟨st,part,came⟩ xs).blk)))
  | _=>False
 | _=>False
theorem Zc.int' (k:IntKind) (n:Int) (E E':Env) (r:Value) (h:Zc E (.int k n) r):Zc E' (.int k n) r:=h.plain rfl
theorem Zau (B:Int) (hB:B<4611686018427387904) (args:List AV) (h:Z6) (K:KO) (hl:Z8a Zw.write B args h K):Zh PP 105 args h K:=by
 unfold Z8a at hl
 split at hl
 ·rename_i x b
  split at hl
  ·rename_i st part came hx
   obtain ⟨v₀,hv,hb⟩:=Z0p (fun y hy=>by simp_all) _ _ _ _ hl
   have fin:∀xs:LI,(∀(E:Env) (w:World) (r:Value),Emb E h w->Zc E b r->Zc (E.bor (some x) w true) (.vints .u8 xs xs.length) r)->
     Z4 (st.length=8/\part.length=64/\0<=came/\came+xs.length<=B) (K (.ret (.int .i64 0)) (h.set x ((Zw.write ⟨st,part,came⟩ xs).blk)))->Zh PP 105 [.ptr (some ⟨x,0,0,0,0⟩),b] h K:=by
    intro xs hxs hn
    obtain ⟨⟨h1,h2,h3,h4⟩,hK⟩:=Zd hn
    refine (Zat ⟨st,part,came⟩ xs ⟨h1,h2,h3⟩ (by grind)).calls hx rfl (by simp [csz]) (.flat _ rfl) (Zc.int' _ _) ?_ hK
    intro E w rs he hr
    cases hr with
    | cons v r1 vs rs1 h1 hr=>cases hr with
     | cons v r2 vs rs2 h2 hr=>
      cases hr
      cases h1 with
      | ptr p b' N hb'=>exact .cons _ _ _ _ (.ptr ⟨0,0,0,0,0⟩ b' N hb') (.cons _ _ _ _ (hxs E w _ he h2) .nil)
   split at hv
   ·grind [Zd]
   ·refine fin [] (fun E w r he hr=> ?_) hv
    have:=hb E w r he hr
    cases this
    exact .vintsNil _ _ _ rfl rfl
   ·refine fin [] (fun E w r he hr=> ?_) hv
    have:=hb E w r he hr
    cases this with
    | eslice a=>cases a with
     | none=>exact .vintsNil _ _ _ rfl rfl
     | some a=>exact .vints _ _ _ a 0 (by simp) (by simp) (fun i hi=>by simp at hi)
   simp_all
  simp_all
 simp_all
noncomputable def G5 (W:Zw->LI->Zw) (B:Int):Zg:=G3.withF 105 (Z8a W B)
theorem Zg0 (B:Int) (hB:B<4611686018427387904):(G5 Zw.write B).Ok:=Zg.withF_ok ZfZ (Zau B hB)
def WZ (n:Int):LI:=[u8.wrap (Zo .u64 n 24),u8.wrap (Zo .u64 n 16),u8.wrap (Zo .u64 n 8),u8.wrap (Zo .u64 n 0)]
def Z0u (n:Int):LI:=[u8.wrap (Zo .u64 n 56),u8.wrap (Zo .u64 n 48),u8.wrap (Zo .u64 n 40),u8.wrap (Zo .u64 n 32),u8.wrap (Zo .u64 n 24),u8.wrap (Zo .u64 n 16),u8.wrap (Zo .u64 n 8),u8.wrap (Zo .u64 n 0)]
theorem ZgM (n:Int) (l:LI) (hl:l=WZ n):
  evF G0 20 137 [.int .u64 n,.int .i64 4] ⟨0,[]⟩ (Wd 0 [(0,7)] (.nslice ⟨0,0,0,0,0⟩ 1 4 4) 1 [(0,.ints .u8 l)]):=by
 refine @Eq.mpr _ ([wrap u8 (Zo u64 n 24),wrap u8 (Zo u64 n 16),wrap u8 (Zo u64 n 8),wrap u8 (Zo u64 n 0)]=l/\True) (by kernel_rfl) ?_
 exact ⟨hl.symm,trivial⟩
theorem ZgN (n:Int) (l:LI) (hl:l=Z0u n):
  evF G0 20 137 [.int .u64 n,.int .i64 8] ⟨0,[]⟩ (Wd 0 [(0,15)] (.nslice ⟨0,0,0,0,0⟩ 1 8 8) 1 [(0,.ints .u8 l)]):=by
 refine @Eq.mpr _ ([wrap u8 (Zo u64 n 56),wrap u8 (Zo u64 n 48),wrap u8 (Zo u64 n 40),wrap u8 (Zo u64 n 32),wrap u8 (Zo u64 n 24),wrap u8 (Zo u64 n 16),wrap u8 (Zo u64 n 8),wrap u8 (Zo u64 n 0)]=l/\True) (by kernel_rfl) ?_
 exact ⟨hl.symm,trivial⟩
def Zc4 (T8:Int->LI):ZJ:=fun args h K=>match args with
 | [.int .u64 n,.int .i64 m]=>match decide (m=4) with
  | true=>K (.ret (.nslice ⟨h.next,0,0,0,0⟩ 1 4 4)) ⟨h.next+1,(h.next,.ints .u8 (WZ n))::h.bs⟩
  | false=>match decide (m=8) with
   | true=>K (.ret (.nslice ⟨h.next,0,0,0,0⟩ 1 8 8)) ⟨h.next+1,(h.next,.ints .u8 (T8 n))::h.bs⟩
   | false=>False
 | _=>False
theorem Zc5 (args:List AV) (h:Z6) (K:KO) (hl:Zc4 Z0u args h K):Zh PP 137 args h K:=by
 unfold Zc4 at hl
 split at hl
 ·rename_i n m
  have ha:∀(E:Env) (w:World) (rs:List Value),Emb E h w->Zt E [.int .u64 n,.int .i64 m] rs->Zt (E.bor none w true) [.int .u64 n,.int .i64 m] rs:=by
   intro E w rs he hr
   cases hr with
   | cons v r1 vs rs1 h1 hr=>cases hr with
    | cons v r2 vs rs2 h2 hr=>
     cases hr
     exact .cons _ _ _ _ (h1.plain rfl) (.cons _ _ _ _ (h2.plain rfl) .nil)
  split at hl
  ·rename_i hm
   have hm:=of_decide_eq_true hm
   subst hm
   exact (Y8.ev Zv (ZgM n _ rfl)).calls ha rfl ⟨Ks,.ints _ _,trivial⟩ hl
  ·split at hl
   ·rename_i hm
    have hm:=of_decide_eq_true hm
    subst hm
    exact (Y8.ev Zv (ZgN n _ rfl)).calls ha rfl ⟨Ks,.ints _ _,trivial⟩ hl
   simp_all
 simp_all
noncomputable def G6 (W:Zw->LI->Zw) (T8:Int->LI) (B:Int):Zg:=(G5 W B).withF 137 (Zc4 T8)
theorem Zi7 (B:Int) (hB:B<4611686018427387904):(G6 Zw.write Z0u B).Ok:=Zg.withF_ok (Zg0 B hB) Zc5
def Qf (came:Int):LI:=[128]++List.replicate (Int.tmod (i64.wrap (119-Int.tmod came 64)) 64).toNat 0
def Z4x (st:LI):LI:=WZ (u64.wrap (st.getD 0 0))++WZ (u64.wrap (st.getD 1 0))++WZ (u64.wrap (st.getD 2 0))++WZ (u64.wrap (st.getD 3 0))++WZ (u64.wrap (st.getD 4 0))++WZ (u64.wrap (st.getD 5 0))++WZ (u64.wrap (st.getD 6 0))++WZ (u64.wrap (st.getD 7 0))
def len8 (came:Int):LI:=Z0u (u64.wrap (u64.wrap came*8))
def Zw.fin (r:Zw):LI:=Z4x ((r.write (Qf r.came)).write (len8 r.came)).st
theorem Zc6 (c:Int) (h:0<=c):(Qf c).length<=64:=by
 grind [Qf]
theorem Zc7 (W:Zw->LI->Zw) (T8:Int->LI) (st part:LI) (came:Int) (hh:LI) (B:Int) (hB:B=2000000000000) (hs:st.length=8) (hp:part.length=64) (hc:0<=came/\came<1000000000000) (hT:T8=Z0u) (hW:W=Zw.write) (hh':hh=Zw.fin ⟨st,part,came⟩):
  evF (G6 W T8 B) 20 106 [.ptr (some ⟨0,0,0,0,0⟩)] ⟨1,[(0,Z1T st part came)]⟩ (Wd 1 [] (.agg [.arr .u8 32 hh]) 1 [(0,Z1T st part came)]):=by
 refine @Eq.mpr _ (let v:=Int.tmod (wrap i64 (119-Int.tmod came 64)) 64;let s:=Int.toNat v;let r:=[(128:Int)]++List.replicate s 0;let b:=r.length;let q:=List.take b (Y2 0 r);let p:=q.length;let o:=T8 (wrap u64 (wrap u64 came*8));let n:=List.take 8 (Y2 0 o);let m:=n.length;let l:=W (Zw.mk st part came) q;let u:=l.st;let t:=l.part;let k:=l.came;let a:=(W (Zw.mk u t k) n).st;let j:=wrap u64 (List.getD a 0 0);let i:=wrap u64 (List.getD a 1 0);let h:=wrap u64 (List.getD a 2 0);let g:=wrap u64 (List.getD a 3 0);let f:=wrap u64 (List.getD a 4 0);let e:=wrap u64 (List.getD a 5 0);let d:=wrap u64 (List.getD a 6 0);let c:=wrap u64 (List.getD a 7 0);
 Z8 (decide ((0:Int)=0/\0<=v/\(1+s)*1<=140737488355328))
 (Z8 (decide (0+b<=b))
 (Z8 (decide (b=p))
 (Z8 (decide (st.length=8/\part.length=64/\0<=came/\came+ ↑p<=B))
 (Z8 (decide (8<=o.length))
 (Z8 (decide (8=m))
 (Z8 (decide (u.length=8/\t.length=64/\0<=k/\k+ ↑m<=B))
 ([wrap u8 (Zo u64 j 24),wrap u8 (Zo u64 j 16),wrap u8 (Zo u64 j 8),wrap u8 (Zo u64 j 0),wrap u8 (Zo u64 i 24),wrap u8 (Zo u64 i 16),wrap u8 (Zo u64 i 8),wrap u8 (Zo u64 i 0),wrap u8 (Zo u64 h 24),wrap u8 (Zo u64 h 16),wrap u8 (Zo u64 h 8),wrap u8 (Zo u64 h 0),wrap u8 (Zo u64 g 24),wrap u8 (Zo u64 g 16),wrap u8 (Zo u64 g 8),wrap u8 (Zo u64 g 0),wrap u8 (Zo u64 f 24),wrap u8 (Zo u64 f 16),wrap u8 (Zo u64 f 8),
 wrap u8 (Zo u64 f 0),wrap u8 (Zo u64 e 24),wrap u8 (Zo u64 e 16),wrap u8 (Zo u64 e 8),wrap u8 (Zo u64 e 0),wrap u8 (Zo u64 d 24),wrap u8 (Zo u64 d 16),wrap u8 (Zo u64 d 8),wrap u8 (Zo u64 d 0),wrap u8 (Zo u64 c 24),wrap u8 (Zo u64 c 16),wrap u8 (Zo u64 c 8),wrap u8 (Zo u64 c 0)]=
 hh/\
 st=st/\part=part/\Z8 (decide (came=came)) True False)
 False)
 False)
 False)
 False)
 False)
 False)
 False) (by kernel_rfl) ?_
 conv=>zeta
 subst hT hW hB
 have hpad:=Zc6 came hc.1
 have e0:[(128:Int)]++List.replicate (Int.toNat (Int.tmod (wrap i64 ((119:Int)-Int.tmod came (64:Int))) (64:Int))) (0:Int)=Qf came:=rfl
 have h1:Int.tmod came 64=came%64:=tm hc.1
 have h2:i64.wrap (119-came%64)=119-came%64:=w64 (by omega)
 have h3:Int.tmod (119-came%64) 64=(119-came%64)%64:=tm (by omega)
 have hok:Zw.Ok ⟨st,part,came⟩:=⟨hs,hp,hc.1⟩
 have hok1:=Vu ⟨st,part,came⟩ (Qf came) hok
 have hca:(Zw.write ⟨st,part,came⟩ (Qf came)).came=came+(Qf came).length:=VZ _ _ hok
 have e1:List.take (Qf came).length (Y2 0 (Qf came))=Qf came:=Jr
 have e2:∀n,List.take 8 (Y2 0 (Z0u n))=Z0u n:=fun n=>rfl
 simp only [e0,e1,e2]
 refine nd ⟨by trivial,by rw [h1,h2,h3];omega,by rw [h1,h2,h3];omega⟩ (nd (by omega) (nd (by trivial) (nd ⟨hs,hp,hc.1,by omega⟩ (nd (by show 8<=8;omega) (nd (by trivial) (nd ⟨hok1.st,hok1.part,hok1.came, ?_⟩ ?_))))))
 ·rw [hca]
  grind
 ·refine ⟨?_,by trivial,by trivial,nd (by trivial) trivial⟩
  rw [hh']
  kernel_rfl
def ZgO (F:Zw->LI) (B:Int):YK:=fun args h K=>match args with
 | [.ptr (some ⟨x,0,0,0,0⟩)]=>match h.get x with
  | some (.flat [.arr .u32 8 st,.arr .u8 64 part,.int .i64 came,.bool true])=>Z4 (st.length=8/\part.length=64/\0<=came/\came<=B) (K (.agg [.arr .u8 32 (F ⟨st,part,came⟩)]))
  | _=>False
 | _=>False
theorem ZkG {a:Nat}:∀(i j x:Nat),([a]:List Nat)[i]? =some x->([a]:List Nat)[j]? =some x->i=j
 | 0,0,_,_,_=>rfl
 | i+1,_,x,h1,_=>by simp at h1
 | 0,j+1,x,_,h2=>by simp at h2
theorem Zc.hash {k:IntKind} {n:Nat} {xs:LI} (h:Zc E (.agg [.arr k n xs]) r):Zc E' (.agg [.arr k n xs]) r:=by
 cases h with
 | agg cs vs hc=>exact .agg _ _ (hc.plain rfl)
theorem Zei (B:Int) (hB:B<1000000000000) (args:List AV) (h:Z6) (K:AV->Prop) (hl:ZgO Zw.fin B args h K):Zh PP 106 args h fun o h'=>∃v,o=.ret v/\h'=h/\K v:=by
 unfold ZgO at hl
 split at hl
 ·rename_i x
  split at hl
  ·rename_i st part came hx
   obtain ⟨⟨h1,h2,h3,h4⟩,hK⟩:=Zd hl
   refine Z3U.calls (σ:=[x]) (Bs:=[Z1T st part came]) (Z3U.ev (Zi7 2000000000000 (by decide)) (Zc7 Zw.write Z0u st part came _ _ rfl h1 h2 ⟨h3,by omega⟩ rfl rfl rfl)) rfl ZkG ?_ ?_ ?_ ?_ ?_ hK
   ·intro j y B hj hB
    match j with
    | 0=>simp at hj hB;subst hj;subst hB;exact hx
    | j+1=>simp at hj
   ·intro B hB
    simp at hB
    subst hB
    exact .flat _ rfl
   ·intro E w rs he hr
    cases hr with
    | cons v r1 vs rs1 h1 hr=>
     cases hr
     cases h1 with
     | ptr p b' N hb'=>exact .cons _ _ _ _ (.ptr ⟨0,0,0,0,0⟩ b' N hb') .nil
   ·intro E E₁ r hle hfr hq hv
    exact hv.hash
   grind [Z6A,csz]
  simp_all
 simp_all
def YR:Zw:=⟨[1779033703,3144134277,1013904242,2773480762,1359893119,2600822924,528734635,1541459225],List.replicate 64 0,0⟩
theorem ZkH (l:LI) (hl:l=List.replicate 64 0):
  evF G0 20 104 [] ⟨0,[]⟩ (Wd 0 [(0,1)] (.ptr (some ⟨0,0,0,0,0⟩)) 1 [(0,Z1T [1779033703,3144134277,1013904242,2773480762,1359893119,2600822924,528734635,1541459225] l 0)]):=by
 refine @Eq.mpr _ ([(1779033703:Int),(3144134277:Int),(1013904242:Int),(2773480762:Int),(1359893119:Int),(2600822924:Int),(528734635:Int),(1541459225:Int)]=[(1779033703:Int),(3144134277:Int),(1013904242:Int),(2773480762:Int),(1359893119:Int),(2600822924:Int),(528734635:Int),(1541459225:Int)]/\
 [(0:Int),(0:Int),(0:Int),(0:Int),(0:Int),(0:Int),(0:Int),(0:Int),(0:Int),(0:Int),(0:Int),(0:Int),(0:Int),(0:Int),(0:Int),(0:Int),(0:Int),(0:Int),(0:Int),(0:Int),(0:Int),(0:Int),(0:Int),(0:Int),(0:Int),(0:Int),(0:Int),(0:Int),(0:Int),(0:Int),(0:Int),(0:Int),(0:Int),(0:Int),(0:Int),(0:Int),(0:Int),(0:Int),(0:Int),(0:Int),(0:Int),(0:Int),(0:Int),(0:Int),(0:Int),(0:Int),(0:Int),(0:Int),(0:Int),(0:Int),(0:Int),(0:Int),(0:Int),(0:Int),(0:Int),(0:Int),(0:Int),(0:Int),(0:Int),(0:Int),(0:Int),(0:Int),(0:Int),(0:Int)]=l/\True) (by kernel_rfl) ?_
 simp_all
def ZgP (r0:Zw):ZJ:=fun args h K=>match args with
 | []=>K (.ret (.ptr (some ⟨h.next,0,0,0,0⟩))) ⟨h.next+1,(h.next,r0.blk)::h.bs⟩
 | _=>False
theorem Zej (args:List AV) (h:Z6) (K:KO) (hl:ZgP YR args h K):Zh PP 104 args h K:=by
 unfold ZgP at hl
 split at hl
 ·exact (Y8.ev Zv (ZkH _ rfl)).calls (fun E w rs he hr=>by cases hr;exact .nil) rfl ⟨Ks,.flat _ rfl,trivial⟩ hl
 simp_all
noncomputable def G7 (W:Zw->LI->Zw) (F:Zw->LI) (B:Int) (r0:Zw):Zg:=((G5 W B).withP 106 (ZgO F B)).withF 104 (ZgP r0)
theorem Zg1 (B:Int) (hB:B<1000000000000):(G7 Zw.write Zw.fin B YR).Ok:=Zg.withF_ok (Zg.withP_ok (Zg0 B (by omega)) (Zei B hB)) Zej
@[irreducible] def Zf (bs:LI):LI:=(YR.write bs).fin
@[irreducible] def Z8b (a b:LI):LI:=((YR.write a).write b).fin
theorem Zek (r:Zw):r.fin.length=32:=by rfl
theorem Z0v (bs:LI):(Zf bs).length=32:=by unfold Zf;exact Zek _
theorem Vv:YR.Ok:=⟨rfl,rfl,by decide⟩
attribute [irreducible] Zw.fin
theorem Zc8 (W:Zw->LI->Zw) (F:Zw->LI) (r0:Zw) (bs:LI) (hh:LI) (B:Int) (hB:B=900000000000) (hb:bs.length<100000000000) (hr0:r0=YR) (hW:W=Zw.write) (hF:F=Zw.fin) (hh':hh=Zf bs):
  evF (G7 W F B r0) 20 75 [.vrows 1 1 (fun _=>[.vints .u8 bs bs.length]) 1] ⟨0,[]⟩ (Wd 0 [] (.agg [.arr .u8 32 hh]) 0 []):=by
 refine @Eq.mpr _ (let d:=bs.length;let c:=r0.came;let b:=W (Zw.mk r0.st r0.part c) bs;let f:=b.st;let e:=b.part;let a:=b.came;
 Z8 (decide (d=d)) (Z8 (decide (r0.st.length=8/\r0.part.length=64/\0<=c/\c+ ↑d<=B)) (Z8 (decide (f.length=8/\e.length=64/\0<=a/\a<=B)) (F (Zw.mk f e a)=hh/\True) False) False) False) (by kernel_rfl) ?_
 conv=>zeta
 subst hW hF hB hr0
 have i0:YR.came=0:=rfl
 have hok:=Vu YR bs Vv
 have hca:(YR.write bs).came=0+bs.length:=VZ _ _ Vv
 refine nd rfl (nd ⟨rfl,rfl,by omega,by omega⟩ (nd ⟨hok.st,hok.part,hok.came, ?_⟩ ⟨by rw [hh'];first|(unfold Zf;rfl),trivial⟩))
 refine Int.le_trans (Int.le_of_eq hca) ?_
 omega
theorem Zc9 (W:Zw->LI->Zw) (F:Zw->LI) (r0:Zw) (a b:LI) (hh:LI) (B:Int) (hB:B=900000000000) (ha:a.length<100000000000) (hb:b.length<100000000000) (hr0:r0=YR) (hW:W=Zw.write) (hF:F=Zw.fin) (hh':hh=Z8b a b):
  evF (G7 W F B r0) 20 75 [.vrows 1 2 (fun i=>match i with|0=>[.vints .u8 a a.length]|_=>[.vints .u8 b b.length]) 2] ⟨0,[]⟩ (Wd 0 [] (.agg [.arr .u8 32 hh]) 0 []):=by
 refine @Eq.mpr _ (let i:=a.length;let g:=r0.came;let f:=b.length;let e:=W (Zw.mk r0.st r0.part g) a;let l:=e.st;let k:=e.part;let d:=e.came;let c:=W (Zw.mk l k d) b;let j:=c.st;let m:=c.part;let h:=c.came;
 Z8 (decide (i=i)) (Z8 (decide (r0.st.length=8/\r0.part.length=64/\0<=g/\g+ ↑i<=B)) (Z8 (decide (f=f)) (Z8 (decide (l.length=8/\k.length=64/\0<=d/\d+ ↑f<=B)) (Z8 (decide (j.length=8/\m.length=64/\0<=h/\h<=B)) (F (Zw.mk j m h)=hh/\True) False) False) False) False) False) (by kernel_rfl) ?_
 conv=>zeta
 subst hW hF hB hr0
 have i0:YR.came=0:=rfl
 have hok:=Vu YR a Vv
 have hca:(YR.write a).came=0+a.length:=VZ _ _ Vv
 have hok2:=Vu (YR.write a) b hok
 have hca2:((YR.write a).write b).came=(YR.write a).came+b.length:=VZ _ _ hok
 refine nd rfl (nd ⟨rfl,rfl,by omega,by omega⟩ (nd rfl (nd ⟨hok.st,hok.part,hok.came, ?_⟩ (nd ⟨hok2.st,hok2.part,hok2.came, ?_⟩ ⟨by rw [hh'];first|(unfold Z8b;rfl),trivial⟩))))
 ·refine Int.le_trans (Int.le_of_eq (congrArg (· +(b.length:Int)) hca)) ?_
  omega
 ·refine Int.le_trans (Int.le_of_eq hca2) ?_
  omega
theorem Zc.rows {esz n len:Nat} {f g:Nat->List AV} (h:Zc E (.vrows esz n f len) r) (hfg:∀i,i<n->f i=g i):Zc E (.vrows esz n g len) r:=by
 cases h with
 | vrowsNil esz n f len h1 h2=>exact .vrowsNil _ _ _ _ h1 h2
 | vrows esz n f len a cap q h1 h2 hc hl hi=>exact .vrows _ _ _ _ a cap q h1 h2 (fun i hi'=>hfg i hi'▸hc i hi') hl hi
def QR (v:List AV) (K:LI->Prop):Prop:=match v with
 | [.vints .u8 xs len]=>Z4 (len=xs.length) (K xs)
 | _=>False
theorem Vw {v:List AV} {K:LI->Prop} (h:QR v K):∃xs:LI,v=[.vints .u8 xs xs.length]/\K xs:=by
 unfold QR at h
 grind [Zd]
def Zi8 (H1:LI->LI) (H2:LI->LI->LI) (B:Nat):YK:=fun args h K=>X1 none h true 20 args fun a=>match a with
 | [.vrows 1 n f len]=>match Nat.beq n 1&&Nat.beq len 1 with
  | true=>QR (f 0) fun xs=>Z4 (xs.length<=B) (K (.agg [.arr .u8 32 (H1 xs)]))
  | false=>match Nat.beq n 2&&Nat.beq len 2 with
   | true=>QR (f 0) fun xs=>QR (f 1) fun ys=>Z4 (xs.length<=B/\ys.length<=B) (K (.agg [.arr .u8 32 (H2 xs ys)]))
   | false=>False
 | _=>False
theorem Zel (B:Nat) (hB:B<100000000000) (args:List AV) (h:Z6) (K:AV->Prop) (hl:Zi8 Zf Z8b B args h K):Zh PP 75 args h fun o h'=>∃v,o=.ret v/\h'=h/\K v:=by
 obtain ⟨a₀,ha,hr⟩:=W3 (fun x hx=>by cases hx) _ _ _ _ hl
 split at ha
 ·split at ha
  ·rename_i hb
   rw [J2] at hb
   have e1:=J0 hb.1
   have e2:=J0 hb.2
   subst e1 e2
   obtain ⟨xs,hf,hK⟩:=Vw ha
   obtain ⟨hx,hK⟩:=Zd hK
   have hp:=Y8.ev (Zg1 900000000000 (by decide)) (Zc8 _ _ _ xs _ _ rfl (by omega) rfl rfl rfl rfl)
   refine hp.calls (v':=.agg [.arr .u8 32 (Zf xs)]) (fun E w rs he hrr=> ?_) rfl trivial ⟨_,rfl,rfl,hK⟩
   have:=hr E w rs he hrr
   cases this with
   | cons v c vs cs h1 h2=>
    cases h2
    refine .cons _ _ _ _ (h1.rows (fun i hi=> ?_)) .nil
    match i,hi with
    | 0,_=>exact hf
  ·split at ha
   ·rename_i hb
    rw [J2] at hb
    have e1:=J0 hb.1
    have e2:=J0 hb.2
    subst e1 e2
    obtain ⟨xs,hf,hK⟩:=Vw ha
    obtain ⟨ys,hg,hK⟩:=Vw hK
    obtain ⟨⟨hx,hy⟩,hK⟩:=Zd hK
    have hp:=Y8.ev (Zg1 900000000000 (by decide)) (Zc9 _ _ _ xs ys _ _ rfl (by omega) (by omega) rfl rfl rfl rfl)
    refine hp.calls (v':=.agg [.arr .u8 32 (Z8b xs ys)]) (fun E w rs he hrr=> ?_) rfl trivial ⟨_,rfl,rfl,hK⟩
    have:=hr E w rs he hrr
    cases this with
    | cons v c vs cs h1 h2=>
     cases h2
     refine .cons _ _ _ _ (h1.rows (fun i hi=> ?_)) .nil
     match i,hi with
     | 0,_=>exact hf
     | 1,_=>exact hg
   simp_all
 simp_all
structure InS where
 name:LI
 index:Int
 way:Int
 tag:LI
 also:LI
 secret:LI
structure Z8c where
 kind:Int
 amount:Int
 owner:LI
 other:LI
 point:LI
 hash:LI
 delay:Int
 expiry:Int
structure InS.Ok (x:InS):Prop where
 name:x.name.length=32
 tag:x.tag.length=32
 also:x.also.length=32
 secret:x.secret.length=32
structure Z8c.Ok (o:Z8c):Prop where
 owner:o.owner.length=32
 other:o.other.length=32
 point:o.point.length=32
 hash:o.hash.length=32
def Ze:LI:=List.replicate 32 0
end Go.Tk
end
