/- M: part 3 of an engine (a symbolic evaluator, proved against the model) and of the walk by it. -/
import Derived.Test.YtpfaahkmphnliaaGreatM2
import Derived.Test.YtpfaahkmphnliaaGreatProg
set_option linter.unusedVariables false
set_option linter.unusedSimpArgs false
set_option maxRecDepth 100000
set_option maxHeartbeats 0
section
namespace Go.Tk
open IntKind (i64 u8 u32 u64 wrap)
theorem Z5v {qm:Bool} {all:List Oper} (hed:∀i o e,all[i]? =some o→e∈o.after.toList→Region.binds .any e=true→e.on<i):
  ∀{r:List Oper} {k:Nat} {acc:List Nat},(∀j,r[j]? =all[k+j]?)→(∀j p,(Qd acc j).testBit p=true→p<j)→acc.length=k→
   ∀it∈ZQ qm k acc r,∀p,it.m.testBit p=true→p<it.i
 | [],_,_,_,_,_,it,h,_,_=>by simp [ZQ] at h
 | o::r,k,acc,hr,hacc,hk,it,h,p,hp=>by
  have h0:all[k]? =some o:=by have:=hr 0;simpa using this.symm
  have hself:∀p,(UV acc o.after.toList 0).testBit p=true→p<k:=fun p hp=>by
   rcases Uu hp with h1|⟨e,he,hb,h2⟩
   ·simp at h1
   ·have hlt:=hed k o e h0 he hb
    rcases h2 with rfl|h2
    ·exact hlt
    ·have:=hacc e.on p h2;omega
  simp only [ZQ,List.mem_cons] at h
  rcases h with rfl|h
  ·exact hself p hp
  ·refine Z5v hed (k:=k+1) (acc:=acc++[UV acc o.after.toList 0]) (fun j=> ?_) ?_ (by simp [hk]) it h p hp
   ·have:=hr (j+1)
    rw [show k+1+j=k+(j+1) from by omega,←this]
    simp
   ·intro j p hbit
    rw [Z0o] at hbit
    split at hbit
    ·rename_i hjk
     have:=hself p hbit
     omega
    ·exact hacc j p hbit
theorem Uw {m:Nat} {q:It} {v:AV}:∀{pend:List (It×AV)},(q,v)∈Va m pend↔(q,v)∈pend∧m.testBit q.i=false
 | []=>by simp [Va]
 | (it,u)::r=>by
  unfold Va
  split
  ·rename_i h
   rw [Uw]
   constructor
   ·rintro ⟨h1,h2⟩;exact ⟨List.mem_cons_of_mem _ h1,h2⟩
   ·rintro ⟨h1,h2⟩
    rcases List.mem_cons.1 h1 with h3|h3
    ·cases h3;rw [h] at h2;cases h2
    ·exact ⟨h3,h2⟩
  ·rename_i h
   rw [List.mem_cons,Uw,List.mem_cons]
   constructor
   ·rintro (h1|⟨h1,h2⟩)
    ·cases h1;exact ⟨.inl rfl,h⟩
    ·exact ⟨.inr h1,h2⟩
   ·rintro ⟨h1|h1,h2⟩
    ·exact .inl h1
    ·exact .inr ⟨h1,h2⟩
theorem YL {i:Nat} {q:It}:∀{l:List It},q∈V9 i l↔q∈l∧q.i≠i
 | []=>by simp [V9]
 | it::r=>by
  unfold V9
  split
  ·rename_i h
   have e:=Nat.eq_of_beq_eq_true h
   rw [YL,List.mem_cons]
   constructor
   ·rintro ⟨h1,h2⟩;exact ⟨.inr h1,h2⟩
   ·rintro ⟨h1|h1,h2⟩
    ·subst h1;exact absurd e h2
    ·exact ⟨h1,h2⟩
  ·rename_i h
   have e:it.i≠i:=fun e=>by rw [e,Nat.beq_refl] at h;cases h
   rw [List.mem_cons,YL,List.mem_cons]
   constructor
   ·rintro (h1|⟨h1,h2⟩)
    ·subst h1;exact ⟨.inl rfl,e⟩
    ·exact ⟨.inr h1,h2⟩
   ·rintro ⟨h1|h1,h2⟩
    ·exact .inl h1
    ·exact .inr ⟨h1,h2⟩
theorem Z0r {i:Nat}:∀{l:List It},(V9 i l).Sublist l
 | []=>List.Sublist.refl _
 | it::r=>by
  unfold V9
  split
  ·exact List.Sublist.cons _ Z0r
  ·exact List.Sublist.cons_cons _ Z0r
theorem Qh {x:Nat} {v:AV} {t:Ya}:∀{its:List It},ZP (Z2i t its) x=some v→ZP t x=some v∧∀it∈its,it.o.dst≠some x
 | [],h=>⟨h,by simp⟩
 | it::r,h=>by
  unfold Z2i at h
  split at h
  ·rename_i y hy
   by_cases hxy:y=x
   ·subst hxy;rw [UM] at h;cases h
   ·rw [Wo _ _ _ hxy] at h
    have:=Qh h
    refine ⟨this.1,fun q hq=> ?_⟩
    rcases List.mem_cons.1 hq with rfl|hq
    ·rw [hy];exact fun e=>hxy (by injection e)
    ·exact this.2 q hq
  ·rename_i hy
   have:=Qh h
   refine ⟨this.1,fun q hq=> ?_⟩
   rcases List.mem_cons.1 hq with rfl|hq
   ·rw [hy];simp
   ·exact this.2 q hq
theorem Wg {x:Nat} {v:AV} {t:Ya}:∀{its:List It},ZP (Ww t its) x=some v→ZP t x=some v∧∀it∈its,(Y6 it.o.op).isSome=true→it.o.dst≠some x
 | [],h=>⟨h,by simp⟩
 | it::r,h=>by
  unfold Ww at h
  split at h
  ·rename_i T y hT hy
   by_cases hxy:y=x
   ·subst hxy;rw [UM] at h;cases h
   ·rw [Wo _ _ _ hxy] at h
    have:=Wg h
    refine ⟨this.1,fun q hq hl=> ?_⟩
    rcases List.mem_cons.1 hq with rfl|hq
    ·rw [hy];exact fun e=>hxy (by injection e)
    ·exact this.2 q hq hl
  ·rename_i hno
   have:=Wg h
   refine ⟨this.1,fun q hq hl hd=> ?_⟩
   rcases List.mem_cons.1 hq with rfl|hq
   ·obtain ⟨T,hT⟩:=Option.isSome_iff_exists.1 hl
    exact hno T x hT hd
   ·exact this.2 q hq hl hd
theorem UW:∀{l:List It},Wv l=none→∀q∈l,XB q=false
 | [],_,q,hq=>by simp at hq
 | it::r,h,q,hq=>by
  unfold Wv at h
  split at h
  ·cases h
  ·rename_i he
   rcases List.mem_cons.1 hq with rfl|hq
   ·exact he
   ·exact UW h q hq
theorem UX:∀{l:List It} {e:It},Wv l=some e→e∈l∧XB e=true
 | [],e,h=>by simp [Wv] at h
 | it::r,e,h=>by
  unfold Wv at h
  split at h
  ·rename_i he;cases h;exact ⟨List.mem_cons_self ..,he⟩
  ·have:=UX h
   exact ⟨List.mem_cons_of_mem _ this.1,this.2⟩
section
variable {P:Program} {all:List Oper} {its:List It} {E0:Env} {h0:Z6} {w0:World} {L:Nat→Prop} {bl:Nat→Nat} {rem rem':List It} {D:Nat} {pend pend':List (It×AV)} {s s2:St} {E:Env} {a:Act} {w:World}
theorem Inv.doEff (hst:Stat P all its) (I:Inv P all its E0 h0 w0 L bl rem D pend s E a w) {e:It} (he:e∈rem) (heff:XB e=true) (hD:∀p,e.m.testBit p=true→D.testBit p=true) (hme:∀p,e.m.testBit p=true→L p)
  {s3:St} {E':Env} {w':World} {ds:List Deferred} {v:AV} {r:Value} (hev:Evo E s.h w E' s3.h w') (hev0:Evo E0 h0 w0 E' s3.h w') (hds:Vv E' s3.d ds) (hv:Zc E' v r)
  (e2:s3.n=s.n) (e4:∀x,e.o.dst=some x→ZP s3.t x=some v∧x<s.n) (e5:∀x,e.o.dst≠some x→ZP s3.t x=ZP s.t x)
  (hre:∀q v,(q,v)∈Va e.m pend→Z0p P q s.t s.h v→(∀x∈opT q.o.op,ZP s3.t x=ZP s.t x)→Z0p P q s3.t s3.h v):
  Inv P all its E0 h0 w0 (fun j=>L j∨j=e.i) bl (V9 e.i rem) (Nat.lor D (2^e.i)) (Va e.m pend) s3 E' (({ a with defers:=ds}:Act).put e.o.dst r) w':=by
 have hits:=I.sub e he
 have hne:∀q∈its,q≠e→q.i≠e.i:=fun q hq' hn' h=>hn' (hst.uniq q hq' e hits h)
 have hback:∀q∈its,q≠e→(L q.i∨q.i=e.i)→L q.i:=fun q hq' hn' h=>h.resolve_right (hne q hq' hn')
 have hrm:∀q∈its,q∉V9 e.i rem→q=e∨q∉rem:=fun q hq hn=>by
  by_cases h:q=e
  ·exact .inl h
  ·exact .inr fun hr=>hn (YL.2 ⟨hr,hne q hq h⟩)
 have hfwd:∀q,q∉rem→q∉V9 e.i rem:=fun q hn h=>hn (YL.1 h).1
 refine ⟨fun q hq=>I.sub q (YL.1 hq).1,I.nodup.sublist Z0r,fun q hq hb=> ?_,fun q hq hnl hn p hp hb=> ?_,fun q hq hqe=> ?_,fun q hq hl hn=> ?_,fun q hq hqq hL=> ?_,fun q hq hqq hn hL=> ?_,
  by rw [Z2l,e2];exact I.size,fun x u hx hc=> ?_,by rw [put_defers];exact hds,hev0,fun q hq hl x hx=> ?_,fun q hq hL T hT=> ?_,fun q hq q' hq' hL hL' hl hl' hb=> ?_,fun q hq x hx hn=> ?_,fun q hq hn=> ?_,by rw [e2];exact I.ln⟩
 ·rcases Z4y hb with h|h
  ·exact hfwd q (I.dbit q hq h)
  ·exact fun hr=>(YL.1 hr).2 h
 ·rcases hrm q hq hn with rfl|hn'
  ·exact hfwd p (I.dbit p hp (hD _ hb))
  ·exact hfwd p (I.born q hq hnl hn' p hp hb)
 ·by_cases hqi:q=e
  ·subst hqi
   exact ⟨fun _ h=>(YL.1 h).2 rfl,fun _=>.inr rfl⟩
  ·constructor
   ·intro h
    exact hfwd q ((I.eff q hq hqe).1 (hback q hq hqi h))
   ·intro h
    exact .inl ((I.eff q hq hqe).2 ((hrm q hq h).resolve_left hqi))
 ·have hqi:q≠e:=fun h=>by subst h;rw [YX heff] at hl;cases hl
  exact .inl (I.late q hq hl ((hrm q hq hn).resolve_left hqi))
 ·have hqi:q≠e:=fun h=>by subst h;rw [Yo heff] at hqq;cases hqq
  exact hfwd q (I.quiet q hq hqq (hback q hq hqi hL))
 ·have hqi:q≠e:=fun h=>by subst h;rw [Yo heff] at hqq;cases hqq
  have hn':=(hrm q hq hn).resolve_left hqi
  have hL':¬L q.i:=fun h=>hL (.inl h)
  obtain ⟨u,h1,h2⟩:=I.fact q hq hqq hn' hL'
  have hsame:∀x∈Vx all q.o,ZP s3.t x=ZP s.t x:=fun x hx=>e5 x fun hd=>by
   rcases hst.rd e hits q hq (fun h=>hqi h.symm) x hd hx with h|⟨h3,_⟩
   ·exact I.born q hq (Y7 hqq) hn' e hits h he
   ·exact hL' (hme _ h3)
  refine ⟨u,fun x hx=> ?_, ?_⟩
  ·rw [e5 x fun hd=>hst.dst e hits q hq (fun h=>hqi h.symm) x hd hx]
   exact h1 x hx
  ·rw [WP fun x hx=>hsame x (List.mem_append_left _ hx)]
   rcases h2 with ⟨h2,h3,h4⟩|h
   ·have hmem:(q,u)∈Va e.m pend:=Uw.2 ⟨h3,by
     cases hb:e.m.testBit q.i with
     | false=>rfl
     | true=>exact absurd (hme _ hb) hL'⟩
    exact .inl ⟨h2,hmem,hre q u hmem h4 fun x hx=>hsame x (List.mem_append_right _ hx)⟩
   ·exact .inr h
 ·by_cases hdx:e.o.dst=some x
  ·rw [(e4 x hdx).1] at hx
   cases hx
   rw [hdx,Z2k (by show x<a.tmps.size;rw [I.size];exact (e4 x hdx).2)]
   exact hv
  ·rw [Wl hdx]
   rw [e5 x hdx] at hx
   refine (I.tmps x u hx fun q hq hdq hqq hn=> ?_).mono hev.le
   have hqi:q≠e:=fun h=>by subst h;exact hdx hdq
   exact hback q hq hqi (hc q hq hdq hqq (hfwd q hn))
 ·have hq1:=YL.1 hq
  have hqi:q≠e:=fun h=>by subst h;exact hq1.2 rfl
  rw [e5 x fun hd=>hst.dst e hits q (I.sub q hq1.1) (fun h=>hqi h.symm) x hd hx]
  exact I.lt q hq1.1 hl x hx
 ·have hq1:=YL.1 hq
  have hqi:q≠e:=fun h=>by subst h;exact hq1.2 rfl
  obtain ⟨y,y1,y2,y3,y4,y5,y6,y7⟩:=I.adopt q hq1.1 (hback q (I.sub q hq1.1) hqi hL) T hT
  refine ⟨y,y1,fun x hx=> ?_,(hev.keep _ y7 y4).trans y3,fun ho=> ?_,fun ad c hi=>y5 ad c (hev.imm ad c hi),y6,Nat.lt_of_lt_of_le y7 hev.size⟩
  ·rw [Wl (hst.dst q (I.sub q hq1.1) e hits hqi x hx)]
   exact y2 x hx
  ·rcases hev.own _ ho with h|h
   ·exact y4 h
   ·omega
 ·have hq1:=YL.1 hq
  have hq2:=YL.1 hq'
  have hqi:q≠e:=fun h=>by subst h;exact hq1.2 rfl
  have hqi':q'≠e:=fun h=>by subst h;exact hq2.2 rfl
  exact I.inj q hq1.1 q' hq2.1 (hback q (I.sub q hq1.1) hqi hL) (hback q' (I.sub q' hq2.1) hqi' hL') hl hl' hb
 ·rw [e2]
  rcases hrm q hq hn with rfl|hn'
  ·exact (e4 x hx).2
  ·exact I.dst q hq x hx hn'
 ·rcases hrm q hq hn with rfl|hn'
  ·exact Z2m _ _
  ·exact Z2n (I.dset q hq hn')
end
end Go.Tk
end
section
namespace Go.Tk
open IntKind (i64 u8 u32 u64 wrap)
section
variable {P:Program} {all:List Oper} {its:List It} {E0:Env} {h0:Z6} {w0:World} {L:Nat→Prop} {bl:Nat→Nat} {rem:List It} {D:Nat} {pend:List (It×AV)} {s:St} {E:Env} {a:Act} {w:World} {cx:Ctx} {X:KE}
theorem finish (hst:Stat P all its) (I:Inv P all its E0 h0 w0 L bl rem D pend s E a w) (hall:∀j,L j) {next:List It→Nat→List (It×AV)→St→KE→Prop} (h:Qf cx P all its next rem D pend s X):
  QJ E0 h0 w0 X .normal a w:=by
 unfold Qf at h
 split at h
 ·exact h.elim
 ·split at h
  ·obtain ⟨rem',D',s',E',hx,I',_,_,_⟩:=Z5u (kept:=[]) hst (fun it _ _ _=>hall it.i) (fun q v _=>.inl (hall q.i)) rem D s E h I (by simp)
   exact ⟨E',.normal,s',hx,I'.evo,⟨I'.evo.emb,⟨I'.size,fun x v hv=>I'.tmps x v hv fun it _ _ _ _=>hall it.i⟩,I'.defs⟩,.normal⟩
  ·rename_i e he
   have h1:=UX he
   have hits:=I.sub e h1.1
   exact absurd h1.1 ((I.eff e hits h1.2).1 (hall e.i))
theorem Z9a {o:Oper} {T:TypeId} (ho:o.op=.alloc T) {z:Value} (hz:∀w,(zeroValue T).run P w=.ok z w) (ρ:Operand→Value) (w:World):
  (execOp ρ o).run P w=.ok (.value (.pointer (some ⟨w.heap.size,0,none⟩))) { w with heap:=w.heap.push (.cells z.cells T (0,0))}:=by
 simp [execOp,ho,Instr.alloc,hz,newVar,newRow]
theorem Zaz {o:Op} {T:TypeId} (h:Y6 o=some T):o=.alloc T:=by
 cases o<;>simp_all [Y6]
theorem Z9b {qm:Bool} (hcx:cx.Ok P) {ro:Option Nat} (hro:cx.inR=none→ro=none) (hst:Stat P all (ZQ qm 0 [] all)) {n:Nat}:
  ∀(fuel:Nat) (listed:Array Bool) (l:List Nat) (ns:Nat) (bl:Nat→Nat) (rem:List It) (D:Nat) (pend:List (It×AV)) (s:St) (E:Env) (a:Act) (w:World),
   l.length≤fuel→(∀j,listed.getD j true=false→j∈l)→listed.size=all.length→
   (∀i o e,all[i]? =some o→listed.getD i true=true→e∈o.after.toList→Region.binds .any e=true→listed.getD e.on true=true)→
   Inv P all (ZQ qm 0 [] all) E0 h0 w0 (fun j=>listed.getD j true=true) bl rem D pend s E a w→
   Qf cx P all (ZQ qm 0 [] all) (Z0n cx P all (ZQ qm 0 [] all) ns) rem D pend s X→
   wpAnyIn (Fr ro) n P .any all.toArray (QJ E0 h0 w0 X) fuel listed a w:=by
 have hlt:∀it∈ZQ qm 0 [] all,∀p,it.m.testBit p=true→p<it.i:=by
  refine Z5v (all:=all) (fun i o e ho he hb=> ?_) (fun j=>by simp) (fun j p h=>by simp [Qd] at h) rfl
  have hi:i<all.length:=by
   rcases Nat.lt_or_ge i all.length with h|h
   ·exact h
   ·rw [List.getElem?_eq_none h] at ho;cases ho
  obtain ⟨it,hit,rfl⟩:=hst.ex i hi
  have:=hst.mem it hit
  rw [this] at ho
  cases ho
  exact hst.edges it hit e he hb
 -- all that may come is listed: all is listed
 have hcomplete:∀listed:Array Bool,listed.size=all.length→Region.ready .any all.toArray listed=[]→∀j,listed.getD j true=true:=fun listed hsz hr j=>by
  induction j using Nat.strongRecOn with
  | _ j ih=>
   cases hj:listed.getD j true with
   | true=>rfl
   | false=>
    have hjl:j<all.length:=by
     rw [←hsz]
     rcases Nat.lt_or_ge j listed.size with h|h
     ·exact h
     ·rw [Array.getD_eq_getD_getElem?,Array.getElem?_eq_none h] at hj;cases hj
    obtain ⟨it,hit,rfl⟩:=hst.ex j hjl
    have hm:=hst.mem it hit
    have:it.i∈Region.ready .any all.toArray listed:=mem_ready.2 ⟨hj,it.o,by simpa using hm,fun e he hb=>by
     have h1:=hst.edges it hit e (by simpa using he) hb
     have h2:=ih e.on h1
     have h3:e.on<listed.size:=by omega
     rw [Array.getD_eq_getD_getElem?,Array.getElem?_eq_getElem h3] at h2⊢
     simpa using h2⟩
    rw [hr] at this
    cases this
 intro fuel
 induction fuel with
 | zero=>
  intro listed l ns bl rem D pend s E a w hl hcov hsz hdown I h
  have hl0:l=[]:=List.length_eq_zero_iff.1 (Nat.le_zero.1 hl)
  have hall:∀j,listed.getD j true=true:=fun j=>by
   cases hj:listed.getD j true with
   | true=>rfl
   | false=>have:=hcov j hj;rw [hl0] at this;cases this
  refine ⟨?_,finish hst I hall h⟩
  cases hr:Region.ready .any all.toArray listed with
  | nil=>rfl
  | cons x xs=>
   have:x∈Region.ready .any all.toArray listed:=by rw [hr];exact List.mem_cons_self ..
   have:=(mem_ready.1 this).1
   rw [hall x] at this;cases this
 | succ fuel ih=>
  intro listed l ns bl rem D pend s E a w hl hcov hsz hdown I h
  refine ⟨fun hr=>finish hst I (hcomplete listed hsz hr) h,fun i hi=> ?_⟩
  obtain ⟨hun,o,ho,hpre⟩:=mem_ready.1 hi
  have ho':all[i]? =some o:=by simpa using ho
  have hil:i<all.length:=by
   rcases Nat.lt_or_ge i all.length with h|h
   ·exact h
   ·rw [List.getElem?_eq_none h] at ho';cases ho'
  obtain ⟨it,hit,hii⟩:=hst.ex i hil
  subst hii
  have hoi:=hst.mem it hit
  rw [ho'] at hoi
  cases hoi
  -- what is listed then
  have hL':(fun j=>(listed.setIfInBounds it.i true).getD j true=true)=(fun j=>listed.getD j true=true∨j=it.i):=by
   funext j
   apply propext
   by_cases hj:it.i=j
   ·subst hj
    have:it.i<listed.size:=by omega
    simp [Array.getD_eq_getD_getElem?,this]
   ·have hj':¬j=it.i:=fun e=>hj e.symm
    simp [Array.getD_eq_getD_getElem?,hj,hj']
  have hpreL:∀e∈it.o.after.toList,Region.binds .any e=true→listed.getD e.on true=true:=fun e he hb=>by
   have h1:=hpre e (by simpa using he) hb
   rw [Array.getD_eq_getD_getElem?] at h1⊢
   cases hq:listed[e.on]? with
   | none=>rfl
   | some b=>rw [hq] at h1;simpa using h1
  have hdown':∀i o e,all[i]? =some o→(listed.getD i true=true∨i=it.i)→e∈o.after.toList→Region.binds .any e=true→(listed.getD e.on true=true∨e.on=it.i):=fun i o e hio hLi he hb=>by
   rcases hLi with hLi|rfl
   ·exact .inl (hdown i o e hio hLi he hb)
   ·rw [ho'] at hio
    cases hio
    exact .inl (hpreL e he hb)
  have hmaskL:∀q∈ZQ qm 0 [] all,(listed.getD q.i true=true)→∀p,q.m.testBit p=true→listed.getD p true=true:=
   Qg (L:=fun j=>listed.getD j true=true) hdown (k:=0) (acc:=[]) rfl (fun j=>by simp) (fun j p hj=>by omega) (fun j _=>by simp [Qd])
  have hmask':∀q∈ZQ qm 0 [] all,(listed.getD q.i true=true∨q.i=it.i)→∀p,q.m.testBit p=true→(listed.getD p true=true∨p=it.i):=
   Qg (L:=fun j=>listed.getD j true=true∨j=it.i) hdown' (k:=0) (acc:=[]) rfl (fun j=>by simp) (fun j p hj=>by omega) (fun j _=>by simp [Qd])
  have hbits:∀p,it.m.testBit p=true→listed.getD p true=true:=fun p hp=>by
   rcases hmask' it hit (.inr rfl) p hp with h1|h1
   ·exact h1
   ·have:=hlt it hit p hp;omega
  -- going on
  have hgo:∀(ns':Nat) (bl':Nat→Nat) (rem':List It) (D':Nat) (pend':List (It×AV)) (s':St) (E':Env) (a':Act) (w':World),
    Inv P all (ZQ qm 0 [] all) E0 h0 w0 (fun j=>listed.getD j true=true∨j=it.i) bl' rem' D' pend' s' E' a' w'→
    Qf cx P all (ZQ qm 0 [] all) (Z0n cx P all (ZQ qm 0 [] all) ns') rem' D' pend' s' X→
    wpAnyIn (Fr ro) n P .any all.toArray (QJ E0 h0 w0 X) fuel (listed.setIfInBounds it.i true) a' w':=fun ns' bl' rem' D' pend' s' E' a' w' I' h'=>by
   refine ih (listed.setIfInBounds it.i true) (l.erase it.i) ns' bl' rem' D' pend' s' E' a' w' ?_ ?_ (by simpa using hsz) ?_ (by rw [hL'];exact I') h'
   ·rw [List.length_erase_of_mem (hcov it.i hun)];omega
   ·intro j hj
    have hne:j≠it.i:=fun e=>by
     subst e
     have:=congrFun hL' it.i
     have h2:(listed.setIfInBounds it.i true).getD it.i true=true:=by rw [this];exact .inr rfl
     rw [h2] at hj;cases hj
    have hj':listed.getD j true=false:=by
     cases hq:listed.getD j true with
     | false=>rfl
     | true=>
      have:=congrFun hL' j
      have h2:(listed.setIfInBounds it.i true).getD j true=true:=by rw [this];exact .inl hq
      rw [h2] at hj;cases hj
    exact (List.mem_erase_of_ne hne).2 (hcov j hj')
   ·intro i o e hio hLi he hb
    have e1:=congrFun hL' i
    have e2:=congrFun hL' e.on
    have h1:(listed.getD i true=true∨i=it.i):=by rw [←e1];exact hLi
    have h2:=hdown' i o e hio h1 he hb
    rw [←e2] at h2
    exact h2
  have hnext:∀(ns':Nat) (bl':Nat→Nat) (rem':List It) (D':Nat) (pend':List (It×AV)) (s':St) (E':Env) (a':Act) (w':World),
    Inv P all (ZQ qm 0 [] all) E0 h0 w0 (fun j=>listed.getD j true=true∨j=it.i) bl' rem' D' pend' s' E' a' w'→
    Z0n cx P all (ZQ qm 0 [] all) ns' rem' D' pend' s' X→
    wpAnyIn (Fr ro) n P .any all.toArray (QJ E0 h0 w0 X) fuel (listed.setIfInBounds it.i true) a' w':=fun ns' bl' rem' D' pend' s' E' a' w' I' h'=>by
   cases ns' with
   | zero=>exact h'.elim
   | succ ns'=>
    obtain ⟨r2,D2,p2,s2,k1,k2⟩:=Z3s hst hmask' rem' [] D' pend' s' h' I'
    exact hgo ns' bl' r2 D2 p2 s2 E' a' w' k2 k1
  unfold wpOpIn
  rw [ho]
  simp only
  rcases kinds it with hq|hef|⟨T,hT⟩
  ·-- quiet
   have hnr:it∉rem:=fun hin=>by
    have h2:=h
    unfold Qf at h2
    split at h2
    ·exact h2
    ·rename_i hchk
     have h3:=(V6 _ _).1 hchk it hin
     simp only [Bool.or_eq_true,Bool.not_eq_true'] at h3
     rcases h3 with h3|h3
     ·rw [hq] at h3;cases h3
     ·have:it.m&&&D=it.m:=by
       apply Nat.eq_of_testBit_eq
       intro p
       rw [Nat.testBit_and]
       cases hp:it.m.testBit p with
       | false=>rfl
       | true=>
        have hpl:=hlt it hit p hp
        obtain ⟨q,hqi,rfl⟩:=hst.ex p (by omega)
        have hLq:=hbits _ hp
        have hqn:q∉rem:=by
         rcases kinds q with h4|h4|⟨T,h4⟩
         ·exact I.quiet q hqi h4 hLq
         ·exact (I.eff q hqi h4).1 hLq
         ·obtain ⟨e,he,h5,h6,h7⟩:=hst.qlate it hit hq q hqi (by rw [h4];rfl) hp
          exact I.born e he (YX h5) ((I.eff e he h5).1 (hbits _ h7)) q hqi h6
        rw [I.dset q hqi hqn]
        rfl
      have h5:Nat.beq (Nat.land it.m D) it.m=true:=by
       show Nat.beq (it.m&&&D) it.m=true
       rw [this];exact Nat.beq_refl _
      rw [h5] at h3;cases h3
   have hnL:¬(listed.getD it.i true=true):=by rw [hun];simp
   obtain ⟨v,hd,hf⟩:=I.fact it hit hq hnr hnL
   have hqe:XB it=false:=by
    cases he:XB it with
    | false=>rfl
    | true=>rw [Yo he] at hq;cases hq
   have hrel:∀x∈Vx all it.o,∀u,ZP s.t x=some u→Zc E u (a.tmps.getD x undef):=fun x hx u hu=>I.tmps x u hu fun q hqi hdq hqq hqn=>by
    have hne:q≠it:=fun e=>by subst e;exact hst.self q hqi hqe x hdq hx
    rcases hst.rd q hqi it hit hne x hdq hx with h3|⟨h3,h4⟩
    ·exact hbits _ h3
    ·rcases h4 with h4|⟨_,e,he,h5,h6,h7⟩
     ·rw [Yo h4] at hqq;cases hqq
     ·have hLe:=(I.eff e he h5).2 (I.born q hqi (Y7 hqq) hqn e he h7)
      exact absurd (hmaskL e he hLe _ h6) hnL
   rcases hf with ⟨hw,_,hsem⟩|⟨hw,rfl⟩
   ·rw [if_pos (Uv hw fun x hx u hu=>hrel x (List.mem_append_left _ hx) u hu)]
    obtain ⟨r,hr,hv⟩:=hsem E w a (fun _=>I.evo.emb) fun x hx u hu=>hrel x (List.mem_append_right _ hx) u hu
    refine ⟨fun _ _=>trivial, ?_⟩
    rw [show (Fr ro).round=ro from rfl,Yf (fun c e=>by unfold YF at hq;rw [e] at hq;simp [Z6Z,Z6Y] at hq),hr]
    exact hgo ns bl rem D pend s E _ w (I.doQuiet hst hit hq hnr hd hv) h
   ·rw [if_neg (by rw [Uv hw fun x hx u hu=>hrel x (List.mem_append_left _ hx) u hu];simp)]
    refine ⟨fun _ _=>trivial, ?_⟩
    exact hgo ns bl rem D pend s E _ w (I.doQuiet hst hit hq hnr hd (.tuple [] [] .nil)) h
  ·-- an effect
   have hnL:¬(listed.getD it.i true=true):=by rw [hun];simp
   have hin:it∈rem:=by
    by_cases hin:it∈rem
    ·exact hin
    ·exact absurd ((I.eff it hit hef).2 hin) hnL
   unfold Qf at h
   split at h
   ·exact h.elim
   ·split at h
    ·rename_i hno
     have:=UW hno it hin
     rw [hef] at this;cases this
    ·rename_i e he
     have hcand:Z3q rem it=true:=by
      unfold Z3q
      rw [hef,VZ fun q hq heq=> ?_]
      ·rfl
      ·cases hb:it.m.testBit q.i with
       | false=>rfl
       | true=>exact absurd hq ((I.eff q (I.sub q hq) heq).1 (hbits _ hb))
     replace h:=Qe h hin hcand
     ·skip
      obtain ⟨rem1,D1,s1,E1,h,I1,k1,k2,_⟩:=Z5u (kept:=[]) hst (fun q hq hl hb=>hbits _ hb) (fun q v hqv=>by
        cases hb:it.m.testBit q.i with
        | true=>exact .inl (hbits _ hb)
        | false=>exact .inr (Uw.2 ⟨hqv,hb⟩)) rem D s E h I (by simp)
      have hin1:it∈rem1:=k2 it (by simpa using hin) (YX hef)
      split at h
      ·exact h.elim
      ·rename_i hland
       have hD:∀p,it.m.testBit p=true→D1.testBit p=true:=fun p hp=>Z0q hland hp
       have hrel:∀x∈Vx all it.o,∀u,ZP s1.t x=some u→Zc E1 u (a.tmps.getD x undef):=fun x hx u hu=>I1.tmps x u hu fun q hqi hdq hqq hqn=>by
        have hne:q≠it:=fun e=>by subst e;rw [Yo hef] at hqq;cases hqq
        rcases hst.rd q hqi it hit hne x hdq hx with h3|⟨h3,_⟩
        ·exact hbits _ h3
        ·exact absurd hin1 (I1.born q hqi (Y7 hqq) hqn it hit h3)
       obtain ⟨s2,g1,g2,g3,g4,g5⟩:=Z0R h
       rcases g5 with ⟨hw,hrun⟩|⟨hw,hskip⟩
       ·rw [if_pos (Uv hw fun x hx u hu=>hrel x (List.mem_append_left _ hx) u hu)]
        split at hrun
        ·rename_i S0 args0 hp0
         rw [g2] at hrun
         have hcore:=Z5m (d:=s1.d) hcx cx.inR hp0 hrun
         refine Z2e (Z92 P cx.inR) hcore I1.evo.emb (m:=a.tmps.size) ⟨rfl,fun x u hu=> ?_⟩ I1.defs I1.evo hro ?_ (fun _ _ _ _ _ hx=>hx.elim)
         ·have:=V5 hu
          exact hrel x (List.mem_append_right _ this.2) u (by rw [←g1 x];exact this.1)
         ·rintro v h' d' E' ds r w' ⟨hk,rfl,rfl⟩ hv hv0 hds hvr
          obtain ⟨s3,hst',j1,j2,j3,j4,j5⟩:=XL hk
          have j1':=j1.trans g2
          refine hnext ns bl _ _ _ s3 E' _ w' (I1.doEff hst hin1 hef hD hbits (s3:=s3) (by rw [j1'];exact hv) (by rw [j1'];exact hv0) (by rw [j3,g4];exact hds) hvr (j2.trans g3) (fun x hx=>⟨(j4 x hx).1,g3▸(j4 x hx).2⟩) (fun x hx=>(j5 x hx).trans (g1 x)) ?_) hst'
          intro q u hqu hs0 ht0
          rw [j1']
          exact hs0.congr ht0
        rw [g2,g4] at hrun
        refine Z2e hcx hrun I1.evo.emb (m:=a.tmps.size) ⟨rfl,fun x u hu=> ?_⟩ I1.defs I1.evo hro ?_ ?_
        ·have:=V5 hu
         exact hrel x (List.mem_append_right _ this.2) u (by rw [←g1 x];exact this.1)
        ·intro v h' d' E' ds r w' hk hv hv0 hds hvr
         obtain ⟨s3,k0,j1,j2,j3,j4,j5⟩:=XL hk
         obtain ⟨hst',hsem⟩:=Vy k0
         simp only at j1 j2 j3 j4 j5
         refine hnext ns bl _ _ _ s3 E' _ w' (I1.doEff hst hin1 hef hD hbits (s3:=s3) (by rw [j1];exact hv) (by rw [j1];exact hv0) (by rw [j3];exact hds) hvr (j2.trans g3) (fun x hx=>⟨(j4 x hx).1,g3▸(j4 x hx).2⟩) (fun x hx=>(j5 x hx).trans (g1 x)) ?_) hst'
         intro q u hqu hs0 ht0
         rcases hsem q u hqu with hw0|hs1
         ·exact (hs0.congr ht0).worldless hw0
         ·exact hs1
        ·intro v h' E' r w' hx hv hv0 hvr
         refine ⟨E',.panic v,_,hx,hv0,⟨hv.emb,⟨I1.size.trans g3.symm,fun x u hu=> ?_⟩,I1.defs.mono hv.le⟩,.panic v r hvr⟩
         have h3:=Qh hu
         exact (I1.tmps x u (by rw [←g1 x];exact h3.1) fun q hq hdq _ _=>absurd hdq (h3.2 q hq)).mono hv.le
       ·rw [if_neg (by rw [Uv hw fun x hx u hu=>hrel x (List.mem_append_left _ hx) u hu];simp)]
        refine ⟨fun _ _=>trivial, ?_⟩
        obtain ⟨s3,k0,j1,j2,j3,j4,j5⟩:=XL hskip
        have hh:s3.h=s1.h:=j1.trans g2
        refine hnext ns bl _ _ _ s3 E1 _ w (I1.doEff hst hin1 hef hD hbits (s3:=s3) (ds:=a.defers) (by rw [hh];exact .refl I1.evo.emb) (by rw [hh];exact I1.evo) (by rw [j3,g4];exact I1.defs) (.tuple [] [] .nil) (j2.trans g3) (fun x hx=>⟨(j4 x hx).1,g3▸(j4 x hx).2⟩) (fun x hx=>(j5 x hx).trans (g1 x)) ?_) k0
        intro q u _ h3 h4
        rw [hh]
        exact h3.congr h4
  ·-- a variable
   have hl2:(Y6 it.o.op).isSome=true:=by rw [hT];rfl
   have hnL:¬(listed.getD it.i true=true):=by rw [hun];simp
   have hin:it∈rem:=by
    by_cases hin:it∈rem
    ·exact hin
    ·exact absurd (I.late it hit hl2 hin) hnL
   obtain ⟨hg,_,cs,hz⟩:=hst.late it hit T hT
   obtain ⟨z,z1,_⟩:=V3 hz
   rw [if_pos (by simp [Region.wanted,hg])]
   refine ⟨fun _ _=>trivial, ?_⟩
   rw [show (Fr ro).round=ro from rfl,Yf (fun c e=>by rw [e] at hT;simp [Y6] at hT),Z9a (Zaz hT) z1]
   exact hgo ns _ rem D pend s E _ _ (I.doLate hst hin hT z1) h
theorem Z5w {qm:Bool} {Z:Prop} {k:Nat} (hcx:cx.Ok P) {ro:Option Nat} (hro:cx.inR=none→ro=none) {id:Nat} {ops:Array Oper} (h:Z7Y cx P ops.toList (ZQ qm 0 [] ops.toList) s X Z):YK P k ro (.region id ops true) s X∨Z:=by
 unfold Z7Y at h
 split at h
 ·rename_i hchk
  refine .inl ?_
  simp only [Bool.and_eq_true] at hchk
  have hst:=ZcL hchk.1.2
  intro E0 h0 w0 E a w n _ hs hev
  refine wpIn_region_any hchk.1.1 ?_
  have e0:ops=ops.toList.toArray:=by simp
  let w1:World:={ w with drawn:=w.drawn+1}
  have hdrew:Evo E s.h w E s.h w1:=Z1D hs.emb rfl rfl rfl ⟨rfl,Nat.le_succ _⟩
  unfold Z0n at h
  have hlist:∀j,(Array.replicate ops.size false).getD j true=true↔ops.size≤j:=fun j=>by
   by_cases hj:j<ops.size
   ·simp [Array.getD_eq_getD_getElem?,hj]
   ·have:ops.size≤j:=by omega
    simp [Array.getD_eq_getD_getElem?,this]
  have hnL:∀it∈ZQ qm 0 [] ops.toList,¬((Array.replicate ops.size false).getD it.i true=true):=fun it hit hL=>by
   have h1:=hst.mem it hit
   rw [hlist] at hL
   rw [List.getElem?_eq_none (by simpa using hL)] at h1
   cases h1
  have hdown:∀i o e,ops.toList[i]? =some o→(Array.replicate ops.size false).getD i true=true→e∈o.after.toList→Region.binds .any e=true→(Array.replicate ops.size false).getD e.on true=true:=fun i o e hio hL=>by
   rw [hlist] at hL
   rw [List.getElem?_eq_none (by simpa using hL)] at hio
   cases hio
  have hpw:(ZQ qm 0 [] ops.toList).Pairwise fun a b=>a.i≠b.i:=by
   rw [List.pairwise_iff_getElem]
   intro i j hi hj hij
   have h1:=Vb (List.getElem?_eq_getElem hi)
   have h2:=Vb (List.getElem?_eq_getElem hj)
   omega
  have I0:Inv P ops.toList (ZQ qm 0 [] ops.toList) E0 h0 w0 (fun j=>(Array.replicate ops.size false).getD j true=true) (fun _=>0) (ZQ qm 0 [] ops.toList) 0 [] { s with t:=Ww s.t (ZQ qm 0 [] ops.toList)} E a w1:=by
   refine ⟨fun _ h=>h,hpw,fun it _ hb=>by simp at hb,fun it hit _ hn=>absurd hit hn,fun it hit _=>⟨fun hL=>absurd hL (hnL it hit),fun hn=>absurd hit hn⟩,fun it hit _ hn=>absurd hit hn,fun it hit _ hL=>absurd hL (hnL it hit),fun it hit _ hn=>absurd hit hn,
    hs.tmps.size,fun x v hx _=>hs.tmps.get x v (Wg hx).1,hs.defs,hev.trans hdrew,fun it hit hl x hx=> ?_,fun it hit hL=>absurd hL (hnL it hit),fun it hit _ _ hL=>absurd hL (hnL it hit),fun it hit _ _ hn=>absurd hit hn,fun it hit hn=>absurd hit hn,fun it hit hl x hx=> ?_⟩
   ·cases hg:ZP (Ww s.t (ZQ qm 0 [] ops.toList)) x with
    | none=>rfl
    | some v=>exact absurd hx ((Wg hg).2 it hit hl)
   ·have h1:=(V6 _ _).1 hchk.2 it hit
    rw [hx] at h1
    simp only [Bool.or_eq_true] at h1
    rcases h1 with h1|h1
    ·rw [Option.isNone_iff_eq_none] at h1;rw [h1] at hl;cases hl
    ·exact Nat.le_of_ble_eq_true h1
  have hmask:∀q∈ZQ qm 0 [] ops.toList,((Array.replicate ops.size false).getD q.i true=true)→∀p,q.m.testBit p=true→(Array.replicate ops.size false).getD p true=true:=fun q hq hL=>absurd hL (hnL q hq)
  obtain ⟨r2,D2,p2,s2,k1,k2⟩:=Z3s hst hmask _ [] 0 [] _ h I0
  have:=Z9b (X:=X) hcx hro hst (n:=n) ops.size (Array.replicate ops.size false) (List.range ops.size) _ _ r2 D2 p2 s2 E a w1 (by simp) (fun j hj=>by
   rw [List.mem_range]
   rcases Nat.lt_or_ge j ops.size with h|h
   ·exact h
   ·rw [(hlist j).2 h] at hj;cases hj) (by simp) hdown k2 k1
  rw [←e0] at this
  exact this
 ·exact .inr h
theorem ZaA {k:Nat} (hcx:cx.Ok P) {ro:Option Nat} (hro:cx.inR=none→ro=none) {id:Nat} {ops:Array Oper} (h:Zay P cx ops.toList s X):YK P k ro (.region id ops true) s X:=by
 unfold Zay at h
 rcases Z5w hcx hro h with h|h
 ·exact h
 ·rcases Z5w hcx hro h with h|h
  ·exact h
  ·exact h.elim
end
end Go.Tk
end
section
namespace Go.Tk
open IntKind (i64 u8 u32 u64 wrap)
abbrev Ren:=List (Nat×Nat)
def Z71:Ren→Nat→Option Nat
 | [],_=>none
 | (y,x)::r,z=>match Nat.beq y z with|true=>some x|false=>Z71 r z
def rn (k:Nat) (τ:Ren) (y:Nat):Option Nat:=match Nat.blt y k with|true=>some y|false=>Z71 τ y
def Env.ren (E:Env) (k:Nat) (τ:Ren):Env:=⟨fun y=>match rn k τ y with|some x=>E.blk x|none=>none,E.imm⟩
theorem Env.ren_some {E:Env} {k:Nat} {τ:Ren} {x y:Nat} (h:rn k τ y=some x):(E.ren k τ).blk y=E.blk x:=by simp [Env.ren,h]
theorem Env.ren_none {E:Env} {k:Nat} {τ:Ren} {y:Nat} (h:rn k τ y=none):(E.ren k τ).blk y=none:=by simp [Env.ren,h]
theorem Env.ren_views {E:Env} {k:Nat} {τ:Ren}:E.views.le (E.ren k τ).views:=⟨fun _ _ h=>by simp [Env.views] at h,fun _ _ h=>h⟩
def Z2o (k:Nat) (τ:Ren) (y x:Nat) (Z:Prop):Prop:=
 match rn k τ y with
 | some x'=>match Nat.beq x' x with
  | true=>Z
  | false=>False
 | none=>False
theorem U0 {k:Nat} {τ:Ren} {y x:Nat} {Z:Prop} (h:Z2o k τ y x Z):rn k τ y=some x∧Z:=by
 unfold Z2o at h
 split at h
 ·rename_i x' hx
  split at h
  ·rename_i hb
   have:=Nat.eq_of_beq_eq_true hb
   subst this
   exact ⟨hx,h⟩
  ·exact h.elim
 ·exact h.elim
def eqP (k:Nat) (τ:Ren) (q p:ZO) (Z:Prop):Prop:=
 Z2o k τ q.blk p.blk (Zx (p.row=q.row) (Zx (p.sz=q.sz) (Zx (p.off=q.off) (Zx (p.inn=q.inn) Z))))
theorem ZaB {k:Nat} {τ:Ren} {q p:ZO} {Z:Prop} (h:eqP k τ q p Z):rn k τ q.blk=some p.blk∧p.tot=q.tot∧Z:=by
 obtain ⟨h0,h⟩:=U0 h
 obtain ⟨h1,h⟩:=Zb h
 obtain ⟨h2,h⟩:=Zb h
 obtain ⟨h3,h⟩:=Zb h
 obtain ⟨h4,h⟩:=Zb h
 exact ⟨h0,by simp [ZO.tot,h1,h2,h3,h4],h⟩
mutual
/-- A value (behind) taken for another (ahead). -/
def eqV (k:Nat) (τ:Ren):AV→AV→Prop→Prop
 | .top,_,Z=>Z
 | .bool b,v,Z=>match v with
  | .bool a=>Zx (a=b) Z
  | _=>False
 | .int kk b,v,Z=>match v with
  | .int kk' a=>match decide (kk'=kk) with
   | true=>Zx (a=b) Z
   | false=>False
  | _=>False
 | .str b,v,Z=>match v with
  | .str a=>a=b∧Z
  | _=>False
 | .ptr none,v,Z=>match v with
  | .ptr none=>Z
  | _=>False
 | .ptr (some q),v,Z=>match v with
  | .ptr (some p)=>eqP k τ q p Z
  | _=>False
 | .pview cs inn,v,Z=>match v with
  | .pview cs' inn'=>cs'=cs∧Zx (inn'=inn) Z
  | _=>False
 | .nslice q esz len lo,v,Z=>match v with
  | .nslice p esz' len' lo'=>eqP k τ q p (Zx (esz'=esz) (Zx (len'=len) (Zx (lo≤lo') Z)))
  | .nilslice=>Zx (len=0) (Zx (lo=0) Z)
  | .eslice=>Zx (len=0) (Zx (lo=0) Z)
  | _=>False
 | .vints kk xs len,v,Z=>match v with
  | .vints kk' xs' len'=>match decide (kk'=kk) with
   | true=>xs'=xs∧Zx (len'=len) Z
   | false=>False
  | _=>False
 | .vrows esz n f len,v,Z=>match v with
  | .vrows esz' n' f' len'=>Zx (esz'=esz) (Zx (n'=n) (f'=f∧Zx (len'=len) Z))
  | _=>False
 | .eslice,v,Z=>match v with
  | .eslice=>Z
  | .nilslice=>Z
  | _=>False
 | .fslice,v,Z=>match v with
  | .fslice=>Z
  | _=>False
 | .nilslice,v,Z=>match v with
  | .nilslice=>Z
  | _=>False
 | .map none,v,Z=>match v with
  | .map none=>Z
  | _=>False
 | .map (some y),v,Z=>match v with
  | .map (some x)=>Z2o k τ y x Z
  | _=>False
 | .func (.func g) fs cs,v,Z=>match v with
  | .func (.func g') fs' cs'=>match Nat.beq g' g with
   | true=>eqL k τ fs fs' (eqL k τ cs cs' Z)
   | false=>False
  | _=>False
 | .func _ _ _,_,_=>False
 | .yield y,v,Z=>match v with
  | .yield x=>Z2o k τ y x Z
  | _=>False
 | .nilFunc,v,Z=>match v with
  | .nilFunc=>Z
  | _=>False
 | .nilIface,v,Z=>match v with
  | .nilIface=>Z
  | _=>False
 | .iface t u,v,Z=>match v with
  | .iface t' u'=>match Nat.beq t' t with
   | true=>eqV k τ u u' Z
   | false=>False
  | _=>False
 | .agg cs,v,Z=>match v with
  | .agg cs'=>eqC k τ cs cs' Z
  | _=>False
 | .arr _ _ _,_,_=>False
 | .tuple vs,v,Z=>match v with
  | .tuple vs'=>eqL k τ vs vs' Z
  | _=>False
def eqC (k:Nat) (τ:Ren):List AV→List AV→Prop→Prop
 | [],l,Z=>match l with
  | []=>Z
  | _::_=>False
 | .arr kk n xs::r,l,Z=>match l with
  | .arr kk' n' xs'::r'=>match decide (kk'=kk)&&Nat.beq n' n with
   | true=>xs'=xs∧eqC k τ r r' Z
   | false=>False
  | _=>False
 | v::r,l,Z=>match l with
  | v'::r'=>match v.isCell&&v'.isCell with
   | true=>eqV k τ v v' (eqC k τ r r' Z)
   | false=>False
  | []=>False
def eqL (k:Nat) (τ:Ren):List AV→List AV→Prop→Prop
 | [],l,Z=>match l with
  | []=>Z
  | _::_=>False
 | v::r,l,Z=>match l with
  | v'::r'=>eqV k τ v v' (eqL k τ r r' Z)
  | []=>False
end
theorem Z5x {v:AV} (h:v.isCell=true) (r:List AV):csz (v::r)=1+csz r:=by
 cases v<;>simp_all [csz,AV.isCell]
set_option maxHeartbeats 1000000 in
mutual
theorem U1 {k:Nat} {τ:Ren}:∀(v₂ v:AV) (Z:Prop),eqV k τ v₂ v Z→Z∧∀(E:Env) (r:Value),Zc E v r→Zc (E.ren k τ) v₂ r
 | .top,v,Z,h=>⟨by unfold eqV at h;exact h,fun E r _=>.top r⟩
 | .bool b,v,Z,h=>by
  unfold eqV at h
  split at h
  ·replace h:=Zb h;obtain ⟨rfl,h⟩:=h
   exact ⟨h,fun E r hv=>by cases hv;exact .bool _⟩
  ·exact h.elim
 | .int kk b,v,Z,h=>by
  unfold eqV at h
  split at h
  ·split at h
   ·rename_i hk
    have hk:=of_decide_eq_true hk
    subst hk
    replace h:=Zb h;obtain ⟨rfl,h⟩:=h
    exact ⟨h,fun E r hv=>by cases hv;exact .int _ _⟩
   ·exact h.elim
  ·exact h.elim
 | .str b,v,Z,h=>by
  unfold eqV at h
  split at h
  ·obtain ⟨rfl,h⟩:=h
   exact ⟨h,fun E r hv=>by cases hv;exact .str _⟩
  ·exact h.elim
 | .ptr none,v,Z,h=>by
  unfold eqV at h
  split at h
  ·exact ⟨h,fun E r hv=>by cases hv;exact .nilptr⟩
  ·exact h.elim
 | .ptr (some q),v,Z,h=>by
  unfold eqV at h
  split at h
  ·obtain ⟨h1,h2,h3⟩:=ZaB h
   refine ⟨h3,fun E r hv=> ?_⟩
   cases hv
   rename_i b N hb
   rw [h2]
   exact .ptr q b N (by rw [Env.ren_some h1];exact hb)
  ·exact h.elim
 | .pview cs inn,v,Z,h=>by
  unfold eqV at h
  split at h
  ·obtain ⟨rfl,h⟩:=h
   replace h:=Zb h;obtain ⟨rfl,h⟩:=h
   refine ⟨h,fun E r hv=> ?_⟩
   cases hv with
   | pview cs inn a vs hc hi=>exact .pview _ _ a vs (hc.mono Env.ren_views) hi
  ·exact h.elim
 | .nslice q esz len lo,v,Z,h=>by
  unfold eqV at h
  split at h
  ·replace h:=ZaB h;obtain ⟨h1,h2,h⟩:=h
   replace h:=Zb h;obtain ⟨rfl,h⟩:=h
   replace h:=Zb h;obtain ⟨rfl,h⟩:=h
   obtain ⟨h4,h⟩:=Zb h
   refine ⟨h,fun E r hv=> ?_⟩
   cases hv with
   | nslice0 p esz len lo a e1 e2=>exact .nslice0 _ _ _ _ a e1 (by omega)
   | nslice p esz len lo b N cap hb e1 e2 e3=>
    rw [h2]
    exact .nslice q _ _ _ b N cap (by rw [Env.ren_some h1];exact hb) e1 (by omega) (by omega)
  ·replace h:=Zb h;obtain ⟨rfl,h⟩:=h
   replace h:=Zb h;obtain ⟨rfl,h⟩:=h
   exact ⟨h,fun E r hv=>by cases hv;exact .nslice0 _ _ _ _ _ rfl rfl⟩
  ·replace h:=Zb h;obtain ⟨rfl,h⟩:=h
   replace h:=Zb h;obtain ⟨rfl,h⟩:=h
   exact ⟨h,fun E r hv=>by cases hv;exact .nslice0 _ _ _ _ _ rfl rfl⟩
  ·exact h.elim
 | .vints kk xs len,v,Z,h=>by
  unfold eqV at h
  split at h
  ·split at h
   ·rename_i hk
    have hk:=of_decide_eq_true hk
    subst hk
    obtain ⟨rfl,h⟩:=h
    replace h:=Zb h;obtain ⟨rfl,h⟩:=h
    refine ⟨h,fun E r hv=> ?_⟩
    cases hv with
    | vintsNil k xs len h1 h2=>exact .vintsNil _ _ _ h1 h2
    | vints k xs len a cap h1 h2 hi=>exact .vints _ _ _ a cap h1 h2 hi
   ·exact h.elim
  ·exact h.elim
 | .vrows esz n f len,v,Z,h=>by
  unfold eqV at h
  split at h
  ·replace h:=Zb h;obtain ⟨rfl,h⟩:=h
   replace h:=Zb h;obtain ⟨rfl,h⟩:=h
   obtain ⟨rfl,h⟩:=h
   replace h:=Zb h;obtain ⟨rfl,h⟩:=h
   refine ⟨h,fun E r hv=> ?_⟩
   cases hv with
   | vrowsNil esz n f len h1 h2=>exact .vrowsNil _ _ _ _ h1 h2
   | vrows esz n f len a cap g h1 h2 hc hl hi=>exact .vrows _ _ _ _ a cap g h1 h2 (fun i hi'=>(hc i hi').mono Env.ren_views) hl hi
  ·exact h.elim
 | .eslice,v,Z,h=>by
  unfold eqV at h
  split at h
  ·exact ⟨h,fun E r hv=>by cases hv;exact .eslice _⟩
  ·exact ⟨h,fun E r hv=>by cases hv;exact .eslice _⟩
  ·exact h.elim
 | .fslice,v,Z,h=>by
  unfold eqV at h
  split at h
  ·exact ⟨h,fun E r hv=>by cases hv;exact .fslice _ _⟩
  ·exact h.elim
 | .nilslice,v,Z,h=>by
  unfold eqV at h
  split at h
  ·exact ⟨h,fun E r hv=>by cases hv;exact .nilslice⟩
  ·exact h.elim
 | .map none,v,Z,h=>by
  unfold eqV at h
  split at h
  ·exact ⟨h,fun E r hv=>by cases hv;exact .nilmap⟩
  ·exact h.elim
 | .map (some y),v,Z,h=>by
  unfold eqV at h
  split at h
  ·obtain ⟨h1,h⟩:=U0 h
   refine ⟨h,fun E r hv=> ?_⟩
   cases hv
   rename_i b N hb
   exact .map y b N (by rw [Env.ren_some h1];exact hb)
  ·exact h.elim
 | .func (.func g) fs cs,v,Z,h=>by
  unfold eqV at h
  split at h
  ·split at h
   ·rename_i hb
    have:=Nat.eq_of_beq_eq_true hb
    subst this
    obtain ⟨h,h1⟩:=Qi fs _ _ h
    obtain ⟨h,h2⟩:=Qi cs _ _ h
    refine ⟨h,fun E r hv=> ?_⟩
    cases hv
    rename_i a b ha hb
    exact .func _ _ _ a b (h1 E _ ha) (h2 E _ hb)
   ·exact h.elim
  ·exact h.elim
 | .func (.method _) _ _,v,Z,h=>by unfold eqV at h;exact h.elim
 | .func (.methodOf _ _) _ _,v,Z,h=>by unfold eqV at h;exact h.elim
 | .func (.via _ _ _ _) _ _,v,Z,h=>by unfold eqV at h;exact h.elim
 | .func (.yield _) _ _,v,Z,h=>by unfold eqV at h;exact h.elim
 | .yield y,v,Z,h=>by
  unfold eqV at h
  split at h
  ·obtain ⟨h1,h⟩:=U0 h
   refine ⟨h,fun E r hv=> ?_⟩
   cases hv
   rename_i b N hb
   exact .yield y b N (by rw [Env.ren_some h1];exact hb)
  ·exact h.elim
 | .nilFunc,v,Z,h=>by
  unfold eqV at h
  split at h
  ·exact ⟨h,fun E r hv=>by cases hv;exact .nilFunc⟩
  ·exact h.elim
 | .nilIface,v,Z,h=>by
  unfold eqV at h
  split at h
  ·exact ⟨h,fun E r hv=>by cases hv;exact .nilIface⟩
  ·exact h.elim
 | .iface t u,v,Z,h=>by
  unfold eqV at h
  split at h
  ·split at h
   ·rename_i hb
    have:=Nat.eq_of_beq_eq_true hb
    subst this
    obtain ⟨h,h1⟩:=U1 u _ _ h
    refine ⟨h,fun E r hv=> ?_⟩
    cases hv
    rename_i x hx
    exact .iface _ _ _ (h1 E _ hx)
   ·exact h.elim
  ·exact h.elim
 | .agg cs,v,Z,h=>by
  unfold eqV at h
  split at h
  ·obtain ⟨h,_,h1⟩:=Z2p cs _ _ h
   refine ⟨h,fun E r hv=> ?_⟩
   cases hv
   rename_i vs hc
   exact .agg _ _ (h1 E _ hc)
  ·exact h.elim
 | .arr _ _ _,v,Z,h=>by unfold eqV at h;exact h.elim
 | .tuple vs,v,Z,h=>by
  unfold eqV at h
  split at h
  ·obtain ⟨h,h1⟩:=Qi vs _ _ h
   refine ⟨h,fun E r hv=> ?_⟩
   cases hv
   rename_i rs hl
   exact .tuple _ _ (h1 E _ hl)
  ·exact h.elim
theorem Z2p {k:Nat} {τ:Ren}:∀(l₂ l:List AV) (Z:Prop),eqC k τ l₂ l Z→Z∧csz l=csz l₂∧∀(E:Env) (r:List Value),Zq E l r→Zq (E.ren k τ) l₂ r
 | [],l,Z,h=>by
  unfold eqC at h
  split at h
  ·exact ⟨h,rfl,fun E r hv=>by cases hv;exact .nil⟩
  ·exact h.elim
 | v::r,l,Z,h=>by
  by_cases ha:∃kk n xs,v=.arr kk n xs
  ·obtain ⟨kk,n,xs,rfl⟩:=ha
   unfold eqC at h
   split at h
   ·split at h
    ·rename_i hb
     rw [Bool.and_eq_true] at hb
     have h1:=of_decide_eq_true hb.1
     have h2:=Nat.eq_of_beq_eq_true hb.2
     subst h1 h2
     obtain ⟨rfl,h⟩:=h
     obtain ⟨h,hz,h3⟩:=Z2p r _ _ h
     refine ⟨h,by simp [csz,hz],fun E q hv=> ?_⟩
     obtain ⟨cs',rfl,ht⟩:=Zq.cons_arr hv
     exact .arr _ _ _ _ _ (h3 E _ ht)
    ·exact h.elim
   ·exact h.elim
  ·have he:eqC k τ (v::r) l Z=(match l with
     | v'::r'=>match v.isCell&&v'.isCell with
      | true=>eqV k τ v v' (eqC k τ r r' Z)
      | false=>False
     | []=>False):=by
    cases v<;>first|(exact absurd ⟨_,_,_,rfl⟩ ha)|(cases l<;>rfl)
   rw [he] at h
   split at h
   ·split at h
    ·rename_i hb
     rw [Bool.and_eq_true] at hb
     obtain ⟨h,h1⟩:=U1 v _ _ h
     obtain ⟨h,hz,h3⟩:=Z2p r _ _ h
     refine ⟨h,by rw [Z5x hb.1,Z5x hb.2,hz],fun E q hv=> ?_⟩
     cases hv with
     | one v' c vs cs h0 hc hvr t=>exact .one _ _ _ _ hb.1 hc (h1 E _ hvr) (h3 E _ t)
     | arr k n xs vs cs t=>simp [AV.isCell] at hb
    ·exact h.elim
   ·exact h.elim
theorem Qi {k:Nat} {τ:Ren}:∀(l₂ l:List AV) (Z:Prop),eqL k τ l₂ l Z→Z∧∀(E:Env) (r:List Value),ZE E l r→ZE (E.ren k τ) l₂ r
 | [],l,Z,h=>by
  unfold eqL at h
  split at h
  ·exact ⟨h,fun E r hv=>by cases hv;exact .nil⟩
  ·exact h.elim
 | v::r,l,Z,h=>by
  unfold eqL at h
  split at h
  ·obtain ⟨h,h1⟩:=U1 v _ _ h
   obtain ⟨h,h2⟩:=Qi r _ _ h
   refine ⟨h,fun E q hv=> ?_⟩
   cases hv
   rename_i c cs hc ht
   exact .cons _ _ _ _ (h1 E _ hc) (h2 E _ ht)
  ·exact h.elim
end
theorem ZE.at {E:Env}:∀{vs:List AV} {rs:List Value} {i:Nat} {v:AV} {r:Value},ZE E vs rs→vs[i]? =some v→rs[i]? =some r→Zc E v r
 | _,_,0,v,r,.cons _ _ _ _ h _,h1,h2=>by
  simp at h1 h2;subst h1 h2;exact h
 | _,_,i+1,v,r,.cons _ _ _ _ _ t,h1,h2=>ZE.at t (by simpa using h1) (by simpa using h2)
 | _,_,_,v,r,.nil,h1,_=>by simp at h1
inductive Z72 (k:Nat) (τ:Ren) (n:Nat) (kf vf kf' vf':Nat→AV):Prop
 | mk (h:∀i,i<n→eqV k τ (kf i) (kf' i) True∧eqV k τ (vf i) (vf' i) True):Z72 k τ n kf vf kf' vf'
inductive Zd (k:Nat) (τ:Ren) (n:Nat) (f f':Nat→List AV):Prop
 | mk (h:∀i,i<n→eqC k τ (f i) (f' i) True):Zd k τ n f f'
def eqB (k:Nat) (τ:Ren):Blk→Blk→Prop→Prop
 | .flat cs,B,Z=>match B with
  | .flat cs'=>eqC k τ cs cs' Z
  | _=>False
 | .ints kk xs,B,Z=>match B with
  | .ints kk' xs'=>match decide (kk'=kk) with
   | true=>xs'=xs∧Z
   | false=>False
  | _=>False
 | .rows sz n f,B,Z=>match B with
  | .rows sz' n' f'=>match Nat.beq sz' sz with
   | true=>Zx (n'=n) (Zd k τ n f f'∧Z)
   | false=>False
  | _=>False
 | .map es,B,Z=>match B with
  | .map es'=>eqL k τ (es.map (·.1)) (es'.map (·.1)) (eqL k τ (es.map (·.2)) (es'.map (·.2)) Z)
  | _=>False
 | .fmap n kf vf,B,Z=>match B with
  | .fmap n' kf' vf'=>Zx (n'=n) (Z72 k τ n kf vf kf' vf'∧Z)
  | .map es'=>Zx (es'.length=n) (Z72 k τ n kf vf (fun i=>(es'.getD i (.top,.top)).1) (fun i=>(es'.getD i (.top,.top)).2)∧Z)
  | _=>False
 | .loop l,B,Z=>match B with
  | .loop l'=>(l'.state=l.state∧l'.pending=l.pending∧l'.fn=l.fn∧l'.n=l.n∧l'.params=l.params∧l'.assign=l.assign∧l'.body=l.body)∧Z2o k τ l.defers l'.defers (eqT k τ l'.tmps Z l.tmps)
  | _=>False
 | .defd,B,Z=>match B with
  | .defd=>Z
  | _=>False
where eqT (k:Nat) (τ:Ren) (t:Ya) (Z:Prop):Ya→Prop
 | []=>Z
 | (x,v₂)::r=>match ZP t x with
  | some v=>eqV k τ v₂ v (eqT k τ t Z r)
  | none=>match v₂ with
   | .top=>eqT k τ t Z r
   | _=>False
theorem Z4z {k:Nat} {τ:Ren} {t:Ya} {Z:Prop}:∀(t₂:Ya),eqB.eqT k τ t Z t₂→Z∧∀(E:Env) (n:Nat) (tm:Array Value),WT E n t tm→WT (E.ren k τ) n t₂ tm
 | [],h=>⟨h,fun E n tm ht=>⟨ht.size,fun x v hx=>by simp [ZP] at hx⟩⟩
 | (y,v₂)::r,h=>by
  unfold eqB.eqT at h
  split at h
  ·rename_i v hv
   obtain ⟨h,h1⟩:=U1 _ _ _ h
   obtain ⟨h,h2⟩:=Z4z r h
   refine ⟨h,fun E n tm ht=>⟨ht.size,fun x u hx=> ?_⟩⟩
   simp only [ZP] at hx
   split at hx
   ·rename_i hb
    have:=Nat.eq_of_beq_eq_true hb
    subst this
    cases hx
    exact h1 E _ (ht.get _ _ hv)
   ·exact (h2 E n tm ht).get x u hx
  ·split at h
   ·obtain ⟨h,h2⟩:=Z4z r h
    refine ⟨h,fun E n tm ht=>⟨ht.size,fun x u hx=> ?_⟩⟩
    simp only [ZP] at hx
    split at hx
    ·cases hx;exact .top _
    ·exact (h2 E n tm ht).get x u hx
   ·exact h.elim
theorem Zf4 {k:Nat} {τ:Ren} {B₂ B:Blk} {Z:Prop} (h:eqB k τ B₂ B Z):
  Z∧∀(E:Env) (w:World) (x y:Nat),rn k τ y=some x→Yr E w x B→Yr (E.ren k τ) w y B₂:=by
 unfold eqB at h
 split at h
 ·split at h
  ·obtain ⟨h,hz,h1⟩:=Z2p _ _ _ h
   refine ⟨h,fun E w x y hy hB=> ?_⟩
   cases hB with
   | flat0 cs h0 hn=>exact .flat0 _ (by omega) (by rw [Env.ren_some hy];exact hn)
   | flat cs b cells elem fr vs hb hw hf hc hv=>exact .flat _ b cells elem fr vs (by rw [Env.ren_some hy];exact hb) hw hf (h1 E _ hc) hv
  ·exact h.elim
 ·split at h
  ·split at h
   ·rename_i hk
    have hk:=of_decide_eq_true hk
    subst hk
    obtain ⟨rfl,h⟩:=h
    refine ⟨h,fun E w x y hy hB=> ?_⟩
    cases hB with
    | ints0 kk xs h0 hn=>exact .ints0 _ _ h0 (by rw [Env.ren_some hy];exact hn)
    | ints kk xs b cells elem fr hb hw hf hv=>exact .ints _ _ b cells elem fr (by rw [Env.ren_some hy];exact hb) hw hf hv
   ·exact h.elim
  ·exact h.elim
 ·split at h
  ·split at h
   ·rename_i hk
    have hk:=Nat.eq_of_beq_eq_true hk
    subst hk
    replace h:=Zb h
    obtain ⟨rfl,⟨h1⟩,h⟩:=h
    refine ⟨h,fun E w x y hy hB=> ?_⟩
    cases hB with
    | rows0 sz n f h0 hn=>exact .rows0 _ _ _ h0 (by rw [Env.ren_some hy];exact hn)
    | rows sz n f b cells elem fr g hb hw hf hc hl hv=>exact .rows _ _ _ b cells elem fr g (by rw [Env.ren_some hy];exact hb) hw hf (fun i hi=>(Z2p _ _ _ (h1 i hi)).2.2 E _ (hc i hi)) hl hv
   ·exact h.elim
  ·exact h.elim
 ·split at h
  ·obtain ⟨h,h1⟩:=Qi _ _ _ h
   obtain ⟨h,h2⟩:=Qi _ _ _ h
   refine ⟨h,fun E w x y hy hB=> ?_⟩
   cases hB with
   | map es b ents clock hb hw hk hv=>exact .map _ b ents clock (by rw [Env.ren_some hy];exact hb) hw (h1 E _ hk) (h2 E _ hv)
  ·exact h.elim
 ·split at h
  ·replace h:=Zb h
   obtain ⟨rfl,⟨h1⟩,h⟩:=h
   refine ⟨h,fun E w x y hy hB=> ?_⟩
   cases hB with
   | fmap n kf vf b ents clock hb hw hl hk hv=>
    refine .fmap _ _ _ b ents clock (by rw [Env.ren_some hy];exact hb) hw hl (fun i e he=> ?_) (fun i e he=> ?_)
    ·have hi:=(List.getElem?_eq_some_iff.1 he).1
     exact (U1 _ _ _ (h1 i (by omega)).1).2 E _ (hk i e he)
    ·have hi:=(List.getElem?_eq_some_iff.1 he).1
     exact (U1 _ _ _ (h1 i (by omega)).2).2 E _ (hv i e he)
  ·replace h:=Zb h
   obtain ⟨rfl,⟨h1⟩,h⟩:=h
   refine ⟨h,fun E w x y hy hB=> ?_⟩
   cases hB with
   | map es b ents clock hb hw hk hv=>
    have hl:=hk.length
    simp only [List.length_map] at hl
    refine .fmap _ _ _ b ents clock (by rw [Env.ren_some hy];exact hb) hw hl (fun i e he=> ?_) (fun i e he=> ?_)
    ·have hi:=(List.getElem?_eq_some_iff.1 he).1
     refine (U1 _ _ _ (h1 i (by omega)).1).2 E _ ?_
     refine ZE.at hk (i:=i) ?_ ?_
     ·have hq:=List.getElem?_eq_getElem (l:=_) (show i<List.length _ from hl▸hi);simp only [List.getElem?_map,List.getD_eq_getElem?_getD,hq,Option.map_some,Option.getD_some]
     ·rw [List.getElem?_map,he];rfl
    ·have hi:=(List.getElem?_eq_some_iff.1 he).1
     refine (U1 _ _ _ (h1 i (by omega)).2).2 E _ ?_
     refine ZE.at hv (i:=i) ?_ ?_
     ·have hq:=List.getElem?_eq_getElem (l:=_) (show i<List.length _ from hl▸hi);simp only [List.getElem?_map,List.getD_eq_getElem?_getD,hq,Option.map_some,Option.getD_some]
     ·rw [List.getElem?_map,he];rfl
  ·exact h.elim
 ·split at h
  ·obtain ⟨⟨e1,e2,e3,e4,e5,e6,e7⟩,h⟩:=h
   obtain ⟨hd',h⟩:=U0 h
   obtain ⟨h,h1⟩:=Z4z _ h
   refine ⟨h,fun E w x y hy hB=> ?_⟩
   cases hB with
   | loop l0 b d N fnr tm hb hd hw ht=>
    refine .loop _ b d N fnr tm (by rw [Env.ren_some hy];exact hb) (by rw [Env.ren_some hd'];exact hd) ?_ (h1 E _ _ (e4▸ht))
    rw [e1,e2,e5,e6,e7] at hw
    exact hw
  ·exact h.elim
 ·split at h
  ·refine ⟨h,fun E w x y hy hB=> ?_⟩
   cases hB with
   | defd b hb hw=>exact .defd b (by rw [Env.ren_some hy];exact hb) hw
  ·exact h.elim
def ZaC:Blk→Prop→Prop
 | .flat cs,Z=>Zx (csz cs=0) Z
 | .ints _ xs,Z=>xs=[]∧Z
 | .rows _ n _,Z=>Zx (n=0) Z
 | _,_=>False
theorem ZaD {B:Blk} {Z:Prop} (h:ZaC B Z):Z∧∀(E:Env) (w:World) (y:Nat),E.blk y=none→Yr E w y B:=by
 unfold ZaC at h
 split at h
 ·obtain ⟨h1,h⟩:=Zb h
  exact ⟨h,fun E w y hy=>.flat0 _ h1 hy⟩
 ·exact ⟨h.2,fun E w y hy=>.ints0 _ _ h.1 hy⟩
 ·obtain ⟨h1,h⟩:=Zb h
  exact ⟨h,fun E w y hy=>.rows0 _ _ _ h1 hy⟩
 ·exact h.elim
def eqH (k:Nat) (τ:Ren) (h:Z6) (Z:Prop):List (Nat×Blk)→Prop
 | []=>Z
 | (y,B₂)::r=>match rn k τ y with
  | some x=>match ZF h.bs x with
   | some B=>eqB k τ B₂ B (eqH k τ h Z r)
   | none=>False
  | none=>ZaC B₂ (eqH k τ h Z r)
theorem Z73 {k:Nat} {τ:Ren} {h:Z6} {Z:Prop}:∀(bs:List (Nat×Blk)),eqH k τ h Z bs→Z∧∀y B₂,ZF bs y=some B₂→
  (rn k τ y=none∧∀(E:Env) (w:World),E.blk y=none→Yr E w y B₂)∨∃x B,rn k τ y=some x∧h.get x=some B∧∀(E:Env) (w:World),Yr E w x B→Yr (E.ren k τ) w y B₂
 | [],hl=>⟨hl,fun y B₂ hy=>by simp [ZF] at hy⟩
 | (z,B)::r,hl=>by
  unfold eqH at hl
  split at hl
  ·rename_i x hx
   split at hl
   ·rename_i B' hB'
    obtain ⟨hl,h1⟩:=Zf4 hl
    obtain ⟨hl,h2⟩:=Z73 r hl
    refine ⟨hl,fun y B₂ hy=> ?_⟩
    simp only [ZF] at hy
    split at hy
    ·rename_i hb
     have:=Nat.eq_of_beq_eq_true hb
     subst this
     cases hy
     exact .inr ⟨x,B',hx,hB',fun E w hB=>h1 E w x _ hx hB⟩
    ·exact h2 y B₂ hy
   ·exact hl.elim
  ·rename_i hx
   obtain ⟨hl,h1⟩:=ZaD hl
   obtain ⟨hl,h2⟩:=Z73 r hl
   refine ⟨hl,fun y B₂ hy=> ?_⟩
   simp only [ZF] at hy
   split at hy
   ·rename_i hb
    have:=Nat.eq_of_beq_eq_true hb
    subst this
    cases hy
    exact .inl ⟨hx,fun E w he=>h1 E w _ he⟩
   ·exact h2 y B₂ hy
def Z5y (k:Nat) (τ:Ren) (x:Nat):List (Nat×Blk)→Bool
 | []=>true
 | (y,_)::r=>match rn k τ y with
  | some x'=> !(Nat.beq x' x)&&Z5y k τ x r
  | none=>Z5y k τ x r
def Z80 (k:Nat) (τ:Ren):List (Nat×Blk)→Bool
 | []=>true
 | (y,_)::r=>(match rn k τ y with|some x=>Z5y k τ x r|none=>true)&&Z80 k τ r
def ltB (m:Nat):List (Nat×Blk)→Bool
 | []=>true
 | (y,_)::r=>Nat.blt y m&&ltB m r
def ltR (m:Nat):Ren→Bool
 | []=>true
 | (y,_)::r=>Nat.blt y m&&ltR m r
theorem Z2q {bs:List (Nat×Blk)} {y:Nat} {B:Blk} (h:ZF bs y=some B):∃B',(y,B')∈bs:=by
 induction bs with
 | nil=>simp [ZF] at h
 | cons p r ih=>
  obtain ⟨z,C⟩:=p
  simp only [ZF] at h
  split at h
  ·rename_i hb
   have:=Nat.eq_of_beq_eq_true hb
   subst this
   exact ⟨C,List.mem_cons_self ..⟩
  ·obtain ⟨B',hm⟩:=ih h
   exact ⟨B',List.mem_cons_of_mem _ hm⟩
theorem QM {k:Nat} {τ:Ren} {x:Nat}:∀{bs:List (Nat×Blk)},Z5y k τ x bs=true→∀y B,(y,B)∈bs→rn k τ y≠some x
 | (z,C)::r,h,y,B,hm=>by
  unfold Z5y at h
  rcases List.mem_cons.1 hm with e|hm
  ·cases e
   split at h
   ·rename_i x' hx'
    rw [Bool.and_eq_true] at h
    intro hy
    rw [hx'] at hy
    cases hy
    simp [Nat.beq_refl] at h
   ·rename_i hx'
    rw [hx'];simp
  ·split at h
   ·rw [Bool.and_eq_true] at h
    exact QM h.2 y B hm
   ·exact QM h y B hm
theorem Z5z {k:Nat} {τ:Ren}:∀{bs:List (Nat×Blk)},Z80 k τ bs=true→∀y z B C x,(y,B)∈bs→(z,C)∈bs→rn k τ y=some x→rn k τ z=some x→y=z
 | (u,D)::r,h,y,z,B,C,x,hy,hz,ey,ez=>by
  unfold Z80 at h
  rw [Bool.and_eq_true] at h
  rcases List.mem_cons.1 hy with e1|hy'<;>rcases List.mem_cons.1 hz with e2|hz'
  ·cases e1;cases e2;rfl
  ·cases e1
   rw [ey] at h
   exact absurd ez (QM h.1 z C hz')
  ·cases e2
   rw [ez] at h
   exact absurd ey (QM h.1 y B hy')
  ·exact Z5z h.2 y z B C x hy' hz' ey ez
theorem ZaE {m:Nat}:∀{bs:List (Nat×Blk)},ltB m bs=true→∀y B,(y,B)∈bs→y<m
 | (z,C)::r,h,y,B,hm=>by
  unfold ltB at h
  rw [Bool.and_eq_true] at h
  rcases List.mem_cons.1 hm with e|hm
  ·cases e;exact Nat.le_of_ble_eq_true h.1
  ·exact ZaE h.2 y B hm
theorem ZaF {m:Nat}:∀{τ:Ren},ltR m τ=true→∀y x,Z71 τ y=some x→y<m
 | [],_,y,x,hy=>by simp [Z71] at hy
 | (z,u)::r,h,y,x,hy=>by
  unfold ltR at h
  rw [Bool.and_eq_true] at h
  simp only [Z71] at hy
  split at hy
  ·rename_i hb
   have:=Nat.eq_of_beq_eq_true hb
   subst this
   exact Nat.le_of_ble_eq_true h.1
  ·exact ZaF h.2 y x hy
def eqD (k:Nat) (τ:Ren) (Z:Prop):List VW→List VW→Prop
 | [],l=>match l with
  | []=>Z
  | _::_=>False
 | .call f args::r,l=>match l with
  | .call f' args'::r'=>match Nat.beq f' f with
   | true=>eqL k τ args args' (eqD k τ Z r r')
   | false=>False
  | _=>False
 | .mark y::r,l=>match l with
  | .mark x::r'=>Z2o k τ y x (eqD k τ Z r r')
  | _=>False
theorem Z74 {k:Nat} {τ:Ren} {Z:Prop}:∀(l₂ l:List VW),eqD k τ Z l₂ l→Z∧∀(E:Env) (rd:List Deferred),Vv E l rd→Vv (E.ren k τ) l₂ rd
 | [],l,h=>by
  unfold eqD at h
  split at h
  ·exact ⟨h,fun E rd hd=>by cases hd;exact .nil⟩
  ·exact h.elim
 | .call f args::r,l,h=>by
  unfold eqD at h
  split at h
  ·split at h
   ·rename_i hb
    have:=Nat.eq_of_beq_eq_true hb
    subst this
    obtain ⟨h,h1⟩:=Qi _ _ _ h
    obtain ⟨h,h2⟩:=Z74 r _ h
    refine ⟨h,fun E rd hd=> ?_⟩
    cases hd with
    | call f args fn cap rs ds rd hf hl t=>exact .call _ _ fn cap rs _ _ hf (h1 E _ hl) (h2 E _ t)
   ·exact h.elim
  ·exact h.elim
 | .mark y::r,l,h=>by
  unfold eqD at h
  split at h
  ·obtain ⟨h1,h⟩:=U0 h
   obtain ⟨h,h2⟩:=Z74 r _ h
   refine ⟨h,fun E rd hd=> ?_⟩
   cases hd with
   | mark x b N ds rd hb t=>exact .mark _ b N _ _ (by rw [Env.ren_some h1];exact hb) (h2 E _ t)
  ·exact h.elim
def Z2r (k:Nat) (s s₂:St):Prop:=
 ∀(E0:Env) (h0:Z6) (w0:World) (E:Env) (a:Act) (w:World),(∀x,k≤x→E0.blk x=none)→WW E s a w→Evo E0 h0 w0 E s.h w→∃E₂,WW E₂ s₂ a w∧Evo E0 h0 w0 E₂ s₂.h w
def U2 (k:Nat) (τ:Ren) (s₂ s:St) (Z:Prop):Prop:=
 match Nat.ble k s₂.h.next&&ltB s₂.h.next s₂.h.bs&&ltR s₂.h.next τ&&Z80 k τ s₂.h.bs&&Nat.beq s.n s₂.n with
 | true=>eqB.eqT k τ s.t (eqH k τ s.h (eqD k τ Z s₂.d s.d) s₂.h.bs) s₂.t
 | false=>False
theorem XC {k:Nat} {τ:Ren} {s₂ s:St} {Z:Prop} (hl:U2 k τ s₂ s Z):Z∧Z2r k s s₂:=by
 unfold U2 at hl
 split at hl
 ·rename_i hb
  simp only [Bool.and_eq_true] at hb
  obtain ⟨⟨⟨⟨b1,b2⟩,b3⟩,b4⟩,b5⟩:=hb
  have b1:k≤s₂.h.next:=Nat.le_of_ble_eq_true b1
  have b5:s.n=s₂.n:=Nat.eq_of_beq_eq_true b5
  obtain ⟨hl,hT⟩:=Z4z _ hl
  obtain ⟨hl,hH⟩:=Z73 _ hl
  obtain ⟨hl,hD⟩:=Z74 _ _ hl
  refine ⟨hl,fun E0 h0 w0 E a w hk hs hev=> ?_⟩
  have he:=hs.emb
  have hfr:∀y,s₂.h.next≤y→(E.ren k τ).blk y=none:=fun y hy=>by
   refine Env.ren_none ?_
   unfold rn
   have:Nat.blt y k=false:=by
    cases hq:Nat.blt y k with
    | false=>rfl
    | true=>have:y<k:=Nat.le_of_ble_eq_true hq;omega
   rw [this]
   cases hg:Z71 τ y with
   | none=>rfl
   | some x=>have:=ZaF b3 y x hg;omega
  have hgo:∀y B b N,s₂.h.get y=some B→(E.ren k τ).blk y=some (b,N)→∃x C,rn k τ y=some x∧s.h.get x=some C∧E.blk x=some (b,N):=fun y B b N hy hb=>by
   rcases hH y B hy with ⟨hn,_⟩|⟨x,C,hx,hC,_⟩
   ·rw [Env.ren_none hn] at hb;cases hb
   ·rw [Env.ren_some hx] at hb;exact ⟨x,C,hx,hC,hb⟩
  have hemb:Emb (E.ren k τ) s₂.h w:=by
   refine ⟨hfr, ?_, ?_, ?_, ?_, ?_⟩
   ·intro y B hy
    obtain ⟨B',hm⟩:=Z2q hy
    exact ZaE b2 y B' hm
   ·intro y B hy
    rcases hH y B hy with ⟨hn,h1⟩|⟨x,C,hx,hC,h1⟩
    ·exact h1 _ w (Env.ren_none hn)
    ·exact h1 E w (he.own x C hC)
   ·intro y z B C b N N' hy hz hby hbz
    obtain ⟨x,D,hx,hD',hbx⟩:=hgo y B b N hy hby
    obtain ⟨x',D'',hx',hD'',hbx'⟩:=hgo z C b N' hz hbz
    have:=he.disj x x' D D'' b N N' hD' hD'' hbx hbx'
    subst this
    obtain ⟨B',hm⟩:=Z2q hy
    obtain ⟨C',hm'⟩:=Z2q hz
    exact Z5z b4 y z B' C' x hm hm' hx hx'
   ·exact he.imm
   ·intro ad c y B N hi hy hb
    obtain ⟨x,D,hx,hD',hbx⟩:=hgo y B _ N hy hb
    exact he.sep ad c x D N hi hD' hbx
  refine ⟨E.ren k τ,⟨hemb,b5▸hT E _ _ hs.tmps,hD E _ hs.defs⟩,⟨fun x r hx=> ?_,hev.le.imm⟩,hemb,hev.size,hev.os,hev.tape,hev.output,hev.keep,fun b ho=> ?_,hev.imm⟩
  ·have hlt:x<k:=by
    rcases Nat.lt_or_ge x k with hl'|hg
    ·exact hl'
    ·rw [hk x hg] at hx;cases hx
   have hrx:rn k τ x=some x:=by
    unfold rn
    have:Nat.blt x k=true:=Nat.ble_eq_true_of_le hlt
    rw [this]
   rw [Env.ren_some hrx]
   exact hev.le.blk x r hx
  ·obtain ⟨y,B,N,hy,hb⟩:=ho
   obtain ⟨x,D,hx,hD',hbx⟩:=hgo y B b N hy hb
   exact hev.own b ⟨x,D,N,hD',hbx⟩
 ·exact hl.elim
end Go.Tk
end
section
namespace Go.Tk
open IntKind (i64 u8 u32 u64 wrap)
theorem YK.weak {P:Program} {k:Nat} {ro:Option Nat} {c:Code} {s s₂:St} {X:KE} (h:YK P k ro c s₂ X) (hw:Z2r k s s₂):YK P k ro c s X:=by
 intro E0 h0 w0 E a w n hk hs hev
 obtain ⟨E₂,hs₂,hev₂⟩:=hw E0 h0 w0 E a w hk hs hev
 exact h E0 h0 w0 E₂ a w n hk hs₂ hev₂
def Z81 {ι:Type} (k:Nat) (m:ι→Nat) (S:ι→St) (i:ι) (X:KE):KE:=fun e s=>match e with
 | .normal=>∃j,m j<m i∧Z2r k s (S j)
 | .panic v=>X (.panic v) s
 | .exit id=>∃s₂,Z2r k s s₂∧X (.exit id) s₂
 | .goto l=>∃s₂,Z2r k s s₂∧X (.goto l) s₂
 | .ret=>∃s₂,Z2r k s s₂∧X .ret s₂
theorem YK.mono {P:Program} {k:Nat} {ro:Option Nat} {c:Code} {s:St} {X Y:KE} (h:YK P k ro c s X) (hxy:∀e s,X e s→Y e s):YK P k ro c s Y:=
 fun E0 h0 w0 E a w n hk hs hev=>wpIn_mono (h E0 h0 w0 E a w n hk hs hev) fun _ _ _ hp=>hp.mono hxy
theorem Z9c {P:Program} {k:Nat} {ro:Option Nat} {c:Code} {ι:Type} (m:ι→Nat) (S:ι→St) (X:KE)
  (h:∀i,YK P k ro c (S i) (Z81 k m S i X)):∀i,YK P k ro (.loop c) (S i) X:=by
 have key:∀N i,m i<N→∀(E0:Env) (h0:Z6) (w0:World) (E:Env) (a:Act) (w:World) (n:Nat),(∀x,k≤x→E0.blk x=none)→WW E (S i) a w→Evo E0 h0 w0 E (S i).h w→
   Code.roundsIn (Fr ro) n P c (QJ E0 h0 w0 X) N a w:=by
  intro N
  induction N with
  | zero=>intro i hi;omega
  | succ N ih=>
   intro i hi E0 h0 w0 E a w n hk hs hev
   rw [roundsIn_succ]
   refine wpIn_mono (h i E0 h0 w0 E a w n hk hs hev) ?_
   rintro e a' w' ⟨E',x,s',hx,hev',hs',he⟩
   cases he with
   | normal=>
    obtain ⟨j,hj,hw⟩:=hx
    obtain ⟨E₂,hs₂,hev₂⟩:=hw E0 h0 w0 E' a' w' hk hs' hev'
    exact ih j (by omega) E0 h0 w0 E₂ a' w' n hk hs₂ hev₂
   | exit id=>
    obtain ⟨s₂,hw,hx⟩:=hx
    obtain ⟨E₂,hs₂,hev₂⟩:=hw E0 h0 w0 E' a' w' hk hs' hev'
    exact ⟨E₂,_,s₂,hx,hev₂,hs₂,.exit id⟩
   | goto l=>
    obtain ⟨s₂,hw,hx⟩:=hx
    obtain ⟨E₂,hs₂,hev₂⟩:=hw E0 h0 w0 E' a' w' hk hs' hev'
    exact ⟨E₂,_,s₂,hx,hev₂,hs₂,.goto l⟩
   | ret=>
    obtain ⟨s₂,hw,hx⟩:=hx
    obtain ⟨E₂,hs₂,hev₂⟩:=hw E0 h0 w0 E' a' w' hk hs' hev'
    exact ⟨E₂,_,s₂,hx,hev₂,hs₂,.ret⟩
   | panic v r hv=>exact ⟨E',_,s',hx,hev',hs',.panic v r hv⟩
 intro i E0 h0 w0 E a w n hk hs hev
 exact wpIn_loop_rounds (m i+1) (key (m i+1) i (Nat.lt_succ_self _) E0 h0 w0 E a w n hk hs hev)
theorem Z2s:∀(body:Code) (id:Nat) (c:Code),(id,c)∈Zv body→∀b,b∈Zv c→b∈Zv body:=by
 intro body
 induction body with
 | seq x y ihx ihy=>
  intro id c h b hb
  simp only [Zv,List.mem_append] at h⊢
  rcases h with h|h
  ·exact .inl (ihx id c h b hb)
  ·exact .inr (ihy id c h b hb)
 | cond o x y ihx ihy=>
  intro id c h b hb
  simp only [Zv,List.mem_append,List.mem_cons] at h⊢
  rcases h with h|h|h
  ·cases h;simpa only [Zv,List.mem_append,List.mem_cons] using hb
  ·exact .inr (.inl (ihx id c h b hb))
  ·exact .inr (.inr (ihy id c h b hb))
 | block i x ih=>
  intro id c h b hb
  simp only [Zv,List.mem_cons] at h⊢
  rcases h with h|h
  ·cases h;exact .inr hb
  ·exact .inr (ih id c h b hb)
 | loop x ih=>intro id c h b hb;simp only [Zv] at h⊢;exact ih id c h b hb
 | scope x ih=>intro id c h b hb;simp only [Zv] at h⊢;exact ih id c h b hb
 | _=>intro id c h;simp [Zv] at h
def Ux (id:Nat):List (Nat×Code)→List Code
 | []=>[]
 | (i,c)::r=>match Nat.beq i id with|true=>c::Ux id r|false=>Ux id r
theorem U3 {id:Nat} {c:Code}:∀{l:List (Nat×Code)},(id,c)∈l→c∈Ux id l
 | (i,d)::r,h=>by
  unfold Ux
  rcases List.mem_cons.1 h with e|h
  ·cases e;simp [Nat.beq_refl]
  ·split
   ·exact List.mem_cons_of_mem _ (U3 h)
   ·exact U3 h
def Z2t (P:Program) (f:FuncId):Code:=match P.funcs[f]? with|some fn=>(match fn.body with|some b=>b|none=>.skip)|none=>.skip
def Z1j (P:Program) (f:FuncId) (id:Nat):Code:=match Ux id (Zv (Z2t P f)) with|c::_=>c|[]=>.skip
def ZaG:Code→Code
 | .loop c=>c
 | _=>.skip
def QN (P:Program) (f:FuncId) (id:Nat):Bool:=match P.funcs[f]? with
 | some fn=>match fn.body with
  | some b=>match Ux id (Zv b) with|[.loop _]=>true|_=>false
  | none=>false
 | none=>false
theorem Z5A {P:Program} {f:FuncId} {id:Nat} (h:QN P f id=true) {fn:Func} {body c:Code} (hf:P.funcs[f]? =some fn) (hb:fn.body=some body) (hm:(id,c)∈Zv body):c=.loop (ZaG (Z1j P f id)):=by
 have hc:=U3 hm
 simp only [QN,hf,hb] at h
 split at h
 ·rename_i d hd
  have hbo:Z2t P f=body:=by simp [Z2t,hf,hb]
  have hbl:Z1j P f id=.loop d:=by unfold Z1j;rw [hbo,hd]
  rw [hd] at hc
  rw [List.mem_singleton] at hc
  rw [hbl];exact hc
 ·cases h
def Zf.withL (G:Zf) (f:FuncId) (id:Nat) (S:Nat→St→KE→Prop):Zf:=
 { G with lsumm:=fun f' id'=>match Nat.beq f' f&&Nat.beq id' id with|true=>some S|false=>G.lsumm f' id'}
def Zf.withF (G:Zf) (f:FuncId) (S:YQ):Zf:=
 { G with fsumm:=fun f'=>match Nat.beq f' f with|true=>some S|false=>G.fsumm f'}
theorem Zf.withF_ok {G:Zf} (hG:G.Ok) {f:FuncId} {S:YQ} (h:∀args hp K,S args hp K→Zn G.P f args hp K):(G.withF f S).Ok where
 draw:=hG.draw
 psumm:=hG.psumm
 lsumm:=hG.lsumm
 fsumm:=fun f' S' args hp K hS hs=>by
  simp only [Zf.withF] at hS
  split at hS
  ·rename_i hb
   have:=Nat.eq_of_beq_eq_true hb
   subst this
   cases hS
   exact h args hp K hs
  ·exact hG.fsumm f' S' args hp K hS hs
def Zf.withP (G:Zf) (f:FuncId) (S:ZU):Zf:=
 { G with psumm:=fun f'=>match Nat.beq f' f with|true=>some S|false=>G.psumm f'}
theorem Zf.withP_ok {G:Zf} (hG:G.Ok) {f:FuncId} {S:ZU} (h:∀args hp K,S args hp K→Zn G.P f args hp fun o h'=>∃v,o=.ret v∧h'=hp∧K v):(G.withP f S).Ok where
 draw:=hG.draw
 lsumm:=hG.lsumm
 fsumm:=hG.fsumm
 psumm:=fun f' S' args hp K hS hs=>by
  simp only [Zf.withP] at hS
  split at hS
  ·rename_i hb
   have:=Nat.eq_of_beq_eq_true hb
   subst this
   cases hS
   exact h args hp K hs
  ·exact hG.psumm f' S' args hp K hS hs
@[irreducible] def ZY (G:Zf) (n:Nat) (f:FuncId) (id:Nat) (k:Nat) (s:St) (X:KE):Prop:=evC G (Z4u G n f none) k (ZaG (Z1j G.P f id)) s X
theorem Zf.withL_ok {G:Zf} (hG:G.Ok) {f:FuncId} {id:Nat} {S:Nat→St→KE→Prop} (h1:QN G.P f id=true)
  (h:∀k s X,S k s X→∃ι:Type,∃m:ι→Nat,∃I:ι→St,∃i n,Z2r k s (I i)∧∀i,∃Y,ZY G n f id k (I i) Y∧∀e s,Y e s→Z81 k m I i X e s):(G.withL f id S).Ok where
 draw:=hG.draw
 psumm:=hG.psumm
 fsumm:=hG.fsumm
 lsumm:=fun f' id' S' fn c body hS hf hb hm k s X hs=>by
  simp only [Zf.withL] at hS
  split at hS
  ·rename_i hq
   rw [Bool.and_eq_true] at hq
   have e1:=Nat.eq_of_beq_eq_true hq.1
   have e2:=Nat.eq_of_beq_eq_true hq.2
   subst e1 e2
   cases hS
   have hc:=Z5A h1 hf hb hm
   obtain ⟨ι,m,I,i,n,hw,hr⟩:=h k s X hs
   subst hc
   refine YK.weak (Z9c m I X (fun i=> ?_) i) hw
   have hk:=Z1h hG n f' none
   obtain ⟨Y,hY,hYX⟩:=hr i
   unfold ZY at hY
   refine YK.mono ?_ hYX
   refine Z4v (k:=k) (ro:=none) hG hk.1 (fun _=>rfl) (fun _=>rfl) (fun _=>⟨fn,body,by rw [hk.2.1];exact hf,hb,fun b hbm=>Z2s body id' _ hm b (by simpa [Zv] using hbm)⟩) hY
  ·exact hG.lsumm f' id' S' fn c body hS hf hb hm k s X hs
def Z4A:Code→List (Code×Code)
 | .seq a b=>Z4A a++Z4A b
 | .cond _ x y=>Z4A x++Z4A y
 | .block _ c=>Z4A c
 | .loop c=>Z4A c
 | .scope c=>Z4A c
 | .rangeFunc _ _ a b=>[(a,b)]
 | _=>[]
def rfA (P:Program) (f i:Nat):Code:=match (Z4A (Z2t P f))[i]? with|some (a,_)=>a|none=>.skip
def rfB (P:Program) (f i:Nat):Code:=match (Z4A (Z2t P f))[i]? with|some (_,b)=>b|none=>.skip
theorem nd {p x:Prop} [Decidable p] (hp:p) (hx:x):Z0 (decide p) x False:=by rw [decide_eq_true hp];exact hx
theorem ifB {b:Bool} {x y:Prop} (h1:b=true→x) (h2:b=false→y):Z0 b x y:=by
 cases b with
 | true=>exact h1 rfl
 | false=>exact h2 rfl
theorem ifD {p x y:Prop} [Decidable p] (h1:p→x) (h2:¬p→y):Z0 (decide p) x y:=ifB (fun h=>h1 (of_decide_eq_true h)) (fun h=>h2 (of_decide_eq_false h))
end Go.Tk
end
section
namespace Go.Tk
open IntKind (i64 u8 u32 u64 wrap)
def Env.bor (E:Env) (mv:Option Nat) (w:World) (t:Bool):Env:=
 ⟨fun y=>match t,y,mv with|true,0,some x=>E.blk x|_,_,_=>none,fun a c=>w.cell? a=some c∧∀x N,mv=some x→E.blk x=some (a.block,N)→False⟩
def AV.plain:AV→Bool
 | .top|.bool _|.int _ _|.str _|.ptr none|.eslice|.fslice|.nilslice|.map none|.nilFunc|.nilIface|.arr _ _ _=>true
 | _=>false
def plainC:List AV→Bool
 | []=>true
 | v::r=>v.plain&&plainC r
theorem Zc.plain {E E':Env} {v:AV} {r:Value} (h:Zc E v r) (hp:v.plain=true):Zc E' v r:=by
 cases h with
 | top=>exact .top _
 | bool b=>exact .bool b
 | int k n=>exact .int k n
 | str s=>exact .str s
 | nilptr=>exact .nilptr
 | eslice a=>exact .eslice a
 | fslice a cap=>exact .fslice a cap
 | nilslice=>exact .nilslice
 | nilmap=>exact .nilmap
 | nilFunc=>exact .nilFunc
 | nilIface=>exact .nilIface
 | _=>simp [AV.plain] at hp
theorem Zq.plain {E E':Env}:∀{cs:List AV} {vs:List Value},Zq E cs vs→plainC cs=true→Zq E' cs vs
 | _,_,.nil,_=>.nil
 | _,_,.one v c vs cs h0 h1 h t,hp=>by
  simp only [plainC,Bool.and_eq_true] at hp
  exact .one _ _ _ _ h0 h1 (h.plain hp.1) (Zq.plain t hp.2)
 | _,_,.arr k n xs vs cs t,hp=>by
  simp only [plainC,Bool.and_eq_true] at hp
  exact .arr _ _ _ _ _ (Zq.plain t hp.2)
def Z82:List AV→Bool
 | .arr _ _ _::_=>true
 | _=>false
def Z0s (mv:Option Nat) (x:Nat):Bool:=match mv with|some y=>Nat.beq y x|none=>false
mutual
def U4 (mv:Option Nat) (h:Z6) (t:Bool):Nat→AV→(AV→Prop)→Prop
 | 0,_,_=>False
 | d+1,v,K=>match v with
  | .top=>K .top
  | .bool b=>K (.bool b)
  | .int k n=>K (.int k n)
  | .str s=>K (.str s)
  | .ptr none=>K (.ptr none)
  | .eslice=>K .eslice
  | .fslice=>K .fslice
  | .nilslice=>K .nilslice
  | .map none=>K (.map none)
  | .nilFunc=>K .nilFunc
  | .nilIface=>K .nilIface
  | .pview cs inn=>K (.pview cs inn)
  | .vints k xs len=>K (.vints k xs len)
  | .vrows esz n f len=>K (.vrows esz n f len)
  | .ptr (some p)=>match Z0s mv p.blk with
   | true=>match t with|false=>False|true=>K (.ptr (some ⟨0,p.row,p.sz,p.off,p.inn⟩))
   | false=>match h.get p.blk with
    | some (.flat cs)=>match p.row,Ys p.off cs with
     | 0,some rest=>Vc mv h false d rest fun rest'=>K (.pview rest' p.inn)
     | _,_=>False
    | some (.rows sz n f)=>match Nat.beq sz p.sz with
     | true=>Zx (p.row<n) (match Ys p.off (f p.row) with
      | some rest=>Vc mv h false d rest fun rest'=>K (.pview rest' p.inn)
      | none=>False)
     | false=>False
    | _=>False
  | .nslice p esz len lo=>match Z0s mv p.blk with
   | true=>match t with|false=>False|true=>K (.nslice ⟨0,p.row,p.sz,p.off,p.inn⟩ esz len lo)
   | false=>match h.get p.blk with
    | some (.ints k xs)=>match Nat.beq esz 1 with
     | true=>Zx (p.tot+len≤xs.length) (K (.vints k ((XV p.tot xs).take len) len))
     | false=>False
    | some (.rows sz n f)=>match Nat.beq sz esz&&Nat.beq p.off 0&&Nat.beq p.inn 0&&(Nat.beq p.sz esz||Nat.beq p.row 0) with
     | true=>Zx (p.row+len≤n) ((∀i,i<len→plainC (ZX p.row f i)=true)∧K (.vrows esz len (ZX p.row f) len))
     | false=>False
    | some (.flat cs)=>match p.row,Ys p.off cs with
     | 0,some rest=>match Z82 rest&&Nat.beq esz 1 with
      | true=>match rest with
       | .arr k n xs::_=>match Nat.beq esz 1,Nat.beq p.inn 0&&Nat.beq len n with
        | true,true=>Zx (xs.length=n) (K (.vints k xs len))
        | true,false=>Zx (xs.length=n∧p.inn+len≤n) (K (.vints k ((XV p.inn xs).take len) len))
        | false,_=>False
       | _=>False
      | false=>match Nat.beq p.inn 0,takeC (len*esz) rest with
       | true,some part=>Vc mv h false d part fun part'=>match Q6 part' 0 esz len with
        | true=>K (.vrows esz len (Xk part' 0 esz) len)
        | false=>False
       | _,_=>False
     | _,_=>False
    | _=>False
  | .func (.func g) fs cs=>ZV mv h t d fs fun fs'=>ZV mv h t d cs fun cs'=>K (.func (.func g) fs' cs')
  | .iface T u=>U4 mv h t d u fun u'=>K (.iface T u')
  | .agg cs=>Vc mv h t d cs fun cs'=>K (.agg cs')
  | .tuple vs=>ZV mv h t d vs fun vs'=>K (.tuple vs')
  | _=>False
def Vc (mv:Option Nat) (h:Z6) (t:Bool):Nat→List AV→(List AV→Prop)→Prop
 | 0,_,_=>False
 | d+1,l,K=>match l with
  | []=>K []
  | .arr k n xs::r=>Vc mv h t d r fun r'=>K (.arr k n xs::r')
  | v::r=>U4 mv h t d v fun v'=>match v'.isCell with
   | true=>Vc mv h t d r fun r'=>K (v'::r')
   | false=>False
def ZV (mv:Option Nat) (h:Z6) (t:Bool):Nat→List AV→(List AV→Prop)→Prop
 | 0,_,_=>False
 | d+1,l,K=>match l with
  | []=>K []
  | v::r=>U4 mv h t d v fun v'=>ZV mv h t d r fun r'=>K (v'::r')
end
theorem Z3u {E:Env} {mv:Option Nat} {w:World} {t:Bool} {h:Z6} (he:Emb E h w) (hm:∀x,mv=some x→∃B,h.get x=some B):E.views.le (E.bor mv w t).views:=
 ⟨fun _ _ hq=>by simp [Env.views] at hq,fun a c hi=>⟨he.imm a c hi,fun x N hx hb=>let ⟨B,hB⟩:=hm x hx;he.sep a c x B N hi hB hb⟩⟩
theorem Z4B {E:Env} {mv:Option Nat} {w:World} {t:Bool} {h:Z6} (he:Emb E h w) (hm:∀x,mv=some x→∃B,h.get x=some B) {a:Addr} {c:Value} (hi:E.imm a c):(E.bor mv w t).imm a c:=
 ⟨he.imm a c hi,fun x N hx hb=>let ⟨B,hB⟩:=hm x hx;he.sep a c x B N hi hB hb⟩
theorem Wx {E:Env} {mv:Option Nat} {w:World} {t:Bool} {h:Z6} (he:Emb E h w) (hm:∀x,mv=some x→∃B,h.get x=some B) {y b N o:Nat} {B:Blk} (hy:h.get y=some B) (hb:E.blk y=some (b,N)) (hn:Z0s mv y=false) {c:Value}
  (hc:w.cell? ⟨b,o,none⟩=some c):(E.bor mv w t).imm ⟨b,o,none⟩ c:=
 ⟨hc,fun x N' hx hbx=>by
  obtain ⟨C,hC⟩:=hm x hx
  have:=he.disj x y C B b N' N hC hy hbx hb
  subst this
  simp [Z0s,hx,Nat.beq_refl] at hn⟩
theorem Z3v {E:Env} {mv:Option Nat} {w:World} {x:Nat} (h:Z0s mv x=true):(E.bor mv w true).blk 0=E.blk x:=by
 unfold Z0s at h
 split at h
 ·have:=Nat.eq_of_beq_eq_true h
  subst this
  rfl
 ·cases h
theorem addr_add (b o j:Nat):(⟨b,o,none⟩:Addr).add j=⟨b,o+j,none⟩:=by
 unfold Addr.add
 split
 ·rename_i h;subst h;rfl
 ·rfl
theorem Z1k {cells:Array Value} {vs:List Value} (hv:∀(j:Nat) (c:Value),vs[j]? =some c→cells[j]? =some c) {w:World} {b:Nat} {elem:TypeId} {fr:Nat×Nat} (hw:w.heap[b]? =some (.cells cells elem fr)) {j:Nat} {c:Value} (h:vs[j]? =some c):
  w.cell? ⟨b,j,none⟩=some c:=by rw [cell_of_heap hw];exact hv j c h
set_option maxHeartbeats 2000000 in
mutual
theorem QO {mv:Option Nat} {h:Z6} (hm:∀x,mv=some x→∃B,h.get x=some B):∀(d:Nat) (t:Bool) (v:AV) (K:AV→Prop),U4 mv h t d v K→∃v₀,K v₀∧∀(E:Env) (w:World) (r:Value),Emb E h w→Zc E v r→Zc (E.bor mv w t) v₀ r
 | 0,t,v,K,hl=>by unfold U4 at hl;exact hl.elim
 | d+1,t,v,K,hl=>by
  unfold U4 at hl
  split at hl
  ·exact ⟨_,hl,fun E w r he hv=>.top r⟩
  ·exact ⟨_,hl,fun E w r he hv=>hv.plain rfl⟩
  ·exact ⟨_,hl,fun E w r he hv=>hv.plain rfl⟩
  ·exact ⟨_,hl,fun E w r he hv=>hv.plain rfl⟩
  ·exact ⟨_,hl,fun E w r he hv=>hv.plain rfl⟩
  ·exact ⟨_,hl,fun E w r he hv=>hv.plain rfl⟩
  ·exact ⟨_,hl,fun E w r he hv=>hv.plain rfl⟩
  ·exact ⟨_,hl,fun E w r he hv=>hv.plain rfl⟩
  ·exact ⟨_,hl,fun E w r he hv=>hv.plain rfl⟩
  ·exact ⟨_,hl,fun E w r he hv=>hv.plain rfl⟩
  ·exact ⟨_,hl,fun E w r he hv=>hv.plain rfl⟩
  ·refine ⟨_,hl,fun E w r he hv=> ?_⟩
   cases hv with
   | pview cs inn a vs hc hi=>exact .pview _ _ a vs (hc.mono (Z3u he hm)) (fun j c hj=>Z4B he hm (hi j c hj))
  ·refine ⟨_,hl,fun E w r he hv=> ?_⟩
   cases hv with
   | vintsNil k xs len h1 h2=>exact .vintsNil _ _ _ h1 h2
   | vints k xs len a cap h1 h2 hi=>exact .vints _ _ _ a cap h1 h2 (fun i hi'=>Z4B he hm (hi i hi'))
  ·refine ⟨_,hl,fun E w r he hv=> ?_⟩
   cases hv with
   | vrowsNil esz n f len h1 h2=>exact .vrowsNil _ _ _ _ h1 h2
   | vrows esz n f len a cap g h1 h2 hc hl' hi=>exact .vrows _ _ _ _ a cap g h1 h2 (fun i hi'=>(hc i hi').mono (Z3u he hm)) hl' (fun i j c hi' hj=>Z4B he hm (hi i j c hi' hj))
  ·rename_i p
   split at hl
   ·rename_i hmv
    split at hl
    ·exact hl.elim
    ·refine ⟨_,hl,fun E w r he hv=> ?_⟩
     cases hv with
     | ptr p b N hb=>exact .ptr ⟨0,p.row,p.sz,p.off,p.inn⟩ b N (by rw [Z3v hmv];exact hb)
   ·rename_i hmv
    split at hl
    ·rename_i cs hg
     split at hl
     ·rename_i rest hrow hrest
      obtain ⟨rest',hK,hr⟩:=Vd hm d false rest _ hl
      refine ⟨_,hK,fun E w r he hv=> ?_⟩
      cases hv with
      | ptr p b N hb=>
       cases he.own _ _ hg with
       | flat0 cs h0 hn=>rw [hn] at hb;cases hb
       | flat cs b' cells elem fr vs hb' hw hf hc hvs=>
        rw [hb] at hb'
        cases hb'
        have hd:=(ZT _ _ _ _ hrest hc).1
        have e:(⟨b,p.tot,none⟩:Addr)=(⟨b,p.off,none⟩:Addr).add p.inn:=by rw [addr_add];simp [ZO.tot,hrow]
        rw [e]
        refine .pview _ _ ⟨b,p.off,none⟩ _ (hr E w _ he hd) (fun j c hj=> ?_)
        rw [addr_add]
        refine Wx he hm hg hb hmv (Z1k hvs hw ?_)
        rw [List.getElem?_drop] at hj
        exact hj
     ·exact hl.elim
    ·rename_i sz n f hg
     split at hl
     ·rename_i hsz
      have hsz:=Nat.eq_of_beq_eq_true hsz
      obtain ⟨hrow,hl⟩:=Zb hl
      split at hl
      ·rename_i rest hrest
       obtain ⟨rest',hK,hr⟩:=Vd hm d false rest _ hl
       refine ⟨_,hK,fun E w r he hv=> ?_⟩
       cases hv with
       | ptr p b N hb=>
        cases he.own _ _ hg with
        | rows0 sz n f h0 hn=>omega
        | rows sz n f b' cells elem fr g hb' hw hf hc hlg hvs=>
         rw [hb] at hb'
         cases hb'
         have hd:=(ZT _ _ _ _ hrest (hc _ hrow)).1
         have e:(⟨b,p.tot,none⟩:Addr)=(⟨b,p.row*sz+p.off,none⟩:Addr).add p.inn:=by rw [addr_add];simp [ZO.tot,hsz]
         rw [e]
         refine .pview _ _ ⟨b,p.row*sz+p.off,none⟩ _ (hr E w _ he hd) (fun j c hj=> ?_)
         rw [addr_add]
         refine Wx he hm hg hb hmv ?_
         rw [List.getElem?_drop] at hj
         rw [cell_of_heap hw,Nat.add_assoc]
         exact hvs _ _ _ hrow hj
      ·exact hl.elim
     ·exact hl.elim
    ·exact hl.elim
  ·rename_i p esz len lo
   split at hl
   ·rename_i hmv
    split at hl
    ·exact hl.elim
    ·refine ⟨_,hl,fun E w r he hv=> ?_⟩
     cases hv with
     | nslice0 p esz len lo a h1 h2=>exact .nslice0 _ _ _ _ a h1 h2
     | nslice p esz len lo b N cap hb h1 h2 h3=>exact .nslice ⟨0,p.row,p.sz,p.off,p.inn⟩ _ _ _ b N cap (by rw [Z3v hmv];exact hb) h1 h2 h3
   ·rename_i hmv
    split at hl
    ·rename_i k xs hg
     split at hl
     ·rename_i hes
      have hes:=Nat.eq_of_beq_eq_true hes
      subst hes
      obtain ⟨hle,hK⟩:=Zb hl
      have hlen:((XV p.tot xs).take len).length=len:=by rw [X4,List.length_take,List.length_drop];omega
      refine ⟨_,hK,fun E w r he hv=> ?_⟩
      cases hv with
      | nslice0 p esz len lo a h1 h2=>
       subst h1
       cases a with
       | none=>exact .vintsNil _ _ _ (by simp) rfl
       | some a=>exact .vints _ _ _ a 0 (by simp) (by simp) (fun i hi=>by simp at hi)
      | nslice p esz len lo b N cap hb h1 h2 h3=>
       refine .vints _ _ _ _ cap (by omega) (by omega) (fun i hi=> ?_)
       rw [hlen] at hi
       rw [addr_add]
       refine Wx he hm hg hb hmv ?_
       cases he.own _ _ hg with
       | ints0 k xs h0 hn=>rw [hn] at hb;cases hb
       | ints k xs b' cells elem fr hb' hw hf hvs=>
        rw [hb] at hb'
        cases hb'
        rw [cell_of_heap hw,hvs _ (by omega)]
        congr 2
        rw [X4]
        simp [List.getD_eq_getElem?_getD,hi,List.getElem?_drop]
     ·exact hl.elim
    ·rename_i sz n f hg
     split at hl
     ·rename_i hb
      simp only [Bool.and_eq_true,Bool.or_eq_true] at hb
      obtain ⟨⟨⟨q1,q2⟩,q3⟩,q4⟩:=hb
      have q1:=Nat.eq_of_beq_eq_true q1
      have q2:=Nat.eq_of_beq_eq_true q2
      have q3:=Nat.eq_of_beq_eq_true q3
      obtain ⟨hle,hpl,hK⟩:=Zb hl
      refine ⟨_,hK,fun E w r he hv=> ?_⟩
      have htot:p.tot=p.row*sz:=by
       rcases q4 with q4|q4
       ·have:=Nat.eq_of_beq_eq_true q4;simp [ZO.tot,q2,q3,this,q1]
       ·have:=Nat.eq_of_beq_eq_true q4;simp [ZO.tot,q2,q3,this]
      cases hv with
      | nslice0 p esz len lo a h1 h2=>
       subst h1
       cases a with
       | none=>exact .vrowsNil _ _ _ _ rfl rfl
       | some a=>exact .vrows _ _ _ _ a 0 (fun _=>[]) (by omega) (by omega) (fun i hi=>by omega) (fun i hi=>by omega) (fun i j c hi=>by omega)
      | nslice p esz len lo b N cap hb h1 h2 h3=>
       cases he.own _ _ hg with
       | rows0 sz n f h0 hn=>rw [hn] at hb;cases hb
       | rows sz n f b' cells elem fr g hb' hw hf hc hlg hvs=>
        rw [hb] at hb'
        cases hb'
        refine .vrows _ _ _ _ _ cap (fun i=>g (p.row+i)) (by omega) h1 (fun i hi=> ?_) (fun i hi=>by rw [←q1];exact hlg _ (by omega)) (fun i j c hi hj=> ?_)
        ·have:=hc (p.row+i) (by omega)
         have hp:=hpl i hi
         rw [Z0e] at hp⊢
         exact this.plain hp
        ·rw [addr_add]
         refine Wx he hm hg hb hmv ?_
         rw [cell_of_heap hw,htot,←q1]
         have:=hvs (p.row+i) j c (by omega) hj
         rw [Nat.add_mul] at this
         rw [show p.row*sz+(i*sz+j)=p.row*sz+i*sz+j by omega]
         exact this
     ·exact hl.elim
    ·rename_i cs hg
     split at hl
     ·rename_i rest hrow hrest
      have hbase:∀(E:Env) (w:World) (b N:Nat),Emb E h w→E.blk p.blk=some (b,N)→∃vs,Zq E rest vs∧∀j c,vs[j]? =some c→w.cell? ⟨b,p.off+j,none⟩=some c:=by
       intro E w b N he hb
       cases he.own _ _ hg with
       | flat0 cs h0 hn=>rw [hn] at hb;cases hb
       | flat cs b' cells elem fr vs hb' hw hf hc hvs=>
        rw [hb] at hb'
        cases hb'
        refine ⟨_,(ZT _ _ _ _ hrest hc).1,fun j c hj=> ?_⟩
        rw [List.getElem?_drop] at hj
        exact Z1k hvs hw hj
      split at hl
      ·split at hl
       ·rename_i k n xs rest2 harr
        split at hl
        ·rename_i hes hbb
         have hes:=Nat.eq_of_beq_eq_true hes
         subst hes
         rw [Bool.and_eq_true] at hbb
         have e1:=Nat.eq_of_beq_eq_true hbb.1
         have e2:=Nat.eq_of_beq_eq_true hbb.2
         obtain ⟨hxl,hK⟩:=Zb hl
         refine ⟨_,hK,fun E w r he hv=> ?_⟩
         cases hv with
         | nslice0 p esz len lo a h1 h2=>
          have hx0:xs=[]:=by
           have:xs.length=0:=by omega
           exact List.length_eq_zero_iff.1 this
          subst hx0
          subst h1
          cases a with
          | none=>exact .vintsNil _ _ _ rfl rfl
          | some a=>exact .vints _ _ _ a 0 (by simp) (by simp) (fun i hi=>by simp at hi)
         | nslice p esz len lo b N cap hb h1 h2 h3=>
          obtain ⟨vs,hcr,hcell⟩:=hbase E w b N he hb
          obtain ⟨ws,rfl,_⟩:=Zq.cons_arr hcr
          refine .vints _ _ _ _ cap (by omega) (by omega) (fun i hi=> ?_)
          rw [addr_add]
          refine Wx he hm hg hb hmv ?_
          have:=hcell i (.int k (xs.getD i 0)) (by
           rw [List.getElem?_append_left (by rw [Z4];omega),Zp (by omega)])
          rw [show p.tot+i=p.off+i by simp [ZO.tot,hrow,e1]]
          exact this
        ·rename_i hes hbb
         have hes:=Nat.eq_of_beq_eq_true hes
         subst hes
         obtain ⟨⟨hxl,hle⟩,hK⟩:=Zb hl
         have hlen:((XV p.inn xs).take len).length=len:=by rw [X4,List.length_take,List.length_drop];omega
         refine ⟨_,hK,fun E w r he hv=> ?_⟩
         cases hv with
         | nslice0 p esz len lo a h1 h2=>
          subst h1
          cases a with
          | none=>exact .vintsNil _ _ _ (by simp) rfl
          | some a=>exact .vints _ _ _ a 0 (by simp) (by simp) (fun i hi=>by simp at hi)
         | nslice p esz len lo b N cap hb h1 h2 h3=>
          obtain ⟨vs,hcr,hcell⟩:=hbase E w b N he hb
          obtain ⟨ws,rfl,_⟩:=Zq.cons_arr hcr
          refine .vints _ _ _ _ cap (by omega) (by omega) (fun i hi=> ?_)
          rw [hlen] at hi
          rw [addr_add]
          refine Wx he hm hg hb hmv ?_
          have:=hcell (p.inn+i) (.int k (xs.getD (p.inn+i) 0)) (by
           rw [List.getElem?_append_left (by rw [Z4];omega),Zp (by omega)])
          rw [show p.tot+i=p.off+(p.inn+i) by simp [ZO.tot,hrow];omega]
          rw [this]
          congr 2
          rw [X4]
          simp [List.getD_eq_getElem?_getD,hi,List.getElem?_drop]
        ·exact hl.elim
       ·exact hl.elim
      ·split at hl
       ·rename_i part hinn hpart
        have hinn:=Nat.eq_of_beq_eq_true hinn
        obtain ⟨part',hK,hr⟩:=Vd hm d false part _ hl
        split at hK
        ·rename_i hrows
         refine ⟨_,hK,fun E w r he hv=> ?_⟩
         cases hv with
         | nslice0 p esz len lo a h1 h2=>
          subst h1
          cases a with
          | none=>exact .vrowsNil _ _ _ _ rfl rfl
          | some a=>exact .vrows _ _ _ _ a 0 (fun _=>[]) (by omega) (by omega) (fun i hi=>by omega) (fun i hi=>by omega) (fun i j c hi=>by omega)
         | nslice p esz len lo b N cap hb h1 h2 h3=>
          obtain ⟨vs,hcr,hcell⟩:=hbase E w b N he hb
          have hpr:=(V1 _ _ _ _ hpart hcr).1
          have hpr':=hr E w _ he hpr
          refine .vrows _ _ _ _ _ cap (fun i=>((vs.take (len*esz)).drop (0+i*esz)).take esz) (by omega) h1 (fun i hi=>(Xt (YN hrows i hi) hpr').1) (fun i hi=>(Xt (YN hrows i hi) hpr').2) (fun i j c hi hj=> ?_)
          rw [addr_add]
          refine Wx he hm hg hb hmv ?_
          rw [List.getElem?_take] at hj
          split at hj
          ·rw [List.getElem?_drop,List.getElem?_take] at hj
           split at hj
           ·have:=hcell _ _ hj
            rw [show p.tot+(i*esz+j)=p.off+(0+i*esz+j) by simp [ZO.tot,hrow,hinn]]
            exact this
           ·cases hj
          ·cases hj
        ·exact hK.elim
       ·exact hl.elim
     ·exact hl.elim
    ·exact hl.elim
  ·obtain ⟨fs',hl,h1⟩:=XY hm d t _ _ hl
   obtain ⟨cs',hl,h2⟩:=XY hm d t _ _ hl
   refine ⟨_,hl,fun E w r he hv=> ?_⟩
   cases hv with
   | func fn first captured fs cs ha hb=>exact .func _ _ _ _ _ (h1 E w _ he ha) (h2 E w _ he hb)
  ·obtain ⟨u',hl,h1⟩:=QO hm d t _ _ hl
   refine ⟨_,hl,fun E w r he hv=> ?_⟩
   cases hv with
   | iface T v x hx=>exact .iface _ _ _ (h1 E w _ he hx)
  ·obtain ⟨cs',hl,h1⟩:=Vd hm d t _ _ hl
   refine ⟨_,hl,fun E w r he hv=> ?_⟩
   cases hv with
   | agg cs vs hc=>exact .agg _ _ (h1 E w _ he hc)
  ·obtain ⟨vs',hl,h1⟩:=XY hm d t _ _ hl
   refine ⟨_,hl,fun E w r he hv=> ?_⟩
   cases hv with
   | tuple vs rs hc=>exact .tuple _ _ (h1 E w _ he hc)
  ·exact hl.elim
theorem Vd {mv:Option Nat} {h:Z6} (hm:∀x,mv=some x→∃B,h.get x=some B):∀(d:Nat) (t:Bool) (l:List AV) (K:List AV→Prop),Vc mv h t d l K→∃l₀,K l₀∧∀(E:Env) (w:World) (r:List Value),Emb E h w→Zq E l r→Zq (E.bor mv w t) l₀ r
 | 0,t,l,K,hl=>by unfold Vc at hl;exact hl.elim
 | d+1,t,l,K,hl=>by
  unfold Vc at hl
  split at hl
  ·exact ⟨_,hl,fun E w r he hv=>by cases hv;exact .nil⟩
  ·obtain ⟨r',hl,h1⟩:=Vd hm d t _ _ hl
   refine ⟨_,hl,fun E w r he hv=> ?_⟩
   obtain ⟨ws,rfl,ht⟩:=Zq.cons_arr hv
   exact .arr _ _ _ _ _ (h1 E w _ he ht)
  ·rename_i v r hna
   obtain ⟨v',hl,h1⟩:=QO hm d t _ _ hl
   split at hl
   ·rename_i hcell
    obtain ⟨r',hl,h2⟩:=Vd hm d t _ _ hl
    refine ⟨_,hl,fun E w q he hv=> ?_⟩
    obtain ⟨c,ws,rfl,q1,q2,q3,q4⟩:=Zq.cons_cell hv (fun k m xs e=>hna k m xs e)
    exact .one _ _ _ _ hcell q2 (h1 E w _ he q3) (h2 E w _ he q4)
   ·exact hl.elim
theorem XY {mv:Option Nat} {h:Z6} (hm:∀x,mv=some x→∃B,h.get x=some B):∀(d:Nat) (t:Bool) (l:List AV) (K:List AV→Prop),ZV mv h t d l K→∃l₀,K l₀∧∀(E:Env) (w:World) (r:List Value),Emb E h w→ZE E l r→ZE (E.bor mv w t) l₀ r
 | 0,t,l,K,hl=>by unfold ZV at hl;exact hl.elim
 | d+1,t,l,K,hl=>by
  unfold ZV at hl
  split at hl
  ·exact ⟨_,hl,fun E w r he hv=>by cases hv;exact .nil⟩
  ·obtain ⟨v',hl,h1⟩:=QO hm d t _ _ hl
   obtain ⟨r',hl,h2⟩:=XY hm d t _ _ hl
   refine ⟨_,hl,fun E w q he hv=> ?_⟩
   cases hv with
   | cons v c vs cs ha hb=>exact .cons _ _ _ _ (h1 E w _ he ha) (h2 E w _ he hb)
end
end Go.Tk
end
section
namespace Go.Tk
open IntKind (i64 u8 u32 u64 wrap)
def ZI (P:Program) (f:FuncId) (args:List AV) (v:AV) (nx:Nat) (bs:List (Nat×Blk)):Prop:=
 ∀(E:Env) (w:World) (rs:List Value),Emb E ⟨0,[]⟩ w→ZE E args rs→Calls P f rs.toArray w fun e w'=>∃E' r,e=.returned r∧Evo E ⟨0,[]⟩ w E' ⟨nx,bs⟩ w'∧Zc E' v r
def Z37 (P:Program) (f:FuncId) (args:List AV) (B:Blk) (v:AV) (B':Blk):Prop:=
 ∀(E:Env) (w:World) (rs:List Value),Emb E ⟨1,[(0,B)]⟩ w→ZE E args rs→Calls P f rs.toArray w fun e w'=>∃E' r,e=.returned r∧Evo E ⟨1,[(0,B)]⟩ w E' ⟨1,[(0,B')]⟩ w'∧Zc E' v r
def W7 (k:Nat) (τ:Ren) (v:AV) (nx:Nat) (bs:List (Nat×Blk)):KO:=fun o h=>match o with
 | .ret u=>U2 k τ ⟨1,[(0,v)],⟨nx,bs⟩,[]⟩ ⟨1,[(0,u)],h,[]⟩ True
 | .panic _=>False
theorem Qj {P:Program} {f:FuncId} {args:List AV} {h0:Z6} {τ:Ren} {v:AV} {nx:Nat} {bs:List (Nat×Blk)} (h:Zn P f args h0 (W7 h0.next τ v nx bs)) {E:Env} {w:World} {rs:List Value} (he:Emb E h0 w) (hl:ZE E args rs):
  Calls P f rs.toArray w fun e w'=>∃E' r,e=.returned r∧Evo E h0 w E' ⟨nx,bs⟩ w'∧Zc E' v r:=by
 refine (h E w rs he hl).mono ?_
 rintro e w' ⟨E',o,h',hK,hev,ho⟩
 cases ho with
 | panic v r h=>exact hK.elim
 | ret u r hr=>
  obtain ⟨_,hw⟩:=XC hK
  obtain ⟨E₂,hs,hev₂⟩:=hw E h0 w E' { tmps:= #[r],defers:=[]} w' he.fresh ⟨hev.emb,⟨rfl,fun x u' hx=>by
   simp only [ZP] at hx
   split at hx
   ·rename_i hb
    have:=Nat.eq_of_beq_eq_true hb
    subst this
    cases hx
    exact hr
   ·cases hx⟩,.nil⟩ hev
  exact ⟨E₂,r,rfl,hev₂,by simpa using hs.tmps.get 0 v rfl⟩
theorem ZI.of {P:Program} {f:FuncId} {args:List AV} {τ:Ren} {v:AV} {nx:Nat} {bs:List (Nat×Blk)} (h:Zn P f args ⟨0,[]⟩ (W7 0 τ v nx bs)):ZI P f args v nx bs:=
 fun _ _ _ he hl=>Qj h he hl
theorem Z37.of {P:Program} {f:FuncId} {args:List AV} {τ:Ren} {B:Blk} {v:AV} {B':Blk} (h:Zn P f args ⟨1,[(0,B)]⟩ (W7 1 τ v 1 [(0,B')])):Z37 P f args B v B':=
 fun _ _ _ he hl=>Qj h he hl
def shP (d:Nat) (p:ZO):ZO:=⟨d+p.blk,p.row,p.sz,p.off,p.inn⟩
mutual
def shV (d:Nat):AV→Option AV
 | .top=>some .top
 | .bool b=>some (.bool b)
 | .int k n=>some (.int k n)
 | .str s=>some (.str s)
 | .ptr none=>some (.ptr none)
 | .ptr (some p)=>some (.ptr (some (shP d p)))
 | .nslice p esz len lo=>some (.nslice (shP d p) esz len lo)
 | .eslice=>some .eslice
 | .fslice=>some .fslice
 | .nilslice=>some .nilslice
 | .map none=>some (.map none)
 | .map (some x)=>some (.map (some (d+x)))
 | .nilFunc=>some .nilFunc
 | .nilIface=>some .nilIface
 | .iface t v=>match shV d v with|some v'=>some (.iface t v')|none=>none
 | .agg cs=>match shC d cs with|some cs'=>some (.agg cs')|none=>none
 | .tuple vs=>match shL d vs with|some vs'=>some (.tuple vs')|none=>none
 | _=>none
def shC (d:Nat):List AV→Option (List AV)
 | []=>some []
 | .arr k n xs::r=>match shC d r with|some r'=>some (.arr k n xs::r')|none=>none
 | v::r=>match shV d v,shC d r with
  | some v',some r'=>match v'.isCell with|true=>some (v'::r')|false=>none
  | _,_=>none
def shL (d:Nat):List AV→Option (List AV)
 | []=>some []
 | v::r=>match shV d v,shL d r with
  | some v',some r'=>some (v'::r')
  | _,_=>none
end
mutual
theorem Z4C {d:Nat} {E E':Env} (hb:∀x r,E.blk x=some r→E'.blk (d+x)=some r):∀(v v':AV) (r:Value),shV d v=some v'→Zc E v r→Zc E' v' r
 | .top,v',r,h,hv=>by simp [shV] at h;subst h;exact .top r
 | .bool b,v',r,h,hv=>by simp [shV] at h;subst h;exact hv.plain rfl
 | .int k n,v',r,h,hv=>by simp [shV] at h;subst h;exact hv.plain rfl
 | .str s,v',r,h,hv=>by simp [shV] at h;subst h;exact hv.plain rfl
 | .ptr none,v',r,h,hv=>by simp [shV] at h;subst h;exact hv.plain rfl
 | .ptr (some p),v',r,h,hv=>by
  simp [shV] at h;subst h
  cases hv with
  | ptr p b N hq=>exact .ptr (shP d p) b N (hb _ _ hq)
 | .pview _ _,v',r,h,hv=>by simp [shV] at h
 | .nslice p esz len lo,v',r,h,hv=>by
  simp [shV] at h;subst h
  cases hv with
  | nslice0 p esz len lo a h1 h2=>exact .nslice0 _ _ _ _ a h1 h2
  | nslice p esz len lo b N cap hq h1 h2 h3=>exact .nslice (shP d p) _ _ _ b N cap (hb _ _ hq) h1 h2 h3
 | .vints _ _ _,v',r,h,hv=>by simp [shV] at h
 | .vrows _ _ _ _,v',r,h,hv=>by simp [shV] at h
 | .eslice,v',r,h,hv=>by simp [shV] at h;subst h;exact hv.plain rfl
 | .fslice,v',r,h,hv=>by simp [shV] at h;subst h;exact hv.plain rfl
 | .nilslice,v',r,h,hv=>by simp [shV] at h;subst h;exact hv.plain rfl
 | .map none,v',r,h,hv=>by simp [shV] at h;subst h;exact hv.plain rfl
 | .map (some x),v',r,h,hv=>by
  simp [shV] at h;subst h
  cases hv with
  | map x b N hq=>exact .map _ b N (hb _ _ hq)
 | .func _ _ _,v',r,h,hv=>by simp [shV] at h
 | .yield _,v',r,h,hv=>by simp [shV] at h
 | .nilFunc,v',r,h,hv=>by simp [shV] at h;subst h;exact hv.plain rfl
 | .nilIface,v',r,h,hv=>by simp [shV] at h;subst h;exact hv.plain rfl
 | .iface t v,v',r,h,hv=>by
  unfold shV at h
  split at h
  ·rename_i u hu
   cases h
   cases hv with
   | iface t v x hx=>exact .iface _ _ _ (Z4C hb _ _ _ hu hx)
  ·cases h
 | .agg cs,v',r,h,hv=>by
  unfold shV at h
  split at h
  ·rename_i u hu
   cases h
   cases hv with
   | agg cs vs hc=>exact .agg _ _ (Z75 hb _ _ _ hu hc)
  ·cases h
 | .arr _ _ _,v',r,h,hv=>by simp [shV] at h
 | .tuple vs,v',r,h,hv=>by
  unfold shV at h
  split at h
  ·rename_i u hu
   cases h
   cases hv with
   | tuple vs rs hc=>exact .tuple _ _ (ZaH hb _ _ _ hu hc)
  ·cases h
theorem Z75 {d:Nat} {E E':Env} (hb:∀x r,E.blk x=some r→E'.blk (d+x)=some r):∀(l l':List AV) (r:List Value),shC d l=some l'→Zq E l r→Zq E' l' r
 | [],l',r,h,hv=>by simp [shC] at h;subst h;cases hv;exact .nil
 | v::q,l',r,h,hv=>by
  unfold shC at h
  split at h
  ·rename_i heq;cases heq
  ·rename_i k n xs q' heq
   cases heq
   split at h
   ·rename_i u hu
    cases h
    obtain ⟨ws,rfl,ht⟩:=Zq.cons_arr hv
    exact .arr _ _ _ _ _ (Z75 hb _ _ _ hu ht)
   ·cases h
  ·rename_i v0 q' hna heq
   cases heq
   split at h
   ·rename_i u us hu hus
    split at h
    ·rename_i hcell
     cases h
     obtain ⟨c,ws,rfl,q1,q2,q3,q4⟩:=Zq.cons_cell hv (fun k m xs e=>hna k m xs e)
     exact .one _ _ _ _ hcell q2 (Z4C hb _ _ _ hu q3) (Z75 hb _ _ _ hus q4)
    ·cases h
   ·cases h
theorem ZaH {d:Nat} {E E':Env} (hb:∀x r,E.blk x=some r→E'.blk (d+x)=some r):∀(l l':List AV) (r:List Value),shL d l=some l'→ZE E l r→ZE E' l' r
 | [],l',r,h,hv=>by simp [shL] at h;subst h;cases hv;exact .nil
 | v::q,l',r,h,hv=>by
  unfold shL at h
  split at h
  ·rename_i u us hu hus
   cases h
   cases hv with
   | cons v c vs cs ha hb'=>exact .cons _ _ _ _ (Z4C hb _ _ _ hu ha) (ZaH hb _ _ _ hus hb')
  ·cases h
end
def Z5B (d:Nat):List (Nat×Blk)→List (Nat×Blk)
 | []=>[]
 | (x,B)::r=>(d+x,B)::Z5B d r
inductive WX:Blk→Prop
 | ints (k:IntKind) (xs:List Int):WX (.ints k xs)
 | flat (cs:List AV) (h:plainC cs=true):WX (.flat cs)
 | rows (sz n:Nat) (f:Nat→List AV) (h:∀i,i<n→plainC (f i)=true):WX (.rows sz n f)
def Z1l (nx:Nat):List (Nat×Blk)→Prop
 | []=>True
 | (x,B)::r=>x<nx∧WX B∧Z1l nx r
theorem WX.move {E E':Env} {w:World} {x y:Nat} {B:Blk} (hp:WX B) (he:E'.blk y=E.blk x) (h:Yr E w x B):Yr E' w y B:=by
 cases h with
 | flat0 cs h0 hn=>exact .flat0 _ h0 (he.trans hn)
 | flat cs b cells elem fr vs hb hw hf hc hv=>cases hp with|flat _ h=>exact .flat _ b cells elem fr vs (he.trans hb) hw hf (hc.plain h) hv
 | ints0 k xs h0 hn=>exact .ints0 _ _ h0 (he.trans hn)
 | ints k xs b cells elem fr hb hw hf hv=>exact .ints _ _ b cells elem fr (he.trans hb) hw hf hv
 | rows0 sz n f h0 hn=>exact .rows0 _ _ _ h0 (he.trans hn)
 | rows sz n f b cells elem fr g hb hw hf hc hl hv=>cases hp with|rows _ _ _ h=>exact .rows _ _ _ b cells elem fr g (he.trans hb) hw hf (fun i hi=>(hc i hi).plain (h i hi)) hl hv
 | map es b ents clock hb hw hk hv=>cases hp
 | fmap n kf vf b ents clock hb hw hl hk hv=>cases hp
 | loop l b d N fnr tm hb hd hw ht=>cases hp
 | defd b hb hw=>cases hp
def U5:List (Nat×Blk)→List (Nat×Blk)→List (Nat×Blk)
 | [],l=>l
 | p::r,l=>p::U5 r l
theorem Z3w (a b:List (Nat×Blk)) (y:Nat):ZF (U5 a b) y=match ZF a y with|some B=>some B|none=>ZF b y:=by
 induction a with
 | nil=>rfl
 | cons p r ih=>
  obtain ⟨z,C⟩:=p
  simp only [U5,ZF]
  cases Nat.beq z y with
  | true=>rfl
  | false=>exact ih
theorem Z83 {d:Nat}:∀(bs:List (Nat×Blk)) (y:Nat) (B:Blk),ZF (Z5B d bs) y=some B→∃x,y=d+x∧ZF bs x=some B
 | [],y,B,h=>by simp [Z5B,ZF] at h
 | (z,C)::r,y,B,h=>by
  simp only [Z5B,ZF] at h
  split at h
  ·rename_i hb
   have:=Nat.eq_of_beq_eq_true hb
   cases h
   exact ⟨z,this.symm,by simp [ZF,Nat.beq_refl]⟩
  ·rename_i hb
   obtain ⟨x,rfl,hx⟩:=Z83 r y B h
   refine ⟨x,rfl, ?_⟩
   simp only [ZF]
   have:Nat.beq z x=false:=by
    cases hq:Nat.beq z x with
    | false=>rfl
    | true=>have:=Nat.eq_of_beq_eq_true hq;subst this;simp [Nat.beq_refl] at hb
   rw [this]
   exact hx
theorem U6 {nx:Nat}:∀{bs:List (Nat×Blk)},Z1l nx bs→∀x B,ZF bs x=some B→x<nx∧WX B
 | (z,C)::r,h,x,B,hx=>by
  obtain ⟨h1,h2,h3⟩:=h
  simp only [ZF] at hx
  split at hx
  ·rename_i hb
   have:=Nat.eq_of_beq_eq_true hb
   subst this
   cases hx
   exact ⟨h1,h2⟩
  ·exact U6 h3 x B hx
theorem ZaI {E:Env} {w:World}:Emb (E.bor none w true) ⟨0,[]⟩ w where
 fresh:=fun x _=>by cases x<;>rfl
 lt:=fun x B h=>by simp [Z6.get,ZF] at h
 own:=fun x B h=>by simp [Z6.get,ZF] at h
 disj:=fun x y B B' b N N' h=>by simp [Z6.get,ZF] at h
 imm:=fun a c h=>h.1
 sep:=fun a c x B N _ h=>by simp [Z6.get,ZF] at h
theorem ZI.calls {P:Program} {f:FuncId} {args₀ args:List AV} {v v':AV} {nx:Nat} {bs:List (Nat×Blk)} {h:Z6} {K:KO} (hp:ZI P f args₀ v nx bs)
  (ha:∀(E:Env) (w:World) (rs:List Value),Emb E h w→ZE E args rs→ZE (E.bor none w true) args₀ rs)
  (hv:shV h.next v=some v') (hb:Z1l nx bs) (hK:K (.ret v') ⟨h.next+nx,U5 (Z5B h.next bs) h.bs⟩):Zn P f args h K:=by
 intro E w rs he hl
 refine (hp (E.bor none w true) w rs ZaI (ha E w rs he hl)).mono ?_
 rintro e w' ⟨E₁,r,rfl,hev,hr⟩
 let E':Env:=⟨fun x=>if x<h.next then E.blk x else E₁.blk (x-h.next),E.imm⟩
 have hE'old:∀x,x<h.next→E'.blk x=E.blk x:=fun x hx=>if_pos hx
 have hE'new:∀x,E'.blk (h.next+x)=E₁.blk x:=fun x=>by
  show (if h.next+x<h.next then _ else _)=_
  rw [if_neg (by omega)];congr 1;omega
 have hfresh:∀x,E.blk x≠none→x<h.next:=fun x hx=>by
  rcases Nat.lt_or_ge x h.next with hl|hg
  ·exact hl
  ·exact absurd (he.fresh x hg) hx
 have hle:E.le E':=⟨fun x q hx=>by rw [hE'old x (hfresh x (by rw [hx];simp))];exact hx,fun _ _ h=>h⟩
 have hkeep:∀b,b<w.heap.size→w'.heap[b]? =w.heap[b]?:=fun b hb=>hev.keep b hb (fun ⟨x,B,N,hx,_⟩=>by simp [Z6.get,ZF] at hx)
 have hlt:∀b o,w.heap[b]? =some o→b<w.heap.size:=fun b o ho=>by
  rcases Nat.lt_or_ge b w.heap.size with hl|hg
  ·exact hl
  ·simp [Array.getElem?_eq_none hg] at ho
 have hcell:∀a c,w.cell? a=some c→w'.cell? a=some c:=fun a c hc=>by
  have:a.block<w.heap.size:=by
   rcases Nat.lt_or_ge a.block w.heap.size with hl|hg
   ·exact hl
   ·simp [World.cell?,Array.getElem?_eq_none hg] at hc
  simpa [World.cell?,hkeep _ this] using hc
 have hget:∀y B,Z6.get ⟨h.next+nx,U5 (Z5B h.next bs) h.bs⟩ y=some B→(∃x,y=h.next+x∧ZF bs x=some B)∨(y<h.next∧h.get y=some B):=fun y B hy=>by
  simp only [Z6.get,Z3w] at hy
  split at hy
  ·rename_i B' hq
   cases hy
   exact .inl (Z83 bs y _ hq)
  ·exact .inr ⟨he.lt y B hy,hy⟩
 have hnewsz:∀x B b N,ZF bs x=some B→E₁.blk x=some (b,N)→w.heap.size≤b:=fun x B b N hx hb=>by
  rcases hev.own b ⟨x,B,N,hx,hb⟩ with ⟨z,C,M,hz,_⟩|hq
  ·simp [Z6.get,ZF] at hz
  ·exact hq
 have hemb:Emb E' ⟨h.next+nx,U5 (Z5B h.next bs) h.bs⟩ w':=by
  refine ⟨?_, ?_, ?_, ?_, ?_, ?_⟩
  ·intro x hx
   have hx':h.next+nx≤x:=hx
   obtain ⟨y,rfl⟩:=Nat.exists_eq_add_of_le (show h.next≤x by omega)
   rw [hE'new]
   exact hev.emb.fresh y (by show nx≤y;omega)
  ·intro y B hy
   show y<h.next+nx
   rcases hget y B hy with ⟨x,rfl,hx⟩|⟨hlt',_⟩
   ·have:=(U6 hb x B hx).1;omega
   ·omega
  ·intro y B hy
   rcases hget y B hy with ⟨x,rfl,hx⟩|⟨hlt',hy'⟩
   ·exact (U6 hb x B hx).2.move (hE'new x) (hev.emb.own x B hx)
   ·have h1:=(he.own y B hy').mono hle (fun hn=>by rw [hE'old y hlt'];exact hn)
    refine h1.congr fun b N hbb=> ?_
    rw [hE'old y hlt'] at hbb
    exact hkeep b ((he.own y B hy').lt hbb)
  ·intro y z B C b N N' hy hz hby hbz
   rcases hget y B hy with ⟨x,rfl,hx⟩|⟨hly,hy'⟩<;>rcases hget z C hz with ⟨x',rfl,hx'⟩|⟨hlz,hz'⟩
   ·rw [hE'new] at hby hbz
    rw [hev.emb.disj x x' B C b N N' hx hx' hby hbz]
   ·rw [hE'new] at hby
    rw [hE'old z hlz] at hbz
    have:=hnewsz x B b N hx hby
    have:=(he.own z C hz').lt hbz
    omega
   ·rw [hE'new] at hbz
    rw [hE'old y hly] at hby
    have:=hnewsz x' C b N' hx' hbz
    have:=(he.own y B hy').lt hby
    omega
   ·rw [hE'old y hly] at hby
    rw [hE'old z hlz] at hbz
    exact he.disj y z B C b N N' hy' hz' hby hbz
  ·intro a c hi
   exact hcell a c (he.imm a c hi)
  ·intro a c y B N hi hy hbb
   rcases hget y B hy with ⟨x,rfl,hx⟩|⟨hly,hy'⟩
   ·rw [hE'new] at hbb
    have:=hnewsz x B _ N hx hbb
    have hc:=he.imm a c hi
    have:a.block<w.heap.size:=by
     rcases Nat.lt_or_ge a.block w.heap.size with hl|hg
     ·exact hl
     ·simp [World.cell?,Array.getElem?_eq_none hg] at hc
    omega
   ·rw [hE'old y hly] at hbb
    exact he.sep a c y B N hi hy' hbb
 refine ⟨E',.ret v',_,hK,⟨hle,hemb,hev.size,hev.os,hev.tape,hev.output,fun b hb' _=>hkeep b hb', ?_,fun _ _ h=>h⟩,.ret _ _ (Z4C (fun x q hx=>by rw [hE'new];exact hx) v v' r hv hr)⟩
 rintro b ⟨y,B,N,hy,hbb⟩
 rcases hget y B hy with ⟨x,rfl,hx⟩|⟨hly,hy'⟩
 ·rw [hE'new] at hbb
  exact .inr (hnewsz x B b N hx hbb)
 ·rw [hE'old y hly] at hbb
  exact .inl ⟨y,B,N,hy',hbb⟩
theorem ZaJ {E:Env} {w:World} {h:Z6} {x:Nat} {B:Blk} (he:Emb E h w) (hx:h.get x=some B) (hp:WX B):Emb (E.bor (some x) w true) ⟨1,[(0,B)]⟩ w:=by
 have hget:∀y C,Z6.get ⟨1,[(0,B)]⟩ y=some C→y=0∧C=B:=fun y C hy=>by
  simp only [Z6.get,ZF] at hy
  split at hy
  ·rename_i hb
   have:=Nat.eq_of_beq_eq_true hb
   cases hy
   exact ⟨this.symm,rfl⟩
  ·cases hy
 refine ⟨fun y hy=> ?_,fun y C hy=> ?_,fun y C hy=> ?_,fun y z C D b N N' hy hz _ _=> ?_,fun a c h=>h.1,fun a c y C N hi hy hb=> ?_⟩
 ·have hy':1≤y:=hy
  match y,hy' with
  | y+1,_=>rfl
 ·obtain ⟨rfl,_⟩:=hget y C hy;exact Nat.one_pos
 ·obtain ⟨rfl,rfl⟩:=hget y C hy
  exact hp.move (E:=E) (x:=x) rfl (he.own x _ hx)
 ·rw [(hget y C hy).1,(hget z D hz).1]
 ·obtain ⟨rfl,rfl⟩:=hget y C hy
  exact hi.2 x N rfl hb
theorem Zc.nothing (E E':Env) (r:Value) (h:Zc E (.tuple []) r):Zc E' (.tuple []) r:=by
 cases h with
 | tuple vs rs hl=>cases hl;exact .tuple [] [] .nil
theorem Z37.calls {P:Program} {f:FuncId} {args₀ args:List AV} {cs:List AV} {B':Blk} {v:AV} {h:Z6} {K:KO} {x:Nat} (hc:Z37 P f args₀ (.flat cs) v B') (hx:h.get x=some (.flat cs)) (hp:plainC cs=true) (hne:csz cs≠0) (hp':WX B') (hv:∀(E E':Env) (r:Value),Zc E v r→Zc E' v r)
  (ha:∀(E:Env) (w:World) (rs:List Value),Emb E h w→ZE E args rs→ZE (E.bor (some x) w true) args₀ rs)
  (hK:K (.ret v) (h.set x B')):Zn P f args h K:=by
 intro E w rs he hl
 refine (hc (E.bor (some x) w true) w rs (ZaJ he hx (.flat _ hp)) (ha E w rs he hl)).mono ?_
 rintro e w' ⟨E₁,r,rfl,hev,hr⟩
 have hex:∃b N,E.blk x=some (b,N):=by
  cases he.own x _ hx with
  | flat0 cs h0 hn=>exact absurd h0 hne
  | flat cs b cells elem fr vs hb hw hf hc hv=>exact ⟨b,_,hb⟩
 obtain ⟨b0,N0,hbx⟩:=hex
 have hE1:E₁.blk 0=some (b0,N0):=hev.le.blk 0 _ hbx
 have hown:∀b,Wq (E.bor (some x) w true) ⟨1,[(0,.flat cs)]⟩ b→b=b0:=fun b ⟨y,C,N,hy,hb⟩=>by
  simp only [Z6.get,ZF] at hy
  split at hy
  ·rename_i hq
   have:=Nat.eq_of_beq_eq_true hq
   subst this
   have hb':E.blk x=some (b,N):=hb
   rw [hbx] at hb'
   cases hb'
   rfl
  ·cases hy
 have hkeep:∀b,b<w.heap.size→b≠b0→w'.heap[b]? =w.heap[b]?:=fun b hb hn=>hev.keep b hb (fun ho=>hn (hown b ho))
 have hget:∀y C,(h.set x B').get y=some C→(y=x∧C=B')∨(y≠x∧h.get y=some C):=fun y C hy=>by
  by_cases hn:x=y
  ·subst hn;rw [Z6.get_set_same] at hy;cases hy;exact .inl ⟨rfl,rfl⟩
  ·rw [Z6.get_set_other _ _ _ _ hn] at hy;exact .inr ⟨fun h=>hn h.symm,hy⟩
 have hget':∀y C,(h.set x B').get y=some C→∃C',h.get y=some C':=fun y C hy=>by
  rcases hget y C hy with ⟨rfl,_⟩|⟨_,h'⟩
  ·exact ⟨_,hx⟩
  ·exact ⟨C,h'⟩
 have hemb:Emb E (h.set x B') w':=by
  refine ⟨he.fresh, ?_, ?_, ?_, ?_, ?_⟩
  ·intro y C hy
   obtain ⟨C',h'⟩:=hget' y C hy
   exact he.lt y C' h'
  ·intro y C hy
   rcases hget y C hy with ⟨rfl,rfl⟩|⟨hn,h'⟩
   ·exact hp'.move (E:=E₁) (x:=0) (hbx.trans hE1.symm) (hev.emb.own 0 _ rfl)
   ·refine (he.own y C h').congr fun b M hb=>hkeep b ((he.own y C h').lt hb) ?_
    rintro rfl
    exact hn (he.disj y x C _ b M N0 h' hx hb hbx)
  ·intro y z C D b M M' hy hz hby hbz
   obtain ⟨C',hy'⟩:=hget' y C hy
   obtain ⟨D',hz'⟩:=hget' z D hz
   exact he.disj y z C' D' b M M' hy' hz' hby hbz
  ·intro a c hi
   have hc:=he.imm a c hi
   have hlt:a.block<w.heap.size:=by
    rcases Nat.lt_or_ge a.block w.heap.size with hl|hg
    ·exact hl
    ·simp [World.cell?,Array.getElem?_eq_none hg] at hc
   have hn:a.block≠b0:=by
    rintro rfl
    exact he.sep a c x _ N0 hi hx hbx
   simpa [World.cell?,hkeep _ hlt hn] using hc
  ·intro a c y C M hi hy hb
   obtain ⟨C',hy'⟩:=hget' y C hy
   exact he.sep a c y C' M hi hy' hb
 refine ⟨E,.ret v,_,hK,⟨.refl E,hemb,hev.size,hev.os,hev.tape,hev.output,fun b hb hno=>hkeep b hb ?_, ?_,fun _ _ h=>h⟩,.ret _ _ (hv _ _ _ hr)⟩
 ·rintro rfl
  exact hno ⟨x,_,N0,hx,hbx⟩
 ·rintro b ⟨y,C,M,hy,hb⟩
  obtain ⟨C',hy'⟩:=hget' y C hy
  exact .inl ⟨y,C',M,hy',hb⟩
end Go.Tk
end
section
namespace Go.Tk
open IntKind (i64 u8 u32 u64 wrap)
def Z38 (P:Program) (f:FuncId) (args:List AV) (n:Nat) (bs:List (Nat×Blk)) (v:AV):Prop:=
 ∀(E:Env) (w:World) (rs:List Value),Emb E ⟨n,bs⟩ w→ZE E args rs→Calls P f rs.toArray w fun e w'=>∃E' r,e=.returned r∧Evo E ⟨n,bs⟩ w E' ⟨n,bs⟩ w'∧Zc E' v r
theorem Z38.of {P:Program} {f:FuncId} {args:List AV} {τ:Ren} {n:Nat} {bs:List (Nat×Blk)} {v:AV} (h:Zn P f args ⟨n,bs⟩ (W7 n τ v n bs)):Z38 P f args n bs v:=
 fun _ _ _ he hl=>Qj h he hl
def Env.sub (E:Env) (σ:List Nat):Env:=⟨fun y=>match σ[y]? with|some x=>E.blk x|none=>none,fun _ _=>False⟩
def Wc:Nat→List Nat→List Blk→List (Nat×Blk)
 | k,_::σ,B::Bs=>(k,B)::Wc (k+1) σ Bs
 | _,_,_=>[]
theorem XM:∀(σ:List Nat) (Bs:List Blk) (k y:Nat) (B:Blk),ZF (Wc k σ Bs) y=some B→∃i x,y=k+i∧σ[i]? =some x∧Bs[i]? =some B
 | [],Bs,k,y,B,h=>by simp [Wc,ZF] at h
 | _::_,[],k,y,B,h=>by simp [Wc,ZF] at h
 | x::σ,C::Bs,k,y,B,h=>by
  simp only [Wc,ZF] at h
  split at h
  ·rename_i hb
   have:=Nat.eq_of_beq_eq_true hb
   cases h
   exact ⟨0,x,by omega,rfl,rfl⟩
  ·obtain ⟨i,x',rfl,h1,h2⟩:=XM σ Bs (k+1) y B h
   exact ⟨i+1,x',by omega,by simpa using h1,by simpa using h2⟩
theorem Z3x:∀(σ:List Nat) (Bs:List Blk) (k i x:Nat) (B:Blk),σ[i]? =some x→Bs[i]? =some B→ZF (Wc k σ Bs) (k+i)=some B
 | [],Bs,k,i,x,B,h,_=>by simp at h
 | _::_,[],k,i,x,B,_,h=>by simp at h
 | y::σ,C::Bs,k,0,x,B,h1,h2=>by
  simp at h1 h2
  simp [Wc,ZF,Nat.beq_refl,h2]
 | y::σ,C::Bs,k,i+1,x,B,h1,h2=>by
  have:=Z3x σ Bs (k+1) i x B (by simpa using h1) (by simpa using h2)
  simp only [Wc,ZF]
  have hne:Nat.beq k (k+(i+1))=false:=ZC (by omega)
  rw [hne,show k+(i+1)=k+1+i by omega]
  exact this
theorem Z38.calls {P:Program} {f:FuncId} {args₀ args:List AV} {σ:List Nat} {Bs:List Blk} {v v':AV} {h:Z6} {K:AV→Prop} (hc:Z38 P f args₀ σ.length (Wc 0 σ Bs) v)
  (hl:σ.length=Bs.length) (inj:∀(i j x:Nat),σ[i]? =some x→σ[j]? =some x→i=j) (hx:∀(i x:Nat) (B:Blk),σ[i]? =some x→Bs[i]? =some B→h.get x=some B) (hp:∀B∈Bs,WX B)
  (ha:∀(E:Env) (w:World) (rs:List Value),Emb E h w→ZE E args rs→ZE (E.sub σ) args₀ rs)
  (hv:∀(E E₁:Env) (r:Value),(E.sub σ).le E₁→(∀x,σ.length≤x→E₁.blk x=none)→(∀x∈σ,∃q,E.blk x=some q)→Zc E₁ v r→Zc E v' r) (hne:∀(E:Env) (w:World),Emb E h w→∀x∈σ,∃q,E.blk x=some q)
  (hK:K v'):Zn P f args h fun o h'=>∃v,o=.ret v∧h'=h∧K v:=by
 intro E w rs he hr
 have hlt:∀i x,σ[i]? =some x→i<σ.length:=fun i x hi=>(List.getElem?_eq_some_iff.1 hi).1
 have hB:∀i x,σ[i]? =some x→∃B,Bs[i]? =some B:=fun i x hi=>by
  have:=hlt i x hi
  exact ⟨Bs[i],List.getElem?_eq_getElem (by omega)⟩
 have hsub:∀i x,σ[i]? =some x→(E.sub σ).blk i=E.blk x:=fun i x hi=>by simp [Env.sub,hi]
 have hnone:∀i,σ.length≤i→(E.sub σ).blk i=none:=fun i hi=>by simp [Env.sub,List.getElem?_eq_none hi]
 have hemb:Emb (E.sub σ) ⟨σ.length,Wc 0 σ Bs⟩ w:=by
  refine ⟨hnone, ?_, ?_, ?_,fun _ _ h=>h.elim,fun _ _ _ _ _ h=>h.elim⟩
  ·intro y B hy
   obtain ⟨i,x,rfl,h1,_⟩:=XM σ Bs 0 y B hy
   have:=hlt i x h1
   show 0+i<σ.length
   omega
  ·intro y B hy
   obtain ⟨i,x,rfl,h1,h2⟩:=XM σ Bs 0 y B hy
   rw [Nat.zero_add]
   exact (hp B (List.mem_of_getElem? h2)).move (hsub i x h1) (he.own x B (hx i x B h1 h2))
  ·intro y z B C b N N' hy hz hby hbz
   obtain ⟨i,x,rfl,h1,h2⟩:=XM σ Bs 0 y B hy
   obtain ⟨j,x',rfl,h3,h4⟩:=XM σ Bs 0 z C hz
   rw [Nat.zero_add] at hby hbz⊢
   rw [Nat.zero_add]
   rw [hsub i x h1] at hby
   rw [hsub j x' h3] at hbz
   have:=he.disj x x' B C b N N' (hx i x B h1 h2) (hx j x' C h3 h4) hby hbz
   subst this
   exact inj i j x h1 h3
 refine (hc (E.sub σ) w rs hemb (ha E w rs he hr)).mono ?_
 rintro e w' ⟨E₁,r,rfl,hev,hvr⟩
 have hkeep:∀b,b<w.heap.size→(∀i x N,σ[i]? =some x→E.blk x=some (b,N)→False)→w'.heap[b]? =w.heap[b]?:=fun b hb hn=>hev.keep b hb (fun ⟨y,B,N,hy,hbb⟩=>by
  obtain ⟨i,x,rfl,h1,_⟩:=XM σ Bs 0 y B hy
  rw [Nat.zero_add,hsub i x h1] at hbb
  exact hn i x N h1 hbb)
 have hemb':Emb E h w':=by
  refine ⟨he.fresh,he.lt, ?_,he.disj, ?_,he.sep⟩
  ·intro y B hy
   by_cases hin:∃i:Nat,σ[i]? =some y
   ·obtain ⟨i,hi⟩:=hin
    obtain ⟨B',hB'⟩:=hB i y hi
    have hBB:=hx i y B' hi hB'
    rw [hy] at hBB
    cases hBB
    cases hq:E.blk y with
    | none=>
     obtain ⟨q,hq'⟩:=hne E w he y (List.mem_of_getElem? hi)
     rw [hq] at hq'
     cases hq'
    | some q=>
     have h0:(E.sub σ).blk i=some q:=(hsub i y hi).trans hq
     have h1:E₁.blk i=some q:=hev.le.blk i q h0
     have hg:Z6.get ⟨σ.length,Wc 0 σ Bs⟩ i=some B:=by
      have:=Z3x σ Bs 0 i y B hi hB'
      rwa [Nat.zero_add] at this
     exact (hp B (List.mem_of_getElem? hB')).move (E:=E₁) (x:=i) (hq.trans h1.symm) (hev.emb.own i B hg)
   ·refine (he.own y B hy).congr fun b N hb=>hkeep b ((he.own y B hy).lt hb) ?_
    intro i x N' hi hbx
    obtain ⟨B',hB'⟩:=hB i x hi
    have:=he.disj y x B B' b N N' hy (hx i x B' hi hB') hb hbx
    subst this
    exact hin ⟨i,hi⟩
  ·intro a c hi
   have hcc:=he.imm a c hi
   have hlt':a.block<w.heap.size:=by
    rcases Nat.lt_or_ge a.block w.heap.size with hl|hg
    ·exact hl
    ·simp [World.cell?,Array.getElem?_eq_none hg] at hcc
   have hk:=hkeep a.block hlt' (fun i x N hi' hbx=>by
    obtain ⟨B',hB'⟩:=hB i x hi'
    exact he.sep a c x B' N hi (hx i x B' hi' hB') hbx)
   simpa [World.cell?,hk] using hcc
 refine ⟨E,.ret v',h,⟨v',rfl,rfl,hK⟩,⟨.refl E,hemb',hev.size,hev.os,hev.tape,hev.output,fun b hb hno=>hkeep b hb (fun i x N hi hbx=> ?_),fun b ho=>.inl ho,fun _ _ h=>h⟩,.ret _ _ (hv E E₁ r hev.le hev.emb.fresh (hne E w he) hvr)⟩
 obtain ⟨B',hB'⟩:=hB i x hi
 exact hno ⟨x,B',N,hx i x B' hi hB',hbx⟩
theorem Zhw {a b:Nat} (h:a≠b):∀(i j x:Nat),([a,b]:List Nat)[i]? =some x→([a,b]:List Nat)[j]? =some x→i=j
 | 0,0,_,_,_=>rfl
 | 0,1,x,h1,h2=>by simp at h1 h2;omega
 | 1,0,x,h1,h2=>by simp at h1 h2;omega
 | 1,1,_,_,_=>rfl
 | i+2,_,x,h1,_=>by simp at h1
 | 0,j+2,x,_,h2=>by simp at h2
 | 1,j+2,x,_,h2=>by simp at h2
theorem Z2u {E:Env} {h:Z6} {w:World} {x:Nat} {cs:List AV} (he:Emb E h w) (hx:h.get x=some (.flat cs)) (hn:csz cs≠0):∃q,E.blk x=some q:=by
 cases he.own x _ hx with
 | flat0 cs h0 hn'=>exact absurd h0 hn
 | flat cs b cells elem fr vs hb hw hf hc hv=>exact ⟨_,hb⟩
end Go.Tk
end
section
namespace Go.Tk
open IntKind (i64 u8 u32 u64 wrap)
theorem ZI.psumm {P:Program} {f:FuncId} {args:List AV} {h:Z6} {d:Nat} {K:AV→Prop}
  (hl:ZV none h true d args fun a₀=>∃v,ZI P f a₀ v 0 []∧(∀d,shV d v=some v)∧K v):Zn P f args h fun o h'=>∃v,o=.ret v∧h'=h∧K v:=by
 obtain ⟨a₀,⟨v,hp,hs,hK⟩,ha⟩:=XY (fun x hx=>by cases hx) _ _ _ _ hl
 refine hp.calls (v':=v) (fun E w rs he hr=>ha E w rs he hr) (hs _) trivial ?_
 exact ⟨v,rfl,rfl,hK⟩
theorem ZI.fsumm {P:Program} {f:FuncId} {args:List AV} {h:Z6} {d:Nat} {K:KO}
  (hl:ZV none h true d args fun a₀=>∃v v' nx bs,ZI P f a₀ v nx bs∧shV h.next v=some v'∧Z1l nx bs∧K (.ret v') ⟨h.next+nx,U5 (Z5B h.next bs) h.bs⟩):Zn P f args h K:=by
 obtain ⟨a₀,⟨v,v',nx,bs,hp,hs,hb,hK⟩,ha⟩:=XY (fun x hx=>by cases hx) _ _ _ _ hl
 exact hp.calls (fun E w rs he hr=>ha E w rs he hr) hs hb hK
theorem ZI.ev {G:Zf} (hG:G.Ok) {n:Nat} {f:FuncId} {args:List AV} {τ:Ren} {v:AV} {nx:Nat} {bs:List (Nat×Blk)} (h:evF G n f args ⟨0,[]⟩ (W7 0 τ v nx bs)):ZI G.P f args v nx bs:=.of (Z0l hG h)
theorem Z37.ev {G:Zf} (hG:G.Ok) {n:Nat} {f:FuncId} {args:List AV} {τ:Ren} {B:Blk} {v:AV} {B':Blk} (h:evF G n f args ⟨1,[(0,B)]⟩ (W7 1 τ v 1 [(0,B')])):Z37 G.P f args B v B':=.of (Z0l hG h)
theorem Z38.ev {G:Zf} (hG:G.Ok) {n:Nat} {f:FuncId} {args:List AV} {τ:Ren} {v:AV} {nx:Nat} {bs:List (Nat×Blk)} (h:evF G n f args ⟨nx,bs⟩ (W7 nx τ v nx bs)):Z38 G.P f args nx bs v:=.of (Z0l hG h)
end Go.Tk
end
section
namespace Go.Tk
open IntKind (i64 u8 u32 u64 wrap)
noncomputable abbrev PP:Program:=Go.Proofs.Tryz.prog
noncomputable def G0:Zf:={ P:=PP,draw:=Zay PP,psumm:=fun _=>none,fsumm:=fun _=>none,lsumm:=fun _ _=>none,fuel:=100}
theorem ZB:G0.Ok where
 draw:=fun _ _ _ _ _ _ hcx hro h _=>ZaA hcx hro h
 psumm:=fun _ _ _ _ _ h=>by simp [G0] at h
 fsumm:=fun _ _ _ _ _ h=>by simp [G0] at h
 lsumm:=fun _ _ _ _ _ _ h=>by simp [G0] at h
end Go.Tk
end
section
namespace Go.Tk
open IntKind (i64 u8 u32 u64 wrap)
def Z76 (w n:Int):Int:=bOr .u32 (ZG .u32 w n) (Zy .u32 w (32-n))
def Wh (shift:Int) (places:List Int) (w:Int):Int:=places.foldl (fun x n=>YI .u32 x (Z76 w (32-n))) (Zy .u32 w shift)
theorem Zgc (w:Int) :
  evF G0 20 191 [.int .u32 w,.pview [.int .i64 3] 0,.pview [.vints .i64 [7,18] 2] 0] ⟨0,[]⟩ (W7 0 [] (.int .u32 (Wh 3 [7,18] w)) 0 []):=by
 refine @Eq.mpr _ (Z0 (decide (YI u32 (YI u32 (Zy u32 w 3) (bOr u32 (ZG u32 w 25) (Zy u32 w 7))) (bOr u32 (ZG u32 w 14) (Zy u32 w 18))=Wh 3 [(7:Int),18] w)) True False) (by kernel_rfl) ?_
 exact nd (by kernel_rfl) trivial
theorem Zgd (w:Int) :
  evF G0 20 191 [.int .u32 w,.pview [.int .i64 10] 0,.pview [.vints .i64 [17,19] 2] 0] ⟨0,[]⟩ (W7 0 [] (.int .u32 (Wh 10 [17,19] w)) 0 []):=by
 refine @Eq.mpr _ (Z0 (decide (YI u32 (YI u32 (Zy u32 w 10) (bOr u32 (ZG u32 w 15) (Zy u32 w 17))) (bOr u32 (ZG u32 w 13) (Zy u32 w 19))=Wh 10 [(17:Int),19] w)) True False) (by kernel_rfl) ?_
 exact nd (by kernel_rfl) trivial
theorem Zge (w:Int) :
  evF G0 20 191 [.int .u32 w,.pview [.int .i64 32] 0,.pview [.vints .i64 [2,13,22] 3] 0] ⟨0,[]⟩ (W7 0 [] (.int .u32 (Wh 32 [2,13,22] w)) 0 []):=by
 refine @Eq.mpr _ (Z0 (decide (YI u32 (YI u32 (YI u32 (Zy u32 w 32) (bOr u32 (ZG u32 w 30) (Zy u32 w 2))) (bOr u32 (ZG u32 w 19) (Zy u32 w 13))) (bOr u32 (ZG u32 w 10) (Zy u32 w 22))=Wh 32 [(2:Int),13,22] w)) True False) (by kernel_rfl) ?_
 exact nd (by kernel_rfl) trivial
theorem Zgf (w:Int) :
  evF G0 20 191 [.int .u32 w,.pview [.int .i64 32] 0,.pview [.vints .i64 [6,11,25] 3] 0] ⟨0,[]⟩ (W7 0 [] (.int .u32 (Wh 32 [6,11,25] w)) 0 []):=by
 refine @Eq.mpr _ (Z0 (decide (YI u32 (YI u32 (YI u32 (Zy u32 w 32) (bOr u32 (ZG u32 w 26) (Zy u32 w 6))) (bOr u32 (ZG u32 w 21) (Zy u32 w 11))) (bOr u32 (ZG u32 w 7) (Zy u32 w 25))=Wh 32 [(6:Int),11,25] w)) True False) (by kernel_rfl) ?_
 exact nd (by kernel_rfl) trivial
def Zgg:ZU:=fun args h K=>ZV none h true 20 args fun a=>match a with
 | [.int .u32 w,.pview [.int .i64 s] 0,.pview [.vints .i64 ps len] 0]=>
  match decide (s=3∧ps=[7,18]∧len=2) with
  | true=>K (.int .u32 (Wh 3 [7,18] w))
  | false=>match decide (s=10∧ps=[17,19]∧len=2) with
  | true=>K (.int .u32 (Wh 10 [17,19] w))
  | false=>match decide (s=32∧ps=[2,13,22]∧len=3) with
  | true=>K (.int .u32 (Wh 32 [2,13,22] w))
  | false=>match decide (s=32∧ps=[6,11,25]∧len=3) with
  | true=>K (.int .u32 (Wh 32 [6,11,25] w))
  | false=>False
 | _=>False
theorem Z77 {mv:Option Nat} {h:Z6} {t:Bool} {d:Nat} {l:List AV} {K K':List AV→Prop} (hm:∀x,mv=some x→∃B,h.get x=some B) (hl:ZV mv h t d l K) (hK:∀a,K a→K' a):
  ∃l₀,K' l₀∧∀(E:Env) (w:World) (r:List Value),Emb E h w→ZE E l r→ZE (E.bor mv w t) l₀ r:=
 let ⟨l₀,h1,h2⟩:=XY hm _ _ _ _ hl;⟨l₀,hK _ h1,h2⟩
theorem QP {P:Program} {f:FuncId} {args:List AV} {h:Z6} {d:Nat} {K:AV→Prop} {K0:List AV→Prop} (hl:ZV none h true d args K0) (hK:∀a,K0 a→∃v,ZI P f a v 0 []∧(∀d,shV d v=some v)∧K v):
  Zn P f args h fun o h'=>∃v,o=.ret v∧h'=h∧K v:=by
 obtain ⟨a₀,⟨v,hp,hs,hKv⟩,ha⟩:=Z77 (fun x hx=>by cases hx) hl hK
 refine hp.calls (v':=v) (fun E w rs he hr=>ha E w rs he hr) (hs _) trivial ?_
 exact ⟨v,rfl,rfl,hKv⟩
theorem ZcM (args:List AV) (h:Z6) (K:AV→Prop) (hl:Zgg args h K):Zn PP 191 args h fun o h'=>∃v,o=.ret v∧h'=h∧K v:=by
 refine QP hl fun a ha=> ?_
 split at ha
 ·rename_i w s ps len
  split at ha
  ·rename_i hd
   obtain ⟨rfl,rfl,rfl⟩:=of_decide_eq_true hd
   exact ⟨_,.ev ZB (Zgc w),fun _=>rfl,ha⟩
  ·split at ha
   ·rename_i hd
    obtain ⟨rfl,rfl,rfl⟩:=of_decide_eq_true hd
    exact ⟨_,.ev ZB (Zgd w),fun _=>rfl,ha⟩
   ·split at ha
    ·rename_i hd
     obtain ⟨rfl,rfl,rfl⟩:=of_decide_eq_true hd
     exact ⟨_,.ev ZB (Zge w),fun _=>rfl,ha⟩
    ·split at ha
     ·rename_i hd
      obtain ⟨rfl,rfl,rfl⟩:=of_decide_eq_true hd
      exact ⟨_,.ev ZB (Zgf w),fun _=>rfl,ha⟩
     ·exact ha.elim
 ·exact ha.elim
theorem w64 {x:Int} (h: -9223372036854775808≤x∧x<9223372036854775808):i64.wrap x=x:=by
 unfold wrap
 simp [IntKind.bits,IntKind.signed]
 omega
theorem tm {a n:Int} (h:0≤a):a.tmod n=a%n:=Int.tmod_eq_emod_of_nonneg h
def atI (i t:Int):Nat:=0+(Int.tmod (i64.wrap (i64.wrap (i+64)-t)) 8).toNat
theorem Zhx (i t:Int) (x:List Int) (hi:0≤i∧i<8∧0≤t∧t<64):
  evF G0 20 190 [.int .i64 i,.ptr (some ⟨0,0,0,0,0⟩),.ptr (some ⟨1,0,0,0,0⟩)] ⟨2,[(0,.flat [.arr .u32 8 x]),(1,.flat [.int .i64 t])]⟩ (W7 2 [] (.ptr (some ⟨0,0,0,0,atI i t⟩)) 2 [(0,.flat [.arr .u32 8 x]),(1,.flat [.int .i64 t])]):=by
 refine @Eq.mpr _ (let q1:=Int.tmod (wrap i64 (wrap i64 (i+64)-t)) 8;
 Z0 (decide (0≤q1∧q1<8)) (Z0 (decide (0+Int.toNat q1=atI i t)) (x=x∧Z0 (decide (t=t)) True False) False) False) (by kernel_rfl) ?_
 conv=>zeta
 obtain ⟨h1,h2,h3,h4⟩:=hi
 have e1:i64.wrap (i+64)=i+64:=w64 (by omega)
 have e2:i64.wrap (i+64-t)=i+64-t:=w64 (by omega)
 refine nd ?_ (nd rfl ⟨rfl,nd rfl trivial⟩)
 rw [e1,e2,tm (by omega)]
 omega
def atS:ZU:=fun args h K=>match args with
 | [.int .i64 i,.ptr (some ⟨b,0,0,0,0⟩),.ptr (some ⟨c,0,0,0,0⟩)]=>match h.get b,h.get c,Nat.beq b c with
  | some (.flat [.arr .u32 8 _]),some (.flat [.int .i64 t]),false=>Zx (0≤i∧i<8∧0≤t∧t<64) (K (.ptr (some ⟨b,0,0,0,atI i t⟩)))
  | _,_,_=>False
 | _=>False
theorem Zf5 (args:List AV) (h:Z6) (K:AV→Prop) (hl:atS args h K):Zn PP 190 args h fun o h'=>∃v,o=.ret v∧h'=h∧K v:=by
 unfold atS at hl
 split at hl
 ·rename_i i b c
  split at hl
  ·rename_i x t hb hc hne
   obtain ⟨hi,hK⟩:=Zb hl
   have hne':b≠c:=fun e=>by subst e;simp [Nat.beq_refl] at hne
   refine Z38.calls (σ:=[b,c]) (Bs:=[.flat [.arr .u32 8 x],.flat [.int .i64 t]]) (Z38.ev ZB (Zhx i t x hi)) rfl (Zhw hne') ?_ ?_ ?_ ?_ ?_ hK
   ·intro j y B hj hB
    match j with
    | 0=>simp at hj hB;subst hj;subst hB;exact hb
    | 1=>simp at hj hB;subst hj;subst hB;exact hc
    | j+2=>simp at hj
   ·intro B hB
    simp at hB
    rcases hB with rfl|rfl
    ·exact .flat _ rfl
    ·exact .flat _ rfl
   ·intro E w rs he hr
    cases hr with
    | cons v r1 vs rs1 h1 hr=>cases hr with
     | cons v r2 vs rs2 h2 hr=>cases hr with
      | cons v r3 vs rs3 h3 hr=>
       cases hr
       cases h1
       cases h2 with
       | ptr p b' N hb'=>cases h3 with
        | ptr p' c' N' hc'=>exact .cons _ _ _ _ (.int _ _) (.cons _ _ _ _ (.ptr ⟨0,0,0,0,0⟩ b' N hb') (.cons _ _ _ _ (.ptr ⟨1,0,0,0,0⟩ c' N' hc') .nil))
   ·intro E E₁ r hle hfr hq hv
    obtain ⟨q,hq⟩:=hq b (by simp)
    have h0:E₁.blk 0=some q:=hle.blk 0 q hq
    cases hv with
    | ptr p b' N hb'=>
     rw [h0] at hb'
     cases hb'
     exact .ptr ⟨b,0,0,0,atI i t⟩ b' N hq
   ·intro E w he y hy
    simp at hy
    rcases hy with rfl|rfl
    ·exact Z2u he hb (by simp [csz])
    ·exact Z2u he hc (by simp [csz])
  ·exact hl.elim
 ·exact hl.elim
end Go.Tk
end
section
namespace Go.Tk
open IntKind (i64 u8 u32 u64 wrap)
noncomputable def G1:Zf:=(G0.withP 191 Zgg).withP 190 atS
theorem Zeu:G1.Ok:=Zf.withP_ok (Zf.withP_ok ZB ZcM) Zf5
noncomputable def QQ:Code:=rfA PP 181 0
noncomputable def QR:Code:=rfB PP 181 0
def WY:List Int:=[1116352408,1899447441,3049323471,3921009573,961987163,1508970993,2453635748,2870763221,3624381080,310598401,607225278,1426881987,1925078388,2162078206,2614888103,3248222580,3835390401,4022224774,264347078,604807628,770255983,1249150122,1555081692,1996064986,2554220882,2821834349,2952996808,3210313671,3336571891,3584528711,113926993,338241895,666307205,773529912,1294757372,1396182291,1695183700,1986661051,2177026350,2456956037,2730485921,2820302411,3259730800,3345764771,3516065817,3600352804,4094571909,275423344,430227734,506948616,659060556,883997877,958139571,1322822218,1537002063,1747873779,1955562222,2024104815,2227730452,2361852424,2428436474,2756734187,3204031479,3329325298]
def pt (n:Nat):AV:=.ptr (some ⟨n,0,0,0,0⟩)
def Z17 (st part:List Int) (came:Int):Blk:=.flat [.arr .u32 8 st,.arr .u8 64 part,.int .i64 came,.bool true]
noncomputable def Z5C (st part:List Int) (came:Int) (m x:List Int) (t:Int):St:=⟨59,[(0,.yield 23),(1,pt 13),(2,pt 20),(3,pt 21),(7,.int .i64 t)],⟨24,[
 (23,.loop ⟨.ready,none,181,137,[(0,pt 0),(6,pt 3),(7,pt 10),(8,pt 11),(9,pt 12)],[46,47],QQ,QR,22⟩),(22,.defd),
 (21,.flat [.func (.func 191) [] [pt 18,pt 19]]),(20,.flat [.func (.func 191) [] [pt 15,pt 16]]),(19,.flat [.nslice ⟨17,0,0,0,0⟩ 1 2 2]),(18,.flat [.int .i64 10]),(17,.ints .i64 [17,19]),
 (16,.flat [.nslice ⟨14,0,0,0,0⟩ 1 2 2]),(15,.flat [.int .i64 3]),(14,.ints .i64 [7,18]),(13,.flat [pt 1]),(12,.flat [.arr .u32 8 x]),
 (11,.flat [.func (.func 191) [] [pt 8,pt 9]]),(10,.flat [.func (.func 191) [] [pt 5,pt 6]]),(9,.flat [.nslice ⟨7,0,0,0,0⟩ 1 3 3]),(8,.flat [.int .i64 32]),(7,.ints .i64 [6,11,25]),
 (6,.flat [.nslice ⟨4,0,0,0,0⟩ 1 3 3]),(5,.flat [.int .i64 32]),(4,.ints .i64 [2,13,22]),(3,.flat [.arr .u32 64 WY]),(1,.flat [.arr .u32 16 m]),(0,Z17 st part came)]⟩,[]⟩
def mAt (t:Int):Nat:=0+(Int.tmod t 16).toNat
def Qk (t:Int) (m:List Int):List Int:=if t≥16 then m.set (mAt t) (u32.wrap (m.getD (mAt t) 0+u32.wrap (u32.wrap (Wh 3 [7,18] (m.getD (mAt (i64.wrap (t+1))) 0)+m.getD (mAt (i64.wrap (t+9))) 0)+Wh 10 [17,19] (m.getD (mAt (i64.wrap (t+14))) 0)))) else m
def Z0t (t:Int) (m x:List Int):Int:=u32.wrap (u32.wrap (u32.wrap (u32.wrap (x.getD (atI 7 t) 0+Wh 32 [6,11,25] (x.getD (atI 4 t) 0))+YI .u32 (x.getD (atI 6 t) 0) (Z13 .u32 (x.getD (atI 4 t) 0) (YI .u32 (x.getD (atI 5 t) 0) (x.getD (atI 6 t) 0))))+WY.getD (0+t.toNat) 0)+m.getD (mAt t) 0)
def Z39 (t:Int) (m x:List Int):List Int:=(x.set (atI 3 t) (u32.wrap (x.getD (atI 3 t) 0+Z0t t m x))).set (atI 7 t) (u32.wrap (u32.wrap (Z0t t m x+Wh 32 [2,13,22] (x.getD (atI 0 t) 0))+bOr .u32 (Z13 .u32 (x.getD (atI 0 t) 0) (bOr .u32 (x.getD (atI 1 t) 0) (x.getD (atI 2 t) 0))) (Z13 .u32 (x.getD (atI 1 t) 0) (x.getD (atI 2 t) 0))))
theorem Z5D (t:Int) (m:List Int):(Qk t m).length=m.length:=by unfold Qk;split<;>simp
theorem Z5E (t:Int) (m x:List Int):(Z39 t m x).length=x.length:=by unfold Z39;simp
theorem Z4D {t:Int} (h:0≤t∧t<100):0≤Int.tmod t 16∧Int.tmod t 16<16:=by rw [tm (by omega)];omega
theorem Zf6 {i t:Int} (h:0≤i∧i<8∧0≤t∧t<64):atI i t<8:=by
 unfold atI
 rw [w64 (x:=i+64) (by omega),w64 (by omega),tm (by omega)]
 omega
theorem ZaK (st part:List Int) (came:Int) (m x:List Int) (t:Int) (Z Z2:Prop) (ht:0≤t) (hm:m.length=16) (hx:x.length=8) (hZ:64≤t→Z) (hZ2:t<64→Z2):
  ZY G1 20 192 0 24 (Z5C st part came m x t) (fun e s=>match e with|.normal=>U2 24 [] (Z5C st part came (Qk t m) (Z39 t (Qk t m) x) (t+1)) s Z2|.exit 0=>U2 24 [] (Z5C st part came m x t) s Z|_=>False):=by
 refine @Eq.mpr _ (let q1:=Int.tmod t 16;
 let q2:=decide (0≤q1∧q1<16);
 let q3:=0+Int.toNat q1;
 let q4:=wrap i64 (t+1);
 let q5:=Int.tmod q4 16;
 let q6:=0+Int.toNat q5;
 let q7:=Int.tmod (wrap i64 (t+9)) 16;
 let q8:=0+Int.toNat q7;
 let q9:=Int.tmod (wrap i64 (t+14)) 16;
 let q10:=0+Int.toNat q9;
 let q11:=decide (q3<16);
 let q12:=decide ((0:Int)≤0∧(0:Int)<8∧0≤t∧t<64);
 let q13:=decide (atI 0 t<8);
 let q14:=decide ((0:Int)≤1∧(1:Int)<8∧0≤t∧t<64);
 let q15:=decide (atI 1 t<8);
 let q16:=decide ((0:Int)≤2∧(2:Int)<8∧0≤t∧t<64);
 let q17:=decide (atI 2 t<8);
 let q18:=decide ((0:Int)≤4∧(4:Int)<8∧0≤t∧t<64);
 let q19:=decide (atI 4 t<8);
 let q20:=decide ((0:Int)≤5∧(5:Int)<8∧0≤t∧t<64);
 let q21:=decide (atI 5 t<8);
 let q22:=decide ((0:Int)≤6∧(6:Int)<8∧0≤t∧t<64);
 let q23:=decide (atI 6 t<8);
 let q24:=decide (0≤t∧t<64);
 let q25:=0+Int.toNat t;
 let q26:=decide (q25<64);
 let q27:=decide ((0:Int)≤7∧(7:Int)<8∧0≤t∧t<64);
 let q28:=atI 7 t;
 let q29:=decide (q28<8);
 let q30:=decide ((0:Int)≤3∧(3:Int)<8∧0≤t∧t<64);
 let q31:=atI 3 t;
 let q32:=decide (q31<8);
 let q33:=decide (u32=u32∧q31<8∧q31<List.length x);
 let q34:=List.getD x q31 0;
 let q35:=[(6:Int),11,25];
 let q36:=List.getD x (atI 4 t) 0;
 let q37:=List.getD x (atI 6 t) 0;
 let q38:=wrap u32 (wrap u32 (wrap u32 (List.getD x q28 0+Wh 32 q35 q36)+YI u32 q37 (Z13 u32 q36 (YI u32 (List.getD x (atI 5 t) 0) q37)))+List.getD WY q25 0);
 let q39:=List.getD m q3 0;
 let q40:=[(7:Int),18];
 let q41:=[(17:Int),19];
 let q42:=List.set m q3 (wrap u32 (q39+wrap u32 (wrap u32 (Wh 3 q40 (List.getD m q6 0)+List.getD m q8 0)+Wh 10 q41 (List.getD m q10 0))));
 let q43:=wrap u32 (q38+List.getD q42 q3 0);
 let q44:=List.set x q31 (wrap u32 (q34+q43));
 let q45:=decide (q4=t+1);
 let q46:=[(46:Nat),47];
 let q47:=LoopState.ready=LoopState.ready∧(none:Option Code)=none∧(181:FuncId)=181∧(137:Nat)=137∧q46=q46∧QQ=QQ∧QR=QR;
 let q48:=q41=q41;
 let q49:=q40=q40;
 let q50:=[(2:Int),13,22];
 let q51:=List.getD x (atI 0 t) 0;
 let q52:=Wh 32 q50 q51;
 let q53:=List.getD x (atI 1 t) 0;
 let q54:=List.getD x (atI 2 t) 0;
 let q55:=bOr u32 (Z13 u32 q51 (bOr u32 q53 q54)) (Z13 u32 q53 q54);
 let q56:=Qk t m;
 let q57:=Z39 t q56 x;
 let q58:=q35=q35;
 let q59:=q50=q50;
 let q60:=decide (came=came);
 let q61:=st=st∧part=part∧Z0 q60 Z2 False;
 let q62:=wrap u32 (q38+q39);
 let q63:=List.set x q31 (wrap u32 (q34+q62));
 Z0 (decide (t<64))
 (Z0 (decide (t≥16))
 (Z0 q2 (Z0 (decide (q3<16)) (Z0 (decide (0≤q5∧q5<16)) (Z0 (decide (q6<16)) (Z0 (decide (0≤q7∧q7<16)) (Z0 (decide (q8<16)) (Z0 (decide (0≤q9∧q9<16)) (Z0 (decide (q10<16)) (Z0 q2 (Z0 (decide (u32=u32∧q3<16∧q3<List.length m)) (Z0 q2 (Z0 q11 (Z0 q12 (Z0 q13 (Z0 q14 (Z0 q15 (Z0 q16 (Z0 q17 (Z0 q18 (Z0 q19 (Z0 q20 (Z0 q21 (Z0 q22 (Z0 q23 (Z0 q24 (Z0 q26 (Z0 q27 (Z0 q29 (Z0 q30 (Z0 q32 (Z0 q33 (Z0 q27 (Z0 (decide (u32=u32∧q28<8∧q28<List.length q44)) (Z0 q45 (q47∧q48∧q49∧List.set q44 q28 (wrap u32 (wrap u32 (q43+q52)+q55))=q57∧q58∧q59∧WY=WY∧q42=q56∧q61) False) False) False) False) False) False) False) False) False) False) False) False) False) False) False) False) False) False) False) False) False) False) False) False) False) False) False) False) False) False) False) False) False) False)
 (Z0 q2 (Z0 q11 (Z0 q12 (Z0 q13 (Z0 q14 (Z0 q15 (Z0 q16 (Z0 q17 (Z0 q18 (Z0 q19 (Z0 q20 (Z0 q21 (Z0 q22 (Z0 q23 (Z0 q24 (Z0 q26 (Z0 q27 (Z0 q29 (Z0 q30 (Z0 q32 (Z0 q33 (Z0 q27 (Z0 (decide (u32=u32∧q28<8∧q28<List.length q63)) (Z0 q45 (q47∧q48∧q49∧List.set q63 q28 (wrap u32 (wrap u32 (q62+q52)+q55))=q57∧q58∧q59∧WY=WY∧m=q56∧q61) False) False) False) False) False) False) False) False) False) False) False) False) False) False) False) False) False) False) False) False) False) False) False) False))
 (Z0 (decide (t=t)) (q47∧q48∧q49∧x=x∧q58∧q59∧WY=WY∧m=m∧st=st∧part=part∧Z0 q60 Z False) False)) (by kernel_rfl) ?_
 conv=>zeta
 refine ifD (fun h64=> ?_) (fun h64=> ?_)
 ·have e1:i64.wrap (t+1)=t+1:=w64 (by omega)
  have b0:=Z4D (t:=t) (by omega)
  have b1:=Z4D (t:=i64.wrap (t+1)) (by rw [e1];omega)
  have b9:=Z4D (t:=i64.wrap (t+9)) (by rw [w64 (by omega)];omega)
  have b14:=Z4D (t:=i64.wrap (t+14)) (by rw [w64 (by omega)];omega)
  have a:∀i:Int,0≤i∧i<8→atI i t<8:=fun i hi=>Zf6 (by omega)
  refine ifD (fun h16=> ?_) (fun h16=> ?_)
  all_goals
   repeat (refine nd ?_ ?_;· first|omega|exact a _ (by omega)|exact ⟨rfl,by first|omega|exact a _ (by omega),by first|(rw [hm];omega)|(rw [hx];exact a _ (by omega))|(rw [List.length_set,hx];exact a _ (by omega))⟩)
  ·refine ⟨⟨rfl,rfl,rfl,rfl,rfl,rfl,rfl⟩,rfl,rfl, ?_,rfl,rfl,rfl, ?_,rfl,rfl,nd rfl (hZ2 h64)⟩
   ·simp only [Z39,Z0t,Qk,if_pos h16];rfl
   ·simp only [Qk,if_pos h16];rfl
  ·refine ⟨⟨rfl,rfl,rfl,rfl,rfl,rfl,rfl⟩,rfl,rfl, ?_,rfl,rfl,rfl, ?_,rfl,rfl,nd rfl (hZ2 h64)⟩
   ·simp only [Z39,Z0t,Qk,if_neg h16];rfl
   ·simp only [Qk,if_neg h16]
 ·exact nd rfl ⟨⟨rfl,rfl,rfl,rfl,rfl,rfl,rfl⟩,rfl,rfl,rfl,rfl,rfl,rfl,rfl,rfl,rfl,nd rfl (hZ (by omega))⟩
end Go.Tk
end
section
namespace Go.Tk
open IntKind (i64 u8 u32 u64 wrap)
def Wi (m x:List Int):Nat→List Int×List Int
 | 0=>(m,x)
 | t+1=>let p:=Wi m x t;(Qk t p.1,Z39 t (Qk t p.1) p.2)
theorem QS (m x:List Int) (hm:m.length=16) (hx:x.length=8):∀t,(Wi m x t).1.length=16∧(Wi m x t).2.length=8
 | 0=>⟨hm,hx⟩
 | t+1=>by
  have:=QS m x hm hx t
  simp only [Wi]
  rw [Z5D,Z5E]
  exact this
theorem Z3y (m x:List Int):Wi m x 0=(m,x):=rfl
theorem Z3z (m x:List Int) (t:Nat):Wi m x (t+1)=(Qk t (Wi m x t).1,Z39 t (Qk t (Wi m x t).1) (Wi m x t).2):=rfl
attribute [irreducible] Wi
def Zgh (st part:List Int) (came:Int) (m m' x':List Int) (C:Prop):Nat→St→KE→Prop:=fun k s X=>match Nat.beq k 24 with
 | true=>U2 24 [] (Z5C st part came m st 0) s (C∧X (.exit 0) (Z5C st part came m' x' 64))
 | false=>False
noncomputable def G2 (st part:List Int) (came:Int) (m m' x':List Int) (C:Prop):Zf:=G1.withL 192 0 (Zgh st part came m m' x' C)
theorem Zgi (st part:List Int) (came:Int) (m m' x':List Int) (C:Prop) (hC:C→m.length=16∧st.length=8∧m'=(Wi m st 64).1∧x'=(Wi m st 64).2):(G2 st part came m m' x' C).Ok:=by
 refine Zf.withL_ok Zeu (by kernel_rfl) ?_
 intro k s X hl
 unfold Zgh at hl
 split at hl
 ·rename_i hk
  have:=Nat.eq_of_beq_eq_true hk
  subst this
  obtain ⟨⟨hc,hX⟩,hw⟩:=XC hl
  obtain ⟨hm,hx,rfl,rfl⟩:=hC hc
  refine ⟨{ t:Nat//t≤64},fun t=>64-t.1,fun t=>Z5C st part came (Wi m st t.1).1 (Wi m st t.1).2 t.1,⟨0,by omega⟩,20,by show Z2r 24 s (Z5C st part came (Wi m st 0).1 (Wi m st 0).2 ((0:Nat):Int));rw [Z3y];exact hw, ?_⟩
  rintro ⟨t,ht⟩
  obtain ⟨l1,l2⟩:=QS m st hm hx t
  refine ⟨_,ZaK st part came (Wi m st t).1 (Wi m st t).2 t (t=64) (t<64) (by omega) l1 l2 (by omega) (by omega), ?_⟩
  intro e s' hY
  split at hY
  ·obtain ⟨h64,hw'⟩:=XC hY
   refine ⟨⟨t+1,by omega⟩,by show 64-(t+1)<64-t;omega, ?_⟩
   show Z2r 24 s' (Z5C st part came (Wi m st (t+1)).1 (Wi m st (t+1)).2 ((t+1:Nat):Int))
   rw [Z3z]
   exact hw'
  ·obtain ⟨h64,hw'⟩:=XC hY
   subst h64
   exact ⟨_,hw',hX⟩
  ·exact hY.elim
 ·exact hl.elim
def XK (b:List Int) (i:Nat):Int:=bOr .u32 (ZG .u32 (bOr .u32 (ZG .u32 (bOr .u32 (ZG .u32 (bOr .u32 0 (u32.wrap (b.getD i 0))) 8) (u32.wrap (b.getD (i+1) 0))) 8) (u32.wrap (b.getD (i+2) 0))) 8) (u32.wrap (b.getD (i+3) 0))
def Wy (b:List Int):List Int:=[XK b 0,XK b 4,XK b 8,XK b 12,XK b 16,XK b 20,XK b 24,XK b 28,XK b 32,XK b 36,XK b 40,XK b 44,XK b 48,XK b 52,XK b 56,XK b 60]
def Z9d (st x:List Int):List Int:=List.zipWith (fun a b=>u32.wrap (a+b)) st x
def XZ (st part:List Int):List Int:=Z9d st (Wi (Wy part) st 64).2
theorem Z78 (a0 a1 a2 a3 a4 a5 a6 a7 b0 b1 b2 b3 b4 b5 b6 b7:Int) (part:List Int) (came:Int) (m m' st':List Int) (C:Prop) (hm:m=Wy part) (hst:st'=Z9d [a0,a1,a2,a3,a4,a5,a6,a7] [b0,b1,b2,b3,b4,b5,b6,b7]) (hC:C):
  evF (G2 [a0,a1,a2,a3,a4,a5,a6,a7] part came m m' [b0,b1,b2,b3,b4,b5,b6,b7] C) 20 181 [.ptr (some ⟨0,0,0,0,0⟩),.nslice ⟨0,0,0,8,0⟩ 1 64 64] ⟨1,[(0,Z17 [a0,a1,a2,a3,a4,a5,a6,a7] part came)]⟩ (W7 1 [] (.tuple []) 1 [(0,Z17 st' part came)]):=by
 refine @Eq.mpr _ ((LoopState.ready=LoopState.ready∧(none:Option Code)=none∧(181:FuncId)=(181:FuncId)∧(137:Nat)=(137:Nat)∧[(46:Nat),(47:Nat)]=[(46:Nat),(47:Nat)]∧QQ=QQ∧QR=QR)∧
 [(17:Int),(19:Int)]=[(17:Int),(19:Int)]∧
 [(7:Int),(18:Int)]=[(7:Int),(18:Int)]∧
 [a0,a1,a2,a3,a4,a5,a6,a7]=[a0,a1,a2,a3,a4,a5,a6,a7]∧
 [(6:Int),(11:Int),(25:Int)]=[(6:Int),(11:Int),(25:Int)]∧
 [(2:Int),(13:Int),(22:Int)]=[(2:Int),(13:Int),(22:Int)]∧
 [(1116352408:Int),(1899447441:Int),(3049323471:Int),(3921009573:Int),(961987163:Int),(1508970993:Int),(2453635748:Int),(2870763221:Int),(3624381080:Int),(310598401:Int),(607225278:Int),(1426881987:Int),(1925078388:Int),(2162078206:Int),(2614888103:Int),(3248222580:Int),(3835390401:Int),(4022224774:Int),(264347078:Int),(604807628:Int),(770255983:Int),(1249150122:Int),(1555081692:Int),(1996064986:Int),(2554220882:Int),(2821834349:Int),(2952996808:Int),(3210313671:Int),(3336571891:Int),(3584528711:Int),(113926993:Int),(338241895:Int),(666307205:Int),(773529912:Int),(1294757372:Int),(1396182291:Int),(1695183700:Int),(1986661051:Int),(2177026350:Int),(2456956037:Int),(2730485921:Int),(2820302411:Int),(3259730800:Int),(3345764771:Int),(3516065817:Int),(3600352804:Int),(4094571909:Int),(275423344:Int),(430227734:Int),(506948616:Int),
 (659060556:Int),(883997877:Int),(958139571:Int),(1322822218:Int),(1537002063:Int),(1747873779:Int),(1955562222:Int),(2024104815:Int),(2227730452:Int),(2361852424:Int),(2428436474:Int),(2756734187:Int),(3204031479:Int),(3329325298:Int)]=
 WY∧
 [bOr u32 (ZG u32 (bOr u32 (ZG u32 (bOr u32 (ZG u32 (bOr u32 (0:Int) (wrap u32 (List.getD part (0:Nat) (0:Int)))) (8:Int)) (wrap u32 (List.getD part (1:Nat) (0:Int)))) (8:Int)) (wrap u32 (List.getD part (2:Nat) (0:Int)))) (8:Int)) (wrap u32 (List.getD part (3:Nat) (0:Int))),bOr u32 (ZG u32 (bOr u32 (ZG u32 (bOr u32 (ZG u32 (bOr u32 (0:Int) (wrap u32 (List.getD part (4:Nat) (0:Int)))) (8:Int)) (wrap u32 (List.getD part (5:Nat) (0:Int)))) (8:Int)) (wrap u32 (List.getD part (6:Nat) (0:Int)))) (8:Int)) (wrap u32 (List.getD part (7:Nat) (0:Int))),
 bOr u32 (ZG u32 (bOr u32 (ZG u32 (bOr u32 (ZG u32 (bOr u32 (0:Int) (wrap u32 (List.getD part (8:Nat) (0:Int)))) (8:Int)) (wrap u32 (List.getD part (9:Nat) (0:Int)))) (8:Int)) (wrap u32 (List.getD part (10:Nat) (0:Int)))) (8:Int)) (wrap u32 (List.getD part (11:Nat) (0:Int))),bOr u32 (ZG u32 (bOr u32 (ZG u32 (bOr u32 (ZG u32 (bOr u32 (0:Int) (wrap u32 (List.getD part (12:Nat) (0:Int)))) (8:Int)) (wrap u32 (List.getD part (13:Nat) (0:Int)))) (8:Int)) (wrap u32 (List.getD part (14:Nat) (0:Int)))) (8:Int)) (wrap u32 (List.getD part (15:Nat) (0:Int))),
 bOr u32 (ZG u32 (bOr u32 (ZG u32 (bOr u32 (ZG u32 (bOr u32 (0:Int) (wrap u32 (List.getD part (16:Nat) (0:Int)))) (8:Int)) (wrap u32 (List.getD part (17:Nat) (0:Int)))) (8:Int)) (wrap u32 (List.getD part (18:Nat) (0:Int)))) (8:Int)) (wrap u32 (List.getD part (19:Nat) (0:Int))),bOr u32 (ZG u32 (bOr u32 (ZG u32 (bOr u32 (ZG u32 (bOr u32 (0:Int) (wrap u32 (List.getD part (20:Nat) (0:Int)))) (8:Int)) (wrap u32 (List.getD part (21:Nat) (0:Int)))) (8:Int)) (wrap u32 (List.getD part (22:Nat) (0:Int)))) (8:Int)) (wrap u32 (List.getD part (23:Nat) (0:Int))),
 bOr u32 (ZG u32 (bOr u32 (ZG u32 (bOr u32 (ZG u32 (bOr u32 (0:Int) (wrap u32 (List.getD part (24:Nat) (0:Int)))) (8:Int)) (wrap u32 (List.getD part (25:Nat) (0:Int)))) (8:Int)) (wrap u32 (List.getD part (26:Nat) (0:Int)))) (8:Int)) (wrap u32 (List.getD part (27:Nat) (0:Int))),bOr u32 (ZG u32 (bOr u32 (ZG u32 (bOr u32 (ZG u32 (bOr u32 (0:Int) (wrap u32 (List.getD part (28:Nat) (0:Int)))) (8:Int)) (wrap u32 (List.getD part (29:Nat) (0:Int)))) (8:Int)) (wrap u32 (List.getD part (30:Nat) (0:Int)))) (8:Int)) (wrap u32 (List.getD part (31:Nat) (0:Int))),
 bOr u32 (ZG u32 (bOr u32 (ZG u32 (bOr u32 (ZG u32 (bOr u32 (0:Int) (wrap u32 (List.getD part (32:Nat) (0:Int)))) (8:Int)) (wrap u32 (List.getD part (33:Nat) (0:Int)))) (8:Int)) (wrap u32 (List.getD part (34:Nat) (0:Int)))) (8:Int)) (wrap u32 (List.getD part (35:Nat) (0:Int))),bOr u32 (ZG u32 (bOr u32 (ZG u32 (bOr u32 (ZG u32 (bOr u32 (0:Int) (wrap u32 (List.getD part (36:Nat) (0:Int)))) (8:Int)) (wrap u32 (List.getD part (37:Nat) (0:Int)))) (8:Int)) (wrap u32 (List.getD part (38:Nat) (0:Int)))) (8:Int)) (wrap u32 (List.getD part (39:Nat) (0:Int))),
 bOr u32 (ZG u32 (bOr u32 (ZG u32 (bOr u32 (ZG u32 (bOr u32 (0:Int) (wrap u32 (List.getD part (40:Nat) (0:Int)))) (8:Int)) (wrap u32 (List.getD part (41:Nat) (0:Int)))) (8:Int)) (wrap u32 (List.getD part (42:Nat) (0:Int)))) (8:Int)) (wrap u32 (List.getD part (43:Nat) (0:Int))),bOr u32 (ZG u32 (bOr u32 (ZG u32 (bOr u32 (ZG u32 (bOr u32 (0:Int) (wrap u32 (List.getD part (44:Nat) (0:Int)))) (8:Int)) (wrap u32 (List.getD part (45:Nat) (0:Int)))) (8:Int)) (wrap u32 (List.getD part (46:Nat) (0:Int)))) (8:Int)) (wrap u32 (List.getD part (47:Nat) (0:Int))),
 bOr u32 (ZG u32 (bOr u32 (ZG u32 (bOr u32 (ZG u32 (bOr u32 (0:Int) (wrap u32 (List.getD part (48:Nat) (0:Int)))) (8:Int)) (wrap u32 (List.getD part (49:Nat) (0:Int)))) (8:Int)) (wrap u32 (List.getD part (50:Nat) (0:Int)))) (8:Int)) (wrap u32 (List.getD part (51:Nat) (0:Int))),bOr u32 (ZG u32 (bOr u32 (ZG u32 (bOr u32 (ZG u32 (bOr u32 (0:Int) (wrap u32 (List.getD part (52:Nat) (0:Int)))) (8:Int)) (wrap u32 (List.getD part (53:Nat) (0:Int)))) (8:Int)) (wrap u32 (List.getD part (54:Nat) (0:Int)))) (8:Int)) (wrap u32 (List.getD part (55:Nat) (0:Int))),
 bOr u32 (ZG u32 (bOr u32 (ZG u32 (bOr u32 (ZG u32 (bOr u32 (0:Int) (wrap u32 (List.getD part (56:Nat) (0:Int)))) (8:Int)) (wrap u32 (List.getD part (57:Nat) (0:Int)))) (8:Int)) (wrap u32 (List.getD part (58:Nat) (0:Int)))) (8:Int)) (wrap u32 (List.getD part (59:Nat) (0:Int))),bOr u32 (ZG u32 (bOr u32 (ZG u32 (bOr u32 (ZG u32 (bOr u32 (0:Int) (wrap u32 (List.getD part (60:Nat) (0:Int)))) (8:Int)) (wrap u32 (List.getD part (61:Nat) (0:Int)))) (8:Int)) (wrap u32 (List.getD part (62:Nat) (0:Int)))) (8:Int)) (wrap u32 (List.getD part (63:Nat) (0:Int)))]=
 m∧
 [a0,a1,a2,a3,a4,a5,a6,a7]=[a0,a1,a2,a3,a4,a5,a6,a7]∧part=part∧Z0 (decide (came=came)) (C∧[wrap u32 (a0+b0),wrap u32 (a1+b1),wrap u32 (a2+b2),wrap u32 (a3+b3),wrap u32 (a4+b4),wrap u32 (a5+b5),wrap u32 (a6+b6),wrap u32 (a7+b7)]=st'∧part=part∧Z0 (decide (came=came)) True False) False) (by kernel_rfl) ?_
 refine ⟨⟨rfl,rfl,rfl,rfl,rfl,rfl,rfl⟩,rfl,rfl,rfl,rfl,rfl,rfl, ?_,rfl,rfl,nd rfl ⟨hC, ?_⟩⟩
 ·rw [hm];rfl
 ·exact ⟨by rw [hst];rfl,rfl,nd rfl trivial⟩
theorem eight (l:List Int) (h:l.length=8):∃a b c d e f g i,l=[a,b,c,d,e,f,g,i]:=by
 match l,h with
 | [a,b,c,d,e,f,g,i],_=>exact ⟨a,b,c,d,e,f,g,i,rfl⟩
theorem Ql (b:List Int):(Wy b).length=16:=rfl
theorem Z9e (st part:List Int) (came:Int) (hs:st.length=8):
  Z37 PP 181 [.ptr (some ⟨0,0,0,0,0⟩),.nslice ⟨0,0,0,8,0⟩ 1 64 64] (Z17 st part came) (.tuple []) (Z17 (XZ st part) part came):=by
 have hl:=QS (Wy part) st (Ql part) hs 64
 generalize hq:Wi (Wy part) st 64=q at hl
 obtain ⟨a0,a1,a2,a3,a4,a5,a6,a7,rfl⟩:=eight st hs
 obtain ⟨b0,b1,b2,b3,b4,b5,b6,b7,hb⟩:=eight q.2 hl.2
 have hG:=Zgi [a0,a1,a2,a3,a4,a5,a6,a7] part came (Wy part) q.1 q.2 True (fun _=>⟨Ql part,hs,by rw [hq],by rw [hq]⟩)
 rw [hb] at hG
 refine Z37.ev hG (Z78 a0 a1 a2 a3 a4 a5 a6 a7 b0 b1 b2 b3 b4 b5 b6 b7 part came (Wy part) q.1 _ True rfl ?_ trivial)
 unfold XZ
 rw [hq,hb]
end Go.Tk
end
section
namespace Go.Tk
open IntKind (i64 u8 u32 u64 wrap)
def Z79:YQ:=fun args h K=>match args with
 | [.ptr (some ⟨x,0,0,0,0⟩),.nslice ⟨y,0,0,8,0⟩ 1 64 lo]=>match Nat.beq y x,h.get x with
  | true,some (.flat [.arr .u32 8 st,.arr .u8 64 part,.int .i64 came,.bool true])=>Zx (st.length=8∧64≤lo) (K (.ret (.tuple [])) (h.set x (Z17 (XZ st part) part came)))
  | _,_=>False
 | _=>False
theorem Z9f (args:List AV) (h:Z6) (K:KO) (hl:Z79 args h K):Zn PP 181 args h K:=by
 unfold Z79 at hl
 split at hl
 ·rename_i x y lo
  split at hl
  ·rename_i st part came hy hx
   have:=Nat.eq_of_beq_eq_true hy
   subst this
   obtain ⟨⟨hs,hlo⟩,hK⟩:=Zb hl
   refine (Z9e st part came hs).calls hx rfl (by simp [csz]) (.flat _ rfl) Zc.nothing ?_ hK
   intro E w rs he hr
   cases hr with
   | cons v r1 vs rs1 h1 hr=>cases hr with
    | cons v r2 vs rs2 h2 hr=>
     cases hr
     cases h1 with
     | ptr p b N hb=>cases h2 with
      | nslice0 p' esz len lo' a h1 h2'=>cases h1
      | nslice p' esz len lo' b' N' cap hb' h1 h2' h3=>exact .cons _ _ _ _ (.ptr ⟨0,0,0,0,0⟩ b N hb) (.cons _ _ _ _ (.nslice ⟨0,0,0,8,0⟩ 1 64 64 b' N' cap hb' h1 (by omega) h3) .nil)
  ·exact hl.elim
 ·exact hl.elim
noncomputable def G3:Zf:=G1.withF 181 Z79
theorem Zev:G3.Ok:=Zf.withF_ok Zeu Z9f
def wAt (came:Int):Nat:=(Int.tmod came 64).toNat
def wTk (came:Int) (bs:List Int):List Int:=bs.take (64-wAt came)
def Ve (part:List Int) (came:Int) (bs:List Int):List Int:=spl part (wAt came) (wTk came bs)
def wSt (st part:List Int) (came:Int) (bs:List Int):List Int:=if wAt came+(wTk came bs).length=64 then XZ st (Ve part came bs) else st
def wrS (st part:List Int) (came:Int) (bs:List Int) (len:Nat):St:=⟨47,[(0,pt 0),(1,.vints .u8 bs len)],⟨1,[(0,Z17 st part came)]⟩,[]⟩
theorem Z7a (st part bs:List Int) (came:Int) (len:Nat) (Z Z2:Prop) (hc:0≤came∧came<4611686018427387904) (hs:st.length=8) (hp:part.length=64) (hlen:len=bs.length) (hbl:bs.length<4611686018427387904) (hZ:bs=[]→Z) (hZ2:bs≠[]→Z2):
  ZY G3 20 164 0 1 (wrS st part came bs len) (fun e s=>match e with|.normal=>U2 1 [] (wrS (wSt st part came bs) (Ve part came bs) (came+(wTk came bs).length) (bs.drop (wTk came bs).length) (bs.drop (wTk came bs).length).length) s Z2|.exit 0=>U2 1 [] (wrS st part came bs len) s Z|_=>False):=by
 refine @Eq.mpr _ (let q1:=Int.tmod came 64;
 let q2:=some (Int.toNat q1);
 let q3:=0+ZW q2;
 let q4:=QE 64 q2;
 let q5:=List.take q4 (List.take len bs);
 let q6:=(↑(List.length q5):Int);
 let q7:=some (Int.toNat q6);
 let q8:=List.length (wTk came bs);
 let q9:=List.drop q8 bs;
 let q10:=Z54 q7 bs=q9;
 let q11:=decide (QE len q7=List.length q9);
 let q12:=spl part q3 q5;
 let q13:=wSt st part came bs;
 let q14:=q12=Ve part came bs∧Z0 (decide (wrap i64 (came+q6)=came+(↑q8:Int))) Z2 False;
 Z0 (decide ((↑len:Int)>0)) (Z0 (decide (0≤q1∧q1≤64)) (Z0 (decide (u8=u8∧List.length part=64∧q3+q4≤64)) (Z0 (decide (len≤List.length bs)) (Z0 (decide (0≤q6∧q6≤(↑len:Int))) (Z0 (wrap i64 (q1+q6)==64) (Z0 (decide (List.length st=8∧(64:Nat)≤64)) (q10∧Z0 q11 (XZ st q12=q13∧q14) False) False) (q10∧Z0 q11 (st=q13∧q14) False)) False) False) False) False) (bs=bs∧Z0 (decide (len=len)) (st=st∧part=part∧Z0 (decide (came=came)) Z False) False)) (by kernel_rfl) ?_
 conv=>zeta
 subst hlen
 have t0:Int.tmod came 64=came%64:=tm hc.1
 have hat:wAt came=(came%64).toNat:=by unfold wAt;rw [t0]
 have ht:bs.take bs.length=bs:=List.take_length
 have hn:(wTk came bs).length≤64-wAt came∧(wTk came bs).length≤bs.length:=by unfold wTk;rw [List.length_take];omega
 have e0:List.take (64-(Int.tmod came 64).toNat) bs=wTk came bs:=rfl
 simp only [ZW,QE,Z54,ht,Nat.zero_add,e0,Int.toNat_natCast]
 rw [t0]
 have e1:i64.wrap (came%64+((wTk came bs).length:Int))=came%64+((wTk came bs).length:Int):=w64 (by omega)
 have e2:i64.wrap (came+((wTk came bs).length:Int))=came+((wTk came bs).length:Int):=w64 (by omega)
 rw [e1,e2]
 refine ifD (fun hpos=> ?_) (fun hpos=> ?_)
 ·have hne:bs≠[]:=fun e=>by subst e;simp at hpos
  refine nd (by omega) (nd ⟨by trivial,hp,by omega⟩ (nd (by first|exact Nat.le_refl _|trivial) (nd (by omega) ?_)))
  refine ifB (fun h64=> ?_) (fun h64=> ?_)
  ·have h64':wAt came+(wTk came bs).length=64:=by rw [beq_iff_eq] at h64;omega
   refine nd ⟨hs,by omega⟩ ⟨by trivial,nd (by rw [List.length_drop]) ⟨?_, ?_,nd (by trivial) (hZ2 hne)⟩⟩
   ·unfold wSt
    rw [if_pos h64']
    unfold Ve
    rw [hat]
   ·unfold Ve
    rw [hat]
  ·have h64':¬wAt came+(wTk came bs).length=64:=by rw [beq_eq_false_iff_ne] at h64;omega
   refine ⟨by trivial,nd (by rw [List.length_drop]) ⟨?_, ?_,nd (by trivial) (hZ2 hne)⟩⟩
   ·unfold wSt
    rw [if_neg h64']
   ·unfold Ve
    rw [hat]
 ·have he:bs=[]:=by
   cases bs with
   | nil=>rfl
   | cons b bs=>simp at hpos
  exact ⟨by trivial,nd (by trivial) ⟨by trivial,by trivial,nd (by trivial) (hZ he)⟩⟩
structure Zz where
 st:List Int
 part:List Int
 came:Int
def Zz.blk (r:Zz):Blk:=Z17 r.st r.part r.came
def Zz.one (r:Zz) (bs:List Int):Zz:=⟨wSt r.st r.part r.came bs,Ve r.part r.came bs,r.came+(wTk r.came bs).length⟩
def Zz.many:Nat→Zz→List Int→Zz×List Int
 | 0,r,bs=>(r,bs)
 | n+1,r,bs=>match bs with
  | []=>(r,[])
  | _::_=>Zz.many n (r.one bs) (bs.drop (wTk r.came bs).length)
def Zz.write (r:Zz) (bs:List Int):Zz:=(Zz.many bs.length r bs).1
structure Zz.Ok (r:Zz):Prop where
 st:r.st.length=8
 part:r.part.length=64
 came:0≤r.came
theorem Z3A (st part:List Int) (h:st.length=8):(XZ st part).length=8:=by
 unfold XZ Z9d
 rw [List.length_zipWith,h,(QS (Wy part) st (Ql part) h 64).2]
 rfl
theorem Zz.Ok.one {r:Zz} (h:r.Ok) (bs:List Int):(r.one bs).Ok where
 st:=by show (wSt _ _ _ _).length=8;unfold wSt;split;exact Z3A _ _ h.st;exact h.st
 part:=by
  show (spl _ _ _).length=64
  rw [Z1U]
  ·exact h.part
  ·rw [h.part]
   have h0:wAt r.came=(r.came%64).toNat:=by unfold wAt;rw [tm h.came]
   have:(wTk r.came bs).length≤64-wAt r.came:=by unfold wTk;rw [List.length_take];omega
   have:=h.came
   omega
 came:=by show 0≤r.came+_;have:=h.came;omega
theorem Uy {r:Zz} (h:r.Ok) {bs:List Int} (hb:bs≠[]):0<(wTk r.came bs).length:=by
 have h0:wAt r.came=(r.came%64).toNat:=by unfold wAt;rw [tm h.came]
 have:=h.came
 have:0<bs.length:=by cases bs with|nil=>exact absurd rfl hb|cons b bs=>simp
 unfold wTk
 rw [List.length_take]
 omega
theorem ZaL (c:Int) (bs:List Int):(wTk c bs).length≤bs.length:=by unfold wTk;rw [List.length_take];omega
def wrL (r:Zz) (bs:List Int) (r':Zz) (C:Prop):Nat→St→KE→Prop:=fun k s X=>match Nat.beq k 1 with
 | true=>U2 1 [] (wrS r.st r.part r.came bs bs.length) s (C∧X (.exit 0) (wrS r'.st r'.part r'.came [] 0))
 | false=>False
noncomputable def G4 (r:Zz) (bs:List Int) (r':Zz) (C:Prop):Zf:=G3.withL 164 0 (wrL r bs r' C)
theorem ZaM:∀(n:Nat) (r:Zz) (bs:List Int),r.Ok→bs.length≤n→(Zz.many n r bs).2=[]
 | 0,r,bs,_,h=>by cases bs with|nil=>rfl|cons b bs=>simp at h
 | n+1,r,bs,hr,h=>by
  unfold Zz.many
  split
  ·rfl
  ·rename_i b bs
   have:=Uy hr (bs:=b::bs) (by simp)
   exact ZaM n _ _ (hr.one _) (by rw [List.length_drop];omega)
theorem Z3B:∀(n m:Nat) (r:Zz) (bs:List Int),r.Ok→bs.length≤n→bs.length≤m→Zz.many n r bs=Zz.many m r bs
 | 0,0,_,_,_,_,_=>rfl
 | 0,m+1,r,bs,_,h,_=>by cases bs with|nil=>rfl|cons b bs=>simp at h
 | n+1,0,r,bs,_,_,h=>by cases bs with|nil=>rfl|cons b bs=>simp at h
 | n+1,m+1,r,bs,hr,h1,h2=>by
  unfold Zz.many
  split
  ·rfl
  ·rename_i b bs
   have:=Uy hr (bs:=b::bs) (by simp)
   exact Z3B n m _ _ (hr.one _) (by rw [List.length_drop];omega) (by rw [List.length_drop];omega)
theorem Z9g (r:Zz) (bs:List Int) (hr:r.Ok) (hb:bs≠[]):Zz.many bs.length r bs=Zz.many (bs.drop (wTk r.came bs).length).length (r.one bs) (bs.drop (wTk r.came bs).length):=by
 cases bs with
 | nil=>exact absurd rfl hb
 | cons b bs=>
  have:=Uy hr hb
  have e:Zz.many (b::bs).length r (b::bs)=Zz.many bs.length (r.one (b::bs)) ((b::bs).drop (wTk r.came (b::bs)).length):=rfl
  rw [e]
  exact Z3B _ _ _ _ (hr.one _) (by rw [List.length_drop,List.length_cons];omega) (Nat.le_refl _)
theorem Zgj (r:Zz) (bs:List Int) (r':Zz) (C:Prop) (hC:C→r.Ok∧r.came+bs.length<4611686018427387904∧r'=r.write bs):(G4 r bs r' C).Ok:=by
 refine Zf.withL_ok Zev (by kernel_rfl) ?_
 intro k s X hl
 unfold wrL at hl
 split at hl
 ·rename_i hk
  have:=Nat.eq_of_beq_eq_true hk
  subst this
  obtain ⟨⟨hc,hX⟩,hw⟩:=XC hl
  obtain ⟨hr,hle,hr'⟩:=hC hc
  refine ⟨{ q:Zz×List Int//q.1.Ok∧q.1.came+q.2.length<4611686018427387904∧(Zz.many q.2.length q.1 q.2).1=r'},fun q=>q.1.2.length,fun q=>wrS q.1.1.st q.1.1.part q.1.1.came q.1.2 q.1.2.length,⟨(r,bs),hr,hle,hr'.symm⟩,20,hw, ?_⟩
  rintro ⟨⟨q,cs⟩,hq,hqle,hqr⟩
  have hq0:=hq.came
  simp only at hq hqle hqr hq0
  refine ⟨_,Z7a q.st q.part cs q.came cs.length (cs=[]) (cs≠[]) ⟨hq0,by omega⟩ hq.st hq.part rfl (by omega) id id, ?_⟩
  intro e s' hY
  split at hY
  ·obtain ⟨hne,hw'⟩:=XC hY
   have hp:=Uy hq hne
   have hl2:=ZaL q.came cs
   have hd:(cs.drop (wTk q.came cs).length).length=cs.length-(wTk q.came cs).length:=List.length_drop ..
   refine ⟨⟨(q.one cs,cs.drop (wTk q.came cs).length),hq.one cs, ?_, ?_⟩, ?_,hw'⟩
   ·show q.came+_+_<_
    rw [hd];omega
   ·rw [←hqr,Z9g q cs hq hne]
   ·show (cs.drop _).length<cs.length
    omega
  ·obtain ⟨he,hw'⟩:=XC hY
   subst he
   have:q=r':=hqr
   subst this
   exact ⟨_,hw',hX⟩
  ·exact hY.elim
 ·exact hl.elim
theorem Z7b (r r':Zz) (bs:List Int) (C:Prop) (hC:C):
  evF (G4 r bs r' C) 20 164 [.ptr (some ⟨0,0,0,0,0⟩),.vints .u8 bs bs.length] ⟨1,[(0,r.blk)]⟩ (W7 1 [] (.int .i64 0) 1 [(0,r'.blk)]):=by
 refine @Eq.mpr _ (bs=bs∧Z0 (decide (List.length bs=List.length bs)) (r.st=r.st∧r.part=r.part∧Z0 (decide (r.came=r.came)) (C∧r'.st=r'.st∧r'.part=r'.part∧Z0 (decide (r'.came=r'.came)) True False) False) False) (by kernel_rfl) ?_
 exact ⟨rfl,nd rfl ⟨rfl,rfl,nd rfl ⟨hC,rfl,rfl,nd rfl trivial⟩⟩⟩
theorem Z9h (r:Zz) (bs:List Int) (hr:r.Ok) (hl:r.came+bs.length<4611686018427387904):Z37 PP 164 [.ptr (some ⟨0,0,0,0,0⟩),.vints .u8 bs bs.length] r.blk (.int .i64 0) (r.write bs).blk:=
 Z37.ev (Zgj r bs (r.write bs) True (fun _=>⟨hr,hl,rfl⟩)) (Z7b r (r.write bs) bs True trivial)
theorem Z84:∀(n:Nat) (r:Zz) (bs:List Int),r.Ok→(Zz.many n r bs).1.Ok
 | 0,_,_,h=>h
 | n+1,r,bs,h=>by
  unfold Zz.many
  split
  ·exact h
  ·exact Z84 n _ _ (h.one _)
theorem Vf (r:Zz) (bs:List Int) (h:r.Ok):(r.write bs).Ok:=Z84 _ _ _ h
theorem Z3C:∀(n:Nat) (r:Zz) (bs:List Int),r.Ok→bs.length≤n→(Zz.many n r bs).1.came=r.came+bs.length
 | 0,r,bs,_,h=>by cases bs with|nil=>simp [Zz.many]|cons b bs=>simp at h
 | n+1,r,bs,hr,h=>by
  unfold Zz.many
  split
  ·simp
  ·rename_i b bs
   have h1:=Uy hr (bs:=b::bs) (by simp)
   have h2:=ZaL r.came (b::bs)
   rw [Z3C n _ _ (hr.one _) (by rw [List.length_drop];omega)]
   show r.came+_+_=_
   rw [List.length_drop]
   omega
theorem Vz (r:Zz) (bs:List Int) (h:r.Ok):(r.write bs).came=r.came+bs.length:=Z3C _ _ _ h (Nat.le_refl _)
attribute [irreducible] Zz.write
def ZaN (h:Z6) (mv:Option Nat) (b:AV) (K:List Int→Prop):Prop:=U4 mv h true 4 b fun v=>match v with
 | .vints .u8 xs len=>Zx (len=xs.length) (K xs)
 | .nilslice=>K []
 | .eslice=>K []
 | _=>False
def Z7c (W:Zz→List Int→Zz) (B:Int):YQ:=fun args h K=>match args with
 | [.ptr (some ⟨x,0,0,0,0⟩),b]=>match h.get x with
  |some (.flat [.arr .u32 8 st,.arr .u8 64 part,.int .i64 came,.bool true])=>ZaN h (some x) b fun xs=>
   Zx (st.length=8∧part.length=64∧0≤came∧came+xs.length≤B) (K (.ret (.int .i64 0)) (h.set x ((W ⟨st,part,came⟩ xs).blk)))
  | _=>False
 | _=>False
theorem Zc.int' (k:IntKind) (n:Int) (E E':Env) (r:Value) (h:Zc E (.int k n) r):Zc E' (.int k n) r:=h.plain rfl
theorem Z9i (B:Int) (hB:B<4611686018427387904) (args:List AV) (h:Z6) (K:KO) (hl:Z7c Zz.write B args h K):Zn PP 164 args h K:=by
 unfold Z7c at hl
 split at hl
 ·rename_i x b
  split at hl
  ·rename_i st part came hx
   unfold ZaN at hl
   obtain ⟨v₀,hv,hb⟩:=QO (fun y hy=>by cases hy;exact ⟨_,hx⟩) _ _ _ _ hl
   have fin:∀xs:List Int,(∀(E:Env) (w:World) (r:Value),Emb E h w→Zc E b r→Zc (E.bor (some x) w true) (.vints .u8 xs xs.length) r)→
     Zx (st.length=8∧part.length=64∧0≤came∧came+xs.length≤B) (K (.ret (.int .i64 0)) (h.set x ((Zz.write ⟨st,part,came⟩ xs).blk)))→Zn PP 164 [.ptr (some ⟨x,0,0,0,0⟩),b] h K:=by
    intro xs hxs hn
    obtain ⟨⟨h1,h2,h3,h4⟩,hK⟩:=Zb hn
    refine (Z9h ⟨st,part,came⟩ xs ⟨h1,h2,h3⟩ (by show came+xs.length<_;omega)).calls hx rfl (by simp [csz]) (.flat _ rfl) (Zc.int' _ _) ?_ hK
    intro E w rs he hr
    cases hr with
    | cons v r1 vs rs1 h1 hr=>cases hr with
     | cons v r2 vs rs2 h2 hr=>
      cases hr
      cases h1 with
      | ptr p b' N hb'=>exact .cons _ _ _ _ (.ptr ⟨0,0,0,0,0⟩ b' N hb') (.cons _ _ _ _ (hxs E w _ he h2) .nil)
   split at hv
   ·rename_i xs len
    obtain ⟨rfl,hn⟩:=Zb hv
    exact fin xs hb hn
   ·refine fin [] (fun E w r he hr=> ?_) hv
    have:=hb E w r he hr
    cases this
    exact .vintsNil _ _ _ rfl rfl
   ·refine fin [] (fun E w r he hr=> ?_) hv
    have:=hb E w r he hr
    cases this with
    | eslice a=>cases a with
     | none=>exact .vintsNil _ _ _ rfl rfl
     | some a=>exact .vints _ _ _ a 0 (by simp) (by simp) (fun i hi=>by simp at hi)
   ·exact hv.elim
  ·exact hl.elim
 ·exact hl.elim
noncomputable def G5 (W:Zz→List Int→Zz) (B:Int):Zf:=G3.withF 164 (Z7c W B)
theorem Zew (B:Int) (hB:B<4611686018427387904):(G5 Zz.write B).Ok:=Zf.withF_ok Zev (Z9i B hB)
end Go.Tk
end
section
namespace Go.Tk
open IntKind (i64 u8 u32 u64 wrap)
def WQ (n:Int):List Int:=[u8.wrap (Zy .u64 n 24),u8.wrap (Zy .u64 n 16),u8.wrap (Zy .u64 n 8),u8.wrap (Zy .u64 n 0)]
def UY (n:Int):List Int:=[u8.wrap (Zy .u64 n 56),u8.wrap (Zy .u64 n 48),u8.wrap (Zy .u64 n 40),u8.wrap (Zy .u64 n 32),u8.wrap (Zy .u64 n 24),u8.wrap (Zy .u64 n 16),u8.wrap (Zy .u64 n 8),u8.wrap (Zy .u64 n 0)]
theorem Zf7 (n:Int) (l:List Int) (hl:l=WQ n):
  evF G0 20 182 [.int .u64 n,.int .i64 4] ⟨0,[]⟩ (W7 0 [(0,7)] (.nslice ⟨0,0,0,0,0⟩ 1 4 4) 1 [(0,.ints .u8 l)]):=by
 refine @Eq.mpr _ ([wrap u8 (Zy u64 n 24),wrap u8 (Zy u64 n 16),wrap u8 (Zy u64 n 8),wrap u8 (Zy u64 n 0)]=l∧True) (by kernel_rfl) ?_
 exact ⟨hl.symm,trivial⟩
theorem Zf8 (n:Int) (l:List Int) (hl:l=UY n):
  evF G0 20 182 [.int .u64 n,.int .i64 8] ⟨0,[]⟩ (W7 0 [(0,15)] (.nslice ⟨0,0,0,0,0⟩ 1 8 8) 1 [(0,.ints .u8 l)]):=by
 refine @Eq.mpr _ ([wrap u8 (Zy u64 n 56),wrap u8 (Zy u64 n 48),wrap u8 (Zy u64 n 40),wrap u8 (Zy u64 n 32),wrap u8 (Zy u64 n 24),wrap u8 (Zy u64 n 16),wrap u8 (Zy u64 n 8),wrap u8 (Zy u64 n 0)]=l∧True) (by kernel_rfl) ?_
 exact ⟨hl.symm,trivial⟩
def ZaO (T8:Int→List Int):YQ:=fun args h K=>match args with
 | [.int .u64 n,.int .i64 m]=>match decide (m=4) with
  | true=>K (.ret (.nslice ⟨h.next,0,0,0,0⟩ 1 4 4)) ⟨h.next+1,(h.next,.ints .u8 (WQ n))::h.bs⟩
  | false=>match decide (m=8) with
   | true=>K (.ret (.nslice ⟨h.next,0,0,0,0⟩ 1 8 8)) ⟨h.next+1,(h.next,.ints .u8 (T8 n))::h.bs⟩
   | false=>False
 | _=>False
theorem ZaP (args:List AV) (h:Z6) (K:KO) (hl:ZaO UY args h K):Zn PP 182 args h K:=by
 unfold ZaO at hl
 split at hl
 ·rename_i n m
  have ha:∀(E:Env) (w:World) (rs:List Value),Emb E h w→ZE E [.int .u64 n,.int .i64 m] rs→ZE (E.bor none w true) [.int .u64 n,.int .i64 m] rs:=by
   intro E w rs he hr
   cases hr with
   | cons v r1 vs rs1 h1 hr=>cases hr with
    | cons v r2 vs rs2 h2 hr=>
     cases hr
     exact .cons _ _ _ _ (h1.plain rfl) (.cons _ _ _ _ (h2.plain rfl) .nil)
  split at hl
  ·rename_i hm
   have hm:=of_decide_eq_true hm
   subst hm
   exact (ZI.ev ZB (Zf7 n _ rfl)).calls ha rfl ⟨Nat.one_pos,.ints _ _,trivial⟩ hl
  ·split at hl
   ·rename_i hm
    have hm:=of_decide_eq_true hm
    subst hm
    exact (ZI.ev ZB (Zf8 n _ rfl)).calls ha rfl ⟨Nat.one_pos,.ints _ _,trivial⟩ hl
   ·exact hl.elim
 ·exact hl.elim
noncomputable def G6 (W:Zz→List Int→Zz) (T8:Int→List Int) (B:Int):Zf:=(G5 W B).withF 182 (ZaO T8)
theorem Zgk (B:Int) (hB:B<4611686018427387904):(G6 Zz.write UY B).Ok:=Zf.withF_ok (Zew B hB) ZaP
def UI (came:Int):List Int:=[128]++List.replicate (Int.tmod (i64.wrap (119-Int.tmod came 64)) 64).toNat 0
def Z5F (st:List Int):List Int:=WQ (u64.wrap (st.getD 0 0))++WQ (u64.wrap (st.getD 1 0))++WQ (u64.wrap (st.getD 2 0))++WQ (u64.wrap (st.getD 3 0))++WQ (u64.wrap (st.getD 4 0))++WQ (u64.wrap (st.getD 5 0))++WQ (u64.wrap (st.getD 6 0))++WQ (u64.wrap (st.getD 7 0))
def len8 (came:Int):List Int:=UY (u64.wrap (u64.wrap came*8))
def Zz.fin (r:Zz):List Int:=Z5F ((r.write (UI r.came)).write (len8 r.came)).st
theorem ZaQ (c:Int) (h:0≤c):(UI c).length≤64:=by
 unfold UI
 have h1:Int.tmod c 64=c%64:=tm h
 rw [h1,w64 (by omega),tm (by omega)]
 simp
 omega
theorem ZaR (W:Zz→List Int→Zz) (T8:Int→List Int) (st part:List Int) (came:Int) (hh:List Int) (B:Int) (hB:B=2000000000000) (hs:st.length=8) (hp:part.length=64) (hc:0≤came∧came<1000000000000) (hT:T8=UY) (hW:W=Zz.write) (hh':hh=Zz.fin ⟨st,part,came⟩):
  evF (G6 W T8 B) 20 165 [.ptr (some ⟨0,0,0,0,0⟩)] ⟨1,[(0,Z17 st part came)]⟩ (W7 1 [] (.agg [.arr .u8 32 hh]) 1 [(0,Z17 st part came)]):=by
 refine @Eq.mpr _ (let q1:=Int.tmod (wrap i64 (119-Int.tmod came 64)) 64;
 let q2:=Int.toNat q1;
 let q3:=[(128:Int)]++List.replicate q2 0;
 let q4:=List.length q3;
 let q5:=List.take q4 (XV 0 q3);
 let q6:=List.length q5;
 let q7:=T8 (wrap u64 (wrap u64 came*8));
 let q8:=List.take 8 (XV 0 q7);
 let q9:=List.length q8;
 let q10:=W (Zz.mk st part came) q5;
 let q11:=q10.st;
 let q12:=q10.part;
 let q13:=q10.came;
 let q14:=(W (Zz.mk q11 q12 q13) q8).st;
 let q15:=wrap u64 (List.getD q14 0 0);
 let q16:=wrap u64 (List.getD q14 1 0);
 let q17:=wrap u64 (List.getD q14 2 0);
 let q18:=wrap u64 (List.getD q14 3 0);
 let q19:=wrap u64 (List.getD q14 4 0);
 let q20:=wrap u64 (List.getD q14 5 0);
 let q21:=wrap u64 (List.getD q14 6 0);
 let q22:=wrap u64 (List.getD q14 7 0);
 Z0 (decide ((0:Int)=0∧0≤q1∧(1+q2)*1≤140737488355328))
 (Z0 (decide (0+q4≤q4))
 (Z0 (decide (q4=q6))
 (Z0 (decide (List.length st=8∧List.length part=64∧0≤came∧came+ ↑q6≤B))
 (Z0 (decide (8≤List.length q7))
 (Z0 (decide (8=q9))
 (Z0 (decide (List.length q11=8∧List.length q12=64∧0≤q13∧q13+ ↑q9≤B))
 ([wrap u8 (Zy u64 q15 24),wrap u8 (Zy u64 q15 16),wrap u8 (Zy u64 q15 8),wrap u8 (Zy u64 q15 0),wrap u8 (Zy u64 q16 24),wrap u8 (Zy u64 q16 16),wrap u8 (Zy u64 q16 8),wrap u8 (Zy u64 q16 0),wrap u8 (Zy u64 q17 24),wrap u8 (Zy u64 q17 16),wrap u8 (Zy u64 q17 8),wrap u8 (Zy u64 q17 0),wrap u8 (Zy u64 q18 24),wrap u8 (Zy u64 q18 16),wrap u8 (Zy u64 q18 8),wrap u8 (Zy u64 q18 0),wrap u8 (Zy u64 q19 24),wrap u8 (Zy u64 q19 16),wrap u8 (Zy u64 q19 8),
 wrap u8 (Zy u64 q19 0),wrap u8 (Zy u64 q20 24),wrap u8 (Zy u64 q20 16),wrap u8 (Zy u64 q20 8),wrap u8 (Zy u64 q20 0),wrap u8 (Zy u64 q21 24),wrap u8 (Zy u64 q21 16),wrap u8 (Zy u64 q21 8),wrap u8 (Zy u64 q21 0),wrap u8 (Zy u64 q22 24),wrap u8 (Zy u64 q22 16),wrap u8 (Zy u64 q22 8),wrap u8 (Zy u64 q22 0)]=
 hh∧
 st=st∧part=part∧Z0 (decide (came=came)) True False)
 False)
 False)
 False)
 False)
 False)
 False)
 False) (by kernel_rfl) ?_
 conv=>zeta
 subst hT hW hB
 have hpad:=ZaQ came hc.1
 have e0:[(128:Int)]++List.replicate (Int.toNat (Int.tmod (wrap i64 ((119:Int)-Int.tmod came (64:Int))) (64:Int))) (0:Int)=UI came:=rfl
 have h1:Int.tmod came 64=came%64:=tm hc.1
 have h2:i64.wrap (119-came%64)=119-came%64:=w64 (by omega)
 have h3:Int.tmod (119-came%64) 64=(119-came%64)%64:=tm (by omega)
 have hok:Zz.Ok ⟨st,part,came⟩:=⟨hs,hp,hc.1⟩
 have hok1:=Vf ⟨st,part,came⟩ (UI came) hok
 have hca:(Zz.write ⟨st,part,came⟩ (UI came)).came=came+(UI came).length:=Vz _ _ hok
 have e1:List.take (UI came).length (XV 0 (UI came))=UI came:=List.take_length
 have e2:∀n,List.take 8 (XV 0 (UY n))=UY n:=fun n=>rfl
 simp only [e0,e1,e2]
 refine nd ⟨by trivial,by rw [h1,h2,h3];omega,by rw [h1,h2,h3];omega⟩ (nd (by omega) (nd (by trivial) (nd ⟨hs,hp,hc.1,by omega⟩ (nd (by show 8≤8;omega) (nd (by trivial) (nd ⟨hok1.st,hok1.part,hok1.came, ?_⟩ ?_))))))
 ·rw [hca]
  show _+8≤_
  omega
 ·refine ⟨?_,by trivial,by trivial,nd (by trivial) trivial⟩
  rw [hh']
  kernel_rfl
def Zf9 (F:Zz→List Int) (B:Int):ZU:=fun args h K=>match args with
 | [.ptr (some ⟨x,0,0,0,0⟩)]=>match h.get x with
  | some (.flat [.arr .u32 8 st,.arr .u8 64 part,.int .i64 came,.bool true])=>Zx (st.length=8∧part.length=64∧0≤came∧came≤B) (K (.agg [.arr .u8 32 (F ⟨st,part,came⟩)]))
  | _=>False
 | _=>False
theorem Zhy {a:Nat}:∀(i j x:Nat),([a]:List Nat)[i]? =some x→([a]:List Nat)[j]? =some x→i=j
 | 0,0,_,_,_=>rfl
 | i+1,_,x,h1,_=>by simp at h1
 | 0,j+1,x,_,h2=>by simp at h2
theorem Zc.hash {E E':Env} {k:IntKind} {n:Nat} {xs:List Int} {r:Value} (h:Zc E (.agg [.arr k n xs]) r):Zc E' (.agg [.arr k n xs]) r:=by
 cases h with
 | agg cs vs hc=>exact .agg _ _ (hc.plain rfl)
theorem ZcN (B:Int) (hB:B<1000000000000) (args:List AV) (h:Z6) (K:AV→Prop) (hl:Zf9 Zz.fin B args h K):Zn PP 165 args h fun o h'=>∃v,o=.ret v∧h'=h∧K v:=by
 unfold Zf9 at hl
 split at hl
 ·rename_i x
  split at hl
  ·rename_i st part came hx
   obtain ⟨⟨h1,h2,h3,h4⟩,hK⟩:=Zb hl
   refine Z38.calls (σ:=[x]) (Bs:=[Z17 st part came]) (Z38.ev (Zgk 2000000000000 (by decide)) (ZaR Zz.write UY st part came _ _ rfl h1 h2 ⟨h3,by omega⟩ rfl rfl rfl)) rfl Zhy ?_ ?_ ?_ ?_ ?_ hK
   ·intro j y B hj hB
    match j with
    | 0=>simp at hj hB;subst hj;subst hB;exact hx
    | j+1=>simp at hj
   ·intro B hB
    simp at hB
    subst hB
    exact .flat _ rfl
   ·intro E w rs he hr
    cases hr with
    | cons v r1 vs rs1 h1 hr=>
     cases hr
     cases h1 with
     | ptr p b' N hb'=>exact .cons _ _ _ _ (.ptr ⟨0,0,0,0,0⟩ b' N hb') .nil
   ·intro E E₁ r hle hfr hq hv
    exact hv.hash
   ·intro E w he y hy
    simp at hy
    subst hy
    exact Z2u he hx (by simp [csz])
  ·exact hl.elim
 ·exact hl.elim
def X0:Zz:=⟨[1779033703,3144134277,1013904242,2773480762,1359893119,2600822924,528734635,1541459225],List.replicate 64 0,0⟩
theorem Zhz (l:List Int) (hl:l=List.replicate 64 0):
  evF G0 20 163 [] ⟨0,[]⟩ (W7 0 [(0,1)] (.ptr (some ⟨0,0,0,0,0⟩)) 1 [(0,Z17 [1779033703,3144134277,1013904242,2773480762,1359893119,2600822924,528734635,1541459225] l 0)]):=by
 refine @Eq.mpr _ ([(1779033703:Int),(3144134277:Int),(1013904242:Int),(2773480762:Int),(1359893119:Int),(2600822924:Int),(528734635:Int),(1541459225:Int)]=[(1779033703:Int),(3144134277:Int),(1013904242:Int),(2773480762:Int),(1359893119:Int),(2600822924:Int),(528734635:Int),(1541459225:Int)]∧
 [(0:Int),(0:Int),(0:Int),(0:Int),(0:Int),(0:Int),(0:Int),(0:Int),(0:Int),(0:Int),(0:Int),(0:Int),(0:Int),(0:Int),(0:Int),(0:Int),(0:Int),(0:Int),(0:Int),(0:Int),(0:Int),(0:Int),(0:Int),(0:Int),(0:Int),(0:Int),(0:Int),(0:Int),(0:Int),(0:Int),(0:Int),(0:Int),(0:Int),(0:Int),(0:Int),(0:Int),(0:Int),(0:Int),(0:Int),(0:Int),(0:Int),(0:Int),(0:Int),(0:Int),(0:Int),(0:Int),(0:Int),(0:Int),(0:Int),(0:Int),(0:Int),(0:Int),(0:Int),(0:Int),(0:Int),(0:Int),(0:Int),(0:Int),(0:Int),(0:Int),(0:Int),(0:Int),(0:Int),(0:Int)]=l∧True) (by kernel_rfl) ?_
 exact ⟨rfl,hl▸rfl,trivial⟩
def Zfa (r0:Zz):YQ:=fun args h K=>match args with
 | []=>K (.ret (.ptr (some ⟨h.next,0,0,0,0⟩))) ⟨h.next+1,(h.next,r0.blk)::h.bs⟩
 | _=>False
theorem ZcO (args:List AV) (h:Z6) (K:KO) (hl:Zfa X0 args h K):Zn PP 163 args h K:=by
 unfold Zfa at hl
 split at hl
 ·exact (ZI.ev ZB (Zhz _ rfl)).calls (fun E w rs he hr=>by cases hr;exact .nil) rfl ⟨Nat.one_pos,.flat _ rfl,trivial⟩ hl
 ·exact hl.elim
noncomputable def G7 (W:Zz→List Int→Zz) (F:Zz→List Int) (B:Int) (r0:Zz):Zf:=((G5 W B).withP 165 (Zf9 F B)).withF 163 (Zfa r0)
theorem Zex (B:Int) (hB:B<1000000000000):(G7 Zz.write Zz.fin B X0).Ok:=Zf.withF_ok (Zf.withP_ok (Zew B (by omega)) (ZcN B hB)) ZcO
@[irreducible] def Zt (bs:List Int):List Int:=(X0.write bs).fin
@[irreducible] def Z3a (a b:List Int):List Int:=((X0.write a).write b).fin
theorem ZcP (r:Zz):r.fin.length=32:=by unfold Zz.fin;rfl
theorem Wz (bs:List Int):(Zt bs).length=32:=by unfold Zt;exact ZcP _
theorem Vg:X0.Ok:=⟨rfl,rfl,by decide⟩
attribute [irreducible] Zz.fin
end Go.Tk
end
section
namespace Go.Tk
open IntKind (i64 u8 u32 u64 wrap)
theorem ZaS (W:Zz→List Int→Zz) (F:Zz→List Int) (r0:Zz) (bs:List Int) (hh:List Int) (B:Int) (hB:B=900000000000) (hb:bs.length<100000000000) (hr0:r0=X0) (hW:W=Zz.write) (hF:F=Zz.fin) (hh':hh=Zt bs):
  evF (G7 W F B r0) 20 127 [.vrows 1 1 (fun _=>[.vints .u8 bs bs.length]) 1] ⟨0,[]⟩ (W7 0 [] (.agg [.arr .u8 32 hh]) 0 []):=by
 refine @Eq.mpr _ (let q1:=List.length bs;
 let q2:=r0.came;
 let q3:=W (Zz.mk r0.st r0.part q2) bs;
 let q4:=q3.st;
 let q5:=q3.part;
 let q6:=q3.came;
 Z0 (decide (q1=q1)) (Z0 (decide (List.length r0.st=8∧List.length r0.part=64∧0≤q2∧q2+ ↑q1≤B)) (Z0 (decide (List.length q4=8∧List.length q5=64∧0≤q6∧q6≤B)) (F (Zz.mk q4 q5 q6)=hh∧True) False) False) False) (by kernel_rfl) ?_
 conv=>zeta
 subst hW hF hB hr0
 have i0:X0.came=0:=rfl
 have hok:=Vf X0 bs Vg
 have hca:(X0.write bs).came=0+bs.length:=Vz _ _ Vg
 refine nd rfl (nd ⟨rfl,rfl,by omega,by omega⟩ (nd ⟨hok.st,hok.part,hok.came, ?_⟩ ⟨by rw [hh'];first|(unfold Zt;rfl)|(unfold Z3a;rfl),trivial⟩))
 refine Int.le_trans (Int.le_of_eq hca) ?_
 omega
theorem ZaT (W:Zz→List Int→Zz) (F:Zz→List Int) (r0:Zz) (a b:List Int) (hh:List Int) (B:Int) (hB:B=900000000000) (ha:a.length<100000000000) (hb:b.length<100000000000) (hr0:r0=X0) (hW:W=Zz.write) (hF:F=Zz.fin) (hh':hh=Z3a a b):
  evF (G7 W F B r0) 20 127 [.vrows 1 2 (fun i=>match i with|0=>[.vints .u8 a a.length]|_=>[.vints .u8 b b.length]) 2] ⟨0,[]⟩ (W7 0 [] (.agg [.arr .u8 32 hh]) 0 []):=by
 refine @Eq.mpr _ (let q1:=List.length a;
 let q2:=r0.came;
 let q3:=List.length b;
 let q4:=W (Zz.mk r0.st r0.part q2) a;
 let q5:=q4.st;
 let q6:=q4.part;
 let q7:=q4.came;
 let q8:=W (Zz.mk q5 q6 q7) b;
 let q9:=q8.st;
 let q10:=q8.part;
 let q11:=q8.came;
 Z0 (decide (q1=q1)) (Z0 (decide (List.length r0.st=8∧List.length r0.part=64∧0≤q2∧q2+ ↑q1≤B)) (Z0 (decide (q3=q3)) (Z0 (decide (List.length q5=8∧List.length q6=64∧0≤q7∧q7+ ↑q3≤B)) (Z0 (decide (List.length q9=8∧List.length q10=64∧0≤q11∧q11≤B)) (F (Zz.mk q9 q10 q11)=hh∧True) False) False) False) False) False) (by kernel_rfl) ?_
 conv=>zeta
 subst hW hF hB hr0
 have i0:X0.came=0:=rfl
 have hok:=Vf X0 a Vg
 have hca:(X0.write a).came=0+a.length:=Vz _ _ Vg
 have hok2:=Vf (X0.write a) b hok
 have hca2:((X0.write a).write b).came=(X0.write a).came+b.length:=Vz _ _ hok
 refine nd rfl (nd ⟨rfl,rfl,by omega,by omega⟩ (nd rfl (nd ⟨hok.st,hok.part,hok.came, ?_⟩ (nd ⟨hok2.st,hok2.part,hok2.came, ?_⟩ ⟨by rw [hh'];first|(unfold Zt;rfl)|(unfold Z3a;rfl),trivial⟩))))
 ·refine Int.le_trans (Int.le_of_eq (congrArg (· +(b.length:Int)) hca)) ?_
  show (0:Int)+a.length+b.length≤_
  omega
 ·refine Int.le_trans (Int.le_of_eq hca2) ?_
  rw [hca]
  omega
theorem Zc.rows {E:Env} {esz n len:Nat} {f g:Nat→List AV} {r:Value} (h:Zc E (.vrows esz n f len) r) (hfg:∀i,i<n→f i=g i):Zc E (.vrows esz n g len) r:=by
 cases h with
 | vrowsNil esz n f len h1 h2=>exact .vrowsNil _ _ _ _ h1 h2
 | vrows esz n f len a cap q h1 h2 hc hl hi=>exact .vrows _ _ _ _ a cap q h1 h2 (fun i hi'=>hfg i hi'▸hc i hi') hl hi
def Qm (v:List AV) (K:List Int→Prop):Prop:=match v with
 | [.vints .u8 xs len]=>Zx (len=xs.length) (K xs)
 | _=>False
theorem Vh {v:List AV} {K:List Int→Prop} (h:Qm v K):∃xs:List Int,v=[.vints .u8 xs xs.length]∧K xs:=by
 unfold Qm at h
 split at h
 ·replace h:=Zb h
  obtain ⟨rfl,h⟩:=h
  exact ⟨_,rfl,h⟩
 ·exact h.elim
def Zgl (H1:List Int→List Int) (H2:List Int→List Int→List Int) (B:Nat):ZU:=fun args h K=>ZV none h true 20 args fun a=>match a with
 | [.vrows 1 n f len]=>match Nat.beq n 1&&Nat.beq len 1 with
  | true=>Qm (f 0) fun xs=>Zx (xs.length≤B) (K (.agg [.arr .u8 32 (H1 xs)]))
  | false=>match Nat.beq n 2&&Nat.beq len 2 with
   | true=>Qm (f 0) fun xs=>Qm (f 1) fun ys=>Zx (xs.length≤B∧ys.length≤B) (K (.agg [.arr .u8 32 (H2 xs ys)]))
   | false=>False
 | _=>False
theorem ZcQ (B:Nat) (hB:B<100000000000) (args:List AV) (h:Z6) (K:AV→Prop) (hl:Zgl Zt Z3a B args h K):Zn PP 127 args h fun o h'=>∃v,o=.ret v∧h'=h∧K v:=by
 obtain ⟨a₀,ha,hr⟩:=XY (fun x hx=>by cases hx) _ _ _ _ hl
 split at ha
 ·rename_i n f len
  split at ha
  ·rename_i hb
   rw [Bool.and_eq_true] at hb
   have e1:=Nat.eq_of_beq_eq_true hb.1
   have e2:=Nat.eq_of_beq_eq_true hb.2
   subst e1 e2
   obtain ⟨xs,hf,hK⟩:=Vh ha
   obtain ⟨hx,hK⟩:=Zb hK
   have hp:=ZI.ev (Zex 900000000000 (by decide)) (ZaS _ _ _ xs _ _ rfl (by omega) rfl rfl rfl rfl)
   refine hp.calls (v':=.agg [.arr .u8 32 (Zt xs)]) (fun E w rs he hrr=> ?_) rfl trivial ⟨_,rfl,rfl,hK⟩
   have:=hr E w rs he hrr
   cases this with
   | cons v c vs cs h1 h2=>
    cases h2
    refine .cons _ _ _ _ (h1.rows (fun i hi=> ?_)) .nil
    match i,hi with
    | 0,_=>exact hf
  ·split at ha
   ·rename_i hb
    rw [Bool.and_eq_true] at hb
    have e1:=Nat.eq_of_beq_eq_true hb.1
    have e2:=Nat.eq_of_beq_eq_true hb.2
    subst e1 e2
    obtain ⟨xs,hf,hK⟩:=Vh ha
    obtain ⟨ys,hg,hK⟩:=Vh hK
    obtain ⟨⟨hx,hy⟩,hK⟩:=Zb hK
    have hp:=ZI.ev (Zex 900000000000 (by decide)) (ZaT _ _ _ xs ys _ _ rfl (by omega) (by omega) rfl rfl rfl rfl)
    refine hp.calls (v':=.agg [.arr .u8 32 (Z3a xs ys)]) (fun E w rs he hrr=> ?_) rfl trivial ⟨_,rfl,rfl,hK⟩
    have:=hr E w rs he hrr
    cases this with
    | cons v c vs cs h1 h2=>
     cases h2
     refine .cons _ _ _ _ (h1.rows (fun i hi=> ?_)) .nil
     match i,hi with
     | 0,_=>exact hf
     | 1,_=>exact hg
   ·exact ha.elim
 ·exact ha.elim
noncomputable def G8 (H1:List Int→List Int) (H2:List Int→List Int→List Int) (B:Nat):Zf:=(G0.withP 127 (Zgl H1 H2 B))
theorem Zey (B:Nat) (hB:B<100000000000):(G8 Zt Z3a B).Ok:=Zf.withP_ok ZB (ZcQ B hB)
end Go.Tk
end
section
namespace Go.Tk
open IntKind (i64 u8 u32 u64 wrap)
end Go.Tk
end
section
namespace Go.Tk
open IntKind (i64 u8 u32 u64 wrap)
end Go.Tk
end
section
namespace Go.Tk
open IntKind (i64 u8 u32 u64 wrap)
structure InS where
 name:List Int
 index:Int
 way:Int
 tag:List Int
 also:List Int
 secret:List Int
structure Vi where
 kind:Int
 amount:Int
 owner:List Int
 other:List Int
 point:List Int
 hash:List Int
 delay:Int
 expiry:Int
def InS.c (x:InS):List AV:=[.arr .u8 32 x.name,.int .i64 x.index,.int .i64 x.way,.arr .u8 32 x.tag,.arr .u8 32 x.also,.arr .u8 32 x.secret]
def Vi.c (o:Vi):List AV:=[.int .i64 o.kind,.int .i64 o.amount,.arr .u8 32 o.owner,.arr .u8 32 o.other,.arr .u8 32 o.point,.arr .u8 32 o.hash,.int .i64 o.delay,.int .i64 o.expiry]
structure InS.Ok (x:InS):Prop where
 name:x.name.length=32
 tag:x.tag.length=32
 also:x.also.length=32
 secret:x.secret.length=32
structure Vi.Ok (o:Vi):Prop where
 owner:o.owner.length=32
 other:o.other.length=32
 point:o.point.length=32
 hash:o.hash.length=32
def Z9:List Int:=List.replicate 32 0
end Go.Tk
end
section
namespace Go.Tk
open IntKind (i64 u8 u32 u64 wrap)
def Xf:List Nat→Nat→Option Nat
 | [],_=>none
 | x::_,0=>some x
 | _::r,n+1=>Xf r n
def XD:List Nat→Nat→Option Nat
 | [],_=>none
 | y::r,x=>match Nat.beq y x with
  | true=>some 0
  | false=>match XD r x with|some i=>some (i+1)|none=>none
theorem Vj:∀{σ:List Nat} {x i:Nat},XD σ x=some i→Xf σ i=some x
 | [],_,_,h=>by simp [XD] at h
 | y::r,x,i,h=>by
  unfold XD at h
  split at h
  ·rename_i hb
   have:=Nat.eq_of_beq_eq_true hb
   cases h
   simp [Xf,this]
  ·split at h
   ·rename_i j hj
    cases h
    exact (Vj (σ:=r) hj:Xf r _=some x)
   ·cases h
theorem Z0u:∀{σ:List Nat} {x:Nat},XD σ x=none→x∉σ
 | [],_,_=>by simp
 | y::r,x,h=>by
  unfold XD at h
  split at h
  ·cases h
  ·rename_i hb
   split at h
   ·cases h
   ·rename_i hj
    intro hm
    rcases List.mem_cons.1 hm with rfl|hm
    ·simp [Nat.beq_refl] at hb
    ·exact Z0u hj hm
theorem XE:∀{σ:List Nat} {i x:Nat},Xf σ i=some x→x∈σ
 | [],_,_,h=>by simp [Xf] at h
 | y::r,0,x,h=>by simp [Xf] at h;simp [h]
 | y::r,i+1,x,h=>List.mem_cons_of_mem _ (XE (σ:=r) h)
theorem Z85:∀{σ:List Nat} {i x:Nat},Xf σ i=some x→i<σ.length
 | [],_,_,h=>by simp [Xf] at h
 | y::r,0,x,h=>by simp
 | y::r,i+1,x,h=>by have:=Z85 (σ:=r) h;simp;omega
theorem Z86:∀{σ:List Nat} {i:Nat},σ.length≤i→Xf σ i=none
 | [],_,_=>by simp [Xf]
 | y::r,0,h=>by simp at h
 | y::r,i+1,h=>by simp at h;exact Z86 (σ:=r) h
def Env.borL (E:Env) (σ:List Nat) (w:World) (t:Bool):Env:=
 ⟨fun y=>match t with|true=>(match Xf σ y with|some x=>E.blk x|none=>none)|false=>none,fun a c=>w.cell? a=some c∧∀x,x∈σ→∀N,E.blk x=some (a.block,N)→False⟩
mutual
def vwV (σ:List Nat) (h:Z6) (t:Bool):Nat→AV→(AV→Prop)→Prop
 | 0,_,_=>False
 | d+1,v,K=>match v with
  | .top=>K .top
  | .bool b=>K (.bool b)
  | .int k n=>K (.int k n)
  | .str s=>K (.str s)
  | .ptr none=>K (.ptr none)
  | .eslice=>K .eslice
  | .fslice=>K .fslice
  | .nilslice=>K .nilslice
  | .map none=>K (.map none)
  | .nilFunc=>K .nilFunc
  | .nilIface=>K .nilIface
  | .pview cs inn=>K (.pview cs inn)
  | .vints k xs len=>K (.vints k xs len)
  | .vrows esz n f len=>K (.vrows esz n f len)
  | .ptr (some p)=>match XD σ p.blk with
   | some i=>match t with|false=>False|true=>K (.ptr (some ⟨i,p.row,p.sz,p.off,p.inn⟩))
   | none=>match h.get p.blk with
    | some (.flat cs)=>match p.row,Ys p.off cs with
     | 0,some rest=>vwC σ h false d rest fun rest'=>K (.pview rest' p.inn)
     | _,_=>False
    | some (.rows sz n f)=>match Nat.beq sz p.sz with
     | true=>Zx (p.row<n) (match Ys p.off (f p.row) with
      | some rest=>vwC σ h false d rest fun rest'=>K (.pview rest' p.inn)
      | none=>False)
     | false=>False
    | _=>False
  | .nslice p esz len lo=>match XD σ p.blk with
   | some i=>match t with|false=>False|true=>K (.nslice ⟨i,p.row,p.sz,p.off,p.inn⟩ esz len lo)
   | none=>match h.get p.blk with
    | some (.ints k xs)=>match Nat.beq esz 1 with
     | true=>Zx (p.tot+len≤xs.length) (K (.vints k ((XV p.tot xs).take len) len))
     | false=>False
    | some (.rows sz n f)=>match Nat.beq sz esz&&Nat.beq p.off 0&&Nat.beq p.inn 0&&(Nat.beq p.sz esz||Nat.beq p.row 0) with
     | true=>Zx (p.row+len≤n) ((∀i,i<len→plainC (ZX p.row f i)=true)∧K (.vrows esz len (ZX p.row f) len))
     | false=>False
    | some (.flat cs)=>match p.row,Ys p.off cs with
     | 0,some rest=>match Z82 rest&&Nat.beq esz 1 with
      | true=>match rest with
       | .arr k n xs::_=>match Nat.beq esz 1,Nat.beq p.inn 0&&Nat.beq len n with
        | true,true=>Zx (xs.length=n) (K (.vints k xs len))
        | true,false=>Zx (xs.length=n∧p.inn+len≤n) (K (.vints k ((XV p.inn xs).take len) len))
        | false,_=>False
       | _=>False
      | false=>match Nat.beq p.inn 0,takeC (len*esz) rest with
       | true,some part=>vwC σ h false d part fun part'=>match Q6 part' 0 esz len with
        | true=>K (.vrows esz len (Xk part' 0 esz) len)
        | false=>False
       | _,_=>False
     | _,_=>False
    | _=>False
  | .func (.func g) fs cs=>vwL σ h t d fs fun fs'=>vwL σ h t d cs fun cs'=>K (.func (.func g) fs' cs')
  | .iface T u=>vwV σ h t d u fun u'=>K (.iface T u')
  | .agg cs=>vwC σ h t d cs fun cs'=>K (.agg cs')
  | .tuple vs=>vwL σ h t d vs fun vs'=>K (.tuple vs')
  | _=>False
def vwC (σ:List Nat) (h:Z6) (t:Bool):Nat→List AV→(List AV→Prop)→Prop
 | 0,_,_=>False
 | d+1,l,K=>match l with
  | []=>K []
  | .arr k n xs::r=>vwC σ h t d r fun r'=>K (.arr k n xs::r')
  | v::r=>vwV σ h t d v fun v'=>match v'.isCell with
   | true=>vwC σ h t d r fun r'=>K (v'::r')
   | false=>False
def vwL (σ:List Nat) (h:Z6) (t:Bool):Nat→List AV→(List AV→Prop)→Prop
 | 0,_,_=>False
 | d+1,l,K=>match l with
  | []=>K []
  | v::r=>vwV σ h t d v fun v'=>vwL σ h t d r fun r'=>K (v'::r')
end
theorem Z2v {E:Env} {σ:List Nat} {w:World} {t:Bool} {h:Z6} (he:Emb E h w) (hm:∀x,x∈σ→∃B,h.get x=some B):E.views.le (E.borL σ w t).views:=
 ⟨fun _ _ hq=>by simp [Env.views] at hq,fun a c hi=>⟨he.imm a c hi,fun x hx N hb=>let ⟨B,hB⟩:=hm x hx;he.sep a c x B N hi hB hb⟩⟩
theorem Z2w {E:Env} {σ:List Nat} {w:World} {t:Bool} {h:Z6} (he:Emb E h w) (hm:∀x,x∈σ→∃B,h.get x=some B) {a:Addr} {c:Value} (hi:E.imm a c):(E.borL σ w t).imm a c:=
 ⟨he.imm a c hi,fun x hx N hb=>let ⟨B,hB⟩:=hm x hx;he.sep a c x B N hi hB hb⟩
theorem XN {E:Env} {σ:List Nat} {w:World} {t:Bool} {h:Z6} (he:Emb E h w) (hm:∀x,x∈σ→∃B,h.get x=some B) {y b N o:Nat} {B:Blk} (hy:h.get y=some B) (hb:E.blk y=some (b,N)) (hn:XD σ y=none) {c:Value}
  (hc:w.cell? ⟨b,o,none⟩=some c):(E.borL σ w t).imm ⟨b,o,none⟩ c:=
 ⟨hc,fun x hx N' hbx=>by
  obtain ⟨C,hC⟩:=hm x hx
  have:=he.disj x y C B b N' N hC hy hbx hb
  subst this
  exact Z0u hn hx⟩
theorem WA {E:Env} {σ:List Nat} {w:World} {x i:Nat} (h:XD σ x=some i):(E.borL σ w true).blk i=E.blk x:=by
 show (match Xf σ i with|some x=>E.blk x|none=>none)=_
 rw [Vj h]
set_option maxHeartbeats 2000000 in
mutual
theorem Z7d {σ:List Nat} {h:Z6} (hm:∀x,x∈σ→∃B,h.get x=some B):∀(d:Nat) (t:Bool) (v:AV) (K:AV→Prop),vwV σ h t d v K→∃v₀,K v₀∧∀(E:Env) (w:World) (r:Value),Emb E h w→Zc E v r→Zc (E.borL σ w t) v₀ r
 | 0,t,v,K,hl=>by unfold vwV at hl;exact hl.elim
 | d+1,t,v,K,hl=>by
  unfold vwV at hl
  split at hl
  ·exact ⟨_,hl,fun E w r he hv=>.top r⟩
  ·exact ⟨_,hl,fun E w r he hv=>hv.plain rfl⟩
  ·exact ⟨_,hl,fun E w r he hv=>hv.plain rfl⟩
  ·exact ⟨_,hl,fun E w r he hv=>hv.plain rfl⟩
  ·exact ⟨_,hl,fun E w r he hv=>hv.plain rfl⟩
  ·exact ⟨_,hl,fun E w r he hv=>hv.plain rfl⟩
  ·exact ⟨_,hl,fun E w r he hv=>hv.plain rfl⟩
  ·exact ⟨_,hl,fun E w r he hv=>hv.plain rfl⟩
  ·exact ⟨_,hl,fun E w r he hv=>hv.plain rfl⟩
  ·exact ⟨_,hl,fun E w r he hv=>hv.plain rfl⟩
  ·exact ⟨_,hl,fun E w r he hv=>hv.plain rfl⟩
  ·refine ⟨_,hl,fun E w r he hv=> ?_⟩
   cases hv with
   | pview cs inn a vs hc hi=>exact .pview _ _ a vs (hc.mono (Z2v he hm)) (fun j c hj=>Z2w he hm (hi j c hj))
  ·refine ⟨_,hl,fun E w r he hv=> ?_⟩
   cases hv with
   | vintsNil k xs len h1 h2=>exact .vintsNil _ _ _ h1 h2
   | vints k xs len a cap h1 h2 hi=>exact .vints _ _ _ a cap h1 h2 (fun i hi'=>Z2w he hm (hi i hi'))
  ·refine ⟨_,hl,fun E w r he hv=> ?_⟩
   cases hv with
   | vrowsNil esz n f len h1 h2=>exact .vrowsNil _ _ _ _ h1 h2
   | vrows esz n f len a cap g h1 h2 hc hl' hi=>exact .vrows _ _ _ _ a cap g h1 h2 (fun i hi'=>(hc i hi').mono (Z2v he hm)) hl' (fun i j c hi' hj=>Z2w he hm (hi i j c hi' hj))
  ·rename_i p
   split at hl
   ·rename_i ix hmv
    split at hl
    ·exact hl.elim
    ·refine ⟨_,hl,fun E w r he hv=> ?_⟩
     cases hv with
     | ptr p b N hb=>exact .ptr ⟨ix,p.row,p.sz,p.off,p.inn⟩ b N (by rw [WA hmv];exact hb)
   ·rename_i hmv
    split at hl
    ·rename_i cs hg
     split at hl
     ·rename_i rest hrow hrest
      obtain ⟨rest',hK,hr⟩:=Qn hm d false rest _ hl
      refine ⟨_,hK,fun E w r he hv=> ?_⟩
      cases hv with
      | ptr p b N hb=>
       cases he.own _ _ hg with
       | flat0 cs h0 hn=>rw [hn] at hb;cases hb
       | flat cs b' cells elem fr vs hb' hw hf hc hvs=>
        rw [hb] at hb'
        cases hb'
        have hd:=(ZT _ _ _ _ hrest hc).1
        have e:(⟨b,p.tot,none⟩:Addr)=(⟨b,p.off,none⟩:Addr).add p.inn:=by rw [addr_add];simp [ZO.tot,hrow]
        rw [e]
        refine .pview _ _ ⟨b,p.off,none⟩ _ (hr E w _ he hd) (fun j c hj=> ?_)
        rw [addr_add]
        refine XN he hm hg hb hmv (Z1k hvs hw ?_)
        rw [List.getElem?_drop] at hj
        exact hj
     ·exact hl.elim
    ·rename_i sz n f hg
     split at hl
     ·rename_i hsz
      have hsz:=Nat.eq_of_beq_eq_true hsz
      obtain ⟨hrow,hl⟩:=Zb hl
      split at hl
      ·rename_i rest hrest
       obtain ⟨rest',hK,hr⟩:=Qn hm d false rest _ hl
       refine ⟨_,hK,fun E w r he hv=> ?_⟩
       cases hv with
       | ptr p b N hb=>
        cases he.own _ _ hg with
        | rows0 sz n f h0 hn=>omega
        | rows sz n f b' cells elem fr g hb' hw hf hc hlg hvs=>
         rw [hb] at hb'
         cases hb'
         have hd:=(ZT _ _ _ _ hrest (hc _ hrow)).1
         have e:(⟨b,p.tot,none⟩:Addr)=(⟨b,p.row*sz+p.off,none⟩:Addr).add p.inn:=by rw [addr_add];simp [ZO.tot,hsz]
         rw [e]
         refine .pview _ _ ⟨b,p.row*sz+p.off,none⟩ _ (hr E w _ he hd) (fun j c hj=> ?_)
         rw [addr_add]
         refine XN he hm hg hb hmv ?_
         rw [List.getElem?_drop] at hj
         rw [cell_of_heap hw,Nat.add_assoc]
         exact hvs _ _ _ hrow hj
      ·exact hl.elim
     ·exact hl.elim
    ·exact hl.elim
  ·rename_i p esz len lo
   split at hl
   ·rename_i ix hmv
    split at hl
    ·exact hl.elim
    ·refine ⟨_,hl,fun E w r he hv=> ?_⟩
     cases hv with
     | nslice0 p esz len lo a h1 h2=>exact .nslice0 _ _ _ _ a h1 h2
     | nslice p esz len lo b N cap hb h1 h2 h3=>exact .nslice ⟨ix,p.row,p.sz,p.off,p.inn⟩ _ _ _ b N cap (by rw [WA hmv];exact hb) h1 h2 h3
   ·rename_i hmv
    split at hl
    ·rename_i k xs hg
     split at hl
     ·rename_i hes
      have hes:=Nat.eq_of_beq_eq_true hes
      subst hes
      obtain ⟨hle,hK⟩:=Zb hl
      have hlen:((XV p.tot xs).take len).length=len:=by rw [X4,List.length_take,List.length_drop];omega
      refine ⟨_,hK,fun E w r he hv=> ?_⟩
      cases hv with
      | nslice0 p esz len lo a h1 h2=>
       subst h1
       cases a with
       | none=>exact .vintsNil _ _ _ (by simp) rfl
       | some a=>exact .vints _ _ _ a 0 (by simp) (by simp) (fun i hi=>by simp at hi)
      | nslice p esz len lo b N cap hb h1 h2 h3=>
       refine .vints _ _ _ _ cap (by omega) (by omega) (fun i hi=> ?_)
       rw [hlen] at hi
       rw [addr_add]
       refine XN he hm hg hb hmv ?_
       cases he.own _ _ hg with
       | ints0 k xs h0 hn=>rw [hn] at hb;cases hb
       | ints k xs b' cells elem fr hb' hw hf hvs=>
        rw [hb] at hb'
        cases hb'
        rw [cell_of_heap hw,hvs _ (by omega)]
        congr 2
        rw [X4]
        simp [List.getD_eq_getElem?_getD,hi,List.getElem?_drop]
     ·exact hl.elim
    ·rename_i sz n f hg
     split at hl
     ·rename_i hb
      simp only [Bool.and_eq_true,Bool.or_eq_true] at hb
      obtain ⟨⟨⟨q1,q2⟩,q3⟩,q4⟩:=hb
      have q1:=Nat.eq_of_beq_eq_true q1
      have q2:=Nat.eq_of_beq_eq_true q2
      have q3:=Nat.eq_of_beq_eq_true q3
      obtain ⟨hle,hpl,hK⟩:=Zb hl
      refine ⟨_,hK,fun E w r he hv=> ?_⟩
      have htot:p.tot=p.row*sz:=by
       rcases q4 with q4|q4
       ·have:=Nat.eq_of_beq_eq_true q4;simp [ZO.tot,q2,q3,this,q1]
       ·have:=Nat.eq_of_beq_eq_true q4;simp [ZO.tot,q2,q3,this]
      cases hv with
      | nslice0 p esz len lo a h1 h2=>
       subst h1
       cases a with
       | none=>exact .vrowsNil _ _ _ _ rfl rfl
       | some a=>exact .vrows _ _ _ _ a 0 (fun _=>[]) (by omega) (by omega) (fun i hi=>by omega) (fun i hi=>by omega) (fun i j c hi=>by omega)
      | nslice p esz len lo b N cap hb h1 h2 h3=>
       cases he.own _ _ hg with
       | rows0 sz n f h0 hn=>rw [hn] at hb;cases hb
       | rows sz n f b' cells elem fr g hb' hw hf hc hlg hvs=>
        rw [hb] at hb'
        cases hb'
        refine .vrows _ _ _ _ _ cap (fun i=>g (p.row+i)) (by omega) h1 (fun i hi=> ?_) (fun i hi=>by rw [←q1];exact hlg _ (by omega)) (fun i j c hi hj=> ?_)
        ·have:=hc (p.row+i) (by omega)
         have hp:=hpl i hi
         rw [Z0e] at hp⊢
         exact this.plain hp
        ·rw [addr_add]
         refine XN he hm hg hb hmv ?_
         rw [cell_of_heap hw,htot,←q1]
         have:=hvs (p.row+i) j c (by omega) hj
         rw [Nat.add_mul] at this
         rw [show p.row*sz+(i*sz+j)=p.row*sz+i*sz+j by omega]
         exact this
     ·exact hl.elim
    ·rename_i cs hg
     split at hl
     ·rename_i rest hrow hrest
      have hbase:∀(E:Env) (w:World) (b N:Nat),Emb E h w→E.blk p.blk=some (b,N)→∃vs,Zq E rest vs∧∀j c,vs[j]? =some c→w.cell? ⟨b,p.off+j,none⟩=some c:=by
       intro E w b N he hb
       cases he.own _ _ hg with
       | flat0 cs h0 hn=>rw [hn] at hb;cases hb
       | flat cs b' cells elem fr vs hb' hw hf hc hvs=>
        rw [hb] at hb'
        cases hb'
        refine ⟨_,(ZT _ _ _ _ hrest hc).1,fun j c hj=> ?_⟩
        rw [List.getElem?_drop] at hj
        exact Z1k hvs hw hj
      split at hl
      ·split at hl
       ·rename_i k n xs rest2 harr
        split at hl
        ·rename_i hes hbb
         have hes:=Nat.eq_of_beq_eq_true hes
         subst hes
         rw [Bool.and_eq_true] at hbb
         have e1:=Nat.eq_of_beq_eq_true hbb.1
         have e2:=Nat.eq_of_beq_eq_true hbb.2
         obtain ⟨hxl,hK⟩:=Zb hl
         refine ⟨_,hK,fun E w r he hv=> ?_⟩
         cases hv with
         | nslice0 p esz len lo a h1 h2=>
          have hx0:xs=[]:=by
           have:xs.length=0:=by omega
           exact List.length_eq_zero_iff.1 this
          subst hx0
          subst h1
          cases a with
          | none=>exact .vintsNil _ _ _ rfl rfl
          | some a=>exact .vints _ _ _ a 0 (by simp) (by simp) (fun i hi=>by simp at hi)
         | nslice p esz len lo b N cap hb h1 h2 h3=>
          obtain ⟨vs,hcr,hcell⟩:=hbase E w b N he hb
          obtain ⟨ws,rfl,_⟩:=Zq.cons_arr hcr
          refine .vints _ _ _ _ cap (by omega) (by omega) (fun i hi=> ?_)
          rw [addr_add]
          refine XN he hm hg hb hmv ?_
          have:=hcell i (.int k (xs.getD i 0)) (by
           rw [List.getElem?_append_left (by rw [Z4];omega),Zp (by omega)])
          rw [show p.tot+i=p.off+i by simp [ZO.tot,hrow,e1]]
          exact this
        ·rename_i hes hbb
         have hes:=Nat.eq_of_beq_eq_true hes
         subst hes
         obtain ⟨⟨hxl,hle⟩,hK⟩:=Zb hl
         have hlen:((XV p.inn xs).take len).length=len:=by rw [X4,List.length_take,List.length_drop];omega
         refine ⟨_,hK,fun E w r he hv=> ?_⟩
         cases hv with
         | nslice0 p esz len lo a h1 h2=>
          subst h1
          cases a with
          | none=>exact .vintsNil _ _ _ (by simp) rfl
          | some a=>exact .vints _ _ _ a 0 (by simp) (by simp) (fun i hi=>by simp at hi)
         | nslice p esz len lo b N cap hb h1 h2 h3=>
          obtain ⟨vs,hcr,hcell⟩:=hbase E w b N he hb
          obtain ⟨ws,rfl,_⟩:=Zq.cons_arr hcr
          refine .vints _ _ _ _ cap (by omega) (by omega) (fun i hi=> ?_)
          rw [hlen] at hi
          rw [addr_add]
          refine XN he hm hg hb hmv ?_
          have:=hcell (p.inn+i) (.int k (xs.getD (p.inn+i) 0)) (by
           rw [List.getElem?_append_left (by rw [Z4];omega),Zp (by omega)])
          rw [show p.tot+i=p.off+(p.inn+i) by simp [ZO.tot,hrow];omega]
          rw [this]
          congr 2
          rw [X4]
          simp [List.getD_eq_getElem?_getD,hi,List.getElem?_drop]
        ·exact hl.elim
       ·exact hl.elim
      ·split at hl
       ·rename_i part hinn hpart
        have hinn:=Nat.eq_of_beq_eq_true hinn
        obtain ⟨part',hK,hr⟩:=Qn hm d false part _ hl
        split at hK
        ·rename_i hrows
         refine ⟨_,hK,fun E w r he hv=> ?_⟩
         cases hv with
         | nslice0 p esz len lo a h1 h2=>
          subst h1
          cases a with
          | none=>exact .vrowsNil _ _ _ _ rfl rfl
          | some a=>exact .vrows _ _ _ _ a 0 (fun _=>[]) (by omega) (by omega) (fun i hi=>by omega) (fun i hi=>by omega) (fun i j c hi=>by omega)
         | nslice p esz len lo b N cap hb h1 h2 h3=>
          obtain ⟨vs,hcr,hcell⟩:=hbase E w b N he hb
          have hpr:=(V1 _ _ _ _ hpart hcr).1
          have hpr':=hr E w _ he hpr
          refine .vrows _ _ _ _ _ cap (fun i=>((vs.take (len*esz)).drop (0+i*esz)).take esz) (by omega) h1 (fun i hi=>(Xt (YN hrows i hi) hpr').1) (fun i hi=>(Xt (YN hrows i hi) hpr').2) (fun i j c hi hj=> ?_)
          rw [addr_add]
          refine XN he hm hg hb hmv ?_
          rw [List.getElem?_take] at hj
          split at hj
          ·rw [List.getElem?_drop,List.getElem?_take] at hj
           split at hj
           ·have:=hcell _ _ hj
            rw [show p.tot+(i*esz+j)=p.off+(0+i*esz+j) by simp [ZO.tot,hrow,hinn]]
            exact this
           ·cases hj
          ·cases hj
        ·exact hK.elim
       ·exact hl.elim
     ·exact hl.elim
    ·exact hl.elim
  ·obtain ⟨fs',hl,h1⟩:=Z2x hm d t _ _ hl
   obtain ⟨cs',hl,h2⟩:=Z2x hm d t _ _ hl
   refine ⟨_,hl,fun E w r he hv=> ?_⟩
   cases hv with
   | func fn first captured fs cs ha hb=>exact .func _ _ _ _ _ (h1 E w _ he ha) (h2 E w _ he hb)
  ·obtain ⟨u',hl,h1⟩:=Z7d hm d t _ _ hl
   refine ⟨_,hl,fun E w r he hv=> ?_⟩
   cases hv with
   | iface T v x hx=>exact .iface _ _ _ (h1 E w _ he hx)
  ·obtain ⟨cs',hl,h1⟩:=Qn hm d t _ _ hl
   refine ⟨_,hl,fun E w r he hv=> ?_⟩
   cases hv with
   | agg cs vs hc=>exact .agg _ _ (h1 E w _ he hc)
  ·obtain ⟨vs',hl,h1⟩:=Z2x hm d t _ _ hl
   refine ⟨_,hl,fun E w r he hv=> ?_⟩
   cases hv with
   | tuple vs rs hc=>exact .tuple _ _ (h1 E w _ he hc)
  ·exact hl.elim
theorem Qn {σ:List Nat} {h:Z6} (hm:∀x,x∈σ→∃B,h.get x=some B):∀(d:Nat) (t:Bool) (l:List AV) (K:List AV→Prop),vwC σ h t d l K→∃l₀,K l₀∧∀(E:Env) (w:World) (r:List Value),Emb E h w→Zq E l r→Zq (E.borL σ w t) l₀ r
 | 0,t,l,K,hl=>by unfold vwC at hl;exact hl.elim
 | d+1,t,l,K,hl=>by
  unfold vwC at hl
  split at hl
  ·exact ⟨_,hl,fun E w r he hv=>by cases hv;exact .nil⟩
  ·obtain ⟨r',hl,h1⟩:=Qn hm d t _ _ hl
   refine ⟨_,hl,fun E w r he hv=> ?_⟩
   obtain ⟨ws,rfl,ht⟩:=Zq.cons_arr hv
   exact .arr _ _ _ _ _ (h1 E w _ he ht)
  ·rename_i v r hna
   obtain ⟨v',hl,h1⟩:=Z7d hm d t _ _ hl
   split at hl
   ·rename_i hcell
    obtain ⟨r',hl,h2⟩:=Qn hm d t _ _ hl
    refine ⟨_,hl,fun E w q he hv=> ?_⟩
    obtain ⟨c,ws,rfl,q1,q2,q3,q4⟩:=Zq.cons_cell hv (fun k m xs e=>hna k m xs e)
    exact .one _ _ _ _ hcell q2 (h1 E w _ he q3) (h2 E w _ he q4)
   ·exact hl.elim
theorem Z2x {σ:List Nat} {h:Z6} (hm:∀x,x∈σ→∃B,h.get x=some B):∀(d:Nat) (t:Bool) (l:List AV) (K:List AV→Prop),vwL σ h t d l K→∃l₀,K l₀∧∀(E:Env) (w:World) (r:List Value),Emb E h w→ZE E l r→ZE (E.borL σ w t) l₀ r
 | 0,t,l,K,hl=>by unfold vwL at hl;exact hl.elim
 | d+1,t,l,K,hl=>by
  unfold vwL at hl
  split at hl
  ·exact ⟨_,hl,fun E w r he hv=>by cases hv;exact .nil⟩
  ·obtain ⟨v',hl,h1⟩:=Z7d hm d t _ _ hl
   obtain ⟨r',hl,h2⟩:=Z2x hm d t _ _ hl
   refine ⟨_,hl,fun E w q he hv=> ?_⟩
   cases hv with
   | cons v c vs cs ha hb=>exact .cons _ _ _ _ (h1 E w _ he ha) (h2 E w _ he hb)
end
def vwB (σ:List Nat) (h:Z6) (d:Nat) (B:Blk) (K:Blk→Prop):Prop:=
 match B with
 | .ints k xs=>K (.ints k xs)
 | .flat cs=>vwC σ h true d cs fun cs'=>match Nat.beq (csz cs') (csz cs) with|true=>K (.flat cs')|false=>False
 | .rows sz n f=>(∀i,i<n→plainC (f i)=true)∧K (.rows sz n f)
 | _=>False
theorem Zfb {σ:List Nat} {h:Z6} (hm:∀x,x∈σ→∃B,h.get x=some B) {d:Nat} {B:Blk} {K:Blk→Prop} (hl:vwB σ h d B K):
  ∃B₀,K B₀∧∀(E:Env) (w:World) (x i:Nat),Emb E h w→XD σ x=some i→Yr E w x B→Yr (E.borL σ w true) w i B₀:=by
 unfold vwB at hl
 split at hl
 ·refine ⟨_,hl,fun E w x i he hi hb=> ?_⟩
  have hq:=WA (E:=E) (w:=w) hi
  cases hb with
  | ints0 k xs h0 hn=>exact .ints0 _ _ h0 (hq.trans hn)
  | ints k xs b cells elem fr hb hw hf hv=>exact .ints _ _ b cells elem fr (hq.trans hb) hw hf hv
 ·obtain ⟨cs',hl,hr⟩:=Qn hm _ _ _ _ hl
  split at hl
  ·rename_i hz
   have hz:=Nat.eq_of_beq_eq_true hz
   refine ⟨_,hl,fun E w x i he hi hb=> ?_⟩
   have hq:=WA (E:=E) (w:=w) hi
   cases hb with
   | flat0 cs h0 hn=>exact .flat0 _ (hz.trans h0) (hq.trans hn)
   | flat cs b cells elem fr vs hb hw hf hc hv=>exact .flat _ b cells elem fr vs (hq.trans hb) hw hf (hr E w vs he hc) hv
  ·exact hl.elim
 ·obtain ⟨hp,hl⟩:=hl
  refine ⟨_,hl,fun E w x i he hi hb=> ?_⟩
  have hq:=WA (E:=E) (w:=w) hi
  cases hb with
  | rows0 sz n f h0 hn=>exact .rows0 _ _ _ h0 (hq.trans hn)
  | rows sz n f b cells elem fr g hb hw hf hc hl hv=>exact .rows _ _ _ b cells elem fr g (hq.trans hb) hw hf (fun i hi=>(hc i hi).plain (hp i hi)) hl hv
 ·exact hl.elim
def ZcR (σ:List Nat) (h:Z6) (d:Nat):List Nat→(List Blk→Prop)→Prop
 | [],K=>K []
 | x::r,K=>match h.get x with
  | some B=>vwB σ h d B fun B'=>ZcR σ h d r fun Bs=>K (B'::Bs)
  | none=>False
theorem Z87 {σ:List Nat} {h:Z6} (hm:∀x,x∈σ→∃B,h.get x=some B) {d:Nat}:∀(r:List Nat) (K:List Blk→Prop),ZcR σ h d r K→
  ∃Bs,K Bs∧Bs.length=r.length∧∀(i x:Nat) (B:Blk),r[i]? =some x→Bs[i]? =some B→∃B',h.get x=some B'∧∀(E:Env) (w:World) (j:Nat),Emb E h w→XD σ x=some j→Yr E w x B'→Yr (E.borL σ w true) w j B
 | [],K,hl=>⟨[],hl,rfl,fun i x B h=>by simp at h⟩
 | y::r,K,hl=>by
  unfold ZcR at hl
  split at hl
  ·rename_i B' hB'
   obtain ⟨B₀,hl,hr⟩:=Zfb hm hl
   obtain ⟨Bs,hK,hlen,hall⟩:=Z87 hm r _ hl
   refine ⟨B₀::Bs,hK,by simp [hlen],fun i x B h1 h2=> ?_⟩
   match i with
   | 0=>simp at h1 h2;subst h1;subst h2;exact ⟨B',hB',fun E w j he hj hb=>hr E w _ j he hj hb⟩
   | i+1=>exact hall i x B (by simpa using h1) (by simpa using h2)
  ·exact hl.elim
def hasB (h:Z6):List Nat→Bool
 | []=>true
 | x::r=>match h.get x with|some _=>hasB h r|none=>false
theorem Z88 {h:Z6}:∀{σ:List Nat},hasB h σ=true→∀x,x∈σ→∃B,h.get x=some B
 | [],_,x,hx=>by simp at hx
 | y::r,hl,x,hx=>by
  unfold hasB at hl
  split at hl
  ·rename_i B hB
   rcases List.mem_cons.1 hx with rfl|hx
   ·exact ⟨B,hB⟩
   ·exact Z88 hl x hx
  ·cases hl
def Z3D:List Nat→Bool
 | []=>true
 | x::r=>match XD r x with|some _=>false|none=>Z3D r
theorem U7:∀{σ:List Nat},Z3D σ=true→∀(i x:Nat),Xf σ i=some x→XD σ x=some i
 | [],_,i,x,h=>by simp [Xf] at h
 | y::r,hd,0,x,h=>by simp [Xf] at h;subst h;simp [XD,Nat.beq_refl]
 | y::r,hd,i+1,x,h=>by
  unfold Z3D at hd
  split at hd
  ·cases hd
  ·rename_i hn
   have h1:Xf r i=some x:=h
   have h2:=U7 hd i x h1
   have hne:y≠x:=fun e=>Z0u hn (e▸XE h1)
   simp [XD,ZC hne,h2]
def frA (σ:List Nat) (h:Z6) (d:Nat) (args:List AV) (K0:List Blk→List AV→Prop):Prop:=
 match hasB h σ&&Z3D σ with
 | true=>ZcR σ h d σ fun Bs=>vwL σ h true d args fun a=>K0 Bs a
 | false=>False
theorem Z2y:∀{σ:List Nat} {i:Nat},Xf σ i=σ[i]?
 | [],_=>by simp [Xf]
 | x::r,0=>by simp [Xf]
 | x::r,i+1=>by simp [Xf,Z2y (σ:=r)]
theorem Zfc {σ:List Nat} {h:Z6} {d:Nat} {args:List AV} {K0:List Blk→List AV→Prop} (hl:frA σ h d args K0):
  (∀x,x∈σ→∃B,h.get x=some B)∧Z3D σ=true∧∃Bs a,K0 Bs a∧Bs.length=σ.length∧
   (∀(i x:Nat) (B:Blk),Xf σ i=some x→Bs[i]? =some B→∃B',h.get x=some B'∧∀(E:Env) (w:World),Emb E h w→Yr E w x B'→Yr (E.borL σ w true) w i B)∧
   ∀(E:Env) (w:World) (r:List Value),Emb E h w→ZE E args r→ZE (E.borL σ w true) a r:=by
 unfold frA at hl
 split at hl
 ·rename_i hc
  rw [Bool.and_eq_true] at hc
  have hm:=Z88 hc.1
  obtain ⟨Bs,hl,hlen,hall⟩:=Z87 hm _ _ hl
  obtain ⟨a,hK,ha⟩:=Z2x hm _ _ _ _ hl
  refine ⟨hm,hc.2,Bs,a,hK,hlen,fun i x B h1 h2=> ?_,ha⟩
  obtain ⟨B',hB',hr⟩:=hall i x B (by rw [←Z2y];exact h1) h2
  exact ⟨B',hB',fun E w he hb=>hr E w i he (U7 hc.2 i x h1) hb⟩
 ·exact hl.elim
end Go.Tk
end
section
namespace Go.Tk
open IntKind (i64 u8 u32 u64 wrap)
def Spec (P:Program) (f:FuncId) (args:List AV) (h0:Z6) (o:Out) (nx:Nat) (bs:List (Nat×Blk)):Prop:=
 ∀(E:Env) (w:World) (rs:List Value),Emb E h0 w→ZE E args rs→Calls P f rs.toArray w fun e w'=>∃E',Evo E h0 w E' ⟨nx,bs⟩ w'∧Qa E' o e
theorem Z89 {k:Nat} {τ:Ren} {v u:AV} {nx:Nat} {bs:List (Nat×Blk)} {h0 h:Z6} (hk:k=h0.next) (hl:U2 k τ ⟨1,[(0,v)],⟨nx,bs⟩,[]⟩ ⟨1,[(0,u)],h,[]⟩ True) {E0 E:Env} {w0 w:World} {r:Value}
  (he0:Emb E0 h0 w0) (hev:Evo E0 h0 w0 E h w) (hr:Zc E u r):∃E',Evo E0 h0 w0 E' ⟨nx,bs⟩ w∧Zc E' v r:=by
 obtain ⟨_,hw⟩:=XC hl
 have hs:WW E ⟨1,[(0,u)],h,[]⟩ { tmps:= #[r],defers:=[]} w:=by
  refine ⟨hev.emb,⟨rfl,fun x v' hx=> ?_⟩,.nil⟩
  simp only [ZP] at hx
  split at hx
  ·rename_i hb
   have:=Nat.eq_of_beq_eq_true hb
   subst this
   cases hx
   exact hr
  ·cases hx
 obtain ⟨E₂,hs2,hev2⟩:=hw E0 h0 w0 E _ w (fun x hx=>he0.fresh x (hk▸hx)) hs hev
 refine ⟨E₂,hev2, ?_⟩
 have:=hs2.tmps.get 0 v (by simp [ZP])
 simpa using this
def mvN:List Nat→Nat→Nat→Nat
 | [],d,y=>d+y
 | x::_,_,0=>x
 | _::r,d,y+1=>mvN r d y
theorem Z7e:∀{σ:List Nat} {d y x:Nat},Xf σ y=some x→mvN σ d y=x
 | [],_,_,_,h=>by simp [Xf] at h
 | x::r,d,0,_,h=>by simpa [Xf,mvN] using h
 | x::r,d,y+1,_,h=>Z7e (σ:=r) h
theorem Z7f:∀{σ:List Nat} {d y:Nat},σ.length≤y→mvN σ d y=d+(y-σ.length)
 | [],d,y,_=>by simp [mvN]
 | x::r,d,0,h=>by simp at h
 | x::r,d,y+1,h=>by
  simp at h
  have:=Z7f (σ:=r) (d:=d) h
  simp [mvN,this]
theorem Qo:∀{σ:List Nat} {y:Nat},y<σ.length→∃x,Xf σ y=some x
 | [],_,h=>by simp at h
 | x::r,0,_=>⟨x,rfl⟩
 | x::r,y+1,h=>Qo (σ:=r) (by simpa using h)
mutual
/-- Names moved. -/
def mvV (σ:List Nat) (d:Nat):AV→Option AV
 | .top=>some .top
 | .bool b=>some (.bool b)
 | .int k n=>some (.int k n)
 | .str s=>some (.str s)
 | .ptr none=>some (.ptr none)
 | .ptr (some p)=>some (.ptr (some ⟨mvN σ d p.blk,p.row,p.sz,p.off,p.inn⟩))
 | .nslice p esz len lo=>some (.nslice ⟨mvN σ d p.blk,p.row,p.sz,p.off,p.inn⟩ esz len lo)
 | .eslice=>some .eslice
 | .fslice=>some .fslice
 | .nilslice=>some .nilslice
 | .map none=>some (.map none)
 | .map (some x)=>some (.map (some (mvN σ d x)))
 | .nilFunc=>some .nilFunc
 | .nilIface=>some .nilIface
 | .func (.func g) fs cs=>match mvL σ d fs,mvL σ d cs with
  | some fs',some cs'=>some (.func (.func g) fs' cs')
  | _,_=>none
 | .iface t v=>match mvV σ d v with|some v'=>some (.iface t v')|none=>none
 | .agg cs=>match mvC σ d cs with|some cs'=>some (.agg cs')|none=>none
 | .tuple vs=>match mvL σ d vs with|some vs'=>some (.tuple vs')|none=>none
 | _=>none
def mvC (σ:List Nat) (d:Nat):List AV→Option (List AV)
 | []=>some []
 | .arr k n xs::r=>match mvC σ d r with|some r'=>some (.arr k n xs::r')|none=>none
 | v::r=>match mvV σ d v,mvC σ d r with
  | some v',some r'=>match v'.isCell with|true=>some (v'::r')|false=>none
  | _,_=>none
def mvL (σ:List Nat) (d:Nat):List AV→Option (List AV)
 | []=>some []
 | v::r=>match mvV σ d v,mvL σ d r with
  | some v',some r'=>some (v'::r')
  | _,_=>none
end
theorem Uz {v:AV} (h:v.isCell=true) (r:List AV):csz (v::r)=1+csz r:=by
 cases v<;>simp_all [AV.isCell,csz]
set_option maxHeartbeats 1000000 in
mutual
theorem Z2z {σ:List Nat} {d:Nat} {E E':Env} (hb:∀x r,E.blk x=some r→E'.blk (mvN σ d x)=some r):∀(v v':AV) (r:Value),mvV σ d v=some v'→Zc E v r→Zc E' v' r:=by
 intro v v' r h hv
 unfold mvV at h
 split at h
 ·cases h;exact .top r
 ·cases h;exact hv.plain rfl
 ·cases h;exact hv.plain rfl
 ·cases h;exact hv.plain rfl
 ·cases h;exact hv.plain rfl
 ·cases h
  cases hv with
  | ptr p b N hq=>exact .ptr ⟨mvN σ d _,_,_,_,_⟩ b N (hb _ _ hq)
 ·cases h
  cases hv with
  | nslice0 p esz len lo a h1 h2=>exact .nslice0 _ _ _ _ a h1 h2
  | nslice p esz len lo b N cap hq h1 h2 h3=>exact .nslice ⟨mvN σ d _,_,_,_,_⟩ _ _ _ b N cap (hb _ _ hq) h1 h2 h3
 ·cases h;exact hv.plain rfl
 ·cases h;exact hv.plain rfl
 ·cases h;exact hv.plain rfl
 ·cases h;exact hv.plain rfl
 ·cases h
  cases hv with
  | map x b N hq=>exact .map _ b N (hb _ _ hq)
 ·cases h;exact hv.plain rfl
 ·cases h;exact hv.plain rfl
 ·split at h
  ·rename_i fs' cs' h1 h2
   cases h
   cases hv with
   | func fn first captured fs cs ha hc=>exact .func _ _ _ _ _ (Z4F hb _ _ _ h1 ha) (Z4F hb _ _ _ h2 hc)
  ·cases h
 ·split at h
  ·rename_i v1 h1
   cases h
   cases hv with
   | iface t v x hx=>exact .iface _ _ _ (Z2z hb _ _ _ h1 hx)
  ·cases h
 ·split at h
  ·rename_i cs' h1
   cases h
   cases hv with
   | agg cs vs hc=>exact .agg _ _ (Z4E hb _ _ _ h1 hc).1
  ·cases h
 ·split at h
  ·rename_i vs' h1
   cases h
   cases hv with
   | tuple vs rs hc=>exact .tuple _ _ (Z4F hb _ _ _ h1 hc)
  ·cases h
 ·cases h
theorem Z4E {σ:List Nat} {d:Nat} {E E':Env} (hb:∀x r,E.blk x=some r→E'.blk (mvN σ d x)=some r):∀(l l':List AV) (r:List Value),mvC σ d l=some l'→Zq E l r→Zq E' l' r∧csz l'=csz l:=by
 intro l l' r h hv
 unfold mvC at h
 split at h
 ·cases h;cases hv;exact ⟨.nil,rfl⟩
 ·split at h
  ·rename_i r' h1
   cases h
   obtain ⟨ws,rfl,ht⟩:=Zq.cons_arr hv
   have:=Z4E hb _ _ _ h1 ht
   exact ⟨.arr _ _ _ _ _ this.1,by simp [csz,this.2]⟩
  ·cases h
 ·rename_i v r2 hna
  split at h
  ·rename_i v1 r1 h1 h2
   split at h
   ·rename_i hcell
    cases h
    obtain ⟨c,ws,rfl,q1,q2,q3,q4⟩:=Zq.cons_cell hv (fun k m xs e=>hna k m xs e)
    have:=Z4E hb _ _ _ h2 q4
    exact ⟨.one _ _ _ _ hcell q2 (Z2z hb _ _ _ h1 q3) this.1,by rw [Uz hcell,Uz q1,this.2]⟩
   ·cases h
  ·cases h
theorem Z4F {σ:List Nat} {d:Nat} {E E':Env} (hb:∀x r,E.blk x=some r→E'.blk (mvN σ d x)=some r):∀(l l':List AV) (r:List Value),mvL σ d l=some l'→ZE E l r→ZE E' l' r:=by
 intro l l' r h hv
 unfold mvL at h
 split at h
 ·cases h;cases hv;exact .nil
 ·split at h
  ·rename_i v1 r1 h1 h2
   cases h
   cases hv with
   | cons v c vs cs ha hc=>exact .cons _ _ _ _ (Z2z hb _ _ _ h1 ha) (Z4F hb _ _ _ h2 hc)
  ·cases h
end
theorem ZcS {σ:List Nat} {d:Nat}:∀(l l':List AV),mvC σ d l=some l'→csz l'=csz l:=by
 intro l
 induction l with
 | nil=>intro l' h;unfold mvC at h;cases h;rfl
 | cons v r ih=>
  intro l' h
  unfold mvC at h
  split at h
  ·rename_i hq;cases hq
  ·rename_i hq
   cases hq
   split at h
   ·rename_i r' h1
    cases h
    simp [csz,ih _ h1]
   ·cases h
  ·rename_i hna hq
   cases hq
   split at h
   ·rename_i v1 r1 h1 h2
    split at h
    ·rename_i hcell
     cases h
     have hv:v.isCell=true∨v.isCell=false:=by cases v.isCell<;>simp
     rcases hv with hv|hv
     ·rw [Uz hcell,Uz hv,ih _ h2]
     ·cases v with
      | arr k n xs=>exact absurd rfl (hna k n xs)
      | agg cs=>unfold mvV at h1;split at h1<;>cases h1;simp [AV.isCell] at hcell
      | tuple cs=>unfold mvV at h1;split at h1<;>cases h1;simp [AV.isCell] at hcell
      | _=>simp [AV.isCell] at hv
    ·cases h
   ·cases h
inductive MvB (σ:List Nat) (d:Nat):Blk→Blk→Prop
 | ints (k:IntKind) (xs:List Int):MvB σ d (.ints k xs) (.ints k xs)
 | flat (cs cs':List AV) (h:mvC σ d cs=some cs'):MvB σ d (.flat cs) (.flat cs')
 | rows (sz n:Nat) (f:Nat→List AV) (h:∀i,i<n→plainC (f i)=true):MvB σ d (.rows sz n f) (.rows sz n f)
inductive Z7g (σ:List Nat) (d:Nat):List (Nat×Blk)→List (Nat×Blk)→Prop
 | nil:Z7g σ d [] []
 | cons (y x:Nat) (B B':Blk) (r r':List (Nat×Blk)) (hx:mvN σ d y=x) (h:MvB σ d B B') (t:Z7g σ d r r'):Z7g σ d ((y,B)::r) ((x,B')::r')
inductive MvO (σ:List Nat) (d:Nat):Out→Out→Prop
 | ret (v v':AV) (h:mvV σ d v=some v'):MvO σ d (.ret v) (.ret v')
 | panic (v v':AV) (h:mvV σ d v=some v'):MvO σ d (.panic v) (.panic v')
theorem Z7g.get {σ:List Nat} {d:Nat}:∀{bs bs':List (Nat×Blk)},Z7g σ d bs bs'→∀x B',ZF bs' x=some B'→∃y B,mvN σ d y=x∧ZF bs y=some B∧MvB σ d B B'
 | _,_,.nil,x,B',h=>by simp [ZF] at h
 | _,_,.cons y x0 B B0 r r' hx hm t,x,B',h=>by
  unfold ZF at h
  split at h
  ·rename_i hb
   have:=Nat.eq_of_beq_eq_true hb
   cases h
   exact ⟨y,B,hx.trans this,by simp [ZF,Nat.beq_refl],hm⟩
  ·rename_i hb
   obtain ⟨z,C,h1,h2,h3⟩:=t.get x B' h
   refine ⟨z,C,h1, ?_,h3⟩
   have hne:y≠z:=fun e=>by subst e;rw [hx] at h1;subst h1;simp [Nat.beq_refl] at hb
   simp [ZF,ZC hne,h2]
theorem MvB.move {σ:List Nat} {d:Nat} {B B':Blk} (hm:MvB σ d B B') {E E':Env} {w:World} {y:Nat} (hb:∀x r,E.blk x=some r→E'.blk (mvN σ d x)=some r) (hn:E.blk y=none→E'.blk (mvN σ d y)=none) (h:Yr E w y B):Yr E' w (mvN σ d y) B':=by
 cases hm with
 | ints k xs=>cases h with
  | ints0 k xs h0 hq=>exact .ints0 _ _ h0 (hn hq)
  | ints k xs b cells elem fr hq hw hf hv=>exact .ints _ _ b cells elem fr (hb _ _ hq) hw hf hv
 | flat cs cs' hc=>cases h with
  | flat0 cs h0 hq=>exact .flat0 _ ((ZcS _ _ hc).trans h0) (hn hq)
  | flat cs b cells elem fr vs hq hw hf hcr hv=>exact .flat _ b cells elem fr vs (hb _ _ hq) hw hf (Z4E hb _ _ _ hc hcr).1 hv
 | rows sz n f hp=>cases h with
  | rows0 sz n f h0 hq=>exact .rows0 _ _ _ h0 (hn hq)
  | rows sz n f b cells elem fr g hq hw hf hcr hl hv=>exact .rows _ _ _ b cells elem fr g (hb _ _ hq) hw hf (fun i hi=>(hcr i hi).plain (hp i hi)) hl hv
def UA (σ:List Nat) (bs:List (Nat×Blk)):List (Nat×Blk):=match σ with
 | []=>bs
 | x::r=>UA r (Xe bs x)
theorem Z0S:∀{σ:List Nat} {bs:List (Nat×Blk)} {x:Nat} {B:Blk},ZF (UA σ bs) x=some B→ZF bs x=some B∧x∉σ
 | [],bs,x,B,h=>⟨h,by simp⟩
 | y::r,bs,x,B,h=>by
  obtain ⟨h1,h2⟩:=Z0S (σ:=r) h
  by_cases hn:y=x
  ·subst hn;rw [UN] at h1;cases h1
  ·rw [Wp _ _ _ hn] at h1
   exact ⟨h1,by simp [h2,Ne.symm hn]⟩
theorem Spec.calls {P:Program} {f:FuncId} {args₀ args:List AV} {σ:List Nat} {Bs:List Blk} {o o':Out} {nx:Nat} {bs bs':List (Nat×Blk)} {h:Z6} {K:KO} (hc:Spec P f args₀ ⟨σ.length,Wc 0 σ Bs⟩ o nx bs)
  (hlen:Bs.length=σ.length) (hm:∀x,x∈σ→∃B,h.get x=some B) (hd:Z3D σ=true)
  (hx:∀(i x:Nat) (B:Blk),Xf σ i=some x→Bs[i]? =some B→∃B',h.get x=some B'∧∀(E:Env) (w:World),Emb E h w→Yr E w x B'→Yr (E.borL σ w true) w i B)
  (ha:∀(E:Env) (w:World) (r:List Value),Emb E h w→ZE E args r→ZE (E.borL σ w true) args₀ r)
  (hnx:σ.length≤nx) (ho:MvO σ h.next o o') (hb:Z7g σ h.next bs bs') (hK:K o' ⟨h.next+(nx-σ.length),U5 bs' (UA σ h.bs)⟩):Zn P f args h K:=by
 intro E w rs he hr
 let E0:=E.borL σ w true
 have hsub:∀i x,Xf σ i=some x→E0.blk i=E.blk x:=fun i x hi=>by
  show (match Xf σ i with|some x=>E.blk x|none=>none)=_
  rw [hi]
 have hnone:∀i,σ.length≤i→E0.blk i=none:=fun i hi=>by
  show (match Xf σ i with|some x=>E.blk x|none=>none)=_
  rw [Z86 hi]
 have hσlt:∀x,x∈σ→x<h.next:=fun x hx=>let ⟨B,hB⟩:=hm x hx;he.lt x B hB
 have hsb:∀y B,ZF (Wc 0 σ Bs) y=some B→∃x,Xf σ y=some x∧Bs[y]? =some B:=fun y B hy=>by
  obtain ⟨i,x,rfl,h1,h2⟩:=XM σ Bs 0 y B hy
  rw [Nat.zero_add]
  exact ⟨x,by rw [Z2y];exact h1,h2⟩
 have hinj:∀y z x,Xf σ y=some x→Xf σ z=some x→y=z:=fun y z x h1 h2=>by
  have a:=U7 hd y x h1
  have b:=U7 hd z x h2
  rw [a] at b
  cases b
  rfl
 have hemb:Emb E0 ⟨σ.length,Wc 0 σ Bs⟩ w:=by
  refine ⟨hnone, ?_, ?_, ?_,fun _ _ h=>h.1, ?_⟩
  ·intro y B hy
   obtain ⟨x,h1,_⟩:=hsb y B hy
   exact Z85 h1
  ·intro y B hy
   obtain ⟨x,h1,h2⟩:=hsb y B hy
   obtain ⟨B',hB',hq⟩:=hx y x B h1 h2
   exact hq E w he (he.own x B' hB')
  ·intro y z B C b N N' hy hz hby hbz
   obtain ⟨x,h1,h2⟩:=hsb y B hy
   obtain ⟨x',h3,h4⟩:=hsb z C hz
   rw [hsub y x h1] at hby
   rw [hsub z x' h3] at hbz
   obtain ⟨B',hB'⟩:=hm x (XE h1)
   obtain ⟨C',hC'⟩:=hm x' (XE h3)
   have:=he.disj x x' B' C' b N N' hB' hC' hby hbz
   subst this
   exact hinj y z x h1 h3
  ·intro a c y B N hi hy hbb
   obtain ⟨x,h1,_⟩:=hsb y B hy
   rw [hsub y x h1] at hbb
   exact hi.2 x (XE h1) N hbb
 refine (hc E0 w rs hemb (ha E w rs he hr)).mono ?_
 rintro e w' ⟨E₁,hev,hor⟩
 let E':Env:=⟨fun x=>match XD σ x with
  | some i=>E₁.blk i
  | none=>if x<h.next then E.blk x else E₁.blk (x-h.next+σ.length),E.imm⟩
 have hρ:∀y,E'.blk (mvN σ h.next y)=E₁.blk y:=fun y=>by
  rcases Nat.lt_or_ge y σ.length with hlt|hge
  ·obtain ⟨x,hx'⟩:=Qo hlt
   rw [Z7e hx']
   show (match XD σ x with|some i=>_|none=>_)=_
   rw [U7 hd y x hx']
  ·rw [Z7f hge]
   have hn:XD σ (h.next+(y-σ.length))=none:=by
    cases hq:XD σ (h.next+(y-σ.length)) with
    | none=>rfl
    | some i=>have:=hσlt _ (XE (Vj hq));omega
   show (match XD σ _ with|some i=>_|none=>_)=_
   rw [hn]
   show (if _ then _ else _)=_
   rw [if_neg (by omega)]
   congr 1
   omega
 have hold:∀x,x<h.next→XD σ x=none→E'.blk x=E.blk x:=fun x hx hn=>by
  show (match XD σ x with|some i=>_|none=>_)=_
  rw [hn]
  exact if_pos hx
 have hfresh:∀x,E.blk x≠none→x<h.next:=fun x hx=>by
  rcases Nat.lt_or_ge x h.next with hl|hg
  ·exact hl
  ·exact absurd (he.fresh x hg) hx
 have hle:E.le E':=⟨fun x q hq=>by
  cases hi:XD σ x with
  | some i=>
   show (match XD σ x with|some i=>_|none=>_)=_
   rw [hi]
   exact hev.le.blk i q ((hsub i x (Vj hi)).trans hq)
  | none=>rw [hold x (hfresh x (by rw [hq];simp)) hi];exact hq,fun _ _ h=>h⟩
 have hown0:∀b,Wq E0 ⟨σ.length,Wc 0 σ Bs⟩ b→∃x N,x∈σ∧E.blk x=some (b,N):=fun b ⟨y,B,N,hy,hbb⟩=>by
  obtain ⟨x,h1,_⟩:=hsb y B hy
  exact ⟨x,N,XE h1,by rw [←hsub y x h1];exact hbb⟩
 have hkeep:∀b,b<w.heap.size→(∀x N,x∈σ→E.blk x=some (b,N)→False)→w'.heap[b]? =w.heap[b]?:=fun b hb hn=>hev.keep b hb (fun ho=>let ⟨x,N,h1,h2⟩:=hown0 b ho;hn x N h1 h2)
 have hget:∀x B',Z6.get ⟨h.next+(nx-σ.length),U5 bs' (UA σ h.bs)⟩ x=some B'→
   (∃y B,mvN σ h.next y=x∧ZF bs y=some B∧MvB σ h.next B B')∨(x<h.next∧x∉σ∧h.get x=some B'):=fun x B' hx=>by
  simp only [Z6.get,Z3w] at hx
  split at hx
  ·rename_i B0 hq
   cases hx
   exact .inl (hb.get x _ hq)
  ·obtain ⟨h1,h2⟩:=Z0S hx
   exact .inr ⟨he.lt x B' h1,h2,h1⟩
 have hni:∀x,x∉σ→XD σ x=none:=fun x hx=>by
  cases hq:XD σ x with
  | none=>rfl
  | some i=>exact absurd (XE (Vj hq)) hx
 have hmix:∀y B z C b N N',ZF bs y=some B→E₁.blk y=some (b,N)→z∉σ→h.get z=some C→E.blk z=some (b,N')→False:=fun y B z C b N N' hy hby hz hz' hbz=>by
  rcases hev.own b ⟨y,B,N,hy,hby⟩ with ho|hs
  ·obtain ⟨x,M,h1,h2⟩:=hown0 b ho
   obtain ⟨D,hD⟩:=hm x h1
   have:=he.disj x z D C b M N' hD hz' h2 hbz
   subst this
   exact hz h1
  ·have:=(he.own z C hz').lt hbz
   omega
 have himm0:∀a c,E.imm a c→E0.imm a c:=fun a c hi=>⟨he.imm a c hi,fun x hx N hbb=>let ⟨B,hB⟩:=hm x hx;he.sep a c x B N hi hB hbb⟩
 have hemb':Emb E' ⟨h.next+(nx-σ.length),U5 bs' (UA σ h.bs)⟩ w':=by
  refine ⟨?_, ?_, ?_, ?_, ?_, ?_⟩
  ·intro x hx
   have hx':h.next+(nx-σ.length)≤x:=hx
   have hn:XD σ x=none:=hni x (fun hq=>by have:=hσlt x hq;omega)
   show (match XD σ x with|some i=>_|none=>_)=_
   rw [hn]
   show (if _ then _ else _)=_
   rw [if_neg (by omega)]
   exact hev.emb.fresh _ (by show nx≤_;omega)
  ·intro x B hx
   show x<h.next+(nx-σ.length)
   rcases hget x B hx with ⟨y,B0,rfl,hy,_⟩|⟨hlt,_,_⟩
   ·have hyn:y<nx:=hev.emb.lt y B0 hy
    rcases Nat.lt_or_ge y σ.length with hlt|hge
    ·obtain ⟨x,hx'⟩:=Qo hlt
     rw [Z7e hx']
     have:=hσlt x (XE hx')
     omega
    ·rw [Z7f hge]
     omega
   ·omega
  ·intro x B hx
   rcases hget x B hx with ⟨y,B0,rfl,hy,hmv⟩|⟨hlt,hnσ,hx'⟩
   ·exact hmv.move (E:=E₁) (fun x r hq=>by rw [hρ];exact hq) (fun hq=>by rw [hρ];exact hq) (hev.emb.own y B0 hy)
   ·have h1:=(he.own x B hx').mono hle (fun hn=>by rw [hold x hlt (hni x hnσ)];exact hn)
    refine h1.congr fun b N hbb=> ?_
    rw [hold x hlt (hni x hnσ)] at hbb
    refine hkeep b ((he.own x B hx').lt hbb) fun z M hz hbz=> ?_
    obtain ⟨D,hD⟩:=hm z hz
    have:=he.disj x z B D b N M hx' hD hbb hbz
    subst this
    exact hnσ hz
  ·intro x z B C b N N' hx hz hbx hbz
   rcases hget x B hx with ⟨y,B0,rfl,hy,hmv⟩|⟨hlt,hnσ,hx'⟩<;>rcases hget z C hz with ⟨y',C0,rfl,hy',hmv'⟩|⟨hlt',hnσ',hz'⟩
   ·rw [hρ] at hbx hbz
    rw [hev.emb.disj y y' B0 C0 b N N' hy hy' hbx hbz]
   ·rw [hρ] at hbx
    rw [hold z hlt' (hni z hnσ')] at hbz
    exact (hmix y B0 z C b N N' hy hbx hnσ' hz' hbz).elim
   ·rw [hρ] at hbz
    rw [hold x hlt (hni x hnσ)] at hbx
    exact (hmix y' C0 x B b N' N hy' hbz hnσ hx' hbx).elim
   ·rw [hold x hlt (hni x hnσ)] at hbx
    rw [hold z hlt' (hni z hnσ')] at hbz
    exact he.disj x z B C b N N' hx' hz' hbx hbz
  ·intro a c hi
   exact hev.emb.imm a c (hev.le.imm a c (himm0 a c hi))
  ·intro a c x B N hi hx hbx
   rcases hget x B hx with ⟨y,B0,rfl,hy,hmv⟩|⟨hlt,hnσ,hx'⟩
   ·rw [hρ] at hbx
    exact hev.emb.sep a c y B0 N (hev.le.imm a c (himm0 a c hi)) hy hbx
   ·rw [hold x hlt (hni x hnσ)] at hbx
    exact he.sep a c x B N hi hx' hbx
 refine ⟨E',o',_,hK,⟨hle,hemb',hev.size,hev.os,hev.tape,hev.output,fun b hb' hno=>hkeep b hb' (fun x N hx hbx=> ?_), ?_,fun _ _ h=>h⟩, ?_⟩
 ·obtain ⟨B,hB⟩:=hm x hx
  exact hno ⟨x,B,N,hB,hbx⟩
 ·rintro b ⟨x,B,N,hx,hbx⟩
  rcases hget x B hx with ⟨y,B0,rfl,hy,hmv⟩|⟨hlt,hnσ,hx'⟩
  ·rw [hρ] at hbx
   rcases hev.own b ⟨y,B0,N,hy,hbx⟩ with ho|hs
   ·obtain ⟨z,M,h1,h2⟩:=hown0 b ho
    obtain ⟨D,hD⟩:=hm z h1
    exact .inl ⟨z,D,M,hD,h2⟩
   ·exact .inr hs
  ·rw [hold x hlt (hni x hnσ)] at hbx
   exact .inl ⟨x,B,N,hx',hbx⟩
 ·cases ho with
  | ret v v' hv=>cases hor with
   | ret v r hr=>exact .ret _ _ (Z2z (fun x q hq=>by rw [hρ];exact hq) _ _ _ hv hr)
  | panic v v' hv=>cases hor with
   | panic v r hr=>exact .panic _ _ (Z2z (fun x q hq=>by rw [hρ];exact hq) _ _ _ hv hr)
theorem Spec.fsumm {P:Program} {f:FuncId} {args:List AV} {σ:List Nat} {h:Z6} {d:Nat} {K0:List Blk→List AV→Prop} {K:KO} (hl:frA σ h d args K0)
  (hK:∀Bs a₀,Bs.length=σ.length→K0 Bs a₀→∃o nx bs o' bs',Spec P f a₀ ⟨σ.length,Wc 0 σ Bs⟩ o nx bs∧σ.length≤nx∧MvO σ h.next o o'∧Z7g σ h.next bs bs'∧K o' ⟨h.next+(nx-σ.length),U5 bs' (UA σ h.bs)⟩):Zn P f args h K:=by
 obtain ⟨hm,hd,Bs,a,hK0,hlen,hx,ha⟩:=Zfc hl
 obtain ⟨o,nx,bs,o',bs',h1,h2,h3,h4,h5⟩:=hK Bs a hlen hK0
 exact Spec.calls h1 hlen hm hd hx ha h2 h3 h4 h5
end Go.Tk
end
