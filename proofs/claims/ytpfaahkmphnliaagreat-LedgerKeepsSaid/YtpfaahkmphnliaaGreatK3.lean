/- K: part 3 of an engine (a symbolic evaluator, proved against the model) and of the walk by it. -/
import Derived.Test.YtpfaahkmphnliaaGreatK2
import Derived.Test.YtpfaahkmphnliaaGreatProg
set_option linter.unusedVariables false
set_option linter.unusedSimpArgs false
set_option maxRecDepth 100000
set_option maxHeartbeats 0
section
namespace Go.Tk
open IntKind (i64 u8 u32 u64 wrap)
theorem Z6p {qm:Bool} {all:List Oper} (hed:∀i o e,all[i]? =some o->e∈o.after.toList->Region.binds .any e=true->e.on<i):
  ∀{r:List Oper} {k:Nat} {acc:List Nat},(∀j,r[j]? =all[k+j]?)->(∀j p,(QH acc j).testBit p=true->p<j)->acc.length=k->
   ∀it∈Y1 qm k acc r,∀p,it.m.testBit p=true->p<it.i
 | [],_,_,_,_,_,it,h,_,_=>by simp [Y1] at h
 | o::r,k,acc,hr,hacc,hk,it,h,p,hp=>by
  have h0:all[k]? =some o:=by have:=hr 0;simpa using this.symm
  have hself:∀p,(Qo acc o.after.toList 0).testBit p=true->p<k:=fun p hp=>by
   rcases UZ hp with h1|⟨e,he,hb,h2⟩
   ·simp at h1
   ·have hlt:=hed k o e h0 he hb
    rcases h2 with rfl|h2
    ·exact hlt
    ·have:=hacc e.on p h2;omega
  simp only [Y1,List.mem_cons] at h
  rcases h with rfl|h
  ·exact hself p hp
  ·refine Z6p hed (k:=k+1) (acc:=acc++[Qo acc o.after.toList 0]) (fun j=> ?_) ?_ (by simp [hk]) it h p hp
   ·have:=hr (j+1)
    rw [show k+1+j=k+(j+1) from by omega,<-this]
    simp
   ·intro j p hbit
    rw [Z0T] at hbit
    split at hbit
    ·rename_i hjk
     have:=hself p hbit
     omega
    ·exact hacc j p hbit
theorem Q1 {m:Nat} {q:It} {v:AV}:∀{pend:List (It×AV)},(q,v)∈Vx m pend↔(q,v)∈pend/\m.testBit q.i=false
 | []=>by simp [Vx]
 | (it,u)::r=>by
  unfold Vx
  split
  ·rename_i h
   rw [Q1]
   constructor
   ·rintro ⟨h1,h2⟩;exact ⟨List.mem_cons_of_mem _ h1,h2⟩
   ·rintro ⟨h1,h2⟩
    rcases List.mem_cons.1 h1 with h3|h3
    ·cases h3;rw [h] at h2;cases h2
    ·exact ⟨h3,h2⟩
  ·rename_i h
   rw [List.mem_cons,Q1,List.mem_cons]
   constructor
   ·rintro (h1|⟨h1,h2⟩)
    ·cases h1;exact ⟨.inl rfl,h⟩
    ·exact ⟨.inr h1,h2⟩
   ·rintro ⟨h1|h1,h2⟩
    ·exact .inl h1
    ·exact .inr ⟨h1,h2⟩
theorem X8 {i:Nat} {q:It}:∀{l:List It},q∈Vw i l↔q∈l/\q.i≠i
 | []=>by simp [Vw]
 | it::r=>by
  unfold Vw
  split
  ·rename_i h
   have e:=Nat.eq_of_beq_eq_true h
   rw [X8,List.mem_cons]
   constructor
   ·rintro ⟨h1,h2⟩;exact ⟨.inr h1,h2⟩
   ·rintro ⟨h1|h1,h2⟩
    ·subst h1;exact absurd e h2
    ·exact ⟨h1,h2⟩
  ·rename_i h
   have e:it.i≠i:=fun e=>by rw [e,Nat.beq_refl] at h;cases h
   rw [List.mem_cons,X8,List.mem_cons]
   constructor
   ·rintro (h1|⟨h1,h2⟩)
    ·subst h1;exact ⟨.inl rfl,e⟩
    ·exact ⟨.inr h1,h2⟩
   ·rintro ⟨h1|h1,h2⟩
    ·exact .inl h1
    ·exact .inr ⟨h1,h2⟩
theorem Z0W {i:Nat}:∀{l:List It},(Vw i l).Sublist l
 | []=>List.Sublist.refl _
 | it::r=>by
  unfold Vw
  split
  ·exact List.Sublist.cons _ Z0W
  ·exact List.Sublist.cons_cons _ Z0W
theorem QL {x:Nat} {v:AV} {t:Yd}:∀{its:List It},ZY (Z2W t its) x=some v->ZY t x=some v/\∀it∈its,it.o.dst≠some x
 | [],h=>⟨h,by simp⟩
 | it::r,h=>by
  unfold Z2W at h
  split at h
  ·rename_i y hy
   by_cases hxy:y=x
   ·subst hxy;rw [Qf] at h;cases h
   ·rw [WI _ _ _ hxy] at h
    have:=QL h
    refine ⟨this.1,fun q hq=> ?_⟩
    rcases List.mem_cons.1 hq with rfl|hq
    ·rw [hy];exact fun e=>hxy (by injection e)
    ·exact this.2 q hq
  ·rename_i hy
   have:=QL h
   refine ⟨this.1,fun q hq=> ?_⟩
   rcases List.mem_cons.1 hq with rfl|hq
   ·rw [hy];simp
   ·exact this.2 q hq
theorem Wx {x:Nat} {v:AV} {t:Yd}:∀{its:List It},ZY (WQ t its) x=some v->ZY t x=some v/\∀it∈its,(Yg it.o.op).isSome=true->it.o.dst≠some x
 | [],h=>⟨h,by simp⟩
 | it::r,h=>by
  unfold WQ at h
  split at h
  ·rename_i T y hT hy
   by_cases hxy:y=x
   ·subst hxy;rw [Qf] at h;cases h
   ·rw [WI _ _ _ hxy] at h
    have:=Wx h
    refine ⟨this.1,fun q hq hl=> ?_⟩
    rcases List.mem_cons.1 hq with rfl|hq
    ·rw [hy];exact fun e=>hxy (by injection e)
    ·exact this.2 q hq hl
  ·rename_i hno
   have:=Wx h
   refine ⟨this.1,fun q hq hl hd=> ?_⟩
   rcases List.mem_cons.1 hq with rfl|hq
   ·obtain ⟨T,hT⟩:=Option.isSome_iff_exists.1 hl
    exact hno T x hT hd
   ·exact this.2 q hq hl hd
theorem Qp:∀{l:List It},WP l=none->∀q∈l,XX q=false
 | [],_,q,hq=>by simp at hq
 | it::r,h,q,hq=>by
  unfold WP at h
  split at h
  ·cases h
  ·rename_i he
   rcases List.mem_cons.1 hq with rfl|hq
   ·exact he
   ·exact Qp h q hq
theorem Qq:∀{l:List It} {e:It},WP l=some e->e∈l/\XX e=true
 | [],e,h=>by simp [WP] at h
 | it::r,e,h=>by
  unfold WP at h
  split at h
  ·rename_i he;cases h;exact ⟨List.mem_cons_self ..,he⟩
  ·have:=Qq h
   exact ⟨List.mem_cons_of_mem _ this.1,this.2⟩
section
variable {P:Program} {all:List Oper} {its:List It} {E0:Env} {h0:Za} {w0:World} {L:Nat->Prop} {bl:Nat->Nat} {rem rem':List It} {D:Nat} {pend pend':List (It×AV)} {s s2:St} {E:Env} {a:Act} {w:World}
theorem Inv.doEff (hst:Stat P all its) (I:Inv P all its E0 h0 w0 L bl rem D pend s E a w) {e:It} (he:e∈rem) (heff:XX e=true) (hD:∀p,e.m.testBit p=true->D.testBit p=true) (hme:∀p,e.m.testBit p=true->L p)
  {s3:St} {E':Env} {w':World} {ds:List Deferred} {v:AV} {r:Value} (hev:Evo E s.h w E' s3.h w') (hev0:Evo E0 h0 w0 E' s3.h w') (hds:VT E' s3.d ds) (hv:Zk E' v r)
  (e2:s3.n=s.n) (e4:∀x,e.o.dst=some x->ZY s3.t x=some v/\x<s.n) (e5:∀x,e.o.dst≠some x->ZY s3.t x=ZY s.t x)
  (hre:∀q v,(q,v)∈Vx e.m pend->Z0U P q s.t s.h v->(∀x∈opT q.o.op,ZY s3.t x=ZY s.t x)->Z0U P q s3.t s3.h v):
  Inv P all its E0 h0 w0 (fun j=>L j\/j=e.i) bl (Vw e.i rem) (Nat.lor D (2^e.i)) (Vx e.m pend) s3 E' (({ a with defers:=ds}:Act).put e.o.dst r) w':=by
 have hits:=I.sub e he
 have hne:∀q∈its,q≠e->q.i≠e.i:=fun q hq' hn' h=>hn' (hst.uniq q hq' e hits h)
 have hback:∀q∈its,q≠e->(L q.i\/q.i=e.i)->L q.i:=fun q hq' hn' h=>h.resolve_right (hne q hq' hn')
 have hrm:∀q∈its,q∉Vw e.i rem->q=e\/q∉rem:=fun q hq hn=>by
  by_cases h:q=e
  ·exact .inl h
  ·exact .inr fun hr=>hn (X8.2 ⟨hr,hne q hq h⟩)
 have hfwd:∀q,q∉rem->q∉Vw e.i rem:=fun q hn h=>hn (X8.1 h).1
 refine ⟨fun q hq=>I.sub q (X8.1 hq).1,I.nodup.sublist Z0W,fun q hq hb=> ?_,fun q hq hnl hn p hp hb=> ?_,fun q hq hqe=> ?_,fun q hq hl hn=> ?_,fun q hq hqq hL=> ?_,fun q hq hqq hn hL=> ?_,
  by rw [Z2Z,e2];exact I.size,fun x u hx hc=> ?_,by rw [put_defers];exact hds,hev0,fun q hq hl x hx=> ?_,fun q hq hL T hT=> ?_,fun q hq q' hq' hL hL' hl hl' hb=> ?_,fun q hq x hx hn=> ?_,fun q hq hn=> ?_,by rw [e2];exact I.ln⟩
 ·rcases Z5q hb with h|h
  ·exact hfwd q (I.dbit q hq h)
  ·exact fun hr=>(X8.1 hr).2 h
 ·rcases hrm q hq hn with rfl|hn'
  ·exact hfwd p (I.dbit p hp (hD _ hb))
  ·exact hfwd p (I.born q hq hnl hn' p hp hb)
 ·by_cases hqi:q=e
  ·subst hqi
   exact ⟨fun _ h=>(X8.1 h).2 rfl,fun _=>.inr rfl⟩
  ·constructor
   ·intro h
    exact hfwd q ((I.eff q hq hqe).1 (hback q hq hqi h))
   ·intro h
    exact .inl ((I.eff q hq hqe).2 ((hrm q hq h).resolve_left hqi))
 ·have hqi:q≠e:=fun h=>by subst h;rw [Xk heff] at hl;cases hl
  exact .inl (I.late q hq hl ((hrm q hq hn).resolve_left hqi))
 ·have hqi:q≠e:=fun h=>by subst h;rw [YK heff] at hqq;cases hqq
  exact hfwd q (I.quiet q hq hqq (hback q hq hqi hL))
 ·have hqi:q≠e:=fun h=>by subst h;rw [YK heff] at hqq;cases hqq
  have hn':=(hrm q hq hn).resolve_left hqi
  have hL':¬L q.i:=fun h=>hL (.inl h)
  obtain ⟨u,h1,h2⟩:=I.fact q hq hqq hn' hL'
  have hsame:∀x∈VV all q.o,ZY s3.t x=ZY s.t x:=fun x hx=>e5 x fun hd=>by
   rcases hst.rd e hits q hq (fun h=>hqi h.symm) x hd hx with h|⟨h3,_⟩
   ·exact I.born q hq (Yh hqq) hn' e hits h he
   ·exact hL' (hme _ h3)
  refine ⟨u,fun x hx=> ?_, ?_⟩
  ·rw [e5 x fun hd=>hst.dst e hits q hq (fun h=>hqi h.symm) x hd hx]
   exact h1 x hx
  ·rw [V8 fun x hx=>hsame x (List.mem_append_left _ hx)]
   rcases h2 with ⟨h2,h3,h4⟩|h
   ·have hmem:(q,u)∈Vx e.m pend:=Q1.2 ⟨h3,by
     cases hb:e.m.testBit q.i with
     | false=>rfl
     | true=>exact absurd (hme _ hb) hL'⟩
    exact .inl ⟨h2,hmem,hre q u hmem h4 fun x hx=>hsame x (List.mem_append_right _ hx)⟩
   ·exact .inr h
 ·by_cases hdx:e.o.dst=some x
  ·rw [(e4 x hdx).1] at hx
   cases hx
   rw [hdx,Z2Y (by show x<a.tmps.size;rw [I.size];exact (e4 x hdx).2)]
   exact hv
  ·rw [WE hdx]
   rw [e5 x hdx] at hx
   refine (I.tmps x u hx fun q hq hdq hqq hn=> ?_).mono hev.le
   have hqi:q≠e:=fun h=>by subst h;exact hdx hdq
   exact hback q hq hqi (hc q hq hdq hqq (hfwd q hn))
 ·have hq1:=X8.1 hq
  have hqi:q≠e:=fun h=>by subst h;exact hq1.2 rfl
  rw [e5 x fun hd=>hst.dst e hits q (I.sub q hq1.1) (fun h=>hqi h.symm) x hd hx]
  exact I.lt q hq1.1 hl x hx
 ·have hq1:=X8.1 hq
  have hqi:q≠e:=fun h=>by subst h;exact hq1.2 rfl
  obtain ⟨y,y1,y2,y3,y4,y5,y6,y7⟩:=I.adopt q hq1.1 (hback q (I.sub q hq1.1) hqi hL) T hT
  refine ⟨y,y1,fun x hx=> ?_,(hev.keep _ y7 y4).trans y3,fun ho=> ?_,fun ad c hi=>y5 ad c (hev.imm ad c hi),y6,Nat.lt_of_lt_of_le y7 hev.size⟩
  ·rw [WE (hst.dst q (I.sub q hq1.1) e hits hqi x hx)]
   exact y2 x hx
  ·rcases hev.own _ ho with h|h
   ·exact y4 h
   ·omega
 ·have hq1:=X8.1 hq
  have hq2:=X8.1 hq'
  have hqi:q≠e:=fun h=>by subst h;exact hq1.2 rfl
  have hqi':q'≠e:=fun h=>by subst h;exact hq2.2 rfl
  exact I.inj q hq1.1 q' hq2.1 (hback q (I.sub q hq1.1) hqi hL) (hback q' (I.sub q' hq2.1) hqi' hL') hl hl' hb
 ·rw [e2]
  rcases hrm q hq hn with rfl|hn'
  ·exact (e4 x hx).2
  ·exact I.dst q hq x hx hn'
 ·rcases hrm q hq hn with rfl|hn'
  ·exact Z30 _ _
  ·exact Z31 (I.dset q hq hn')
end
end Go.Tk
end
section
namespace Go.Tk
open IntKind (i64 u8 u32 u64 wrap)
section
variable {P:Program} {all:List Oper} {its:List It} {E0:Env} {h0:Za} {w0:World} {L:Nat->Prop} {bl:Nat->Nat} {rem:List It} {D:Nat} {pend:List (It×AV)} {s:St} {E:Env} {a:Act} {w:World} {cx:Ctx} {X:KE}
theorem finish (hst:Stat P all its) (I:Inv P all its E0 h0 w0 L bl rem D pend s E a w) (hall:∀j,L j) {next:List It->Nat->List (It×AV)->St->KE->Prop} (h:QJ cx P all its next rem D pend s X):
  QF E0 h0 w0 X .normal a w:=by
 unfold QJ at h
 split at h
 ·exact h.elim
 ·split at h
  ·obtain ⟨rem',D',s',E',hx,I',_,_,_⟩:=Z6o (kept:=[]) hst (fun it _ _ _=>hall it.i) (fun q v _=>.inl (hall q.i)) rem D s E h I (by simp)
   exact ⟨E',.normal,s',hx,I'.evo,⟨I'.evo.emb,⟨I'.size,fun x v hv=>I'.tmps x v hv fun it _ _ _ _=>hall it.i⟩,I'.defs⟩,.normal⟩
  ·rename_i e he
   have h1:=Qq he
   have hits:=I.sub e h1.1
   exact absurd h1.1 ((I.eff e hits h1.2).1 (hall e.i))
theorem ZaR {o:Oper} {T:TypeId} (ho:o.op=.alloc T) {z:Value} (hz:∀w,(zeroValue T).run P w=.ok z w) (ρ:Operand->Value) (w:World):
  (execOp ρ o).run P w=.ok (.value (.pointer (some ⟨w.heap.size,0,none⟩))) { w with heap:=w.heap.push (.cells z.cells T (0,0))}:=by
 simp [execOp,ho,Instr.alloc,hz,newVar,newRow]
theorem Zci {o:Op} {T:TypeId} (h:Yg o=some T):o=.alloc T:=by
 cases o<;>simp_all [Yg]
theorem ZaS {qm:Bool} (hcx:cx.Ok P) {ro:Option Nat} (hro:cx.inR=none->ro=none) (hst:Stat P all (Y1 qm 0 [] all)) {n:Nat}:
  ∀(fuel:Nat) (listed:Array Bool) (l:List Nat) (ns:Nat) (bl:Nat->Nat) (rem:List It) (D:Nat) (pend:List (It×AV)) (s:St) (E:Env) (a:Act) (w:World),
   l.length<=fuel->(∀j,listed.getD j true=false->j∈l)->listed.size=all.length->
   (∀i o e,all[i]? =some o->listed.getD i true=true->e∈o.after.toList->Region.binds .any e=true->listed.getD e.on true=true)->
   Inv P all (Y1 qm 0 [] all) E0 h0 w0 (fun j=>listed.getD j true=true) bl rem D pend s E a w->
   QJ cx P all (Y1 qm 0 [] all) (Z0S cx P all (Y1 qm 0 [] all) ns) rem D pend s X->
   wpAnyIn (Fr ro) n P .any all.toArray (QF E0 h0 w0 X) fuel listed a w:=by
 have hlt:∀it∈Y1 qm 0 [] all,∀p,it.m.testBit p=true->p<it.i:=by
  refine Z6p (all:=all) (fun i o e ho he hb=> ?_) (fun j=>by simp) (fun j p h=>by simp [QH] at h) rfl
  have hi:i<all.length:=by
   rcases Nat.lt_or_ge i all.length with h|h
   ·exact h
   ·rw [List.getElem?_eq_none h] at ho;cases ho
  obtain ⟨it,hit,rfl⟩:=hst.ex i hi
  have:=hst.mem it hit
  rw [this] at ho
  cases ho
  exact hst.edges it hit e he hb
 -- all that may come is listed: all is listed
 have hcomplete:∀listed:Array Bool,listed.size=all.length->Region.ready .any all.toArray listed=[]->∀j,listed.getD j true=true:=fun listed hsz hr j=>by
  induction j using Nat.strongRecOn with
  | _ j ih=>
   cases hj:listed.getD j true with
   | true=>rfl
   | false=>
    have hjl:j<all.length:=by
     rw [<-hsz]
     rcases Nat.lt_or_ge j listed.size with h|h
     ·exact h
     ·rw [Array.getD_eq_getD_getElem?,Array.getElem?_eq_none h] at hj;cases hj
    obtain ⟨it,hit,rfl⟩:=hst.ex j hjl
    have hm:=hst.mem it hit
    have:it.i∈Region.ready .any all.toArray listed:=mem_ready.2 ⟨hj,it.o,by simpa using hm,fun e he hb=>by
     have h1:=hst.edges it hit e (by simpa using he) hb
     have h2:=ih e.on h1
     have h3:e.on<listed.size:=by omega
     rw [Array.getD_eq_getD_getElem?,Array.getElem?_eq_getElem h3] at h2⊢
     simpa using h2⟩
    rw [hr] at this
    cases this
 intro fuel
 induction fuel with
 | zero=>
  intro listed l ns bl rem D pend s E a w hl hcov hsz hdown I h
  have hl0:l=[]:=List.length_eq_zero_iff.1 (Nat.le_zero.1 hl)
  have hall:∀j,listed.getD j true=true:=fun j=>by
   cases hj:listed.getD j true with
   | true=>rfl
   | false=>have:=hcov j hj;rw [hl0] at this;cases this
  refine ⟨?_,finish hst I hall h⟩
  cases hr:Region.ready .any all.toArray listed with
  | nil=>rfl
  | cons x xs=>
   have:x∈Region.ready .any all.toArray listed:=by rw [hr];exact List.mem_cons_self ..
   have:=(mem_ready.1 this).1
   rw [hall x] at this;cases this
 | succ fuel ih=>
  intro listed l ns bl rem D pend s E a w hl hcov hsz hdown I h
  refine ⟨fun hr=>finish hst I (hcomplete listed hsz hr) h,fun i hi=> ?_⟩
  obtain ⟨hun,o,ho,hpre⟩:=mem_ready.1 hi
  have ho':all[i]? =some o:=by simpa using ho
  have hil:i<all.length:=by
   rcases Nat.lt_or_ge i all.length with h|h
   ·exact h
   ·rw [List.getElem?_eq_none h] at ho';cases ho'
  obtain ⟨it,hit,hii⟩:=hst.ex i hil
  subst hii
  have hoi:=hst.mem it hit
  rw [ho'] at hoi
  cases hoi
  -- what is listed then
  have hL':(fun j=>(listed.setIfInBounds it.i true).getD j true=true)=(fun j=>listed.getD j true=true\/j=it.i):=by
   funext j
   apply propext
   by_cases hj:it.i=j
   ·subst hj
    have:it.i<listed.size:=by omega
    simp [Array.getD_eq_getD_getElem?,this]
   ·have hj':¬j=it.i:=fun e=>hj e.symm
    simp [Array.getD_eq_getD_getElem?,hj,hj']
  have hpreL:∀e∈it.o.after.toList,Region.binds .any e=true->listed.getD e.on true=true:=fun e he hb=>by
   have h1:=hpre e (by simpa using he) hb
   rw [Array.getD_eq_getD_getElem?] at h1⊢
   cases hq:listed[e.on]? with
   | none=>rfl
   | some b=>rw [hq] at h1;simpa using h1
  have hdown':∀i o e,all[i]? =some o->(listed.getD i true=true\/i=it.i)->e∈o.after.toList->Region.binds .any e=true->(listed.getD e.on true=true\/e.on=it.i):=fun i o e hio hLi he hb=>by
   rcases hLi with hLi|rfl
   ·exact .inl (hdown i o e hio hLi he hb)
   ·rw [ho'] at hio
    cases hio
    exact .inl (hpreL e he hb)
  have hmaskL:∀q∈Y1 qm 0 [] all,(listed.getD q.i true=true)->∀p,q.m.testBit p=true->listed.getD p true=true:=
   QK (L:=fun j=>listed.getD j true=true) hdown (k:=0) (acc:=[]) rfl (fun j=>by simp) (fun j p hj=>by omega) (fun j _=>by simp [QH])
  have hmask':∀q∈Y1 qm 0 [] all,(listed.getD q.i true=true\/q.i=it.i)->∀p,q.m.testBit p=true->(listed.getD p true=true\/p=it.i):=
   QK (L:=fun j=>listed.getD j true=true\/j=it.i) hdown' (k:=0) (acc:=[]) rfl (fun j=>by simp) (fun j p hj=>by omega) (fun j _=>by simp [QH])
  have hbits:∀p,it.m.testBit p=true->listed.getD p true=true:=fun p hp=>by
   rcases hmask' it hit (.inr rfl) p hp with h1|h1
   ·exact h1
   ·have:=hlt it hit p hp;omega
  -- going on
  have hgo:∀(ns':Nat) (bl':Nat->Nat) (rem':List It) (D':Nat) (pend':List (It×AV)) (s':St) (E':Env) (a':Act) (w':World),
    Inv P all (Y1 qm 0 [] all) E0 h0 w0 (fun j=>listed.getD j true=true\/j=it.i) bl' rem' D' pend' s' E' a' w'->
    QJ cx P all (Y1 qm 0 [] all) (Z0S cx P all (Y1 qm 0 [] all) ns') rem' D' pend' s' X->
    wpAnyIn (Fr ro) n P .any all.toArray (QF E0 h0 w0 X) fuel (listed.setIfInBounds it.i true) a' w':=fun ns' bl' rem' D' pend' s' E' a' w' I' h'=>by
   refine ih (listed.setIfInBounds it.i true) (l.erase it.i) ns' bl' rem' D' pend' s' E' a' w' ?_ ?_ (by simpa using hsz) ?_ (by rw [hL'];exact I') h'
   ·rw [List.length_erase_of_mem (hcov it.i hun)];omega
   ·intro j hj
    have hne:j≠it.i:=fun e=>by
     subst e
     have:=congrFun hL' it.i
     have h2:(listed.setIfInBounds it.i true).getD it.i true=true:=by rw [this];exact .inr rfl
     rw [h2] at hj;cases hj
    have hj':listed.getD j true=false:=by
     cases hq:listed.getD j true with
     | false=>rfl
     | true=>
      have:=congrFun hL' j
      have h2:(listed.setIfInBounds it.i true).getD j true=true:=by rw [this];exact .inl hq
      rw [h2] at hj;cases hj
    exact (List.mem_erase_of_ne hne).2 (hcov j hj')
   ·intro i o e hio hLi he hb
    have e1:=congrFun hL' i
    have e2:=congrFun hL' e.on
    have h1:(listed.getD i true=true\/i=it.i):=by rw [<-e1];exact hLi
    have h2:=hdown' i o e hio h1 he hb
    rw [<-e2] at h2
    exact h2
  have hnext:∀(ns':Nat) (bl':Nat->Nat) (rem':List It) (D':Nat) (pend':List (It×AV)) (s':St) (E':Env) (a':Act) (w':World),
    Inv P all (Y1 qm 0 [] all) E0 h0 w0 (fun j=>listed.getD j true=true\/j=it.i) bl' rem' D' pend' s' E' a' w'->
    Z0S cx P all (Y1 qm 0 [] all) ns' rem' D' pend' s' X->
    wpAnyIn (Fr ro) n P .any all.toArray (QF E0 h0 w0 X) fuel (listed.setIfInBounds it.i true) a' w':=fun ns' bl' rem' D' pend' s' E' a' w' I' h'=>by
   cases ns' with
   | zero=>exact h'.elim
   | succ ns'=>
    obtain ⟨r2,D2,p2,s2,k1,k2⟩:=Z4h hst hmask' rem' [] D' pend' s' h' I'
    exact hgo ns' bl' r2 D2 p2 s2 E' a' w' k2 k1
  unfold wpOpIn
  rw [ho]
  simp only
  rcases kinds it with hq|hef|⟨T,hT⟩
  ·-- quiet
   have hnr:it∉rem:=fun hin=>by
    have h2:=h
    unfold QJ at h2
    split at h2
    ·exact h2
    ·rename_i hchk
     have h3:=(Vt _ _).1 hchk it hin
     simp only [Bool.or_eq_true,Bool.not_eq_true'] at h3
     rcases h3 with h3|h3
     ·rw [hq] at h3;cases h3
     ·have:it.m&&&D=it.m:=by
       apply Nat.eq_of_testBit_eq
       intro p
       rw [Nat.testBit_and]
       cases hp:it.m.testBit p with
       | false=>rfl
       | true=>
        have hpl:=hlt it hit p hp
        obtain ⟨q,hqi,rfl⟩:=hst.ex p (by omega)
        have hLq:=hbits _ hp
        have hqn:q∉rem:=by
         rcases kinds q with h4|h4|⟨T,h4⟩
         ·exact I.quiet q hqi h4 hLq
         ·exact (I.eff q hqi h4).1 hLq
         ·obtain ⟨e,he,h5,h6,h7⟩:=hst.qlate it hit hq q hqi (by rw [h4];rfl) hp
          exact I.born e he (Xk h5) ((I.eff e he h5).1 (hbits _ h7)) q hqi h6
        rw [I.dset q hqi hqn]
        rfl
      have h5:Nat.beq (Nat.land it.m D) it.m=true:=by
       show Nat.beq (it.m&&&D) it.m=true
       rw [this];exact Nat.beq_refl _
      rw [h5] at h3;cases h3
   have hnL:¬(listed.getD it.i true=true):=by rw [hun];simp
   obtain ⟨v,hd,hf⟩:=I.fact it hit hq hnr hnL
   have hqe:XX it=false:=by
    cases he:XX it with
    | false=>rfl
    | true=>rw [YK he] at hq;cases hq
   have hrel:∀x∈VV all it.o,∀u,ZY s.t x=some u->Zk E u (a.tmps.getD x undef):=fun x hx u hu=>I.tmps x u hu fun q hqi hdq hqq hqn=>by
    have hne:q≠it:=fun e=>by subst e;exact hst.self q hqi hqe x hdq hx
    rcases hst.rd q hqi it hit hne x hdq hx with h3|⟨h3,h4⟩
    ·exact hbits _ h3
    ·rcases h4 with h4|⟨_,e,he,h5,h6,h7⟩
     ·rw [YK h4] at hqq;cases hqq
     ·have hLe:=(I.eff e he h5).2 (I.born q hqi (Yh hqq) hqn e he h7)
      exact absurd (hmaskL e he hLe _ h6) hnL
   rcases hf with ⟨hw,_,hsem⟩|⟨hw,rfl⟩
   ·rw [if_pos (Q0 hw fun x hx u hu=>hrel x (List.mem_append_left _ hx) u hu)]
    obtain ⟨r,hr,hv⟩:=hsem E w a (fun _=>I.evo.emb) fun x hx u hu=>hrel x (List.mem_append_right _ hx) u hu
    refine ⟨fun _ _=>trivial, ?_⟩
    rw [show (Fr ro).round=ro from rfl,Yx (fun c e=>by unfold X2 at hq;rw [e] at hq;simp [Z87,Z86] at hq),hr]
    exact hgo ns bl rem D pend s E _ w (I.doQuiet hst hit hq hnr hd hv) h
   ·rw [if_neg (by rw [Q0 hw fun x hx u hu=>hrel x (List.mem_append_left _ hx) u hu];simp)]
    refine ⟨fun _ _=>trivial, ?_⟩
    exact hgo ns bl rem D pend s E _ w (I.doQuiet hst hit hq hnr hd (.tuple [] [] .nil)) h
  ·-- an effect
   have hnL:¬(listed.getD it.i true=true):=by rw [hun];simp
   have hin:it∈rem:=by
    by_cases hin:it∈rem
    ·exact hin
    ·exact absurd ((I.eff it hit hef).2 hin) hnL
   unfold QJ at h
   split at h
   ·exact h.elim
   ·split at h
    ·rename_i hno
     have:=Qp hno it hin
     rw [hef] at this;cases this
    ·rename_i e he
     have hcand:Z4f rem it=true:=by
      unfold Z4f
      rw [hef,Ur fun q hq heq=> ?_]
      ·rfl
      ·cases hb:it.m.testBit q.i with
       | false=>rfl
       | true=>exact absurd hq ((I.eff q (I.sub q hq) heq).1 (hbits _ hb))
     replace h:=QI h hin hcand
     ·skip
      obtain ⟨rem1,D1,s1,E1,h,I1,k1,k2,_⟩:=Z6o (kept:=[]) hst (fun q hq hl hb=>hbits _ hb) (fun q v hqv=>by
        cases hb:it.m.testBit q.i with
        | true=>exact .inl (hbits _ hb)
        | false=>exact .inr (Q1.2 ⟨hqv,hb⟩)) rem D s E h I (by simp)
      have hin1:it∈rem1:=k2 it (by simpa using hin) (Xk hef)
      split at h
      ·exact h.elim
      ·rename_i hland
       have hD:∀p,it.m.testBit p=true->D1.testBit p=true:=fun p hp=>Z0V hland hp
       have hrel:∀x∈VV all it.o,∀u,ZY s1.t x=some u->Zk E1 u (a.tmps.getD x undef):=fun x hx u hu=>I1.tmps x u hu fun q hqi hdq hqq hqn=>by
        have hne:q≠it:=fun e=>by subst e;rw [YK hef] at hqq;cases hqq
        rcases hst.rd q hqi it hit hne x hdq hx with h3|⟨h3,_⟩
        ·exact hbits _ h3
        ·exact absurd hin1 (I1.born q hqi (Yh hqq) hqn it hit h3)
       obtain ⟨s2,g1,g2,g3,g4,g5⟩:=Z1n h
       rcases g5 with ⟨hw,hrun⟩|⟨hw,hskip⟩
       ·rw [if_pos (Q0 hw fun x hx u hu=>hrel x (List.mem_append_left _ hx) u hu)]
        split at hrun
        ·rename_i S0 args0 hp0
         rw [g2] at hrun
         have hcore:=Z6g (d:=s1.d) hcx cx.inR hp0 hrun
         refine Z2T (ZaJ P cx.inR) hcore I1.evo.emb (m:=a.tmps.size) ⟨rfl,fun x u hu=> ?_⟩ I1.defs I1.evo hro ?_ (fun _ _ _ _ _ hx=>hx.elim)
         ·have:=Vs hu
          exact hrel x (List.mem_append_right _ this.2) u (by rw [<-g1 x];exact this.1)
         ·rintro v h' d' E' ds r w' ⟨hk,rfl,rfl⟩ hv hv0 hds hvr
          obtain ⟨s3,hst',j1,j2,j3,j4,j5⟩:=Wa hk
          have j1':=j1.trans g2
          refine hnext ns bl _ _ _ s3 E' _ w' (I1.doEff hst hin1 hef hD hbits (s3:=s3) (by rw [j1'];exact hv) (by rw [j1'];exact hv0) (by rw [j3,g4];exact hds) hvr (j2.trans g3) (fun x hx=>⟨(j4 x hx).1,g3▸(j4 x hx).2⟩) (fun x hx=>(j5 x hx).trans (g1 x)) ?_) hst'
          intro q u hqu hs0 ht0
          rw [j1']
          exact hs0.congr ht0
        rw [g2,g4] at hrun
        refine Z2T hcx hrun I1.evo.emb (m:=a.tmps.size) ⟨rfl,fun x u hu=> ?_⟩ I1.defs I1.evo hro ?_ ?_
        ·have:=Vs hu
         exact hrel x (List.mem_append_right _ this.2) u (by rw [<-g1 x];exact this.1)
        ·intro v h' d' E' ds r w' hk hv hv0 hds hvr
         obtain ⟨s3,k0,j1,j2,j3,j4,j5⟩:=Wa hk
         obtain ⟨hst',hsem⟩:=VW k0
         simp only at j1 j2 j3 j4 j5
         refine hnext ns bl _ _ _ s3 E' _ w' (I1.doEff hst hin1 hef hD hbits (s3:=s3) (by rw [j1];exact hv) (by rw [j1];exact hv0) (by rw [j3];exact hds) hvr (j2.trans g3) (fun x hx=>⟨(j4 x hx).1,g3▸(j4 x hx).2⟩) (fun x hx=>(j5 x hx).trans (g1 x)) ?_) hst'
         intro q u hqu hs0 ht0
         rcases hsem q u hqu with hw0|hs1
         ·exact (hs0.congr ht0).worldless hw0
         ·exact hs1
        ·intro v h' E' r w' hx hv hv0 hvr
         refine ⟨E',.panic v,_,hx,hv0,⟨hv.emb,⟨I1.size.trans g3.symm,fun x u hu=> ?_⟩,I1.defs.mono hv.le⟩,.panic v r hvr⟩
         have h3:=QL hu
         exact (I1.tmps x u (by rw [<-g1 x];exact h3.1) fun q hq hdq _ _=>absurd hdq (h3.2 q hq)).mono hv.le
       ·rw [if_neg (by rw [Q0 hw fun x hx u hu=>hrel x (List.mem_append_left _ hx) u hu];simp)]
        refine ⟨fun _ _=>trivial, ?_⟩
        obtain ⟨s3,k0,j1,j2,j3,j4,j5⟩:=Wa hskip
        have hh:s3.h=s1.h:=j1.trans g2
        refine hnext ns bl _ _ _ s3 E1 _ w (I1.doEff hst hin1 hef hD hbits (s3:=s3) (ds:=a.defers) (by rw [hh];exact .refl I1.evo.emb) (by rw [hh];exact I1.evo) (by rw [j3,g4];exact I1.defs) (.tuple [] [] .nil) (j2.trans g3) (fun x hx=>⟨(j4 x hx).1,g3▸(j4 x hx).2⟩) (fun x hx=>(j5 x hx).trans (g1 x)) ?_) k0
        intro q u _ h3 h4
        rw [hh]
        exact h3.congr h4
  ·-- a variable
   have hl2:(Yg it.o.op).isSome=true:=by rw [hT];rfl
   have hnL:¬(listed.getD it.i true=true):=by rw [hun];simp
   have hin:it∈rem:=by
    by_cases hin:it∈rem
    ·exact hin
    ·exact absurd (I.late it hit hl2 hin) hnL
   obtain ⟨hg,_,cs,hz⟩:=hst.late it hit T hT
   obtain ⟨z,z1,_⟩:=Vq hz
   rw [if_pos (by simp [Region.wanted,hg])]
   refine ⟨fun _ _=>trivial, ?_⟩
   rw [show (Fr ro).round=ro from rfl,Yx (fun c e=>by rw [e] at hT;simp [Yg] at hT),ZaR (Zci hT) z1]
   exact hgo ns _ rem D pend s E _ _ (I.doLate hst hin hT z1) h
theorem Z6q {qm:Bool} {Z:Prop} {k:Nat} (hcx:cx.Ok P) {ro:Option Nat} (hro:cx.inR=none->ro=none) {id:Nat} {ops:Array Oper} (h:Z9j cx P ops.toList (Y1 qm 0 [] ops.toList) s X Z):YI P k ro (.region id ops true) s X\/Z:=by
 unfold Z9j at h
 split at h
 ·rename_i hchk
  refine .inl ?_
  simp only [Bool.and_eq_true] at hchk
  have hst:=Zfs hchk.1.2
  intro E0 h0 w0 E a w n _ hs hev
  refine wpIn_region_any hchk.1.1 ?_
  have e0:ops=ops.toList.toArray:=by simp
  let w1:World:={ w with drawn:=w.drawn+1}
  have hdrew:Evo E s.h w E s.h w1:=Z2h hs.emb rfl rfl rfl ⟨rfl,Nat.le_succ _⟩
  unfold Z0S at h
  have hlist:∀j,(Array.replicate ops.size false).getD j true=true↔ops.size<=j:=fun j=>by
   by_cases hj:j<ops.size
   ·simp [Array.getD_eq_getD_getElem?,hj]
   ·have:ops.size<=j:=by omega
    simp [Array.getD_eq_getD_getElem?,this]
  have hnL:∀it∈Y1 qm 0 [] ops.toList,¬((Array.replicate ops.size false).getD it.i true=true):=fun it hit hL=>by
   have h1:=hst.mem it hit
   rw [hlist] at hL
   rw [List.getElem?_eq_none (by simpa using hL)] at h1
   cases h1
  have hdown:∀i o e,ops.toList[i]? =some o->(Array.replicate ops.size false).getD i true=true->e∈o.after.toList->Region.binds .any e=true->(Array.replicate ops.size false).getD e.on true=true:=fun i o e hio hL=>by
   rw [hlist] at hL
   rw [List.getElem?_eq_none (by simpa using hL)] at hio
   cases hio
  have hpw:(Y1 qm 0 [] ops.toList).Pairwise fun a b=>a.i≠b.i:=by
   rw [List.pairwise_iff_getElem]
   intro i j hi hj hij
   have h1:=Vy (List.getElem?_eq_getElem hi)
   have h2:=Vy (List.getElem?_eq_getElem hj)
   omega
  have I0:Inv P ops.toList (Y1 qm 0 [] ops.toList) E0 h0 w0 (fun j=>(Array.replicate ops.size false).getD j true=true) (fun _=>0) (Y1 qm 0 [] ops.toList) 0 [] { s with t:=WQ s.t (Y1 qm 0 [] ops.toList)} E a w1:=by
   refine ⟨fun _ h=>h,hpw,fun it _ hb=>by simp at hb,fun it hit _ hn=>absurd hit hn,fun it hit _=>⟨fun hL=>absurd hL (hnL it hit),fun hn=>absurd hit hn⟩,fun it hit _ hn=>absurd hit hn,fun it hit _ hL=>absurd hL (hnL it hit),fun it hit _ hn=>absurd hit hn,
    hs.tmps.size,fun x v hx _=>hs.tmps.get x v (Wx hx).1,hs.defs,hev.trans hdrew,fun it hit hl x hx=> ?_,fun it hit hL=>absurd hL (hnL it hit),fun it hit _ _ hL=>absurd hL (hnL it hit),fun it hit _ _ hn=>absurd hit hn,fun it hit hn=>absurd hit hn,fun it hit hl x hx=> ?_⟩
   ·cases hg:ZY (WQ s.t (Y1 qm 0 [] ops.toList)) x with
    | none=>rfl
    | some v=>exact absurd hx ((Wx hg).2 it hit hl)
   ·have h1:=(Vt _ _).1 hchk.2 it hit
    rw [hx] at h1
    simp only [Bool.or_eq_true] at h1
    rcases h1 with h1|h1
    ·rw [Option.isNone_iff_eq_none] at h1;rw [h1] at hl;cases hl
    ·exact Nat.le_of_ble_eq_true h1
  have hmask:∀q∈Y1 qm 0 [] ops.toList,((Array.replicate ops.size false).getD q.i true=true)->∀p,q.m.testBit p=true->(Array.replicate ops.size false).getD p true=true:=fun q hq hL=>absurd hL (hnL q hq)
  obtain ⟨r2,D2,p2,s2,k1,k2⟩:=Z4h hst hmask _ [] 0 [] _ h I0
  have:=ZaS (X:=X) hcx hro hst (n:=n) ops.size (Array.replicate ops.size false) (List.range ops.size) _ _ r2 D2 p2 s2 E a w1 (by simp) (fun j hj=>by
   rw [List.mem_range]
   rcases Nat.lt_or_ge j ops.size with h|h
   ·exact h
   ·rw [(hlist j).2 h] at hj;cases hj) (by simp) hdown k2 k1
  rw [<-e0] at this
  exact this
 ·exact .inr h
theorem Zcj {k:Nat} (hcx:cx.Ok P) {ro:Option Nat} (hro:cx.inR=none->ro=none) {id:Nat} {ops:Array Oper} (h:Zch P cx ops.toList s X):YI P k ro (.region id ops true) s X:=by
 unfold Zch at h
 rcases Z6q hcx hro h with h|h
 ·exact h
 ·rcases Z6q hcx hro h with h|h
  ·exact h
  ·exact h.elim
end
end Go.Tk
end
section
namespace Go.Tk
open IntKind (i64 u8 u32 u64 wrap)
abbrev Ren:=List (Nat×Nat)
def Z89:Ren->Nat->Option Nat
 | [],_=>none
 | (y,x)::r,z=>match Nat.beq y z with|true=>some x|false=>Z89 r z
def rn (k:Nat) (τ:Ren) (y:Nat):Option Nat:=match Nat.blt y k with|true=>some y|false=>Z89 τ y
def Env.ren (E:Env) (k:Nat) (τ:Ren):Env:=⟨fun y=>match rn k τ y with|some x=>E.blk x|none=>none,E.imm⟩
theorem Env.ren_some {E:Env} {k:Nat} {τ:Ren} {x y:Nat} (h:rn k τ y=some x):(E.ren k τ).blk y=E.blk x:=by simp [Env.ren,h]
theorem Env.ren_none {E:Env} {k:Nat} {τ:Ren} {y:Nat} (h:rn k τ y=none):(E.ren k τ).blk y=none:=by simp [Env.ren,h]
theorem Env.ren_views {E:Env} {k:Nat} {τ:Ren}:E.views.le (E.ren k τ).views:=⟨fun _ _ h=>by simp [Env.views] at h,fun _ _ h=>h⟩
def Z32 (k:Nat) (τ:Ren) (y x:Nat) (Z:Prop):Prop:=
 match rn k τ y with
 | some x'=>match Nat.beq x' x with
  | true=>Z
  | false=>False
 | none=>False
theorem Us {k:Nat} {τ:Ren} {y x:Nat} {Z:Prop} (h:Z32 k τ y x Z):rn k τ y=some x/\Z:=by
 unfold Z32 at h
 split at h
 ·rename_i x' hx
  split at h
  ·rename_i hb
   have:=Nat.eq_of_beq_eq_true hb
   subst this
   exact ⟨hx,h⟩
  ·exact h.elim
 ·exact h.elim
def eqP (k:Nat) (τ:Ren) (q p:ZF) (Z:Prop):Prop:=
 Z32 k τ q.blk p.blk (Zx (p.row=q.row) (Zx (p.sz=q.sz) (Zx (p.off=q.off) (Zx (p.inn=q.inn) Z))))
theorem Zck {k:Nat} {τ:Ren} {q p:ZF} {Z:Prop} (h:eqP k τ q p Z):rn k τ q.blk=some p.blk/\p.tot=q.tot/\Z:=by
 obtain ⟨h0,h⟩:=Us h
 obtain ⟨h1,h⟩:=Ze h
 obtain ⟨h2,h⟩:=Ze h
 obtain ⟨h3,h⟩:=Ze h
 obtain ⟨h4,h⟩:=Ze h
 exact ⟨h0,by simp [ZF.tot,h1,h2,h3,h4],h⟩
mutual
/-- A value (behind) taken for another (ahead). -/
def eqV (k:Nat) (τ:Ren):AV->AV->Prop->Prop
 | .top,_,Z=>Z
 | .bool b,v,Z=>match v with
  | .bool a=>Zx (a=b) Z
  | _=>False
 | .int kk b,v,Z=>match v with
  | .int kk' a=>match decide (kk'=kk) with
   | true=>Zx (a=b) Z
   | false=>False
  | _=>False
 | .str b,v,Z=>match v with
  | .str a=>a=b/\Z
  | _=>False
 | .ptr none,v,Z=>match v with
  | .ptr none=>Z
  | _=>False
 | .ptr (some q),v,Z=>match v with
  | .ptr (some p)=>eqP k τ q p Z
  | _=>False
 | .pview cs inn,v,Z=>match v with
  | .pview cs' inn'=>cs'=cs/\Zx (inn'=inn) Z
  | _=>False
 | .nslice q esz len lo,v,Z=>match v with
  | .nslice p esz' len' lo'=>eqP k τ q p (Zx (esz'=esz) (Zx (len'=len) (Zx (lo<=lo') Z)))
  | .nilslice=>Zx (len=0) (Zx (lo=0) Z)
  | .eslice=>Zx (len=0) (Zx (lo=0) Z)
  | _=>False
 | .vints kk xs len,v,Z=>match v with
  | .vints kk' xs' len'=>match decide (kk'=kk) with
   | true=>xs'=xs/\Zx (len'=len) Z
   | false=>False
  | _=>False
 | .vrows esz n f len,v,Z=>match v with
  | .vrows esz' n' f' len'=>Zx (esz'=esz) (Zx (n'=n) (f'=f/\Zx (len'=len) Z))
  | _=>False
 | .eslice,v,Z=>match v with
  | .eslice=>Z
  | .nilslice=>Z
  | _=>False
 | .fslice,v,Z=>match v with
  | .fslice=>Z
  | _=>False
 | .nilslice,v,Z=>match v with
  | .nilslice=>Z
  | _=>False
 | .map none,v,Z=>match v with
  | .map none=>Z
  | _=>False
 | .map (some y),v,Z=>match v with
  | .map (some x)=>Z32 k τ y x Z
  | _=>False
 | .func (.func g) fs cs,v,Z=>match v with
  | .func (.func g') fs' cs'=>match Nat.beq g' g with
   | true=>eqL k τ fs fs' (eqL k τ cs cs' Z)
   | false=>False
  | _=>False
 | .func _ _ _,_,_=>False
 | .yield y,v,Z=>match v with
  | .yield x=>Z32 k τ y x Z
  | _=>False
 | .nilFunc,v,Z=>match v with
  | .nilFunc=>Z
  | _=>False
 | .nilIface,v,Z=>match v with
  | .nilIface=>Z
  | _=>False
 | .iface t u,v,Z=>match v with
  | .iface t' u'=>match Nat.beq t' t with
   | true=>eqV k τ u u' Z
   | false=>False
  | _=>False
 | .agg cs,v,Z=>match v with
  | .agg cs'=>eqC k τ cs cs' Z
  | _=>False
 | .arr _ _ _,_,_=>False
 | .tuple vs,v,Z=>match v with
  | .tuple vs'=>eqL k τ vs vs' Z
  | _=>False
def eqC (k:Nat) (τ:Ren):List AV->List AV->Prop->Prop
 | [],l,Z=>match l with
  | []=>Z
  | _::_=>False
 | .arr kk n xs::r,l,Z=>match l with
  | .arr kk' n' xs'::r'=>match decide (kk'=kk)&&Nat.beq n' n with
   | true=>xs'=xs/\eqC k τ r r' Z
   | false=>False
  | _=>False
 | v::r,l,Z=>match l with
  | v'::r'=>match v.isCell&&v'.isCell with
   | true=>eqV k τ v v' (eqC k τ r r' Z)
   | false=>False
  | []=>False
def eqL (k:Nat) (τ:Ren):List AV->List AV->Prop->Prop
 | [],l,Z=>match l with
  | []=>Z
  | _::_=>False
 | v::r,l,Z=>match l with
  | v'::r'=>eqV k τ v v' (eqL k τ r r' Z)
  | []=>False
end
theorem Z6r {v:AV} (h:v.isCell=true) (r:List AV):csz (v::r)=1+csz r:=by
 cases v<;>simp_all [csz,AV.isCell]
set_option maxHeartbeats 1000000 in
mutual
theorem Ut {k:Nat} {τ:Ren}:∀(v₂ v:AV) (Z:Prop),eqV k τ v₂ v Z->Z/\∀(E:Env) (r:Value),Zk E v r->Zk (E.ren k τ) v₂ r
 | .top,v,Z,h=>⟨by unfold eqV at h;exact h,fun E r _=>.top r⟩
 | .bool b,v,Z,h=>by
  unfold eqV at h
  split at h
  ·replace h:=Ze h;obtain ⟨rfl,h⟩:=h
   exact ⟨h,fun E r hv=>by cases hv;exact .bool _⟩
  ·exact h.elim
 | .int kk b,v,Z,h=>by
  unfold eqV at h
  split at h
  ·split at h
   ·rename_i hk
    have hk:=of_decide_eq_true hk
    subst hk
    replace h:=Ze h;obtain ⟨rfl,h⟩:=h
    exact ⟨h,fun E r hv=>by cases hv;exact .int _ _⟩
   ·exact h.elim
  ·exact h.elim
 | .str b,v,Z,h=>by
  unfold eqV at h
  split at h
  ·obtain ⟨rfl,h⟩:=h
   exact ⟨h,fun E r hv=>by cases hv;exact .str _⟩
  ·exact h.elim
 | .ptr none,v,Z,h=>by
  unfold eqV at h
  split at h
  ·exact ⟨h,fun E r hv=>by cases hv;exact .nilptr⟩
  ·exact h.elim
 | .ptr (some q),v,Z,h=>by
  unfold eqV at h
  split at h
  ·obtain ⟨h1,h2,h3⟩:=Zck h
   refine ⟨h3,fun E r hv=> ?_⟩
   cases hv
   rename_i b N hb
   rw [h2]
   exact .ptr q b N (by rw [Env.ren_some h1];exact hb)
  ·exact h.elim
 | .pview cs inn,v,Z,h=>by
  unfold eqV at h
  split at h
  ·obtain ⟨rfl,h⟩:=h
   replace h:=Ze h;obtain ⟨rfl,h⟩:=h
   refine ⟨h,fun E r hv=> ?_⟩
   cases hv with
   | pview cs inn a vs hc hi=>exact .pview _ _ a vs (hc.mono Env.ren_views) hi
  ·exact h.elim
 | .nslice q esz len lo,v,Z,h=>by
  unfold eqV at h
  split at h
  ·replace h:=Zck h;obtain ⟨h1,h2,h⟩:=h
   replace h:=Ze h;obtain ⟨rfl,h⟩:=h
   replace h:=Ze h;obtain ⟨rfl,h⟩:=h
   obtain ⟨h4,h⟩:=Ze h
   refine ⟨h,fun E r hv=> ?_⟩
   cases hv with
   | nslice0 p esz len lo a e1 e2=>exact .nslice0 _ _ _ _ a e1 (by omega)
   | nslice p esz len lo b N cap hb e1 e2 e3=>
    rw [h2]
    exact .nslice q _ _ _ b N cap (by rw [Env.ren_some h1];exact hb) e1 (by omega) (by omega)
  ·replace h:=Ze h;obtain ⟨rfl,h⟩:=h
   replace h:=Ze h;obtain ⟨rfl,h⟩:=h
   exact ⟨h,fun E r hv=>by cases hv;exact .nslice0 _ _ _ _ _ rfl rfl⟩
  ·replace h:=Ze h;obtain ⟨rfl,h⟩:=h
   replace h:=Ze h;obtain ⟨rfl,h⟩:=h
   exact ⟨h,fun E r hv=>by cases hv;exact .nslice0 _ _ _ _ _ rfl rfl⟩
  ·exact h.elim
 | .vints kk xs len,v,Z,h=>by
  unfold eqV at h
  split at h
  ·split at h
   ·rename_i hk
    have hk:=of_decide_eq_true hk
    subst hk
    obtain ⟨rfl,h⟩:=h
    replace h:=Ze h;obtain ⟨rfl,h⟩:=h
    refine ⟨h,fun E r hv=> ?_⟩
    cases hv with
    | vintsNil k xs len h1 h2=>exact .vintsNil _ _ _ h1 h2
    | vints k xs len a cap h1 h2 hi=>exact .vints _ _ _ a cap h1 h2 hi
   ·exact h.elim
  ·exact h.elim
 | .vrows esz n f len,v,Z,h=>by
  unfold eqV at h
  split at h
  ·replace h:=Ze h;obtain ⟨rfl,h⟩:=h
   replace h:=Ze h;obtain ⟨rfl,h⟩:=h
   obtain ⟨rfl,h⟩:=h
   replace h:=Ze h;obtain ⟨rfl,h⟩:=h
   refine ⟨h,fun E r hv=> ?_⟩
   cases hv with
   | vrowsNil esz n f len h1 h2=>exact .vrowsNil _ _ _ _ h1 h2
   | vrows esz n f len a cap g h1 h2 hc hl hi=>exact .vrows _ _ _ _ a cap g h1 h2 (fun i hi'=>(hc i hi').mono Env.ren_views) hl hi
  ·exact h.elim
 | .eslice,v,Z,h=>by
  unfold eqV at h
  split at h
  ·exact ⟨h,fun E r hv=>by cases hv;exact .eslice _⟩
  ·exact ⟨h,fun E r hv=>by cases hv;exact .eslice _⟩
  ·exact h.elim
 | .fslice,v,Z,h=>by
  unfold eqV at h
  split at h
  ·exact ⟨h,fun E r hv=>by cases hv;exact .fslice _ _⟩
  ·exact h.elim
 | .nilslice,v,Z,h=>by
  unfold eqV at h
  split at h
  ·exact ⟨h,fun E r hv=>by cases hv;exact .nilslice⟩
  ·exact h.elim
 | .map none,v,Z,h=>by
  unfold eqV at h
  split at h
  ·exact ⟨h,fun E r hv=>by cases hv;exact .nilmap⟩
  ·exact h.elim
 | .map (some y),v,Z,h=>by
  unfold eqV at h
  split at h
  ·obtain ⟨h1,h⟩:=Us h
   refine ⟨h,fun E r hv=> ?_⟩
   cases hv
   rename_i b N hb
   exact .map y b N (by rw [Env.ren_some h1];exact hb)
  ·exact h.elim
 | .func (.func g) fs cs,v,Z,h=>by
  unfold eqV at h
  split at h
  ·split at h
   ·rename_i hb
    have:=Nat.eq_of_beq_eq_true hb
    subst this
    obtain ⟨h,h1⟩:=QM fs _ _ h
    obtain ⟨h,h2⟩:=QM cs _ _ h
    refine ⟨h,fun E r hv=> ?_⟩
    cases hv
    rename_i a b ha hb
    exact .func _ _ _ a b (h1 E _ ha) (h2 E _ hb)
   ·exact h.elim
  ·exact h.elim
 | .func (.method _) _ _,v,Z,h=>by unfold eqV at h;exact h.elim
 | .func (.methodOf _ _) _ _,v,Z,h=>by unfold eqV at h;exact h.elim
 | .func (.via _ _ _ _) _ _,v,Z,h=>by unfold eqV at h;exact h.elim
 | .func (.yield _) _ _,v,Z,h=>by unfold eqV at h;exact h.elim
 | .yield y,v,Z,h=>by
  unfold eqV at h
  split at h
  ·obtain ⟨h1,h⟩:=Us h
   refine ⟨h,fun E r hv=> ?_⟩
   cases hv
   rename_i b N hb
   exact .yield y b N (by rw [Env.ren_some h1];exact hb)
  ·exact h.elim
 | .nilFunc,v,Z,h=>by
  unfold eqV at h
  split at h
  ·exact ⟨h,fun E r hv=>by cases hv;exact .nilFunc⟩
  ·exact h.elim
 | .nilIface,v,Z,h=>by
  unfold eqV at h
  split at h
  ·exact ⟨h,fun E r hv=>by cases hv;exact .nilIface⟩
  ·exact h.elim
 | .iface t u,v,Z,h=>by
  unfold eqV at h
  split at h
  ·split at h
   ·rename_i hb
    have:=Nat.eq_of_beq_eq_true hb
    subst this
    obtain ⟨h,h1⟩:=Ut u _ _ h
    refine ⟨h,fun E r hv=> ?_⟩
    cases hv
    rename_i x hx
    exact .iface _ _ _ (h1 E _ hx)
   ·exact h.elim
  ·exact h.elim
 | .agg cs,v,Z,h=>by
  unfold eqV at h
  split at h
  ·obtain ⟨h,_,h1⟩:=Z33 cs _ _ h
   refine ⟨h,fun E r hv=> ?_⟩
   cases hv
   rename_i vs hc
   exact .agg _ _ (h1 E _ hc)
  ·exact h.elim
 | .arr _ _ _,v,Z,h=>by unfold eqV at h;exact h.elim
 | .tuple vs,v,Z,h=>by
  unfold eqV at h
  split at h
  ·obtain ⟨h,h1⟩:=QM vs _ _ h
   refine ⟨h,fun E r hv=> ?_⟩
   cases hv
   rename_i rs hl
   exact .tuple _ _ (h1 E _ hl)
  ·exact h.elim
theorem Z33 {k:Nat} {τ:Ren}:∀(l₂ l:List AV) (Z:Prop),eqC k τ l₂ l Z->Z/\csz l=csz l₂/\∀(E:Env) (r:List Value),Zw E l r->Zw (E.ren k τ) l₂ r
 | [],l,Z,h=>by
  unfold eqC at h
  split at h
  ·exact ⟨h,rfl,fun E r hv=>by cases hv;exact .nil⟩
  ·exact h.elim
 | v::r,l,Z,h=>by
  by_cases ha:∃kk n xs,v=.arr kk n xs
  ·obtain ⟨kk,n,xs,rfl⟩:=ha
   unfold eqC at h
   split at h
   ·split at h
    ·rename_i hb
     rw [Bool.and_eq_true] at hb
     have h1:=of_decide_eq_true hb.1
     have h2:=Nat.eq_of_beq_eq_true hb.2
     subst h1 h2
     obtain ⟨rfl,h⟩:=h
     obtain ⟨h,hz,h3⟩:=Z33 r _ _ h
     refine ⟨h,by simp [csz,hz],fun E q hv=> ?_⟩
     obtain ⟨cs',rfl,ht⟩:=Zw.cons_arr hv
     exact .arr _ _ _ _ _ (h3 E _ ht)
    ·exact h.elim
   ·exact h.elim
  ·have he:eqC k τ (v::r) l Z=(match l with
     | v'::r'=>match v.isCell&&v'.isCell with
      | true=>eqV k τ v v' (eqC k τ r r' Z)
      | false=>False
     | []=>False):=by
    cases v<;>first|(exact absurd ⟨_,_,_,rfl⟩ ha)|(cases l<;>rfl)
   rw [he] at h
   split at h
   ·split at h
    ·rename_i hb
     rw [Bool.and_eq_true] at hb
     obtain ⟨h,h1⟩:=Ut v _ _ h
     obtain ⟨h,hz,h3⟩:=Z33 r _ _ h
     refine ⟨h,by rw [Z6r hb.1,Z6r hb.2,hz],fun E q hv=> ?_⟩
     cases hv with
     | one v' c vs cs h0 hc hvr t=>exact .one _ _ _ _ hb.1 hc (h1 E _ hvr) (h3 E _ t)
     | arr k n xs vs cs t=>simp [AV.isCell] at hb
    ·exact h.elim
   ·exact h.elim
theorem QM {k:Nat} {τ:Ren}:∀(l₂ l:List AV) (Z:Prop),eqL k τ l₂ l Z->Z/\∀(E:Env) (r:List Value),ZK E l r->ZK (E.ren k τ) l₂ r
 | [],l,Z,h=>by
  unfold eqL at h
  split at h
  ·exact ⟨h,fun E r hv=>by cases hv;exact .nil⟩
  ·exact h.elim
 | v::r,l,Z,h=>by
  unfold eqL at h
  split at h
  ·obtain ⟨h,h1⟩:=Ut v _ _ h
   obtain ⟨h,h2⟩:=QM r _ _ h
   refine ⟨h,fun E q hv=> ?_⟩
   cases hv
   rename_i c cs hc ht
   exact .cons _ _ _ _ (h1 E _ hc) (h2 E _ ht)
  ·exact h.elim
end
theorem ZK.at {E:Env}:∀{vs:List AV} {rs:List Value} {i:Nat} {v:AV} {r:Value},ZK E vs rs->vs[i]? =some v->rs[i]? =some r->Zk E v r
 | _,_,0,v,r,.cons _ _ _ _ h _,h1,h2=>by
  simp at h1 h2;subst h1 h2;exact h
 | _,_,i+1,v,r,.cons _ _ _ _ _ t,h1,h2=>ZK.at t (by simpa using h1) (by simpa using h2)
 | _,_,_,v,r,.nil,h1,_=>by simp at h1
inductive QN (k:Nat) (τ:Ren) (n:Nat) (kf vf kf' vf':Nat->AV):Prop
 | mk (h:∀i,i<n->eqV k τ (kf i) (kf' i) True/\eqV k τ (vf i) (vf' i) True):QN k τ n kf vf kf' vf'
inductive Zb (k:Nat) (τ:Ren) (n:Nat) (f f':Nat->List AV):Prop
 | mk (h:∀i,i<n->eqC k τ (f i) (f' i) True):Zb k τ n f f'
def eqB (k:Nat) (τ:Ren):Blk->Blk->Prop->Prop
 | .flat cs,B,Z=>match B with
  | .flat cs'=>eqC k τ cs cs' Z
  | _=>False
 | .ints kk xs,B,Z=>match B with
  | .ints kk' xs'=>match decide (kk'=kk) with
   | true=>xs'=xs/\Z
   | false=>False
  | _=>False
 | .rows sz n f,B,Z=>match B with
  | .rows sz' n' f'=>match Nat.beq sz' sz with
   | true=>Zx (n'=n) (Zb k τ n f f'/\Z)
   | false=>False
  | _=>False
 | .map es,B,Z=>match B with
  | .map es'=>eqL k τ (es.map (·.1)) (es'.map (·.1)) (eqL k τ (es.map (·.2)) (es'.map (·.2)) Z)
  | _=>False
 | .fmap n kf vf,B,Z=>match B with
  | .fmap n' kf' vf'=>Zx (n'=n) (QN k τ n kf vf kf' vf'/\Z)
  | .map es'=>Zx (es'.length=n) (QN k τ n kf vf (fun i=>(es'.getD i (.top,.top)).1) (fun i=>(es'.getD i (.top,.top)).2)/\Z)
  | _=>False
 | .loop l,B,Z=>match B with
  | .loop l'=>(l'.state=l.state/\l'.pending=l.pending/\l'.fn=l.fn/\l'.n=l.n/\l'.params=l.params/\l'.assign=l.assign/\l'.body=l.body)/\Z32 k τ l.defers l'.defers (eqT k τ l'.tmps Z l.tmps)
  | _=>False
 | .defd,B,Z=>match B with
  | .defd=>Z
  | _=>False
where eqT (k:Nat) (τ:Ren) (t:Yd) (Z:Prop):Yd->Prop
 | []=>Z
 | (x,v₂)::r=>match ZY t x with
  | some v=>eqV k τ v₂ v (eqT k τ t Z r)
  | none=>match v₂ with
   | .top=>eqT k τ t Z r
   | _=>False
theorem Z5r {k:Nat} {τ:Ren} {t:Yd} {Z:Prop}:∀(t₂:Yd),eqB.eqT k τ t Z t₂->Z/\∀(E:Env) (n:Nat) (tm:Array Value),Vf E n t tm->Vf (E.ren k τ) n t₂ tm
 | [],h=>⟨h,fun E n tm ht=>⟨ht.size,fun x v hx=>by simp [ZY] at hx⟩⟩
 | (y,v₂)::r,h=>by
  unfold eqB.eqT at h
  split at h
  ·rename_i v hv
   obtain ⟨h,h1⟩:=Ut _ _ _ h
   obtain ⟨h,h2⟩:=Z5r r h
   refine ⟨h,fun E n tm ht=>⟨ht.size,fun x u hx=> ?_⟩⟩
   simp only [ZY] at hx
   split at hx
   ·rename_i hb
    have:=Nat.eq_of_beq_eq_true hb
    subst this
    cases hx
    exact h1 E _ (ht.get _ _ hv)
   ·exact (h2 E n tm ht).get x u hx
  ·split at h
   ·obtain ⟨h,h2⟩:=Z5r r h
    refine ⟨h,fun E n tm ht=>⟨ht.size,fun x u hx=> ?_⟩⟩
    simp only [ZY] at hx
    split at hx
    ·cases hx;exact .top _
    ·exact (h2 E n tm ht).get x u hx
   ·exact h.elim
theorem Ziq {k:Nat} {τ:Ren} {B₂ B:Blk} {Z:Prop} (h:eqB k τ B₂ B Z):
  Z/\∀(E:Env) (w:World) (x y:Nat),rn k τ y=some x->YN E w x B->YN (E.ren k τ) w y B₂:=by
 unfold eqB at h
 split at h
 ·split at h
  ·obtain ⟨h,hz,h1⟩:=Z33 _ _ _ h
   refine ⟨h,fun E w x y hy hB=> ?_⟩
   cases hB with
   | flat0 cs h0 hn=>exact .flat0 _ (by omega) (by rw [Env.ren_some hy];exact hn)
   | flat cs b cells elem fr vs hb hw hf hc hv=>exact .flat _ b cells elem fr vs (by rw [Env.ren_some hy];exact hb) hw hf (h1 E _ hc) hv
  ·exact h.elim
 ·split at h
  ·split at h
   ·rename_i hk
    have hk:=of_decide_eq_true hk
    subst hk
    obtain ⟨rfl,h⟩:=h
    refine ⟨h,fun E w x y hy hB=> ?_⟩
    cases hB with
    | ints0 kk xs h0 hn=>exact .ints0 _ _ h0 (by rw [Env.ren_some hy];exact hn)
    | ints kk xs b cells elem fr hb hw hf hv=>exact .ints _ _ b cells elem fr (by rw [Env.ren_some hy];exact hb) hw hf hv
   ·exact h.elim
  ·exact h.elim
 ·split at h
  ·split at h
   ·rename_i hk
    have hk:=Nat.eq_of_beq_eq_true hk
    subst hk
    replace h:=Ze h
    obtain ⟨rfl,⟨h1⟩,h⟩:=h
    refine ⟨h,fun E w x y hy hB=> ?_⟩
    cases hB with
    | rows0 sz n f h0 hn=>exact .rows0 _ _ _ h0 (by rw [Env.ren_some hy];exact hn)
    | rows sz n f b cells elem fr g hb hw hf hc hl hv=>exact .rows _ _ _ b cells elem fr g (by rw [Env.ren_some hy];exact hb) hw hf (fun i hi=>(Z33 _ _ _ (h1 i hi)).2.2 E _ (hc i hi)) hl hv
   ·exact h.elim
  ·exact h.elim
 ·split at h
  ·obtain ⟨h,h1⟩:=QM _ _ _ h
   obtain ⟨h,h2⟩:=QM _ _ _ h
   refine ⟨h,fun E w x y hy hB=> ?_⟩
   cases hB with
   | map es b ents clock hb hw hk hv=>exact .map _ b ents clock (by rw [Env.ren_some hy];exact hb) hw (h1 E _ hk) (h2 E _ hv)
  ·exact h.elim
 ·split at h
  ·replace h:=Ze h
   obtain ⟨rfl,⟨h1⟩,h⟩:=h
   refine ⟨h,fun E w x y hy hB=> ?_⟩
   cases hB with
   | fmap n kf vf b ents clock hb hw hl hk hv=>
    refine .fmap _ _ _ b ents clock (by rw [Env.ren_some hy];exact hb) hw hl (fun i e he=> ?_) (fun i e he=> ?_)
    ·have hi:=(List.getElem?_eq_some_iff.1 he).1
     exact (Ut _ _ _ (h1 i (by omega)).1).2 E _ (hk i e he)
    ·have hi:=(List.getElem?_eq_some_iff.1 he).1
     exact (Ut _ _ _ (h1 i (by omega)).2).2 E _ (hv i e he)
  ·replace h:=Ze h
   obtain ⟨rfl,⟨h1⟩,h⟩:=h
   refine ⟨h,fun E w x y hy hB=> ?_⟩
   cases hB with
   | map es b ents clock hb hw hk hv=>
    have hl:=hk.length
    simp only [List.length_map] at hl
    refine .fmap _ _ _ b ents clock (by rw [Env.ren_some hy];exact hb) hw hl (fun i e he=> ?_) (fun i e he=> ?_)
    ·have hi:=(List.getElem?_eq_some_iff.1 he).1
     refine (Ut _ _ _ (h1 i (by omega)).1).2 E _ ?_
     refine ZK.at hk (i:=i) ?_ ?_
     ·have hq:=List.getElem?_eq_getElem (l:=_) (show i<List.length _ from hl▸hi);simp only [List.getElem?_map,List.getD_eq_getElem?_getD,hq,Option.map_some,Option.getD_some]
     ·rw [List.getElem?_map,he];rfl
    ·have hi:=(List.getElem?_eq_some_iff.1 he).1
     refine (Ut _ _ _ (h1 i (by omega)).2).2 E _ ?_
     refine ZK.at hv (i:=i) ?_ ?_
     ·have hq:=List.getElem?_eq_getElem (l:=_) (show i<List.length _ from hl▸hi);simp only [List.getElem?_map,List.getD_eq_getElem?_getD,hq,Option.map_some,Option.getD_some]
     ·rw [List.getElem?_map,he];rfl
  ·exact h.elim
 ·split at h
  ·obtain ⟨⟨e1,e2,e3,e4,e5,e6,e7⟩,h⟩:=h
   obtain ⟨hd',h⟩:=Us h
   obtain ⟨h,h1⟩:=Z5r _ h
   refine ⟨h,fun E w x y hy hB=> ?_⟩
   cases hB with
   | loop l0 b d N fnr tm hb hd hw ht=>
    refine .loop _ b d N fnr tm (by rw [Env.ren_some hy];exact hb) (by rw [Env.ren_some hd'];exact hd) ?_ (h1 E _ _ (e4▸ht))
    rw [e1,e2,e5,e6,e7] at hw
    exact hw
  ·exact h.elim
 ·split at h
  ·refine ⟨h,fun E w x y hy hB=> ?_⟩
   cases hB with
   | defd b hb hw=>exact .defd b (by rw [Env.ren_some hy];exact hb) hw
  ·exact h.elim
def Zcl:Blk->Prop->Prop
 | .flat cs,Z=>Zx (csz cs=0) Z
 | .ints _ xs,Z=>xs=[]/\Z
 | .rows _ n _,Z=>Zx (n=0) Z
 | _,_=>False
theorem Zcm {B:Blk} {Z:Prop} (h:Zcl B Z):Z/\∀(E:Env) (w:World) (y:Nat),E.blk y=none->YN E w y B:=by
 unfold Zcl at h
 split at h
 ·obtain ⟨h1,h⟩:=Ze h
  exact ⟨h,fun E w y hy=>.flat0 _ h1 hy⟩
 ·exact ⟨h.2,fun E w y hy=>.ints0 _ _ h.1 hy⟩
 ·obtain ⟨h1,h⟩:=Ze h
  exact ⟨h,fun E w y hy=>.rows0 _ _ _ h1 hy⟩
 ·exact h.elim
def eqH (k:Nat) (τ:Ren) (h:Za) (Z:Prop):List (Nat×Blk)->Prop
 | []=>Z
 | (y,B₂)::r=>match rn k τ y with
  | some x=>match ZO h.bs x with
   | some B=>eqB k τ B₂ B (eqH k τ h Z r)
   | none=>False
  | none=>Zcl B₂ (eqH k τ h Z r)
theorem Z8a {k:Nat} {τ:Ren} {h:Za} {Z:Prop}:∀(bs:List (Nat×Blk)),eqH k τ h Z bs->Z/\∀y B₂,ZO bs y=some B₂->
  (rn k τ y=none/\∀(E:Env) (w:World),E.blk y=none->YN E w y B₂)\/∃x B,rn k τ y=some x/\h.get x=some B/\∀(E:Env) (w:World),YN E w x B->YN (E.ren k τ) w y B₂
 | [],hl=>⟨hl,fun y B₂ hy=>by simp [ZO] at hy⟩
 | (z,B)::r,hl=>by
  unfold eqH at hl
  split at hl
  ·rename_i x hx
   split at hl
   ·rename_i B' hB'
    obtain ⟨hl,h1⟩:=Ziq hl
    obtain ⟨hl,h2⟩:=Z8a r hl
    refine ⟨hl,fun y B₂ hy=> ?_⟩
    simp only [ZO] at hy
    split at hy
    ·rename_i hb
     have:=Nat.eq_of_beq_eq_true hb
     subst this
     cases hy
     exact .inr ⟨x,B',hx,hB',fun E w hB=>h1 E w x _ hx hB⟩
    ·exact h2 y B₂ hy
   ·exact hl.elim
  ·rename_i hx
   obtain ⟨hl,h1⟩:=Zcm hl
   obtain ⟨hl,h2⟩:=Z8a r hl
   refine ⟨hl,fun y B₂ hy=> ?_⟩
   simp only [ZO] at hy
   split at hy
   ·rename_i hb
    have:=Nat.eq_of_beq_eq_true hb
    subst this
    cases hy
    exact .inl ⟨hx,fun E w he=>h1 E w _ he⟩
   ·exact h2 y B₂ hy
def Z6s (k:Nat) (τ:Ren) (x:Nat):List (Nat×Blk)->Bool
 | []=>true
 | (y,_)::r=>match rn k τ y with
  | some x'=> !(Nat.beq x' x)&&Z6s k τ x r
  | none=>Z6s k τ x r
def Z9l (k:Nat) (τ:Ren):List (Nat×Blk)->Bool
 | []=>true
 | (y,_)::r=>(match rn k τ y with|some x=>Z6s k τ x r|none=>true)&&Z9l k τ r
def ltB (m:Nat):List (Nat×Blk)->Bool
 | []=>true
 | (y,_)::r=>Nat.blt y m&&ltB m r
def ltR (m:Nat):Ren->Bool
 | []=>true
 | (y,_)::r=>Nat.blt y m&&ltR m r
theorem Z34 {bs:List (Nat×Blk)} {y:Nat} {B:Blk} (h:ZO bs y=some B):∃B',(y,B')∈bs:=by
 induction bs with
 | nil=>simp [ZO] at h
 | cons p r ih=>
  obtain ⟨z,C⟩:=p
  simp only [ZO] at h
  split at h
  ·rename_i hb
   have:=Nat.eq_of_beq_eq_true hb
   subst this
   exact ⟨C,List.mem_cons_self ..⟩
  ·obtain ⟨B',hm⟩:=ih h
   exact ⟨B',List.mem_cons_of_mem _ hm⟩
theorem Z0f {k:Nat} {τ:Ren} {x:Nat}:∀{bs:List (Nat×Blk)},Z6s k τ x bs=true->∀y B,(y,B)∈bs->rn k τ y≠some x
 | (z,C)::r,h,y,B,hm=>by
  unfold Z6s at h
  rcases List.mem_cons.1 hm with e|hm
  ·cases e
   split at h
   ·rename_i x' hx'
    rw [Bool.and_eq_true] at h
    intro hy
    rw [hx'] at hy
    cases hy
    simp [Nat.beq_refl] at h
   ·rename_i hx'
    rw [hx'];simp
  ·split at h
   ·rw [Bool.and_eq_true] at h
    exact Z0f h.2 y B hm
   ·exact Z0f h y B hm
theorem Z6t {k:Nat} {τ:Ren}:∀{bs:List (Nat×Blk)},Z9l k τ bs=true->∀y z B C x,(y,B)∈bs->(z,C)∈bs->rn k τ y=some x->rn k τ z=some x->y=z
 | (u,D)::r,h,y,z,B,C,x,hy,hz,ey,ez=>by
  unfold Z9l at h
  rw [Bool.and_eq_true] at h
  rcases List.mem_cons.1 hy with e1|hy'<;>rcases List.mem_cons.1 hz with e2|hz'
  ·cases e1;cases e2;rfl
  ·cases e1
   rw [ey] at h
   exact absurd ez (Z0f h.1 z C hz')
  ·cases e2
   rw [ez] at h
   exact absurd ey (Z0f h.1 y B hy')
  ·exact Z6t h.2 y z B C x hy' hz' ey ez
theorem Zcn {m:Nat}:∀{bs:List (Nat×Blk)},ltB m bs=true->∀y B,(y,B)∈bs->y<m
 | (z,C)::r,h,y,B,hm=>by
  unfold ltB at h
  rw [Bool.and_eq_true] at h
  rcases List.mem_cons.1 hm with e|hm
  ·cases e;exact Nat.le_of_ble_eq_true h.1
  ·exact Zcn h.2 y B hm
theorem Zco {m:Nat}:∀{τ:Ren},ltR m τ=true->∀y x,Z89 τ y=some x->y<m
 | [],_,y,x,hy=>by simp [Z89] at hy
 | (z,u)::r,h,y,x,hy=>by
  unfold ltR at h
  rw [Bool.and_eq_true] at h
  simp only [Z89] at hy
  split at hy
  ·rename_i hb
   have:=Nat.eq_of_beq_eq_true hb
   subst this
   exact Nat.le_of_ble_eq_true h.1
  ·exact Zco h.2 y x hy
def eqD (k:Nat) (τ:Ren) (Z:Prop):List Uc->List Uc->Prop
 | [],l=>match l with
  | []=>Z
  | _::_=>False
 | .call f args::r,l=>match l with
  | .call f' args'::r'=>match Nat.beq f' f with
   | true=>eqL k τ args args' (eqD k τ Z r r')
   | false=>False
  | _=>False
 | .mark y::r,l=>match l with
  | .mark x::r'=>Z32 k τ y x (eqD k τ Z r r')
  | _=>False
theorem Z8b {k:Nat} {τ:Ren} {Z:Prop}:∀(l₂ l:List Uc),eqD k τ Z l₂ l->Z/\∀(E:Env) (rd:List Deferred),VT E l rd->VT (E.ren k τ) l₂ rd
 | [],l,h=>by
  unfold eqD at h
  split at h
  ·exact ⟨h,fun E rd hd=>by cases hd;exact .nil⟩
  ·exact h.elim
 | .call f args::r,l,h=>by
  unfold eqD at h
  split at h
  ·split at h
   ·rename_i hb
    have:=Nat.eq_of_beq_eq_true hb
    subst this
    obtain ⟨h,h1⟩:=QM _ _ _ h
    obtain ⟨h,h2⟩:=Z8b r _ h
    refine ⟨h,fun E rd hd=> ?_⟩
    cases hd with
    | call f args fn cap rs ds rd hf hl t=>exact .call _ _ fn cap rs _ _ hf (h1 E _ hl) (h2 E _ t)
   ·exact h.elim
  ·exact h.elim
 | .mark y::r,l,h=>by
  unfold eqD at h
  split at h
  ·obtain ⟨h1,h⟩:=Us h
   obtain ⟨h,h2⟩:=Z8b r _ h
   refine ⟨h,fun E rd hd=> ?_⟩
   cases hd with
   | mark x b N ds rd hb t=>exact .mark _ b N _ _ (by rw [Env.ren_some h1];exact hb) (h2 E _ t)
  ·exact h.elim
def Vi (k:Nat) (s s₂:St):Prop:=
 ∀(E0:Env) (h0:Za) (w0:World) (E:Env) (a:Act) (w:World),(∀x,k<=x->E0.blk x=none)->V0 E s a w->Evo E0 h0 w0 E s.h w->∃E₂,V0 E₂ s₂ a w/\Evo E0 h0 w0 E₂ s₂.h w
def YU (k:Nat) (τ:Ren) (s₂ s:St) (Z:Prop):Prop:=
 match Nat.ble k s₂.h.next&&ltB s₂.h.next s₂.h.bs&&ltR s₂.h.next τ&&Z9l k τ s₂.h.bs&&Nat.beq s.n s₂.n with
 | true=>eqB.eqT k τ s.t (eqH k τ s.h (eqD k τ Z s₂.d s.d) s₂.h.bs) s₂.t
 | false=>False
theorem Yn {k:Nat} {τ:Ren} {s₂ s:St} {Z:Prop} (hl:YU k τ s₂ s Z):Z/\Vi k s s₂:=by
 unfold YU at hl
 split at hl
 ·rename_i hb
  simp only [Bool.and_eq_true] at hb
  obtain ⟨⟨⟨⟨b1,b2⟩,b3⟩,b4⟩,b5⟩:=hb
  have b1:k<=s₂.h.next:=Nat.le_of_ble_eq_true b1
  have b5:s.n=s₂.n:=Nat.eq_of_beq_eq_true b5
  obtain ⟨hl,hT⟩:=Z5r _ hl
  obtain ⟨hl,hH⟩:=Z8a _ hl
  obtain ⟨hl,hD⟩:=Z8b _ _ hl
  refine ⟨hl,fun E0 h0 w0 E a w hk hs hev=> ?_⟩
  have he:=hs.emb
  have hfr:∀y,s₂.h.next<=y->(E.ren k τ).blk y=none:=fun y hy=>by
   refine Env.ren_none ?_
   unfold rn
   have:Nat.blt y k=false:=by
    cases hq:Nat.blt y k with
    | false=>rfl
    | true=>have:y<k:=Nat.le_of_ble_eq_true hq;omega
   rw [this]
   cases hg:Z89 τ y with
   | none=>rfl
   | some x=>have:=Zco b3 y x hg;omega
  have hgo:∀y B b N,s₂.h.get y=some B->(E.ren k τ).blk y=some (b,N)->∃x C,rn k τ y=some x/\s.h.get x=some C/\E.blk x=some (b,N):=fun y B b N hy hb=>by
   rcases hH y B hy with ⟨hn,_⟩|⟨x,C,hx,hC,_⟩
   ·rw [Env.ren_none hn] at hb;cases hb
   ·rw [Env.ren_some hx] at hb;exact ⟨x,C,hx,hC,hb⟩
  have hemb:Emb (E.ren k τ) s₂.h w:=by
   refine ⟨hfr, ?_, ?_, ?_, ?_, ?_⟩
   ·intro y B hy
    obtain ⟨B',hm⟩:=Z34 hy
    exact Zcn b2 y B' hm
   ·intro y B hy
    rcases hH y B hy with ⟨hn,h1⟩|⟨x,C,hx,hC,h1⟩
    ·exact h1 _ w (Env.ren_none hn)
    ·exact h1 E w (he.own x C hC)
   ·intro y z B C b N N' hy hz hby hbz
    obtain ⟨x,D,hx,hD',hbx⟩:=hgo y B b N hy hby
    obtain ⟨x',D'',hx',hD'',hbx'⟩:=hgo z C b N' hz hbz
    have:=he.disj x x' D D'' b N N' hD' hD'' hbx hbx'
    subst this
    obtain ⟨B',hm⟩:=Z34 hy
    obtain ⟨C',hm'⟩:=Z34 hz
    exact Z6t b4 y z B' C' x hm hm' hx hx'
   ·exact he.imm
   ·intro ad c y B N hi hy hb
    obtain ⟨x,D,hx,hD',hbx⟩:=hgo y B _ N hy hb
    exact he.sep ad c x D N hi hD' hbx
  refine ⟨E.ren k τ,⟨hemb,b5▸hT E _ _ hs.tmps,hD E _ hs.defs⟩,⟨fun x r hx=> ?_,hev.le.imm⟩,hemb,hev.size,hev.os,hev.tape,hev.output,hev.keep,fun b ho=> ?_,hev.imm⟩
  ·have hlt:x<k:=by
    rcases Nat.lt_or_ge x k with hl'|hg
    ·exact hl'
    ·rw [hk x hg] at hx;cases hx
   have hrx:rn k τ x=some x:=by
    unfold rn
    have:Nat.blt x k=true:=Nat.ble_eq_true_of_le hlt
    rw [this]
   rw [Env.ren_some hrx]
   exact hev.le.blk x r hx
  ·obtain ⟨y,B,N,hy,hb⟩:=ho
   obtain ⟨x,D,hx,hD',hbx⟩:=hgo y B b N hy hb
   exact hev.own b ⟨x,D,N,hD',hbx⟩
 ·exact hl.elim
end Go.Tk
end
section
namespace Go.Tk
open IntKind (i64 u8 u32 u64 wrap)
theorem YI.weak {P:Program} {k:Nat} {ro:Option Nat} {c:Code} {s s₂:St} {X:KE} (h:YI P k ro c s₂ X) (hw:Vi k s s₂):YI P k ro c s X:=by
 intro E0 h0 w0 E a w n hk hs hev
 obtain ⟨E₂,hs₂,hev₂⟩:=hw E0 h0 w0 E a w hk hs hev
 exact h E0 h0 w0 E₂ a w n hk hs₂ hev₂
def Z9m {ι:Type} (k:Nat) (m:ι->Nat) (S:ι->St) (i:ι) (X:KE):KE:=fun e s=>match e with
 | .normal=>∃j,m j<m i/\Vi k s (S j)
 | .panic v=>X (.panic v) s
 | .exit id=>∃s₂,Vi k s s₂/\X (.exit id) s₂
 | .goto l=>∃s₂,Vi k s s₂/\X (.goto l) s₂
 | .ret=>∃s₂,Vi k s s₂/\X .ret s₂
theorem YI.mono {P:Program} {k:Nat} {ro:Option Nat} {c:Code} {s:St} {X Y:KE} (h:YI P k ro c s X) (hxy:∀e s,X e s->Y e s):YI P k ro c s Y:=
 fun E0 h0 w0 E a w n hk hs hev=>wpIn_mono (h E0 h0 w0 E a w n hk hs hev) fun _ _ _ hp=>hp.mono hxy
theorem ZaT {P:Program} {k:Nat} {ro:Option Nat} {c:Code} {ι:Type} (m:ι->Nat) (S:ι->St) (X:KE)
  (h:∀i,YI P k ro c (S i) (Z9m k m S i X)):∀i,YI P k ro (.loop c) (S i) X:=by
 have key:∀N i,m i<N->∀(E0:Env) (h0:Za) (w0:World) (E:Env) (a:Act) (w:World) (n:Nat),(∀x,k<=x->E0.blk x=none)->V0 E (S i) a w->Evo E0 h0 w0 E (S i).h w->
   Code.roundsIn (Fr ro) n P c (QF E0 h0 w0 X) N a w:=by
  intro N
  induction N with
  | zero=>intro i hi;omega
  | succ N ih=>
   intro i hi E0 h0 w0 E a w n hk hs hev
   rw [roundsIn_succ]
   refine wpIn_mono (h i E0 h0 w0 E a w n hk hs hev) ?_
   rintro e a' w' ⟨E',x,s',hx,hev',hs',he⟩
   cases he with
   | normal=>
    obtain ⟨j,hj,hw⟩:=hx
    obtain ⟨E₂,hs₂,hev₂⟩:=hw E0 h0 w0 E' a' w' hk hs' hev'
    exact ih j (by omega) E0 h0 w0 E₂ a' w' n hk hs₂ hev₂
   | exit id=>
    obtain ⟨s₂,hw,hx⟩:=hx
    obtain ⟨E₂,hs₂,hev₂⟩:=hw E0 h0 w0 E' a' w' hk hs' hev'
    exact ⟨E₂,_,s₂,hx,hev₂,hs₂,.exit id⟩
   | goto l=>
    obtain ⟨s₂,hw,hx⟩:=hx
    obtain ⟨E₂,hs₂,hev₂⟩:=hw E0 h0 w0 E' a' w' hk hs' hev'
    exact ⟨E₂,_,s₂,hx,hev₂,hs₂,.goto l⟩
   | ret=>
    obtain ⟨s₂,hw,hx⟩:=hx
    obtain ⟨E₂,hs₂,hev₂⟩:=hw E0 h0 w0 E' a' w' hk hs' hev'
    exact ⟨E₂,_,s₂,hx,hev₂,hs₂,.ret⟩
   | panic v r hv=>exact ⟨E',_,s',hx,hev',hs',.panic v r hv⟩
 intro i E0 h0 w0 E a w n hk hs hev
 exact wpIn_loop_rounds (m i+1) (key (m i+1) i (Nat.lt_succ_self _) E0 h0 w0 E a w n hk hs hev)
theorem WR:∀(body:Code) (id:Nat) (c:Code),(id,c)∈ZA body->∀b,b∈ZA c->b∈ZA body:=by
 intro body
 induction body with
 | seq x y ihx ihy=>
  intro id c h b hb
  simp only [ZA,List.mem_append] at h⊢
  rcases h with h|h
  ·exact .inl (ihx id c h b hb)
  ·exact .inr (ihy id c h b hb)
 | cond o x y ihx ihy=>
  intro id c h b hb
  simp only [ZA,List.mem_append,List.mem_cons] at h⊢
  rcases h with h|h|h
  ·cases h;simpa only [ZA,List.mem_append,List.mem_cons] using hb
  ·exact .inr (.inl (ihx id c h b hb))
  ·exact .inr (.inr (ihy id c h b hb))
 | block i x ih=>
  intro id c h b hb
  simp only [ZA,List.mem_cons] at h⊢
  rcases h with h|h
  ·cases h;exact .inr hb
  ·exact .inr (ih id c h b hb)
 | loop x ih=>intro id c h b hb;simp only [ZA] at h⊢;exact ih id c h b hb
 | scope x ih=>intro id c h b hb;simp only [ZA] at h⊢;exact ih id c h b hb
 | _=>intro id c h;simp [ZA] at h
def VX (id:Nat):List (Nat×Code)->List Code
 | []=>[]
 | (i,c)::r=>match Nat.beq i id with|true=>c::VX id r|false=>VX id r
theorem V9 {id:Nat} {c:Code}:∀{l:List (Nat×Code)},(id,c)∈l->c∈VX id l
 | (i,d)::r,h=>by
  unfold VX
  rcases List.mem_cons.1 h with e|h
  ·cases e;simp [Nat.beq_refl]
  ·split
   ·exact List.mem_cons_of_mem _ (V9 h)
   ·exact V9 h
def QO (P:Program) (f:FuncId):Code:=match P.funcs[f]? with|some fn=>(match fn.body with|some b=>b|none=>.skip)|none=>.skip
def Va (P:Program) (f:FuncId) (id:Nat):Code:=match VX id (ZA (QO P f)) with|c::_=>c|[]=>.skip
def Zcp:Code->Code
 | .loop c=>c
 | _=>.skip
def XY (P:Program) (f:FuncId) (id:Nat):Bool:=match P.funcs[f]? with
 | some fn=>match fn.body with
  | some b=>match VX id (ZA b) with|[.loop _]=>true|_=>false
  | none=>false
 | none=>false
theorem Z1o {P:Program} {f:FuncId} {id:Nat} (h:XY P f id=true) {fn:Func} {body c:Code} (hf:P.funcs[f]? =some fn) (hb:fn.body=some body) (hm:(id,c)∈ZA body):c=.loop (Zcp (Va P f id)):=by
 have hc:=V9 hm
 simp only [XY,hf,hb] at h
 split at h
 ·rename_i d hd
  have hbo:QO P f=body:=by simp [QO,hf,hb]
  have hbl:Va P f id=.loop d:=by unfold Va;rw [hbo,hd]
  rw [hd] at hc
  rw [List.mem_singleton] at hc
  rw [hbl];exact hc
 ·cases h
def Zg.withL (G:Zg) (f:FuncId) (id:Nat) (S:Nat->St->KE->Prop):Zg:=
 { G with lsumm:=fun f' id'=>match Nat.beq f' f&&Nat.beq id' id with|true=>some S|false=>G.lsumm f' id'}
def Zg.withF (G:Zg) (f:FuncId) (S:Yf):Zg:=
 { G with fsumm:=fun f'=>match Nat.beq f' f with|true=>some S|false=>G.fsumm f'}
theorem Zg.withF_ok {G:Zg} (hG:G.Ok) {f:FuncId} {S:Yf} (h:∀args hp K,S args hp K->Zp G.P f args hp K):(G.withF f S).Ok where
 draw:=hG.draw
 psumm:=hG.psumm
 lsumm:=hG.lsumm
 fsumm:=fun f' S' args hp K hS hs=>by
  simp only [Zg.withF] at hS
  split at hS
  ·rename_i hb
   have:=Nat.eq_of_beq_eq_true hb
   subst this
   cases hS
   exact h args hp K hs
  ·exact hG.fsumm f' S' args hp K hS hs
def Zg.withP (G:Zg) (f:FuncId) (S:ZR):Zg:=
 { G with psumm:=fun f'=>match Nat.beq f' f with|true=>some S|false=>G.psumm f'}
theorem Zg.withP_ok {G:Zg} (hG:G.Ok) {f:FuncId} {S:ZR} (h:∀args hp K,S args hp K->Zp G.P f args hp fun o h'=>∃v,o=.ret v/\h'=hp/\K v):(G.withP f S).Ok where
 draw:=hG.draw
 lsumm:=hG.lsumm
 fsumm:=hG.fsumm
 psumm:=fun f' S' args hp K hS hs=>by
  simp only [Zg.withP] at hS
  split at hS
  ·rename_i hb
   have:=Nat.eq_of_beq_eq_true hb
   subst this
   cases hS
   exact h args hp K hs
  ·exact hG.psumm f' S' args hp K hS hs
@[irreducible] def ZG (G:Zg) (n:Nat) (f:FuncId) (id:Nat) (k:Nat) (s:St) (X:KE):Prop:=evC G (Z3W G n f none) k (Zcp (Va G.P f id)) s X
theorem Zg.withL_ok {G:Zg} (hG:G.Ok) {f:FuncId} {id:Nat} {S:Nat->St->KE->Prop} (h1:XY G.P f id=true)
  (h:∀k s X,S k s X->∃ι:Type,∃m:ι->Nat,∃I:ι->St,∃i n,Vi k s (I i)/\∀i,∃Y,ZG G n f id k (I i) Y/\∀e s,Y e s->Z9m k m I i X e s):(G.withL f id S).Ok where
 draw:=hG.draw
 psumm:=hG.psumm
 fsumm:=hG.fsumm
 lsumm:=fun f' id' S' fn c body hS hf hb hm k s X hs=>by
  simp only [Zg.withL] at hS
  split at hS
  ·rename_i hq
   rw [Bool.and_eq_true] at hq
   have e1:=Nat.eq_of_beq_eq_true hq.1
   have e2:=Nat.eq_of_beq_eq_true hq.2
   subst e1 e2
   cases hS
   have hc:=Z1o h1 hf hb hm
   obtain ⟨ι,m,I,i,n,hw,hr⟩:=h k s X hs
   subst hc
   refine YI.weak (ZaT m I X (fun i=> ?_) i) hw
   have hk:=UX hG n f' none
   obtain ⟨Y,hY,hYX⟩:=hr i
   unfold ZG at hY
   refine YI.mono ?_ hYX
   refine Z0Q (k:=k) (ro:=none) hG hk.1 (fun _=>rfl) (fun _=>rfl) (fun _=>⟨fn,body,by rw [hk.2.1];exact hf,hb,fun b hbm=>WR body id' _ hm b (by simpa [ZA] using hbm)⟩) hY
  ·exact hG.lsumm f' id' S' fn c body hS hf hb hm k s X hs
def Z5s:Code->List (Code×Code)
 | .seq a b=>Z5s a++Z5s b
 | .cond _ x y=>Z5s x++Z5s y
 | .block _ c=>Z5s c
 | .loop c=>Z5s c
 | .scope c=>Z5s c
 | .rangeFunc _ _ a b=>[(a,b)]
 | _=>[]
def rfA (P:Program) (f i:Nat):Code:=match (Z5s (QO P f))[i]? with|some (a,_)=>a|none=>.skip
def rfB (P:Program) (f i:Nat):Code:=match (Z5s (QO P f))[i]? with|some (_,b)=>b|none=>.skip
theorem nd {p x:Prop} [Decidable p] (hp:p) (hx:x):Z0 (decide p) x False:=by rw [decide_eq_true hp];exact hx
theorem ifB {b:Bool} {x y:Prop} (h1:b=true->x) (h2:b=false->y):Z0 b x y:=by
 cases b with
 | true=>exact h1 rfl
 | false=>exact h2 rfl
theorem ifD {p x y:Prop} [Decidable p] (h1:p->x) (h2:¬p->y):Z0 (decide p) x y:=ifB (fun h=>h1 (of_decide_eq_true h)) (fun h=>h2 (of_decide_eq_false h))
end Go.Tk
end
section
namespace Go.Tk
open IntKind (i64 u8 u32 u64 wrap)
def Env.bor (E:Env) (mv:Option Nat) (w:World) (t:Bool):Env:=
 ⟨fun y=>match t,y,mv with|true,0,some x=>E.blk x|_,_,_=>none,fun a c=>w.cell? a=some c/\∀x N,mv=some x->E.blk x=some (a.block,N)->False⟩
def AV.plain:AV->Bool
 | .top|.bool _|.int _ _|.str _|.ptr none|.eslice|.fslice|.nilslice|.map none|.nilFunc|.nilIface|.arr _ _ _=>true
 | _=>false
def Yy:List AV->Bool
 | []=>true
 | v::r=>v.plain&&Yy r
theorem Zk.plain {E E':Env} {v:AV} {r:Value} (h:Zk E v r) (hp:v.plain=true):Zk E' v r:=by
 cases h with
 | top=>exact .top _
 | bool b=>exact .bool b
 | int k n=>exact .int k n
 | str s=>exact .str s
 | nilptr=>exact .nilptr
 | eslice a=>exact .eslice a
 | fslice a cap=>exact .fslice a cap
 | nilslice=>exact .nilslice
 | nilmap=>exact .nilmap
 | nilFunc=>exact .nilFunc
 | nilIface=>exact .nilIface
 | _=>simp [AV.plain] at hp
theorem Zw.plain {E E':Env}:∀{cs:List AV} {vs:List Value},Zw E cs vs->Yy cs=true->Zw E' cs vs
 | _,_,.nil,_=>.nil
 | _,_,.one v c vs cs h0 h1 h t,hp=>by
  simp only [Yy,Bool.and_eq_true] at hp
  exact .one _ _ _ _ h0 h1 (h.plain hp.1) (Zw.plain t hp.2)
 | _,_,.arr k n xs vs cs t,hp=>by
  simp only [Yy,Bool.and_eq_true] at hp
  exact .arr _ _ _ _ _ (Zw.plain t hp.2)
def Z9n:List AV->Bool
 | .arr _ _ _::_=>true
 | _=>false
def Z0X (mv:Option Nat) (x:Nat):Bool:=match mv with|some y=>Nat.beq y x|none=>false
mutual
def Uu (mv:Option Nat) (h:Za) (t:Bool):Nat->AV->(AV->Prop)->Prop
 | 0,_,_=>False
 | d+1,v,K=>match v with
  | .top=>K .top
  | .bool b=>K (.bool b)
  | .int k n=>K (.int k n)
  | .str s=>K (.str s)
  | .ptr none=>K (.ptr none)
  | .eslice=>K .eslice
  | .fslice=>K .fslice
  | .nilslice=>K .nilslice
  | .map none=>K (.map none)
  | .nilFunc=>K .nilFunc
  | .nilIface=>K .nilIface
  | .pview cs inn=>K (.pview cs inn)
  | .vints k xs len=>K (.vints k xs len)
  | .vrows esz n f len=>K (.vrows esz n f len)
  | .ptr (some p)=>match Z0X mv p.blk with
   | true=>match t with|false=>False|true=>K (.ptr (some ⟨0,p.row,p.sz,p.off,p.inn⟩))
   | false=>match h.get p.blk with
    | some (.flat cs)=>match p.row,YO p.off cs with
     | 0,some rest=>Vz mv h false d rest fun rest'=>K (.pview rest' p.inn)
     | _,_=>False
    | some (.rows sz n f)=>match Nat.beq sz p.sz with
     | true=>Zx (p.row<n) (match YO p.off (f p.row) with
      | some rest=>Vz mv h false d rest fun rest'=>K (.pview rest' p.inn)
      | none=>False)
     | false=>False
    | _=>False
  | .nslice p esz len lo=>match Z0X mv p.blk with
   | true=>match t with|false=>False|true=>K (.nslice ⟨0,p.row,p.sz,p.off,p.inn⟩ esz len lo)
   | false=>match h.get p.blk with
    | some (.ints k xs)=>match Nat.beq esz 1 with
     | true=>Zx (p.tot+len<=xs.length) (K (.vints k ((YH p.tot xs).take len) len))
     | false=>False
    | some (.rows sz n f)=>match Nat.beq sz esz&&Nat.beq p.off 0&&Nat.beq p.inn 0&&(Nat.beq p.sz esz||Nat.beq p.row 0) with
     | true=>Zx (p.row+len<=n) ((∀i,i<len->Yy (ZT p.row f i)=true)/\K (.vrows esz len (ZT p.row f) len))
     | false=>False
    | some (.flat cs)=>match p.row,YO p.off cs with
     | 0,some rest=>match Z9n rest&&Nat.beq esz 1 with
      | true=>match rest with
       | .arr k n xs::_=>match Nat.beq esz 1,Nat.beq p.inn 0&&Nat.beq len n with
        | true,true=>Zx (xs.length=n) (K (.vints k xs len))
        | true,false=>Zx (xs.length=n/\p.inn+len<=n) (K (.vints k ((YH p.inn xs).take len) len))
        | false,_=>False
       | _=>False
      | false=>match Nat.beq p.inn 0,takeC (len*esz) rest with
       | true,some part=>Vz mv h false d part fun part'=>match Qy part' 0 esz len with
        | true=>K (.vrows esz len (YQ part' 0 esz) len)
        | false=>False
       | _,_=>False
     | _,_=>False
    | _=>False
  | .func (.func g) fs cs=>ZU mv h t d fs fun fs'=>ZU mv h t d cs fun cs'=>K (.func (.func g) fs' cs')
  | .iface T u=>Uu mv h t d u fun u'=>K (.iface T u')
  | .agg cs=>Vz mv h t d cs fun cs'=>K (.agg cs')
  | .tuple vs=>ZU mv h t d vs fun vs'=>K (.tuple vs')
  | _=>False
def Vz (mv:Option Nat) (h:Za) (t:Bool):Nat->List AV->(List AV->Prop)->Prop
 | 0,_,_=>False
 | d+1,l,K=>match l with
  | []=>K []
  | .arr k n xs::r=>Vz mv h t d r fun r'=>K (.arr k n xs::r')
  | v::r=>Uu mv h t d v fun v'=>match v'.isCell with
   | true=>Vz mv h t d r fun r'=>K (v'::r')
   | false=>False
def ZU (mv:Option Nat) (h:Za) (t:Bool):Nat->List AV->(List AV->Prop)->Prop
 | 0,_,_=>False
 | d+1,l,K=>match l with
  | []=>K []
  | v::r=>Uu mv h t d v fun v'=>ZU mv h t d r fun r'=>K (v'::r')
end
theorem Z4j {E:Env} {mv:Option Nat} {w:World} {t:Bool} {h:Za} (he:Emb E h w) (hm:∀x,mv=some x->∃B,h.get x=some B):E.views.le (E.bor mv w t).views:=
 ⟨fun _ _ hq=>by simp [Env.views] at hq,fun a c hi=>⟨he.imm a c hi,fun x N hx hb=>let ⟨B,hB⟩:=hm x hx;he.sep a c x B N hi hB hb⟩⟩
theorem Z5t {E:Env} {mv:Option Nat} {w:World} {t:Bool} {h:Za} (he:Emb E h w) (hm:∀x,mv=some x->∃B,h.get x=some B) {a:Addr} {c:Value} (hi:E.imm a c):(E.bor mv w t).imm a c:=
 ⟨he.imm a c hi,fun x N hx hb=>let ⟨B,hB⟩:=hm x hx;he.sep a c x B N hi hB hb⟩
theorem WS {E:Env} {mv:Option Nat} {w:World} {t:Bool} {h:Za} (he:Emb E h w) (hm:∀x,mv=some x->∃B,h.get x=some B) {y b N o:Nat} {B:Blk} (hy:h.get y=some B) (hb:E.blk y=some (b,N)) (hn:Z0X mv y=false) {c:Value}
  (hc:w.cell? ⟨b,o,none⟩=some c):(E.bor mv w t).imm ⟨b,o,none⟩ c:=
 ⟨hc,fun x N' hx hbx=>by
  obtain ⟨C,hC⟩:=hm x hx
  have:=he.disj x y C B b N' N hC hy hbx hb
  subst this
  simp [Z0X,hx,Nat.beq_refl] at hn⟩
theorem Z4k {E:Env} {mv:Option Nat} {w:World} {x:Nat} (h:Z0X mv x=true):(E.bor mv w true).blk 0=E.blk x:=by
 unfold Z0X at h
 split at h
 ·have:=Nat.eq_of_beq_eq_true h
  subst this
  rfl
 ·cases h
theorem addr_add (b o j:Nat):(⟨b,o,none⟩:Addr).add j=⟨b,o+j,none⟩:=by
 unfold Addr.add
 split
 ·rename_i h;subst h;rfl
 ·rfl
theorem Z1W {cells:Array Value} {vs:List Value} (hv:∀(j:Nat) (c:Value),vs[j]? =some c->cells[j]? =some c) {w:World} {b:Nat} {elem:TypeId} {fr:Nat×Nat} (hw:w.heap[b]? =some (.cells cells elem fr)) {j:Nat} {c:Value} (h:vs[j]? =some c):
  w.cell? ⟨b,j,none⟩=some c:=by rw [cell_of_heap hw];exact hv j c h
set_option maxHeartbeats 2000000 in
mutual
theorem Z0g {mv:Option Nat} {h:Za} (hm:∀x,mv=some x->∃B,h.get x=some B):∀(d:Nat) (t:Bool) (v:AV) (K:AV->Prop),Uu mv h t d v K->∃v₀,K v₀/\∀(E:Env) (w:World) (r:Value),Emb E h w->Zk E v r->Zk (E.bor mv w t) v₀ r
 | 0,t,v,K,hl=>by unfold Uu at hl;exact hl.elim
 | d+1,t,v,K,hl=>by
  unfold Uu at hl
  split at hl
  ·exact ⟨_,hl,fun E w r he hv=>.top r⟩
  ·exact ⟨_,hl,fun E w r he hv=>hv.plain rfl⟩
  ·exact ⟨_,hl,fun E w r he hv=>hv.plain rfl⟩
  ·exact ⟨_,hl,fun E w r he hv=>hv.plain rfl⟩
  ·exact ⟨_,hl,fun E w r he hv=>hv.plain rfl⟩
  ·exact ⟨_,hl,fun E w r he hv=>hv.plain rfl⟩
  ·exact ⟨_,hl,fun E w r he hv=>hv.plain rfl⟩
  ·exact ⟨_,hl,fun E w r he hv=>hv.plain rfl⟩
  ·exact ⟨_,hl,fun E w r he hv=>hv.plain rfl⟩
  ·exact ⟨_,hl,fun E w r he hv=>hv.plain rfl⟩
  ·exact ⟨_,hl,fun E w r he hv=>hv.plain rfl⟩
  ·refine ⟨_,hl,fun E w r he hv=> ?_⟩
   cases hv with
   | pview cs inn a vs hc hi=>exact .pview _ _ a vs (hc.mono (Z4j he hm)) (fun j c hj=>Z5t he hm (hi j c hj))
  ·refine ⟨_,hl,fun E w r he hv=> ?_⟩
   cases hv with
   | vintsNil k xs len h1 h2=>exact .vintsNil _ _ _ h1 h2
   | vints k xs len a cap h1 h2 hi=>exact .vints _ _ _ a cap h1 h2 (fun i hi'=>Z5t he hm (hi i hi'))
  ·refine ⟨_,hl,fun E w r he hv=> ?_⟩
   cases hv with
   | vrowsNil esz n f len h1 h2=>exact .vrowsNil _ _ _ _ h1 h2
   | vrows esz n f len a cap g h1 h2 hc hl' hi=>exact .vrows _ _ _ _ a cap g h1 h2 (fun i hi'=>(hc i hi').mono (Z4j he hm)) hl' (fun i j c hi' hj=>Z5t he hm (hi i j c hi' hj))
  ·rename_i p
   split at hl
   ·rename_i hmv
    split at hl
    ·exact hl.elim
    ·refine ⟨_,hl,fun E w r he hv=> ?_⟩
     cases hv with
     | ptr p b N hb=>exact .ptr ⟨0,p.row,p.sz,p.off,p.inn⟩ b N (by rw [Z4k hmv];exact hb)
   ·rename_i hmv
    split at hl
    ·rename_i cs hg
     split at hl
     ·rename_i rest hrow hrest
      obtain ⟨rest',hK,hr⟩:=VA hm d false rest _ hl
      refine ⟨_,hK,fun E w r he hv=> ?_⟩
      cases hv with
      | ptr p b N hb=>
       cases he.own _ _ hg with
       | flat0 cs h0 hn=>rw [hn] at hb;cases hb
       | flat cs b' cells elem fr vs hb' hw hf hc hvs=>
        rw [hb] at hb'
        cases hb'
        have hd:=(Y3 _ _ _ _ hrest hc).1
        have e:(⟨b,p.tot,none⟩:Addr)=(⟨b,p.off,none⟩:Addr).add p.inn:=by rw [addr_add];simp [ZF.tot,hrow]
        rw [e]
        refine .pview _ _ ⟨b,p.off,none⟩ _ (hr E w _ he hd) (fun j c hj=> ?_)
        rw [addr_add]
        refine WS he hm hg hb hmv (Z1W hvs hw ?_)
        rw [List.getElem?_drop] at hj
        exact hj
     ·exact hl.elim
    ·rename_i sz n f hg
     split at hl
     ·rename_i hsz
      have hsz:=Nat.eq_of_beq_eq_true hsz
      obtain ⟨hrow,hl⟩:=Ze hl
      split at hl
      ·rename_i rest hrest
       obtain ⟨rest',hK,hr⟩:=VA hm d false rest _ hl
       refine ⟨_,hK,fun E w r he hv=> ?_⟩
       cases hv with
       | ptr p b N hb=>
        cases he.own _ _ hg with
        | rows0 sz n f h0 hn=>omega
        | rows sz n f b' cells elem fr g hb' hw hf hc hlg hvs=>
         rw [hb] at hb'
         cases hb'
         have hd:=(Y3 _ _ _ _ hrest (hc _ hrow)).1
         have e:(⟨b,p.tot,none⟩:Addr)=(⟨b,p.row*sz+p.off,none⟩:Addr).add p.inn:=by rw [addr_add];simp [ZF.tot,hsz]
         rw [e]
         refine .pview _ _ ⟨b,p.row*sz+p.off,none⟩ _ (hr E w _ he hd) (fun j c hj=> ?_)
         rw [addr_add]
         refine WS he hm hg hb hmv ?_
         rw [List.getElem?_drop] at hj
         rw [cell_of_heap hw,Nat.add_assoc]
         exact hvs _ _ _ hrow hj
      ·exact hl.elim
     ·exact hl.elim
    ·exact hl.elim
  ·rename_i p esz len lo
   split at hl
   ·rename_i hmv
    split at hl
    ·exact hl.elim
    ·refine ⟨_,hl,fun E w r he hv=> ?_⟩
     cases hv with
     | nslice0 p esz len lo a h1 h2=>exact .nslice0 _ _ _ _ a h1 h2
     | nslice p esz len lo b N cap hb h1 h2 h3=>exact .nslice ⟨0,p.row,p.sz,p.off,p.inn⟩ _ _ _ b N cap (by rw [Z4k hmv];exact hb) h1 h2 h3
   ·rename_i hmv
    split at hl
    ·rename_i k xs hg
     split at hl
     ·rename_i hes
      have hes:=Nat.eq_of_beq_eq_true hes
      subst hes
      obtain ⟨hle,hK⟩:=Ze hl
      have hlen:((YH p.tot xs).take len).length=len:=by rw [Yw,List.length_take,List.length_drop];omega
      refine ⟨_,hK,fun E w r he hv=> ?_⟩
      cases hv with
      | nslice0 p esz len lo a h1 h2=>
       subst h1
       cases a with
       | none=>exact .vintsNil _ _ _ (by simp) rfl
       | some a=>exact .vints _ _ _ a 0 (by simp) (by simp) (fun i hi=>by simp at hi)
      | nslice p esz len lo b N cap hb h1 h2 h3=>
       refine .vints _ _ _ _ cap (by omega) (by omega) (fun i hi=> ?_)
       rw [hlen] at hi
       rw [addr_add]
       refine WS he hm hg hb hmv ?_
       cases he.own _ _ hg with
       | ints0 k xs h0 hn=>rw [hn] at hb;cases hb
       | ints k xs b' cells elem fr hb' hw hf hvs=>
        rw [hb] at hb'
        cases hb'
        rw [cell_of_heap hw,hvs _ (by omega)]
        congr 2
        rw [Yw]
        simp [List.getD_eq_getElem?_getD,hi,List.getElem?_drop]
     ·exact hl.elim
    ·rename_i sz n f hg
     split at hl
     ·rename_i hb
      simp only [Bool.and_eq_true,Bool.or_eq_true] at hb
      obtain ⟨⟨⟨q1,q2⟩,q3⟩,q4⟩:=hb
      have q1:=Nat.eq_of_beq_eq_true q1
      have q2:=Nat.eq_of_beq_eq_true q2
      have q3:=Nat.eq_of_beq_eq_true q3
      obtain ⟨hle,hpl,hK⟩:=Ze hl
      refine ⟨_,hK,fun E w r he hv=> ?_⟩
      have htot:p.tot=p.row*sz:=by
       rcases q4 with q4|q4
       ·have:=Nat.eq_of_beq_eq_true q4;simp [ZF.tot,q2,q3,this,q1]
       ·have:=Nat.eq_of_beq_eq_true q4;simp [ZF.tot,q2,q3,this]
      cases hv with
      | nslice0 p esz len lo a h1 h2=>
       subst h1
       cases a with
       | none=>exact .vrowsNil _ _ _ _ rfl rfl
       | some a=>exact .vrows _ _ _ _ a 0 (fun _=>[]) (by omega) (by omega) (fun i hi=>by omega) (fun i hi=>by omega) (fun i j c hi=>by omega)
      | nslice p esz len lo b N cap hb h1 h2 h3=>
       cases he.own _ _ hg with
       | rows0 sz n f h0 hn=>rw [hn] at hb;cases hb
       | rows sz n f b' cells elem fr g hb' hw hf hc hlg hvs=>
        rw [hb] at hb'
        cases hb'
        refine .vrows _ _ _ _ _ cap (fun i=>g (p.row+i)) (by omega) h1 (fun i hi=> ?_) (fun i hi=>by rw [<-q1];exact hlg _ (by omega)) (fun i j c hi hj=> ?_)
        ·have:=hc (p.row+i) (by omega)
         have hp:=hpl i hi
         rw [Z0I] at hp⊢
         exact this.plain hp
        ·rw [addr_add]
         refine WS he hm hg hb hmv ?_
         rw [cell_of_heap hw,htot,<-q1]
         have:=hvs (p.row+i) j c (by omega) hj
         rw [Nat.add_mul] at this
         rw [show p.row*sz+(i*sz+j)=p.row*sz+i*sz+j by omega]
         exact this
     ·exact hl.elim
    ·rename_i cs hg
     split at hl
     ·rename_i rest hrow hrest
      have hbase:∀(E:Env) (w:World) (b N:Nat),Emb E h w->E.blk p.blk=some (b,N)->∃vs,Zw E rest vs/\∀j c,vs[j]? =some c->w.cell? ⟨b,p.off+j,none⟩=some c:=by
       intro E w b N he hb
       cases he.own _ _ hg with
       | flat0 cs h0 hn=>rw [hn] at hb;cases hb
       | flat cs b' cells elem fr vs hb' hw hf hc hvs=>
        rw [hb] at hb'
        cases hb'
        refine ⟨_,(Y3 _ _ _ _ hrest hc).1,fun j c hj=> ?_⟩
        rw [List.getElem?_drop] at hj
        exact Z1W hvs hw hj
      split at hl
      ·split at hl
       ·rename_i k n xs rest2 harr
        split at hl
        ·rename_i hes hbb
         have hes:=Nat.eq_of_beq_eq_true hes
         subst hes
         rw [Bool.and_eq_true] at hbb
         have e1:=Nat.eq_of_beq_eq_true hbb.1
         have e2:=Nat.eq_of_beq_eq_true hbb.2
         obtain ⟨hxl,hK⟩:=Ze hl
         refine ⟨_,hK,fun E w r he hv=> ?_⟩
         cases hv with
         | nslice0 p esz len lo a h1 h2=>
          have hx0:xs=[]:=by
           have:xs.length=0:=by omega
           exact List.length_eq_zero_iff.1 this
          subst hx0
          subst h1
          cases a with
          | none=>exact .vintsNil _ _ _ rfl rfl
          | some a=>exact .vints _ _ _ a 0 (by simp) (by simp) (fun i hi=>by simp at hi)
         | nslice p esz len lo b N cap hb h1 h2 h3=>
          obtain ⟨vs,hcr,hcell⟩:=hbase E w b N he hb
          obtain ⟨ws,rfl,_⟩:=Zw.cons_arr hcr
          refine .vints _ _ _ _ cap (by omega) (by omega) (fun i hi=> ?_)
          rw [addr_add]
          refine WS he hm hg hb hmv ?_
          have:=hcell i (.int k (xs.getD i 0)) (by
           rw [List.getElem?_append_left (by rw [Z9];omega),Zt (by omega)])
          rw [show p.tot+i=p.off+i by simp [ZF.tot,hrow,e1]]
          exact this
        ·rename_i hes hbb
         have hes:=Nat.eq_of_beq_eq_true hes
         subst hes
         obtain ⟨⟨hxl,hle⟩,hK⟩:=Ze hl
         have hlen:((YH p.inn xs).take len).length=len:=by rw [Yw,List.length_take,List.length_drop];omega
         refine ⟨_,hK,fun E w r he hv=> ?_⟩
         cases hv with
         | nslice0 p esz len lo a h1 h2=>
          subst h1
          cases a with
          | none=>exact .vintsNil _ _ _ (by simp) rfl
          | some a=>exact .vints _ _ _ a 0 (by simp) (by simp) (fun i hi=>by simp at hi)
         | nslice p esz len lo b N cap hb h1 h2 h3=>
          obtain ⟨vs,hcr,hcell⟩:=hbase E w b N he hb
          obtain ⟨ws,rfl,_⟩:=Zw.cons_arr hcr
          refine .vints _ _ _ _ cap (by omega) (by omega) (fun i hi=> ?_)
          rw [hlen] at hi
          rw [addr_add]
          refine WS he hm hg hb hmv ?_
          have:=hcell (p.inn+i) (.int k (xs.getD (p.inn+i) 0)) (by
           rw [List.getElem?_append_left (by rw [Z9];omega),Zt (by omega)])
          rw [show p.tot+i=p.off+(p.inn+i) by simp [ZF.tot,hrow];omega]
          rw [this]
          congr 2
          rw [Yw]
          simp [List.getD_eq_getElem?_getD,hi,List.getElem?_drop]
        ·exact hl.elim
       ·exact hl.elim
      ·split at hl
       ·rename_i part hinn hpart
        have hinn:=Nat.eq_of_beq_eq_true hinn
        obtain ⟨part',hK,hr⟩:=VA hm d false part _ hl
        split at hK
        ·rename_i hrows
         refine ⟨_,hK,fun E w r he hv=> ?_⟩
         cases hv with
         | nslice0 p esz len lo a h1 h2=>
          subst h1
          cases a with
          | none=>exact .vrowsNil _ _ _ _ rfl rfl
          | some a=>exact .vrows _ _ _ _ a 0 (fun _=>[]) (by omega) (by omega) (fun i hi=>by omega) (fun i hi=>by omega) (fun i j c hi=>by omega)
         | nslice p esz len lo b N cap hb h1 h2 h3=>
          obtain ⟨vs,hcr,hcell⟩:=hbase E w b N he hb
          have hpr:=(Vn _ _ _ _ hpart hcr).1
          have hpr':=hr E w _ he hpr
          refine .vrows _ _ _ _ _ cap (fun i=>((vs.take (len*esz)).drop (0+i*esz)).take esz) (by omega) h1 (fun i hi=>(XP (Xb hrows i hi) hpr').1) (fun i hi=>(XP (Xb hrows i hi) hpr').2) (fun i j c hi hj=> ?_)
          rw [addr_add]
          refine WS he hm hg hb hmv ?_
          rw [List.getElem?_take] at hj
          split at hj
          ·rw [List.getElem?_drop,List.getElem?_take] at hj
           split at hj
           ·have:=hcell _ _ hj
            rw [show p.tot+(i*esz+j)=p.off+(0+i*esz+j) by simp [ZF.tot,hrow,hinn]]
            exact this
           ·cases hj
          ·cases hj
        ·exact hK.elim
       ·exact hl.elim
     ·exact hl.elim
    ·exact hl.elim
  ·obtain ⟨fs',hl,h1⟩:=Wh hm d t _ _ hl
   obtain ⟨cs',hl,h2⟩:=Wh hm d t _ _ hl
   refine ⟨_,hl,fun E w r he hv=> ?_⟩
   cases hv with
   | func fn first captured fs cs ha hb=>exact .func _ _ _ _ _ (h1 E w _ he ha) (h2 E w _ he hb)
  ·obtain ⟨u',hl,h1⟩:=Z0g hm d t _ _ hl
   refine ⟨_,hl,fun E w r he hv=> ?_⟩
   cases hv with
   | iface T v x hx=>exact .iface _ _ _ (h1 E w _ he hx)
  ·obtain ⟨cs',hl,h1⟩:=VA hm d t _ _ hl
   refine ⟨_,hl,fun E w r he hv=> ?_⟩
   cases hv with
   | agg cs vs hc=>exact .agg _ _ (h1 E w _ he hc)
  ·obtain ⟨vs',hl,h1⟩:=Wh hm d t _ _ hl
   refine ⟨_,hl,fun E w r he hv=> ?_⟩
   cases hv with
   | tuple vs rs hc=>exact .tuple _ _ (h1 E w _ he hc)
  ·exact hl.elim
theorem VA {mv:Option Nat} {h:Za} (hm:∀x,mv=some x->∃B,h.get x=some B):∀(d:Nat) (t:Bool) (l:List AV) (K:List AV->Prop),Vz mv h t d l K->∃l₀,K l₀/\∀(E:Env) (w:World) (r:List Value),Emb E h w->Zw E l r->Zw (E.bor mv w t) l₀ r
 | 0,t,l,K,hl=>by unfold Vz at hl;exact hl.elim
 | d+1,t,l,K,hl=>by
  unfold Vz at hl
  split at hl
  ·exact ⟨_,hl,fun E w r he hv=>by cases hv;exact .nil⟩
  ·obtain ⟨r',hl,h1⟩:=VA hm d t _ _ hl
   refine ⟨_,hl,fun E w r he hv=> ?_⟩
   obtain ⟨ws,rfl,ht⟩:=Zw.cons_arr hv
   exact .arr _ _ _ _ _ (h1 E w _ he ht)
  ·rename_i v r hna
   obtain ⟨v',hl,h1⟩:=Z0g hm d t _ _ hl
   split at hl
   ·rename_i hcell
    obtain ⟨r',hl,h2⟩:=VA hm d t _ _ hl
    refine ⟨_,hl,fun E w q he hv=> ?_⟩
    obtain ⟨c,ws,rfl,q1,q2,q3,q4⟩:=Zw.cons_cell hv (fun k m xs e=>hna k m xs e)
    exact .one _ _ _ _ hcell q2 (h1 E w _ he q3) (h2 E w _ he q4)
   ·exact hl.elim
theorem Wh {mv:Option Nat} {h:Za} (hm:∀x,mv=some x->∃B,h.get x=some B):∀(d:Nat) (t:Bool) (l:List AV) (K:List AV->Prop),ZU mv h t d l K->∃l₀,K l₀/\∀(E:Env) (w:World) (r:List Value),Emb E h w->ZK E l r->ZK (E.bor mv w t) l₀ r
 | 0,t,l,K,hl=>by unfold ZU at hl;exact hl.elim
 | d+1,t,l,K,hl=>by
  unfold ZU at hl
  split at hl
  ·exact ⟨_,hl,fun E w r he hv=>by cases hv;exact .nil⟩
  ·obtain ⟨v',hl,h1⟩:=Z0g hm d t _ _ hl
   obtain ⟨r',hl,h2⟩:=Wh hm d t _ _ hl
   refine ⟨_,hl,fun E w q he hv=> ?_⟩
   cases hv with
   | cons v c vs cs ha hb=>exact .cons _ _ _ _ (h1 E w _ he ha) (h2 E w _ he hb)
end
end Go.Tk
end
section
namespace Go.Tk
open IntKind (i64 u8 u32 u64 wrap)
def ZC (P:Program) (f:FuncId) (args:List AV) (v:AV) (nx:Nat) (bs:List (Nat×Blk)):Prop:=
 ∀(E:Env) (w:World) (rs:List Value),Emb E ⟨0,[]⟩ w->ZK E args rs->Calls P f rs.toArray w fun e w'=>∃E' r,e=.returned r/\Evo E ⟨0,[]⟩ w E' ⟨nx,bs⟩ w'/\Zk E' v r
def Z3X (P:Program) (f:FuncId) (args:List AV) (B:Blk) (v:AV) (B':Blk):Prop:=
 ∀(E:Env) (w:World) (rs:List Value),Emb E ⟨1,[(0,B)]⟩ w->ZK E args rs->Calls P f rs.toArray w fun e w'=>∃E' r,e=.returned r/\Evo E ⟨1,[(0,B)]⟩ w E' ⟨1,[(0,B')]⟩ w'/\Zk E' v r
def XN (k:Nat) (τ:Ren) (v:AV) (nx:Nat) (bs:List (Nat×Blk)):KO:=fun o h=>match o with
 | .ret u=>YU k τ ⟨1,[(0,v)],⟨nx,bs⟩,[]⟩ ⟨1,[(0,u)],h,[]⟩ True
 | .panic _=>False
theorem QP {P:Program} {f:FuncId} {args:List AV} {h0:Za} {τ:Ren} {v:AV} {nx:Nat} {bs:List (Nat×Blk)} (h:Zp P f args h0 (XN h0.next τ v nx bs)) {E:Env} {w:World} {rs:List Value} (he:Emb E h0 w) (hl:ZK E args rs):
  Calls P f rs.toArray w fun e w'=>∃E' r,e=.returned r/\Evo E h0 w E' ⟨nx,bs⟩ w'/\Zk E' v r:=by
 refine (h E w rs he hl).mono ?_
 rintro e w' ⟨E',o,h',hK,hev,ho⟩
 cases ho with
 | panic v r h=>exact hK.elim
 | ret u r hr=>
  obtain ⟨_,hw⟩:=Yn hK
  obtain ⟨E₂,hs,hev₂⟩:=hw E h0 w E' { tmps:= #[r],defers:=[]} w' he.fresh ⟨hev.emb,⟨rfl,fun x u' hx=>by
   simp only [ZY] at hx
   split at hx
   ·rename_i hb
    have:=Nat.eq_of_beq_eq_true hb
    subst this
    cases hx
    exact hr
   ·cases hx⟩,.nil⟩ hev
  exact ⟨E₂,r,rfl,hev₂,by simpa using hs.tmps.get 0 v rfl⟩
theorem ZC.of {P:Program} {f:FuncId} {args:List AV} {τ:Ren} {v:AV} {nx:Nat} {bs:List (Nat×Blk)} (h:Zp P f args ⟨0,[]⟩ (XN 0 τ v nx bs)):ZC P f args v nx bs:=
 fun _ _ _ he hl=>QP h he hl
theorem Z3X.of {P:Program} {f:FuncId} {args:List AV} {τ:Ren} {B:Blk} {v:AV} {B':Blk} (h:Zp P f args ⟨1,[(0,B)]⟩ (XN 1 τ v 1 [(0,B')])):Z3X P f args B v B':=
 fun _ _ _ he hl=>QP h he hl
def shP (d:Nat) (p:ZF):ZF:=⟨d+p.blk,p.row,p.sz,p.off,p.inn⟩
mutual
def shV (d:Nat):AV->Option AV
 | .top=>some .top
 | .bool b=>some (.bool b)
 | .int k n=>some (.int k n)
 | .str s=>some (.str s)
 | .ptr none=>some (.ptr none)
 | .ptr (some p)=>some (.ptr (some (shP d p)))
 | .nslice p esz len lo=>some (.nslice (shP d p) esz len lo)
 | .eslice=>some .eslice
 | .fslice=>some .fslice
 | .nilslice=>some .nilslice
 | .map none=>some (.map none)
 | .map (some x)=>some (.map (some (d+x)))
 | .nilFunc=>some .nilFunc
 | .nilIface=>some .nilIface
 | .iface t v=>match shV d v with|some v'=>some (.iface t v')|none=>none
 | .agg cs=>match shC d cs with|some cs'=>some (.agg cs')|none=>none
 | .tuple vs=>match shL d vs with|some vs'=>some (.tuple vs')|none=>none
 | _=>none
def shC (d:Nat):List AV->Option (List AV)
 | []=>some []
 | .arr k n xs::r=>match shC d r with|some r'=>some (.arr k n xs::r')|none=>none
 | v::r=>match shV d v,shC d r with
  | some v',some r'=>match v'.isCell with|true=>some (v'::r')|false=>none
  | _,_=>none
def shL (d:Nat):List AV->Option (List AV)
 | []=>some []
 | v::r=>match shV d v,shL d r with
  | some v',some r'=>some (v'::r')
  | _,_=>none
end
mutual
theorem Z5u {d:Nat} {E E':Env} (hb:∀x r,E.blk x=some r->E'.blk (d+x)=some r):∀(v v':AV) (r:Value),shV d v=some v'->Zk E v r->Zk E' v' r
 | .top,v',r,h,hv=>by simp [shV] at h;subst h;exact .top r
 | .bool b,v',r,h,hv=>by simp [shV] at h;subst h;exact hv.plain rfl
 | .int k n,v',r,h,hv=>by simp [shV] at h;subst h;exact hv.plain rfl
 | .str s,v',r,h,hv=>by simp [shV] at h;subst h;exact hv.plain rfl
 | .ptr none,v',r,h,hv=>by simp [shV] at h;subst h;exact hv.plain rfl
 | .ptr (some p),v',r,h,hv=>by
  simp [shV] at h;subst h
  cases hv with
  | ptr p b N hq=>exact .ptr (shP d p) b N (hb _ _ hq)
 | .pview _ _,v',r,h,hv=>by simp [shV] at h
 | .nslice p esz len lo,v',r,h,hv=>by
  simp [shV] at h;subst h
  cases hv with
  | nslice0 p esz len lo a h1 h2=>exact .nslice0 _ _ _ _ a h1 h2
  | nslice p esz len lo b N cap hq h1 h2 h3=>exact .nslice (shP d p) _ _ _ b N cap (hb _ _ hq) h1 h2 h3
 | .vints _ _ _,v',r,h,hv=>by simp [shV] at h
 | .vrows _ _ _ _,v',r,h,hv=>by simp [shV] at h
 | .eslice,v',r,h,hv=>by simp [shV] at h;subst h;exact hv.plain rfl
 | .fslice,v',r,h,hv=>by simp [shV] at h;subst h;exact hv.plain rfl
 | .nilslice,v',r,h,hv=>by simp [shV] at h;subst h;exact hv.plain rfl
 | .map none,v',r,h,hv=>by simp [shV] at h;subst h;exact hv.plain rfl
 | .map (some x),v',r,h,hv=>by
  simp [shV] at h;subst h
  cases hv with
  | map x b N hq=>exact .map _ b N (hb _ _ hq)
 | .func _ _ _,v',r,h,hv=>by simp [shV] at h
 | .yield _,v',r,h,hv=>by simp [shV] at h
 | .nilFunc,v',r,h,hv=>by simp [shV] at h;subst h;exact hv.plain rfl
 | .nilIface,v',r,h,hv=>by simp [shV] at h;subst h;exact hv.plain rfl
 | .iface t v,v',r,h,hv=>by
  unfold shV at h
  split at h
  ·rename_i u hu
   cases h
   cases hv with
   | iface t v x hx=>exact .iface _ _ _ (Z5u hb _ _ _ hu hx)
  ·cases h
 | .agg cs,v',r,h,hv=>by
  unfold shV at h
  split at h
  ·rename_i u hu
   cases h
   cases hv with
   | agg cs vs hc=>exact .agg _ _ (Z8c hb _ _ _ hu hc)
  ·cases h
 | .arr _ _ _,v',r,h,hv=>by simp [shV] at h
 | .tuple vs,v',r,h,hv=>by
  unfold shV at h
  split at h
  ·rename_i u hu
   cases h
   cases hv with
   | tuple vs rs hc=>exact .tuple _ _ (Zcq hb _ _ _ hu hc)
  ·cases h
theorem Z8c {d:Nat} {E E':Env} (hb:∀x r,E.blk x=some r->E'.blk (d+x)=some r):∀(l l':List AV) (r:List Value),shC d l=some l'->Zw E l r->Zw E' l' r
 | [],l',r,h,hv=>by simp [shC] at h;subst h;cases hv;exact .nil
 | v::q,l',r,h,hv=>by
  unfold shC at h
  split at h
  ·rename_i heq;cases heq
  ·rename_i k n xs q' heq
   cases heq
   split at h
   ·rename_i u hu
    cases h
    obtain ⟨ws,rfl,ht⟩:=Zw.cons_arr hv
    exact .arr _ _ _ _ _ (Z8c hb _ _ _ hu ht)
   ·cases h
  ·rename_i v0 q' hna heq
   cases heq
   split at h
   ·rename_i u us hu hus
    split at h
    ·rename_i hcell
     cases h
     obtain ⟨c,ws,rfl,q1,q2,q3,q4⟩:=Zw.cons_cell hv (fun k m xs e=>hna k m xs e)
     exact .one _ _ _ _ hcell q2 (Z5u hb _ _ _ hu q3) (Z8c hb _ _ _ hus q4)
    ·cases h
   ·cases h
theorem Zcq {d:Nat} {E E':Env} (hb:∀x r,E.blk x=some r->E'.blk (d+x)=some r):∀(l l':List AV) (r:List Value),shL d l=some l'->ZK E l r->ZK E' l' r
 | [],l',r,h,hv=>by simp [shL] at h;subst h;cases hv;exact .nil
 | v::q,l',r,h,hv=>by
  unfold shL at h
  split at h
  ·rename_i u us hu hus
   cases h
   cases hv with
   | cons v c vs cs ha hb'=>exact .cons _ _ _ _ (Z5u hb _ _ _ hu ha) (Zcq hb _ _ _ hus hb')
  ·cases h
end
def Z6u (d:Nat):List (Nat×Blk)->List (Nat×Blk)
 | []=>[]
 | (x,B)::r=>(d+x,B)::Z6u d r
inductive Vj:Blk->Prop
 | ints (k:IntKind) (xs:List Int):Vj (.ints k xs)
 | flat (cs:List AV) (h:Yy cs=true):Vj (.flat cs)
 | rows (sz n:Nat) (f:Nat->List AV) (h:∀i,i<n->Yy (f i)=true):Vj (.rows sz n f)
def Z1X (nx:Nat):List (Nat×Blk)->Prop
 | []=>True
 | (x,B)::r=>x<nx/\Vj B/\Z1X nx r
theorem Vj.move {E E':Env} {w:World} {x y:Nat} {B:Blk} (hp:Vj B) (he:E'.blk y=E.blk x) (h:YN E w x B):YN E' w y B:=by
 cases h with
 | flat0 cs h0 hn=>exact .flat0 _ h0 (he.trans hn)
 | flat cs b cells elem fr vs hb hw hf hc hv=>cases hp with|flat _ h=>exact .flat _ b cells elem fr vs (he.trans hb) hw hf (hc.plain h) hv
 | ints0 k xs h0 hn=>exact .ints0 _ _ h0 (he.trans hn)
 | ints k xs b cells elem fr hb hw hf hv=>exact .ints _ _ b cells elem fr (he.trans hb) hw hf hv
 | rows0 sz n f h0 hn=>exact .rows0 _ _ _ h0 (he.trans hn)
 | rows sz n f b cells elem fr g hb hw hf hc hl hv=>cases hp with|rows _ _ _ h=>exact .rows _ _ _ b cells elem fr g (he.trans hb) hw hf (fun i hi=>(hc i hi).plain (h i hi)) hl hv
 | map es b ents clock hb hw hk hv=>cases hp
 | fmap n kf vf b ents clock hb hw hl hk hv=>cases hp
 | loop l b d N fnr tm hb hd hw ht=>cases hp
 | defd b hb hw=>cases hp
def Uv:List (Nat×Blk)->List (Nat×Blk)->List (Nat×Blk)
 | [],l=>l
 | p::r,l=>p::Uv r l
theorem Z4l (a b:List (Nat×Blk)) (y:Nat):ZO (Uv a b) y=match ZO a y with|some B=>some B|none=>ZO b y:=by
 induction a with
 | nil=>rfl
 | cons p r ih=>
  obtain ⟨z,C⟩:=p
  simp only [Uv,ZO]
  cases Nat.beq z y with
  | true=>rfl
  | false=>exact ih
theorem Z9o {d:Nat}:∀(bs:List (Nat×Blk)) (y:Nat) (B:Blk),ZO (Z6u d bs) y=some B->∃x,y=d+x/\ZO bs x=some B
 | [],y,B,h=>by simp [Z6u,ZO] at h
 | (z,C)::r,y,B,h=>by
  simp only [Z6u,ZO] at h
  split at h
  ·rename_i hb
   have:=Nat.eq_of_beq_eq_true hb
   cases h
   exact ⟨z,this.symm,by simp [ZO,Nat.beq_refl]⟩
  ·rename_i hb
   obtain ⟨x,rfl,hx⟩:=Z9o r y B h
   refine ⟨x,rfl, ?_⟩
   simp only [ZO]
   have:Nat.beq z x=false:=by
    cases hq:Nat.beq z x with
    | false=>rfl
    | true=>have:=Nat.eq_of_beq_eq_true hq;subst this;simp [Nat.beq_refl] at hb
   rw [this]
   exact hx
theorem Uw {nx:Nat}:∀{bs:List (Nat×Blk)},Z1X nx bs->∀x B,ZO bs x=some B->x<nx/\Vj B
 | (z,C)::r,h,x,B,hx=>by
  obtain ⟨h1,h2,h3⟩:=h
  simp only [ZO] at hx
  split at hx
  ·rename_i hb
   have:=Nat.eq_of_beq_eq_true hb
   subst this
   cases hx
   exact ⟨h1,h2⟩
  ·exact Uw h3 x B hx
theorem Zcr {E:Env} {w:World}:Emb (E.bor none w true) ⟨0,[]⟩ w where
 fresh:=fun x _=>by cases x<;>rfl
 lt:=fun x B h=>by simp [Za.get,ZO] at h
 own:=fun x B h=>by simp [Za.get,ZO] at h
 disj:=fun x y B B' b N N' h=>by simp [Za.get,ZO] at h
 imm:=fun a c h=>h.1
 sep:=fun a c x B N _ h=>by simp [Za.get,ZO] at h
theorem ZC.calls {P:Program} {f:FuncId} {args₀ args:List AV} {v v':AV} {nx:Nat} {bs:List (Nat×Blk)} {h:Za} {K:KO} (hp:ZC P f args₀ v nx bs)
  (ha:∀(E:Env) (w:World) (rs:List Value),Emb E h w->ZK E args rs->ZK (E.bor none w true) args₀ rs)
  (hv:shV h.next v=some v') (hb:Z1X nx bs) (hK:K (.ret v') ⟨h.next+nx,Uv (Z6u h.next bs) h.bs⟩):Zp P f args h K:=by
 intro E w rs he hl
 refine (hp (E.bor none w true) w rs Zcr (ha E w rs he hl)).mono ?_
 rintro e w' ⟨E₁,r,rfl,hev,hr⟩
 let E':Env:=⟨fun x=>if x<h.next then E.blk x else E₁.blk (x-h.next),E.imm⟩
 have hE'old:∀x,x<h.next->E'.blk x=E.blk x:=fun x hx=>if_pos hx
 have hE'new:∀x,E'.blk (h.next+x)=E₁.blk x:=fun x=>by
  show (if h.next+x<h.next then _ else _)=_
  rw [if_neg (by omega)];congr 1;omega
 have hfresh:∀x,E.blk x≠none->x<h.next:=fun x hx=>by
  rcases Nat.lt_or_ge x h.next with hl|hg
  ·exact hl
  ·exact absurd (he.fresh x hg) hx
 have hle:E.le E':=⟨fun x q hx=>by rw [hE'old x (hfresh x (by rw [hx];simp))];exact hx,fun _ _ h=>h⟩
 have hkeep:∀b,b<w.heap.size->w'.heap[b]? =w.heap[b]?:=fun b hb=>hev.keep b hb (fun ⟨x,B,N,hx,_⟩=>by simp [Za.get,ZO] at hx)
 have hlt:∀b o,w.heap[b]? =some o->b<w.heap.size:=fun b o ho=>by
  rcases Nat.lt_or_ge b w.heap.size with hl|hg
  ·exact hl
  ·simp [Array.getElem?_eq_none hg] at ho
 have hcell:∀a c,w.cell? a=some c->w'.cell? a=some c:=fun a c hc=>by
  have:a.block<w.heap.size:=by
   rcases Nat.lt_or_ge a.block w.heap.size with hl|hg
   ·exact hl
   ·simp [World.cell?,Array.getElem?_eq_none hg] at hc
  simpa [World.cell?,hkeep _ this] using hc
 have hget:∀y B,Za.get ⟨h.next+nx,Uv (Z6u h.next bs) h.bs⟩ y=some B->(∃x,y=h.next+x/\ZO bs x=some B)\/(y<h.next/\h.get y=some B):=fun y B hy=>by
  simp only [Za.get,Z4l] at hy
  split at hy
  ·rename_i B' hq
   cases hy
   exact .inl (Z9o bs y _ hq)
  ·exact .inr ⟨he.lt y B hy,hy⟩
 have hnewsz:∀x B b N,ZO bs x=some B->E₁.blk x=some (b,N)->w.heap.size<=b:=fun x B b N hx hb=>by
  rcases hev.own b ⟨x,B,N,hx,hb⟩ with ⟨z,C,M,hz,_⟩|hq
  ·simp [Za.get,ZO] at hz
  ·exact hq
 have hemb:Emb E' ⟨h.next+nx,Uv (Z6u h.next bs) h.bs⟩ w':=by
  refine ⟨?_, ?_, ?_, ?_, ?_, ?_⟩
  ·intro x hx
   have hx':h.next+nx<=x:=hx
   obtain ⟨y,rfl⟩:=Nat.exists_eq_add_of_le (show h.next<=x by omega)
   rw [hE'new]
   exact hev.emb.fresh y (by show nx<=y;omega)
  ·intro y B hy
   show y<h.next+nx
   rcases hget y B hy with ⟨x,rfl,hx⟩|⟨hlt',_⟩
   ·have:=(Uw hb x B hx).1;omega
   ·omega
  ·intro y B hy
   rcases hget y B hy with ⟨x,rfl,hx⟩|⟨hlt',hy'⟩
   ·exact (Uw hb x B hx).2.move (hE'new x) (hev.emb.own x B hx)
   ·have h1:=(he.own y B hy').mono hle (fun hn=>by rw [hE'old y hlt'];exact hn)
    refine h1.congr fun b N hbb=> ?_
    rw [hE'old y hlt'] at hbb
    exact hkeep b ((he.own y B hy').lt hbb)
  ·intro y z B C b N N' hy hz hby hbz
   rcases hget y B hy with ⟨x,rfl,hx⟩|⟨hly,hy'⟩<;>rcases hget z C hz with ⟨x',rfl,hx'⟩|⟨hlz,hz'⟩
   ·rw [hE'new] at hby hbz
    rw [hev.emb.disj x x' B C b N N' hx hx' hby hbz]
   ·rw [hE'new] at hby
    rw [hE'old z hlz] at hbz
    have:=hnewsz x B b N hx hby
    have:=(he.own z C hz').lt hbz
    omega
   ·rw [hE'new] at hbz
    rw [hE'old y hly] at hby
    have:=hnewsz x' C b N' hx' hbz
    have:=(he.own y B hy').lt hby
    omega
   ·rw [hE'old y hly] at hby
    rw [hE'old z hlz] at hbz
    exact he.disj y z B C b N N' hy' hz' hby hbz
  ·intro a c hi
   exact hcell a c (he.imm a c hi)
  ·intro a c y B N hi hy hbb
   rcases hget y B hy with ⟨x,rfl,hx⟩|⟨hly,hy'⟩
   ·rw [hE'new] at hbb
    have:=hnewsz x B _ N hx hbb
    have hc:=he.imm a c hi
    have:a.block<w.heap.size:=by
     rcases Nat.lt_or_ge a.block w.heap.size with hl|hg
     ·exact hl
     ·simp [World.cell?,Array.getElem?_eq_none hg] at hc
    omega
   ·rw [hE'old y hly] at hbb
    exact he.sep a c y B N hi hy' hbb
 refine ⟨E',.ret v',_,hK,⟨hle,hemb,hev.size,hev.os,hev.tape,hev.output,fun b hb' _=>hkeep b hb', ?_,fun _ _ h=>h⟩,.ret _ _ (Z5u (fun x q hx=>by rw [hE'new];exact hx) v v' r hv hr)⟩
 rintro b ⟨y,B,N,hy,hbb⟩
 rcases hget y B hy with ⟨x,rfl,hx⟩|⟨hly,hy'⟩
 ·rw [hE'new] at hbb
  exact .inr (hnewsz x B b N hx hbb)
 ·rw [hE'old y hly] at hbb
  exact .inl ⟨y,B,N,hy',hbb⟩
theorem Zcs {E:Env} {w:World} {h:Za} {x:Nat} {B:Blk} (he:Emb E h w) (hx:h.get x=some B) (hp:Vj B):Emb (E.bor (some x) w true) ⟨1,[(0,B)]⟩ w:=by
 have hget:∀y C,Za.get ⟨1,[(0,B)]⟩ y=some C->y=0/\C=B:=fun y C hy=>by
  simp only [Za.get,ZO] at hy
  split at hy
  ·rename_i hb
   have:=Nat.eq_of_beq_eq_true hb
   cases hy
   exact ⟨this.symm,rfl⟩
  ·cases hy
 refine ⟨fun y hy=> ?_,fun y C hy=> ?_,fun y C hy=> ?_,fun y z C D b N N' hy hz _ _=> ?_,fun a c h=>h.1,fun a c y C N hi hy hb=> ?_⟩
 ·have hy':1<=y:=hy
  match y,hy' with
  | y+1,_=>rfl
 ·obtain ⟨rfl,_⟩:=hget y C hy;exact Nat.one_pos
 ·obtain ⟨rfl,rfl⟩:=hget y C hy
  exact hp.move (E:=E) (x:=x) rfl (he.own x _ hx)
 ·rw [(hget y C hy).1,(hget z D hz).1]
 ·obtain ⟨rfl,rfl⟩:=hget y C hy
  exact hi.2 x N rfl hb
theorem Zk.nothing (E E':Env) (r:Value) (h:Zk E (.tuple []) r):Zk E' (.tuple []) r:=by
 cases h with
 | tuple vs rs hl=>cases hl;exact .tuple [] [] .nil
theorem Z3X.calls {P:Program} {f:FuncId} {args₀ args:List AV} {cs:List AV} {B':Blk} {v:AV} {h:Za} {K:KO} {x:Nat} (hc:Z3X P f args₀ (.flat cs) v B') (hx:h.get x=some (.flat cs)) (hp:Yy cs=true) (hne:csz cs≠0) (hp':Vj B') (hv:∀(E E':Env) (r:Value),Zk E v r->Zk E' v r)
  (ha:∀(E:Env) (w:World) (rs:List Value),Emb E h w->ZK E args rs->ZK (E.bor (some x) w true) args₀ rs)
  (hK:K (.ret v) (h.set x B')):Zp P f args h K:=by
 intro E w rs he hl
 refine (hc (E.bor (some x) w true) w rs (Zcs he hx (.flat _ hp)) (ha E w rs he hl)).mono ?_
 rintro e w' ⟨E₁,r,rfl,hev,hr⟩
 have hex:∃b N,E.blk x=some (b,N):=by
  cases he.own x _ hx with
  | flat0 cs h0 hn=>exact absurd h0 hne
  | flat cs b cells elem fr vs hb hw hf hc hv=>exact ⟨b,_,hb⟩
 obtain ⟨b0,N0,hbx⟩:=hex
 have hE1:E₁.blk 0=some (b0,N0):=hev.le.blk 0 _ hbx
 have hown:∀b,WK (E.bor (some x) w true) ⟨1,[(0,.flat cs)]⟩ b->b=b0:=fun b ⟨y,C,N,hy,hb⟩=>by
  simp only [Za.get,ZO] at hy
  split at hy
  ·rename_i hq
   have:=Nat.eq_of_beq_eq_true hq
   subst this
   have hb':E.blk x=some (b,N):=hb
   rw [hbx] at hb'
   cases hb'
   rfl
  ·cases hy
 have hkeep:∀b,b<w.heap.size->b≠b0->w'.heap[b]? =w.heap[b]?:=fun b hb hn=>hev.keep b hb (fun ho=>hn (hown b ho))
 have hget:∀y C,(h.set x B').get y=some C->(y=x/\C=B')\/(y≠x/\h.get y=some C):=fun y C hy=>by
  by_cases hn:x=y
  ·subst hn;rw [Za.get_set_same] at hy;cases hy;exact .inl ⟨rfl,rfl⟩
  ·rw [Za.get_set_other _ _ _ _ hn] at hy;exact .inr ⟨fun h=>hn h.symm,hy⟩
 have hget':∀y C,(h.set x B').get y=some C->∃C',h.get y=some C':=fun y C hy=>by
  rcases hget y C hy with ⟨rfl,_⟩|⟨_,h'⟩
  ·exact ⟨_,hx⟩
  ·exact ⟨C,h'⟩
 have hemb:Emb E (h.set x B') w':=by
  refine ⟨he.fresh, ?_, ?_, ?_, ?_, ?_⟩
  ·intro y C hy
   obtain ⟨C',h'⟩:=hget' y C hy
   exact he.lt y C' h'
  ·intro y C hy
   rcases hget y C hy with ⟨rfl,rfl⟩|⟨hn,h'⟩
   ·exact hp'.move (E:=E₁) (x:=0) (hbx.trans hE1.symm) (hev.emb.own 0 _ rfl)
   ·refine (he.own y C h').congr fun b M hb=>hkeep b ((he.own y C h').lt hb) ?_
    rintro rfl
    exact hn (he.disj y x C _ b M N0 h' hx hb hbx)
  ·intro y z C D b M M' hy hz hby hbz
   obtain ⟨C',hy'⟩:=hget' y C hy
   obtain ⟨D',hz'⟩:=hget' z D hz
   exact he.disj y z C' D' b M M' hy' hz' hby hbz
  ·intro a c hi
   have hc:=he.imm a c hi
   have hlt:a.block<w.heap.size:=by
    rcases Nat.lt_or_ge a.block w.heap.size with hl|hg
    ·exact hl
    ·simp [World.cell?,Array.getElem?_eq_none hg] at hc
   have hn:a.block≠b0:=by
    rintro rfl
    exact he.sep a c x _ N0 hi hx hbx
   simpa [World.cell?,hkeep _ hlt hn] using hc
  ·intro a c y C M hi hy hb
   obtain ⟨C',hy'⟩:=hget' y C hy
   exact he.sep a c y C' M hi hy' hb
 refine ⟨E,.ret v,_,hK,⟨.refl E,hemb,hev.size,hev.os,hev.tape,hev.output,fun b hb hno=>hkeep b hb ?_, ?_,fun _ _ h=>h⟩,.ret _ _ (hv _ _ _ hr)⟩
 ·rintro rfl
  exact hno ⟨x,_,N0,hx,hbx⟩
 ·rintro b ⟨y,C,M,hy,hb⟩
  obtain ⟨C',hy'⟩:=hget' y C hy
  exact .inl ⟨y,C',M,hy',hb⟩
end Go.Tk
end
section
namespace Go.Tk
open IntKind (i64 u8 u32 u64 wrap)
def Z3Y (P:Program) (f:FuncId) (args:List AV) (n:Nat) (bs:List (Nat×Blk)) (v:AV):Prop:=
 ∀(E:Env) (w:World) (rs:List Value),Emb E ⟨n,bs⟩ w->ZK E args rs->Calls P f rs.toArray w fun e w'=>∃E' r,e=.returned r/\Evo E ⟨n,bs⟩ w E' ⟨n,bs⟩ w'/\Zk E' v r
theorem Z3Y.of {P:Program} {f:FuncId} {args:List AV} {τ:Ren} {n:Nat} {bs:List (Nat×Blk)} {v:AV} (h:Zp P f args ⟨n,bs⟩ (XN n τ v n bs)):Z3Y P f args n bs v:=
 fun _ _ _ he hl=>QP h he hl
def Env.sub (E:Env) (σ:List Nat):Env:=⟨fun y=>match σ[y]? with|some x=>E.blk x|none=>none,fun _ _=>False⟩
def Wv:Nat->List Nat->List Blk->List (Nat×Blk)
 | k,_::σ,B::Bs=>(k,B)::Wv (k+1) σ Bs
 | _,_,_=>[]
theorem Wb:∀(σ:List Nat) (Bs:List Blk) (k y:Nat) (B:Blk),ZO (Wv k σ Bs) y=some B->∃i x,y=k+i/\σ[i]? =some x/\Bs[i]? =some B
 | [],Bs,k,y,B,h=>by simp [Wv,ZO] at h
 | _::_,[],k,y,B,h=>by simp [Wv,ZO] at h
 | x::σ,C::Bs,k,y,B,h=>by
  simp only [Wv,ZO] at h
  split at h
  ·rename_i hb
   have:=Nat.eq_of_beq_eq_true hb
   cases h
   exact ⟨0,x,by omega,rfl,rfl⟩
  ·obtain ⟨i,x',rfl,h1,h2⟩:=Wb σ Bs (k+1) y B h
   exact ⟨i+1,x',by omega,by simpa using h1,by simpa using h2⟩
theorem Z4m:∀(σ:List Nat) (Bs:List Blk) (k i x:Nat) (B:Blk),σ[i]? =some x->Bs[i]? =some B->ZO (Wv k σ Bs) (k+i)=some B
 | [],Bs,k,i,x,B,h,_=>by simp at h
 | _::_,[],k,i,x,B,_,h=>by simp at h
 | y::σ,C::Bs,k,0,x,B,h1,h2=>by
  simp at h1 h2
  simp [Wv,ZO,Nat.beq_refl,h2]
 | y::σ,C::Bs,k,i+1,x,B,h1,h2=>by
  have:=Z4m σ Bs (k+1) i x B (by simpa using h1) (by simpa using h2)
  simp only [Wv,ZO]
  have hne:Nat.beq k (k+(i+1))=false:=ZB (by omega)
  rw [hne,show k+(i+1)=k+1+i by omega]
  exact this
theorem Z3Y.calls {P:Program} {f:FuncId} {args₀ args:List AV} {σ:List Nat} {Bs:List Blk} {v v':AV} {h:Za} {K:AV->Prop} (hc:Z3Y P f args₀ σ.length (Wv 0 σ Bs) v)
  (hl:σ.length=Bs.length) (inj:∀(i j x:Nat),σ[i]? =some x->σ[j]? =some x->i=j) (hx:∀(i x:Nat) (B:Blk),σ[i]? =some x->Bs[i]? =some B->h.get x=some B) (hp:∀B∈Bs,Vj B)
  (ha:∀(E:Env) (w:World) (rs:List Value),Emb E h w->ZK E args rs->ZK (E.sub σ) args₀ rs)
  (hv:∀(E E₁:Env) (r:Value),(E.sub σ).le E₁->(∀x,σ.length<=x->E₁.blk x=none)->(∀x∈σ,∃q,E.blk x=some q)->Zk E₁ v r->Zk E v' r) (hne:∀(E:Env) (w:World),Emb E h w->∀x∈σ,∃q,E.blk x=some q)
  (hK:K v'):Zp P f args h fun o h'=>∃v,o=.ret v/\h'=h/\K v:=by
 intro E w rs he hr
 have hlt:∀i x,σ[i]? =some x->i<σ.length:=fun i x hi=>(List.getElem?_eq_some_iff.1 hi).1
 have hB:∀i x,σ[i]? =some x->∃B,Bs[i]? =some B:=fun i x hi=>by
  have:=hlt i x hi
  exact ⟨Bs[i],List.getElem?_eq_getElem (by omega)⟩
 have hsub:∀i x,σ[i]? =some x->(E.sub σ).blk i=E.blk x:=fun i x hi=>by simp [Env.sub,hi]
 have hnone:∀i,σ.length<=i->(E.sub σ).blk i=none:=fun i hi=>by simp [Env.sub,List.getElem?_eq_none hi]
 have hemb:Emb (E.sub σ) ⟨σ.length,Wv 0 σ Bs⟩ w:=by
  refine ⟨hnone, ?_, ?_, ?_,fun _ _ h=>h.elim,fun _ _ _ _ _ h=>h.elim⟩
  ·intro y B hy
   obtain ⟨i,x,rfl,h1,_⟩:=Wb σ Bs 0 y B hy
   have:=hlt i x h1
   show 0+i<σ.length
   omega
  ·intro y B hy
   obtain ⟨i,x,rfl,h1,h2⟩:=Wb σ Bs 0 y B hy
   rw [Nat.zero_add]
   exact (hp B (List.mem_of_getElem? h2)).move (hsub i x h1) (he.own x B (hx i x B h1 h2))
  ·intro y z B C b N N' hy hz hby hbz
   obtain ⟨i,x,rfl,h1,h2⟩:=Wb σ Bs 0 y B hy
   obtain ⟨j,x',rfl,h3,h4⟩:=Wb σ Bs 0 z C hz
   rw [Nat.zero_add] at hby hbz⊢
   rw [Nat.zero_add]
   rw [hsub i x h1] at hby
   rw [hsub j x' h3] at hbz
   have:=he.disj x x' B C b N N' (hx i x B h1 h2) (hx j x' C h3 h4) hby hbz
   subst this
   exact inj i j x h1 h3
 refine (hc (E.sub σ) w rs hemb (ha E w rs he hr)).mono ?_
 rintro e w' ⟨E₁,r,rfl,hev,hvr⟩
 have hkeep:∀b,b<w.heap.size->(∀i x N,σ[i]? =some x->E.blk x=some (b,N)->False)->w'.heap[b]? =w.heap[b]?:=fun b hb hn=>hev.keep b hb (fun ⟨y,B,N,hy,hbb⟩=>by
  obtain ⟨i,x,rfl,h1,_⟩:=Wb σ Bs 0 y B hy
  rw [Nat.zero_add,hsub i x h1] at hbb
  exact hn i x N h1 hbb)
 have hemb':Emb E h w':=by
  refine ⟨he.fresh,he.lt, ?_,he.disj, ?_,he.sep⟩
  ·intro y B hy
   by_cases hin:∃i:Nat,σ[i]? =some y
   ·obtain ⟨i,hi⟩:=hin
    obtain ⟨B',hB'⟩:=hB i y hi
    have hBB:=hx i y B' hi hB'
    rw [hy] at hBB
    cases hBB
    cases hq:E.blk y with
    | none=>
     obtain ⟨q,hq'⟩:=hne E w he y (List.mem_of_getElem? hi)
     rw [hq] at hq'
     cases hq'
    | some q=>
     have h0:(E.sub σ).blk i=some q:=(hsub i y hi).trans hq
     have h1:E₁.blk i=some q:=hev.le.blk i q h0
     have hg:Za.get ⟨σ.length,Wv 0 σ Bs⟩ i=some B:=by
      have:=Z4m σ Bs 0 i y B hi hB'
      rwa [Nat.zero_add] at this
     exact (hp B (List.mem_of_getElem? hB')).move (E:=E₁) (x:=i) (hq.trans h1.symm) (hev.emb.own i B hg)
   ·refine (he.own y B hy).congr fun b N hb=>hkeep b ((he.own y B hy).lt hb) ?_
    intro i x N' hi hbx
    obtain ⟨B',hB'⟩:=hB i x hi
    have:=he.disj y x B B' b N N' hy (hx i x B' hi hB') hb hbx
    subst this
    exact hin ⟨i,hi⟩
  ·intro a c hi
   have hcc:=he.imm a c hi
   have hlt':a.block<w.heap.size:=by
    rcases Nat.lt_or_ge a.block w.heap.size with hl|hg
    ·exact hl
    ·simp [World.cell?,Array.getElem?_eq_none hg] at hcc
   have hk:=hkeep a.block hlt' (fun i x N hi' hbx=>by
    obtain ⟨B',hB'⟩:=hB i x hi'
    exact he.sep a c x B' N hi (hx i x B' hi' hB') hbx)
   simpa [World.cell?,hk] using hcc
 refine ⟨E,.ret v',h,⟨v',rfl,rfl,hK⟩,⟨.refl E,hemb',hev.size,hev.os,hev.tape,hev.output,fun b hb hno=>hkeep b hb (fun i x N hi hbx=> ?_),fun b ho=>.inl ho,fun _ _ h=>h⟩,.ret _ _ (hv E E₁ r hev.le hev.emb.fresh (hne E w he) hvr)⟩
 obtain ⟨B',hB'⟩:=hB i x hi
 exact hno ⟨x,B',N,hx i x B' hi hB',hbx⟩
theorem ZlZ {a b:Nat} (h:a≠b):∀(i j x:Nat),([a,b]:List Nat)[i]? =some x->([a,b]:List Nat)[j]? =some x->i=j
 | 0,0,_,_,_=>rfl
 | 0,1,x,h1,h2=>by simp at h1 h2;omega
 | 1,0,x,h1,h2=>by simp at h1 h2;omega
 | 1,1,_,_,_=>rfl
 | i+2,_,x,h1,_=>by simp at h1
 | 0,j+2,x,_,h2=>by simp at h2
 | 1,j+2,x,_,h2=>by simp at h2
theorem Z35 {E:Env} {h:Za} {w:World} {x:Nat} {cs:List AV} (he:Emb E h w) (hx:h.get x=some (.flat cs)) (hn:csz cs≠0):∃q,E.blk x=some q:=by
 cases he.own x _ hx with
 | flat0 cs h0 hn'=>exact absurd h0 hn
 | flat cs b cells elem fr vs hb hw hf hc hv=>exact ⟨_,hb⟩
end Go.Tk
end
section
namespace Go.Tk
open IntKind (i64 u8 u32 u64 wrap)
theorem ZC.psumm {P:Program} {f:FuncId} {args:List AV} {h:Za} {d:Nat} {K:AV->Prop}
  (hl:ZU none h true d args fun a₀=>∃v,ZC P f a₀ v 0 []/\(∀d,shV d v=some v)/\K v):Zp P f args h fun o h'=>∃v,o=.ret v/\h'=h/\K v:=by
 obtain ⟨a₀,⟨v,hp,hs,hK⟩,ha⟩:=Wh (fun x hx=>by cases hx) _ _ _ _ hl
 refine hp.calls (v':=v) (fun E w rs he hr=>ha E w rs he hr) (hs _) trivial ?_
 exact ⟨v,rfl,rfl,hK⟩
theorem ZC.fsumm {P:Program} {f:FuncId} {args:List AV} {h:Za} {d:Nat} {K:KO}
  (hl:ZU none h true d args fun a₀=>∃v v' nx bs,ZC P f a₀ v nx bs/\shV h.next v=some v'/\Z1X nx bs/\K (.ret v') ⟨h.next+nx,Uv (Z6u h.next bs) h.bs⟩):Zp P f args h K:=by
 obtain ⟨a₀,⟨v,v',nx,bs,hp,hs,hb,hK⟩,ha⟩:=Wh (fun x hx=>by cases hx) _ _ _ _ hl
 exact hp.calls (fun E w rs he hr=>ha E w rs he hr) hs hb hK
theorem ZC.ev {G:Zg} (hG:G.Ok) {n:Nat} {f:FuncId} {args:List AV} {τ:Ren} {v:AV} {nx:Nat} {bs:List (Nat×Blk)} (h:evF G n f args ⟨0,[]⟩ (XN 0 τ v nx bs)):ZC G.P f args v nx bs:=.of (QG hG h)
theorem Z3X.ev {G:Zg} (hG:G.Ok) {n:Nat} {f:FuncId} {args:List AV} {τ:Ren} {B:Blk} {v:AV} {B':Blk} (h:evF G n f args ⟨1,[(0,B)]⟩ (XN 1 τ v 1 [(0,B')])):Z3X G.P f args B v B':=.of (QG hG h)
theorem Z3Y.ev {G:Zg} (hG:G.Ok) {n:Nat} {f:FuncId} {args:List AV} {τ:Ren} {v:AV} {nx:Nat} {bs:List (Nat×Blk)} (h:evF G n f args ⟨nx,bs⟩ (XN nx τ v nx bs)):Z3Y G.P f args nx bs v:=.of (QG hG h)
end Go.Tk
end
section
namespace Go.Tk
open IntKind (i64 u8 u32 u64 wrap)
noncomputable abbrev PP:Program:=Go.Proofs.Tryz.prog
noncomputable def G0:Zg:={ P:=PP,draw:=Zch PP,psumm:=fun _=>none,fsumm:=fun _=>none,lsumm:=fun _ _=>none,fuel:=100}
theorem Zv:G0.Ok where
 draw:=fun _ _ _ _ _ _ hcx hro h _=>Zcj hcx hro h
 psumm:=fun _ _ _ _ _ h=>by simp [G0] at h
 fsumm:=fun _ _ _ _ _ h=>by simp [G0] at h
 lsumm:=fun _ _ _ _ _ _ h=>by simp [G0] at h
end Go.Tk
end
section
namespace Go.Tk
open IntKind (i64 u8 u32 u64 wrap)
def Z8d (w n:Int):Int:=bOr .u32 (ZJ .u32 w n) (Zz .u32 w (32-n))
def Wy (shift:Int) (places:List Int) (w:Int):Int:=places.foldl (fun x n=>X6 .u32 x (Z8d w (32-n))) (Zz .u32 w shift)
theorem ZjJ (w:Int) :
  evF G0 20 191 [.int .u32 w,.pview [.int .i64 3] 0,.pview [.vints .i64 [7,18] 2] 0] ⟨0,[]⟩ (XN 0 [] (.int .u32 (Wy 3 [7,18] w)) 0 []):=by
 refine @Eq.mpr _ (Z0 (decide (X6 u32 (X6 u32 (Zz u32 w 3) (bOr u32 (ZJ u32 w 25) (Zz u32 w 7))) (bOr u32 (ZJ u32 w 14) (Zz u32 w 18))=Wy 3 [(7:Int),18] w)) True False) (by kernel_rfl) ?_
 exact nd (by kernel_rfl) trivial
theorem ZjK (w:Int) :
  evF G0 20 191 [.int .u32 w,.pview [.int .i64 10] 0,.pview [.vints .i64 [17,19] 2] 0] ⟨0,[]⟩ (XN 0 [] (.int .u32 (Wy 10 [17,19] w)) 0 []):=by
 refine @Eq.mpr _ (Z0 (decide (X6 u32 (X6 u32 (Zz u32 w 10) (bOr u32 (ZJ u32 w 15) (Zz u32 w 17))) (bOr u32 (ZJ u32 w 13) (Zz u32 w 19))=Wy 10 [(17:Int),19] w)) True False) (by kernel_rfl) ?_
 exact nd (by kernel_rfl) trivial
theorem ZjL (w:Int) :
  evF G0 20 191 [.int .u32 w,.pview [.int .i64 32] 0,.pview [.vints .i64 [2,13,22] 3] 0] ⟨0,[]⟩ (XN 0 [] (.int .u32 (Wy 32 [2,13,22] w)) 0 []):=by
 refine @Eq.mpr _ (Z0 (decide (X6 u32 (X6 u32 (X6 u32 (Zz u32 w 32) (bOr u32 (ZJ u32 w 30) (Zz u32 w 2))) (bOr u32 (ZJ u32 w 19) (Zz u32 w 13))) (bOr u32 (ZJ u32 w 10) (Zz u32 w 22))=Wy 32 [(2:Int),13,22] w)) True False) (by kernel_rfl) ?_
 exact nd (by kernel_rfl) trivial
theorem ZjM (w:Int) :
  evF G0 20 191 [.int .u32 w,.pview [.int .i64 32] 0,.pview [.vints .i64 [6,11,25] 3] 0] ⟨0,[]⟩ (XN 0 [] (.int .u32 (Wy 32 [6,11,25] w)) 0 []):=by
 refine @Eq.mpr _ (Z0 (decide (X6 u32 (X6 u32 (X6 u32 (Zz u32 w 32) (bOr u32 (ZJ u32 w 26) (Zz u32 w 6))) (bOr u32 (ZJ u32 w 21) (Zz u32 w 11))) (bOr u32 (ZJ u32 w 7) (Zz u32 w 25))=Wy 32 [(6:Int),11,25] w)) True False) (by kernel_rfl) ?_
 exact nd (by kernel_rfl) trivial
def ZjN:ZR:=fun args h K=>ZU none h true 20 args fun a=>match a with
 | [.int .u32 w,.pview [.int .i64 s] 0,.pview [.vints .i64 ps len] 0]=>
  match decide (s=3/\ps=[7,18]/\len=2) with
  | true=>K (.int .u32 (Wy 3 [7,18] w))
  | false=>match decide (s=10/\ps=[17,19]/\len=2) with
  | true=>K (.int .u32 (Wy 10 [17,19] w))
  | false=>match decide (s=32/\ps=[2,13,22]/\len=3) with
  | true=>K (.int .u32 (Wy 32 [2,13,22] w))
  | false=>match decide (s=32/\ps=[6,11,25]/\len=3) with
  | true=>K (.int .u32 (Wy 32 [6,11,25] w))
  | false=>False
 | _=>False
theorem Z8e {mv:Option Nat} {h:Za} {t:Bool} {d:Nat} {l:List AV} {K K':List AV->Prop} (hm:∀x,mv=some x->∃B,h.get x=some B) (hl:ZU mv h t d l K) (hK:∀a,K a->K' a):
  ∃l₀,K' l₀/\∀(E:Env) (w:World) (r:List Value),Emb E h w->ZK E l r->ZK (E.bor mv w t) l₀ r:=
 let ⟨l₀,h1,h2⟩:=Wh hm _ _ _ _ hl;⟨l₀,hK _ h1,h2⟩
theorem Z0h {P:Program} {f:FuncId} {args:List AV} {h:Za} {d:Nat} {K:AV->Prop} {K0:List AV->Prop} (hl:ZU none h true d args K0) (hK:∀a,K0 a->∃v,ZC P f a v 0 []/\(∀d,shV d v=some v)/\K v):
  Zp P f args h fun o h'=>∃v,o=.ret v/\h'=h/\K v:=by
 obtain ⟨a₀,⟨v,hp,hs,hKv⟩,ha⟩:=Z8e (fun x hx=>by cases hx) hl hK
 refine hp.calls (v':=v) (fun E w rs he hr=>ha E w rs he hr) (hs _) trivial ?_
 exact ⟨v,rfl,rfl,hKv⟩
theorem Zft (args:List AV) (h:Za) (K:AV->Prop) (hl:ZjN args h K):Zp PP 191 args h fun o h'=>∃v,o=.ret v/\h'=h/\K v:=by
 refine Z0h hl fun a ha=> ?_
 split at ha
 ·rename_i w s ps len
  split at ha
  ·rename_i hd
   obtain ⟨rfl,rfl,rfl⟩:=of_decide_eq_true hd
   exact ⟨_,.ev Zv (ZjJ w),fun _=>rfl,ha⟩
  ·split at ha
   ·rename_i hd
    obtain ⟨rfl,rfl,rfl⟩:=of_decide_eq_true hd
    exact ⟨_,.ev Zv (ZjK w),fun _=>rfl,ha⟩
   ·split at ha
    ·rename_i hd
     obtain ⟨rfl,rfl,rfl⟩:=of_decide_eq_true hd
     exact ⟨_,.ev Zv (ZjL w),fun _=>rfl,ha⟩
    ·split at ha
     ·rename_i hd
      obtain ⟨rfl,rfl,rfl⟩:=of_decide_eq_true hd
      exact ⟨_,.ev Zv (ZjM w),fun _=>rfl,ha⟩
     ·exact ha.elim
 ·exact ha.elim
theorem w64 {x:Int} (h: -9223372036854775808<=x/\x<9223372036854775808):i64.wrap x=x:=by
 unfold wrap
 simp [IntKind.bits,IntKind.signed]
 omega
theorem tm {a n:Int} (h:0<=a):a.tmod n=a%n:=Int.tmod_eq_emod_of_nonneg h
def atI (i t:Int):Nat:=0+(Int.tmod (i64.wrap (i64.wrap (i+64)-t)) 8).toNat
theorem Zm0 (i t:Int) (x:List Int) (hi:0<=i/\i<8/\0<=t/\t<64):
  evF G0 20 190 [.int .i64 i,.ptr (some ⟨0,0,0,0,0⟩),.ptr (some ⟨1,0,0,0,0⟩)] ⟨2,[(0,.flat [.arr .u32 8 x]),(1,.flat [.int .i64 t])]⟩ (XN 2 [] (.ptr (some ⟨0,0,0,0,atI i t⟩)) 2 [(0,.flat [.arr .u32 8 x]),(1,.flat [.int .i64 t])]):=by
 refine @Eq.mpr _ (let q1:=Int.tmod (wrap i64 (wrap i64 (i+64)-t)) 8;
 Z0 (decide (0<=q1/\q1<8)) (Z0 (decide (0+Int.toNat q1=atI i t)) (x=x/\Z0 (decide (t=t)) True False) False) False) (by kernel_rfl) ?_
 conv=>zeta
 obtain ⟨h1,h2,h3,h4⟩:=hi
 have e1:i64.wrap (i+64)=i+64:=w64 (by omega)
 have e2:i64.wrap (i+64-t)=i+64-t:=w64 (by omega)
 refine nd ?_ (nd rfl ⟨rfl,nd rfl trivial⟩)
 rw [e1,e2,tm (by omega)]
 omega
def atS:ZR:=fun args h K=>match args with
 | [.int .i64 i,.ptr (some ⟨b,0,0,0,0⟩),.ptr (some ⟨c,0,0,0,0⟩)]=>match h.get b,h.get c,Nat.beq b c with
  | some (.flat [.arr .u32 8 _]),some (.flat [.int .i64 t]),false=>Zx (0<=i/\i<8/\0<=t/\t<64) (K (.ptr (some ⟨b,0,0,0,atI i t⟩)))
  | _,_,_=>False
 | _=>False
theorem Zir (args:List AV) (h:Za) (K:AV->Prop) (hl:atS args h K):Zp PP 190 args h fun o h'=>∃v,o=.ret v/\h'=h/\K v:=by
 unfold atS at hl
 split at hl
 ·rename_i i b c
  split at hl
  ·rename_i x t hb hc hne
   obtain ⟨hi,hK⟩:=Ze hl
   have hne':b≠c:=fun e=>by subst e;simp [Nat.beq_refl] at hne
   refine Z3Y.calls (σ:=[b,c]) (Bs:=[.flat [.arr .u32 8 x],.flat [.int .i64 t]]) (Z3Y.ev Zv (Zm0 i t x hi)) rfl (ZlZ hne') ?_ ?_ ?_ ?_ ?_ hK
   ·intro j y B hj hB
    match j with
    | 0=>simp at hj hB;subst hj;subst hB;exact hb
    | 1=>simp at hj hB;subst hj;subst hB;exact hc
    | j+2=>simp at hj
   ·intro B hB
    simp at hB
    rcases hB with rfl|rfl
    ·exact .flat _ rfl
    ·exact .flat _ rfl
   ·intro E w rs he hr
    cases hr with
    | cons v r1 vs rs1 h1 hr=>cases hr with
     | cons v r2 vs rs2 h2 hr=>cases hr with
      | cons v r3 vs rs3 h3 hr=>
       cases hr
       cases h1
       cases h2 with
       | ptr p b' N hb'=>cases h3 with
        | ptr p' c' N' hc'=>exact .cons _ _ _ _ (.int _ _) (.cons _ _ _ _ (.ptr ⟨0,0,0,0,0⟩ b' N hb') (.cons _ _ _ _ (.ptr ⟨1,0,0,0,0⟩ c' N' hc') .nil))
   ·intro E E₁ r hle hfr hq hv
    obtain ⟨q,hq⟩:=hq b (by simp)
    have h0:E₁.blk 0=some q:=hle.blk 0 q hq
    cases hv with
    | ptr p b' N hb'=>
     rw [h0] at hb'
     cases hb'
     exact .ptr ⟨b,0,0,0,atI i t⟩ b' N hq
   ·intro E w he y hy
    simp at hy
    rcases hy with rfl|rfl
    ·exact Z35 he hb (by simp [csz])
    ·exact Z35 he hc (by simp [csz])
  ·exact hl.elim
 ·exact hl.elim
end Go.Tk
end
section
namespace Go.Tk
open IntKind (i64 u8 u32 u64 wrap)
noncomputable def G1:Zg:=(G0.withP 191 ZjN).withP 190 atS
theorem Zhy:G1.Ok:=Zg.withP_ok (Zg.withP_ok Zv Zft) Zir
noncomputable def Z0i:Code:=rfA PP 181 0
noncomputable def Z0j:Code:=rfB PP 181 0
def Vk:List Int:=[1116352408,1899447441,3049323471,3921009573,961987163,1508970993,2453635748,2870763221,3624381080,310598401,607225278,1426881987,1925078388,2162078206,2614888103,3248222580,3835390401,4022224774,264347078,604807628,770255983,1249150122,1555081692,1996064986,2554220882,2821834349,2952996808,3210313671,3336571891,3584528711,113926993,338241895,666307205,773529912,1294757372,1396182291,1695183700,1986661051,2177026350,2456956037,2730485921,2820302411,3259730800,3345764771,3516065817,3600352804,4094571909,275423344,430227734,506948616,659060556,883997877,958139571,1322822218,1537002063,1747873779,1955562222,2024104815,2227730452,2361852424,2428436474,2756734187,3204031479,3329325298]
def pt (n:Nat):AV:=.ptr (some ⟨n,0,0,0,0⟩)
def Z1J (st part:List Int) (came:Int):Blk:=.flat [.arr .u32 8 st,.arr .u8 64 part,.int .i64 came,.bool true]
noncomputable def Z6v (st part:List Int) (came:Int) (m x:List Int) (t:Int):St:=⟨59,[(0,.yield 23),(1,pt 13),(2,pt 20),(3,pt 21),(7,.int .i64 t)],⟨24,[
 (23,.loop ⟨.ready,none,181,137,[(0,pt 0),(6,pt 3),(7,pt 10),(8,pt 11),(9,pt 12)],[46,47],Z0i,Z0j,22⟩),(22,.defd),
 (21,.flat [.func (.func 191) [] [pt 18,pt 19]]),(20,.flat [.func (.func 191) [] [pt 15,pt 16]]),(19,.flat [.nslice ⟨17,0,0,0,0⟩ 1 2 2]),(18,.flat [.int .i64 10]),(17,.ints .i64 [17,19]),
 (16,.flat [.nslice ⟨14,0,0,0,0⟩ 1 2 2]),(15,.flat [.int .i64 3]),(14,.ints .i64 [7,18]),(13,.flat [pt 1]),(12,.flat [.arr .u32 8 x]),
 (11,.flat [.func (.func 191) [] [pt 8,pt 9]]),(10,.flat [.func (.func 191) [] [pt 5,pt 6]]),(9,.flat [.nslice ⟨7,0,0,0,0⟩ 1 3 3]),(8,.flat [.int .i64 32]),(7,.ints .i64 [6,11,25]),
 (6,.flat [.nslice ⟨4,0,0,0,0⟩ 1 3 3]),(5,.flat [.int .i64 32]),(4,.ints .i64 [2,13,22]),(3,.flat [.arr .u32 64 Vk]),(1,.flat [.arr .u32 16 m]),(0,Z1J st part came)]⟩,[]⟩
def mAt (t:Int):Nat:=0+(Int.tmod t 16).toNat
def QQ (t:Int) (m:List Int):List Int:=if t>=16 then m.set (mAt t) (u32.wrap (m.getD (mAt t) 0+u32.wrap (u32.wrap (Wy 3 [7,18] (m.getD (mAt (i64.wrap (t+1))) 0)+m.getD (mAt (i64.wrap (t+9))) 0)+Wy 10 [17,19] (m.getD (mAt (i64.wrap (t+14))) 0)))) else m
def Z0Y (t:Int) (m x:List Int):Int:=u32.wrap (u32.wrap (u32.wrap (u32.wrap (x.getD (atI 7 t) 0+Wy 32 [6,11,25] (x.getD (atI 4 t) 0))+X6 .u32 (x.getD (atI 6 t) 0) (Z1F .u32 (x.getD (atI 4 t) 0) (X6 .u32 (x.getD (atI 5 t) 0) (x.getD (atI 6 t) 0))))+Vk.getD (0+t.toNat) 0)+m.getD (mAt t) 0)
def Z3Z (t:Int) (m x:List Int):List Int:=(x.set (atI 3 t) (u32.wrap (x.getD (atI 3 t) 0+Z0Y t m x))).set (atI 7 t) (u32.wrap (u32.wrap (Z0Y t m x+Wy 32 [2,13,22] (x.getD (atI 0 t) 0))+bOr .u32 (Z1F .u32 (x.getD (atI 0 t) 0) (bOr .u32 (x.getD (atI 1 t) 0) (x.getD (atI 2 t) 0))) (Z1F .u32 (x.getD (atI 1 t) 0) (x.getD (atI 2 t) 0))))
theorem Z6w (t:Int) (m:List Int):(QQ t m).length=m.length:=by unfold QQ;split<;>simp
theorem Z6x (t:Int) (m x:List Int):(Z3Z t m x).length=x.length:=by unfold Z3Z;simp
theorem Z5v {t:Int} (h:0<=t/\t<100):0<=Int.tmod t 16/\Int.tmod t 16<16:=by rw [tm (by omega)];omega
theorem Zis {i t:Int} (h:0<=i/\i<8/\0<=t/\t<64):atI i t<8:=by
 unfold atI
 rw [w64 (x:=i+64) (by omega),w64 (by omega),tm (by omega)]
 omega
theorem Zct (st part:List Int) (came:Int) (m x:List Int) (t:Int) (Z Z2:Prop) (ht:0<=t) (hm:m.length=16) (hx:x.length=8) (hZ:64<=t->Z) (hZ2:t<64->Z2):
  ZG G1 20 192 0 24 (Z6v st part came m x t) (fun e s=>match e with|.normal=>YU 24 [] (Z6v st part came (QQ t m) (Z3Z t (QQ t m) x) (t+1)) s Z2|.exit 0=>YU 24 [] (Z6v st part came m x t) s Z|_=>False):=by
 refine @Eq.mpr _ (let q1:=Int.tmod t 16;let q2:=decide (0<=q1/\q1<16);let q3:=0+Int.toNat q1;let q4:=wrap i64 (t+1);let q5:=Int.tmod q4 16;let q6:=0+Int.toNat q5;let q7:=Int.tmod (wrap i64 (t+9)) 16;let q8:=0+Int.toNat q7;let q9:=Int.tmod (wrap i64 (t+14)) 16;let q10:=0+Int.toNat q9;let q11:=decide (q3<16);let q12:=decide ((0:Int)<=0/\(0:Int)<8/\0<=t/\t<64);let q13:=decide (atI 0 t<8);let q14:=decide ((0:Int)<=1/\(1:Int)<8/\0<=t/\t<64);let q15:=decide (atI 1 t<8);let q16:=decide ((0:Int)<=2/\(2:Int)<8/\0<=t/\t<64);let q17:=decide (atI 2 t<8);let q18:=decide ((0:Int)<=4/\(4:Int)<8/\0<=t/\t<64);let q19:=decide (atI 4 t<8);let q20:=decide ((0:Int)<=5/\(5:Int)<8/\0<=t/\t<64);let q21:=decide (atI 5 t<8);let q22:=decide ((0:Int)<=6/\(6:Int)<8/\0<=t/\t<64);let q23:=decide (atI 6 t<8);let q24:=decide (0<=t/\t<64);let q25:=0+Int.toNat t;let q26:=decide (q25<64);let q27:=decide ((0:Int)<=7/\(7:Int)<8/\0<=t/\t<64);let q28:=atI 7 t;let q29:=decide (q28<8);let q30:=decide ((0:Int)<=3/\(3:Int)<8/\0<=t/\t<64);let q31:=atI 3 t;let q32:=decide (q31<8);let q33:=decide (u32=u32/\q31<8/\q31<List.length x);let q34:=List.getD x q31 0;let q35:=[(6:Int),11,25];let q36:=List.getD x (atI 4 t) 0;let q37:=List.getD x (atI 6 t) 0;let q38:=wrap u32 (wrap u32 (wrap u32 (List.getD x q28 0+Wy 32 q35 q36)+X6 u32 q37 (Z1F u32 q36 (X6 u32 (List.getD x (atI 5 t) 0) q37)))+List.getD Vk q25 0);let q39:=List.getD m q3 0;let q40:=[(7:Int),18];let q41:=[(17:Int),19];let q42:=List.set m q3 (wrap u32 (q39+wrap u32 (wrap u32 (Wy 3 q40 (List.getD m q6 0)+List.getD m q8 0)+Wy 10 q41 (List.getD m q10 0))));let q43:=wrap u32 (q38+List.getD q42 q3 0);let q44:=List.set x q31 (wrap u32 (q34+q43));let q45:=decide (q4=t+1);let q46:=[(46:Nat),47];let q47:=LoopState.ready=LoopState.ready/\(none:Option Code)=none/\(181:FuncId)=181/\(137:Nat)=137/\q46=q46/\Z0i=Z0i/\Z0j=Z0j;let q48:=q41=q41;let q49:=q40=q40;let q50:=[(2:Int),13,22];let q51:=List.getD x (atI 0 t) 0;let q52:=Wy 32 q50 q51;let q53:=List.getD x (atI 1 t) 0;let q54:=List.getD x (atI 2 t) 0;let q55:=bOr u32 (Z1F u32 q51 (bOr u32 q53 q54)) (Z1F u32 q53 q54);let q56:=QQ t m;let q57:=Z3Z t q56 x;let q58:=q35=q35;let q59:=q50=q50;let q60:=decide (came=came);let q61:=st=st/\part=part/\Z0 q60 Z2 False;let q62:=wrap u32 (q38+q39);let q63:=List.set x q31 (wrap u32 (q34+q62));
 Z0 (decide (t<64))
 (Z0 (decide (t>=16))
 (Z0 q2 (Z0 (decide (q3<16)) (Z0 (decide (0<=q5/\q5<16)) (Z0 (decide (q6<16)) (Z0 (decide (0<=q7/\q7<16)) (Z0 (decide (q8<16)) (Z0 (decide (0<=q9/\q9<16)) (Z0 (decide (q10<16)) (Z0 q2 (Z0 (decide (u32=u32/\q3<16/\q3<List.length m)) (Z0 q2 (Z0 q11 (Z0 q12 (Z0 q13 (Z0 q14 (Z0 q15 (Z0 q16 (Z0 q17 (Z0 q18 (Z0 q19 (Z0 q20 (Z0 q21 (Z0 q22 (Z0 q23 (Z0 q24 (Z0 q26 (Z0 q27 (Z0 q29 (Z0 q30 (Z0 q32 (Z0 q33 (Z0 q27 (Z0 (decide (u32=u32/\q28<8/\q28<List.length q44)) (Z0 q45 (q47/\q48/\q49/\List.set q44 q28 (wrap u32 (wrap u32 (q43+q52)+q55))=q57/\q58/\q59/\Vk=Vk/\q42=q56/\q61) False) False) False) False) False) False) False) False) False) False) False) False) False) False) False) False) False) False) False) False) False) False) False) False) False) False) False) False) False) False) False) False) False) False)
 (Z0 q2 (Z0 q11 (Z0 q12 (Z0 q13 (Z0 q14 (Z0 q15 (Z0 q16 (Z0 q17 (Z0 q18 (Z0 q19 (Z0 q20 (Z0 q21 (Z0 q22 (Z0 q23 (Z0 q24 (Z0 q26 (Z0 q27 (Z0 q29 (Z0 q30 (Z0 q32 (Z0 q33 (Z0 q27 (Z0 (decide (u32=u32/\q28<8/\q28<List.length q63)) (Z0 q45 (q47/\q48/\q49/\List.set q63 q28 (wrap u32 (wrap u32 (q62+q52)+q55))=q57/\q58/\q59/\Vk=Vk/\m=q56/\q61) False) False) False) False) False) False) False) False) False) False) False) False) False) False) False) False) False) False) False) False) False) False) False) False))
 (Z0 (decide (t=t)) (q47/\q48/\q49/\x=x/\q58/\q59/\Vk=Vk/\m=m/\st=st/\part=part/\Z0 q60 Z False) False)) (by kernel_rfl) ?_
 conv=>zeta
 refine ifD (fun h64=> ?_) (fun h64=> ?_)
 ·have e1:i64.wrap (t+1)=t+1:=w64 (by omega)
  have b0:=Z5v (t:=t) (by omega)
  have b1:=Z5v (t:=i64.wrap (t+1)) (by rw [e1];omega)
  have b9:=Z5v (t:=i64.wrap (t+9)) (by rw [w64 (by omega)];omega)
  have b14:=Z5v (t:=i64.wrap (t+14)) (by rw [w64 (by omega)];omega)
  have a:∀i:Int,0<=i/\i<8->atI i t<8:=fun i hi=>Zis (by omega)
  refine ifD (fun h16=> ?_) (fun h16=> ?_)
  all_goals
   repeat (refine nd ?_ ?_;· first|omega|exact a _ (by omega)|exact ⟨rfl,by first|omega|exact a _ (by omega),by first|(rw [hm];omega)|(rw [hx];exact a _ (by omega))|(rw [List.length_set,hx];exact a _ (by omega))⟩)
  ·refine ⟨⟨rfl,rfl,rfl,rfl,rfl,rfl,rfl⟩,rfl,rfl, ?_,rfl,rfl,rfl, ?_,rfl,rfl,nd rfl (hZ2 h64)⟩
   ·simp only [Z3Z,Z0Y,QQ,if_pos h16];rfl
   ·simp only [QQ,if_pos h16];rfl
  ·refine ⟨⟨rfl,rfl,rfl,rfl,rfl,rfl,rfl⟩,rfl,rfl, ?_,rfl,rfl,rfl, ?_,rfl,rfl,nd rfl (hZ2 h64)⟩
   ·simp only [Z3Z,Z0Y,QQ,if_neg h16];rfl
   ·simp only [QQ,if_neg h16]
 ·exact nd rfl ⟨⟨rfl,rfl,rfl,rfl,rfl,rfl,rfl⟩,rfl,rfl,rfl,rfl,rfl,rfl,rfl,rfl,rfl,nd rfl (hZ (by omega))⟩
end Go.Tk
end
section
namespace Go.Tk
open IntKind (i64 u8 u32 u64 wrap)
def Wz (m x:List Int):Nat->List Int×List Int
 | 0=>(m,x)
 | t+1=>let p:=Wz m x t;(QQ t p.1,Z3Z t (QQ t p.1) p.2)
theorem Z0k (m x:List Int) (hm:m.length=16) (hx:x.length=8):∀t,(Wz m x t).1.length=16/\(Wz m x t).2.length=8
 | 0=>⟨hm,hx⟩
 | t+1=>by
  have:=Z0k m x hm hx t
  simp only [Wz]
  rw [Z6w,Z6x]
  exact this
theorem Z4n (m x:List Int):Wz m x 0=(m,x):=rfl
theorem Z4o (m x:List Int) (t:Nat):Wz m x (t+1)=(QQ t (Wz m x t).1,Z3Z t (QQ t (Wz m x t).1) (Wz m x t).2):=rfl
attribute [irreducible] Wz
def ZjO (st part:List Int) (came:Int) (m m' x':List Int) (C:Prop):Nat->St->KE->Prop:=fun k s X=>match Nat.beq k 24 with
 | true=>YU 24 [] (Z6v st part came m st 0) s (C/\X (.exit 0) (Z6v st part came m' x' 64))
 | false=>False
noncomputable def G2 (st part:List Int) (came:Int) (m m' x':List Int) (C:Prop):Zg:=G1.withL 192 0 (ZjO st part came m m' x' C)
theorem ZjP (st part:List Int) (came:Int) (m m' x':List Int) (C:Prop) (hC:C->m.length=16/\st.length=8/\m'=(Wz m st 64).1/\x'=(Wz m st 64).2):(G2 st part came m m' x' C).Ok:=by
 refine Zg.withL_ok Zhy (by kernel_rfl) ?_
 intro k s X hl
 unfold ZjO at hl
 split at hl
 ·rename_i hk
  have:=Nat.eq_of_beq_eq_true hk
  subst this
  obtain ⟨⟨hc,hX⟩,hw⟩:=Yn hl
  obtain ⟨hm,hx,rfl,rfl⟩:=hC hc
  refine ⟨{ t:Nat//t<=64},fun t=>64-t.1,fun t=>Z6v st part came (Wz m st t.1).1 (Wz m st t.1).2 t.1,⟨0,by omega⟩,20,by show Vi 24 s (Z6v st part came (Wz m st 0).1 (Wz m st 0).2 ((0:Nat):Int));rw [Z4n];exact hw, ?_⟩
  rintro ⟨t,ht⟩
  obtain ⟨l1,l2⟩:=Z0k m st hm hx t
  refine ⟨_,Zct st part came (Wz m st t).1 (Wz m st t).2 t (t=64) (t<64) (by omega) l1 l2 (by omega) (by omega), ?_⟩
  intro e s' hY
  split at hY
  ·obtain ⟨h64,hw'⟩:=Yn hY
   refine ⟨⟨t+1,by omega⟩,by show 64-(t+1)<64-t;omega, ?_⟩
   show Vi 24 s' (Z6v st part came (Wz m st (t+1)).1 (Wz m st (t+1)).2 ((t+1:Nat):Int))
   rw [Z4o]
   exact hw'
  ·obtain ⟨h64,hw'⟩:=Yn hY
   subst h64
   exact ⟨_,hw',hX⟩
  ·exact hY.elim
 ·exact hl.elim
def W7 (b:List Int) (i:Nat):Int:=bOr .u32 (ZJ .u32 (bOr .u32 (ZJ .u32 (bOr .u32 (ZJ .u32 (bOr .u32 0 (u32.wrap (b.getD i 0))) 8) (u32.wrap (b.getD (i+1) 0))) 8) (u32.wrap (b.getD (i+2) 0))) 8) (u32.wrap (b.getD (i+3) 0))
def WT (b:List Int):List Int:=[W7 b 0,W7 b 4,W7 b 8,W7 b 12,W7 b 16,W7 b 20,W7 b 24,W7 b 28,W7 b 32,W7 b 36,W7 b 40,W7 b 44,W7 b 48,W7 b 52,W7 b 56,W7 b 60]
def ZaU (st x:List Int):List Int:=List.zipWith (fun a b=>u32.wrap (a+b)) st x
def Wi (st part:List Int):List Int:=ZaU st (Wz (WT part) st 64).2
theorem Z8f (a0 a1 a2 a3 a4 a5 a6 a7 b0 b1 b2 b3 b4 b5 b6 b7:Int) (part:List Int) (came:Int) (m m' st':List Int) (C:Prop) (hm:m=WT part) (hst:st'=ZaU [a0,a1,a2,a3,a4,a5,a6,a7] [b0,b1,b2,b3,b4,b5,b6,b7]) (hC:C):
  evF (G2 [a0,a1,a2,a3,a4,a5,a6,a7] part came m m' [b0,b1,b2,b3,b4,b5,b6,b7] C) 20 181 [.ptr (some ⟨0,0,0,0,0⟩),.nslice ⟨0,0,0,8,0⟩ 1 64 64] ⟨1,[(0,Z1J [a0,a1,a2,a3,a4,a5,a6,a7] part came)]⟩ (XN 1 [] (.tuple []) 1 [(0,Z1J st' part came)]):=by
 refine @Eq.mpr _ ((LoopState.ready=LoopState.ready/\(none:Option Code)=none/\(181:FuncId)=(181:FuncId)/\(137:Nat)=(137:Nat)/\[(46:Nat),(47:Nat)]=[(46:Nat),(47:Nat)]/\Z0i=Z0i/\Z0j=Z0j)/\
 [(17:Int),(19:Int)]=[(17:Int),(19:Int)]/\
 [(7:Int),(18:Int)]=[(7:Int),(18:Int)]/\
 [a0,a1,a2,a3,a4,a5,a6,a7]=[a0,a1,a2,a3,a4,a5,a6,a7]/\
 [(6:Int),(11:Int),(25:Int)]=[(6:Int),(11:Int),(25:Int)]/\
 [(2:Int),(13:Int),(22:Int)]=[(2:Int),(13:Int),(22:Int)]/\
 [(1116352408:Int),(1899447441:Int),(3049323471:Int),(3921009573:Int),(961987163:Int),(1508970993:Int),(2453635748:Int),(2870763221:Int),(3624381080:Int),(310598401:Int),(607225278:Int),(1426881987:Int),(1925078388:Int),(2162078206:Int),(2614888103:Int),(3248222580:Int),(3835390401:Int),(4022224774:Int),(264347078:Int),(604807628:Int),(770255983:Int),(1249150122:Int),(1555081692:Int),(1996064986:Int),(2554220882:Int),(2821834349:Int),(2952996808:Int),(3210313671:Int),(3336571891:Int),(3584528711:Int),(113926993:Int),(338241895:Int),(666307205:Int),(773529912:Int),(1294757372:Int),(1396182291:Int),(1695183700:Int),(1986661051:Int),(2177026350:Int),(2456956037:Int),(2730485921:Int),(2820302411:Int),(3259730800:Int),(3345764771:Int),(3516065817:Int),(3600352804:Int),(4094571909:Int),(275423344:Int),(430227734:Int),(506948616:Int),
 (659060556:Int),(883997877:Int),(958139571:Int),(1322822218:Int),(1537002063:Int),(1747873779:Int),(1955562222:Int),(2024104815:Int),(2227730452:Int),(2361852424:Int),(2428436474:Int),(2756734187:Int),(3204031479:Int),(3329325298:Int)]=
 Vk/\
 [bOr u32 (ZJ u32 (bOr u32 (ZJ u32 (bOr u32 (ZJ u32 (bOr u32 (0:Int) (wrap u32 (List.getD part (0:Nat) (0:Int)))) (8:Int)) (wrap u32 (List.getD part (1:Nat) (0:Int)))) (8:Int)) (wrap u32 (List.getD part (2:Nat) (0:Int)))) (8:Int)) (wrap u32 (List.getD part (3:Nat) (0:Int))),bOr u32 (ZJ u32 (bOr u32 (ZJ u32 (bOr u32 (ZJ u32 (bOr u32 (0:Int) (wrap u32 (List.getD part (4:Nat) (0:Int)))) (8:Int)) (wrap u32 (List.getD part (5:Nat) (0:Int)))) (8:Int)) (wrap u32 (List.getD part (6:Nat) (0:Int)))) (8:Int)) (wrap u32 (List.getD part (7:Nat) (0:Int))),
 bOr u32 (ZJ u32 (bOr u32 (ZJ u32 (bOr u32 (ZJ u32 (bOr u32 (0:Int) (wrap u32 (List.getD part (8:Nat) (0:Int)))) (8:Int)) (wrap u32 (List.getD part (9:Nat) (0:Int)))) (8:Int)) (wrap u32 (List.getD part (10:Nat) (0:Int)))) (8:Int)) (wrap u32 (List.getD part (11:Nat) (0:Int))),bOr u32 (ZJ u32 (bOr u32 (ZJ u32 (bOr u32 (ZJ u32 (bOr u32 (0:Int) (wrap u32 (List.getD part (12:Nat) (0:Int)))) (8:Int)) (wrap u32 (List.getD part (13:Nat) (0:Int)))) (8:Int)) (wrap u32 (List.getD part (14:Nat) (0:Int)))) (8:Int)) (wrap u32 (List.getD part (15:Nat) (0:Int))),
 bOr u32 (ZJ u32 (bOr u32 (ZJ u32 (bOr u32 (ZJ u32 (bOr u32 (0:Int) (wrap u32 (List.getD part (16:Nat) (0:Int)))) (8:Int)) (wrap u32 (List.getD part (17:Nat) (0:Int)))) (8:Int)) (wrap u32 (List.getD part (18:Nat) (0:Int)))) (8:Int)) (wrap u32 (List.getD part (19:Nat) (0:Int))),bOr u32 (ZJ u32 (bOr u32 (ZJ u32 (bOr u32 (ZJ u32 (bOr u32 (0:Int) (wrap u32 (List.getD part (20:Nat) (0:Int)))) (8:Int)) (wrap u32 (List.getD part (21:Nat) (0:Int)))) (8:Int)) (wrap u32 (List.getD part (22:Nat) (0:Int)))) (8:Int)) (wrap u32 (List.getD part (23:Nat) (0:Int))),
 bOr u32 (ZJ u32 (bOr u32 (ZJ u32 (bOr u32 (ZJ u32 (bOr u32 (0:Int) (wrap u32 (List.getD part (24:Nat) (0:Int)))) (8:Int)) (wrap u32 (List.getD part (25:Nat) (0:Int)))) (8:Int)) (wrap u32 (List.getD part (26:Nat) (0:Int)))) (8:Int)) (wrap u32 (List.getD part (27:Nat) (0:Int))),bOr u32 (ZJ u32 (bOr u32 (ZJ u32 (bOr u32 (ZJ u32 (bOr u32 (0:Int) (wrap u32 (List.getD part (28:Nat) (0:Int)))) (8:Int)) (wrap u32 (List.getD part (29:Nat) (0:Int)))) (8:Int)) (wrap u32 (List.getD part (30:Nat) (0:Int)))) (8:Int)) (wrap u32 (List.getD part (31:Nat) (0:Int))),
 bOr u32 (ZJ u32 (bOr u32 (ZJ u32 (bOr u32 (ZJ u32 (bOr u32 (0:Int) (wrap u32 (List.getD part (32:Nat) (0:Int)))) (8:Int)) (wrap u32 (List.getD part (33:Nat) (0:Int)))) (8:Int)) (wrap u32 (List.getD part (34:Nat) (0:Int)))) (8:Int)) (wrap u32 (List.getD part (35:Nat) (0:Int))),bOr u32 (ZJ u32 (bOr u32 (ZJ u32 (bOr u32 (ZJ u32 (bOr u32 (0:Int) (wrap u32 (List.getD part (36:Nat) (0:Int)))) (8:Int)) (wrap u32 (List.getD part (37:Nat) (0:Int)))) (8:Int)) (wrap u32 (List.getD part (38:Nat) (0:Int)))) (8:Int)) (wrap u32 (List.getD part (39:Nat) (0:Int))),
 bOr u32 (ZJ u32 (bOr u32 (ZJ u32 (bOr u32 (ZJ u32 (bOr u32 (0:Int) (wrap u32 (List.getD part (40:Nat) (0:Int)))) (8:Int)) (wrap u32 (List.getD part (41:Nat) (0:Int)))) (8:Int)) (wrap u32 (List.getD part (42:Nat) (0:Int)))) (8:Int)) (wrap u32 (List.getD part (43:Nat) (0:Int))),bOr u32 (ZJ u32 (bOr u32 (ZJ u32 (bOr u32 (ZJ u32 (bOr u32 (0:Int) (wrap u32 (List.getD part (44:Nat) (0:Int)))) (8:Int)) (wrap u32 (List.getD part (45:Nat) (0:Int)))) (8:Int)) (wrap u32 (List.getD part (46:Nat) (0:Int)))) (8:Int)) (wrap u32 (List.getD part (47:Nat) (0:Int))),
 bOr u32 (ZJ u32 (bOr u32 (ZJ u32 (bOr u32 (ZJ u32 (bOr u32 (0:Int) (wrap u32 (List.getD part (48:Nat) (0:Int)))) (8:Int)) (wrap u32 (List.getD part (49:Nat) (0:Int)))) (8:Int)) (wrap u32 (List.getD part (50:Nat) (0:Int)))) (8:Int)) (wrap u32 (List.getD part (51:Nat) (0:Int))),bOr u32 (ZJ u32 (bOr u32 (ZJ u32 (bOr u32 (ZJ u32 (bOr u32 (0:Int) (wrap u32 (List.getD part (52:Nat) (0:Int)))) (8:Int)) (wrap u32 (List.getD part (53:Nat) (0:Int)))) (8:Int)) (wrap u32 (List.getD part (54:Nat) (0:Int)))) (8:Int)) (wrap u32 (List.getD part (55:Nat) (0:Int))),
 bOr u32 (ZJ u32 (bOr u32 (ZJ u32 (bOr u32 (ZJ u32 (bOr u32 (0:Int) (wrap u32 (List.getD part (56:Nat) (0:Int)))) (8:Int)) (wrap u32 (List.getD part (57:Nat) (0:Int)))) (8:Int)) (wrap u32 (List.getD part (58:Nat) (0:Int)))) (8:Int)) (wrap u32 (List.getD part (59:Nat) (0:Int))),bOr u32 (ZJ u32 (bOr u32 (ZJ u32 (bOr u32 (ZJ u32 (bOr u32 (0:Int) (wrap u32 (List.getD part (60:Nat) (0:Int)))) (8:Int)) (wrap u32 (List.getD part (61:Nat) (0:Int)))) (8:Int)) (wrap u32 (List.getD part (62:Nat) (0:Int)))) (8:Int)) (wrap u32 (List.getD part (63:Nat) (0:Int)))]=
 m/\
 [a0,a1,a2,a3,a4,a5,a6,a7]=[a0,a1,a2,a3,a4,a5,a6,a7]/\part=part/\Z0 (decide (came=came)) (C/\[wrap u32 (a0+b0),wrap u32 (a1+b1),wrap u32 (a2+b2),wrap u32 (a3+b3),wrap u32 (a4+b4),wrap u32 (a5+b5),wrap u32 (a6+b6),wrap u32 (a7+b7)]=st'/\part=part/\Z0 (decide (came=came)) True False) False) (by kernel_rfl) ?_
 refine ⟨⟨rfl,rfl,rfl,rfl,rfl,rfl,rfl⟩,rfl,rfl,rfl,rfl,rfl,rfl, ?_,rfl,rfl,nd rfl ⟨hC, ?_⟩⟩
 ·rw [hm];rfl
 ·exact ⟨by rw [hst];rfl,rfl,nd rfl trivial⟩
theorem eight (l:List Int) (h:l.length=8):∃a b c d e f g i,l=[a,b,c,d,e,f,g,i]:=by
 match l,h with
 | [a,b,c,d,e,f,g,i],_=>exact ⟨a,b,c,d,e,f,g,i,rfl⟩
theorem QR (b:List Int):(WT b).length=16:=rfl
theorem ZaV (st part:List Int) (came:Int) (hs:st.length=8):
  Z3X PP 181 [.ptr (some ⟨0,0,0,0,0⟩),.nslice ⟨0,0,0,8,0⟩ 1 64 64] (Z1J st part came) (.tuple []) (Z1J (Wi st part) part came):=by
 have hl:=Z0k (WT part) st (QR part) hs 64
 generalize hq:Wz (WT part) st 64=q at hl
 obtain ⟨a0,a1,a2,a3,a4,a5,a6,a7,rfl⟩:=eight st hs
 obtain ⟨b0,b1,b2,b3,b4,b5,b6,b7,hb⟩:=eight q.2 hl.2
 have hG:=ZjP [a0,a1,a2,a3,a4,a5,a6,a7] part came (WT part) q.1 q.2 True (fun _=>⟨QR part,hs,by rw [hq],by rw [hq]⟩)
 rw [hb] at hG
 refine Z3X.ev hG (Z8f a0 a1 a2 a3 a4 a5 a6 a7 b0 b1 b2 b3 b4 b5 b6 b7 part came (WT part) q.1 _ True rfl ?_ trivial)
 unfold Wi
 rw [hq,hb]
end Go.Tk
end
section
namespace Go.Tk
open IntKind (i64 u8 u32 u64 wrap)
def Z8g:Yf:=fun args h K=>match args with
 | [.ptr (some ⟨x,0,0,0,0⟩),.nslice ⟨y,0,0,8,0⟩ 1 64 lo]=>match Nat.beq y x,h.get x with
  | true,some (.flat [.arr .u32 8 st,.arr .u8 64 part,.int .i64 came,.bool true])=>Zx (st.length=8/\64<=lo) (K (.ret (.tuple [])) (h.set x (Z1J (Wi st part) part came)))
  | _,_=>False
 | _=>False
theorem ZaW (args:List AV) (h:Za) (K:KO) (hl:Z8g args h K):Zp PP 181 args h K:=by
 unfold Z8g at hl
 split at hl
 ·rename_i x y lo
  split at hl
  ·rename_i st part came hy hx
   have:=Nat.eq_of_beq_eq_true hy
   subst this
   obtain ⟨⟨hs,hlo⟩,hK⟩:=Ze hl
   refine (ZaV st part came hs).calls hx rfl (by simp [csz]) (.flat _ rfl) Zk.nothing ?_ hK
   intro E w rs he hr
   cases hr with
   | cons v r1 vs rs1 h1 hr=>cases hr with
    | cons v r2 vs rs2 h2 hr=>
     cases hr
     cases h1 with
     | ptr p b N hb=>cases h2 with
      | nslice0 p' esz len lo' a h1 h2'=>cases h1
      | nslice p' esz len lo' b' N' cap hb' h1 h2' h3=>exact .cons _ _ _ _ (.ptr ⟨0,0,0,0,0⟩ b N hb) (.cons _ _ _ _ (.nslice ⟨0,0,0,8,0⟩ 1 64 64 b' N' cap hb' h1 (by omega) h3) .nil)
  ·exact hl.elim
 ·exact hl.elim
noncomputable def G3:Zg:=G1.withF 181 Z8g
theorem Zhz:G3.Ok:=Zg.withF_ok Zhy ZaW
def wAt (came:Int):Nat:=(Int.tmod came 64).toNat
def wTk (came:Int) (bs:List Int):List Int:=bs.take (64-wAt came)
def VB (part:List Int) (came:Int) (bs:List Int):List Int:=spl part (wAt came) (wTk came bs)
def wSt (st part:List Int) (came:Int) (bs:List Int):List Int:=if wAt came+(wTk came bs).length=64 then Wi st (VB part came bs) else st
def wrS (st part:List Int) (came:Int) (bs:List Int) (len:Nat):St:=⟨47,[(0,pt 0),(1,.vints .u8 bs len)],⟨1,[(0,Z1J st part came)]⟩,[]⟩
theorem Z8h (st part bs:List Int) (came:Int) (len:Nat) (Z Z2:Prop) (hc:0<=came/\came<4611686018427387904) (hs:st.length=8) (hp:part.length=64) (hlen:len=bs.length) (hbl:bs.length<4611686018427387904) (hZ:bs=[]->Z) (hZ2:bs≠[]->Z2):
  ZG G3 20 164 0 1 (wrS st part came bs len) (fun e s=>match e with|.normal=>YU 1 [] (wrS (wSt st part came bs) (VB part came bs) (came+(wTk came bs).length) (bs.drop (wTk came bs).length) (bs.drop (wTk came bs).length).length) s Z2|.exit 0=>YU 1 [] (wrS st part came bs len) s Z|_=>False):=by
 refine @Eq.mpr _ (let q1:=Int.tmod came 64;let q2:=some (Int.toNat q1);let q3:=0+Y6 q2;let q4:=Vp 64 q2;let q5:=List.take q4 (List.take len bs);let q6:=(↑(List.length q5):Int);let q7:=some (Int.toNat q6);let q8:=List.length (wTk came bs);let q9:=List.drop q8 bs;let q10:=Z2p q7 bs=q9;let q11:=decide (Vp len q7=List.length q9);let q12:=spl part q3 q5;let q13:=wSt st part came bs;let q14:=q12=VB part came bs/\Z0 (decide (wrap i64 (came+q6)=came+(↑q8:Int))) Z2 False;
 Z0 (decide ((↑len:Int)>0)) (Z0 (decide (0<=q1/\q1<=64)) (Z0 (decide (u8=u8/\List.length part=64/\q3+q4<=64)) (Z0 (decide (len<=List.length bs)) (Z0 (decide (0<=q6/\q6<=(↑len:Int))) (Z0 (wrap i64 (q1+q6)==64) (Z0 (decide (List.length st=8/\(64:Nat)<=64)) (q10/\Z0 q11 (Wi st q12=q13/\q14) False) False) (q10/\Z0 q11 (st=q13/\q14) False)) False) False) False) False) (bs=bs/\Z0 (decide (len=len)) (st=st/\part=part/\Z0 (decide (came=came)) Z False) False)) (by kernel_rfl) ?_
 conv=>zeta
 subst hlen
 have t0:Int.tmod came 64=came%64:=tm hc.1
 have hat:wAt came=(came%64).toNat:=by unfold wAt;rw [t0]
 have ht:bs.take bs.length=bs:=List.take_length
 have hn:(wTk came bs).length<=64-wAt came/\(wTk came bs).length<=bs.length:=by unfold wTk;rw [List.length_take];omega
 have e0:List.take (64-(Int.tmod came 64).toNat) bs=wTk came bs:=rfl
 simp only [Y6,Vp,Z2p,ht,Nat.zero_add,e0,Int.toNat_natCast]
 rw [t0]
 have e1:i64.wrap (came%64+((wTk came bs).length:Int))=came%64+((wTk came bs).length:Int):=w64 (by omega)
 have e2:i64.wrap (came+((wTk came bs).length:Int))=came+((wTk came bs).length:Int):=w64 (by omega)
 rw [e1,e2]
 refine ifD (fun hpos=> ?_) (fun hpos=> ?_)
 ·have hne:bs≠[]:=fun e=>by subst e;simp at hpos
  refine nd (by omega) (nd ⟨by trivial,hp,by omega⟩ (nd (by first|exact Nat.le_refl _|trivial) (nd (by omega) ?_)))
  refine ifB (fun h64=> ?_) (fun h64=> ?_)
  ·have h64':wAt came+(wTk came bs).length=64:=by rw [beq_iff_eq] at h64;omega
   refine nd ⟨hs,by omega⟩ ⟨by trivial,nd (by rw [List.length_drop]) ⟨?_, ?_,nd (by trivial) (hZ2 hne)⟩⟩
   ·unfold wSt
    rw [if_pos h64']
    unfold VB
    rw [hat]
   ·unfold VB
    rw [hat]
  ·have h64':¬wAt came+(wTk came bs).length=64:=by rw [beq_eq_false_iff_ne] at h64;omega
   refine ⟨by trivial,nd (by rw [List.length_drop]) ⟨?_, ?_,nd (by trivial) (hZ2 hne)⟩⟩
   ·unfold wSt
    rw [if_neg h64']
   ·unfold VB
    rw [hat]
 ·have he:bs=[]:=by
   cases bs with
   | nil=>rfl
   | cons b bs=>simp at hpos
  exact ⟨by trivial,nd (by trivial) ⟨by trivial,by trivial,nd (by trivial) (hZ he)⟩⟩
structure ZE where
 st:List Int
 part:List Int
 came:Int
def ZE.blk (r:ZE):Blk:=Z1J r.st r.part r.came
def ZE.one (r:ZE) (bs:List Int):ZE:=⟨wSt r.st r.part r.came bs,VB r.part r.came bs,r.came+(wTk r.came bs).length⟩
def ZE.many:Nat->ZE->List Int->ZE×List Int
 | 0,r,bs=>(r,bs)
 | n+1,r,bs=>match bs with
  | []=>(r,[])
  | _::_=>ZE.many n (r.one bs) (bs.drop (wTk r.came bs).length)
def ZE.write (r:ZE) (bs:List Int):ZE:=(ZE.many bs.length r bs).1
structure ZE.Ok (r:ZE):Prop where
 st:r.st.length=8
 part:r.part.length=64
 came:0<=r.came
theorem Z4p (st part:List Int) (h:st.length=8):(Wi st part).length=8:=by
 unfold Wi ZaU
 rw [List.length_zipWith,h,(Z0k (WT part) st (QR part) h 64).2]
 rfl
theorem ZE.Ok.one {r:ZE} (h:r.Ok) (bs:List Int):(r.one bs).Ok where
 st:=by show (wSt _ _ _ _).length=8;unfold wSt;split;exact Z4p _ _ h.st;exact h.st
 part:=by
  show (spl _ _ _).length=64
  rw [Z2z]
  ·exact h.part
  ·rw [h.part]
   have h0:wAt r.came=(r.came%64).toNat:=by unfold wAt;rw [tm h.came]
   have:(wTk r.came bs).length<=64-wAt r.came:=by unfold wTk;rw [List.length_take];omega
   have:=h.came
   omega
 came:=by show 0<=r.came+_;have:=h.came;omega
theorem Q2 {r:ZE} (h:r.Ok) {bs:List Int} (hb:bs≠[]):0<(wTk r.came bs).length:=by
 have h0:wAt r.came=(r.came%64).toNat:=by unfold wAt;rw [tm h.came]
 have:=h.came
 have:0<bs.length:=by cases bs with|nil=>exact absurd rfl hb|cons b bs=>simp
 unfold wTk
 rw [List.length_take]
 omega
theorem Zcu (c:Int) (bs:List Int):(wTk c bs).length<=bs.length:=by unfold wTk;rw [List.length_take];omega
def wrL (r:ZE) (bs:List Int) (r':ZE) (C:Prop):Nat->St->KE->Prop:=fun k s X=>match Nat.beq k 1 with
 | true=>YU 1 [] (wrS r.st r.part r.came bs bs.length) s (C/\X (.exit 0) (wrS r'.st r'.part r'.came [] 0))
 | false=>False
noncomputable def G4 (r:ZE) (bs:List Int) (r':ZE) (C:Prop):Zg:=G3.withL 164 0 (wrL r bs r' C)
theorem Zcv:∀(n:Nat) (r:ZE) (bs:List Int),r.Ok->bs.length<=n->(ZE.many n r bs).2=[]
 | 0,r,bs,_,h=>by cases bs with|nil=>rfl|cons b bs=>simp at h
 | n+1,r,bs,hr,h=>by
  unfold ZE.many
  split
  ·rfl
  ·rename_i b bs
   have:=Q2 hr (bs:=b::bs) (by simp)
   exact Zcv n _ _ (hr.one _) (by rw [List.length_drop];omega)
theorem Z4q:∀(n m:Nat) (r:ZE) (bs:List Int),r.Ok->bs.length<=n->bs.length<=m->ZE.many n r bs=ZE.many m r bs
 | 0,0,_,_,_,_,_=>rfl
 | 0,m+1,r,bs,_,h,_=>by cases bs with|nil=>rfl|cons b bs=>simp at h
 | n+1,0,r,bs,_,_,h=>by cases bs with|nil=>rfl|cons b bs=>simp at h
 | n+1,m+1,r,bs,hr,h1,h2=>by
  unfold ZE.many
  split
  ·rfl
  ·rename_i b bs
   have:=Q2 hr (bs:=b::bs) (by simp)
   exact Z4q n m _ _ (hr.one _) (by rw [List.length_drop];omega) (by rw [List.length_drop];omega)
theorem ZaX (r:ZE) (bs:List Int) (hr:r.Ok) (hb:bs≠[]):ZE.many bs.length r bs=ZE.many (bs.drop (wTk r.came bs).length).length (r.one bs) (bs.drop (wTk r.came bs).length):=by
 cases bs with
 | nil=>exact absurd rfl hb
 | cons b bs=>
  have:=Q2 hr hb
  have e:ZE.many (b::bs).length r (b::bs)=ZE.many bs.length (r.one (b::bs)) ((b::bs).drop (wTk r.came (b::bs)).length):=rfl
  rw [e]
  exact Z4q _ _ _ _ (hr.one _) (by rw [List.length_drop,List.length_cons];omega) (Nat.le_refl _)
theorem ZjQ (r:ZE) (bs:List Int) (r':ZE) (C:Prop) (hC:C->r.Ok/\r.came+bs.length<4611686018427387904/\r'=r.write bs):(G4 r bs r' C).Ok:=by
 refine Zg.withL_ok Zhz (by kernel_rfl) ?_
 intro k s X hl
 unfold wrL at hl
 split at hl
 ·rename_i hk
  have:=Nat.eq_of_beq_eq_true hk
  subst this
  obtain ⟨⟨hc,hX⟩,hw⟩:=Yn hl
  obtain ⟨hr,hle,hr'⟩:=hC hc
  refine ⟨{ q:ZE×List Int//q.1.Ok/\q.1.came+q.2.length<4611686018427387904/\(ZE.many q.2.length q.1 q.2).1=r'},fun q=>q.1.2.length,fun q=>wrS q.1.1.st q.1.1.part q.1.1.came q.1.2 q.1.2.length,⟨(r,bs),hr,hle,hr'.symm⟩,20,hw, ?_⟩
  rintro ⟨⟨q,cs⟩,hq,hqle,hqr⟩
  have hq0:=hq.came
  simp only at hq hqle hqr hq0
  refine ⟨_,Z8h q.st q.part cs q.came cs.length (cs=[]) (cs≠[]) ⟨hq0,by omega⟩ hq.st hq.part rfl (by omega) id id, ?_⟩
  intro e s' hY
  split at hY
  ·obtain ⟨hne,hw'⟩:=Yn hY
   have hp:=Q2 hq hne
   have hl2:=Zcu q.came cs
   have hd:(cs.drop (wTk q.came cs).length).length=cs.length-(wTk q.came cs).length:=List.length_drop ..
   refine ⟨⟨(q.one cs,cs.drop (wTk q.came cs).length),hq.one cs, ?_, ?_⟩, ?_,hw'⟩
   ·show q.came+_+_<_
    rw [hd];omega
   ·rw [<-hqr,ZaX q cs hq hne]
   ·show (cs.drop _).length<cs.length
    omega
  ·obtain ⟨he,hw'⟩:=Yn hY
   subst he
   have:q=r':=hqr
   subst this
   exact ⟨_,hw',hX⟩
  ·exact hY.elim
 ·exact hl.elim
theorem Z8i (r r':ZE) (bs:List Int) (C:Prop) (hC:C):
  evF (G4 r bs r' C) 20 164 [.ptr (some ⟨0,0,0,0,0⟩),.vints .u8 bs bs.length] ⟨1,[(0,r.blk)]⟩ (XN 1 [] (.int .i64 0) 1 [(0,r'.blk)]):=by
 refine @Eq.mpr _ (bs=bs/\Z0 (decide (List.length bs=List.length bs)) (r.st=r.st/\r.part=r.part/\Z0 (decide (r.came=r.came)) (C/\r'.st=r'.st/\r'.part=r'.part/\Z0 (decide (r'.came=r'.came)) True False) False) False) (by kernel_rfl) ?_
 exact ⟨rfl,nd rfl ⟨rfl,rfl,nd rfl ⟨hC,rfl,rfl,nd rfl trivial⟩⟩⟩
theorem ZaY (r:ZE) (bs:List Int) (hr:r.Ok) (hl:r.came+bs.length<4611686018427387904):Z3X PP 164 [.ptr (some ⟨0,0,0,0,0⟩),.vints .u8 bs bs.length] r.blk (.int .i64 0) (r.write bs).blk:=
 Z3X.ev (ZjQ r bs (r.write bs) True (fun _=>⟨hr,hl,rfl⟩)) (Z8i r (r.write bs) bs True trivial)
theorem Z9p:∀(n:Nat) (r:ZE) (bs:List Int),r.Ok->(ZE.many n r bs).1.Ok
 | 0,_,_,h=>h
 | n+1,r,bs,h=>by
  unfold ZE.many
  split
  ·exact h
  ·exact Z9p n _ _ (h.one _)
theorem VC (r:ZE) (bs:List Int) (h:r.Ok):(r.write bs).Ok:=Z9p _ _ _ h
theorem Z4r:∀(n:Nat) (r:ZE) (bs:List Int),r.Ok->bs.length<=n->(ZE.many n r bs).1.came=r.came+bs.length
 | 0,r,bs,_,h=>by cases bs with|nil=>simp [ZE.many]|cons b bs=>simp at h
 | n+1,r,bs,hr,h=>by
  unfold ZE.many
  split
  ·simp
  ·rename_i b bs
   have h1:=Q2 hr (bs:=b::bs) (by simp)
   have h2:=Zcu r.came (b::bs)
   rw [Z4r n _ _ (hr.one _) (by rw [List.length_drop];omega)]
   show r.came+_+_=_
   rw [List.length_drop]
   omega
theorem VY (r:ZE) (bs:List Int) (h:r.Ok):(r.write bs).came=r.came+bs.length:=Z4r _ _ _ h (Nat.le_refl _)
attribute [irreducible] ZE.write
def Zcw (h:Za) (mv:Option Nat) (b:AV) (K:List Int->Prop):Prop:=Uu mv h true 4 b fun v=>match v with
 | .vints .u8 xs len=>Zx (len=xs.length) (K xs)
 | .nilslice=>K []
 | .eslice=>K []
 | _=>False
def Z8j (W:ZE->List Int->ZE) (B:Int):Yf:=fun args h K=>match args with
 | [.ptr (some ⟨x,0,0,0,0⟩),b]=>match h.get x with
  |some (.flat [.arr .u32 8 st,.arr .u8 64 part,.int .i64 came,.bool true])=>Zcw h (some x) b fun xs=>
   Zx (st.length=8/\part.length=64/\0<=came/\came+xs.length<=B) (K (.ret (.int .i64 0)) (h.set x ((W ⟨st,part,came⟩ xs).blk)))
  | _=>False
 | _=>False
theorem Zk.int' (k:IntKind) (n:Int) (E E':Env) (r:Value) (h:Zk E (.int k n) r):Zk E' (.int k n) r:=h.plain rfl
theorem ZaZ (B:Int) (hB:B<4611686018427387904) (args:List AV) (h:Za) (K:KO) (hl:Z8j ZE.write B args h K):Zp PP 164 args h K:=by
 unfold Z8j at hl
 split at hl
 ·rename_i x b
  split at hl
  ·rename_i st part came hx
   unfold Zcw at hl
   obtain ⟨v₀,hv,hb⟩:=Z0g (fun y hy=>by cases hy;exact ⟨_,hx⟩) _ _ _ _ hl
   have fin:∀xs:List Int,(∀(E:Env) (w:World) (r:Value),Emb E h w->Zk E b r->Zk (E.bor (some x) w true) (.vints .u8 xs xs.length) r)->
     Zx (st.length=8/\part.length=64/\0<=came/\came+xs.length<=B) (K (.ret (.int .i64 0)) (h.set x ((ZE.write ⟨st,part,came⟩ xs).blk)))->Zp PP 164 [.ptr (some ⟨x,0,0,0,0⟩),b] h K:=by
    intro xs hxs hn
    obtain ⟨⟨h1,h2,h3,h4⟩,hK⟩:=Ze hn
    refine (ZaY ⟨st,part,came⟩ xs ⟨h1,h2,h3⟩ (by show came+xs.length<_;omega)).calls hx rfl (by simp [csz]) (.flat _ rfl) (Zk.int' _ _) ?_ hK
    intro E w rs he hr
    cases hr with
    | cons v r1 vs rs1 h1 hr=>cases hr with
     | cons v r2 vs rs2 h2 hr=>
      cases hr
      cases h1 with
      | ptr p b' N hb'=>exact .cons _ _ _ _ (.ptr ⟨0,0,0,0,0⟩ b' N hb') (.cons _ _ _ _ (hxs E w _ he h2) .nil)
   split at hv
   ·rename_i xs len
    obtain ⟨rfl,hn⟩:=Ze hv
    exact fin xs hb hn
   ·refine fin [] (fun E w r he hr=> ?_) hv
    have:=hb E w r he hr
    cases this
    exact .vintsNil _ _ _ rfl rfl
   ·refine fin [] (fun E w r he hr=> ?_) hv
    have:=hb E w r he hr
    cases this with
    | eslice a=>cases a with
     | none=>exact .vintsNil _ _ _ rfl rfl
     | some a=>exact .vints _ _ _ a 0 (by simp) (by simp) (fun i hi=>by simp at hi)
   ·exact hv.elim
  ·exact hl.elim
 ·exact hl.elim
noncomputable def G5 (W:ZE->List Int->ZE) (B:Int):Zg:=G3.withF 164 (Z8j W B)
theorem ZhA (B:Int) (hB:B<4611686018427387904):(G5 ZE.write B).Ok:=Zg.withF_ok Zhz (ZaZ B hB)
end Go.Tk
end
section
namespace Go.Tk
open IntKind (i64 u8 u32 u64 wrap)
def Vb (n:Int):List Int:=[u8.wrap (Zz .u64 n 24),u8.wrap (Zz .u64 n 16),u8.wrap (Zz .u64 n 8),u8.wrap (Zz .u64 n 0)]
def Qr (n:Int):List Int:=[u8.wrap (Zz .u64 n 56),u8.wrap (Zz .u64 n 48),u8.wrap (Zz .u64 n 40),u8.wrap (Zz .u64 n 32),u8.wrap (Zz .u64 n 24),u8.wrap (Zz .u64 n 16),u8.wrap (Zz .u64 n 8),u8.wrap (Zz .u64 n 0)]
theorem Zit (n:Int) (l:List Int) (hl:l=Vb n):
  evF G0 20 182 [.int .u64 n,.int .i64 4] ⟨0,[]⟩ (XN 0 [(0,7)] (.nslice ⟨0,0,0,0,0⟩ 1 4 4) 1 [(0,.ints .u8 l)]):=by
 refine @Eq.mpr _ ([wrap u8 (Zz u64 n 24),wrap u8 (Zz u64 n 16),wrap u8 (Zz u64 n 8),wrap u8 (Zz u64 n 0)]=l/\True) (by kernel_rfl) ?_
 exact ⟨hl.symm,trivial⟩
theorem Ziu (n:Int) (l:List Int) (hl:l=Qr n):
  evF G0 20 182 [.int .u64 n,.int .i64 8] ⟨0,[]⟩ (XN 0 [(0,15)] (.nslice ⟨0,0,0,0,0⟩ 1 8 8) 1 [(0,.ints .u8 l)]):=by
 refine @Eq.mpr _ ([wrap u8 (Zz u64 n 56),wrap u8 (Zz u64 n 48),wrap u8 (Zz u64 n 40),wrap u8 (Zz u64 n 32),wrap u8 (Zz u64 n 24),wrap u8 (Zz u64 n 16),wrap u8 (Zz u64 n 8),wrap u8 (Zz u64 n 0)]=l/\True) (by kernel_rfl) ?_
 exact ⟨hl.symm,trivial⟩
def Zcx (T8:Int->List Int):Yf:=fun args h K=>match args with
 | [.int .u64 n,.int .i64 m]=>match decide (m=4) with
  | true=>K (.ret (.nslice ⟨h.next,0,0,0,0⟩ 1 4 4)) ⟨h.next+1,(h.next,.ints .u8 (Vb n))::h.bs⟩
  | false=>match decide (m=8) with
   | true=>K (.ret (.nslice ⟨h.next,0,0,0,0⟩ 1 8 8)) ⟨h.next+1,(h.next,.ints .u8 (T8 n))::h.bs⟩
   | false=>False
 | _=>False
theorem Zcy (args:List AV) (h:Za) (K:KO) (hl:Zcx Qr args h K):Zp PP 182 args h K:=by
 unfold Zcx at hl
 split at hl
 ·rename_i n m
  have ha:∀(E:Env) (w:World) (rs:List Value),Emb E h w->ZK E [.int .u64 n,.int .i64 m] rs->ZK (E.bor none w true) [.int .u64 n,.int .i64 m] rs:=by
   intro E w rs he hr
   cases hr with
   | cons v r1 vs rs1 h1 hr=>cases hr with
    | cons v r2 vs rs2 h2 hr=>
     cases hr
     exact .cons _ _ _ _ (h1.plain rfl) (.cons _ _ _ _ (h2.plain rfl) .nil)
  split at hl
  ·rename_i hm
   have hm:=of_decide_eq_true hm
   subst hm
   exact (ZC.ev Zv (Zit n _ rfl)).calls ha rfl ⟨Nat.one_pos,.ints _ _,trivial⟩ hl
  ·split at hl
   ·rename_i hm
    have hm:=of_decide_eq_true hm
    subst hm
    exact (ZC.ev Zv (Ziu n _ rfl)).calls ha rfl ⟨Nat.one_pos,.ints _ _,trivial⟩ hl
   ·exact hl.elim
 ·exact hl.elim
noncomputable def G6 (W:ZE->List Int->ZE) (T8:Int->List Int) (B:Int):Zg:=(G5 W B).withF 182 (Zcx T8)
theorem ZjR (B:Int) (hB:B<4611686018427387904):(G6 ZE.write Qr B).Ok:=Zg.withF_ok (ZhA B hB) Zcy
def Qb (came:Int):List Int:=[128]++List.replicate (Int.tmod (i64.wrap (119-Int.tmod came 64)) 64).toNat 0
def Z6y (st:List Int):List Int:=Vb (u64.wrap (st.getD 0 0))++Vb (u64.wrap (st.getD 1 0))++Vb (u64.wrap (st.getD 2 0))++Vb (u64.wrap (st.getD 3 0))++Vb (u64.wrap (st.getD 4 0))++Vb (u64.wrap (st.getD 5 0))++Vb (u64.wrap (st.getD 6 0))++Vb (u64.wrap (st.getD 7 0))
def len8 (came:Int):List Int:=Qr (u64.wrap (u64.wrap came*8))
def ZE.fin (r:ZE):List Int:=Z6y ((r.write (Qb r.came)).write (len8 r.came)).st
theorem Zcz (c:Int) (h:0<=c):(Qb c).length<=64:=by
 unfold Qb
 have h1:Int.tmod c 64=c%64:=tm h
 rw [h1,w64 (by omega),tm (by omega)]
 simp
 omega
theorem ZcA (W:ZE->List Int->ZE) (T8:Int->List Int) (st part:List Int) (came:Int) (hh:List Int) (B:Int) (hB:B=2000000000000) (hs:st.length=8) (hp:part.length=64) (hc:0<=came/\came<1000000000000) (hT:T8=Qr) (hW:W=ZE.write) (hh':hh=ZE.fin ⟨st,part,came⟩):
  evF (G6 W T8 B) 20 165 [.ptr (some ⟨0,0,0,0,0⟩)] ⟨1,[(0,Z1J st part came)]⟩ (XN 1 [] (.agg [.arr .u8 32 hh]) 1 [(0,Z1J st part came)]):=by
 refine @Eq.mpr _ (let q1:=Int.tmod (wrap i64 (119-Int.tmod came 64)) 64;let q2:=Int.toNat q1;let q3:=[(128:Int)]++List.replicate q2 0;let q4:=List.length q3;let q5:=List.take q4 (YH 0 q3);let q6:=List.length q5;let q7:=T8 (wrap u64 (wrap u64 came*8));let q8:=List.take 8 (YH 0 q7);let q9:=List.length q8;let q10:=W (ZE.mk st part came) q5;let q11:=q10.st;let q12:=q10.part;let q13:=q10.came;let q14:=(W (ZE.mk q11 q12 q13) q8).st;let q15:=wrap u64 (List.getD q14 0 0);let q16:=wrap u64 (List.getD q14 1 0);let q17:=wrap u64 (List.getD q14 2 0);let q18:=wrap u64 (List.getD q14 3 0);let q19:=wrap u64 (List.getD q14 4 0);let q20:=wrap u64 (List.getD q14 5 0);let q21:=wrap u64 (List.getD q14 6 0);let q22:=wrap u64 (List.getD q14 7 0);
 Z0 (decide ((0:Int)=0/\0<=q1/\(1+q2)*1<=140737488355328))
 (Z0 (decide (0+q4<=q4))
 (Z0 (decide (q4=q6))
 (Z0 (decide (List.length st=8/\List.length part=64/\0<=came/\came+ ↑q6<=B))
 (Z0 (decide (8<=List.length q7))
 (Z0 (decide (8=q9))
 (Z0 (decide (List.length q11=8/\List.length q12=64/\0<=q13/\q13+ ↑q9<=B))
 ([wrap u8 (Zz u64 q15 24),wrap u8 (Zz u64 q15 16),wrap u8 (Zz u64 q15 8),wrap u8 (Zz u64 q15 0),wrap u8 (Zz u64 q16 24),wrap u8 (Zz u64 q16 16),wrap u8 (Zz u64 q16 8),wrap u8 (Zz u64 q16 0),wrap u8 (Zz u64 q17 24),wrap u8 (Zz u64 q17 16),wrap u8 (Zz u64 q17 8),wrap u8 (Zz u64 q17 0),wrap u8 (Zz u64 q18 24),wrap u8 (Zz u64 q18 16),wrap u8 (Zz u64 q18 8),wrap u8 (Zz u64 q18 0),wrap u8 (Zz u64 q19 24),wrap u8 (Zz u64 q19 16),wrap u8 (Zz u64 q19 8),
 wrap u8 (Zz u64 q19 0),wrap u8 (Zz u64 q20 24),wrap u8 (Zz u64 q20 16),wrap u8 (Zz u64 q20 8),wrap u8 (Zz u64 q20 0),wrap u8 (Zz u64 q21 24),wrap u8 (Zz u64 q21 16),wrap u8 (Zz u64 q21 8),wrap u8 (Zz u64 q21 0),wrap u8 (Zz u64 q22 24),wrap u8 (Zz u64 q22 16),wrap u8 (Zz u64 q22 8),wrap u8 (Zz u64 q22 0)]=
 hh/\
 st=st/\part=part/\Z0 (decide (came=came)) True False)
 False)
 False)
 False)
 False)
 False)
 False)
 False) (by kernel_rfl) ?_
 conv=>zeta
 subst hT hW hB
 have hpad:=Zcz came hc.1
 have e0:[(128:Int)]++List.replicate (Int.toNat (Int.tmod (wrap i64 ((119:Int)-Int.tmod came (64:Int))) (64:Int))) (0:Int)=Qb came:=rfl
 have h1:Int.tmod came 64=came%64:=tm hc.1
 have h2:i64.wrap (119-came%64)=119-came%64:=w64 (by omega)
 have h3:Int.tmod (119-came%64) 64=(119-came%64)%64:=tm (by omega)
 have hok:ZE.Ok ⟨st,part,came⟩:=⟨hs,hp,hc.1⟩
 have hok1:=VC ⟨st,part,came⟩ (Qb came) hok
 have hca:(ZE.write ⟨st,part,came⟩ (Qb came)).came=came+(Qb came).length:=VY _ _ hok
 have e1:List.take (Qb came).length (YH 0 (Qb came))=Qb came:=List.take_length
 have e2:∀n,List.take 8 (YH 0 (Qr n))=Qr n:=fun n=>rfl
 simp only [e0,e1,e2]
 refine nd ⟨by trivial,by rw [h1,h2,h3];omega,by rw [h1,h2,h3];omega⟩ (nd (by omega) (nd (by trivial) (nd ⟨hs,hp,hc.1,by omega⟩ (nd (by show 8<=8;omega) (nd (by trivial) (nd ⟨hok1.st,hok1.part,hok1.came, ?_⟩ ?_))))))
 ·rw [hca]
  show _+8<=_
  omega
 ·refine ⟨?_,by trivial,by trivial,nd (by trivial) trivial⟩
  rw [hh']
  kernel_rfl
def Ziv (F:ZE->List Int) (B:Int):ZR:=fun args h K=>match args with
 | [.ptr (some ⟨x,0,0,0,0⟩)]=>match h.get x with
  | some (.flat [.arr .u32 8 st,.arr .u8 64 part,.int .i64 came,.bool true])=>Zx (st.length=8/\part.length=64/\0<=came/\came<=B) (K (.agg [.arr .u8 32 (F ⟨st,part,came⟩)]))
  | _=>False
 | _=>False
theorem Zm1 {a:Nat}:∀(i j x:Nat),([a]:List Nat)[i]? =some x->([a]:List Nat)[j]? =some x->i=j
 | 0,0,_,_,_=>rfl
 | i+1,_,x,h1,_=>by simp at h1
 | 0,j+1,x,_,h2=>by simp at h2
theorem Zk.hash {E E':Env} {k:IntKind} {n:Nat} {xs:List Int} {r:Value} (h:Zk E (.agg [.arr k n xs]) r):Zk E' (.agg [.arr k n xs]) r:=by
 cases h with
 | agg cs vs hc=>exact .agg _ _ (hc.plain rfl)
theorem Zfu (B:Int) (hB:B<1000000000000) (args:List AV) (h:Za) (K:AV->Prop) (hl:Ziv ZE.fin B args h K):Zp PP 165 args h fun o h'=>∃v,o=.ret v/\h'=h/\K v:=by
 unfold Ziv at hl
 split at hl
 ·rename_i x
  split at hl
  ·rename_i st part came hx
   obtain ⟨⟨h1,h2,h3,h4⟩,hK⟩:=Ze hl
   refine Z3Y.calls (σ:=[x]) (Bs:=[Z1J st part came]) (Z3Y.ev (ZjR 2000000000000 (by decide)) (ZcA ZE.write Qr st part came _ _ rfl h1 h2 ⟨h3,by omega⟩ rfl rfl rfl)) rfl Zm1 ?_ ?_ ?_ ?_ ?_ hK
   ·intro j y B hj hB
    match j with
    | 0=>simp at hj hB;subst hj;subst hB;exact hx
    | j+1=>simp at hj
   ·intro B hB
    simp at hB
    subst hB
    exact .flat _ rfl
   ·intro E w rs he hr
    cases hr with
    | cons v r1 vs rs1 h1 hr=>
     cases hr
     cases h1 with
     | ptr p b' N hb'=>exact .cons _ _ _ _ (.ptr ⟨0,0,0,0,0⟩ b' N hb') .nil
   ·intro E E₁ r hle hfr hq hv
    exact hv.hash
   ·intro E w he y hy
    simp at hy
    subst hy
    exact Z35 he hx (by simp [csz])
  ·exact hl.elim
 ·exact hl.elim
def Xm:ZE:=⟨[1779033703,3144134277,1013904242,2773480762,1359893119,2600822924,528734635,1541459225],List.replicate 64 0,0⟩
theorem Zm2 (l:List Int) (hl:l=List.replicate 64 0):
  evF G0 20 163 [] ⟨0,[]⟩ (XN 0 [(0,1)] (.ptr (some ⟨0,0,0,0,0⟩)) 1 [(0,Z1J [1779033703,3144134277,1013904242,2773480762,1359893119,2600822924,528734635,1541459225] l 0)]):=by
 refine @Eq.mpr _ ([(1779033703:Int),(3144134277:Int),(1013904242:Int),(2773480762:Int),(1359893119:Int),(2600822924:Int),(528734635:Int),(1541459225:Int)]=[(1779033703:Int),(3144134277:Int),(1013904242:Int),(2773480762:Int),(1359893119:Int),(2600822924:Int),(528734635:Int),(1541459225:Int)]/\
 [(0:Int),(0:Int),(0:Int),(0:Int),(0:Int),(0:Int),(0:Int),(0:Int),(0:Int),(0:Int),(0:Int),(0:Int),(0:Int),(0:Int),(0:Int),(0:Int),(0:Int),(0:Int),(0:Int),(0:Int),(0:Int),(0:Int),(0:Int),(0:Int),(0:Int),(0:Int),(0:Int),(0:Int),(0:Int),(0:Int),(0:Int),(0:Int),(0:Int),(0:Int),(0:Int),(0:Int),(0:Int),(0:Int),(0:Int),(0:Int),(0:Int),(0:Int),(0:Int),(0:Int),(0:Int),(0:Int),(0:Int),(0:Int),(0:Int),(0:Int),(0:Int),(0:Int),(0:Int),(0:Int),(0:Int),(0:Int),(0:Int),(0:Int),(0:Int),(0:Int),(0:Int),(0:Int),(0:Int),(0:Int)]=l/\True) (by kernel_rfl) ?_
 exact ⟨rfl,hl▸rfl,trivial⟩
def Ziw (r0:ZE):Yf:=fun args h K=>match args with
 | []=>K (.ret (.ptr (some ⟨h.next,0,0,0,0⟩))) ⟨h.next+1,(h.next,r0.blk)::h.bs⟩
 | _=>False
theorem Zfv (args:List AV) (h:Za) (K:KO) (hl:Ziw Xm args h K):Zp PP 163 args h K:=by
 unfold Ziw at hl
 split at hl
 ·exact (ZC.ev Zv (Zm2 _ rfl)).calls (fun E w rs he hr=>by cases hr;exact .nil) rfl ⟨Nat.one_pos,.flat _ rfl,trivial⟩ hl
 ·exact hl.elim
noncomputable def G7 (W:ZE->List Int->ZE) (F:ZE->List Int) (B:Int) (r0:ZE):Zg:=((G5 W B).withP 165 (Ziv F B)).withF 163 (Ziw r0)
theorem ZhB (B:Int) (hB:B<1000000000000):(G7 ZE.write ZE.fin B Xm).Ok:=Zg.withF_ok (Zg.withP_ok (ZhA B (by omega)) (Zfu B hB)) Zfv
@[irreducible] def Zs (bs:List Int):List Int:=(Xm.write bs).fin
@[irreducible] def Z40 (a b:List Int):List Int:=((Xm.write a).write b).fin
theorem Zfw (r:ZE):r.fin.length=32:=by unfold ZE.fin;rfl
theorem VD (bs:List Int):(Zs bs).length=32:=by unfold Zs;exact Zfw _
theorem VE:Xm.Ok:=⟨rfl,rfl,by decide⟩
attribute [irreducible] ZE.fin
end Go.Tk
end
section
namespace Go.Tk
open IntKind (i64 u8 u32 u64 wrap)
theorem ZcB (W:ZE->List Int->ZE) (F:ZE->List Int) (r0:ZE) (bs:List Int) (hh:List Int) (B:Int) (hB:B=900000000000) (hb:bs.length<100000000000) (hr0:r0=Xm) (hW:W=ZE.write) (hF:F=ZE.fin) (hh':hh=Zs bs):
  evF (G7 W F B r0) 20 127 [.vrows 1 1 (fun _=>[.vints .u8 bs bs.length]) 1] ⟨0,[]⟩ (XN 0 [] (.agg [.arr .u8 32 hh]) 0 []):=by
 refine @Eq.mpr _ (let q1:=List.length bs;let q2:=r0.came;let q3:=W (ZE.mk r0.st r0.part q2) bs;let q4:=q3.st;let q5:=q3.part;let q6:=q3.came;
 Z0 (decide (q1=q1)) (Z0 (decide (List.length r0.st=8/\List.length r0.part=64/\0<=q2/\q2+ ↑q1<=B)) (Z0 (decide (List.length q4=8/\List.length q5=64/\0<=q6/\q6<=B)) (F (ZE.mk q4 q5 q6)=hh/\True) False) False) False) (by kernel_rfl) ?_
 conv=>zeta
 subst hW hF hB hr0
 have i0:Xm.came=0:=rfl
 have hok:=VC Xm bs VE
 have hca:(Xm.write bs).came=0+bs.length:=VY _ _ VE
 refine nd rfl (nd ⟨rfl,rfl,by omega,by omega⟩ (nd ⟨hok.st,hok.part,hok.came, ?_⟩ ⟨by rw [hh'];first|(unfold Zs;rfl)|(unfold Z40;rfl),trivial⟩))
 refine Int.le_trans (Int.le_of_eq hca) ?_
 omega
theorem ZcC (W:ZE->List Int->ZE) (F:ZE->List Int) (r0:ZE) (a b:List Int) (hh:List Int) (B:Int) (hB:B=900000000000) (ha:a.length<100000000000) (hb:b.length<100000000000) (hr0:r0=Xm) (hW:W=ZE.write) (hF:F=ZE.fin) (hh':hh=Z40 a b):
  evF (G7 W F B r0) 20 127 [.vrows 1 2 (fun i=>match i with|0=>[.vints .u8 a a.length]|_=>[.vints .u8 b b.length]) 2] ⟨0,[]⟩ (XN 0 [] (.agg [.arr .u8 32 hh]) 0 []):=by
 refine @Eq.mpr _ (let q1:=List.length a;let q2:=r0.came;let q3:=List.length b;let q4:=W (ZE.mk r0.st r0.part q2) a;let q5:=q4.st;let q6:=q4.part;let q7:=q4.came;let q8:=W (ZE.mk q5 q6 q7) b;let q9:=q8.st;let q10:=q8.part;let q11:=q8.came;
 Z0 (decide (q1=q1)) (Z0 (decide (List.length r0.st=8/\List.length r0.part=64/\0<=q2/\q2+ ↑q1<=B)) (Z0 (decide (q3=q3)) (Z0 (decide (List.length q5=8/\List.length q6=64/\0<=q7/\q7+ ↑q3<=B)) (Z0 (decide (List.length q9=8/\List.length q10=64/\0<=q11/\q11<=B)) (F (ZE.mk q9 q10 q11)=hh/\True) False) False) False) False) False) (by kernel_rfl) ?_
 conv=>zeta
 subst hW hF hB hr0
 have i0:Xm.came=0:=rfl
 have hok:=VC Xm a VE
 have hca:(Xm.write a).came=0+a.length:=VY _ _ VE
 have hok2:=VC (Xm.write a) b hok
 have hca2:((Xm.write a).write b).came=(Xm.write a).came+b.length:=VY _ _ hok
 refine nd rfl (nd ⟨rfl,rfl,by omega,by omega⟩ (nd rfl (nd ⟨hok.st,hok.part,hok.came, ?_⟩ (nd ⟨hok2.st,hok2.part,hok2.came, ?_⟩ ⟨by rw [hh'];first|(unfold Zs;rfl)|(unfold Z40;rfl),trivial⟩))))
 ·refine Int.le_trans (Int.le_of_eq (congrArg (· +(b.length:Int)) hca)) ?_
  show (0:Int)+a.length+b.length<=_
  omega
 ·refine Int.le_trans (Int.le_of_eq hca2) ?_
  rw [hca]
  omega
theorem Zk.rows {E:Env} {esz n len:Nat} {f g:Nat->List AV} {r:Value} (h:Zk E (.vrows esz n f len) r) (hfg:∀i,i<n->f i=g i):Zk E (.vrows esz n g len) r:=by
 cases h with
 | vrowsNil esz n f len h1 h2=>exact .vrowsNil _ _ _ _ h1 h2
 | vrows esz n f len a cap q h1 h2 hc hl hi=>exact .vrows _ _ _ _ a cap q h1 h2 (fun i hi'=>hfg i hi'▸hc i hi') hl hi
def QS (v:List AV) (K:List Int->Prop):Prop:=match v with
 | [.vints .u8 xs len]=>Zx (len=xs.length) (K xs)
 | _=>False
theorem VF {v:List AV} {K:List Int->Prop} (h:QS v K):∃xs:List Int,v=[.vints .u8 xs xs.length]/\K xs:=by
 unfold QS at h
 split at h
 ·replace h:=Ze h
  obtain ⟨rfl,h⟩:=h
  exact ⟨_,rfl,h⟩
 ·exact h.elim
def ZjS (H1:List Int->List Int) (H2:List Int->List Int->List Int) (B:Nat):ZR:=fun args h K=>ZU none h true 20 args fun a=>match a with
 | [.vrows 1 n f len]=>match Nat.beq n 1&&Nat.beq len 1 with
  | true=>QS (f 0) fun xs=>Zx (xs.length<=B) (K (.agg [.arr .u8 32 (H1 xs)]))
  | false=>match Nat.beq n 2&&Nat.beq len 2 with
   | true=>QS (f 0) fun xs=>QS (f 1) fun ys=>Zx (xs.length<=B/\ys.length<=B) (K (.agg [.arr .u8 32 (H2 xs ys)]))
   | false=>False
 | _=>False
theorem Zfx (B:Nat) (hB:B<100000000000) (args:List AV) (h:Za) (K:AV->Prop) (hl:ZjS Zs Z40 B args h K):Zp PP 127 args h fun o h'=>∃v,o=.ret v/\h'=h/\K v:=by
 obtain ⟨a₀,ha,hr⟩:=Wh (fun x hx=>by cases hx) _ _ _ _ hl
 split at ha
 ·rename_i n f len
  split at ha
  ·rename_i hb
   rw [Bool.and_eq_true] at hb
   have e1:=Nat.eq_of_beq_eq_true hb.1
   have e2:=Nat.eq_of_beq_eq_true hb.2
   subst e1 e2
   obtain ⟨xs,hf,hK⟩:=VF ha
   obtain ⟨hx,hK⟩:=Ze hK
   have hp:=ZC.ev (ZhB 900000000000 (by decide)) (ZcB _ _ _ xs _ _ rfl (by omega) rfl rfl rfl rfl)
   refine hp.calls (v':=.agg [.arr .u8 32 (Zs xs)]) (fun E w rs he hrr=> ?_) rfl trivial ⟨_,rfl,rfl,hK⟩
   have:=hr E w rs he hrr
   cases this with
   | cons v c vs cs h1 h2=>
    cases h2
    refine .cons _ _ _ _ (h1.rows (fun i hi=> ?_)) .nil
    match i,hi with
    | 0,_=>exact hf
  ·split at ha
   ·rename_i hb
    rw [Bool.and_eq_true] at hb
    have e1:=Nat.eq_of_beq_eq_true hb.1
    have e2:=Nat.eq_of_beq_eq_true hb.2
    subst e1 e2
    obtain ⟨xs,hf,hK⟩:=VF ha
    obtain ⟨ys,hg,hK⟩:=VF hK
    obtain ⟨⟨hx,hy⟩,hK⟩:=Ze hK
    have hp:=ZC.ev (ZhB 900000000000 (by decide)) (ZcC _ _ _ xs ys _ _ rfl (by omega) (by omega) rfl rfl rfl rfl)
    refine hp.calls (v':=.agg [.arr .u8 32 (Z40 xs ys)]) (fun E w rs he hrr=> ?_) rfl trivial ⟨_,rfl,rfl,hK⟩
    have:=hr E w rs he hrr
    cases this with
    | cons v c vs cs h1 h2=>
     cases h2
     refine .cons _ _ _ _ (h1.rows (fun i hi=> ?_)) .nil
     match i,hi with
     | 0,_=>exact hf
     | 1,_=>exact hg
   ·exact ha.elim
 ·exact ha.elim
noncomputable def G8 (H1:List Int->List Int) (H2:List Int->List Int->List Int) (B:Nat):Zg:=(G0.withP 127 (ZjS H1 H2 B))
theorem ZhC (B:Nat) (hB:B<100000000000):(G8 Zs Z40 B).Ok:=Zg.withP_ok Zv (Zfx B hB)
end Go.Tk
end
section
namespace Go.Tk
open IntKind (i64 u8 u32 u64 wrap)
end Go.Tk
end
section
namespace Go.Tk
open IntKind (i64 u8 u32 u64 wrap)
end Go.Tk
end
section
namespace Go.Tk
open IntKind (i64 u8 u32 u64 wrap)
structure InS where
 name:List Int
 index:Int
 way:Int
 tag:List Int
 also:List Int
 secret:List Int
structure Z0l where
 kind:Int
 amount:Int
 owner:List Int
 other:List Int
 point:List Int
 hash:List Int
 delay:Int
 expiry:Int
def InS.c (x:InS):List AV:=[.arr .u8 32 x.name,.int .i64 x.index,.int .i64 x.way,.arr .u8 32 x.tag,.arr .u8 32 x.also,.arr .u8 32 x.secret]
def Z0l.c (o:Z0l):List AV:=[.int .i64 o.kind,.int .i64 o.amount,.arr .u8 32 o.owner,.arr .u8 32 o.other,.arr .u8 32 o.point,.arr .u8 32 o.hash,.int .i64 o.delay,.int .i64 o.expiry]
structure InS.Ok (x:InS):Prop where
 name:x.name.length=32
 tag:x.tag.length=32
 also:x.also.length=32
 secret:x.secret.length=32
structure Z0l.Ok (o:Z0l):Prop where
 owner:o.owner.length=32
 other:o.other.length=32
 point:o.point.length=32
 hash:o.hash.length=32
def Zf:List Int:=List.replicate 32 0
end Go.Tk
end
section
namespace Go.Tk
open IntKind (i64 u8 u32 u64 wrap)
def XD:List Nat->Nat->Option Nat
 | [],_=>none
 | x::_,0=>some x
 | _::r,n+1=>XD r n
def XZ:List Nat->Nat->Option Nat
 | [],_=>none
 | y::r,x=>match Nat.beq y x with
  | true=>some 0
  | false=>match XZ r x with|some i=>some (i+1)|none=>none
theorem VG:∀{σ:List Nat} {x i:Nat},XZ σ x=some i->XD σ i=some x
 | [],_,_,h=>by simp [XZ] at h
 | y::r,x,i,h=>by
  unfold XZ at h
  split at h
  ·rename_i hb
   have:=Nat.eq_of_beq_eq_true hb
   cases h
   simp [XD,this]
  ·split at h
   ·rename_i j hj
    cases h
    exact (VG (σ:=r) hj:XD r _=some x)
   ·cases h
theorem Z0Z:∀{σ:List Nat} {x:Nat},XZ σ x=none->x∉σ
 | [],_,_=>by simp
 | y::r,x,h=>by
  unfold XZ at h
  split at h
  ·cases h
  ·rename_i hb
   split at h
   ·cases h
   ·rename_i hj
    intro hm
    rcases List.mem_cons.1 hm with rfl|hm
    ·simp [Nat.beq_refl] at hb
    ·exact Z0Z hj hm
theorem W0:∀{σ:List Nat} {i x:Nat},XD σ i=some x->x∈σ
 | [],_,_,h=>by simp [XD] at h
 | y::r,0,x,h=>by simp [XD] at h;simp [h]
 | y::r,i+1,x,h=>List.mem_cons_of_mem _ (W0 (σ:=r) h)
theorem Z9q:∀{σ:List Nat} {i x:Nat},XD σ i=some x->i<σ.length
 | [],_,_,h=>by simp [XD] at h
 | y::r,0,x,h=>by simp
 | y::r,i+1,x,h=>by have:=Z9q (σ:=r) h;simp;omega
theorem Z9r:∀{σ:List Nat} {i:Nat},σ.length<=i->XD σ i=none
 | [],_,_=>by simp [XD]
 | y::r,0,h=>by simp at h
 | y::r,i+1,h=>by simp at h;exact Z9r (σ:=r) h
def Env.borL (E:Env) (σ:List Nat) (w:World) (t:Bool):Env:=
 ⟨fun y=>match t with|true=>(match XD σ y with|some x=>E.blk x|none=>none)|false=>none,fun a c=>w.cell? a=some c/\∀x,x∈σ->∀N,E.blk x=some (a.block,N)->False⟩
mutual
def vwV (σ:List Nat) (h:Za) (t:Bool):Nat->AV->(AV->Prop)->Prop
 | 0,_,_=>False
 | d+1,v,K=>match v with
  | .top=>K .top
  | .bool b=>K (.bool b)
  | .int k n=>K (.int k n)
  | .str s=>K (.str s)
  | .ptr none=>K (.ptr none)
  | .eslice=>K .eslice
  | .fslice=>K .fslice
  | .nilslice=>K .nilslice
  | .map none=>K (.map none)
  | .nilFunc=>K .nilFunc
  | .nilIface=>K .nilIface
  | .pview cs inn=>K (.pview cs inn)
  | .vints k xs len=>K (.vints k xs len)
  | .vrows esz n f len=>K (.vrows esz n f len)
  | .ptr (some p)=>match XZ σ p.blk with
   | some i=>match t with|false=>False|true=>K (.ptr (some ⟨i,p.row,p.sz,p.off,p.inn⟩))
   | none=>match h.get p.blk with
    | some (.flat cs)=>match p.row,YO p.off cs with
     | 0,some rest=>vwC σ h false d rest fun rest'=>K (.pview rest' p.inn)
     | _,_=>False
    | some (.rows sz n f)=>match Nat.beq sz p.sz with
     | true=>Zx (p.row<n) (match YO p.off (f p.row) with
      | some rest=>vwC σ h false d rest fun rest'=>K (.pview rest' p.inn)
      | none=>False)
     | false=>False
    | _=>False
  | .nslice p esz len lo=>match XZ σ p.blk with
   | some i=>match t with|false=>False|true=>K (.nslice ⟨i,p.row,p.sz,p.off,p.inn⟩ esz len lo)
   | none=>match h.get p.blk with
    | some (.ints k xs)=>match Nat.beq esz 1 with
     | true=>Zx (p.tot+len<=xs.length) (K (.vints k ((YH p.tot xs).take len) len))
     | false=>False
    | some (.rows sz n f)=>match Nat.beq sz esz&&Nat.beq p.off 0&&Nat.beq p.inn 0&&(Nat.beq p.sz esz||Nat.beq p.row 0) with
     | true=>Zx (p.row+len<=n) ((∀i,i<len->Yy (ZT p.row f i)=true)/\K (.vrows esz len (ZT p.row f) len))
     | false=>False
    | some (.flat cs)=>match p.row,YO p.off cs with
     | 0,some rest=>match Z9n rest&&Nat.beq esz 1 with
      | true=>match rest with
       | .arr k n xs::_=>match Nat.beq esz 1,Nat.beq p.inn 0&&Nat.beq len n with
        | true,true=>Zx (xs.length=n) (K (.vints k xs len))
        | true,false=>Zx (xs.length=n/\p.inn+len<=n) (K (.vints k ((YH p.inn xs).take len) len))
        | false,_=>False
       | _=>False
      | false=>match Nat.beq p.inn 0,takeC (len*esz) rest with
       | true,some part=>vwC σ h false d part fun part'=>match Qy part' 0 esz len with
        | true=>K (.vrows esz len (YQ part' 0 esz) len)
        | false=>False
       | _,_=>False
     | _,_=>False
    | _=>False
  | .func (.func g) fs cs=>vwL σ h t d fs fun fs'=>vwL σ h t d cs fun cs'=>K (.func (.func g) fs' cs')
  | .iface T u=>vwV σ h t d u fun u'=>K (.iface T u')
  | .agg cs=>vwC σ h t d cs fun cs'=>K (.agg cs')
  | .tuple vs=>vwL σ h t d vs fun vs'=>K (.tuple vs')
  | _=>False
def vwC (σ:List Nat) (h:Za) (t:Bool):Nat->List AV->(List AV->Prop)->Prop
 | 0,_,_=>False
 | d+1,l,K=>match l with
  | []=>K []
  | .arr k n xs::r=>vwC σ h t d r fun r'=>K (.arr k n xs::r')
  | v::r=>vwV σ h t d v fun v'=>match v'.isCell with
   | true=>vwC σ h t d r fun r'=>K (v'::r')
   | false=>False
def vwL (σ:List Nat) (h:Za) (t:Bool):Nat->List AV->(List AV->Prop)->Prop
 | 0,_,_=>False
 | d+1,l,K=>match l with
  | []=>K []
  | v::r=>vwV σ h t d v fun v'=>vwL σ h t d r fun r'=>K (v'::r')
end
theorem Z36 {E:Env} {σ:List Nat} {w:World} {t:Bool} {h:Za} (he:Emb E h w) (hm:∀x,x∈σ->∃B,h.get x=some B):E.views.le (E.borL σ w t).views:=
 ⟨fun _ _ hq=>by simp [Env.views] at hq,fun a c hi=>⟨he.imm a c hi,fun x hx N hb=>let ⟨B,hB⟩:=hm x hx;he.sep a c x B N hi hB hb⟩⟩
theorem Z37 {E:Env} {σ:List Nat} {w:World} {t:Bool} {h:Za} (he:Emb E h w) (hm:∀x,x∈σ->∃B,h.get x=some B) {a:Addr} {c:Value} (hi:E.imm a c):(E.borL σ w t).imm a c:=
 ⟨he.imm a c hi,fun x hx N hb=>let ⟨B,hB⟩:=hm x hx;he.sep a c x B N hi hB hb⟩
theorem Wc {E:Env} {σ:List Nat} {w:World} {t:Bool} {h:Za} (he:Emb E h w) (hm:∀x,x∈σ->∃B,h.get x=some B) {y b N o:Nat} {B:Blk} (hy:h.get y=some B) (hb:E.blk y=some (b,N)) (hn:XZ σ y=none) {c:Value}
  (hc:w.cell? ⟨b,o,none⟩=some c):(E.borL σ w t).imm ⟨b,o,none⟩ c:=
 ⟨hc,fun x hx N' hbx=>by
  obtain ⟨C,hC⟩:=hm x hx
  have:=he.disj x y C B b N' N hC hy hbx hb
  subst this
  exact Z0Z hn hx⟩
theorem WU {E:Env} {σ:List Nat} {w:World} {x i:Nat} (h:XZ σ x=some i):(E.borL σ w true).blk i=E.blk x:=by
 show (match XD σ i with|some x=>E.blk x|none=>none)=_
 rw [VG h]
set_option maxHeartbeats 2000000 in
mutual
theorem Z8k {σ:List Nat} {h:Za} (hm:∀x,x∈σ->∃B,h.get x=some B):∀(d:Nat) (t:Bool) (v:AV) (K:AV->Prop),vwV σ h t d v K->∃v₀,K v₀/\∀(E:Env) (w:World) (r:Value),Emb E h w->Zk E v r->Zk (E.borL σ w t) v₀ r
 | 0,t,v,K,hl=>by unfold vwV at hl;exact hl.elim
 | d+1,t,v,K,hl=>by
  unfold vwV at hl
  split at hl
  ·exact ⟨_,hl,fun E w r he hv=>.top r⟩
  ·exact ⟨_,hl,fun E w r he hv=>hv.plain rfl⟩
  ·exact ⟨_,hl,fun E w r he hv=>hv.plain rfl⟩
  ·exact ⟨_,hl,fun E w r he hv=>hv.plain rfl⟩
  ·exact ⟨_,hl,fun E w r he hv=>hv.plain rfl⟩
  ·exact ⟨_,hl,fun E w r he hv=>hv.plain rfl⟩
  ·exact ⟨_,hl,fun E w r he hv=>hv.plain rfl⟩
  ·exact ⟨_,hl,fun E w r he hv=>hv.plain rfl⟩
  ·exact ⟨_,hl,fun E w r he hv=>hv.plain rfl⟩
  ·exact ⟨_,hl,fun E w r he hv=>hv.plain rfl⟩
  ·exact ⟨_,hl,fun E w r he hv=>hv.plain rfl⟩
  ·refine ⟨_,hl,fun E w r he hv=> ?_⟩
   cases hv with
   | pview cs inn a vs hc hi=>exact .pview _ _ a vs (hc.mono (Z36 he hm)) (fun j c hj=>Z37 he hm (hi j c hj))
  ·refine ⟨_,hl,fun E w r he hv=> ?_⟩
   cases hv with
   | vintsNil k xs len h1 h2=>exact .vintsNil _ _ _ h1 h2
   | vints k xs len a cap h1 h2 hi=>exact .vints _ _ _ a cap h1 h2 (fun i hi'=>Z37 he hm (hi i hi'))
  ·refine ⟨_,hl,fun E w r he hv=> ?_⟩
   cases hv with
   | vrowsNil esz n f len h1 h2=>exact .vrowsNil _ _ _ _ h1 h2
   | vrows esz n f len a cap g h1 h2 hc hl' hi=>exact .vrows _ _ _ _ a cap g h1 h2 (fun i hi'=>(hc i hi').mono (Z36 he hm)) hl' (fun i j c hi' hj=>Z37 he hm (hi i j c hi' hj))
  ·rename_i p
   split at hl
   ·rename_i ix hmv
    split at hl
    ·exact hl.elim
    ·refine ⟨_,hl,fun E w r he hv=> ?_⟩
     cases hv with
     | ptr p b N hb=>exact .ptr ⟨ix,p.row,p.sz,p.off,p.inn⟩ b N (by rw [WU hmv];exact hb)
   ·rename_i hmv
    split at hl
    ·rename_i cs hg
     split at hl
     ·rename_i rest hrow hrest
      obtain ⟨rest',hK,hr⟩:=QT hm d false rest _ hl
      refine ⟨_,hK,fun E w r he hv=> ?_⟩
      cases hv with
      | ptr p b N hb=>
       cases he.own _ _ hg with
       | flat0 cs h0 hn=>rw [hn] at hb;cases hb
       | flat cs b' cells elem fr vs hb' hw hf hc hvs=>
        rw [hb] at hb'
        cases hb'
        have hd:=(Y3 _ _ _ _ hrest hc).1
        have e:(⟨b,p.tot,none⟩:Addr)=(⟨b,p.off,none⟩:Addr).add p.inn:=by rw [addr_add];simp [ZF.tot,hrow]
        rw [e]
        refine .pview _ _ ⟨b,p.off,none⟩ _ (hr E w _ he hd) (fun j c hj=> ?_)
        rw [addr_add]
        refine Wc he hm hg hb hmv (Z1W hvs hw ?_)
        rw [List.getElem?_drop] at hj
        exact hj
     ·exact hl.elim
    ·rename_i sz n f hg
     split at hl
     ·rename_i hsz
      have hsz:=Nat.eq_of_beq_eq_true hsz
      obtain ⟨hrow,hl⟩:=Ze hl
      split at hl
      ·rename_i rest hrest
       obtain ⟨rest',hK,hr⟩:=QT hm d false rest _ hl
       refine ⟨_,hK,fun E w r he hv=> ?_⟩
       cases hv with
       | ptr p b N hb=>
        cases he.own _ _ hg with
        | rows0 sz n f h0 hn=>omega
        | rows sz n f b' cells elem fr g hb' hw hf hc hlg hvs=>
         rw [hb] at hb'
         cases hb'
         have hd:=(Y3 _ _ _ _ hrest (hc _ hrow)).1
         have e:(⟨b,p.tot,none⟩:Addr)=(⟨b,p.row*sz+p.off,none⟩:Addr).add p.inn:=by rw [addr_add];simp [ZF.tot,hsz]
         rw [e]
         refine .pview _ _ ⟨b,p.row*sz+p.off,none⟩ _ (hr E w _ he hd) (fun j c hj=> ?_)
         rw [addr_add]
         refine Wc he hm hg hb hmv ?_
         rw [List.getElem?_drop] at hj
         rw [cell_of_heap hw,Nat.add_assoc]
         exact hvs _ _ _ hrow hj
      ·exact hl.elim
     ·exact hl.elim
    ·exact hl.elim
  ·rename_i p esz len lo
   split at hl
   ·rename_i ix hmv
    split at hl
    ·exact hl.elim
    ·refine ⟨_,hl,fun E w r he hv=> ?_⟩
     cases hv with
     | nslice0 p esz len lo a h1 h2=>exact .nslice0 _ _ _ _ a h1 h2
     | nslice p esz len lo b N cap hb h1 h2 h3=>exact .nslice ⟨ix,p.row,p.sz,p.off,p.inn⟩ _ _ _ b N cap (by rw [WU hmv];exact hb) h1 h2 h3
   ·rename_i hmv
    split at hl
    ·rename_i k xs hg
     split at hl
     ·rename_i hes
      have hes:=Nat.eq_of_beq_eq_true hes
      subst hes
      obtain ⟨hle,hK⟩:=Ze hl
      have hlen:((YH p.tot xs).take len).length=len:=by rw [Yw,List.length_take,List.length_drop];omega
      refine ⟨_,hK,fun E w r he hv=> ?_⟩
      cases hv with
      | nslice0 p esz len lo a h1 h2=>
       subst h1
       cases a with
       | none=>exact .vintsNil _ _ _ (by simp) rfl
       | some a=>exact .vints _ _ _ a 0 (by simp) (by simp) (fun i hi=>by simp at hi)
      | nslice p esz len lo b N cap hb h1 h2 h3=>
       refine .vints _ _ _ _ cap (by omega) (by omega) (fun i hi=> ?_)
       rw [hlen] at hi
       rw [addr_add]
       refine Wc he hm hg hb hmv ?_
       cases he.own _ _ hg with
       | ints0 k xs h0 hn=>rw [hn] at hb;cases hb
       | ints k xs b' cells elem fr hb' hw hf hvs=>
        rw [hb] at hb'
        cases hb'
        rw [cell_of_heap hw,hvs _ (by omega)]
        congr 2
        rw [Yw]
        simp [List.getD_eq_getElem?_getD,hi,List.getElem?_drop]
     ·exact hl.elim
    ·rename_i sz n f hg
     split at hl
     ·rename_i hb
      simp only [Bool.and_eq_true,Bool.or_eq_true] at hb
      obtain ⟨⟨⟨q1,q2⟩,q3⟩,q4⟩:=hb
      have q1:=Nat.eq_of_beq_eq_true q1
      have q2:=Nat.eq_of_beq_eq_true q2
      have q3:=Nat.eq_of_beq_eq_true q3
      obtain ⟨hle,hpl,hK⟩:=Ze hl
      refine ⟨_,hK,fun E w r he hv=> ?_⟩
      have htot:p.tot=p.row*sz:=by
       rcases q4 with q4|q4
       ·have:=Nat.eq_of_beq_eq_true q4;simp [ZF.tot,q2,q3,this,q1]
       ·have:=Nat.eq_of_beq_eq_true q4;simp [ZF.tot,q2,q3,this]
      cases hv with
      | nslice0 p esz len lo a h1 h2=>
       subst h1
       cases a with
       | none=>exact .vrowsNil _ _ _ _ rfl rfl
       | some a=>exact .vrows _ _ _ _ a 0 (fun _=>[]) (by omega) (by omega) (fun i hi=>by omega) (fun i hi=>by omega) (fun i j c hi=>by omega)
      | nslice p esz len lo b N cap hb h1 h2 h3=>
       cases he.own _ _ hg with
       | rows0 sz n f h0 hn=>rw [hn] at hb;cases hb
       | rows sz n f b' cells elem fr g hb' hw hf hc hlg hvs=>
        rw [hb] at hb'
        cases hb'
        refine .vrows _ _ _ _ _ cap (fun i=>g (p.row+i)) (by omega) h1 (fun i hi=> ?_) (fun i hi=>by rw [<-q1];exact hlg _ (by omega)) (fun i j c hi hj=> ?_)
        ·have:=hc (p.row+i) (by omega)
         have hp:=hpl i hi
         rw [Z0I] at hp⊢
         exact this.plain hp
        ·rw [addr_add]
         refine Wc he hm hg hb hmv ?_
         rw [cell_of_heap hw,htot,<-q1]
         have:=hvs (p.row+i) j c (by omega) hj
         rw [Nat.add_mul] at this
         rw [show p.row*sz+(i*sz+j)=p.row*sz+i*sz+j by omega]
         exact this
     ·exact hl.elim
    ·rename_i cs hg
     split at hl
     ·rename_i rest hrow hrest
      have hbase:∀(E:Env) (w:World) (b N:Nat),Emb E h w->E.blk p.blk=some (b,N)->∃vs,Zw E rest vs/\∀j c,vs[j]? =some c->w.cell? ⟨b,p.off+j,none⟩=some c:=by
       intro E w b N he hb
       cases he.own _ _ hg with
       | flat0 cs h0 hn=>rw [hn] at hb;cases hb
       | flat cs b' cells elem fr vs hb' hw hf hc hvs=>
        rw [hb] at hb'
        cases hb'
        refine ⟨_,(Y3 _ _ _ _ hrest hc).1,fun j c hj=> ?_⟩
        rw [List.getElem?_drop] at hj
        exact Z1W hvs hw hj
      split at hl
      ·split at hl
       ·rename_i k n xs rest2 harr
        split at hl
        ·rename_i hes hbb
         have hes:=Nat.eq_of_beq_eq_true hes
         subst hes
         rw [Bool.and_eq_true] at hbb
         have e1:=Nat.eq_of_beq_eq_true hbb.1
         have e2:=Nat.eq_of_beq_eq_true hbb.2
         obtain ⟨hxl,hK⟩:=Ze hl
         refine ⟨_,hK,fun E w r he hv=> ?_⟩
         cases hv with
         | nslice0 p esz len lo a h1 h2=>
          have hx0:xs=[]:=by
           have:xs.length=0:=by omega
           exact List.length_eq_zero_iff.1 this
          subst hx0
          subst h1
          cases a with
          | none=>exact .vintsNil _ _ _ rfl rfl
          | some a=>exact .vints _ _ _ a 0 (by simp) (by simp) (fun i hi=>by simp at hi)
         | nslice p esz len lo b N cap hb h1 h2 h3=>
          obtain ⟨vs,hcr,hcell⟩:=hbase E w b N he hb
          obtain ⟨ws,rfl,_⟩:=Zw.cons_arr hcr
          refine .vints _ _ _ _ cap (by omega) (by omega) (fun i hi=> ?_)
          rw [addr_add]
          refine Wc he hm hg hb hmv ?_
          have:=hcell i (.int k (xs.getD i 0)) (by
           rw [List.getElem?_append_left (by rw [Z9];omega),Zt (by omega)])
          rw [show p.tot+i=p.off+i by simp [ZF.tot,hrow,e1]]
          exact this
        ·rename_i hes hbb
         have hes:=Nat.eq_of_beq_eq_true hes
         subst hes
         obtain ⟨⟨hxl,hle⟩,hK⟩:=Ze hl
         have hlen:((YH p.inn xs).take len).length=len:=by rw [Yw,List.length_take,List.length_drop];omega
         refine ⟨_,hK,fun E w r he hv=> ?_⟩
         cases hv with
         | nslice0 p esz len lo a h1 h2=>
          subst h1
          cases a with
          | none=>exact .vintsNil _ _ _ (by simp) rfl
          | some a=>exact .vints _ _ _ a 0 (by simp) (by simp) (fun i hi=>by simp at hi)
         | nslice p esz len lo b N cap hb h1 h2 h3=>
          obtain ⟨vs,hcr,hcell⟩:=hbase E w b N he hb
          obtain ⟨ws,rfl,_⟩:=Zw.cons_arr hcr
          refine .vints _ _ _ _ cap (by omega) (by omega) (fun i hi=> ?_)
          rw [hlen] at hi
          rw [addr_add]
          refine Wc he hm hg hb hmv ?_
          have:=hcell (p.inn+i) (.int k (xs.getD (p.inn+i) 0)) (by
           rw [List.getElem?_append_left (by rw [Z9];omega),Zt (by omega)])
          rw [show p.tot+i=p.off+(p.inn+i) by simp [ZF.tot,hrow];omega]
          rw [this]
          congr 2
          rw [Yw]
          simp [List.getD_eq_getElem?_getD,hi,List.getElem?_drop]
        ·exact hl.elim
       ·exact hl.elim
      ·split at hl
       ·rename_i part hinn hpart
        have hinn:=Nat.eq_of_beq_eq_true hinn
        obtain ⟨part',hK,hr⟩:=QT hm d false part _ hl
        split at hK
        ·rename_i hrows
         refine ⟨_,hK,fun E w r he hv=> ?_⟩
         cases hv with
         | nslice0 p esz len lo a h1 h2=>
          subst h1
          cases a with
          | none=>exact .vrowsNil _ _ _ _ rfl rfl
          | some a=>exact .vrows _ _ _ _ a 0 (fun _=>[]) (by omega) (by omega) (fun i hi=>by omega) (fun i hi=>by omega) (fun i j c hi=>by omega)
         | nslice p esz len lo b N cap hb h1 h2 h3=>
          obtain ⟨vs,hcr,hcell⟩:=hbase E w b N he hb
          have hpr:=(Vn _ _ _ _ hpart hcr).1
          have hpr':=hr E w _ he hpr
          refine .vrows _ _ _ _ _ cap (fun i=>((vs.take (len*esz)).drop (0+i*esz)).take esz) (by omega) h1 (fun i hi=>(XP (Xb hrows i hi) hpr').1) (fun i hi=>(XP (Xb hrows i hi) hpr').2) (fun i j c hi hj=> ?_)
          rw [addr_add]
          refine Wc he hm hg hb hmv ?_
          rw [List.getElem?_take] at hj
          split at hj
          ·rw [List.getElem?_drop,List.getElem?_take] at hj
           split at hj
           ·have:=hcell _ _ hj
            rw [show p.tot+(i*esz+j)=p.off+(0+i*esz+j) by simp [ZF.tot,hrow,hinn]]
            exact this
           ·cases hj
          ·cases hj
        ·exact hK.elim
       ·exact hl.elim
     ·exact hl.elim
    ·exact hl.elim
  ·obtain ⟨fs',hl,h1⟩:=Z38 hm d t _ _ hl
   obtain ⟨cs',hl,h2⟩:=Z38 hm d t _ _ hl
   refine ⟨_,hl,fun E w r he hv=> ?_⟩
   cases hv with
   | func fn first captured fs cs ha hb=>exact .func _ _ _ _ _ (h1 E w _ he ha) (h2 E w _ he hb)
  ·obtain ⟨u',hl,h1⟩:=Z8k hm d t _ _ hl
   refine ⟨_,hl,fun E w r he hv=> ?_⟩
   cases hv with
   | iface T v x hx=>exact .iface _ _ _ (h1 E w _ he hx)
  ·obtain ⟨cs',hl,h1⟩:=QT hm d t _ _ hl
   refine ⟨_,hl,fun E w r he hv=> ?_⟩
   cases hv with
   | agg cs vs hc=>exact .agg _ _ (h1 E w _ he hc)
  ·obtain ⟨vs',hl,h1⟩:=Z38 hm d t _ _ hl
   refine ⟨_,hl,fun E w r he hv=> ?_⟩
   cases hv with
   | tuple vs rs hc=>exact .tuple _ _ (h1 E w _ he hc)
  ·exact hl.elim
theorem QT {σ:List Nat} {h:Za} (hm:∀x,x∈σ->∃B,h.get x=some B):∀(d:Nat) (t:Bool) (l:List AV) (K:List AV->Prop),vwC σ h t d l K->∃l₀,K l₀/\∀(E:Env) (w:World) (r:List Value),Emb E h w->Zw E l r->Zw (E.borL σ w t) l₀ r
 | 0,t,l,K,hl=>by unfold vwC at hl;exact hl.elim
 | d+1,t,l,K,hl=>by
  unfold vwC at hl
  split at hl
  ·exact ⟨_,hl,fun E w r he hv=>by cases hv;exact .nil⟩
  ·obtain ⟨r',hl,h1⟩:=QT hm d t _ _ hl
   refine ⟨_,hl,fun E w r he hv=> ?_⟩
   obtain ⟨ws,rfl,ht⟩:=Zw.cons_arr hv
   exact .arr _ _ _ _ _ (h1 E w _ he ht)
  ·rename_i v r hna
   obtain ⟨v',hl,h1⟩:=Z8k hm d t _ _ hl
   split at hl
   ·rename_i hcell
    obtain ⟨r',hl,h2⟩:=QT hm d t _ _ hl
    refine ⟨_,hl,fun E w q he hv=> ?_⟩
    obtain ⟨c,ws,rfl,q1,q2,q3,q4⟩:=Zw.cons_cell hv (fun k m xs e=>hna k m xs e)
    exact .one _ _ _ _ hcell q2 (h1 E w _ he q3) (h2 E w _ he q4)
   ·exact hl.elim
theorem Z38 {σ:List Nat} {h:Za} (hm:∀x,x∈σ->∃B,h.get x=some B):∀(d:Nat) (t:Bool) (l:List AV) (K:List AV->Prop),vwL σ h t d l K->∃l₀,K l₀/\∀(E:Env) (w:World) (r:List Value),Emb E h w->ZK E l r->ZK (E.borL σ w t) l₀ r
 | 0,t,l,K,hl=>by unfold vwL at hl;exact hl.elim
 | d+1,t,l,K,hl=>by
  unfold vwL at hl
  split at hl
  ·exact ⟨_,hl,fun E w r he hv=>by cases hv;exact .nil⟩
  ·obtain ⟨v',hl,h1⟩:=Z8k hm d t _ _ hl
   obtain ⟨r',hl,h2⟩:=Z38 hm d t _ _ hl
   refine ⟨_,hl,fun E w q he hv=> ?_⟩
   cases hv with
   | cons v c vs cs ha hb=>exact .cons _ _ _ _ (h1 E w _ he ha) (h2 E w _ he hb)
end
def vwB (σ:List Nat) (h:Za) (d:Nat) (B:Blk) (K:Blk->Prop):Prop:=
 match B with
 | .ints k xs=>K (.ints k xs)
 | .flat cs=>vwC σ h true d cs fun cs'=>match Nat.beq (csz cs') (csz cs) with|true=>K (.flat cs')|false=>False
 | .rows sz n f=>(∀i,i<n->Yy (f i)=true)/\K (.rows sz n f)
 | _=>False
theorem Zix {σ:List Nat} {h:Za} (hm:∀x,x∈σ->∃B,h.get x=some B) {d:Nat} {B:Blk} {K:Blk->Prop} (hl:vwB σ h d B K):
  ∃B₀,K B₀/\∀(E:Env) (w:World) (x i:Nat),Emb E h w->XZ σ x=some i->YN E w x B->YN (E.borL σ w true) w i B₀:=by
 unfold vwB at hl
 split at hl
 ·refine ⟨_,hl,fun E w x i he hi hb=> ?_⟩
  have hq:=WU (E:=E) (w:=w) hi
  cases hb with
  | ints0 k xs h0 hn=>exact .ints0 _ _ h0 (hq.trans hn)
  | ints k xs b cells elem fr hb hw hf hv=>exact .ints _ _ b cells elem fr (hq.trans hb) hw hf hv
 ·obtain ⟨cs',hl,hr⟩:=QT hm _ _ _ _ hl
  split at hl
  ·rename_i hz
   have hz:=Nat.eq_of_beq_eq_true hz
   refine ⟨_,hl,fun E w x i he hi hb=> ?_⟩
   have hq:=WU (E:=E) (w:=w) hi
   cases hb with
   | flat0 cs h0 hn=>exact .flat0 _ (hz.trans h0) (hq.trans hn)
   | flat cs b cells elem fr vs hb hw hf hc hv=>exact .flat _ b cells elem fr vs (hq.trans hb) hw hf (hr E w vs he hc) hv
  ·exact hl.elim
 ·obtain ⟨hp,hl⟩:=hl
  refine ⟨_,hl,fun E w x i he hi hb=> ?_⟩
  have hq:=WU (E:=E) (w:=w) hi
  cases hb with
  | rows0 sz n f h0 hn=>exact .rows0 _ _ _ h0 (hq.trans hn)
  | rows sz n f b cells elem fr g hb hw hf hc hl hv=>exact .rows _ _ _ b cells elem fr g (hq.trans hb) hw hf (fun i hi=>(hc i hi).plain (hp i hi)) hl hv
 ·exact hl.elim
def Zfy (σ:List Nat) (h:Za) (d:Nat):List Nat->(List Blk->Prop)->Prop
 | [],K=>K []
 | x::r,K=>match h.get x with
  | some B=>vwB σ h d B fun B'=>Zfy σ h d r fun Bs=>K (B'::Bs)
  | none=>False
theorem Z9s {σ:List Nat} {h:Za} (hm:∀x,x∈σ->∃B,h.get x=some B) {d:Nat}:∀(r:List Nat) (K:List Blk->Prop),Zfy σ h d r K->
  ∃Bs,K Bs/\Bs.length=r.length/\∀(i x:Nat) (B:Blk),r[i]? =some x->Bs[i]? =some B->∃B',h.get x=some B'/\∀(E:Env) (w:World) (j:Nat),Emb E h w->XZ σ x=some j->YN E w x B'->YN (E.borL σ w true) w j B
 | [],K,hl=>⟨[],hl,rfl,fun i x B h=>by simp at h⟩
 | y::r,K,hl=>by
  unfold Zfy at hl
  split at hl
  ·rename_i B' hB'
   obtain ⟨B₀,hl,hr⟩:=Zix hm hl
   obtain ⟨Bs,hK,hlen,hall⟩:=Z9s hm r _ hl
   refine ⟨B₀::Bs,hK,by simp [hlen],fun i x B h1 h2=> ?_⟩
   match i with
   | 0=>simp at h1 h2;subst h1;subst h2;exact ⟨B',hB',fun E w j he hj hb=>hr E w _ j he hj hb⟩
   | i+1=>exact hall i x B (by simpa using h1) (by simpa using h2)
  ·exact hl.elim
def hasB (h:Za):List Nat->Bool
 | []=>true
 | x::r=>match h.get x with|some _=>hasB h r|none=>false
theorem Z9t {h:Za}:∀{σ:List Nat},hasB h σ=true->∀x,x∈σ->∃B,h.get x=some B
 | [],_,x,hx=>by simp at hx
 | y::r,hl,x,hx=>by
  unfold hasB at hl
  split at hl
  ·rename_i B hB
   rcases List.mem_cons.1 hx with rfl|hx
   ·exact ⟨B,hB⟩
   ·exact Z9t hl x hx
  ·cases hl
def Z4s:List Nat->Bool
 | []=>true
 | x::r=>match XZ r x with|some _=>false|none=>Z4s r
theorem Ux:∀{σ:List Nat},Z4s σ=true->∀(i x:Nat),XD σ i=some x->XZ σ x=some i
 | [],_,i,x,h=>by simp [XD] at h
 | y::r,hd,0,x,h=>by simp [XD] at h;subst h;simp [XZ,Nat.beq_refl]
 | y::r,hd,i+1,x,h=>by
  unfold Z4s at hd
  split at hd
  ·cases hd
  ·rename_i hn
   have h1:XD r i=some x:=h
   have h2:=Ux hd i x h1
   have hne:y≠x:=fun e=>Z0Z hn (e▸W0 h1)
   simp [XZ,ZB hne,h2]
def frA (σ:List Nat) (h:Za) (d:Nat) (args:List AV) (K0:List Blk->List AV->Prop):Prop:=
 match hasB h σ&&Z4s σ with
 | true=>Zfy σ h d σ fun Bs=>vwL σ h true d args fun a=>K0 Bs a
 | false=>False
theorem Z39:∀{σ:List Nat} {i:Nat},XD σ i=σ[i]?
 | [],_=>by simp [XD]
 | x::r,0=>by simp [XD]
 | x::r,i+1=>by simp [XD,Z39 (σ:=r)]
theorem Ziy {σ:List Nat} {h:Za} {d:Nat} {args:List AV} {K0:List Blk->List AV->Prop} (hl:frA σ h d args K0):
  (∀x,x∈σ->∃B,h.get x=some B)/\Z4s σ=true/\∃Bs a,K0 Bs a/\Bs.length=σ.length/\
   (∀(i x:Nat) (B:Blk),XD σ i=some x->Bs[i]? =some B->∃B',h.get x=some B'/\∀(E:Env) (w:World),Emb E h w->YN E w x B'->YN (E.borL σ w true) w i B)/\
   ∀(E:Env) (w:World) (r:List Value),Emb E h w->ZK E args r->ZK (E.borL σ w true) a r:=by
 unfold frA at hl
 split at hl
 ·rename_i hc
  rw [Bool.and_eq_true] at hc
  have hm:=Z9t hc.1
  obtain ⟨Bs,hl,hlen,hall⟩:=Z9s hm _ _ hl
  obtain ⟨a,hK,ha⟩:=Z38 hm _ _ _ _ hl
  refine ⟨hm,hc.2,Bs,a,hK,hlen,fun i x B h1 h2=> ?_,ha⟩
  obtain ⟨B',hB',hr⟩:=hall i x B (by rw [<-Z39];exact h1) h2
  exact ⟨B',hB',fun E w he hb=>hr E w i he (Ux hc.2 i x h1) hb⟩
 ·exact hl.elim
end Go.Tk
end
section
namespace Go.Tk
open IntKind (i64 u8 u32 u64 wrap)
def Spec (P:Program) (f:FuncId) (args:List AV) (h0:Za) (o:Out) (nx:Nat) (bs:List (Nat×Blk)):Prop:=
 ∀(E:Env) (w:World) (rs:List Value),Emb E h0 w->ZK E args rs->Calls P f rs.toArray w fun e w'=>∃E',Evo E h0 w E' ⟨nx,bs⟩ w'/\QC E' o e
theorem Z1Y {k:Nat} {τ:Ren} {v u:AV} {nx:Nat} {bs:List (Nat×Blk)} {h0 h:Za} (hk:k=h0.next) (hl:YU k τ ⟨1,[(0,v)],⟨nx,bs⟩,[]⟩ ⟨1,[(0,u)],h,[]⟩ True) {E0 E:Env} {w0 w:World} {r:Value}
  (he0:Emb E0 h0 w0) (hev:Evo E0 h0 w0 E h w) (hr:Zk E u r):∃E',Evo E0 h0 w0 E' ⟨nx,bs⟩ w/\Zk E' v r:=by
 obtain ⟨_,hw⟩:=Yn hl
 have hs:V0 E ⟨1,[(0,u)],h,[]⟩ { tmps:= #[r],defers:=[]} w:=by
  refine ⟨hev.emb,⟨rfl,fun x v' hx=> ?_⟩,.nil⟩
  simp only [ZY] at hx
  split at hx
  ·rename_i hb
   have:=Nat.eq_of_beq_eq_true hb
   subst this
   cases hx
   exact hr
  ·cases hx
 obtain ⟨E₂,hs2,hev2⟩:=hw E0 h0 w0 E _ w (fun x hx=>he0.fresh x (hk▸hx)) hs hev
 refine ⟨E₂,hev2, ?_⟩
 have:=hs2.tmps.get 0 v (by simp [ZY])
 simpa using this
def mvN:List Nat->Nat->Nat->Nat
 | [],d,y=>d+y
 | x::_,_,0=>x
 | _::r,d,y+1=>mvN r d y
theorem Z8l:∀{σ:List Nat} {d y x:Nat},XD σ y=some x->mvN σ d y=x
 | [],_,_,_,h=>by simp [XD] at h
 | x::r,d,0,_,h=>by simpa [XD,mvN] using h
 | x::r,d,y+1,_,h=>Z8l (σ:=r) h
theorem Z8m:∀{σ:List Nat} {d y:Nat},σ.length<=y->mvN σ d y=d+(y-σ.length)
 | [],d,y,_=>by simp [mvN]
 | x::r,d,0,h=>by simp at h
 | x::r,d,y+1,h=>by
  simp at h
  have:=Z8m (σ:=r) (d:=d) h
  simp [mvN,this]
theorem QU:∀{σ:List Nat} {y:Nat},y<σ.length->∃x,XD σ y=some x
 | [],_,h=>by simp at h
 | x::r,0,_=>⟨x,rfl⟩
 | x::r,y+1,h=>QU (σ:=r) (by simpa using h)
mutual
/-- Names moved. -/
def mvV (σ:List Nat) (d:Nat):AV->Option AV
 | .top=>some .top
 | .bool b=>some (.bool b)
 | .int k n=>some (.int k n)
 | .str s=>some (.str s)
 | .ptr none=>some (.ptr none)
 | .ptr (some p)=>some (.ptr (some ⟨mvN σ d p.blk,p.row,p.sz,p.off,p.inn⟩))
 | .nslice p esz len lo=>some (.nslice ⟨mvN σ d p.blk,p.row,p.sz,p.off,p.inn⟩ esz len lo)
 | .eslice=>some .eslice
 | .fslice=>some .fslice
 | .nilslice=>some .nilslice
 | .map none=>some (.map none)
 | .map (some x)=>some (.map (some (mvN σ d x)))
 | .nilFunc=>some .nilFunc
 | .nilIface=>some .nilIface
 | .func (.func g) fs cs=>match mvL σ d fs,mvL σ d cs with
  | some fs',some cs'=>some (.func (.func g) fs' cs')
  | _,_=>none
 | .iface t v=>match mvV σ d v with|some v'=>some (.iface t v')|none=>none
 | .agg cs=>match mvC σ d cs with|some cs'=>some (.agg cs')|none=>none
 | .tuple vs=>match mvL σ d vs with|some vs'=>some (.tuple vs')|none=>none
 | _=>none
def mvC (σ:List Nat) (d:Nat):List AV->Option (List AV)
 | []=>some []
 | .arr k n xs::r=>match mvC σ d r with|some r'=>some (.arr k n xs::r')|none=>none
 | v::r=>match mvV σ d v,mvC σ d r with
  | some v',some r'=>match v'.isCell with|true=>some (v'::r')|false=>none
  | _,_=>none
def mvL (σ:List Nat) (d:Nat):List AV->Option (List AV)
 | []=>some []
 | v::r=>match mvV σ d v,mvL σ d r with
  | some v',some r'=>some (v'::r')
  | _,_=>none
end
theorem Q3 {v:AV} (h:v.isCell=true) (r:List AV):csz (v::r)=1+csz r:=by
 cases v<;>simp_all [AV.isCell,csz]
set_option maxHeartbeats 1000000 in
mutual
theorem Z3a {σ:List Nat} {d:Nat} {E E':Env} (hb:∀x r,E.blk x=some r->E'.blk (mvN σ d x)=some r):∀(v v':AV) (r:Value),mvV σ d v=some v'->Zk E v r->Zk E' v' r:=by
 intro v v' r h hv
 unfold mvV at h
 split at h
 ·cases h;exact .top r
 ·cases h;exact hv.plain rfl
 ·cases h;exact hv.plain rfl
 ·cases h;exact hv.plain rfl
 ·cases h;exact hv.plain rfl
 ·cases h
  cases hv with
  | ptr p b N hq=>exact .ptr ⟨mvN σ d _,_,_,_,_⟩ b N (hb _ _ hq)
 ·cases h
  cases hv with
  | nslice0 p esz len lo a h1 h2=>exact .nslice0 _ _ _ _ a h1 h2
  | nslice p esz len lo b N cap hq h1 h2 h3=>exact .nslice ⟨mvN σ d _,_,_,_,_⟩ _ _ _ b N cap (hb _ _ hq) h1 h2 h3
 ·cases h;exact hv.plain rfl
 ·cases h;exact hv.plain rfl
 ·cases h;exact hv.plain rfl
 ·cases h;exact hv.plain rfl
 ·cases h
  cases hv with
  | map x b N hq=>exact .map _ b N (hb _ _ hq)
 ·cases h;exact hv.plain rfl
 ·cases h;exact hv.plain rfl
 ·split at h
  ·rename_i fs' cs' h1 h2
   cases h
   cases hv with
   | func fn first captured fs cs ha hc=>exact .func _ _ _ _ _ (Z5x hb _ _ _ h1 ha) (Z5x hb _ _ _ h2 hc)
  ·cases h
 ·split at h
  ·rename_i v1 h1
   cases h
   cases hv with
   | iface t v x hx=>exact .iface _ _ _ (Z3a hb _ _ _ h1 hx)
  ·cases h
 ·split at h
  ·rename_i cs' h1
   cases h
   cases hv with
   | agg cs vs hc=>exact .agg _ _ (Z5w hb _ _ _ h1 hc).1
  ·cases h
 ·split at h
  ·rename_i vs' h1
   cases h
   cases hv with
   | tuple vs rs hc=>exact .tuple _ _ (Z5x hb _ _ _ h1 hc)
  ·cases h
 ·cases h
theorem Z5w {σ:List Nat} {d:Nat} {E E':Env} (hb:∀x r,E.blk x=some r->E'.blk (mvN σ d x)=some r):∀(l l':List AV) (r:List Value),mvC σ d l=some l'->Zw E l r->Zw E' l' r/\csz l'=csz l:=by
 intro l l' r h hv
 unfold mvC at h
 split at h
 ·cases h;cases hv;exact ⟨.nil,rfl⟩
 ·split at h
  ·rename_i r' h1
   cases h
   obtain ⟨ws,rfl,ht⟩:=Zw.cons_arr hv
   have:=Z5w hb _ _ _ h1 ht
   exact ⟨.arr _ _ _ _ _ this.1,by simp [csz,this.2]⟩
  ·cases h
 ·rename_i v r2 hna
  split at h
  ·rename_i v1 r1 h1 h2
   split at h
   ·rename_i hcell
    cases h
    obtain ⟨c,ws,rfl,q1,q2,q3,q4⟩:=Zw.cons_cell hv (fun k m xs e=>hna k m xs e)
    have:=Z5w hb _ _ _ h2 q4
    exact ⟨.one _ _ _ _ hcell q2 (Z3a hb _ _ _ h1 q3) this.1,by rw [Q3 hcell,Q3 q1,this.2]⟩
   ·cases h
  ·cases h
theorem Z5x {σ:List Nat} {d:Nat} {E E':Env} (hb:∀x r,E.blk x=some r->E'.blk (mvN σ d x)=some r):∀(l l':List AV) (r:List Value),mvL σ d l=some l'->ZK E l r->ZK E' l' r:=by
 intro l l' r h hv
 unfold mvL at h
 split at h
 ·cases h;cases hv;exact .nil
 ·split at h
  ·rename_i v1 r1 h1 h2
   cases h
   cases hv with
   | cons v c vs cs ha hc=>exact .cons _ _ _ _ (Z3a hb _ _ _ h1 ha) (Z5x hb _ _ _ h2 hc)
  ·cases h
end
theorem Zfz {σ:List Nat} {d:Nat}:∀(l l':List AV),mvC σ d l=some l'->csz l'=csz l:=by
 intro l
 induction l with
 | nil=>intro l' h;unfold mvC at h;cases h;rfl
 | cons v r ih=>
  intro l' h
  unfold mvC at h
  split at h
  ·rename_i hq;cases hq
  ·rename_i hq
   cases hq
   split at h
   ·rename_i r' h1
    cases h
    simp [csz,ih _ h1]
   ·cases h
  ·rename_i hna hq
   cases hq
   split at h
   ·rename_i v1 r1 h1 h2
    split at h
    ·rename_i hcell
     cases h
     have hv:v.isCell=true\/v.isCell=false:=by cases v.isCell<;>simp
     rcases hv with hv|hv
     ·rw [Q3 hcell,Q3 hv,ih _ h2]
     ·cases v with
      | arr k n xs=>exact absurd rfl (hna k n xs)
      | agg cs=>unfold mvV at h1;split at h1<;>cases h1;simp [AV.isCell] at hcell
      | tuple cs=>unfold mvV at h1;split at h1<;>cases h1;simp [AV.isCell] at hcell
      | _=>simp [AV.isCell] at hv
    ·cases h
   ·cases h
inductive MvB (σ:List Nat) (d:Nat):Blk->Blk->Prop
 | ints (k:IntKind) (xs:List Int):MvB σ d (.ints k xs) (.ints k xs)
 | flat (cs cs':List AV) (h:mvC σ d cs=some cs'):MvB σ d (.flat cs) (.flat cs')
 | rows (sz n:Nat) (f:Nat->List AV) (h:∀i,i<n->Yy (f i)=true):MvB σ d (.rows sz n f) (.rows sz n f)
inductive Z8n (σ:List Nat) (d:Nat):List (Nat×Blk)->List (Nat×Blk)->Prop
 | nil:Z8n σ d [] []
 | cons (y x:Nat) (B B':Blk) (r r':List (Nat×Blk)) (hx:mvN σ d y=x) (h:MvB σ d B B') (t:Z8n σ d r r'):Z8n σ d ((y,B)::r) ((x,B')::r')
inductive MvO (σ:List Nat) (d:Nat):Out->Out->Prop
 | ret (v v':AV) (h:mvV σ d v=some v'):MvO σ d (.ret v) (.ret v')
 | panic (v v':AV) (h:mvV σ d v=some v'):MvO σ d (.panic v) (.panic v')
theorem Z8n.get {σ:List Nat} {d:Nat}:∀{bs bs':List (Nat×Blk)},Z8n σ d bs bs'->∀x B',ZO bs' x=some B'->∃y B,mvN σ d y=x/\ZO bs y=some B/\MvB σ d B B'
 | _,_,.nil,x,B',h=>by simp [ZO] at h
 | _,_,.cons y x0 B B0 r r' hx hm t,x,B',h=>by
  unfold ZO at h
  split at h
  ·rename_i hb
   have:=Nat.eq_of_beq_eq_true hb
   cases h
   exact ⟨y,B,hx.trans this,by simp [ZO,Nat.beq_refl],hm⟩
  ·rename_i hb
   obtain ⟨z,C,h1,h2,h3⟩:=t.get x B' h
   refine ⟨z,C,h1, ?_,h3⟩
   have hne:y≠z:=fun e=>by subst e;rw [hx] at h1;subst h1;simp [Nat.beq_refl] at hb
   simp [ZO,ZB hne,h2]
theorem MvB.move {σ:List Nat} {d:Nat} {B B':Blk} (hm:MvB σ d B B') {E E':Env} {w:World} {y:Nat} (hb:∀x r,E.blk x=some r->E'.blk (mvN σ d x)=some r) (hn:E.blk y=none->E'.blk (mvN σ d y)=none) (h:YN E w y B):YN E' w (mvN σ d y) B':=by
 cases hm with
 | ints k xs=>cases h with
  | ints0 k xs h0 hq=>exact .ints0 _ _ h0 (hn hq)
  | ints k xs b cells elem fr hq hw hf hv=>exact .ints _ _ b cells elem fr (hb _ _ hq) hw hf hv
 | flat cs cs' hc=>cases h with
  | flat0 cs h0 hq=>exact .flat0 _ ((Zfz _ _ hc).trans h0) (hn hq)
  | flat cs b cells elem fr vs hq hw hf hcr hv=>exact .flat _ b cells elem fr vs (hb _ _ hq) hw hf (Z5w hb _ _ _ hc hcr).1 hv
 | rows sz n f hp=>cases h with
  | rows0 sz n f h0 hq=>exact .rows0 _ _ _ h0 (hn hq)
  | rows sz n f b cells elem fr g hq hw hf hcr hl hv=>exact .rows _ _ _ b cells elem fr g (hb _ _ hq) hw hf (fun i hi=>(hcr i hi).plain (hp i hi)) hl hv
def Q4 (σ:List Nat) (bs:List (Nat×Blk)):List (Nat×Blk):=match σ with
 | []=>bs
 | x::r=>Q4 r (Yc bs x)
theorem Z1p:∀{σ:List Nat} {bs:List (Nat×Blk)} {x:Nat} {B:Blk},ZO (Q4 σ bs) x=some B->ZO bs x=some B/\x∉σ
 | [],bs,x,B,h=>⟨h,by simp⟩
 | y::r,bs,x,B,h=>by
  obtain ⟨h1,h2⟩:=Z1p (σ:=r) h
  by_cases hn:y=x
  ·subst hn;rw [Qg] at h1;cases h1
  ·rw [WJ _ _ _ hn] at h1
   exact ⟨h1,by simp [h2,Ne.symm hn]⟩
theorem Spec.calls {P:Program} {f:FuncId} {args₀ args:List AV} {σ:List Nat} {Bs:List Blk} {o o':Out} {nx:Nat} {bs bs':List (Nat×Blk)} {h:Za} {K:KO} (hc:Spec P f args₀ ⟨σ.length,Wv 0 σ Bs⟩ o nx bs)
  (hlen:Bs.length=σ.length) (hm:∀x,x∈σ->∃B,h.get x=some B) (hd:Z4s σ=true)
  (hx:∀(i x:Nat) (B:Blk),XD σ i=some x->Bs[i]? =some B->∃B',h.get x=some B'/\∀(E:Env) (w:World),Emb E h w->YN E w x B'->YN (E.borL σ w true) w i B)
  (ha:∀(E:Env) (w:World) (r:List Value),Emb E h w->ZK E args r->ZK (E.borL σ w true) args₀ r)
  (hnx:σ.length<=nx) (ho:MvO σ h.next o o') (hb:Z8n σ h.next bs bs') (hK:K o' ⟨h.next+(nx-σ.length),Uv bs' (Q4 σ h.bs)⟩):Zp P f args h K:=by
 intro E w rs he hr
 let E0:=E.borL σ w true
 have hsub:∀i x,XD σ i=some x->E0.blk i=E.blk x:=fun i x hi=>by
  show (match XD σ i with|some x=>E.blk x|none=>none)=_
  rw [hi]
 have hnone:∀i,σ.length<=i->E0.blk i=none:=fun i hi=>by
  show (match XD σ i with|some x=>E.blk x|none=>none)=_
  rw [Z9r hi]
 have hσlt:∀x,x∈σ->x<h.next:=fun x hx=>let ⟨B,hB⟩:=hm x hx;he.lt x B hB
 have hsb:∀y B,ZO (Wv 0 σ Bs) y=some B->∃x,XD σ y=some x/\Bs[y]? =some B:=fun y B hy=>by
  obtain ⟨i,x,rfl,h1,h2⟩:=Wb σ Bs 0 y B hy
  rw [Nat.zero_add]
  exact ⟨x,by rw [Z39];exact h1,h2⟩
 have hinj:∀y z x,XD σ y=some x->XD σ z=some x->y=z:=fun y z x h1 h2=>by
  have a:=Ux hd y x h1
  have b:=Ux hd z x h2
  rw [a] at b
  cases b
  rfl
 have hemb:Emb E0 ⟨σ.length,Wv 0 σ Bs⟩ w:=by
  refine ⟨hnone, ?_, ?_, ?_,fun _ _ h=>h.1, ?_⟩
  ·intro y B hy
   obtain ⟨x,h1,_⟩:=hsb y B hy
   exact Z9q h1
  ·intro y B hy
   obtain ⟨x,h1,h2⟩:=hsb y B hy
   obtain ⟨B',hB',hq⟩:=hx y x B h1 h2
   exact hq E w he (he.own x B' hB')
  ·intro y z B C b N N' hy hz hby hbz
   obtain ⟨x,h1,h2⟩:=hsb y B hy
   obtain ⟨x',h3,h4⟩:=hsb z C hz
   rw [hsub y x h1] at hby
   rw [hsub z x' h3] at hbz
   obtain ⟨B',hB'⟩:=hm x (W0 h1)
   obtain ⟨C',hC'⟩:=hm x' (W0 h3)
   have:=he.disj x x' B' C' b N N' hB' hC' hby hbz
   subst this
   exact hinj y z x h1 h3
  ·intro a c y B N hi hy hbb
   obtain ⟨x,h1,_⟩:=hsb y B hy
   rw [hsub y x h1] at hbb
   exact hi.2 x (W0 h1) N hbb
 refine (hc E0 w rs hemb (ha E w rs he hr)).mono ?_
 rintro e w' ⟨E₁,hev,hor⟩
 let E':Env:=⟨fun x=>match XZ σ x with
  | some i=>E₁.blk i
  | none=>if x<h.next then E.blk x else E₁.blk (x-h.next+σ.length),E.imm⟩
 have hρ:∀y,E'.blk (mvN σ h.next y)=E₁.blk y:=fun y=>by
  rcases Nat.lt_or_ge y σ.length with hlt|hge
  ·obtain ⟨x,hx'⟩:=QU hlt
   rw [Z8l hx']
   show (match XZ σ x with|some i=>_|none=>_)=_
   rw [Ux hd y x hx']
  ·rw [Z8m hge]
   have hn:XZ σ (h.next+(y-σ.length))=none:=by
    cases hq:XZ σ (h.next+(y-σ.length)) with
    | none=>rfl
    | some i=>have:=hσlt _ (W0 (VG hq));omega
   show (match XZ σ _ with|some i=>_|none=>_)=_
   rw [hn]
   show (if _ then _ else _)=_
   rw [if_neg (by omega)]
   congr 1
   omega
 have hold:∀x,x<h.next->XZ σ x=none->E'.blk x=E.blk x:=fun x hx hn=>by
  show (match XZ σ x with|some i=>_|none=>_)=_
  rw [hn]
  exact if_pos hx
 have hfresh:∀x,E.blk x≠none->x<h.next:=fun x hx=>by
  rcases Nat.lt_or_ge x h.next with hl|hg
  ·exact hl
  ·exact absurd (he.fresh x hg) hx
 have hle:E.le E':=⟨fun x q hq=>by
  cases hi:XZ σ x with
  | some i=>
   show (match XZ σ x with|some i=>_|none=>_)=_
   rw [hi]
   exact hev.le.blk i q ((hsub i x (VG hi)).trans hq)
  | none=>rw [hold x (hfresh x (by rw [hq];simp)) hi];exact hq,fun _ _ h=>h⟩
 have hown0:∀b,WK E0 ⟨σ.length,Wv 0 σ Bs⟩ b->∃x N,x∈σ/\E.blk x=some (b,N):=fun b ⟨y,B,N,hy,hbb⟩=>by
  obtain ⟨x,h1,_⟩:=hsb y B hy
  exact ⟨x,N,W0 h1,by rw [<-hsub y x h1];exact hbb⟩
 have hkeep:∀b,b<w.heap.size->(∀x N,x∈σ->E.blk x=some (b,N)->False)->w'.heap[b]? =w.heap[b]?:=fun b hb hn=>hev.keep b hb (fun ho=>let ⟨x,N,h1,h2⟩:=hown0 b ho;hn x N h1 h2)
 have hget:∀x B',Za.get ⟨h.next+(nx-σ.length),Uv bs' (Q4 σ h.bs)⟩ x=some B'->
   (∃y B,mvN σ h.next y=x/\ZO bs y=some B/\MvB σ h.next B B')\/(x<h.next/\x∉σ/\h.get x=some B'):=fun x B' hx=>by
  simp only [Za.get,Z4l] at hx
  split at hx
  ·rename_i B0 hq
   cases hx
   exact .inl (hb.get x _ hq)
  ·obtain ⟨h1,h2⟩:=Z1p hx
   exact .inr ⟨he.lt x B' h1,h2,h1⟩
 have hni:∀x,x∉σ->XZ σ x=none:=fun x hx=>by
  cases hq:XZ σ x with
  | none=>rfl
  | some i=>exact absurd (W0 (VG hq)) hx
 have hmix:∀y B z C b N N',ZO bs y=some B->E₁.blk y=some (b,N)->z∉σ->h.get z=some C->E.blk z=some (b,N')->False:=fun y B z C b N N' hy hby hz hz' hbz=>by
  rcases hev.own b ⟨y,B,N,hy,hby⟩ with ho|hs
  ·obtain ⟨x,M,h1,h2⟩:=hown0 b ho
   obtain ⟨D,hD⟩:=hm x h1
   have:=he.disj x z D C b M N' hD hz' h2 hbz
   subst this
   exact hz h1
  ·have:=(he.own z C hz').lt hbz
   omega
 have himm0:∀a c,E.imm a c->E0.imm a c:=fun a c hi=>⟨he.imm a c hi,fun x hx N hbb=>let ⟨B,hB⟩:=hm x hx;he.sep a c x B N hi hB hbb⟩
 have hemb':Emb E' ⟨h.next+(nx-σ.length),Uv bs' (Q4 σ h.bs)⟩ w':=by
  refine ⟨?_, ?_, ?_, ?_, ?_, ?_⟩
  ·intro x hx
   have hx':h.next+(nx-σ.length)<=x:=hx
   have hn:XZ σ x=none:=hni x (fun hq=>by have:=hσlt x hq;omega)
   show (match XZ σ x with|some i=>_|none=>_)=_
   rw [hn]
   show (if _ then _ else _)=_
   rw [if_neg (by omega)]
   exact hev.emb.fresh _ (by show nx<=_;omega)
  ·intro x B hx
   show x<h.next+(nx-σ.length)
   rcases hget x B hx with ⟨y,B0,rfl,hy,_⟩|⟨hlt,_,_⟩
   ·have hyn:y<nx:=hev.emb.lt y B0 hy
    rcases Nat.lt_or_ge y σ.length with hlt|hge
    ·obtain ⟨x,hx'⟩:=QU hlt
     rw [Z8l hx']
     have:=hσlt x (W0 hx')
     omega
    ·rw [Z8m hge]
     omega
   ·omega
  ·intro x B hx
   rcases hget x B hx with ⟨y,B0,rfl,hy,hmv⟩|⟨hlt,hnσ,hx'⟩
   ·exact hmv.move (E:=E₁) (fun x r hq=>by rw [hρ];exact hq) (fun hq=>by rw [hρ];exact hq) (hev.emb.own y B0 hy)
   ·have h1:=(he.own x B hx').mono hle (fun hn=>by rw [hold x hlt (hni x hnσ)];exact hn)
    refine h1.congr fun b N hbb=> ?_
    rw [hold x hlt (hni x hnσ)] at hbb
    refine hkeep b ((he.own x B hx').lt hbb) fun z M hz hbz=> ?_
    obtain ⟨D,hD⟩:=hm z hz
    have:=he.disj x z B D b N M hx' hD hbb hbz
    subst this
    exact hnσ hz
  ·intro x z B C b N N' hx hz hbx hbz
   rcases hget x B hx with ⟨y,B0,rfl,hy,hmv⟩|⟨hlt,hnσ,hx'⟩<;>rcases hget z C hz with ⟨y',C0,rfl,hy',hmv'⟩|⟨hlt',hnσ',hz'⟩
   ·rw [hρ] at hbx hbz
    rw [hev.emb.disj y y' B0 C0 b N N' hy hy' hbx hbz]
   ·rw [hρ] at hbx
    rw [hold z hlt' (hni z hnσ')] at hbz
    exact (hmix y B0 z C b N N' hy hbx hnσ' hz' hbz).elim
   ·rw [hρ] at hbz
    rw [hold x hlt (hni x hnσ)] at hbx
    exact (hmix y' C0 x B b N' N hy' hbz hnσ hx' hbx).elim
   ·rw [hold x hlt (hni x hnσ)] at hbx
    rw [hold z hlt' (hni z hnσ')] at hbz
    exact he.disj x z B C b N N' hx' hz' hbx hbz
  ·intro a c hi
   exact hev.emb.imm a c (hev.le.imm a c (himm0 a c hi))
  ·intro a c x B N hi hx hbx
   rcases hget x B hx with ⟨y,B0,rfl,hy,hmv⟩|⟨hlt,hnσ,hx'⟩
   ·rw [hρ] at hbx
    exact hev.emb.sep a c y B0 N (hev.le.imm a c (himm0 a c hi)) hy hbx
   ·rw [hold x hlt (hni x hnσ)] at hbx
    exact he.sep a c x B N hi hx' hbx
 refine ⟨E',o',_,hK,⟨hle,hemb',hev.size,hev.os,hev.tape,hev.output,fun b hb' hno=>hkeep b hb' (fun x N hx hbx=> ?_), ?_,fun _ _ h=>h⟩, ?_⟩
 ·obtain ⟨B,hB⟩:=hm x hx
  exact hno ⟨x,B,N,hB,hbx⟩
 ·rintro b ⟨x,B,N,hx,hbx⟩
  rcases hget x B hx with ⟨y,B0,rfl,hy,hmv⟩|⟨hlt,hnσ,hx'⟩
  ·rw [hρ] at hbx
   rcases hev.own b ⟨y,B0,N,hy,hbx⟩ with ho|hs
   ·obtain ⟨z,M,h1,h2⟩:=hown0 b ho
    obtain ⟨D,hD⟩:=hm z h1
    exact .inl ⟨z,D,M,hD,h2⟩
   ·exact .inr hs
  ·rw [hold x hlt (hni x hnσ)] at hbx
   exact .inl ⟨x,B,N,hx',hbx⟩
 ·cases ho with
  | ret v v' hv=>cases hor with
   | ret v r hr=>exact .ret _ _ (Z3a (fun x q hq=>by rw [hρ];exact hq) _ _ _ hv hr)
  | panic v v' hv=>cases hor with
   | panic v r hr=>exact .panic _ _ (Z3a (fun x q hq=>by rw [hρ];exact hq) _ _ _ hv hr)
theorem Spec.fsumm {P:Program} {f:FuncId} {args:List AV} {σ:List Nat} {h:Za} {d:Nat} {K0:List Blk->List AV->Prop} {K:KO} (hl:frA σ h d args K0)
  (hK:∀Bs a₀,Bs.length=σ.length->K0 Bs a₀->∃o nx bs o' bs',Spec P f a₀ ⟨σ.length,Wv 0 σ Bs⟩ o nx bs/\σ.length<=nx/\MvO σ h.next o o'/\Z8n σ h.next bs bs'/\K o' ⟨h.next+(nx-σ.length),Uv bs' (Q4 σ h.bs)⟩):Zp P f args h K:=by
 obtain ⟨hm,hd,Bs,a,hK0,hlen,hx,ha⟩:=Ziy hl
 obtain ⟨o,nx,bs,o',bs',h1,h2,h3,h4,h5⟩:=hK Bs a hlen hK0
 exact Spec.calls h1 hlen hm hd hx ha h2 h3 h4 h5
end Go.Tk
end
