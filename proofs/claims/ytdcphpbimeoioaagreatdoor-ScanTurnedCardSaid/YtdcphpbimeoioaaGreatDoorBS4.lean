/- A part of the proof: ZSGN2, ZSGN3, ZSGN4, ZSHG0, ZSGN5, ZSHG1, ZSHG2, ZSHG3, ZSHG4, ZSGW5, ZSGW6, ZSGM2, ZSGM3, ZSGM4, ZSGM5, ZSGM6, ZSHG, ZSGZ2, ZSHFc, ZSGP5, ZSGY2, ZSGY3, ZSGZ3, ZSGP6, ZSGU1, ZSLP, ZSGU2. No condition. -/
import Derived.Test.YtdcphpbimeoioaaGreatDoorBS3
import Derived.ChangeKeysEq
import Derived.Test.YtdcphpbimeoioaaGreatDoorProg
section
set_option linter.unusedSectionVars false
namespace Go.Proofs.YtdcphpbimeoioaaGreatDoorE
open Go Go.RowKit Go.Shelf
open Go.ChangeMaps (setBlock)
set_option linter.unusedVariables false
set_option linter.unusedSimpArgs false
section
variable {P:Program} {S S' S0:Nat→SL} {F F' F0:Nat→Prop} {w w' w0:World} {H H' H0:Heap} {E E':Env} {O:Orc} {a:Act} {n m b:Nat} {Q:Exit→Act→World→Prop} {os:Array Oper} {rest:List Nat} {i:Nat} {o:Oper}
structure Frn (S:Nat→SL) (F:Nat→Prop) (w:World) (H:Heap) (b:Nat):Prop where
 lt:b<w.heap.size
 nf:¬ F b
 nw:¬ WR S H b
theorem Frn.adv (h:Frn S F w H b) (hA:AdvM m S F w H S' F' w' H'):Frn S' F' w' H' b :=
 ⟨Nat.lt_of_lt_of_le h.lt hA.sz,fun hf=>by
  rcases hA.fn b hf with e|e|e
  ·exact h.nf e
  ·exact h.nw e
  ·have:=h.lt;omega,fun hw=>by
  rcases hA.wr b hw with e|e
  ·exact h.nw e
  ·have:=h.lt;omega⟩
theorem Frn.same (h:Frn S F w H b) (hA:AdvM m S F w H S' F' w' H'):w'.heap[b]?=w.heap[b]?:=hA.same b h.lt h.nw
theorem Frn.grow (h:Frn S F w H b) (hs:w.heap.size≤w'.heap.size):Frn S F w' H b:=⟨Nat.lt_of_lt_of_le h.lt hs,h.nf,h.nw⟩
theorem slot_blk (hr:Rel S F w H) {c k:Nat} (hb:blkOf (S c)=some k):k<w.heap.size∧(F k∨WR S H k):=by
 cases hg:hget H c with
 | unused=>rw [unused_S hr hg] at hb;cases hb
 | dead =>
  have:=hr.slots c;rw [hg] at this
  cases hs:S c<;>rw [hs] at this hb<;>simp only [SlotOk] at this
  cases hb
 | live x =>
  refine ⟨blkOf_lt hr hg hb,?_⟩
  cases hw:x.wr with
  | true=>exact .inr ⟨c,x,hg,hw,hb⟩
  | false =>
   left
   have hs:=hr.slots c
   rw [hg] at hs
   cases x with
   | box cs wr =>
    cases hS:S c<;>rw [hS] at hs hb<;>simp only [SlotOk,blkOf,Option.some.injEq] at hs hb
    all_goals first|(subst hb;exact hs.2.2 hw)|cases hs|cases hb
   | arr t xs wr =>
    cases hS:S c<;>rw [hS] at hs hb<;>simp only [SlotOk] at hs
    rename_i a n cap sz
    obtain ⟨_,_,_,_,hor⟩:=hs
    cases a with
    | none=>simp [blkOf] at hb
    | some ad =>
     simp only [blkOf] at hb
     split at hb
     ·cases hb
     ·rename_i hc
      simp only [Option.some.injEq] at hb
      subst hb
      rcases hor with h0|⟨ad',e,_,_,h1⟩
      ·exact absurd h0 hc
      ·cases e;exact h1 hw
theorem Frn.new (hr:Rel S F w H) (hs:w.heap.size<w'.heap.size):Frn S F w' H w.heap.size :=
 ⟨hs,fun h=>Nat.lt_irrefl _ (hr.fsz _ h),fun ⟨c,x,hg,_,hb⟩=>Nat.lt_irrefl _ (blkOf_lt hr hg hb)⟩
structure Off (S:Nat→SL) (F:Nat→Prop) (w:World) (H:Heap) (w':World):Prop where
 sz:w.heap.size≤w'.heap.size
 same:∀ k,k<w.heap.size→(F k∨WR S H k)→w'.heap[k]?=w.heap[k]?
 st:Str w w'
theorem Off.rel (h:Off S F w H w') (hr:Rel S F w H):Rel S F w' H :=
 ⟨fun c=>(hr.slots c).mono (fun _ h=>h) (fun k hk=>h.same k (hr.fsz k hk) (.inl hk)) (fun _ _ => .inl rfl) (fun k hk=>h.same k (slot_blk hr hk).1 (slot_blk hr hk).2) (fun _ _ h=>h),hr.inj,fun k hk=>Nat.lt_of_lt_of_le (hr.fsz k hk) h.sz,hr.gl.mono (fun _ h=>h) fun k hk=>h.same k (hr.fsz k hk) (.inl hk)⟩
theorem Off.val (h:Off S F w H w') (hr:Rel S F w H) {p:PV} {v:Value} (hv:Val S F w p v):Val S F w' p v:=hv.mono (fun _ h=>h) (fun k hk=>h.same k (hr.fsz k hk) (.inl hk)) (fun _ _ => .inl rfl)
theorem Off.at' (h:Off S F w H w') (hr:Rel S F w H) (ha:At S F w E a n):At S F w' E a n :=
 ⟨⟨fun k=>h.val hr (ha.opd.tmp k),ha.opd.const,ha.opd.func⟩,ha.size,ha.defers⟩
theorem Off.adv (h:Off S F w H w') (hA:AdvM m S0 F0 w0 H0 S F w H) (hk:∀ k,k<w0.heap.size→w'.heap[k]?=w.heap[k]?):AdvM m S0 F0 w0 H0 S F w' H :=
 ⟨hA.ff,hA.ss,Nat.le_trans hA.sz h.sz,fun k h1 h2=>(hk k h1).trans (hA.same k h1 h2),hA.wr,hA.fn,hA.st.trans h.st⟩
theorem off_set (hb:Frn S F w H b) (o:Obj):Off S F w H (setBlock w b o) :=
 ⟨by simp [setBlock],fun k h1 h2=>by
  have:b≠k:=fun e=>by subst e;rcases h2 with h2|h2;exact hb.nf h2;exact hb.nw h2
  simp [setBlock,Array.getElem?_setIfInBounds,this],rfl,rfl,rfl,(fun _=>Nat.le_refl _)⟩
theorem off_drew (w:World):Off S F w H w.drew:=⟨Nat.le_refl _,fun _ _ _=>rfl,rfl,rfl,rfl,(fun _=>Nat.le_succ _)⟩
theorem off_alloc (w:World) (o:Obj):Off S F w H (w.alloc o) :=
 ⟨by have e:(w.alloc o).heap=w.heap.push o:=rfl; rw [e];simp,fun k h1 _=>(MapKept.heap_alloc w o).2 k h1,rfl,rfl,rfl,(fun _=>Nat.le_refl _)⟩
theorem Off.trans {w2:World} (h:Off S F w H w') (h':Off S F w' H w2):Off S F w H w2 :=
 ⟨Nat.le_trans h.sz h'.sz,fun k h1 h2=>(h'.same k (Nat.lt_of_lt_of_le h1 h.sz) h2).trans (h.same k h1 h2),h.st.trans h'.st⟩
theorem raw_step {v:Value} (ho:os[i]?=some o) (hg:o.guard=none) (hrun:(execOp a.eval o).run P w = .ok (.value v) w') (k:wpOps P os Q rest (a.put o.dst v) w'):wpOps P os Q (i ::rest) a w:=by
 have hw:Region.wanted o (yielded os a.tmps)=true:=by simp [Region.wanted,hg]
 simp only [wpOps,ho,hw,if_true]
 exact .inl (by unfold Oper.wp;rw [hrun];exact k)
theorem ret_ok {fn:Func} {ro:Bool} {p':PV} {R:Ending→World→Prop} (hr0:Rel S F w H) (hr:Rel S' F' w' H') (ha:At S' F' w' E a n) (hA:AdvM H.length S F w H S' F' w' H') {H2:Heap}
  (hK:(resVals E H' (fn.results.toList.map (resOf P)) fun vs=>fin H.length ro (oneOf vs) H' fun p H=>some (p,H))=some (p',H2))
  (k:∀ v S2 F2,Rel S2 F2 w' H2→Val S2 F2 w' p' v→Adv S F w H S2 F2 w' H2→R (.returned v) w'):a.defers=[]∧∃ v,(results fn a.tmps).run P w' = .ok v w'∧R (.returned v) w':=by
 obtain ⟨ps,v,g1,g2,g3⟩:=results_ok (fn:=fn) hr (fun t=>ha.opd.tmp t) hK
 obtain ⟨p2,H3,S2,F2,k1,k2,k3,k4⟩:=fin_ok hr g3 g1
 simp only [Option.some.injEq,Prod.mk.injEq] at k1
 obtain ⟨rfl,rfl⟩:=k1
 have k5:=hA.trans k4
 exact ⟨ha.defers,v,g2,k v S2 F2 k2 k3 ⟨k5.ff,fun b hb=>by
  refine k5.ss b (Nat.lt_of_not_le fun hle=>hb (unused_S hr0 (hget_len H b hle))) hb,k5.sz,k5.same,k5.wr,k5.fn,k5.st⟩⟩
end
end Go.Proofs.YtdcphpbimeoioaaGreatDoorE
end
section
set_option linter.unusedSectionVars false
namespace Go.Proofs.YtdcphpbimeoioaaGreatDoorE
open Go Go.RowKit Go.Shelf
set_option linter.unusedVariables false
set_option linter.unusedSimpArgs false
section
variable {β:Type} {P:Program} {S:Nat→SL} {F:Nat→Prop} {w:World} {H0:Heap} {E E0:Env} {O:Orc} {a:Act} {n base:Nat} {Ls:List Stp} {os:Array Oper} {Q:Exit→Act→World→Prop}
theorem any_raw {J:(Nat→Bool)→(Nat→SL)→(Nat→Prop)→World→Heap→Prop} {raw:Nat→Bool} {L:List POp} (hO:OrcOk P O) (hL:Ls.map (fun s=>(s.d.i,s.o))=number 0 L) (hlen:L.length=os.size)
  (hsame:∀ i o,os[i]?=some o→∃ po,L[i]?=some po∧po.dst=o.dst∧po.after=(opOf P os o).after∧po.guard=(opOf P os o).guard∧(raw i=false→po=opOf P os o)∧(raw i=true→o.guard=none∧∃ v us,po.act = .raw v us))
  (hd:(os.toList.map (opOf P os)).all (dstIn n)=true) (hs:StepsOk O base [] Ls E0 H0)
  (hJ:∀ (A A':Nat→Bool) {S F w H S' F' w' H'},(∀ i,raw i=true→A' i=A i)→J A S F w H→Adv S F w H S' F' w' H'→J A' S' F' w' H')
  (hR:∀ (l l':List Stp) (s:Stp) (o:Oper),Ls=l++s ::l'→os[s.d.i]?=some o→raw s.d.i=true→∀ (A B:Nat→Bool) (S1:Nat→SL) (F1:Nat→Prop) (w1:World) (H1:Heap) (E1:Env) (a1:Act),A s.d.i=false→(∀ k∈s.o.after,A k=true)→B s.d.i=true→(∀ i,i≠s.d.i→B i=A i) →
   Rel S1 F1 w1 H1→At S1 F1 w1 E1 a1 n→(∀ t∈usesO s.o,get E1 t=get (allE l E0) t)→J A S1 F1 w1 H1 →
   ∃ v w',(∀ (K:Act→World→Prop),K (a1.put o.dst v) w'→o.wp P a1 w1 K Q)∧Val S1 F1 w' s.v v∧Off S1 F1 w1 H1 w'∧J B S1 F1 w' H1)
  (hQ:∀ S' F' w' E' a' A,(∀ i,raw i=true→i<os.size→A i=true)→EqE E' (allE Ls E0)→Rel S' F' w' (allH Ls H0)→At S' F' w' E' a' n→J A S' F' w' (allH Ls H0)→Q .normal a' w') :
  ∀ (fuel:Nat) (listed:Array Bool) {S1:Nat→SL} {F1:Nat→Prop} {w1:World} {E1:Env} {a1:Act},listed.size=os.size→(∀ s∈Ls,listed.getD s.d.i false=true→∀ k∈s.o.after,listed.getD k false=true)→listed.toList.count false≤fuel →
   Rel S1 F1 w1 (subH (fun i=>listed.getD i false) Ls H0)→At S1 F1 w1 E1 a1 n→EqE E1 (subE (fun i=>listed.getD i false) Ls E0)→J (fun i=>listed.getD i false) S1 F1 w1 (subH (fun i=>listed.getD i false) Ls H0)→wpAny P .any os Q fuel listed a1 w1:=by
 have hidx:∀ s∈Ls,s.d.i<os.size∧∃ o,os[s.d.i]?=some o∧L[s.d.i]?=some s.o∧s.o.after=(opOf P os o).after:=by
  intro s hs
  have hm:(s.d.i,s.o)∈number 0 L:=by rw [← hL];exact List.mem_map.2 ⟨s,hs,rfl⟩
  obtain ⟨_,h2⟩:=number_mem _ _ _ hm
  rw [Nat.sub_zero] at h2
  have hlt:s.d.i<os.size:=by have:=(List.getElem?_eq_some_iff.1 h2).1;omega
  obtain ⟨po,g1,_,g3,_⟩:=hsame s.d.i _ (Array.getElem?_eq_getElem hlt)
  rw [g1] at h2
  cases h2
  exact ⟨hlt,_,Array.getElem?_eq_getElem hlt,g1,g3⟩
 have hall':∀ i,i<os.size→∃ s∈Ls,s.d.i=i:=by
  intro i hi
  have h1:Ls.map (fun s=>s.d.i)=List.range' 0 L.length:=by
   have:=congrArg (List.map Prod.fst) hL
   rw [number_fst,List.map_map] at this
   simpa [Function.comp_def] using this
  have:i∈Ls.map (fun s=>s.d.i):=by rw [h1];simp [List.mem_range'_1];omega
  obtain ⟨s,hs,e⟩:=List.mem_map.1 this
  exact ⟨s,hs,e⟩
 have fin:∀ (listed:Array Bool) {S1:Nat→SL} {F1:Nat→Prop} {w1:World} {E1:Env} {a1:Act},(∀ s∈Ls,listed.getD s.d.i false=true)→Rel S1 F1 w1 (subH (fun i=>listed.getD i false) Ls H0)→At S1 F1 w1 E1 a1 n→EqE E1 (subE (fun i=>listed.getD i false) Ls E0)→J (fun i=>listed.getD i false) S1 F1 w1 (subH (fun i=>listed.getD i false) Ls H0)→Q .normal a1 w1:=by
  intro listed S1 F1 w1 E1 a1 hall hr ha he hA
  rw [subH_true (B:=fun i=>listed.getD i false) Ls H0 hall] at hr hA
  rw [subE_true (B:=fun i=>listed.getD i false) Ls E0 hall] at he
  exact hQ _ _ _ _ _ _ (fun i _ hi=>by obtain ⟨s,h1,h2⟩:=hall' i hi;rw [← h2];exact hall s h1) he hr ha hA
 intro fuel
 induction fuel with
 | zero =>
  intro listed S1 F1 w1 E1 a1 hsz hcl hf hr ha he hA
  have hno:∀ i,i<os.size→listed.getD i false=true:=by
   intro i hi
   have h0:listed.toList.count false=0:=Nat.le_zero.1 hf
   rw [List.count_eq_zero] at h0
   have hi':i<listed.size:=by omega
   rw [Array.getD_eq_getD_getElem?,Array.getElem?_eq_getElem hi']
   simp only [Option.getD_some]
   cases hb:listed[i] with
   | true=>rfl
   | false=>exact absurd (by rw [← hb];exact Array.getElem_mem_toList hi') h0
  refine ⟨?_,fin listed (fun s hs=>hno _ (hidx s hs).1) hr ha he hA⟩
  refine List.eq_nil_iff_forall_not_mem.2 fun i hi=>?_
  obtain ⟨h1,o,h2,_⟩:=mem_ready.1 hi
  have hlt:i<os.size:=(Array.getElem?_eq_some_iff.1 h2).1
  have:=hno i hlt
  rw [Array.getD_eq_getD_getElem?,Array.getElem?_eq_getElem (by omega:i<listed.size)] at this h1
  simp only [Option.getD_some] at this h1
  rw [this] at h1;cases h1
 | succ fuel ih =>
  intro listed S1 F1 w1 E1 a1 hsz hcl hf hr ha he hA
  have hgd:∀ i,i<os.size→listed.getD i true=listed.getD i false:=by
   intro i hi
   rw [Array.getD_eq_getD_getElem?,Array.getD_eq_getD_getElem?,Array.getElem?_eq_getElem (by omega:i<listed.size)]
   rfl
  refine ⟨fun hnil=>fin listed ?_ hr ha he hA,fun i hi=>?_⟩
  ·
   have key:∀ (m:Nat),∀ s∈Ls,s.d.i≤m→listed.getD s.d.i false=true:=by
    intro m
    induction m with
    | zero =>
     intro s hsm hle
     cases hb:listed.getD s.d.i false with
     | true=>rfl
     | false =>
      obtain ⟨hlt,o,ho,_,hso⟩:=hidx s hsm
      have:s.d.i∈Region.ready .any os listed:=mem_ready.2 ⟨by rw [hgd _ hlt];exact hb,o,ho,fun e he' hbd=>by
       obtain ⟨l,l',hll⟩:=List.append_of_mem hsm
       have h2:=(steps_at (done:=[]) l (hll ▸ hs)).2.1
       have:e.on∈s.o.after:=by rw [hso];exact List.mem_map.2 ⟨e,List.mem_filter.2 ⟨by simpa using he',hbd⟩,rfl⟩
       have:=List.all_eq_true.1 h2 _ this
       have:=Nat.le_of_ble_eq_true this
       omega⟩
      rw [hnil] at this;cases this
    | succ m ihm =>
     intro s hsm hle
     cases hb:listed.getD s.d.i false with
     | true=>rfl
     | false =>
      obtain ⟨hlt,o,ho,_,hso⟩:=hidx s hsm
      have:s.d.i∈Region.ready .any os listed:=mem_ready.2 ⟨by rw [hgd _ hlt];exact hb,o,ho,fun e he' hbd=>by
       obtain ⟨l,l',hll⟩:=List.append_of_mem hsm
       have h2:=(steps_at (done:=[]) l (hll ▸ hs)).2.1
       have:e.on∈s.o.after:=by rw [hso];exact List.mem_map.2 ⟨e,List.mem_filter.2 ⟨by simpa using he',hbd⟩,rfl⟩
       have:=List.all_eq_true.1 h2 _ this
       have h3:=Nat.le_of_ble_eq_true this
       have hlt':e.on<os.size:=by omega
       obtain ⟨s',e1,e2⟩:=hall' e.on hlt'
       have:=ihm s' e1 (by omega)
       rwa [e2] at this⟩
      rw [hnil] at this;cases this
   exact fun s hs=>key _ s hs (Nat.le_refl _)
  ·obtain ⟨h1,o,ho,hrd⟩:=mem_ready.1 hi
   have hlt:i<os.size:=(Array.getElem?_eq_some_iff.1 ho).1
   rw [hgd i hlt] at h1
   obtain ⟨s,l,l',hll,hsi,hl,hl'⟩:∃ s l l',Ls=l++s ::l'∧s.d.i=i∧(∀ x∈l,x.d.i≠i)∧∀ x∈l',x.d.i≠i:=by
    obtain ⟨s,hsm,rfl⟩:=hall' i hlt
    obtain ⟨l,l',e0⟩:=List.append_of_mem hsm
    have h1:Ls.map (fun s=>s.d.i)=List.range' 0 L.length:=by
     have:=congrArg (List.map Prod.fst) hL
     rw [number_fst,List.map_map] at this
     simpa [Function.comp_def] using this
    have hn:((l++s ::l').map (fun s=>s.d.i)).Nodup:=by rw [← e0,h1];exact List.nodup_range' (step:=1)
    rw [List.map_append,List.map_cons,List.nodup_append] at hn
    obtain ⟨_,n2,n3⟩:=hn
    rw [List.nodup_cons] at n2
    exact ⟨s,l,l',e0,rfl,fun x hx e=>n3 _ (List.mem_map.2 ⟨x,hx,rfl⟩) _ (List.mem_cons_self ..) e,fun x hx e=>n2.1 (List.mem_map.2 ⟨x,hx,e⟩)⟩
   obtain ⟨_,o2,ho2,hLs,haft⟩:=hidx s (by rw [hll];simp)
   rw [hsi,ho] at ho2
   cases ho2
   obtain ⟨po,q1,q2,q3,q4,q5,q6⟩:=hsame i o ho
   rw [hsi,q1] at hLs
   cases hLs
   have hA0:listed.getD s.d.i false=false:=by rw [hsi];exact h1
   have hrdy:∀ k∈s.o.after,listed.getD k false=true:=by
    intro k hk
    rw [haft] at hk
    obtain ⟨e,he',rfl⟩:=List.mem_map.1 hk
    obtain ⟨g1,g2⟩:=List.mem_filter.1 he'
    exact hrd e (by simpa using g1) g2
   have hB:(listed.setIfInBounds i true).getD s.d.i false=true:=by rw [hsi];exact getD_set_self (by omega)
   have hne:∀ x:Stp,x.d.i≠i→(listed.setIfInBounds i true).getD x.d.i false=listed.getD x.d.i false:=fun x hx=>getD_set_ne false fun e=>hx e.symm
   have hmono:∀ k,listed.getD k false=true→(listed.setIfInBounds i true).getD k false=true:=fun k hk=>by
    by_cases e:i=k
    ·subst e;exact getD_set_self (by omega)
    ·rw [getD_set_ne false e];exact hk
   have hs':=hs
   rw [hll] at hs' hcl
   obtain ⟨e1,e2⟩:=step_env (A:=fun i=>listed.getD i false) hs' hcl hA0 hrdy
   obtain ⟨p1,p2⟩:=step_put (A:=fun i=>listed.getD i false) (B:=fun j=>(listed.setIfInBounds i true).getD j false) hs' hcl hA0 hrdy hB (fun x hx=>hne x (hl x hx)) (fun x hx=>hne x (hl' x hx))
   have hrun:=(steps_at (done:=[]) l hs').1
   rw [← hll] at e1 e2 p1 p2 hcl
   obtain ⟨d1,d2⟩:=dstIn_spec (List.all_eq_true.1 hd _ (List.mem_map.2 ⟨o,by simpa using Array.mem_of_getElem? ho,rfl⟩):dstIn n (opOf P os o)=true)
   have hcl':∀ x∈Ls,(listed.setIfInBounds i true).getD x.d.i false=true→∀ k∈x.o.after,(listed.setIfInBounds i true).getD k false=true:=by
    intro x hx hb k hk
    by_cases e:x.d.i=i
    ·refine hmono k (hrdy k ?_)
     have hx':=hx
     rw [hll] at hx'
     rcases List.mem_append.1 hx' with hx'|hx'
     ·exact absurd e (hl x hx')
     ·rcases List.mem_cons.1 hx' with rfl|hx'
      ·exact hk
      ·exact absurd e (hl' x hx')
    ·rw [hne x e] at hb
     exact hmono k (hcl x hx hb k hk)
   have hcnt:(listed.setIfInBounds i true).toList.count false≤fuel:=by
    have hi':i<listed.toList.length:=by simpa using (by omega:i<listed.size)
    have h0:listed.toList[i]=false:=by
     rw [Array.getD_eq_getD_getElem?,Array.getElem?_eq_getElem (by omega:i<listed.size)] at h1
     simpa using h1
    have hm:0<listed.toList.count false:=List.count_pos_iff.2 (by rw [← h0];exact List.getElem_mem hi')
    rw [Array.toList_setIfInBounds,List.count_set hi',h0]
    simp
    simp at hm hf
    omega
   have hus:∀ t∈usesO s.o,get E1 t=get (allE l E0) t:=fun t ht=>(he t).trans (e1 t ht)
   have hJmono:∀ {S' F' w' H'},raw i=false→Adv S1 F1 w1 (subH (fun i=>listed.getD i false) Ls H0) S' F' w' H'→J (fun j=>(listed.setIfInBounds i true).getD j false) S' F' w' H':=fun {S' F' w' H'} hr0 hA' =>
    hJ _ _ (fun j hj=>getD_set_ne false fun e=>by rw [e,hj] at hr0;cases hr0) hA hA'
   have hwant:Fires s.o.guard (allE l E0)→Region.wanted o (yielded os a1.tmps)=true:=by
    intro g1
    cases hg:o.guard with
    | none=>simp [Region.wanted,hg]
    | some g =>
     obtain ⟨j,b⟩:=g
     obtain ⟨t,hgo,ht⟩:=d2 j b hg
     rw [q4,hgo] at g1
     have hb:get E1 t = .bool b:=(hus t (by simp [usesO,q4,hgo])).trans g1
     simp [Region.wanted,hg,ha.yield hb ht]
   unfold wpOp
   simp only [ho]
   cases hraw:raw i with
   | true =>
    obtain ⟨hog,rv,us,hact⟩:=q6 hraw
    rcases hrun.run with ⟨g1,g2⟩|⟨g1,g3,g4⟩
    ·have ha':=g2 E1 _ hus e2 (fun v H=>some (v,H))
     rw [hact] at ha'
     have ha':some (rv,subH (fun i=>listed.getD i false) Ls H0)=some (s.v,upd (subH (fun i=>listed.getD i false) Ls H0) s.δ):=ha'
     simp only [Option.some.injEq,Prod.mk.injEq] at ha'
     obtain ⟨v,w',c1,c2,c3,c4⟩:=hR l l' s o hll (by rw [hsi];exact ho) (by rw [hsi];exact hraw) (fun j=>listed.getD j false) (fun j=>(listed.setIfInBounds i true).getD j false) S1 F1 w1 _ E1 a1 hA0 hrdy hB (fun j hj=>getD_set_ne false fun e=>hj (by rw [hsi,e])) hr ha hus hA
     simp only [hwant g1,if_true]
     refine .inl (c1 _ ?_)
     have p2':subH (fun j=>(listed.setIfInBounds i true).getD j false) Ls H0=subH (fun i=>listed.getD i false) Ls H0:=p2.trans ha'.2.symm
     refine ih _ (by simpa using hsz) hcl' hcnt (by rw [p2'];exact c3.rel hr) ((c3.at' hr ha).put c2 (fun d hd'=>d1 d (by simpa using hd'))) ?_ (by rw [p2'];exact c4)
     rw [← q2]
     exact (he.put _ _).trans p1
    ·exfalso
     have:s.o.guard=none:=by rw [q4];simp [opOf,hog]
     rw [this] at g1;exact g1
   | false =>
    have hso:=q5 hraw
    have fire:Fires s.o.guard (allE l E0)→(∀ E' H',(∀ t∈usesO s.o,get E' t=get (allE l E0) t)→Agr (s.d.rd++s.d.wr) (allH l H0) H'→∀ {β:Type} (K:PV→Heap→Option β),act O (base+s.d.i) E' H' s.o.act K=K s.v (upd H' s.δ)) →
      o.wp P a1 w1 (wpAny P .any os Q fuel (listed.setIfInBounds i true)) Q:=by
     intro _ hact
     have ha':=hact E1 _ hus e2 (fun v H=>some (v,H))
     rw [show s.o.act=actV P (appUses os o.dst) o by rw [hso];rfl] at ha'
     refine wp_of_runs (actV_ok hO hr ha.opd o _ ha') fun v w' hv=>?_
     obtain ⟨pv,H',S',F',hK,hr',hv',hA'⟩:=hv
     cases hK
     refine ih _ (by simpa using hsz) hcl' hcnt (by rw [p2];exact hr') ((ha.adv hr hA').put hv' d1) ?_ (by rw [p2];exact hJmono hraw hA')
     have hdst:s.o.dst=o.dst:=by rw [hso];rfl
     rw [← hdst]
     exact (he.put _ _).trans p1
    rcases hrun.run with ⟨g1,g2⟩|⟨g1,g2,g3⟩
    ·simp only [hwant g1,if_true]
     exact .inl (fire g1 g2)
    ·cases hg:o.guard with
     | none =>
      have:s.o.guard=none:=by rw [hso];simp [opOf,hg]
      rw [this] at g1;exact absurd g1 (fun h=>h)
     | some g =>
      obtain ⟨j,b⟩:=g
      obtain ⟨t,hgo,ht⟩:=d2 j b hg
      rw [hso,hgo] at g1
      have hu:=hus t (by rw [hso];simp [usesO,hgo])
      have hw:=ha.wantNo hg (g1.imp hu.trans hu.trans) ht
      simp only [hw,Bool.false_eq_true,if_false]
      rw [g3] at p2
      rw [g2] at p1
      have p2':subH (fun j=>(listed.setIfInBounds i true).getD j false) Ls H0=subH (fun i=>listed.getD i false) Ls H0:=p2
      have hdst:s.o.dst=o.dst:=by rw [hso];rfl
      refine ih _ (by simpa using hsz) hcl' hcnt (by rw [p2'];exact hr) (ha.skip d1) ?_ (by rw [p2'];exact hJmono hraw (Adv.refl _ _ _ _))
      rw [← hdst]
      exact (he.put _ _).trans p1
end
end Go.Proofs.YtdcphpbimeoioaaGreatDoorE
end
section
set_option linter.unusedSectionVars false
namespace Go.Proofs.YtdcphpbimeoioaaGreatDoorE
open Go Go.RowKit Go.Shelf
set_option linter.unusedVariables false
set_option linter.unusedSimpArgs false
structure Sta (n:Nat) (ts:List Nat) (sg:List Sg) (us:List (Nat×Value)) (S:Nat→SL) (F:Nat→Prop) (w:World) (a:Act) (s:SgEl sg):Prop where
 rel:Rel S F w (heapOf sg s)
 outs:Outs S F w ts (argsOf sg s 0) a.eval
 raw:∀ u∈us,a.eval (.tmp u.1)=u.2
 size:a.tmps.size=n
 defers:a.defers=[]
structure Pce where
 ap:List Nat:=[]
 ts1:List Nat
 sg1:List Sg
 e:Ex
 ts2:List Nat
 sg2:List Sg
def exNo:Ex→Nat
 | .exit i=>i
 | _=>1000000
def sameEx:Ex→Ex→Bool
 | .ret, .ret=>true
 | .exit i, .exit j=>Nat.beq i j
 | _,_=>false
def envOf (ts:List Nat) (sg:List Sg) (us:List (Nat×Value)) (s:SgEl sg):Env:=us.map (fun u=>(u.1, .raw u.2))++ts.zip (argsOf sg s 0)
def walkC (P:Program) (T:List Ent) (f:FuncId) (c:Code) (ts:List Nat) (sg:List Sg) (us:List (Nat×Value)) (p:Pce) (s:SgEl sg):Option ((SgEl p.sg1 ⊕ SgEl p.sg2)×List PV) :=
 code (specO T []) f 0 (ann (rawOf P c 0).1 [(exNo p.e,p.ts2++us.map (·.1))] (p.ts1++us.map (·.1))).1 (envOf ts sg us s) (heapOf sg s) fun x E H=>match x with
  | .normal=>enter 0 p.ts1 p.ap [] false E H fun vs H=>(decIn p.sg1 vs H).map fun a=>(.inl a,us.map fun u=>get E u.1)
  | x=>cond (sameEx x p.e) (enter 0 p.ts2 p.ap [] false E H fun vs H=>(decIn p.sg2 vs H).map fun a=>(.inr a,us.map fun u=>get E u.1)) none
section
variable {P:Program} {S S0:Nat→SL} {F F0:Nat→Prop} {w w0:World} {H0:Heap} {a:Act} {n:Nat} {Q:Exit→Act→World→Prop}
theorem get_raws {us:List (Nat×Value)} {E:Env} {t:Nat}:(∃ v,(t,v)∈us∧get (us.map (fun u=>(u.1,PV.raw u.2))++E) t = .raw v)∨get (us.map (fun u=>(u.1,PV.raw u.2))++E) t=get E t:=by
 induction us with
 | nil=>exact .inr rfl
 | cons u us ih =>
  rw [List.map_cons,List.cons_append,get_cons]
  by_cases h:u.1=t
  ·rw [if_pos h];exact .inl ⟨u.2,by rw [← h];exact List.mem_cons_self,rfl⟩
  ·rw [if_neg h]
   rcases ih with ⟨v,h1,h2⟩|h1
   ·exact .inl ⟨v,List.mem_cons_of_mem _ h1,h2⟩
   ·exact .inr h1
theorem Sta.at' {ts:List Nat} {sg:List Sg} {us:List (Nat×Value)} {s:SgEl sg} (h:Sta n ts sg us S F w a s):At S F w (envOf ts sg us s) a n:=by
 have h0:=h.outs.at h.size h.defers
 refine ⟨⟨fun k=>?_,h0.opd.const,h0.opd.func⟩,h.size,h.defers⟩
 unfold envOf
 rcases get_raws (us:=us) (E:=ts.zip (argsOf sg s 0)) (t:=k) with ⟨v,h1,h2⟩|h1
 ·rw [h2,h.raw _ h1];exact .raw _
 ·rw [h1];exact h0.opd.tmp k
theorem val_raw {v x:Value} (h:Val S F w (.raw v) x):x=v:=by cases h;rfl
theorem raws_of {us:List (Nat×Value)} {E:Env} (ha:At S F w E a n) (h:(us.map fun u=>get E u.1)=us.map fun u=>PV.raw u.2):∀ u∈us,a.eval (.tmp u.1)=u.2:=by
 intro u hu
 have:get E u.1 = .raw u.2:=by
  obtain ⟨i,hi⟩:=List.getElem?_of_mem hu
  have:=congrArg (fun l=>l[i]?) h
  simp only [List.getElem?_map,hi,Option.map_some,Option.some.injEq] at this
  exact this
 have hv:=ha.opd.tmp u.1
 rw [this] at hv
 exact val_raw hv
theorem piece_ok (hM:P.follows .mixedOrders=true) {T:List Ent} (hT:TabF P T) {f:FuncId} {c:Code} (hd:(opsIn (rawOf P c 0).1).all (dstIn n)=true) {ts:List Nat} {sg:List Sg} {us:List (Nat×Value)} {p:Pce} (hs:subs (ann (rawOf P c 0).1 [(exNo p.e,p.ts2++us.map (·.1))] (p.ts1++us.map (·.1))).1=[])
  {s:SgEl sg} {y:SgEl p.sg1 ⊕ SgEl p.sg2} (hst:Sta n ts sg us S F w a s) (h:walkC P T f c ts sg us p s=some (y,us.map fun u => .raw u.2))
  (k:∀ S' F' w' a',AdvM 0 S F w (heapOf sg s) S' F' w' (match y with|.inl s1=>heapOf p.sg1 s1|.inr s2=>heapOf p.sg2 s2) →
   (match y with|.inl s1=>Sta n p.ts1 p.sg1 us S' F' w' a' s1→Q .normal a' w'|.inr s2=>Sta n p.ts2 p.sg2 us S' F' w' a' s2→Q (exOf p.e) a' w')):c.wp P Q a w:=by
 have hO:=orc_table hT []
 have hm:Mt P n c (ann (rawOf P c 0).1 [(exNo p.e,p.ts2++us.map (·.1))] (p.ts1++us.map (·.1))).1:=mt_raw c 0 _ _ hd
 unfold walkC at h
 refine code_ok (l:=[]) hO (drawn_ok hM hO) (fun i lv lx ap fz nb pc c hx=>by cases hx) hm (by rw [hs];exact fun x hx=>hx) hst.rel hst.at' h fun x E1 H1 S1 F1 w1 a1 hK hr1 ha1 hA=>?_
 have dec:∀ {sgo:List Sg} {tso:List Nat} {g:SgEl sgo→SgEl p.sg1 ⊕ SgEl p.sg2},(enter 0 tso p.ap [] false E1 H1 fun vs H=>(decIn sgo vs H).map fun a=>(g a,us.map fun u=>get E1 u.1))=some (y,us.map fun u => .raw u.2) →
   ∃ s1 S' F',y=g s1∧Sta n tso sgo us S' F' w1 a1 s1∧AdvM 0 S F w (heapOf sg s) S' F' w1 (heapOf sgo s1):=by
  intro sgo tso g hK
  obtain ⟨vs',H',S',F',g1,g2,g3,g4⟩:=enter_ok (m:=0) hr1 ha1.opd.tmp hK
  cases hdc:decIn sgo vs' H' with
  | none=>rw [hdc] at g1;cases g1
  | some s1 =>
   rw [hdc] at g1
   simp only [Option.map_some,Option.some.injEq,Prod.mk.injEq] at g1
   obtain ⟨e1,e2⟩:=decIn_some hdc
   subst e1;subst e2
   exact ⟨s1,S',F',g1.1.symm,⟨g2,g4,raws_of ha1 g1.2,ha1.size,ha1.defers⟩,hA.trans g3⟩
 cases x with
 | normal =>
  obtain ⟨s1,S',F',rfl,h1,h2⟩:=dec hK
  exact k S' F' w1 a1 h2 h1
 | ret =>
  obtain ⟨h0,hK⟩:=cond_some hK
  obtain ⟨s1,S',F',rfl,h1,h2⟩:=dec hK
  have e:p.e = .ret:=by
   cases hp:p.e<;>rw [hp] at h0<;>first|rfl|cases h0
  have:=k S' F' w1 a1 h2 h1
  rw [e] at this;exact this
 | exit i =>
  obtain ⟨h0,hK⟩:=cond_some hK
  obtain ⟨s1,S',F',rfl,h1,h2⟩:=dec hK
  have e:p.e = .exit i:=by
   cases hp:p.e with
   | exit j=>rw [hp] at h0;rw [Nat.eq_of_beq_eq_true h0]
   | ret=>rw [hp] at h0;cases h0
   | normal=>rw [hp] at h0;cases h0
  have:=k S' F' w1 a1 h2 h1
  rw [e] at this;exact this
end
end Go.Proofs.YtdcphpbimeoioaaGreatDoorE
end
section
set_option linter.unusedSectionVars false
namespace Go.Proofs.YtdcphpbimeoioaaGreatDoorE
open Go Go.RowKit Go.Shelf Go.Proofs
set_option linter.unusedVariables false
set_option linter.unusedSimpArgs false
set_option maxRecDepth 100000
namespace RA
def cL:Code→Code|.seq a _=>a|_ => .skip
def cR:Code→Code|.seq _ b=>b|_ => .skip
def cB:Code→Code|.block _ c=>c|.loop c=>c|_ => .skip
def cOps:Code→Array Oper|.region _ os _=>os|_=>#[]
noncomputable def body:Code:=match Tryz.f59.body with|some c=>c|none => .skip
abbrev fA:FuncId:=59
noncomputable def R0:Code:=cL body
noncomputable def T1:Code:=cR body
noncomputable def X1:Code:=cL T1
noncomputable def T3:Code:=cR T1
noncomputable def R3:Code:=cL T3
noncomputable def T4:Code:=cR T3
noncomputable def R4:Code:=cL T4
noncomputable def T5:Code:=cR T4
noncomputable def R5:Code:=cL T5
noncomputable def T6:Code:=cR T5
noncomputable def L0:Code:=cL T6
noncomputable def T14:Code:=cR T6
noncomputable def L1:Code:=cL T14
noncomputable def T18:Code:=cR T14
noncomputable def R6:Code:=cL L0
noncomputable def B0:Code:=cB (cB (cR L0))
noncomputable def R7:Code:=cL B0
noncomputable def K7:Code:=cL (cR B0)
noncomputable def B1:Code:=cB (cL (cR (cR B0)))
noncomputable def R13:Code:=cR (cR (cR B0))
noncomputable def R8:Code:=cL B1
noncomputable def R9:Code:=cL (cR B1)
noncomputable def X2:Code:=cL (cR (cR B1))
noncomputable def R11:Code:=cL (cR (cR (cR B1)))
noncomputable def R12:Code:=cR (cR (cR (cR B1)))
noncomputable def R14:Code:=cL L1
noncomputable def B2:Code:=cB (cB (cR L1))
noncomputable def R15:Code:=cL B2
noncomputable def K15:Code:=cL (cR B2)
noncomputable def B3:Code:=cB (cR (cR B2))
noncomputable def R16:Code:=cL B3
noncomputable def R17:Code:=cR B3
noncomputable def R18:Code:=cL T18
noncomputable def T19:Code:=cR T18
abbrev sg1:List Sg:=[.boxr tQuery, .tree (.slice tItem), .own tRow]
def pA (n:Nat) (s:SgEl [.tree tQuery, .tree (.slice tItem)]):Option ((SgEl sg1 ⊕ SgEl [.own tRow])×List PV) :=
 bindN (query_Right n (s.1,())) fun p1 =>
 bif !p1.1.1 then some (.inr ([],()),[]) else some (.inl (s.1,s.2.1,[],()),[])
theorem pA_ok (n:Nat) (s):walkC Tryz.prog [query_Right_ent n] fA (.seq R0 X1) [0,1] [.tree tQuery, .tree (.slice tItem)] [] ⟨[4],[2,1,4],sg1, .ret,[4],[.own tRow]⟩ s=pA n s:=by kernel_rfl
abbrev sg2:List Sg:=[.boxr tQuery, .own tRow, .own tItem]
def pB (n:Nat) (s:SgEl sg1):Option ((SgEl sg2 ⊕ SgEl [])×List PV) :=
 bindN (sl_CloneItem n (s.2.1,())) fun p1 =>
 bindN (sl_StableItem n (p1.1.1,(),())) fun p2 =>
 some (.inl (s.1,s.2.2.1,p2.2.1,()),[])
theorem pB_ok (n:Nat) (s):walkC Tryz.prog [sl_CloneItem_ent n,sl_StableItem_ent n] fA (.seq R3 R4) [2,1,4] sg1 [] ⟨[],[2,4,5],sg2, .ret,[],[]⟩ s=pB n s:=by kernel_rfl
abbrev sg3:List Sg:=[.boxr tQuery, .own tRow, .own tItem, .tree (.int .i64), .tree (.int .i64)]
theorem pC_ok (v:Value) (s:SgEl sg2):walkC Tryz.prog [] fA R6 [2,4,5] sg2 [(6,v)] ⟨[],[2,4,22,23,24],sg3, .ret,[],[]⟩ s=some (.inl (s.1,s.2.1,s.2.2.1,ilen s.2.2.1,(0:Int),()),[.raw v]):=by kernel_rfl
abbrev sgE:List Sg:=[.boxr tQuery, .own tRow]
theorem pD_ok (v:Value) (s:SgEl sg3):walkC Tryz.prog [] fA (.seq R7 K7) [2,4,22,23,24] sg3 [(6,v)] ⟨[],[2,4,22,23,24],sg3, .exit 0,[2,4],sgE⟩ s =
  (bif ilt s.2.2.2.2.1 s.2.2.2.1 then some (.inl s,[.raw v]) else some (.inr (s.1,s.2.1,()),[.raw v])):=by kernel_rfl
abbrev sg4:List Sg:=[.boxr tQuery, .own tRow, .own tItem, .tree (.int .i64), .tree (.int .i64), .boxr tItem, .boxr tRow_place]
def pE (n:Nat) (v:Value) (s:SgEl sg3):Option ((SgEl sg4 ⊕ SgEl sg3)×List PV) :=
 bif ile (0:Int) s.2.2.2.2.1 then
 bindN (lat s.2.2.1 (iN s.2.2.2.2.1)) fun v0 =>
 bindN (lat s.2.2.1 (iN s.2.2.2.2.1)) fun v1 =>
 bindN (row_series n (v1.2.1,())) fun p2 =>
 bif !p2.1.2.1 then some (.inr s,[.raw v]) else
 bindN (cell_Empty n v1.2.2) fun p3 =>
 bif p3.1.1 then some (.inr s,[.raw v]) else
 bindN (query_Fits n (s.1,p2.1.1,())) fun p4 =>
 bif !p4.1.1 then some (.inr s,[.raw v]) else
 bindN (query_Group n (s.1,p2.1.1,())) fun p5 =>
 some (.inl (s.1,s.2.1,s.2.2.1,s.2.2.2.1,s.2.2.2.2.1,v1,(v1.1,p5.1.1,()),()),[.raw v])
 else none
theorem pE_ok (n:Nat) (v:Value) (s:SgEl sg3):walkC Tryz.prog [row_series_ent n,cell_Empty_ent n,query_Fits_ent n,query_Group_ent n] fA (.seq R8 (.seq R9 (.seq X2 R11))) [2,4,22,23,24] sg3 [(6,v)] ⟨[],[2,4,22,23,24,8,11],sg4, .exit 1,[2,4,22,23,24],sg3⟩ s=pE n v s:=by kernel_rfl
theorem pF'_ok (v:Value) (s:SgEl sg3):walkC Tryz.prog [] fA R13 [2,4,22,23,24] sg3 [(6,v)] ⟨[],[2,4,22,23,24],sg3, .ret,[],[]⟩ s=some (.inl (s.1,s.2.1,s.2.2.1,s.2.2.2.1,iadd .i64 s.2.2.2.2.1 (1:Int),()),[.raw v]):=by kernel_rfl
abbrev sg5:List Sg:=[.boxr tQuery, .own tRow, .boxr tRow_place, .boxr tCell]
def pH (n:Nat) (v:Value) (s:SgEl sg5):Option ((SgEl sgE ⊕ SgEl [])×List PV) :=
 bindN (cell_Value n (s.2.2.2.1,s.1.1,())) fun p1 =>
 bif roomA s.2.1 [(s.2.2.1.1,s.2.2.1.2.1,p1.1)] 40 then some (.inl (s.1,app s.2.1 [(s.2.2.1.1,s.2.2.1.2.1,p1.1)],()),[.raw v]) else none
theorem pH_ok (n:Nat) (v:Value) (s:SgEl sg5):walkC Tryz.prog [cell_Value_ent n] fA R17 [2,4,12,13] sg5 [(64,v)] ⟨[4],[2,4],sgE, .ret,[],[]⟩ s=pH n v s:=by kernel_rfl
def pI (n:Nat) (s:SgEl sgE):Option ((SgEl [] ⊕ SgEl [.own tRow])×List PV) :=
 bindN (sl_SortRow n (s.2.1,(),())) fun p1=>some (.inr (p1.2.1,()),[])
theorem pI_ok (n:Nat) (s:SgEl sgE):walkC Tryz.prog [sl_SortRow_ent n] fA (.seq R18 T19) [2,4] sgE [] ⟨[],[],[], .ret,[4],[.own tRow]⟩ s=pI n s:=by kernel_rfl
end RA
end Go.Proofs.YtdcphpbimeoioaaGreatDoorE
end
section
set_option linter.unusedSectionVars false
namespace Go.Proofs.YtdcphpbimeoioaaGreatDoorE
open Go Go.RowKit Go.Shelf
open Go.ChangeMaps (setBlock)
set_option linter.unusedVariables false
set_option linter.unusedSimpArgs false
section
variable {P:Program} {S S' S0:Nat→SL} {F F' F0:Nat→Prop} {w w' w0:World} {H H' H0:Heap} {E E':Env} {O:Orc} {a:Act} {n:Nat} {Q:Exit→Act→World→Prop} {ts:List Nat} {sg:List Sg} {us:List (Nat×Value)} {s:SgEl sg} {bs:List Nat} {J J':World→Prop}
theorem Sta.off (h:Sta n ts sg us S F w a s) (hO:Off S F w (heapOf sg s) w'):Sta n ts sg us S F w' a s :=
 ⟨hO.rel h.rel,fun j t p h1 h2=>hO.val h.rel (h.outs j t p h1 h2),h.raw,h.size,h.defers⟩
theorem Sta.put (h:Sta n ts sg us S F w a s) {t:Nat} (v:Value) (h1:¬ t∈ts) (h2:¬ t∈us.map (·.1)):Sta n ts sg us S F w (a.put (some t) v) s:=by
 refine ⟨h.rel,fun j k p g1 g2=>?_,fun u hu=>?_,by simp [Act.put,h.size],h.defers⟩
 ·rw [Act.eval_put (fun d' hd' e'=>by cases hd';cases e';exact h1 (List.mem_of_getElem? g1))]
  exact h.outs j k p g1 g2
 ·rw [Act.eval_put (fun d' hd' e'=>by cases hd';cases e';exact h2 (List.mem_map.2 ⟨u,hu,rfl⟩))]
  exact h.raw u hu
theorem eval_put_same {t:Nat} (ht:t<a.tmps.size) (v:Value):(a.put (some t) v).eval (.tmp t)=v:=by simp [Act.eval,Act.put,ht]
theorem Sta.putu (h:Sta n ts sg us S F w a s) {t:Nat} (v:Value) (h1:¬ t∈ts) (h2:¬ t∈us.map (·.1)) (ht:t<n):Sta n ts sg (us++[(t,v)]) S F w (a.put (some t) v) s:=by
 have g:=h.put v h1 h2
 refine ⟨g.rel,g.outs,fun u hu=>?_,g.size,g.defers⟩
 rcases List.mem_append.1 hu with hu|hu
 ·exact g.raw u hu
 ·simp only [List.mem_singleton] at hu
  subst hu
  exact eval_put_same (by rw [h.size];exact ht) v
theorem Sta.less {us':List (Nat×Value)} (h:Sta n ts sg us S F w a s) (hu:∀ u∈us',u∈us):Sta n ts sg us' S F w a s:=⟨h.rel,h.outs,fun u hu'=>h.raw u (hu u hu'),h.size,h.defers⟩
structure Mid (n:Nat) (S0:Nat→SL) (F0:Nat→Prop) (w0:World) (H0:Heap) (ts:List Nat) (sg:List Sg) (us:List (Nat×Value)) (bs:List Nat) (J:World→Prop) (S:Nat→SL) (F:Nat→Prop) (w:World) (a:Act) (s:SgEl sg):Prop where
 sta:Sta n ts sg us S F w a s
 frn:∀ b∈bs,Frn S F w (heapOf sg s) b∧w0.heap.size≤b
 adv:AdvM 0 S0 F0 w0 H0 S F w (heapOf sg s)
 keep:J w
def JOk (bs:List Nat) (J:World→Prop):Prop:=∀ w w':World,(∀ b∈bs,w'.heap[b]?=w.heap[b]?)→J w→J w'
theorem sta_of {ap:List Nat} {s1:SgEl sg} (hr:Rel S F w H) (ha:At S F w E a n) (h:(enter 0 ts ap [] false E H fun vs H=>(decIn sg vs H).map fun x=>(x,us.map fun u=>get E u.1))=some (s1,us.map fun u => .raw u.2)) :
  ∃ S' F',Sta n ts sg us S' F' w a s1∧AdvM 0 S F w H S' F' w (heapOf sg s1):=by
 obtain ⟨vs',H',S',F',g1,g2,g3,g4⟩:=enter_ok (m:=0) hr ha.opd.tmp h
 cases hdc:decIn sg vs' H' with
 | none=>rw [hdc] at g1;cases g1
 | some s2 =>
  rw [hdc] at g1
  simp only [Option.map_some,Option.some.injEq,Prod.mk.injEq] at g1
  obtain ⟨e1,e2⟩:=decIn_some hdc
  subst e1;subst e2
  obtain ⟨g11,g12⟩:=g1
  subst g11
  exact ⟨S',F',⟨g2,g4,raws_of ha g12,ha.size,ha.defers⟩,g3⟩
theorem Mid.to {ts1:List Nat} {sg1:List Sg} {us1:List (Nat×Value)} {s1:SgEl sg1} {a':Act} (hJ:JOk bs J) (h:Mid n S0 F0 w0 H0 ts sg us bs J S F w a s) (hA:AdvM 0 S F w (heapOf sg s) S' F' w' (heapOf sg1 s1)) (hs:Sta n ts1 sg1 us1 S' F' w' a' s1):Mid n S0 F0 w0 H0 ts1 sg1 us1 bs J S' F' w' a' s1 :=
 ⟨hs,fun b hb=>⟨(h.frn b hb).1.adv hA,(h.frn b hb).2⟩,h.adv.trans hA,hJ w w' (fun b hb=>(h.frn b hb).1.same hA) h.keep⟩
theorem Mid.piece (hM:P.follows .mixedOrders=true) {T:List Ent} (hT:TabF P T) {f:FuncId} {c:Code} (hd:(opsIn (rawOf P c 0).1).all (dstIn n)=true) {p:Pce} (hs:subs (ann (rawOf P c 0).1 [(exNo p.e,p.ts2++us.map (·.1))] (p.ts1++us.map (·.1))).1=[])
  (hJ:JOk bs J) {y:SgEl p.sg1 ⊕ SgEl p.sg2} (h:Mid n S0 F0 w0 H0 ts sg us bs J S F w a s) (hw:walkC P T f c ts sg us p s=some (y,us.map fun u => .raw u.2))
  (k:∀ S' F' w' a',(match y with|.inl s1=>Mid n S0 F0 w0 H0 p.ts1 p.sg1 us bs J S' F' w' a' s1→Q .normal a' w'|.inr s2=>Mid n S0 F0 w0 H0 p.ts2 p.sg2 us bs J S' F' w' a' s2→Q (exOf p.e) a' w')):c.wp P Q a w:=by
 refine piece_ok hM hT hd hs h.sta hw fun S' F' w' a' hA=>?_
 have k:=k S' F' w' a'
 cases y with
 | inl s1=>exact fun hs=>k (h.to hJ hA hs)
 | inr s2=>exact fun hs=>k (h.to hJ hA hs)
def capp:Nat→Code→Code→Code
 | k+1, .seq a b,z => .seq a (capp k b z)
 | _,c,z => .seq c z
theorem code_ok_app {β:Type} {f:FuncId} {l:List PCode} {m:Nat} (hO:OrcOk P O) (hD:DrawnOk P O) (hL:LoopsOk P n m O f l) {z:Code}:∀ (d:Nat) {c:Code} {pc:PCode} (hm:Mt P n c pc) {S:Nat→SL} {F:Nat→Prop} {w:World} {H:Heap} {E:Env} {a:Act} {r:β} {K:Ex→Env→Heap→Option β} {Q:Exit→Act→World→Prop},
  (∀ x∈subs pc,x∈l)→Rel S F w H→At S F w E a n→code O f m pc E H K=some r→Goes n m S F w H K r (Exit.then (z.wp P Q) Q)→(capp d c z).wp P Q a w
 | 0,c,pc,hm,S,F,w,H,E,a,r,K,Q,hs,hr,ha,h,hQ=>by
  rw [show capp 0 c z = .seq c z by cases c<;>rfl]
  exact wp_seq (code_ok hO hD hL hm hs hr ha h hQ)
 | d+1,c,pc,hm,S,F,w,H,E,a,r,K,Q,hs,hr,ha,h,hQ=>by
  cases hm with
  | seq h1 h2 =>
   rw [capp]
   simp only [code] at h
   refine wp_seq (code_ok hO hD hL h1 (fun x hx=>hs x (List.mem_append_left _ hx)) hr ha h fun x E1 H1 S1 F1 w1 a1 hK hr1 ha1 hA=>?_)
   cases x with
   | normal=>exact code_ok_app hO hD hL d h2 (fun x hx=>hs x (List.mem_append_right _ hx)) hr1 ha1 hK fun x E2 H2 S2 F2 w2 a2 k1 k2 k3 k4=>hQ _ _ _ _ _ _ _ k1 k2 k3 (hA.trans k4)
   | exit id=>exact hQ (.exit id) _ _ _ _ _ _ hK hr1 ha1 hA
   | ret=>exact hQ .ret _ _ _ _ _ _ hK hr1 ha1 hA
  | bad c=>cases h
  | skip=>exact wp_seq (code_ok hO hD hL .skip hs hr ha h hQ)
  | ret=>exact wp_seq (code_ok hO hD hL .ret hs hr ha h hQ)
  | exit id=>exact wp_seq (code_ok hO hD hL (.exit id) hs hr ha h hQ)
  | region id os d out hd=>exact wp_seq (code_ok hO hD hL (.region id os d out hd) hs hr ha h hQ)
  | cond c h1 h2=>exact wp_seq (code_ok hO hD hL (.cond c h1 h2) hs hr ha h hQ)
  | block id h1=>exact wp_seq (code_ok hO hD hL (.block id h1) hs hr ha h hQ)
  | loop i lv lx ap fz nb h1=>exact wp_seq (code_ok hO hD hL (.loop i lv lx ap fz nb h1) hs hr ha h hQ)
theorem Mid.front (d:Nat) (hM:P.follows .mixedOrders=true) {T:List Ent} (hT:TabF P T) {f:FuncId} {c z:Code} (hd:(opsIn (rawOf P c 0).1).all (dstIn n)=true) {p:Pce} (hs:subs (ann (rawOf P c 0).1 [(exNo p.e,p.ts2++us.map (·.1))] (p.ts1++us.map (·.1))).1=[])
  (hJ:JOk bs J) {y:SgEl p.sg1 ⊕ SgEl p.sg2} (h:Mid n S0 F0 w0 H0 ts sg us bs J S F w a s) (hw:walkC P T f c ts sg us p s=some (y,us.map fun u => .raw u.2))
  (k:∀ S' F' w' a',(match y with|.inl s1=>Mid n S0 F0 w0 H0 p.ts1 p.sg1 us bs J S' F' w' a' s1→z.wp P Q a' w'|.inr s2=>Mid n S0 F0 w0 H0 p.ts2 p.sg2 us bs J S' F' w' a' s2→Exit.then (z.wp P Q) Q (exOf p.e) a' w')):(capp d c z).wp P Q a w:=by
 have hO:=orc_table hT []
 have hm:Mt P n c (ann (rawOf P c 0).1 [(exNo p.e,p.ts2++us.map (·.1))] (p.ts1++us.map (·.1))).1:=mt_raw c 0 _ _ hd
 unfold walkC at hw
 refine code_ok_app (l:=[]) hO (drawn_ok hM hO) (fun i lv lx ap fz nb pc c hx=>by cases hx) d hm (by rw [hs];exact fun x hx=>hx) h.sta.rel h.sta.at' hw fun x E1 H1 S1 F1 w1 a1 hK hr1 ha1 hA=>?_
 have dec:∀ {sgo:List Sg} {tso:List Nat} {g:SgEl sgo→SgEl p.sg1 ⊕ SgEl p.sg2},(enter 0 tso p.ap [] false E1 H1 fun vs H=>(decIn sgo vs H).map fun a=>(g a,us.map fun u=>get E1 u.1))=some (y,us.map fun u => .raw u.2) →
   ∃ s1 S' F',y=g s1∧Sta n tso sgo us S' F' w1 a1 s1∧AdvM 0 S F w (heapOf sg s) S' F' w1 (heapOf sgo s1):=by
  intro sgo tso g hK
  obtain ⟨vs',H',S',F',g1,g2,g3,g4⟩:=enter_ok (m:=0) hr1 ha1.opd.tmp hK
  cases hdc:decIn sgo vs' H' with
  | none=>rw [hdc] at g1;cases g1
  | some s1 =>
   rw [hdc] at g1
   simp only [Option.map_some,Option.some.injEq,Prod.mk.injEq] at g1
   obtain ⟨e1,e2⟩:=decIn_some hdc
   subst e1;subst e2
   exact ⟨s1,S',F',g1.1.symm,⟨g2,g4,raws_of ha1 g1.2,ha1.size,ha1.defers⟩,hA.trans g3⟩
 cases x with
 | normal =>
  obtain ⟨s1,S',F',rfl,h1,h2⟩:=dec hK
  exact k S' F' w1 a1 (h.to hJ h2 h1)
 | ret =>
  obtain ⟨h0,hK⟩:=cond_some hK
  obtain ⟨s1,S',F',rfl,h1,h2⟩:=dec hK
  have e:p.e = .ret:=by
   cases hp:p.e<;>rw [hp] at h0<;>first|rfl|cases h0
  have:=k S' F' w1 a1 (h.to hJ h2 h1)
  rw [e] at this;exact this
 | exit i =>
  obtain ⟨h0,hK⟩:=cond_some hK
  obtain ⟨s1,S',F',rfl,h1,h2⟩:=dec hK
  have e:p.e = .exit i:=by
   cases hp:p.e with
   | exit j=>rw [hp] at h0;rw [Nat.eq_of_beq_eq_true h0]
   | ret=>rw [hp] at h0;cases h0
   | normal=>rw [hp] at h0;cases h0
  have:=k S' F' w1 a1 (h.to hJ h2 h1)
  rw [e] at this;exact this
theorem Mid.set (h:Mid n S0 F0 w0 H0 ts sg us bs J S F w a s) {b:Nat} (hb:b∈bs) (o:Obj) (hk:J' (setBlock w b o)):Mid n S0 F0 w0 H0 ts sg us bs J' S F (setBlock w b o) a s:=by
 have hO:=off_set (h.frn b hb).1 o
 refine ⟨h.sta.off hO,fun c hc=>⟨(h.frn c hc).1.grow hO.sz,(h.frn c hc).2⟩,hO.adv h.adv fun k hk=>?_,hk⟩
 have:b≠k:=by have:=(h.frn b hb).2;omega
 simp [setBlock,Array.getElem?_setIfInBounds,this]
theorem Mid.drew (h:Mid n S0 F0 w0 H0 ts sg us bs J S F w a s) (hk:J' w.drew):Mid n S0 F0 w0 H0 ts sg us bs J' S F w.drew a s :=
 ⟨h.sta.off (off_drew w),fun c hc=>⟨(h.frn c hc).1.grow (Nat.le_refl _),(h.frn c hc).2⟩,(off_drew w).adv h.adv fun k hk=>rfl,hk⟩
theorem Mid.alloc (h:Mid n S0 F0 w0 H0 ts sg us bs J S F w a s) (o:Obj) (hk:J' (w.alloc o)):Mid n S0 F0 w0 H0 ts sg us (w.heap.size ::bs) J' S F (w.alloc o) a s:=by
 have hO:=off_alloc (S:=S) (F:=F) (H:=heapOf sg s) w o
 have hsz:w.heap.size<(w.alloc o).heap.size:=by
  have e:(w.alloc o).heap=w.heap.push o:=rfl
  rw [e];simp
 refine ⟨h.sta.off hO,fun c hc=>?_,hO.adv h.adv fun k hk=>(MapKept.heap_alloc w o).2 k (Nat.lt_of_lt_of_le hk h.adv.sz),hk⟩
 rcases List.mem_cons.1 hc with rfl|hc
 ·exact ⟨Frn.new h.sta.rel hsz,h.adv.sz⟩
 ·exact ⟨(h.frn c hc).1.grow hO.sz,(h.frn c hc).2⟩
theorem Mid.more (h:Mid n S0 F0 w0 H0 ts sg us bs J S F w a s) {us':List (Nat×Value)} {a':Act} (hs:Sta n ts sg us' S F w a' s):Mid n S0 F0 w0 H0 ts sg us' bs J S F w a' s:=⟨hs,h.frn,h.adv,h.keep⟩
theorem get_app {xs:List (Nat×PV)} {t:Nat}:(∃ x∈xs,x.1=t∧get (xs++E) t=x.2)∨get (xs++E) t=get E t:=by
 induction xs with
 | nil=>exact .inr rfl
 | cons x xs ih =>
  rw [List.cons_append,get_cons]
  by_cases h:x.1=t
  ·rw [if_pos h];exact .inl ⟨x,List.mem_cons_self,h,rfl⟩
  ·rw [if_neg h]
   rcases ih with ⟨y,h1,h2⟩|h1
   ·exact .inl ⟨y,List.mem_cons_of_mem _ h1,h2⟩
   ·exact .inr h1
theorem At.app (ha:At S F w E a n) {xs:List (Nat×PV)} (hx:∀ x∈xs,Val S F w x.2 (a.eval (.tmp x.1))):At S F w (xs++E) a n:=by
 refine ⟨⟨fun k=>?_,ha.opd.const,ha.opd.func⟩,ha.size,ha.defers⟩
 rcases get_app (E:=E) (xs:=xs) (t:=k) with ⟨x,h1,h2,h3⟩|h1
 ·rw [h3,← h2];exact hx x h1
 ·rw [h1];exact ha.opd.tmp k
theorem Mid.ops {T:List Ent} (hT:TabF P T) {os:Array Oper} {L:List (Nat×POp)} (hL:∀ x∈L,IsOp P os n x) (hJ:JOk bs J) (h:Mid n S0 F0 w0 H0 ts sg us bs J S F w a s) {xs:List (Nat×PV)} (hx:∀ x∈xs,Val S F w x.2 (a.eval (.tmp x.1)))
  {ts1 ap:List Nat} {sg1:List Sg} {s1:SgEl sg1} {base:Nat}
  (hw:(ops (specO T []) base L (xs++envOf ts sg us s) (heapOf sg s) fun E H=>enter 0 ts1 ap [] false E H fun vs H=>(decIn sg1 vs H).map fun x=>(x,us.map fun u=>get E u.1))=some (s1,us.map fun u => .raw u.2))
  (k:∀ S' F' w' a',Mid n S0 F0 w0 H0 ts1 sg1 us bs J S' F' w' a' s1→Q .normal a' w'):wpOps P os Q (L.map (·.1)) a w:=by
 refine ops_ok (orc_table hT []) L hL h.sta.rel (h.sta.at'.app hx) hw fun S' F' w' H' E' a' hK hr ha hA=>?_
 obtain ⟨S2,F2,g1,g2⟩:=sta_of (us:=us) hr ha hK
 exact k _ _ _ _ (h.to hJ (hA.toM.trans g2) g1)
def lk:List (Nat×PAct)→Nat→Option PAct
 | [],_=>none
 | x ::r,i=>bif Nat.beq x.1 i then some x.2 else lk r i
def setRaw (l:List (Nat×PAct)):Nat→List POp→List POp
 | _,[]=>[]
 | i,o ::r=>(match lk l i with|some x=>{ o with act:=x }|none=>o) ::setRaw l (i+1) r
theorem setRaw_len (l:List (Nat×PAct)):∀ (i:Nat) (r:List POp),(setRaw l i r).length=r.length
 | _,[]=>rfl
 | i,_ ::r=>by simp [setRaw,setRaw_len l (i+1) r]
theorem setRaw_get (l:List (Nat×PAct)):∀ (i:Nat) (r:List POp) (j:Nat),(setRaw l i r)[j]?=(r[j]?).map fun o=>match lk l (i+j) with|some x=>{ o with act:=x }|none=>o
 | _,[],j=>by simp [setRaw]
 | i,o ::r,0=>by simp [setRaw]
 | i,o ::r,j+1=>by
  simp only [setRaw,List.getElem?_cons_succ]
  rw [setRaw_get l (i+1) r j,show i+1+j=i+(j+1) by omega]
def noDst (L:List POp) (t:Nat):Bool:=L.all fun o=>match o.dst with|some d => !(Nat.beq d t)|none=>true
theorem number_get:∀ (k:Nat) (l:List POp) (j:Nat),(number k l)[j]?=(l[j]?).map fun o=>(k+j,o)
 | _,[],j=>by simp [number]
 | k,o ::l,0=>by simp [number]
 | k,o ::l,j+1=>by
  simp only [number,List.getElem?_cons_succ]
  rw [number_get (k+1) l j,show k+1+j=k+(j+1) by omega]
theorem steps_place {Ls l l':List Stp} {s:Stp} {L:List POp} (hL:Ls.map (fun s=>(s.d.i,s.o))=number 0 L) (e:Ls=l++s ::l'):l.length=s.d.i∧∀ x∈s ::l',x.o∈L.drop s.d.i:=by
 have h1:∀ j:Nat,(Ls[j]?).map (fun (s:Stp)=>(s.d.i,s.o))=(L[j]?).map fun o=>(j,o):=fun j=>by
  have:=congrArg (fun z=>z[j]?) hL
  simp only [List.getElem?_map,number_get,Nat.zero_add] at this
  exact this
 have h2:l.length=s.d.i:=by
  have:=h1 l.length
  rw [e,List.getElem?_append_right (Nat.le_refl _),Nat.sub_self] at this
  simp only [List.getElem?_cons_zero,Option.map_some] at this
  cases hx:L[l.length]? with
  | none=>rw [hx] at this;cases this
  | some o=>rw [hx] at this;simp only [Option.map_some,Option.some.injEq,Prod.mk.injEq] at this;exact this.1.symm
 refine ⟨h2,fun x hx=>?_⟩
 obtain ⟨j,hj⟩:=List.getElem?_of_mem hx
 have:=h1 (l.length+j)
 rw [e,List.getElem?_append_right (by omega),Nat.add_sub_cancel_left,hj,Option.map_some] at this
 cases hy:L[l.length+j]? with
 | none=>rw [hy] at this;cases this
 | some o =>
  rw [hy] at this
  simp only [Option.map_some,Option.some.injEq,Prod.mk.injEq] at this
  rw [this.2,← h2]
  exact List.mem_of_getElem? (i:=j) (by rw [List.getElem?_drop];exact hy)
theorem allE_app:∀ (l l':List Stp) (E:Env),allE (l++l') E=allE l' (allE l E)
 | [],_,_=>rfl
 | s ::l,l',E=>allE_app l l' _
theorem allE_no {t:Nat}:∀ (l:List Stp) (E:Env),(∀ x∈l,∀ d,x.o.dst=some d→d≠t)→get (allE l E) t=get E t
 | [],_,_=>rfl
 | s ::l,E,h=>by
  show get (allE l _) t=_
  rw [allE_no l _ fun x hx=>h x (List.mem_cons_of_mem _ hx)]
  cases hd:s.o.dst with
  | none=>rfl
  | some d=>simp only [putD,get_cons];rw [if_neg (h s List.mem_cons_self d hd)]
theorem region_raw {β:Type} (hM:P.follows .mixedOrders=true) (hO:OrcOk P O) {id:Nat} {os:Array Oper} {l:List (Nat×PAct)} (hl:∀ i x,lk l i=some x→∃ v us,x = .raw v us) (hg:∀ i o,os[i]?=some o→(lk l i).isSome=true→o.guard=none)
  (hd:(os.toList.map (opOf P os)).all (dstIn n)=true) {J:(Nat→Bool)→(Nat→SL)→(Nat→Prop)→World→Heap→Prop} {base:Nat} {r:β} {K:Env→Heap→Option β}
  (h:opsD O base [] (number 0 (setRaw l 0 (os.toList.map (opOf P os)))) E H K=some r) (hr:Rel S F w H) (ha:At S F w E a n)
  (hJ:∀ (A A':Nat→Bool) {S F w H S' F' w' H'},(∀ i,(lk l i).isSome=true→A' i=A i)→J A S F w H→Adv S F w H S' F' w' H'→J A' S' F' w' H') (hJ0:J (fun _=>false) S F w H)
  (hR:∀ (Ef:Env) (Hf:Heap),K Ef Hf=some r→∀ (i:Nat) (v:PV) (vs:List Arg) (o:Oper),os[i]?=some o→lk l i=some (.raw v vs)→∀ (A B:Nat→Bool) (S1:Nat→SL) (F1:Nat→Prop) (w1:World) (H1:Heap) (E1:Env) (a1:Act),A i=false→(∀ k∈(opOf P os o).after,A k=true)→B i=true→(∀ j,j≠i→B j=A j) →
   Rel S1 F1 w1 H1→At S1 F1 w1 E1 a1 n→(∀ t∈(PAct.raw v vs).uses,noDst ((setRaw l 0 (os.toList.map (opOf P os))).drop i) t=true→get E1 t=get Ef t)→J A S1 F1 w1 H1 →
   ∃ x w',(∀ (K:Act→World→Prop),K (a1.put o.dst x) w'→o.wp P a1 w1 K Q)∧Val S1 F1 w' v x∧Off S1 F1 w1 H1 w'∧J B S1 F1 w' H1)
  (hQ:∀ S' F' w' E' a' H' A,K E' H'=some r→(∀ i,(lk l i).isSome=true→i<os.size→A i=true)→Rel S' F' w' H'→At S' F' w' E' a' n→J A S' F' w' H'→Q .normal a' w'):(Code.region id os true).wp P Q a w:=by
 obtain ⟨Ls,k1,k2,E',k3,k4⟩:=opsD_steps hO _ [] (fun _=>rfl) h
 have eqAt:∀ {S F w E1 E2 a1},EqE E1 E2→At S F w E1 a1 n→At S F w E2 a1 n:=fun he ha=>⟨⟨fun k=>he k ▸ ha.opd.tmp k,ha.opd.const,ha.opd.func⟩,ha.size,ha.defers⟩
 have h0:∀ i,(Array.replicate os.size false).getD i false=false:=fun i=>by
  simp [Array.getD_eq_getD_getElem?,Array.getElem?_replicate]
  split<;>rfl
 refine wp_region_any hM ?_
 have hst:∀ i o,os[i]?=some o→(os.toList.map (opOf P os))[i]?=some (opOf P os o):=fun i o ho=>by
  rw [List.getElem?_map,Array.getElem?_toList,ho];rfl
 have hA:=Adv.heap (w:=w) (w':={ w with drawn:=w.drawn+1 }) rfl ⟨rfl,rfl,rfl,(fun _=>Nat.le_succ _)⟩ S F H
 refine any_raw (J:=J) (raw:=fun i=>(lk l i).isSome) (L:=setRaw l 0 (os.toList.map (opOf P os))) hO k1 (by rw [setRaw_len];simp) (fun i o ho=>?_) hd k2 hJ (fun l1 l2 s o hLs ho hraw A B S1 F1 w1 H1 E1 a1 g1 g2 g3 g4 g5 g6 g7 g8=>?_) (fun S' F' w' E2 a' A e1 e2 e3 e4 e5=>?_) os.size _ (by simp) (fun s _ hb=>?_) ?_ (S1:=S) (F1:=F) (E1:=E) ?_ (ha.adv hr hA) ?_ ?_
 ·have e:=setRaw_get l 0 (os.toList.map (opOf P os)) i
  rw [hst i o ho,Option.map_some,Nat.zero_add] at e
  cases hx:lk l i with
  | none=>rw [hx] at e;exact ⟨_,e,rfl,rfl,rfl,fun _=>rfl,fun h=>by simp at h⟩
  | some x =>
   rw [hx] at e
   exact ⟨_,e,rfl,rfl,rfl,fun h=>by simp at h,fun _=>⟨hg i o ho (by rw [hx];rfl),hl i x hx⟩⟩
 ·have hraw:(lk l s.d.i).isSome=true:=hraw
  obtain ⟨x,hx⟩:=Option.isSome_iff_exists.1 hraw
  obtain ⟨v,vs,rfl⟩:=hl _ _ hx
  obtain ⟨p1,p2⟩:=steps_place k1 hLs
  have e:=setRaw_get l 0 (os.toList.map (opOf P os)) s.d.i
  rw [hst _ o ho,Option.map_some,Nat.zero_add,hx] at e
  have hso:s.o={ opOf P os o with act := .raw v vs }:=by
   have h1:=congrArg (fun z=>z[s.d.i]?) k1
   simp only [List.getElem?_map,number_get,Nat.zero_add,e,Option.map_some] at h1
   rw [hLs,← p1,List.getElem?_append_right (Nat.le_refl _),Nat.sub_self] at h1
   simp only [List.getElem?_cons_zero,Option.map_some,Option.some.injEq,Prod.mk.injEq] at h1
   exact h1.2
  have hgn:=hg _ o ho hraw
  have hsv:s.v=v:=by
   have k2':=k2
   rw [hLs] at k2'
   have hrun:=(steps_at (done:=[]) l1 k2').1.run
   rcases hrun with ⟨_,f2⟩|⟨f1,_⟩
   ·have:=f2 (allE l1 E) (allH l1 H) (fun _ _=>rfl) (fun _ _=>rfl) (fun v H=>some v)
    rw [hso] at this
    exact (Option.some.inj this).symm
   ·rw [hso] at f1
    have:(opOf P os o).guard=none:=by simp [opOf,hgn]
    simp only [this] at f1
    exact f1.elim
  rw [hsv]
  refine hR E' (allH Ls H) k4 s.d.i v vs o ho hx A B S1 F1 w1 H1 E1 a1 g1 (fun k hk=>g2 k (by rw [hso];exact hk)) g3 g4 g5 g6 (fun t ht hn=>?_) g8
  rw [g7 t (by rw [hso];exact List.mem_append_left _ ht),k3 t,hLs,allE_app,allE_no (s ::l2) _ ?_]
  intro y hy d hd' hdt
  subst hdt
  have:=List.all_eq_true.1 hn _ (p2 y hy)
  rw [hd'] at this
  simp [show Nat.beq d d=true from Nat.beq_refl d] at this
 ·exact hQ _ _ _ _ _ _ A k4 e1 e3 (eqAt (fun t=>(e2 t).trans (k3 t).symm) e4) e5
 ·rw [h0] at hb;cases hb
 ·have:=List.count_le_length (a:=false) (l:=(Array.replicate os.size false).toList)
  simp
 ·rw [subH_false (B:=fun i=>(Array.replicate os.size false).getD i false) _ _ fun s _=>h0 _]
  exact Rel.heap (w:=w) rfl hr
 ·rw [subE_false (B:=fun i=>(Array.replicate os.size false).getD i false) _ _ fun s _=>h0 _]
  exact fun _=>rfl
 ·rw [subH_false (B:=fun i=>(Array.replicate os.size false).getD i false) _ _ fun s _=>h0 _]
  exact hJ _ _ (fun i _=>h0 i) hJ0 hA
end
end Go.Proofs.YtdcphpbimeoioaaGreatDoorE
end
section
set_option linter.unusedSectionVars false
namespace Go.Proofs.YtdcphpbimeoioaaGreatDoorE
open Go Go.RowKit Go.Shelf Go.Proofs
set_option linter.unusedVariables false
set_option linter.unusedSimpArgs false
set_option maxRecDepth 100000
abbrev PK:=Int×ByteArray
def eqK (a b:PK):Bool:=decide (a.1=b.1) && decide (a.2=b.2)
theorem eqK_iff {a b:PK}:eqK a b=true↔a=b:=by
 unfold eqK
 rw [Bool.and_eq_true,decide_eq_true_eq,decide_eq_true_eq,Prod.ext_iff]
def ekP (k:PK):Value := .agg (encT tRow_place (k.1,k.2,())).toArray
def evC (c:El tCell):Value := .agg (encT tCell c).toArray
def zCell:El tCell:=(0,(0,false,()),0,0,())
namespace RA
abbrev mt:TypeId:=155
abbrev kt:TypeId:=141
abbrev et:TypeId:=94
theorem zero_run (w:World):(zeroValue et).run Tryz.prog w = .ok (evC zCell) w:=by
 have h:(Tryz.prog.info? et).bind (·.zero)=some (evC zCell):=by kernel_rfl
 cases hi:Tryz.prog.info? et with
 | none=>rw [hi] at h;cases h
 | some i =>
  rw [hi] at h
  simp only [Option.bind_some] at h
  simp [zeroValue,run_typeInfo w hi,h]
noncomputable def fs:Array Field:=match Tryz.prog.underlying kt with|some (.struct fs)=>fs|_=>#[]
theorem und_kt:Tryz.prog.underlying kt=some (.struct fs):=by kernel_rfl
theorem fs_eq:fs.toList.map (fun f=>(f.name,f.type,f.offset))=[("window",2,0),("group",9,1)]:=by kernel_rfl
theorem fs_two:∃ f1 f2,fs.toList=[f1,f2]∧(f1.name ≠ "_"∧f1.type=2∧f1.offset=0)∧(f2.name ≠ "_"∧f2.type=9∧f2.offset=1):=by
 have h:=fs_eq
 generalize fs.toList=l at h
 rcases l with _|⟨f1,_|⟨f2,_|⟨f3,l⟩⟩⟩
 ·cases h
 ·simp at h
 ·simp only [List.map_cons,List.map_nil,List.cons.injEq,Prod.mk.injEq,and_true] at h
  obtain ⟨⟨a1,a2,a3⟩,b1,b2,b3⟩:=h
  exact ⟨f1,f2,rfl,⟨by rw [a1];decide,a2,a3⟩,by rw [b1];decide,b2,b3⟩
 ·simp at h
theorem u2:Tryz.prog.underlying 2=some (.int .i64):=by kernel_rfl
theorem u9:Tryz.prog.underlying 9=some .string:=by kernel_rfl
theorem p2:Tryz.prog.plainKey 2=true:=by kernel_rfl
theorem p9:Tryz.prog.plainKey 9=true:=by kernel_rfl
theorem stood:Tryz.prog.stoodInHeld kt=false:=by kernel_rfl
theorem part1 (w:World) (a b:Value):(Go.part 2 #[a,b] 0).run Tryz.prog w = .ok a w:=run_part_plain w p2 rfl
theorem part2 (w:World) (a b:Value):(Go.part 9 #[a,b] 1).run Tryz.prog w = .ok b w:=run_part_plain w p9 rfl
theorem chk_at (n:Nat) (e:Bool) (a:Int) (b:ByteArray) (w:World):(Instr.checkKey e (n+1+1) kt (.agg #[.int .i64 a, .string b])).run Tryz.prog w = .ok () w:=by
 obtain ⟨f1,f2,hl,⟨a1,a2,a3⟩,b1,b2,b3⟩:=fs_two
 have c1:(Instr.checkKey e (n+1) 2 (.int .i64 a)).run Tryz.prog w = .ok () w:=by simp [Instr.checkKey,run_underlying u2]
 have c2:(Instr.checkKey e (n+1) 9 (.string b)).run Tryz.prog w = .ok () w:=by simp [Instr.checkKey,run_underlying u9]
 rw [Instr.checkKey]
 simp only [Sem.run_bind,run_underlying und_kt,Result.andThen_ok]
 rw [← Array.forIn_toList,hl]
 simp only [List.forIn_cons,List.forIn_nil,Sem.run_bind,a1,a2,a3,b1,b2,b3,ne_eq,not_false_eq_true,if_true,Result.andThen_ok,part1,part2,c1,c2,Sem.run_pure]
theorem chk_run (e:Bool) (k:PK) (w:World):(Instr.checkKey e 10000 kt (ekP k)).run Tryz.prog w = .ok () w:=chk_at 9998 e k.1 k.2 w
theorem str_eqb (a b:ByteArray):(a.toList ==b.toList)=decide (a=b):=by
 rw [Bool.eq_iff_iff,decide_eq_true_eq,ByteArray.toList_eq,ByteArray.toList_eq]
 constructor
 ·intro h
  have h:=eq_of_beq h
  obtain ⟨⟨x⟩⟩:=a
  obtain ⟨⟨y⟩⟩:=b
  simp only at h
  rw [h]
 ·intro h;subst h;exact beq_self_eq_true _
theorem eq_at (n:Nat) (a a':Int) (b b':ByteArray) (w:World):(Op.equalIn (n+1+1) kt (.agg #[.int .i64 a, .string b]) (.agg #[.int .i64 a', .string b'])).run Tryz.prog w = .ok (decide (a=a') && decide (b=b')) w:=by
 obtain ⟨f1,f2,hl,⟨a1,a2,a3⟩,b1,b2,b3⟩:=fs_two
 have hf:Tryz.prog.fieldsOf kt=fs:=by unfold Program.fieldsOf;rw [und_kt]
 rw [run_equalIn_struct w _ _ _ _ (by rw [hf];exact und_kt) stood,hf,hl]
 have c1:=run_equalIn_int (P:=Tryz.prog) w n 2 .i64 .i64 a a' u2
 have c2:=run_equalIn_string (P:=Tryz.prog) w n 9 b b' u9
 have h1:(a ==a')=decide (a=a'):=by rw [Bool.eq_iff_iff,decide_eq_true_eq];exact beq_iff_eq
 rw [str_eqb] at c2
 rw [h1] at c1
 simp only [Op.eqFields,Sem.run_bind,a1,a2,a3,b1,b2,b3,ne_eq,not_false_eq_true,if_true,Result.andThen_ok,part1,part2,c1,Sem.run_ite,c2,Sem.run_pure]
 cases decide (a=a')<;>cases decide (b=b')<;>rfl
theorem eq_run (k k':PK) (w:World):(Op.equal kt (ekP k) (ekP k')).run Tryz.prog w = .ok (eqK k k') w:=eq_at 9998 k.1 k'.1 k.2 k'.2 w
theorem bits_at (n:Nat) (a:Int) (b:ByteArray):Instr.sameBits (n+1) (.agg #[.int .i64 a, .string b]) (.agg #[.int .i64 a, .string b])=true:=by
 have h:(b ==b)=true:=by rw [beq_toListBytes,str_eqb];simp
 simp [Instr.sameBits,h]
theorem mapTy:MapTy Tryz.prog mt kt et ekP evC eqK zCell where
 und:=by kernel_rfl
 kd:=⟨_,und_kt⟩
 chk e k w:=chk_run e k w
 eq k k' w:=eq_run k k' w
 bits k k' h:=by
  rw [eqK_iff] at h
  subst h
  exact bits_at 9999 k.1 k.2
 zero:=zero_run
end RA
end Go.Proofs.YtdcphpbimeoioaaGreatDoorE
end
section
set_option linter.unusedSectionVars false
namespace Go.Proofs.YtdcphpbimeoioaaGreatDoorE
open Go Go.RowKit Go.Shelf Go.Proofs
open Go.ChangeMaps (setBlock)
set_option linter.unusedVariables false
set_option linter.unusedSimpArgs false
set_option maxRecDepth 100000
theorem op_at {os:Array Oper} {i:Nat} {op:Op} {d:Option Nat} (h:(os[i]?).map (fun o=>(o.op,o.guard,o.dst))=some (op,none,d)):∃ o,os[i]?=some o∧o.op=op∧o.guard=none∧o.dst=d:=by
 cases ho:os[i]? with
 | none=>rw [ho] at h;cases h
 | some o =>
  rw [ho] at h
  simp only [Option.map_some,Option.some.injEq,Prod.mk.injEq] at h
  exact ⟨o,rfl,h.1,h.2.1,h.2.2⟩
theorem jmap {b:Nat} {m:List (PK×El tCell)}:JOk [b] (fun w=>HasMap ekP evC w b m):=fun w w' h hm=>hm.same (h b (by simp))
theorem jiter {b r:Nat} {m:List (PK×El tCell)}:JOk [r,b] (fun w=>HasIter ekP evC w b r m):=fun w w' h hm=>hm.same (h b (by simp)) (h r (by simp))
theorem val_agg {S:Nat→SL} {F:Nat→Prop} {w:World} {a b:Ty} (hfl:flatY (.pair a b)=true) {x:El (.pair a b)} {v:Value} (h:Val S F w (valPV (.pair a b) x) v):v = .agg (encT (.pair a b) x).toArray:=by
 cases h with
 | agg cs vs hl hv ho =>
  congr 1
  apply Array.ext_getElem?
  intro i
  cases hp:(cellsOf (.pair a b) x)[i]? with
  | none =>
   have h1:vs[i]?=none:=by rw [Array.getElem?_eq_none_iff,hl];exact List.getElem?_eq_none_iff.1 hp
   rw [h1]
   simp [encT,hp]
  | some p =>
   have hi:i<vs.size:=by rw [hl];exact (List.getElem?_eq_some_iff.1 hp).1
   have h1:=hv i p vs[i] hp (Array.getElem?_eq_getElem hi)
   have h2:=((flat_pv _ hfl x p (List.mem_of_getElem? hp)).2 S F w).2 _ h1
   rw [Array.getElem?_eq_getElem hi,h2]
   simp [encT,hp]
namespace RA
variable {n:Nat} {S S0:Nat→SL} {F F0:Nat→Prop} {w w0:World} {H0:Heap} {a:Act} {Q:Exit→Act→World→Prop} {bs:List Nat} {J:World→Prop}
theorem R5_eq:R5 = .region 5 (cOps R5) false:=by kernel_rfl
theorem R5_range:List.range (cOps R5).size=[0,1]:=by kernel_rfl
theorem r5 (hn:84<n) {s:SgEl sg2} (h:Mid n S0 F0 w0 H0 [2,4,5] sg2 [] [] J S F w a s)
  (k:∀ a',Mid n S0 F0 w0 H0 [2,4,5] sg2 [(6, .map (some w.heap.size))] [w.heap.size] (fun W=>HasMap ekP evC W w.heap.size ([]:List (PK×El tCell))) S F (w.alloc (.map #[] 0)) a' s→Q .normal a' (w.alloc (.map #[] 0))):R5.wp Tryz.prog Q a w:=by
 rw [R5_eq]
 refine wp_region ?_
 rw [R5_range]
 obtain ⟨o0,h0,p0,g0,d0⟩:=op_at (os:=cOps R5) (i:=0) (op := .makeMap mt none) (d:=some 21) (by kernel_rfl)
 obtain ⟨o1,h1,p1,g1,d1⟩:=op_at (os:=cOps R5) (i:=1) (op := .assign (.tmp 21)) (d:=some 6) (by kernel_rfl)
 refine raw_step h0 g0 (v := .map (some w.heap.size)) (w':=w.alloc (.map #[] 0)) (by unfold execOp;rw [p0];simp [Instr.makeMap,Result.andThen]) ?_
 refine raw_step h1 g1 (v := .map (some w.heap.size)) (w':=w.alloc (.map #[] 0)) (by unfold execOp;rw [p1,d0];simp only;rw [eval_put_same (by rw [h.sta.size];omega)];rfl) ?_
 rw [d0,d1]
 refine k _ ?_
 have g:=(h.alloc (.map #[] 0) (J':=fun W=>HasMap ekP evC W w.heap.size ([]:List (PK×El tCell))) (HasMap.made w))
 exact g.more ((g.sta.put _ (by decide) (by decide)).putu (t:=6) _ (by decide) (by decide) (by omega))
noncomputable abbrev nA:Nat:=sizeF Tryz.prog fA
theorem nA_big:84<nA:=by
 have h:Nat.blt 84 nA=true:=by kernel_rfl
 exact Nat.le_of_ble_eq_true h
theorem hM:Tryz.prog.follows .mixedOrders=true:=by kernel_rfl
def raw12 (pv:PV):List (Nat×PAct):=[(4, .raw pv [.t 55, .t 56]),(9, .raw (.tup []) [.t 53, .t 54, .t 61])]
abbrev keyOf4 (s:SgEl sg4):PK:=(s.2.2.2.2.2.2.1.1,s.2.2.2.2.2.2.1.2.1)
abbrev next4 (s:SgEl sg4):SgEl sg3:=(s.1,s.2.1,s.2.2.1,s.2.2.2.1,s.2.2.2.2.1,())
def K12 (E:Env) (H:Heap):Option ((SgEl sg3×List PV)×List PV) :=
 (enter 0 [2,4,22,23,24] [] [] false E H fun vs H=>(decIn sg3 vs H).map fun x=>(x,[get E 6])).map fun y=>(y,[get E 53,get E 54,get E 55,get E 56,get E 61])
theorem ev12 (n':Nat) (v:Value) (c:El tCell) (s:SgEl sg4) :
  opsD (specO [cell_Merge_ent n'] []) (heapOf sg4 s).length [] (number 0 (setRaw (raw12 (valPV tCell c)) 0 ((cOps R12).toList.map (opOf Tryz.prog (cOps R12))))) (envOf [2,4,22,23,24,8,11] sg4 [(6,v)] s) (heapOf sg4 s) K12 =
  bindN (cell_Merge n' ([c,s.2.2.2.2.2.1.2.2.1],())) fun p1=>some ((next4 s,[.raw v]),[.raw v,valPV tRow_place s.2.2.2.2.2.2.1, .raw v,valPV tRow_place s.2.2.2.2.2.2.1,valPV tCell p1.1.1]):=by kernel_rfl
theorem R12_eq:R12 = .region 12 (cOps R12) true:=by kernel_rfl
theorem R12_dst:((cOps R12).toList.map (opOf Tryz.prog (cOps R12))).all (dstIn nA)=true:=by kernel_rfl
theorem R12_after:((cOps R12)[9]?).map (fun o=>memN 4 (opOf Tryz.prog (cOps R12) o).after)=some true:=by kernel_rfl
theorem lk12 {pv x:PV} {vs:List Arg} {i:Nat} (h:lk (raw12 pv) i=some (.raw x vs)):(i=4∧x=pv∧vs=[.t 55, .t 56])∨(i=9∧x = .tup []∧vs=[.t 53, .t 54, .t 61]):=by
 unfold raw12 lk at h
 cases h4:Nat.beq 4 i with
 | true=>rw [h4] at h;cases h;exact .inl ⟨(Nat.eq_of_beq_eq_true h4).symm,rfl,rfl⟩
 | false =>
  rw [h4,cond_false] at h
  unfold lk at h
  cases h9:Nat.beq 9 i with
  | true=>rw [h9] at h;cases h;exact .inr ⟨(Nat.eq_of_beq_eq_true h9).symm,rfl,rfl⟩
  | false=>rw [h9] at h;cases h
theorem r12 {n' b:Nat} {m:List (PK×El tCell)} {c':El tCell} {s:SgEl sg4} (hT:EntOk Tryz.prog (cell_Merge_ent n'))
  (h:Mid nA S0 F0 w0 H0 [2,4,22,23,24,8,11] sg4 [(6, .map (some b))] [b] (fun W=>HasMap ekP evC W b m) S F w a s)
  (hm:cell_Merge n' ([mget eqK (keyOf4 s) zCell m,s.2.2.2.2.2.1.2.2.1],())=some ((c',()),((),())))
  (k:∀ S' F' w' a',Mid nA S0 F0 w0 H0 [2,4,22,23,24] sg3 [(6, .map (some b))] [b] (fun W=>HasMap ekP evC W b (mput eqK (keyOf4 s) c' m)) S' F' w' a' (next4 s)→Q .normal a' w'):R12.wp Tryz.prog Q a w:=by
 rw [R12_eq]
 have hev:=ev12 n' (.map (some b)) (mget eqK (keyOf4 s) zCell m) s
 rw [hm] at hev
 simp only [bindN,Option.bind_some] at hev
 have hO:OrcOk Tryz.prog (specO [cell_Merge_ent n'] []):=orc_table (by intro x hx;simp only [List.mem_singleton] at hx;subst hx;exact hT) []
 refine region_raw hM hO (l:=raw12 (valPV tCell (mget eqK (keyOf4 s) zCell m))) (fun i x hx=>?_) (fun i o ho hi=>?_) R12_dst hev h.sta.rel h.sta.at'
  (J:=fun A S F w H=>AdvM 0 S0 F0 w0 H0 S F w H∧Frn S F w H b∧(A 9=true→A 4=true)∧HasMap ekP evC w b (bif A 9 then mput eqK (keyOf4 s) c' m else m))
  (fun A A' S F w H S' F' w' H' hAA hj hAd=>?_) ⟨h.adv,(h.frn b (by simp)).1,fun hh=>Bool.noConfusion hh,h.keep⟩ (fun Ef Hf hK i v vs o ho hlk A B S1 F1 w1 H1 E1 a1 hAi hAft hBi hBo hr ha hus hj=>?_) (fun S' F' w' E' a' H' A hK hAr hr ha hj=>?_)
 ·unfold raw12 lk at hx
  cases h4:Nat.beq 4 i with
  | true=>rw [h4] at hx;cases hx;exact ⟨_,_,rfl⟩
  | false =>
   rw [h4,cond_false] at hx
   unfold lk at hx
   cases h9:Nat.beq 9 i with
   | true=>rw [h9] at hx;cases hx;exact ⟨_,_,rfl⟩
   | false=>rw [h9] at hx;cases hx
 ·have hall:(cOps R12).toList.all (fun o=>o.guard.isNone)=true:=by kernel_rfl
  have:=List.all_eq_true.1 hall o (by simpa using Array.mem_of_getElem? ho)
  cases hg:o.guard with
  | none=>rfl
  | some g=>rw [hg] at this;cases this
 ·obtain ⟨j1,j2,j3,j4⟩:=hj
  have e4:=hAA 4 rfl
  have e9:=hAA 9 rfl
  refine ⟨j1.trans hAd.toM,j2.adv (m:=0) hAd.toM,by rw [e4,e9];exact j3,by rw [e9];exact j4.same (j2.same (m:=0) hAd.toM)⟩
 ·obtain ⟨j1,j2,j3,j4⟩:=hj
  unfold K12 at hK
  obtain ⟨y,hy,hyr⟩:=Option.map_eq_some_iff.1 hK
  simp only [Prod.mk.injEq,List.cons.injEq,and_true] at hyr
  obtain ⟨_,q53,q54,q55,q56,q61⟩:=hyr
  rcases lk12 hlk with ⟨rfl,rfl,rfl⟩|⟨rfl,rfl,rfl⟩
  ·obtain ⟨o4,ho4,p4,g4,d4⟩:=op_at (os:=cOps R12) (i:=4) (op := .lookup mt (.tmp 55) (.tmp 56) false) (d:=some 57) (by kernel_rfl)
   rw [ho] at ho4;cases ho4
   have u55:=hus 55 (show 55∈[55,56] by decide) (by kernel_rfl)
   have u56:=hus 56 (show 56∈[55,56] by decide) (by kernel_rfl)
   have v55:=ha.opd.tmp 55
   have v56:=ha.opd.tmp 56
   rw [u55,q55] at v55
   rw [u56,q56] at v56
   have e55:=val_raw v55
   have e56:=val_agg (by rfl) v56
   have h9:A 9=false:=by
    cases hc:A 9 with
    | false=>rfl
    | true=>rw [j3 hc] at hAi;cases hAi
   rw [h9] at j4
   have hl:=lookup_run mapTy j4 (keyOf4 s)
   have hB9:B 9=false:=(hBo 9 (by decide)).trans h9
   refine ⟨evC (mget eqK (keyOf4 s) zCell m),w1,fun K hK=>?_,enc_val (by rfl) _,⟨Nat.le_refl _,fun _ _ _=>rfl,rfl,rfl,rfl,fun _=>Nat.le_refl _⟩,j1,j2,fun hh=>Bool.noConfusion (hB9.symm.trans hh),by rw [hB9];exact j4⟩
   unfold Oper.wp execOp
   rw [p4]
   simp only
   rw [e55,e56]
   have:(Instr.lookup mt (.map (some b)) (.agg (encT tRow_place s.2.2.2.2.2.2.1).toArray) false).run Tryz.prog w1 = .ok (evC (mget eqK (keyOf4 s) zCell m)) w1:=hl
   rw [Sem.run_bind,this]
   exact hK
  ·obtain ⟨o9,ho9,p9,g9,d9⟩:=op_at (os:=cOps R12) (i:=9) (op := .mapUpdate mt (.tmp 53) (.tmp 54) (.tmp 61)) (d:=none) (by kernel_rfl)
   rw [ho] at ho9;cases ho9
   have v53:=ha.opd.tmp 53
   have v54:=ha.opd.tmp 54
   have v61:=ha.opd.tmp 61
   rw [hus 53 (show 53∈[53,54,61] by decide) (by kernel_rfl),q53] at v53
   rw [hus 54 (show 54∈[53,54,61] by decide) (by kernel_rfl),q54] at v54
   rw [hus 61 (show 61∈[53,54,61] by decide) (by kernel_rfl),q61] at v61
   have e53:=val_raw v53
   have e54:=val_agg (by rfl) v54
   have e61:=val_agg (by rfl) v61
   have h4:A 4=true:=by
    have:=R12_after
    rw [ho] at this
    simp only [Option.map_some,Option.some.injEq] at this
    exact hAft 4 (memN_iff.1 this)
   rw [hAi] at j4
   obtain ⟨ob,hu1,hu2⟩:=update_run mapTy j4 (keyOf4 s) c'
   have hOff:=off_set j2 ob
   refine ⟨undef,setBlock w1 b ob,fun K hK=>?_, .tup _ #[] rfl (fun i p v hp=>by simp at hp),hOff,hOff.adv j1 fun k hk=>?_,j2.grow hOff.sz,fun _=>(hBo 4 (by decide)).trans h4,by rw [hBi];exact hu2⟩
   ·unfold Oper.wp execOp
    rw [p9]
    simp only
    rw [e53,e54,e61]
    have:(Instr.mapUpdate mt (.map (some b)) (.agg (encT tRow_place s.2.2.2.2.2.2.1).toArray) (.agg (encT tCell c').toArray)).run Tryz.prog w1 = .ok () (setBlock w1 b ob):=hu1
    rw [Sem.run_bind,this]
    exact hK
   ·have:b≠k:=by have:=(h.frn b (by simp)).2;omega
    simp [setBlock,Array.getElem?_setIfInBounds,this]
 ·obtain ⟨j1,j2,j3,j4⟩:=hj
  unfold K12 at hK
  obtain ⟨y,hy,hyr⟩:=Option.map_eq_some_iff.1 hK
  simp only [Prod.mk.injEq] at hyr
  obtain ⟨rfl,_⟩:=hyr
  have hy2:(enter 0 [2,4,22,23,24] [] [] false E' H' fun vs H=>(decIn sg3 vs H).map fun x=>(x,([(6,Value.map (some b))]:List (Nat×Value)).map fun u=>get E' u.1))=some (next4 s,([(6,Value.map (some b))]:List (Nat×Value)).map fun u=>PV.raw u.2):=hy
  obtain ⟨S2,F2,k1,k2⟩:=sta_of hr ha hy2
  have h9:A 9=true:=hAr 9 rfl (by
   have:Nat.blt 9 (cOps R12).size=true:=by kernel_rfl
   exact Nat.le_of_ble_eq_true this)
  rw [h9] at j4
  exact k _ _ _ _ ⟨k1,fun c hc=>by
   simp only [List.mem_singleton] at hc
   subst hc
   exact ⟨j2.adv k2,(h.frn _ (by simp)).2⟩,j1.trans k2,j4.same (j2.same k2)⟩
end RA
end Go.Proofs.YtdcphpbimeoioaaGreatDoorE
end
section
set_option linter.unusedSectionVars false
namespace Go.Proofs.YtdcphpbimeoioaaGreatDoorE
open Go Go.RowKit Go.Shelf Go.Proofs
open Go.ChangeMaps (setBlock)
set_option linter.unusedVariables false
set_option linter.unusedSimpArgs false
set_option maxRecDepth 100000
namespace RA
variable {S S0:Nat→SL} {F F0:Nat→Prop} {w w0:World} {H0:Heap} {a:Act} {Q:Exit→Act→World→Prop} {b r:Nat} {m left:List (PK×El tCell)} {s:SgEl sgE}
abbrev itv (r:Nat):Value := .pointer (some ⟨r,0,none⟩)
theorem R14_eq:R14 = .region 14 (cOps R14) false:=by kernel_rfl
theorem R14_range:List.range (cOps R14).size=[0,1]:=by kernel_rfl
theorem r14 (h:Mid nA S0 F0 w0 H0 [2,4] sgE [(6, .map (some b))] [b] (fun W=>HasMap ekP evC W b m) S F w a s)
  (k:∀ r w' a',Mid nA S0 F0 w0 H0 [2,4] sgE [(64,itv r)] [r,b] (fun W=>HasIter ekP evC W b r m) S F w' a' s→Q .normal a' w'):R14.wp Tryz.prog Q a w:=by
 rw [R14_eq]
 refine wp_region ?_
 rw [R14_range]
 have hn:=nA_big
 obtain ⟨o0,h0,p0,g0,d0⟩:=op_at (os:=cOps R14) (i:=0) (op := .move (.tmp 6)) (d:=some 63) (by kernel_rfl)
 obtain ⟨o1,h1,p1,g1,d1⟩:=op_at (os:=cOps R14) (i:=1) (op := .range mt (.tmp 63)) (d:=some 64) (by kernel_rfl)
 have e6:=h.sta.raw (6, .map (some b)) (by simp)
 refine raw_step h0 g0 (v := .map (some b)) (w':=w) (by unfold execOp;rw [p0];simp only;rw [e6];rfl) ?_
 obtain ⟨q,c1,c2⟩:=range_run (P:=Tryz.prog) mapTy h.keep
 refine raw_step h1 g1 (v:=itv w.heap.size) (w':=w.alloc (.mapIter (some b) q #[] q)) (by unfold execOp;rw [p1,d0];simp only;rw [eval_put_same (by rw [h.sta.size];omega),Sem.run_bind,c1];rfl) ?_
 rw [d0,d1]
 refine k w.heap.size _ _ ?_
 have g:=h.alloc (.mapIter (some b) q #[] q) (J':=fun W=>HasIter ekP evC W b w.heap.size m) c2
 exact g.more (((g.sta.put _ (by decide) (by simp)).putu (t:=64) _ (by decide) (by simp) (by omega)).less (by simp))
theorem R15_eq:R15 = .region 15 (cOps R15) false:=by kernel_rfl
theorem R15_range:List.range (cOps R15).size=[0,1]:=by kernel_rfl
theorem K15_eq:K15 = .cond (.tmp 66) .skip (.exit 2):=by kernel_rfl
theorem r15 {y:Code} (h:Mid nA S0 F0 w0 H0 [2,4] sgE [(64,itv r)] [r,b] (fun W=>HasIter ekP evC W b r left) S F w a s)
  (k0:left=[]→∀ a',Mid nA S0 F0 w0 H0 [2,4] sgE [(64,itv r)] [r,b] (fun W=>HasIter ekP evC W b r left) S F w a' s→Q (.exit 2) a' w)
  (k1:∀ j p w1 a1,left[j]?=some p→Mid nA S0 F0 w0 H0 [2,4] sgE [(64,itv r)] [r,b] (fun W=>HasIter ekP evC W b r (left.eraseIdx j)) S F w1 a1 s→(Instr.entry (itv r)).run Tryz.prog w1 = .ok (.tuple #[ekP p.1,evC p.2]) w1→y.wp Tryz.prog Q a1 w1) :
  (Code.seq R15 (.seq K15 y)).wp Tryz.prog Q a w:=by
 refine wp_seq ?_
 rw [R15_eq]
 refine wp_region ?_
 rw [R15_range]
 have hn:=nA_big
 obtain ⟨o0,h0,p0,g0,d0⟩:=op_at (os:=cOps R15) (i:=0) (op := .next (.tmp 64) false) (d:=some 65) (by kernel_rfl)
 obtain ⟨o1,h1,p1,g1,d1⟩:=op_at (os:=cOps R15) (i:=1) (op := .extract (.tmp 65) 0) (d:=some 66) (by kernel_rfl)
 have e64:=h.sta.raw (64,itv r) (by simp)
 have hbr:b≠r:=h.keep.lt.2.2
 have fin:∀ (t:Bool) (a2:Act) (w2:World) {Q':Exit→Act→World→Prop},a2.eval (.tmp 66) = .bool t→(if t then (Code.skip).wp Tryz.prog Q' a2 w2 else (Code.exit 2).wp Tryz.prog Q' a2 w2)→K15.wp Tryz.prog Q' a2 w2:=fun t a2 w2 Q' he hk=>by
  rw [K15_eq]
  refine wp_cond he ?_
  cases t<;>exact hk
 rcases next_run (P:=Tryz.prog) h.keep o0.type with ⟨hl,c1⟩|⟨j,p,w1,o,hj,hal,c1,c2,c3⟩
 ·refine raw_step h0 g0 (v := .tuple #[.bool false]) (w':=w) (by unfold execOp;rw [p0];simp only;rw [e64,Sem.run_bind,c1];rfl) ?_
  refine raw_step h1 g1 (v := .bool false) (w':=w) (by unfold execOp;rw [p1,d0];simp only;rw [eval_put_same (by rw [h.sta.size];omega)];simp [Instr.extract]) ?_
  rw [d0,d1]
  refine wp_seq (fin false _ _ (eval_put_same (by simp [Act.put,h.sta.size];omega) _) ?_)
  refine wp_exit ?_
  refine k0 hl _ ?_
  exact h.more ((h.sta.put _ (by decide) (by simp)).put _ (by decide) (by simp))
 ·refine raw_step h0 g0 (v := .tuple #[.bool true,ekP p.1,evC p.2]) (w':=setBlock w1 r o) (by unfold execOp;rw [p0];simp only;rw [e64,Sem.run_bind,c1];rfl) ?_
  refine raw_step h1 g1 (v := .bool true) (w':=setBlock w1 r o) (by unfold execOp;rw [p1,d0];simp only;rw [eval_put_same (by rw [h.sta.size];omega)];simp [Instr.extract]) ?_
  rw [d0,d1]
  refine wp_seq (fin true _ _ (eval_put_same (by simp [Act.put,h.sta.size];omega) _) ?_)
  refine wp_skip ?_
  have g:Mid nA S0 F0 w0 H0 [2,4] sgE [(64,itv r)] [r,b] (fun W=>HasIter ekP evC W b r (left.eraseIdx j)) S F (setBlock w1 r o) a s:=by
   rcases hal with rfl|rfl
   ·exact h.set (J':=fun W=>HasIter ekP evC W b r (left.eraseIdx j)) (by simp) o c2
   ·exact (h.drew (J':=fun _=>True) trivial).set (J':=fun W=>HasIter ekP evC W b r (left.eraseIdx j)) (by simp) o c2
  exact k1 j p _ _ hj (g.more ((g.sta.put _ (by decide) (by simp)).put _ (by decide) (by simp))) c3
theorem R16_eq:R16 = .region 16 (cOps R16) false:=by kernel_rfl
theorem R16_range:List.range (cOps R16).size=0 ::1 ::2 ::((number 0 ((cOps R16).toList.map (opOf Tryz.prog (cOps R16)))).drop 3).map (·.1):=by kernel_rfl
theorem R16_dst:((cOps R16).toList.map (opOf Tryz.prog (cOps R16))).all (dstIn nA)=true:=by kernel_rfl
theorem ev16 (v:Value) (pl:El tRow_place) (c:El tCell) (s:SgEl sgE) :
  ops (specO [] []) (heapOf sgE s).length ((number 0 ((cOps R16).toList.map (opOf Tryz.prog (cOps R16)))).drop 3) ([(68,valPV tRow_place pl),(69,valPV tCell c)]++envOf [2,4] sgE [(64,v)] s) (heapOf sgE s)
   (fun E H=>enter 0 [2,4,12,13] [] [] false E H fun vs H=>(decIn sg5 vs H).map fun x=>(x,([(64,v)]:List (Nat×Value)).map fun u=>get E u.1))=some (((s.1,s.2.1,pl,c,()):SgEl sg5),([(64,v)]:List (Nat×Value)).map fun u=>PV.raw u.2):=by kernel_rfl
theorem r16 {p:PK×El tCell} (h:Mid nA S0 F0 w0 H0 [2,4] sgE [(64,itv r)] [r,b] (fun W=>HasIter ekP evC W b r left) S F w a s) (he:(Instr.entry (itv r)).run Tryz.prog w = .ok (.tuple #[ekP p.1,evC p.2]) w)
  (k:∀ S' F' w' a',Mid nA S0 F0 w0 H0 [2,4,12,13] sg5 [(64,itv r)] [r,b] (fun W=>HasIter ekP evC W b r left) S' F' w' a' (s.1,s.2.1,(p.1.1,p.1.2,()),p.2,())→Q .normal a' w'):R16.wp Tryz.prog Q a w:=by
 rw [R16_eq]
 refine wp_region ?_
 rw [R16_range]
 have hn:=nA_big
 obtain ⟨o0,h0,p0,g0,d0⟩:=op_at (os:=cOps R16) (i:=0) (op := .entry (.tmp 64)) (d:=some 67) (by kernel_rfl)
 obtain ⟨o1,h1,p1,g1,d1⟩:=op_at (os:=cOps R16) (i:=1) (op := .extract (.tmp 67) 0) (d:=some 68) (by kernel_rfl)
 obtain ⟨o2,h2,p2,g2,d2⟩:=op_at (os:=cOps R16) (i:=2) (op := .extract (.tmp 67) 1) (d:=some 69) (by kernel_rfl)
 have e64:=h.sta.raw (64,itv r) (by simp)
 have ne:∀ {a:Act} {t u:Nat} {v:Value},t≠u→(a.put (some t) v).eval (.tmp u)=a.eval (.tmp u):=fun {a t u v} hne=>Act.eval_put (fun d' hd' e'=>by cases hd';cases e';exact hne rfl)
 refine raw_step h0 g0 (v := .tuple #[ekP p.1,evC p.2]) (w':=w) (by unfold execOp;rw [p0];simp only;rw [e64,Sem.run_bind,he];rfl) ?_
 refine raw_step h1 g1 (v:=ekP p.1) (w':=w) (by unfold execOp;rw [p1,d0];simp only;rw [eval_put_same (by rw [h.sta.size];omega)];simp [Instr.extract]) ?_
 refine raw_step h2 g2 (v:=evC p.2) (w':=w) (by unfold execOp;rw [p2,d0,d1];simp only;rw [ne (by decide),eval_put_same (by rw [h.sta.size];omega)];simp [Instr.extract]) ?_
 rw [d0,d1,d2]
 have hsz:∀ (t:Nat) (v:Value) (a:Act),(a.put (some t) v).tmps.size=a.tmps.size:=fun t v a=>by simp [Act.put]
 have g:=h.more (((h.sta.put (t:=67) (.tuple #[ekP p.1,evC p.2]) (by decide) (by simp)).put (t:=68) (ekP p.1) (by decide) (by simp)).put (t:=69) (evC p.2) (by decide) (by simp))
 have hx:∀ x∈[(68,valPV tRow_place (p.1.1,p.1.2,())),(69,valPV tCell p.2)],Val S F w x.2 ((((a.put (some 67) (.tuple #[ekP p.1,evC p.2])).put (some 68) (ekP p.1)).put (some 69) (evC p.2)).eval (.tmp x.1)):=by
  intro x hx
  simp only [List.mem_cons,List.not_mem_nil,or_false] at hx
  rcases hx with rfl|rfl
  ·show Val S F w _ (Act.eval _ (.tmp 68))
   rw [ne (t:=69) (u:=68) (by decide),eval_put_same (by rw [hsz,h.sta.size];omega)]
   exact enc_val (by rfl) _
  ·show Val S F w _ (Act.eval _ (.tmp 69))
   rw [eval_put_same (by rw [hsz,hsz,h.sta.size];omega)]
   exact enc_val (by rfl) _
 exact g.ops (T:=[]) (fun x hx=>by cases hx) (fun x hx=>region_isOp R16_dst x (List.mem_of_mem_drop hx)) jiter hx (ev16 (itv r) (p.1.1,p.1.2,()) p.2 s) k
end RA
end Go.Proofs.YtdcphpbimeoioaaGreatDoorE
end
section
set_option linter.unusedSectionVars false
namespace Go.Proofs.YtdcphpbimeoioaaGreatDoorE
open Go Go.RowKit Go.Shelf Go.Proofs
set_option linter.unusedVariables false
set_option linter.unusedSimpArgs false
set_option maxRecDepth 100000
theorem perm_uniq {α:Type} {lt:α→α→Bool}:∀ {a b:List α},a.Pairwise (fun x y=>lt x y=true∧lt y x=false)→b.Pairwise (fun x y=>lt y x=false)→a.Perm b→a=b
 | [],b,_,_,hp=>by rw [List.nil_perm.1 hp]
 | x ::a,[],_,_,hp=>by have:=hp.length_eq;simp at this
 | x ::a,y ::b,ha,hb,hp=>by
  rw [List.pairwise_cons] at ha hb
  have hxy:x=y:=by
   rcases List.mem_cons.1 (hp.mem_iff.1 List.mem_cons_self) with h|h
   ·exact h
   ·rcases List.mem_cons.1 (hp.mem_iff.2 (List.mem_cons_self (a:=y))) with h2|h2
    ·exact h2.symm
    ·have h3:=hb.1 x h
     have h4:=(ha.1 y h2).1
     rw [h3] at h4;cases h4
  subst hxy
  rw [perm_uniq ha.2 hb.2 (List.Perm.cons_inv hp)]
theorem sortRow_spec (l:List (El tRow)):(sl_SortRow_sorted l).Perm l∧(sl_SortRow_sorted l).Pairwise (fun a b=>ltOf cfRow b a=false):=by
 have h:=Go.Sort.pdq_sorts (ltOf sl_SortRow_cf) sl_SortRow_swo l.toArray 0 l.toArray.size (Lib.bitLen l.toArray.size) true true (Nat.zero_le _) (Nat.le_refl _) (.inl rfl)
 unfold sl_SortRow_sorted
 generalize Go.Sort.pdq (ltOf sl_SortRow_cf) l.toArray 0 l.toArray.size (Lib.bitLen l.toArray.size) true true=q at h
 obtain ⟨⟨h1,h2,h3⟩,h4⟩:=h
 constructor
 ·have e1:q.extract 0 l.toArray.size=q:=by rw [← h1];simp
  have e2:l.toArray.extract 0 l.toArray.size=l.toArray:=by simp
  rw [e1,e2] at h3;simpa using h3
 ·rw [List.pairwise_iff_getElem]
  intro i j hi hj hij
  have hi':i<q.size:=by simpa using hi
  have hj':j<q.size:=by simpa using hj
  have:=h4 i j (Nat.zero_le _) hij (by rw [← h1];exact hj')
  rw [getElem!_pos q j hj',getElem!_pos q i hi'] at this
  simp only [Array.getElem_toList]
  exact this
theorem sortRow_strict {l:List (El tRow)} (hn:(l.map fun r=>(r.1,r.2.1)).Nodup):(sl_SortRow_sorted l).Pairwise (fun a b=>ltOf cfRow a b=true∧ltOf cfRow b a=false):=by
 obtain ⟨h1,h2⟩:=sortRow_spec l
 have hn2:((sl_SortRow_sorted l).map fun r=>(r.1,r.2.1)).Nodup:=(h1.map _).nodup_iff.2 hn
 rw [List.Nodup,List.pairwise_map] at hn2
 refine (h2.and hn2).imp fun {a b} hab=>⟨?_,hab.1⟩
 have h3:=hab.1
 rw [ltRow] at h3 ⊢
 simp only [Bool.or_eq_true,Bool.and_eq_true,decide_eq_true_eq,Bool.or_eq_false_iff,Bool.and_eq_false_iff,decide_eq_false_iff_not] at h3 ⊢
 by_cases e:a.1=b.1
 ·have hne:a.2.1.data.toList≠b.2.1.data.toList:=fun h=>hab.2 (Prod.ext e (by
   have:∀ x y:ByteArray,x.data.toList=y.data.toList→x=y:=fun x y hxy=>by
    obtain ⟨⟨x⟩⟩:=x;obtain ⟨⟨y⟩⟩:=y;simp only at hxy;rw [hxy]
   exact this _ _ h))
  rcases bl_total _ _ hne with g|g
  ·exact .inr ⟨e,g⟩
  ·rcases h3.2 with h|h
   ·exact absurd e.symm h
   ·rw [g] at h;cases h
 ·rcases Int.lt_or_lt_of_ne e with g|g
  ·exact .inl g
  ·exact absurd g h3.1
theorem sortRow_perm {a b:List (El tRow)} (h:a.Perm b) (hn:(b.map fun r=>(r.1,r.2.1)).Nodup):sl_SortRow_sorted a=sl_SortRow_sorted b :=
 (perm_uniq (sortRow_strict hn) (sortRow_spec a).2 ((sortRow_spec b).1.trans (h.symm.trans (sortRow_spec a).1.symm))).symm
theorem mput_keys (k:PK) (v:El tCell):∀ m:List (PK×El tCell),(m.map (·.1)).Nodup→((mput eqK k v m).map (·.1)).Nodup∧∀ x∈(mput eqK k v m).map (·.1),x=k∨x∈m.map (·.1)
 | [],_=>⟨by simp [mput],by simp [mput]⟩
 | p ::r,h=>by
  rw [List.map_cons,List.nodup_cons] at h
  obtain ⟨h1,h2⟩:=h
  obtain ⟨g1,g2⟩:=mput_keys k v r h2
  rw [mput]
  cases he:eqK k p.1 with
  | true =>
   rw [eqK_iff] at he
   subst he
   exact ⟨by simp only [cond_true,List.map_cons,List.nodup_cons];exact ⟨h1,h2⟩,fun x hx=>by simpa using hx⟩
  | false =>
   have hne:p.1≠k:=fun e=>by rw [e,eqK_iff.2 rfl] at he;cases he
   refine ⟨by
    simp only [cond_false,List.map_cons,List.nodup_cons]
    exact ⟨fun hx=>by rcases g2 _ hx with e|e;exact hne e;exact h1 e,g1⟩,fun x hx=>?_⟩
   simp only [cond_false,List.map_cons,List.mem_cons] at hx ⊢
   rcases hx with e|e
   ·exact .inr (.inl e)
   ·rcases g2 x e with e|e
    ·exact .inl e
    ·exact .inr (.inr e)
def stepA (n:Nat) (q:El tQuery) (x:El tItem) (m:List (PK×El tCell)):Option (List (PK×El tCell)) :=
 bindN (row_series n (x.2.1,())) fun p2 =>
 bif !p2.1.2.1 then some m else
 bindN (cell_Empty n x.2.2) fun p3 =>
 bif p3.1.1 then some m else
 bindN (query_Fits n (q,p2.1.1,())) fun p4 =>
 bif !p4.1.1 then some m else
 bindN (query_Group n (q,p2.1.1,())) fun p5 =>
 bindN (cell_Merge n ([mget eqK (x.1,p5.1.1) zCell m,x.2.2.1],())) fun p6 =>
 some (mput eqK (x.1,p5.1.1) p6.1.1 m)
def runA (n:Nat) (q:El tQuery):List (El tItem)→List (PK×El tCell)→Option (List (PK×El tCell))
 | [],m=>some m
 | x ::r,m=>bindN (stepA n q x m) fun m'=>runA n q r m'
def rowA (n:Nat) (q:El tQuery) (e:PK×El tCell):Option (El tRow):=bindN (cell_Value n (e.2,q.1,())) fun p1=>some (e.1.1,e.1.2,p1.1)
def rowsA (n:Nat) (q:El tQuery):List (PK×El tCell)→Option (List (El tRow))
 | []=>some []
 | e ::r=>bindN (rowA n q e) fun x=>bindN (rowsA n q r) fun l=>some (x ::l)
abbrev row_Answer_sg:List Sg:=[.tree tQuery, .tree (.slice tItem)]
abbrev row_Answer_rs:List Rt:=[.own tRow]
def row_Answer (n:Nat) (x:SgEl row_Answer_sg):Option (RtEl row_Answer_rs×OutEl row_Answer_sg) :=
 bindN (query_Right n (x.1,())) fun p1 =>
 bif !p1.1.1 then some (([],()),((),((),()))) else
 bindN (sl_CloneItem n (x.2.1,())) fun p2 =>
 bindN (sl_StableItem n (p2.1.1,(),())) fun p3 =>
 bif Nat.ble p3.2.1.length 1000000 then
 bindN (runA n x.1 p3.2.1 []) fun m =>
 bindN (rowsA n x.1 m) fun rows =>
 bif Nat.ble rows.length 1000000 then some ((sl_SortRow_sorted rows,()),((),((),()))) else none else none
abbrev row_Answer_ent (n:Nat):Ent:=⟨59,row_Answer_sg,row_Answer_rs,row_Answer n⟩
theorem stepA_keys {n:Nat} {q:El tQuery} {x:El tItem} {m m':List (PK×El tCell)} (h:stepA n q x m=some m') (hn:(m.map (·.1)).Nodup):(m'.map (·.1)).Nodup:=by
 unfold stepA at h
 obtain ⟨p2,h2,h⟩:=bindN_some h
 cases c2:p2.1.2.1 with
 | false=>rw [c2] at h;cases h;exact hn
 | true =>
  rw [c2] at h
  obtain ⟨p3,h3,h⟩:=bindN_some h
  cases c3:p3.1.1 with
  | true=>rw [c3] at h;cases h;exact hn
  | false =>
   rw [c3] at h
   obtain ⟨p4,h4,h⟩:=bindN_some h
   cases c4:p4.1.1 with
   | false=>rw [c4] at h;cases h;exact hn
   | true =>
    rw [c4] at h
    obtain ⟨p5,h5,h⟩:=bindN_some h
    obtain ⟨p6,h6,h⟩:=bindN_some h
    cases h
    exact (mput_keys _ _ _ hn).1
theorem runA_keys {n:Nat} {q:El tQuery}:∀ {l:List (El tItem)} {m m':List (PK×El tCell)},runA n q l m=some m'→(m.map (·.1)).Nodup→(m'.map (·.1)).Nodup
 | [],m,m',h,hn=>by cases h;exact hn
 | x ::r,m,m',h,hn=>by
  obtain ⟨m1,h1,h2⟩:=bindN_some h
  exact runA_keys h2 (stepA_keys h1 hn)
theorem rowsA_each {n:Nat} {q:El tQuery}:∀ {m:List (PK×El tCell)} {rows:List (El tRow)},rowsA n q m=some rows→(∀ e∈m,∃ r,rowA n q e=some r)∧rows=m.map fun e=>(rowA n q e).getD default
 | [],rows,h=>by cases h;exact ⟨by simp,rfl⟩
 | e ::m,rows,h=>by
  obtain ⟨x,h1,h⟩:=bindN_some h
  obtain ⟨l,h2,h⟩:=bindN_some h
  cases h
  obtain ⟨g1,g2⟩:=rowsA_each h2
  refine ⟨fun y hy=>?_,?_⟩
  ·rcases List.mem_cons.1 hy with rfl|hy
   ·exact ⟨x,h1⟩
   ·exact g1 y hy
  ·rw [List.map_cons,h1,g2];rfl
theorem rowA_place {n:Nat} {q:El tQuery} {e:PK×El tCell} {r:El tRow} (h:rowA n q e=some r):(r.1,r.2.1)=e.1:=by
 obtain ⟨p,_,h⟩:=bindN_some h
 cases h;rfl
namespace RA
variable {S S0:Nat→SL} {F F0:Nat→Prop} {w w0:World} {H0:Heap} {a:Act} {Q:Exit→Act→World→Prop} {b r:Nat} {m left:List (PK×El tCell)}
theorem pE_cases {n:Nat} {v:Value} {s:SgEl sg3} {x:El tItem} {m m':List (PK×El tCell)} (hi:ile (0:Int) s.2.2.2.2.1=true) (hx:lat s.2.2.1 (iN s.2.2.2.2.1)=some x) (h:stepA n s.1 x m=some m') :
  (pE n v s=some (.inr s,[.raw v])∧m'=m)∨∃ g c',pE n v s=some (.inl (s.1,s.2.1,s.2.2.1,s.2.2.2.1,s.2.2.2.2.1,x,(x.1,g,()),()),[.raw v])∧cell_Merge n ([mget eqK (x.1,g) zCell m,x.2.2.1],())=some ((c',()),((),()))∧m'=mput eqK (x.1,g) c' m:=by
 unfold stepA at h
 unfold pE
 rw [hi,cond_true,hx,bindN_s,bindN_s]
 obtain ⟨p2,h2,h⟩:=bindN_some h
 rw [h2,bindN_s]
 cases c2:p2.1.2.1 with
 | false=>rw [c2] at h;cases h;exact .inl ⟨rfl,rfl⟩
 | true =>
  rw [c2] at h
  obtain ⟨p3,h3,h⟩:=bindN_some h
  rw [Bool.not_true,cond_false,h3,bindN_s]
  cases c3:p3.1.1 with
  | true=>rw [c3] at h;cases h;exact .inl ⟨rfl,rfl⟩
  | false =>
   rw [c3] at h
   obtain ⟨p4,h4,h⟩:=bindN_some h
   rw [cond_false,h4,bindN_s]
   cases c4:p4.1.1 with
   | false=>rw [c4] at h;cases h;exact .inl ⟨rfl,rfl⟩
   | true =>
    rw [c4] at h
    obtain ⟨p5,h5,h⟩:=bindN_some h
    rw [Bool.not_true,cond_false,h5,bindN_s]
    obtain ⟨p6,h6,h⟩:=bindN_some h
    cases h
    exact .inr ⟨p5.1.1,p6.1.1,rfl,h6,rfl⟩
theorem loop0_eq:B0=capp 1 (.seq R7 K7) (.seq (.block 1 (capp 3 (.seq R8 (.seq R9 (.seq X2 R11))) R12)) R13):=by kernel_rfl
theorem loop0 (n:Nat) {q:El tQuery} {l:List (El tItem)} (hl:l.length≤1000000) {m':List (PK×El tCell)}:∀ (d i g:Nat) (m:List (PK×El tCell)) {S:Nat→SL} {F:Nat→Prop} {w:World} {a:Act},i+d=l.length→runA n q (l.drop i) m=some m'→d<g →
  Mid nA S0 F0 w0 H0 [2,4,22,23,24] sg3 [(6, .map (some b))] [b] (fun W=>HasMap ekP evC W b m) S F w a (q,[],l,(l.length:Int),(i:Int),()) →
  (∀ S' F' w' a',Mid nA S0 F0 w0 H0 [2,4] sgE [(6, .map (some b))] [b] (fun W=>HasMap ekP evC W b m') S' F' w' a' (q,[],())→Q (.exit 0) a' w')→Code.rounds Tryz.prog B0 Q g a w:=by
 intro d
 induction d with
 | zero =>
  intro i g m S F w a hd hr hg h k
  obtain ⟨g,rfl⟩:∃ g',g=g'+1:=⟨g - 1,by omega⟩
  rw [rounds_succ,loop0_eq]
  rw [List.drop_of_length_le (by omega)] at hr
  cases hr
  have hv:=pD_ok (.map (some b)) (q,[],l,(l.length:Int),(i:Int),())
  have hlt:ilt (i:Int) (l.length:Int)=false:=by rw [ilt_eq,decide_eq_false_iff_not];omega
  simp only [hlt,cond_false] at hv
  refine Mid.front 1 hM (T:=[]) (fun x hx=>by cases hx) (by kernel_rfl) (by kernel_rfl) jmap h hv fun S' F' w' a' h'=>k _ _ _ _ h'
 | succ d ih =>
  intro i g m S F w a hd hr hg h k
  obtain ⟨g,rfl⟩:∃ g',g=g'+1:=⟨g - 1,by omega⟩
  rw [rounds_succ,loop0_eq]
  have hi:i<l.length:=by omega
  rw [List.drop_eq_getElem_cons hi,runA] at hr
  obtain ⟨m1,hm1,hr2⟩:=bindN_some hr
  have hv:=pD_ok (.map (some b)) (q,[],l,(l.length:Int),(i:Int),())
  have hlt:ilt (i:Int) (l.length:Int)=true:=by rw [ilt_eq,decide_eq_true_eq];omega
  simp only [hlt,cond_true] at hv
  refine Mid.front 1 hM (T:=[]) (fun x hx=>by cases hx) (by kernel_rfl) (by kernel_rfl) jmap h hv fun S' F' w' a' h'=>?_
  have back:∀ {m1:List (PK×El tCell)} {S' F' w' a'},runA n q (l.drop (i+1)) m1=some m'→Mid nA S0 F0 w0 H0 [2,4,22,23,24] sg3 [(6, .map (some b))] [b] (fun W=>HasMap ekP evC W b m1) S' F' w' a' (q,[],l,(l.length:Int),(i:Int),())→R13.wp Tryz.prog (Exit.then (Code.rounds Tryz.prog B0 Q g) Q) a' w':=by
   intro m1 S' F' w' a' hr h'
   have hv':=pF'_ok (.map (some b)) (q,[],l,(l.length:Int),(i:Int),())
   simp only [iadd1 (i:=i) (by omega)] at hv'
   exact Mid.piece hM (T:=[]) (fun x hx=>by cases hx) (by kernel_rfl) (by kernel_rfl) jmap h' hv' fun S2 F2 w2 a2 h2=>ih (i+1) g m1 (by omega) hr (by omega) h2 k
  refine wp_seq (wp_block ?_)
  have hE:=pE_ok n (.map (some b)) (q,[],l,(l.length:Int),(i:Int),())
  have hT:TabF Tryz.prog [row_series_ent n,cell_Empty_ent n,query_Fits_ent n,query_Group_ent n]:=by
   intro x hx
   simp only [List.mem_cons,List.not_mem_nil,or_false] at hx
   rcases hx with rfl|rfl|rfl|rfl
   ·exact row_series_ok n
   ·exact cell_Empty_ok n
   ·exact query_Fits_ok n
   ·exact query_Group_ok n
  rcases pE_cases (n:=n) (v := .map (some b)) (s:=(q,[],l,(l.length:Int),(i:Int),())) (x:=l[i]) (by simp only [ile_eq,decide_eq_true_eq];omega) (by simp only [iN,Int.toNat_natCast,lat_eq];exact List.getElem?_eq_getElem hi) hm1 with ⟨e1,e2⟩|⟨gr,c',e1,e2,e3⟩
  ·subst e2
   exact Mid.front 3 hM hT (by kernel_rfl) (by kernel_rfl) jmap h' (hE.trans e1) fun S2 F2 w2 a2 h2=>back hr2 h2
  ·subst e3
   exact Mid.front 3 hM hT (by kernel_rfl) (by kernel_rfl) jmap h' (hE.trans e1) fun S2 F2 w2 a2 h2=>r12 (cell_Merge_ok n) h2 e2 fun S3 F3 w3 a3 h3=>back hr2 h3
end RA
end Go.Proofs.YtdcphpbimeoioaaGreatDoorE
end
section
set_option linter.unusedSectionVars false
namespace Go.Proofs.YtdcphpbimeoioaaGreatDoorE
open Go Go.Proofs
set_option linter.unusedVariables false
set_option linter.unusedSimpArgs false
def zC:CL:=(0,(0,false,()),0,0,())
theorem zC_fit:CellFit zC:=⟨⟨by decide,by decide⟩,⟨by decide,by decide⟩,⟨by decide,by decide⟩,⟨by decide,by decide⟩⟩
theorem two_zz:twoC zC zC=zC:=rfl
theorem two_z {c:CL} (h:1≤c.1):twoC zC c=c:=by
 unfold twoC
 rw [if_neg (Int.not_lt.2 h),if_pos (by decide)]
def putC (k:PK) (c:CL) (m:List (PK×CL)):List (PK×CL):=mput eqK k (twoC (twoC zC (mget eqK k zC m)) c) m
def stepM (q:QY) (m:List (PK×CL)) (x:IT):List (PK×CL):=match okI q x with|some g=>putC (x.1,g) x.2.2.1 m|none=>m
def toP (e:PK×CL):IT:=(e.1.1,e.1.2,e.2,())
theorem okI_pos {q:QY} {x:IT} {g:ByteArray} (h:okI q x=some g):1≤x.2.2.1.1:=by
 unfold okI at h
 split at h
 ·split at h
  ·split at h
   ·cases h
   ·rename_i h1;exact Int.not_lt.1 h1
  ·cases h
 ·cases h
structure Inv1 (m:List (PK×CL)):Prop where
 nodup:(m.map (·.1)).Nodup
 pos:∀ e∈m,1≤e.2.1
theorem mget_none {k:PK}:∀ {m:List (PK×CL)},k ∉ m.map (·.1)→mget eqK k zC m=zC
 | [],_=>rfl
 | p ::r,h=>by
  have h1:eqK k p.1=false:=by
   rw [Bool.eq_false_iff];intro e;rw [eqK_iff] at e;exact h (by rw [e];simp)
  rw [mget,h1]
  exact mget_none fun h2=>h (by simp only [List.map_cons,List.mem_cons];exact .inr h2)
theorem mput_none {k:PK} {v:CL}:∀ {m:List (PK×CL)},k ∉ m.map (·.1)→mput eqK k v m=m++[(k,v)]
 | [],_=>rfl
 | p ::r,h=>by
  have h1:eqK k p.1=false:=by
   rw [Bool.eq_false_iff];intro e;rw [eqK_iff] at e;exact h (by rw [e];simp)
  rw [mput,h1,cond_false,mput_none (m:=r) fun h2=>h (by simp only [List.map_cons,List.mem_cons];exact .inr h2)];rfl
theorem mput_some {k:PK} {c v:CL}:∀ {m1 m2:List (PK×CL)},k ∉ m1.map (·.1)→mget eqK k zC (m1++(k,c) ::m2)=c∧mput eqK k v (m1++(k,c) ::m2)=m1++(k,v) ::m2
 | [],m2,_=>by
  have h1:eqK k k=true:=eqK_iff.2 rfl
  simp [mget,mput,h1]
 | p ::r,m2,h=>by
  have h1:eqK k p.1=false:=by
   rw [Bool.eq_false_iff];intro e;rw [eqK_iff] at e;exact h (by rw [e];simp)
  obtain ⟨g1,g2⟩:=mput_some (c:=c) (v:=v) (m1:=r) (m2:=m2) fun h2=>h (by simp only [List.map_cons,List.mem_cons];exact .inr h2)
  rw [List.cons_append,mget,mput,h1,cond_false,cond_false,g1,g2]
  exact ⟨rfl,rfl⟩
theorem mem_split {k:PK}:∀ {m:List (PK×CL)},k∈m.map (·.1)→∃ m1 c m2,m=m1++(k,c) ::m2∧k ∉ m1.map (·.1)
 | [],h=>by cases h
 | p ::r,h=>by
  by_cases e:p.1=k
  ·exact ⟨[],p.2,r,by rw [← e];rfl,by simp⟩
  ·have h2:k∈r.map (·.1):=by
    rcases List.mem_cons.1 h with h|h
    ·exact absurd h.symm e
    ·exact h
   obtain ⟨m1,c,m2,h3,h4⟩:=mem_split h2
   refine ⟨p ::m1,c,m2,by rw [h3];rfl,fun h5=>?_⟩
   rcases List.mem_cons.1 h5 with h5|h5
   ·exact e h5.symm
   ·exact h4 h5
theorem putC_cases {k:PK} {x:CL} {m:List (PK×CL)} (hm:Inv1 m) (hx:1≤x.1) :
  (k ∉ m.map (·.1)∧putC k x m=m++[(k,x)])∨∃ m1 c m2,m=m1++(k,c) ::m2∧putC k x m=m1++(k,twoC c x) ::m2:=by
 by_cases h:k∈m.map (·.1)
 ·obtain ⟨m1,c,m2,rfl,h2⟩:=mem_split h
  refine .inr ⟨m1,c,m2,rfl,?_⟩
  have hc:1≤c.1:=hm.pos (k,c) (by simp)
  obtain ⟨g1,g2⟩:=mput_some (c:=c) (v:=twoC (twoC zC c) x) (m2:=m2) h2
  unfold putC
  rw [g1,g2,two_z hc]
 ·refine .inl ⟨h,?_⟩
  unfold putC
  rw [mget_none h,mput_none h,two_zz,two_z hx]
theorem putC_inv {k:PK} {x:CL} {m:List (PK×CL)} (hm:Inv1 m) (hx:1≤x.1):Inv1 (putC k x m):=by
 rcases putC_cases (k:=k) hm hx with ⟨h1,h2⟩|⟨m1,c,m2,h1,h2⟩
 ·rw [h2]
  refine ⟨?_,fun e he=>?_⟩
  ·rw [List.map_append,List.nodup_append]
   refine ⟨hm.nodup,by simp,fun a ha b hb=>?_⟩
   simp only [List.map_cons,List.map_nil,List.mem_singleton] at hb
   exact fun e=>h1 (by rw [← hb,← e];exact ha)
  ·rcases List.mem_append.1 he with he|he
   ·exact hm.pos e he
   ·simp only [List.mem_singleton] at he;rw [he];exact hx
 ·rw [h2]
  subst h1
  refine ⟨?_,fun e he=>?_⟩
  ·have:=hm.nodup
   simpa using this
  ·rcases List.mem_append.1 he with he|he
   ·exact hm.pos e (List.mem_append_left _ he)
   ·rcases List.mem_cons.1 he with he|he
    ·rw [he];exact twoC_pos (hm.pos (k,c) (by simp))
    ·exact hm.pos e (List.mem_append_right _ (List.mem_cons_of_mem _ he))
theorem befP_irrefl (x:IT):befP x x=false:=by
 unfold befP;rw [bl_irrefl];simp
theorem befP_trans {x y z:IT} (h1:befP x y=true) (h2:befP y z=true):befP x z=true:=by
 unfold befP at *
 simp only [Bool.or_eq_true,Bool.and_eq_true,decide_eq_true_eq] at *
 rcases h1 with h1|⟨h1,g1⟩
 ·rcases h2 with h2|⟨h2,g2⟩
  ·exact .inl (Int.lt_trans h1 h2)
  ·exact .inl (h2 ▸ h1)
 ·rcases h2 with h2|⟨h2,g2⟩
  ·exact .inl (h1 ▸ h2)
  ·exact .inr ⟨h1.trans h2,bl_trans _ _ _ g1 g2⟩
theorem befP_total {x y:IT} (h:sameP x y=false):befP x y=true∨befP y x=true:=by
 unfold sameP at h
 unfold befP
 simp only [Bool.or_eq_true,Bool.and_eq_true,decide_eq_true_eq]
 by_cases h1:x.1=y.1
 ·have h2:bl x.2.1≠bl y.2.1:=fun e=>by
   rw [decide_eq_true h1,decide_eq_true (bl_inj e)] at h;cases h
  rcases bl_total _ _ h2 with g|g
  ·exact .inl (.inr ⟨h1,g⟩)
  ·exact .inr (.inr ⟨h1.symm,g⟩)
 ·rcases Int.lt_or_lt_of_ne h1 with g|g
  ·exact .inl (.inl g)
  ·exact .inr (.inl g)
theorem same_bef {x y z:IT} (h:sameP x y=true):befP x z=befP y z∧befP z x=befP z y:=by
 unfold sameP at h
 rw [Bool.and_eq_true,decide_eq_true_eq,decide_eq_true_eq] at h
 unfold befP
 rw [h.1,h.2]
 exact ⟨rfl,rfl⟩
def StrictP (l:List IT):Prop:=l.Pairwise fun a b=>befP a b=true
theorem pl_split {x:IT} {l:List IT} (hs:StrictP l):∃ p d,l=p++d∧plP x l=p.length∧(∀ y∈p,befP y x=true)∧(∀ y r,d=y ::r→befP y x=false):=by
 refine ⟨l.takeWhile (fun y=>befP y x),l.dropWhile (fun y=>befP y x),List.takeWhile_append_dropWhile.symm,rfl,tw_all' _ l,fun y r e=>?_⟩
 have:∀ {l:List IT},l.dropWhile (fun y=>befP y x)=y ::r→befP y x=false:=by
  intro l
  induction l with
  | nil=>intro h;cases h
  | cons a l ih =>
   intro h
   rw [List.dropWhile_cons] at h
   cases ha:befP a x with
   | true=>rw [if_pos ha] at h;exact ih h
   | false=>rw [if_neg (by rw [ha];simp)] at h;cases h;exact ha
 exact this e
theorem intoP_cases {x:IT} {l:List IT} (hs:StrictP l) :
  (∃ p d,l=p++d∧intoP x l=p++x ::d∧(∀ y∈p,befP y x=true)∧∀ y∈d,befP x y=true) ∨
  ∃ p y d,l=p++y ::d∧sameP y x=true∧intoP x l=p++(y.1,y.2.1,twoC y.2.2.1 x.2.2.1,()) ::d:=by
 obtain ⟨p,d,rfl,h1,h2,h3⟩:=pl_split (x:=x) hs
 unfold intoP
 rw [h1]
 cases d with
 | nil =>
  left
  refine ⟨p,[],rfl,?_,h2,fun y hy=>by cases hy⟩
  rw [List.append_nil,List.getElem?_eq_none (Nat.le_refl _)]
  simp
 | cons y d =>
  have e:(p++y ::d)[p.length]?=some y:=by simp
  rw [e]
  simp only
  cases hsame:sameP y x with
  | true =>
   right
   refine ⟨p,y,d,rfl,hsame,?_⟩
   rw [if_pos rfl];simp
  | false =>
   left
   have hxy:befP x y=true:=by
    rcases befP_total hsame with g|g
    ·rw [h3 y d rfl] at g;cases g
    ·exact g
   refine ⟨p,y ::d,rfl,?_,h2,fun z hz=>?_⟩
   ·rw [if_neg (by simp)];simp
   ·rcases List.mem_cons.1 hz with rfl|hz
    ·exact hxy
    ·have:=(List.pairwise_append.1 hs).2.1
     exact befP_trans hxy ((List.pairwise_cons.1 this).1 z hz)
theorem intoP_strict {x:IT} {l:List IT} (hs:StrictP l):StrictP (intoP x l):=by
 rcases intoP_cases (x:=x) hs with ⟨p,d,rfl,h1,h2,h3⟩|⟨p,y,d,rfl,h1,h2⟩
 ·rw [h1]
  have hh:=List.pairwise_append.1 hs
  refine List.pairwise_append.2 ⟨hh.1,List.pairwise_cons.2 ⟨h3,hh.2.1⟩,fun a ha b hb=>?_⟩
  rcases List.mem_cons.1 hb with rfl|hb
  ·exact h2 a ha
  ·exact hh.2.2 a ha b hb
 ·rw [h2]
  have hh:=List.pairwise_append.1 hs
  have hd:=List.pairwise_cons.1 hh.2.1
  have sm:sameP (y.1,y.2.1,twoC y.2.2.1 x.2.2.1,()) y=true:=by unfold sameP;simp
  refine List.pairwise_append.2 ⟨hh.1,List.pairwise_cons.2 ⟨fun b hb=>?_,hd.2⟩,fun a ha b hb=>?_⟩
  ·rw [(same_bef sm).1];exact hd.1 b hb
  ·rcases List.mem_cons.1 hb with rfl|hb
   ·rw [(same_bef sm).2];exact hh.2.2 a ha y List.mem_cons_self
   ·exact hh.2.2 a ha b (List.mem_cons_of_mem _ hb)
theorem strict_one {l:List IT} (hs:StrictP l) {y z:IT} (hy:y∈l) (hz:z∈l) (h:sameP y z=true):y=z:=by
 have key:∀ {l:List IT},StrictP l→∀ y∈l,∀ z∈l,sameP y z=true→y=z:=by
  intro l
  induction l with
  | nil=>intro _ y hy;cases hy
  | cons a l ih =>
   intro hs y hy z hz h
   have hs':=List.pairwise_cons.1 hs
   have no:∀ b∈l,sameP a b=true→False:=fun b hb hab=>by
    have:=hs'.1 b hb
    rw [(same_bef hab).1,befP_irrefl] at this;cases this
   have sym:∀ {u v:IT},sameP u v=true→sameP v u=true:=fun {u v} huv=>by
    unfold sameP at *
    rw [Bool.and_eq_true,decide_eq_true_eq,decide_eq_true_eq] at *
    exact ⟨huv.1.symm,huv.2.symm⟩
   rcases List.mem_cons.1 hy with e1|hy2
   ·rcases List.mem_cons.1 hz with e2|hz2
    ·rw [e1,e2]
    ·rw [e1] at h;exact (no z hz2 h).elim
   ·rcases List.mem_cons.1 hz with e2|hz2
    ·rw [e2] at h;exact (no y hy2 (sym h)).elim
    ·exact ih hs'.2 y hy2 z hz2 h
 exact key hs y hy z hz h
def Eqv1 (m:List (PK×CL)) (l:List IT):Prop:=Inv1 m∧StrictP l∧l.Perm (m.map toP)
theorem step_eqv {k:PK} {c:CL} {m:List (PK×CL)} {l:List IT} (h:Eqv1 m l) (hc:1≤c.1):Eqv1 (putC k c m) (intoP (k.1,k.2,c,()) l):=by
 obtain ⟨h1,h2,h3⟩:=h
 refine ⟨putC_inv h1 hc,intoP_strict h2,?_⟩
 have mem_iff:∀ y,y∈l↔∃ e∈m,toP e=y:=fun y=>by rw [h3.mem_iff,List.mem_map]
 rcases putC_cases (k:=k) h1 hc with ⟨g1,g2⟩|⟨m1,c0,m2,g1,g2⟩
 ·rcases intoP_cases (x:=(k.1,k.2,c,())) h2 with ⟨p,d,e1,e2,_⟩|⟨p,y,d,e1,e2,_⟩
  ·rw [e2,g2,List.map_append]
   refine List.perm_middle.trans ?_
   rw [← e1]
   refine (List.Perm.cons _ h3).trans ?_
   exact (List.perm_append_singleton _ _).symm
  ·exfalso
   obtain ⟨e,he,hy⟩:=(mem_iff y).1 (by rw [e1];simp)
   apply g1
   rw [List.mem_map]
   refine ⟨e,he,?_⟩
   unfold sameP at e2
   rw [Bool.and_eq_true,decide_eq_true_eq,decide_eq_true_eq] at e2
   rw [← hy] at e2
   exact Prod.ext e2.1 e2.2
 ·have hin:toP (k,c0)∈l:=(mem_iff _).2 ⟨(k,c0),by rw [g1];simp,rfl⟩
  have hsm:sameP (toP (k,c0)) (k.1,k.2,c,())=true:=by unfold sameP toP;simp
  rcases intoP_cases (x:=(k.1,k.2,c,())) h2 with ⟨p,d,e1,_,e3,e4⟩|⟨p,y,d,e1,e2,e3⟩
  ·exfalso
   rw [e1] at hin
   rcases List.mem_append.1 hin with hin|hin
   ·have:=e3 _ hin
    rw [(same_bef hsm).1,befP_irrefl] at this;cases this
   ·have:=e4 _ hin
    rw [(same_bef hsm).2,befP_irrefl] at this;cases this
  ·have hy:y=toP (k,c0):=by
    refine strict_one h2 (by rw [e1];simp) hin ?_
    unfold sameP toP at *
    simpa using e2
   subst hy
   rw [e3,g2]
   rw [e1,g1,List.map_append,List.map_cons] at h3
   have h4:(p++d).Perm (m1.map toP++m2.map toP):=by
    have:=(List.perm_middle.symm.trans h3).trans List.perm_middle
    exact this.cons_inv
   rw [List.map_append,List.map_cons]
   refine List.perm_middle.trans (List.Perm.trans ?_ List.perm_middle.symm)
   exact List.Perm.cons _ h4
theorem fold_eqv (q:QY):∀ (l:List IT) (m:List (PK×CL)) (ps:List IT),Eqv1 m ps→Eqv1 (l.foldl (stepM q) m) (l.foldl (stepQ q) ps)
 | [],m,ps,h=>h
 | x ::l,m,ps,h=>by
  rw [List.foldl_cons,List.foldl_cons]
  refine fold_eqv q l _ _ ?_
  unfold stepM stepQ
  cases ho:okI q x with
  | none=>exact h
  | some g=>exact step_eqv h (okI_pos ho)
def rowM (q:QY) (e:PK×CL):RW':=(e.1.1,e.1.2,valC e.2 q.1,())
theorem perm_unique {α:Type} {lt:α→α→Bool}:∀ {a b:List α},a.Pairwise (fun x y=>lt x y=true∧lt y x=false)→b.Pairwise (fun x y=>lt y x=false)→a.Perm b→a=b
 | [],b,_,_,hp=>by rw [List.nil_perm.1 hp]
 | x ::a,[],_,_,hp=>by have:=hp.length_eq;simp at this
 | x ::a,y ::b,ha,hb,hp=>by
  rw [List.pairwise_cons] at ha hb
  have hxy:x=y:=by
   rcases List.mem_cons.1 (hp.mem_iff.1 List.mem_cons_self) with h|h
   ·exact h
   ·rcases List.mem_cons.1 (hp.mem_iff.2 (List.mem_cons_self (a:=y))) with h2|h2
    ·exact h2.symm
    ·have h3:=hb.1 x h
     have h4:=(ha.1 y h2).1
     rw [h3] at h4;cases h4
  subst hxy
  rw [perm_unique ha.2 hb.2 (List.Perm.cons_inv hp)]
def befW (a b:RW'):Bool:=decide (a.1<b.1) || (decide (a.1=b.1) && Op.bytesLess (bl a.2.1) (bl b.2.1))
theorem rows_strict {l:List IT} (h:StrictP l) (q:QY):(l.map (rowQ q)).Pairwise (fun x y=>befW x y=true∧befW y x=false):=by
 rw [List.pairwise_map]
 refine h.imp fun {a b} hab=>?_
 have h1:befW (rowQ q a) (rowQ q b)=befP a b:=rfl
 have h2:befW (rowQ q b) (rowQ q a)=befP b a:=rfl
 rw [h1,h2]
 refine ⟨hab,?_⟩
 cases hba:befP b a with
 | false=>rfl
 | true=>have:=befP_trans hab hba;rw [befP_irrefl] at this;cases this
theorem rows_sorted (q:QY) (l:List IT) {L:List (PK×CL)} {s:List RW'} (hL:L.Perm ((stableS ltK l).foldl (stepM q) [])) (hs:s.Perm (L.map (rowM q))) (ho:s.Pairwise fun x y=>befW y x=false) :
  s=(partsQ' q l).map (rowQ q):=by
 have h:=fold_eqv q (stableS ltK l) [] [] ⟨⟨by simp,fun e he=>by cases he⟩,List.Pairwise.nil,List.Perm.refl _⟩
 refine (perm_unique (rows_strict h.2.1 q) ho ?_).symm
 refine (h.2.2.map (rowQ q)).trans ?_
 rw [List.map_map]
 have e:(rowQ q ∘ toP)=rowM q:=rfl
 rw [e]
 exact ((hL.map (rowM q)).symm).trans hs.symm
end Go.Proofs.YtdcphpbimeoioaaGreatDoorE
end
section
set_option linter.unusedSectionVars false
namespace Go.Proofs.YtdcphpbimeoioaaGreatDoorE
open Go Go.Proofs
set_option linter.unusedVariables false
set_option linter.unusedSimpArgs false
theorem inv0:Inv1 ([]:List (PK×CL)):=⟨List.nodup_nil,fun e he=>by cases he⟩
theorem ltK_swo:Go.Sort.SWO ltK where
 irrefl x:=bl_irrefl _
 trans x y z h1 h2:=bl_trans _ _ _ h1 h2
 ntrans x y z h1 h2:=by
  unfold ltK at *
  by_cases e1:bl x.2.1=bl y.2.1
  ·rw [e1];exact h2
  ·by_cases e2:bl y.2.1=bl z.2.1
   ·rw [← e2];exact h1
   ·have g1:=(bl_total _ _ e1).resolve_left (by rw [h1];simp)
    have g2:=(bl_total _ _ e2).resolve_left (by rw [h2];simp)
    exact bl_asymm _ _ (bl_trans _ _ _ g2 g1)
theorem answer_stb (q:QY) {l l':List IT} (h:Stb ltK l l'):answerQ q l=answerQ q l':=by
 unfold answerQ partsQ'
 rw [stb_unique ltK_swo (stableS_ok ltK_swo l).1 (stableS_ok ltK_swo l').1 (((stableS_ok ltK_swo l).2.trans h).trans (stableS_ok ltK_swo l').2.symm)]
end Go.Proofs.YtdcphpbimeoioaaGreatDoorE
end
section
set_option linter.unusedSectionVars false
namespace Go.Proofs.YtdcphpbimeoioaaGreatDoorE
open Go Go.Proofs
set_option linter.unusedVariables false
set_option linter.unusedSimpArgs false
section
variable {α:Type} {lt:α→α→Bool}
def Swapped (l r:List α) (a b n:Nat):Prop:=r.length=l.length∧∀ k,r[k]?=if a≤k∧k<a+n then l[b+(k - a)]? else if b≤k∧k<b+n then l[a+(k - b)]? else l[k]?
def Rotated (l r:List α) (a m b:Nat):Prop:=r.length=l.length∧∀ k,r[k]?=if a≤k∧k<b then (if k<a+(b - m) then l[m+(k - a)]? else l[a+(k - (a+(b - m)))]?) else l[k]?
theorem Rotated.step_gt {l l' r:List α} {m i j:Nat} (him:i≤m) (h:j<i) (h1:Swapped l l' (m - i) m j) (h2:Rotated l' r (m - i+j) m (m+j)):Rotated l r (m - i) m (m+j):=by
 refine ⟨h2.1.trans h1.1,fun k=>?_⟩
 rw [h2.2 k]
 simp only [h1.2]
 (repeat' split)<;>first|(exfalso;omega)|rfl|(congr 1;omega)
theorem Rotated.step_lt {l l' r:List α} {m i j:Nat} (him:i≤m) (h:i<j) (h1:Swapped l l' (m - i) (m+j - i) i) (h2:Rotated l' r (m - i) m (m+(j - i))):Rotated l r (m - i) m (m+j):=by
 refine ⟨h2.1.trans h1.1,fun k=>?_⟩
 rw [h2.2 k]
 simp only [h1.2]
 (repeat' split)<;>first|(exfalso;omega)|rfl|(congr 1;omega)
theorem Rotated.step_eq {l r:List α} {m i:Nat} (him:i≤m) (h1:Swapped l r (m - i) m i):Rotated l r (m - i) m (m+i):=by
 refine ⟨h1.1,fun k=>?_⟩
 rw [h1.2 k]
 (repeat' split)<;>first|(exfalso;omega)|rfl|(congr 1;omega)
theorem Rotated.app {pre U V post r:List α} (h:Rotated (pre++(U++(V++post))) r pre.length (pre.length+U.length) (pre.length+U.length+V.length)):r=pre++(V++(U++post)):=by
 apply List.ext_getElem?
 intro k
 rw [h.2 k]
 by_cases h1:k<pre.length
 ·rw [if_neg (by omega),List.getElem?_append_left h1,List.getElem?_append_left h1]
 rw [List.getElem?_append_right (l₁:=pre) (l₂:=V++(U++post)) (by omega)]
 by_cases h2:k<pre.length+V.length
 ·rw [if_pos (by omega),if_pos (by omega),List.getElem?_append_right (by omega),List.getElem?_append_right (by omega),List.getElem?_append_left (by omega),List.getElem?_append_left (by omega)]
  congr 1;omega
 rw [List.getElem?_append_right (l₁:=V) (l₂:=U++post) (by omega)]
 by_cases h3:k<pre.length+V.length+U.length
 ·rw [if_pos (by omega),if_neg (by omega),List.getElem?_append_right (by omega),List.getElem?_append_left (by omega),List.getElem?_append_left (by omega)]
  congr 1;omega
 rw [if_neg (by omega),List.getElem?_append_right (by omega),List.getElem?_append_right (by omega),List.getElem?_append_right (by omega),List.getElem?_append_right (by omega)]
 congr 1;omega
theorem cut_ends (hS:Go.Sort.SWO lt) {A1 A2 B1 B2:List α} (hA:Srt lt (A1++A2)) (hB:Srt lt (B1++B2)) (c1:A2=[]∨B1=[]∨∃ x y,A2.head?=some x∧B1.getLast?=some y∧lt y x=true)
  (c2:A1=[]∨B2=[]∨∃ x y,A1.getLast?=some x∧B2.head?=some y∧lt y x=false):(∀ x∈A2,∀ y∈B1,lt y x=true)∧∀ x∈A1,∀ y∈B2,lt y x=false:=by
 have a:=srt_app.1 hA
 have b:=srt_app.1 hB
 have hd:∀ {l:List α} {x:α},Srt lt l→l.head?=some x→∀ y∈l,lt y x=false:=by
  intro l x hs hh y hy
  cases l with
  | nil=>cases hh
  | cons z l =>
   simp only [List.head?_cons,Option.some.injEq] at hh
   subst hh
   rcases List.mem_cons.1 hy with rfl|hy
   ·exact hS.irrefl _
   ·exact (srt_cons.1 hs).1 y hy
 have hl:∀ {l:List α} {x:α},Srt lt l→l.getLast?=some x→∀ y∈l,lt x y=false:=by
  intro l x hs hh y hy
  obtain ⟨l',rfl⟩:=List.getLast?_eq_some_iff.1 hh
  have k:=srt_app.1 hs
  rcases List.mem_append.1 hy with hy|hy
  ·exact k.2.2 y hy x (by simp)
  ·simp at hy;subst hy;exact hS.irrefl _
 constructor
 ·intro x hx y hy
  rcases c1 with h|h|⟨x0,y0,h1,h2,h3⟩
  ·rw [h] at hx;cases hx
  ·rw [h] at hy;cases hy
  ·have e1:=hd a.2.1 h1 x hx
   have e2:=hl b.1 h2 y hy
   cases h:lt y x with
   | true=>rfl
   | false =>
    have:=hS.ntrans y0 y x0 e2 (hS.ntrans y x x0 h e1)
    rw [this] at h3;cases h3
 ·intro x hx y hy
  rcases c2 with h|h|⟨x0,y0,h1,h2,h3⟩
  ·rw [h] at hx;cases hx
  ·rw [h] at hy;cases hy
  ·have e1:=hl a.1 h1 x hx
   have e2:=hd b.2.1 h2 y hy
   exact hS.ntrans y y0 x e2 (hS.ntrans y0 x0 x h3 e1)
end
end Go.Proofs.YtdcphpbimeoioaaGreatDoorE
end
section
set_option linter.unusedSectionVars false
namespace Go.Proofs.YtdcphpbimeoioaaGreatDoorE
open Go Go.Proofs
set_option linter.unusedVariables false
set_option linter.unusedSimpArgs false
theorem at_app {α:Type} (p q:List α) (x:α) {i:Nat} (h:i=p.length):(p++x ::q)[i]?=some x:=by subst h;simp
theorem set_app {α:Type} (p q:List α) (x y:α) {i:Nat} (h:i=p.length):(p++x ::q).set i y=p++y ::q:=by subst h;simp
theorem cmpI (n:Nat) (x y:IT):row_Answer1 n (x,y,())=some ((Lib.compareBytes (bl x.2.1) (bl y.2.1),()),((),(),())):=by
 simp only [row_Answer1,s_Compare,bindN_s];rfl
theorem ltc (x y:IT):decide (Lib.compareBytes (bl x.2.1) (bl y.2.1)<0)=ltK x y:=by
 unfold ltK
 rw [Bool.eq_iff_iff,decide_eq_true_eq,cmp_lt]
theorem ins_l1 (n:Nat) (x:IT) (pre:List IT) (b i:Int):∀ (d:Nat) (S post:List IT) (g:Nat),S.length=d→d<g→pre.length+S.length≤100000000 →
  ∃ S1 S2,S=S1++S2∧(∀ y∈S2,ltK x y=true)∧(S1=[]∨∃ y,S1.getLast?=some y∧ltK x y=false) ∧
   sl_insItem_l1 n g (pre++(S++x ::post),(pre.length:Int),b,(),i,((pre.length+S.length:Nat):Int),())=some (.inl (pre++(S1++x ::(S2++post)),(pre.length:Int),b,(),i,()))
 | 0,S,post,g,hd,hg,hl=>by
  obtain ⟨g,rfl⟩:∃ g',g=g'+1:=⟨g - 1,by omega⟩
  have hS:S=[]:=List.length_eq_zero_iff.1 hd
  subst hS
  refine ⟨[],[],rfl,fun y hy=>(by cases hy), .inl rfl,?_⟩
  have c:¬ (pre.length:Int)<((pre.length+([]:List IT).length:Nat):Int):=by simp
  simp only [sl_insItem_l1,ilt_eq,c,decide_false,cond_false]
  rfl
 | d+1,S,post,g,hd,hg,hl=>by
  obtain ⟨g,rfl⟩:∃ g',g=g'+1:=⟨g - 1,by omega⟩
  rcases List.eq_nil_or_concat S with h0|⟨S',y,h0⟩
  ·rw [h0] at hd;simp at hd
  rw [List.concat_eq_append] at h0
  subst h0
  have hd':S'.length=d:=by simpa using hd
  have hl':pre.length+S'.length+1≤100000000:=by simp at hl;omega
  have ej:pre.length+(S'++[y]).length=pre.length+S'.length+1:=by simp;omega
  rw [ej]
  have e1:pre++(S'++[y]++x ::post)=(pre++(S'++[y]))++x ::post:=by simp
  have e2:pre++(S'++[y]++x ::post)=(pre++S')++y ::(x ::post):=by simp
  have hx:(pre++(S'++[y]++x ::post))[pre.length+S'.length+1]?=some x:=by rw [e1];exact at_app _ _ _ (by simp;omega)
  have hy:(pre++(S'++[y]++x ::post))[pre.length+S'.length]?=some y:=by rw [e2];exact at_app _ _ _ (by simp)
  have s1:(pre++(S'++[y]++x ::post)).set (pre.length+S'.length+1) y=(pre++S')++y ::(y ::post):=by rw [e1,set_app _ _ _ _ (by simp;omega)];simp
  have hy2:((pre++S')++y ::(y ::post))[pre.length+S'.length]?=some y:=at_app _ _ _ (by simp)
  have s2:((pre++S')++y ::(y ::post)).set (pre.length+S'.length) x=pre++(S'++x ::(y ::post)):=by rw [set_app _ _ _ _ (by simp)];simp
  have c:(pre.length:Int)<((pre.length+S'.length+1:Nat):Int):=by omega
  have c0:(0:Int)≤((pre.length+S'.length+1:Nat):Int):=by omega
  have c1:(0:Int)≤((pre.length+S'.length:Nat):Int):=by omega
  have j1:isub .i64 ((pre.length+S'.length+1:Nat):Int) 1=((pre.length+S'.length:Nat):Int):=by rw [isub64 (by omega) (by omega)];omega
  cases hlt:ltK x y with
  | true =>
   obtain ⟨S1,S2,h1,h2,h3,h4⟩:=ins_l1 n x pre b i d S' (y ::post) g hd' (by omega) (by omega)
   refine ⟨S1,S2++[y],by rw [h1];simp,fun z hz=>?_,h3,?_⟩
   ·rcases List.mem_append.1 hz with hz|hz
    ·exact h2 z hz
    ·simp only [List.mem_singleton] at hz;rw [hz];exact hlt
   ·simp only [sl_insItem_l1,ilt_eq,ile_eq,c,c0,c1,j1,decide_true,cond_true,lat_eq,iN,Int.toNat_natCast,hx,hy,bindN_s,cmpI n x y,ltc,hlt,lputS,s1,hy2,s2,h4,bindL_inl]
    simp
  | false =>
   refine ⟨S'++[y],[],by simp,fun z hz=>(by cases hz), .inr ⟨y,by simp,hlt⟩,?_⟩
   simp only [sl_insItem_l1,ilt_eq,ile_eq,c,c0,c1,j1,decide_true,cond_true,lat_eq,iN,Int.toNat_natCast,hx,hy,bindN_s,cmpI n x y,ltc,hlt,cond_false]
   simp
theorem ins_place {S S1 S2:List IT} {x:IT} (hS:Srt ltK S) (h1:S=S1++S2) (h2:∀ y∈S2,ltK x y=true) (h3:S1=[]∨∃ y,S1.getLast?=some y∧ltK x y=false):Srt ltK (S1++x ::S2)∧Stb ltK (S1++x ::S2) (S++[x]):=by
 subst h1
 have hc:=srt_app.1 hS
 have h4:∀ y∈S1,ltK x y=false:=by
  have:=(cut_ends ltK_swo (A1:=S1) (A2:=S2) (B1:=[]) (B2:=[x]) hS (srt_cons.2 ⟨fun _ h=>(by cases h),List.Pairwise.nil⟩) (.inr (.inl rfl)) (by
   rcases h3 with h3|⟨y,h3,h5⟩
   ·exact .inl h3
   ·exact .inr (.inr ⟨y,x,h3,rfl,h5⟩))).2
  exact fun y hy=>this y hy x (by simp)
 have hL:Srt ltK (S1++[x]):=srt_app.2 ⟨hc.1,srt_cons.2 ⟨fun _ h=>(by cases h),List.Pairwise.nil⟩,fun a ha b hb=>by simp only [List.mem_singleton] at hb;rw [hb];exact h4 a ha⟩
 have hm:=merge_cut ltK_swo (A1:=S1) (A2:=S2) (B1:=[x]) (B2:=[]) (L:=S1++[x]) (R:=S2) hS (srt_cons.2 ⟨fun _ h=>(by cases h),List.Pairwise.nil⟩) (fun a ha b hb=>by simp only [List.mem_singleton] at hb;rw [hb];exact h2 a ha) (fun _ _ _ h=>by cases h) hL (Stb.refl _) hc.2.1 (by rw [List.append_nil];exact Stb.refl _)
 have e:S1++[x]++S2=S1++x ::S2:=by simp
 rw [e] at hm
 exact hm
theorem ins_l0 {n:Nat} (hn:Big n) (pre:List IT):∀ (d:Nat) (S X post:List IT) (g:Nat),X.length=d→d<g→pre.length+S.length+X.length≤100000000→Srt ltK S →
  ∃ R,Srt ltK R∧Stb ltK R (S++X)∧sl_insItem_l0 n g (pre++(S++(X++post)),(pre.length:Int),((pre.length+S.length+X.length:Nat):Int),(),((pre.length+S.length:Nat):Int),())=some (.inl (pre++(R++post),()))
 | 0,S,X,post,g,hd,hg,hl,hS=>by
  obtain ⟨g,rfl⟩:∃ g',g=g'+1:=⟨g - 1,by omega⟩
  have hX:X=[]:=List.length_eq_zero_iff.1 hd
  subst hX
  refine ⟨S,hS,by rw [List.append_nil];exact Stb.refl _,?_⟩
  have c:¬ ((pre.length+S.length:Nat):Int)<((pre.length+S.length+([]:List IT).length:Nat):Int):=by simp
  simp only [sl_insItem_l0,ilt_eq,c,decide_false,cond_false]
  rfl
 | d+1,S,X,post,g,hd,hg,hl,hS=>by
  obtain ⟨g,rfl⟩:∃ g',g=g'+1:=⟨g - 1,by omega⟩
  cases X with
  | nil=>simp at hd
  | cons x X =>
   have hd':X.length=d:=by simpa using hd
   have hl':pre.length+S.length+X.length+1≤100000000:=by simp at hl;omega
   obtain ⟨S1,S2,h1,h2,h3,h4⟩:=ins_l1 n x pre ((pre.length+S.length+(x ::X).length:Nat):Int) ((pre.length+S.length:Nat):Int) S.length S (X++post) n rfl (by unfold Big at hn;omega) (by omega)
   obtain ⟨g1,g2⟩:=ins_place hS h1 h2 h3
   have hlen:(S1++x ::S2).length=S.length+1:=by rw [h1];simp;omega
   obtain ⟨R,r1,r2,r3⟩:=ins_l0 hn pre d (S1++x ::S2) X post g hd' (by omega) (by omega) g1
   refine ⟨R,r1,r2.trans (by have:=g2.app (Stb.refl X);simpa using this),?_⟩
   have c:((pre.length+S.length:Nat):Int)<((pre.length+S.length+(x ::X).length:Nat):Int):=by simp;omega
   have e1:iadd .i64 ((pre.length+S.length:Nat):Int) 1=((pre.length+(S1++x ::S2).length:Nat):Int):=by rw [iadd64 (by omega) (by omega),hlen];omega
   have e2:pre.length+S.length+(x ::X).length=pre.length+(S1++x ::S2).length+X.length:=by rw [hlen];simp;omega
   have e3:pre++(S1++x ::(S2++(X++post)))=pre++(S1++x ::S2++(X++post)):=by simp
   have e4:pre++(S++(x ::X++post))=pre++(S++x ::(X++post)):=by simp
   rw [e4]
   simp only [sl_insItem_l0,ilt_eq,c,decide_true,cond_true,h4,bindL_inl,e1]
   rw [e2,e3,r3,bindL_inl]
theorem ins_v {n:Nat} (hn:Big n) (pre X post:List IT) (hl:pre.length+X.length≤100000000):∃ R,Srt ltK R∧Stb ltK R X∧sl_insItem n (pre++(X++post),(pre.length:Int),((pre.length+X.length:Nat):Int),(),())=some ((),(pre++(R++post),((),((),((),()))))):=by
 cases X with
 | nil =>
  refine ⟨[],List.Pairwise.nil,Stb.refl _,?_⟩
  obtain ⟨m,rfl⟩:∃ m,n=m+1:=⟨n - 1,by unfold Big at hn;omega⟩
  have e1:iadd .i64 (pre.length:Int) 1=((pre.length+1:Nat):Int):=iadd1 (by omega)
  have c:¬ ((pre.length+1:Nat):Int)<((pre.length+([]:List IT).length:Nat):Int):=by simp;omega
  simp only [sl_insItem,sl_insItem_l0,e1,ilt_eq,c,decide_false,cond_false,bindL_inl]
 | cons x X =>
  have hl':pre.length+X.length+1≤100000000:=by simp at hl;omega
  obtain ⟨R,r1,r2,r3⟩:=ins_l0 hn pre X.length [x] X post n rfl (by unfold Big at hn;omega) (by simp;omega) (srt_cons.2 ⟨fun _ h=>(by cases h),List.Pairwise.nil⟩)
  refine ⟨R,r1,by simpa using r2,?_⟩
  have e1:iadd .i64 (pre.length:Int) 1=((pre.length+([x]:List IT).length:Nat):Int):=iadd1 (by omega)
  have e2:pre.length+(x ::X).length=pre.length+([x]:List IT).length+X.length:=by simp;omega
  have e3:pre++(x ::X++post)=pre++([x]++(X++post)):=by simp
  rw [e2,e3]
  simp only [sl_insItem,e1,r3,bindL_inl]
theorem swap_step {l l':List IT} {a b i:Nat} (h:Swapped l l' a b i) (hab:a+i<b) (hb:b+i<l.length) :
  ∃ u v,l'[b+i]?=some v∧l'[a+i]?=some u∧Swapped l ((l'.set (a+i) v).set (b+i) u) a b (i+1):=by
 have hb1:l'[b+i]?=l[b+i]?:=by rw [h.2 (b+i),if_neg (by omega),if_neg (by omega)]
 have ha1:l'[a+i]?=l[a+i]?:=by rw [h.2 (a+i),if_neg (by omega),if_neg (by omega)]
 have hv:=List.getElem?_eq_getElem hb
 have hu:=List.getElem?_eq_getElem (show a+i<l.length by omega)
 refine ⟨l[a+i],l[b+i],hb1.trans hv,ha1.trans hu,by simp [h.1],fun k=>?_⟩
 rw [List.getElem?_set,List.getElem?_set]
 have hlen:=h.1
 by_cases k1:b+i=k
 ·rw [if_pos k1,if_pos (by simp;omega),if_neg (by omega),if_pos (by omega),← hu]
  congr 1;omega
 ·rw [if_neg k1]
  by_cases k2:a+i=k
  ·rw [if_pos k2,if_pos (by omega),if_pos (by omega),← hv]
   congr 1;omega
  ·rw [if_neg k2,h.2 k]
   have c1:(a≤k∧k<a+i)↔(a≤k∧k<a+(i+1)):=by omega
   have c2:(b≤k∧k<b+i)↔(b≤k∧k<b+(i+1)):=by omega
   by_cases q1:a≤k∧k<a+i
   ·rw [if_pos q1,if_pos (c1.1 q1)]
   ·rw [if_neg q1,if_neg (fun h=>q1 (c1.2 h))]
    by_cases q2:b≤k∧k<b+i
    ·rw [if_pos q2,if_pos (c2.1 q2)]
    ·rw [if_neg q2,if_neg (fun h=>q2 (c2.2 h))]
theorem swap_l0 {n:Nat} (l:List IT) (a b m:Nat) (hab:a+m≤b) (hb:b+m≤l.length) (hl:l.length≤100000000):∀ (d i g:Nat) (l':List IT),i+d=m→d<g→Swapped l l' a b i →
  ∃ r,Swapped l r a b m∧sl_swapItem_l0 n g (l',(a:Int),(b:Int),(m:Int),(i:Int),())=some (.inl (r,()))
 | 0,i,g,l',hd,hg,h=>by
  obtain ⟨g,rfl⟩:∃ g',g=g'+1:=⟨g - 1,by omega⟩
  have e:i=m:=by omega
  subst e
  refine ⟨l',h,?_⟩
  have c:¬ (i:Int)<(i:Int):=Int.lt_irrefl _
  simp only [sl_swapItem_l0,ilt_eq,c,decide_false,cond_false]
 | d+1,i,g,l',hd,hg,h=>by
  obtain ⟨g,rfl⟩:∃ g',g=g'+1:=⟨g - 1,by omega⟩
  obtain ⟨u,v,h1,h2,h3⟩:=swap_step h (by omega) (by omega)
  obtain ⟨r,r1,r2⟩:=swap_l0 (n:=n) l a b m hab hb hl d (i+1) g _ (by omega) (by omega) h3
  refine ⟨r,r1,?_⟩
  have c:(i:Int)<(m:Int):=by omega
  have ea:iadd .i64 (a:Int) (i:Int)=((a+i:Nat):Int):=by rw [iadd64 (by omega) (by omega)];omega
  have eb:iadd .i64 (b:Int) (i:Int)=((b+i:Nat):Int):=by rw [iadd64 (by omega) (by omega)];omega
  have ca:(0:Int)≤((a+i:Nat):Int):=by omega
  have cb:(0:Int)≤((b+i:Nat):Int):=by omega
  have h4:(l'.set (a+i) v)[b+i]?=some v:=by rw [List.getElem?_set,if_neg (by omega)];exact h1
  simp only [sl_swapItem_l0,ilt_eq,ile_eq,c,ea,eb,ca,cb,decide_true,cond_true,lat_eq,iN,Int.toNat_natCast,h1,h2,bindN_s,lputS,h4,iadd1 (i:=i) (by omega),r2,bindL_inl]
theorem swap_v {n:Nat} (hn:Big n) (l:List IT) (a b m:Nat) (hab:a+m≤b) (hb:b+m≤l.length) (hl:l.length≤100000000):∃ r,Swapped l r a b m∧sl_swapItem n (l,(a:Int),(b:Int),(m:Int),(),())=some ((),(r,((),((),((),((),())))))):=by
 have h0:Swapped l l a b 0:=⟨rfl,fun k=>by rw [if_neg (by omega),if_neg (by omega)]⟩
 obtain ⟨r,r1,r2⟩:=swap_l0 (n:=n) l a b m hab hb hl m 0 n l (by omega) (by unfold Big at hn;omega) h0
 rw [show ((0:Nat):Int)=0 from rfl] at r2
 exact ⟨r,r1,by simp only [sl_swapItem,r2,bindL_inl]⟩
theorem rot_l0 {n:Nat} (hn:Big n) (m:Nat):∀ (d i j g:Nat) (l:List IT),i+j≤d→0<i→0<j→i≤m→m+j≤l.length→l.length≤100000000→d<g →
  ∃ l' k,0<k∧k≤m∧m+k≤l'.length∧l'.length=l.length∧sl_rotItem_l0 n g (l,(m:Int),(),(i:Int),(j:Int),())=some (.inl (l',(m:Int),(),(k:Int),()))∧∀ r,Swapped l' r (m - k) m k→Rotated l r (m - i) m (m+j)
 | 0,i,j,g,l,hd,h1,h2,h3,h4,hl,hg=>by omega
 | d+1,i,j,g,l,hd,h1,h2,h3,h4,hl,hg=>by
  obtain ⟨g,rfl⟩:∃ g',g=g'+1:=⟨g - 1,by omega⟩
  by_cases hij:i=j
  ·subst hij
   refine ⟨l,i,h1,h3,h4,rfl,?_,fun r hr=>Rotated.step_eq h3 hr⟩
   simp only [sl_rotItem_l0,ieq_eq,decide_true,Bool.not_true,cond_false]
  ·have c0:¬ (i:Int)=(j:Int):=by omega
   have ei:isub .i64 (m:Int) (i:Int)=((m - i:Nat):Int):=by rw [isub64 (by omega) (by omega)];omega
   by_cases hlt:j<i
   ·obtain ⟨l1,s1,s2⟩:=swap_v hn l (m - i) m j (by omega) h4 hl
    have hl1:l1.length=l.length:=s1.1
    obtain ⟨l',k,k1,k2,k3,k4,k5,k6⟩:=rot_l0 hn m d (i - j) j g l1 (by omega) (by omega) h2 (by omega) (by omega) (by omega) (by omega)
    refine ⟨l',k,k1,k2,k3,k4.trans hl1,?_,fun r hr=>?_⟩
    ·have c:(j:Int)<(i:Int):=by omega
     have e2:isub .i64 (i:Int) (j:Int)=((i - j:Nat):Int):=by rw [isub64 (by omega) (by omega)];omega
     simp only [sl_rotItem_l0,ieq_eq,ilt_eq,c0,c,decide_false,decide_true,Bool.not_false,cond_true,ei,s2,bindN_s,e2,k5,bindL_inl]
    ·refine Rotated.step_gt h3 hlt s1 ?_
     have:=k6 r hr
     rw [show m - (i - j)=m - i+j by omega] at this
     exact this
   ·obtain ⟨l1,s1,s2⟩:=swap_v hn l (m - i) (m+j - i) i (by omega) (by omega) hl
    have hl1:l1.length=l.length:=s1.1
    obtain ⟨l',k,k1,k2,k3,k4,k5,k6⟩:=rot_l0 hn m d i (j - i) g l1 (by omega) h1 (by omega) h3 (by omega) (by omega) (by omega)
    refine ⟨l',k,k1,k2,k3,k4.trans hl1,?_,fun r hr=>?_⟩
    ·have c:¬ (j:Int)<(i:Int):=by omega
     have e2:isub .i64 (j:Int) (i:Int)=((j - i:Nat):Int):=by rw [isub64 (by omega) (by omega)];omega
     have e3:iadd .i64 (m:Int) (j:Int)=((m+j:Nat):Int):=by rw [iadd64 (by omega) (by omega)];omega
     have e4:isub .i64 ((m+j:Nat):Int) (i:Int)=((m+j - i:Nat):Int):=by rw [isub64 (by omega) (by omega)];omega
     simp only [sl_rotItem_l0,ieq_eq,ilt_eq,c0,c,decide_false,Bool.not_false,cond_true,cond_false,ei,e3,e4,s2,bindN_s,e2,k5,bindL_inl]
    ·exact Rotated.step_lt h3 (by omega) s1 (k6 r hr)
theorem rot_v {n:Nat} (hn:Big n) (pre U V post:List IT) (hU:0<U.length) (hV:0<V.length) (hl:(pre++(U++(V++post))).length≤100000000) :
  sl_rotItem n (pre++(U++(V++post)),(pre.length:Int),((pre.length+U.length:Nat):Int),((pre.length+U.length+V.length:Nat):Int),(),())=some ((),(pre++(V++(U++post)),((),((),((),((),())))))):=by
 have hlen:(pre++(U++(V++post))).length=pre.length+U.length+V.length+post.length:=by simp;omega
 obtain ⟨l',k,k1,k2,k3,k4,k5,k6⟩:=rot_l0 hn (pre.length+U.length) (U.length+V.length) U.length V.length n _ (Nat.le_refl _) hU hV (by omega) (by omega) hl (by unfold Big at hn;omega)
 obtain ⟨r,s1,s2⟩:=swap_v hn l' (pre.length+U.length - k) (pre.length+U.length) k (by omega) k3 (by omega)
 have hr:=k6 r s1
 rw [show pre.length+U.length - U.length=pre.length by omega] at hr
 have e:=Rotated.app hr
 have e1:isub .i64 ((pre.length+U.length:Nat):Int) (pre.length:Int)=(U.length:Int):=by rw [isub64 (by omega) (by omega)];omega
 have e2:isub .i64 ((pre.length+U.length+V.length:Nat):Int) ((pre.length+U.length:Nat):Int)=(V.length:Int):=by rw [isub64 (by omega) (by omega)];omega
 have e3:isub .i64 ((pre.length+U.length:Nat):Int) (k:Int)=((pre.length+U.length - k:Nat):Int):=by rw [isub64 (by omega) (by omega)];omega
 simp only [sl_rotItem,e1,e2,k5,bindL_inl,e3,s2,bindN_s,e]
end Go.Proofs.YtdcphpbimeoioaaGreatDoorE
end
section
set_option linter.unusedSectionVars false
namespace Go.Proofs.YtdcphpbimeoioaaGreatDoorE
open Go Go.Proofs
set_option linter.unusedVariables false
set_option linter.unusedSimpArgs false
theorem half_of (k:Nat) (h:k≤4000000000000000000):iconv .i64 (ishr .u64 (iconv .u64 (k:Int)) 1)=((k / 2:Nat):Int):=by
 unfold iconv ishr
 have e1:IntKind.u64.wrap (k:Int)=(k:Int):=by simp [IntKind.wrap,IntKind.bits,IntKind.signed];omega
 have e2:(k:Int).fdiv (2 ^ (min (1:Int).toNat IntKind.u64.bits))=((k / 2:Nat):Int):=by
  rw [show (2:Int) ^ (min (1:Int).toNat IntKind.u64.bits)=2 from rfl,Int.fdiv_eq_ediv_of_nonneg _ (by decide)];omega
 rw [e1,e2]
 exact wrap64 (by omega) (by omega)
theorem one_zero:decide ((1:Int)<0)=false:=rfl
theorem bsearch {ρ:Type} (Pr:Nat→Bool) {L:Nat→Int→Int→Option ρ} {res:Nat→ρ} (i0 j0:Nat) (hend:∀ (g i j:Nat),¬ i<j→L (g+1) (i:Int) (j:Int)=some (res i))
  (hstep:∀ (g i j:Nat),i0≤i→i<j→j≤j0→L (g+1) (i:Int) (j:Int)=bif Pr ((i+j) / 2) then L g (((i+j) / 2+1:Nat):Int) (j:Int) else L g (i:Int) (((i+j) / 2:Nat):Int)) :
  ∀ (d i j g:Nat),j - i≤d→i≤j→i0≤i→j≤j0→d<g→(i=i0∨Pr (i - 1)=true)→(j=j0∨Pr j=false)→∃ k,i0≤k∧k≤j0∧(k=i0∨Pr (k - 1)=true)∧(k=j0∨Pr k=false)∧L g (i:Int) (j:Int)=some (res k)
 | 0,i,j,g,hd,h1,h2,h3,hg,hi,hj=>by
  obtain ⟨g,rfl⟩:∃ g',g=g'+1:=⟨g - 1,by omega⟩
  have e:i=j:=by omega
  subst e
  exact ⟨i,h2,h3,hi,hj,hend g i i (by omega)⟩
 | d+1,i,j,g,hd,h1,h2,h3,hg,hi,hj=>by
  obtain ⟨g,rfl⟩:∃ g',g=g'+1:=⟨g - 1,by omega⟩
  by_cases hij:i<j
  ·rw [hstep g i j h2 hij h3]
   cases hp:Pr ((i+j) / 2) with
   | true=>exact bsearch Pr i0 j0 hend hstep d _ j g (by omega) (by omega) (by omega) h3 (by omega) (.inr (by rw [Nat.add_sub_cancel];exact hp)) hj
   | false=>exact bsearch Pr i0 j0 hend hstep d i _ g (by omega) (by omega) h2 (by omega) (by omega) hi (.inr hp)
  ·have e:i=j:=by omega
   subst e
   exact ⟨i,h2,h3,hi,hj,hend g i i hij⟩
theorem sym_l1 (n:Nat) (x:IT) (i:Nat):∀ (B pre post:List IT) (g:Nat),B.length<g→pre.length+B.length+1=i→i≤100000000 →
  sl_symItem_l1 n g (pre++x ::(B++post),(i:Int),(pre.length:Int),())=some (.inl (pre++(B++x ::post),()))
 | [],pre,post,g,hg,hi,hl=>by
  obtain ⟨g,rfl⟩:∃ g',g=g'+1:=⟨g - 1,by omega⟩
  have e:isub .i64 (i:Int) 1=(pre.length:Int):=by rw [isub64 (by omega) (by omega)];simp at hi;omega
  have c:¬ (pre.length:Int)<(pre.length:Int):=Int.lt_irrefl _
  simp only [sl_symItem_l1,ilt_eq,e,c,decide_false,cond_false]
  rfl
 | y ::B,pre,post,g,hg,hi,hl=>by
  obtain ⟨g,rfl⟩:∃ g',g=g'+1:=⟨g - 1,by omega⟩
  have hi':pre.length+B.length+2=i:=by simp at hi;omega
  have e:isub .i64 (i:Int) 1=((pre.length+B.length+1:Nat):Int):=by rw [isub64 (by omega) (by omega)];omega
  have c:(pre.length:Int)<((pre.length+B.length+1:Nat):Int):=by omega
  have c0:(0:Int)≤(pre.length:Int):=by omega
  have e1:iadd .i64 (pre.length:Int) 1=((pre.length+1:Nat):Int):=iadd1 (by omega)
  have c1:(0:Int)≤((pre.length+1:Nat):Int):=by omega
  have e2:pre++x ::(y ::B++post)=(pre++[x])++y ::(B++post):=by simp
  have h1:(pre++x ::(y ::B++post))[pre.length+1]?=some y:=by rw [e2];exact at_app _ _ _ (by simp)
  have h0:(pre++x ::(y ::B++post))[pre.length]?=some x:=at_app _ _ _ rfl
  have s1:(pre++x ::(y ::B++post)).set pre.length y=(pre++[y])++y ::(B++post):=by rw [set_app _ _ _ _ rfl];simp
  have h2:((pre++[y])++y ::(B++post))[pre.length+1]?=some y:=at_app _ _ _ (by simp)
  have s2:((pre++[y])++y ::(B++post)).set (pre.length+1) x=(pre++[y])++x ::(B++post):=set_app _ _ _ _ (by simp)
  have ih:=sym_l1 n x i B (pre++[y]) post g (by simp at hg;omega) (by simp;omega) hl
  have e3:(((pre++[y]).length:Nat):Int)=((pre.length+1:Nat):Int):=by simp
  rw [e3] at ih
  simp only [sl_symItem_l1,ilt_eq,ile_eq,e,c,c0,c1,e1,decide_true,cond_true,lat_eq,iN,Int.toNat_natCast,h0,h1,bindN_s,lputS,s1,h2,s2,ih,bindL_inl]
  simp
theorem sym_l3 (n:Nat) (y:IT) (pre:List IT):∀ (d:Nat) (A post:List IT) (g:Nat),A.length=d→d<g→pre.length+A.length≤100000000 →
  sl_symItem_l3 n g (pre++(A++y ::post),(pre.length:Int),((pre.length+A.length:Nat):Int),())=some (.inl (pre++y ::(A++post),()))
 | 0,A,post,g,hd,hg,hl=>by
  obtain ⟨g,rfl⟩:∃ g',g=g'+1:=⟨g - 1,by omega⟩
  have hA:A=[]:=List.length_eq_zero_iff.1 hd
  subst hA
  have c:¬ (pre.length:Int)<((pre.length+([]:List IT).length:Nat):Int):=by simp
  simp only [sl_symItem_l3,ilt_eq,c,decide_false,cond_false]
  rfl
 | d+1,A,post,g,hd,hg,hl=>by
  obtain ⟨g,rfl⟩:∃ g',g=g'+1:=⟨g - 1,by omega⟩
  rcases List.eq_nil_or_concat A with h0|⟨A',z,h0⟩
  ·rw [h0] at hd;simp at hd
  rw [List.concat_eq_append] at h0
  subst h0
  have hd':A'.length=d:=by simpa using hd
  have hl':pre.length+A'.length+1≤100000000:=by simp at hl;omega
  have ej:pre.length+(A'++[z]).length=pre.length+A'.length+1:=by simp;omega
  rw [ej]
  have e1:pre++(A'++[z]++y ::post)=(pre++(A'++[z]))++y ::post:=by simp
  have e2:pre++(A'++[z]++y ::post)=(pre++A')++z ::(y ::post):=by simp
  have hy:(pre++(A'++[z]++y ::post))[pre.length+A'.length+1]?=some y:=by rw [e1];exact at_app _ _ _ (by simp;omega)
  have hz:(pre++(A'++[z]++y ::post))[pre.length+A'.length]?=some z:=by rw [e2];exact at_app _ _ _ (by simp)
  have s1:(pre++(A'++[z]++y ::post)).set (pre.length+A'.length+1) z=(pre++A')++z ::(z ::post):=by rw [e1,set_app _ _ _ _ (by simp;omega)];simp
  have hz2:((pre++A')++z ::(z ::post))[pre.length+A'.length]?=some z:=at_app _ _ _ (by simp)
  have s2:((pre++A')++z ::(z ::post)).set (pre.length+A'.length) y=pre++(A'++y ::(z ::post)):=by rw [set_app _ _ _ _ (by simp)];simp
  have c:(pre.length:Int)<((pre.length+A'.length+1:Nat):Int):=by omega
  have c0:(0:Int)≤((pre.length+A'.length+1:Nat):Int):=by omega
  have c1:(0:Int)≤((pre.length+A'.length:Nat):Int):=by omega
  have j1:isub .i64 ((pre.length+A'.length+1:Nat):Int) 1=((pre.length+A'.length:Nat):Int):=by rw [isub64 (by omega) (by omega)];omega
  have ih:=sym_l3 n y pre d A' (z ::post) g hd' (by omega) (by omega)
  simp only [sl_symItem_l3,ilt_eq,ile_eq,c,c0,c1,j1,decide_true,cond_true,lat_eq,iN,Int.toNat_natCast,hy,hz,bindN_s,lputS,s1,hz2,s2,ih,bindL_inl]
  simp
theorem head_drop {α:Type} {l:List α} {i:Nat} (h:i<l.length):(l.drop i).head?=some l[i]:=by rw [List.head?_drop,List.getElem?_eq_getElem h]
theorem last_take {α:Type} {l:List α} {i:Nat} (h0:0<i) (h:i≤l.length):(l.take i).getLast?=some (l[i - 1]'(by omega)):=by
 rw [List.getLast?_eq_getElem?,List.length_take,Nat.min_eq_left h,List.getElem?_take]
 rw [if_pos (by omega),List.getElem?_eq_getElem (by omega)]
theorem srt_one (x:IT):Srt ltK [x]:=srt_cons.2 ⟨fun _ h=>(by cases h),List.Pairwise.nil⟩
theorem sym_one {n:Nat} (hn:Big n) (x:IT) (pre B post:List IT) (hB:Srt ltK B) (hl:pre.length+B.length+1≤100000000) :
  ∃ R,Srt ltK R∧Stb ltK R (x ::B)∧R.length=B.length+1∧(bindL (sl_symItem_l0 n n (pre++x ::(B++post),(pre.length:Int),(),((pre.length+1:Nat):Int),((pre.length+1+B.length:Nat):Int),())) (fun a1 =>
   bindL (sl_symItem_l1 n n (a1.1,a1.2.2.1,a1.2.1,())) (fun a3=>some (((),(a3.1,((),((),((),((),())))))):RtEl sl_symItem_rs×OutEl sl_symItem_sg)) fun b4=>none) fun b2=>none)=some ((),(pre++(R++post),((),((),((),((),())))))):=by
 have hn':=hn
 unfold Big at hn'
 have at1:∀ k,(hk1:pre.length+1≤k)→(hk:k<pre.length+1+B.length)→(pre++x ::(B++post))[k]?=some (B[k - (pre.length+1)]'(by omega)):=fun k h1 h2=>by
  rw [show pre++x ::(B++post)=(pre++[x])++(B++post) by simp,List.getElem?_append_right (by simp;omega),List.getElem?_append_left (by simp;omega)]
  simp only [List.length_append,List.length_singleton]
  exact List.getElem?_eq_getElem _
 have hx:(pre++x ::(B++post))[pre.length]?=some x:=at_app _ _ _ rfl
 obtain ⟨k,k1,k2,k3,k4,k5⟩:=bsearch (fun k=>match B[k - (pre.length+1)]? with|some y=>ltK y x|none=>false) (L:=fun g i j=>sl_symItem_l0 n g (pre++x ::(B++post),(pre.length:Int),(),i,j,())) (res:=fun i => .inl (pre++x ::(B++post),(pre.length:Int),(i:Int),())) (pre.length+1) (pre.length+1+B.length) (fun g i j hij=>by
   have c:¬ (i:Int)<(j:Int):=by omega
   simp only [sl_symItem_l0,ilt_eq,c,decide_false,cond_false]) (fun g i j h1 h2 h3=>by
   have c:(i:Int)<(j:Int):=by omega
   have e:iadd .i64 (i:Int) (j:Int)=((i+j:Nat):Int):=by rw [iadd64 (by omega) (by omega)];omega
   have eh:=half_of (i+j) (by omega)
   have c0:(0:Int)≤(((i+j) / 2:Nat):Int):=by omega
   have cp:(0:Int)≤(pre.length:Int):=by omega
   have hh:=at1 ((i+j) / 2) (by omega) (by omega)
   have e1:iadd .i64 (((i+j) / 2:Nat):Int) 1=(((i+j) / 2+1:Nat):Int):=iadd1 (by omega)
   have hb:B[(i+j) / 2 - (pre.length+1)]?=some (B[(i+j) / 2 - (pre.length+1)]'(by omega)):=List.getElem?_eq_getElem _
   simp only [sl_symItem_l0,ilt_eq,ile_eq,c,e,eh,c0,cp,one_zero,decide_true,cond_true,cond_false,lat_eq,iN,Int.toNat_natCast,hh,hx,bindN_s,cmpI n _ x,ltc,e1,hb,bindL_id1]) B.length (pre.length+1) (pre.length+1+B.length) n (by omega) (by omega) (Nat.le_refl _) (Nat.le_refl _) (by omega) (.inl rfl) (.inl rfl)
 generalize hq:k - (pre.length+1)=q at *
 have hk:k=pre.length+1+q:=by omega
 have hqB:q≤B.length:=by omega
 have hBq:=List.take_append_drop q B
 have hB2:Srt ltK (B.take q++B.drop q):=by rw [hBq];exact hB
 have f1:∀ y∈B.take q,ltK y x=true:=by
  have:=(cut_ends ltK_swo (A1:=[]) (A2:=[x]) (srt_one x) hB2 (by
   rcases k3 with k3|k3
   ·right;left
    rw [show q=0 by omega];rfl
   ·by_cases h0:q=0
    ·right;left;rw [h0];rfl
    ·right;right
     refine ⟨x,_,rfl,last_take (by omega) hqB,?_⟩
     rw [show k - 1 - (pre.length+1)=q - 1 by omega,List.getElem?_eq_getElem (by omega)] at k3
     exact k3) (.inl rfl)).1
  exact fun y hy=>this x (by simp) y hy
 have f2:∀ y∈B.drop q,ltK y x=false:=by
  have:=(cut_ends ltK_swo (A1:=[x]) (A2:=[]) (srt_one x) hB2 (.inl rfl) (by
   by_cases h0:q<B.length
   ·right;right
    refine ⟨x,_,rfl,head_drop h0,?_⟩
    rcases k4 with k4|k4
    ·omega
    ·rw [List.getElem?_eq_getElem h0] at k4;exact k4
   ·right;left;exact List.drop_of_length_le (by omega))).2
  exact fun y hy=>this x (by simp) y hy
 have hm:=merge_cut ltK_swo (A1:=[]) (A2:=[x]) (L:=B.take q) (R:=[x]++B.drop q) (srt_one x) hB2 (fun a ha b hb=>by simp only [List.mem_singleton] at ha;rw [ha];exact f1 b hb) (fun _ h=>(by cases h)) (srt_app.1 hB2).1 (by rw [List.nil_append];exact Stb.refl _)
  (srt_app.2 ⟨srt_one x,(srt_app.1 hB2).2.1,fun a ha b hb=>by simp only [List.mem_singleton] at ha;rw [ha];exact f2 b hb⟩) (Stb.refl _)
 refine ⟨B.take q++x ::B.drop q,hm.1,by have:=hm.2;rw [hBq] at this;exact this,by simp;omega,?_⟩
 have h1:=sym_l1 n x k (B.take q) pre (B.drop q++post) n (by simp;omega) (by simp;omega) (by omega)
 have eB:B.take q++(B.drop q++post)=B++post:=by rw [← List.append_assoc,hBq]
 rw [eB] at h1
 have k5':sl_symItem_l0 n n (pre++x ::(B++post),(pre.length:Int),(),((pre.length+1:Nat):Int),((pre.length+1+B.length:Nat):Int),())=some (.inl (pre++x ::(B++post),(pre.length:Int),(k:Int),())):=k5
 simp only [k5',bindL_inl,h1]
 simp
theorem sym_two {n:Nat} (hn:Big n) (y:IT) (pre A post:List IT) (hA:Srt ltK A) (hl:pre.length+A.length+1≤100000000) :
  ∃ R,Srt ltK R∧Stb ltK R (A++[y])∧R.length=A.length+1∧(bindL (sl_symItem_l2 n n (pre++(A++y ::post),((pre.length+A.length:Nat):Int),(),(pre.length:Int),((pre.length+A.length:Nat):Int),())) (fun a5 =>
   bindL (sl_symItem_l3 n n (a5.1,a5.2.2.1,a5.2.1,())) (fun a7=>some (((),(a7.1,((),((),((),((),())))))):RtEl sl_symItem_rs×OutEl sl_symItem_sg)) fun b8=>none) fun b6=>none)=some ((),(pre++(R++post),((),((),((),((),())))))):=by
 have hn':=hn
 unfold Big at hn'
 have at1:∀ k,(hk1:pre.length≤k)→(hk:k<pre.length+A.length)→(pre++(A++y ::post))[k]?=some (A[k - pre.length]'(by omega)):=fun k h1 h2=>by
  rw [List.getElem?_append_right h1,List.getElem?_append_left (by omega)]
  exact List.getElem?_eq_getElem _
 have hy:(pre++(A++y ::post))[pre.length+A.length]?=some y:=by rw [← List.append_assoc];exact at_app _ _ _ (by simp)
 obtain ⟨k,k1,k2,k3,k4,k5⟩:=bsearch (fun k=>match A[k - pre.length]? with|some z => !ltK y z|none=>false) (L:=fun g i j=>sl_symItem_l2 n g (pre++(A++y ::post),((pre.length+A.length:Nat):Int),(),i,j,())) (res:=fun i => .inl (pre++(A++y ::post),((pre.length+A.length:Nat):Int),(i:Int),())) pre.length (pre.length+A.length) (fun g i j hij=>by
   have c:¬ (i:Int)<(j:Int):=by omega
   simp only [sl_symItem_l2,ilt_eq,c,decide_false,cond_false]) (fun g i j h1 h2 h3=>by
   have c:(i:Int)<(j:Int):=by omega
   have e:iadd .i64 (i:Int) (j:Int)=((i+j:Nat):Int):=by rw [iadd64 (by omega) (by omega)];omega
   have eh:=half_of (i+j) (by omega)
   have c0:(0:Int)≤(((i+j) / 2:Nat):Int):=by omega
   have cp:(0:Int)≤((pre.length+A.length:Nat):Int):=by omega
   have hh:=at1 ((i+j) / 2) (by omega) (by omega)
   have e1:iadd .i64 (((i+j) / 2:Nat):Int) 1=(((i+j) / 2+1:Nat):Int):=iadd1 (by omega)
   have hb:A[(i+j) / 2 - pre.length]?=some (A[(i+j) / 2 - pre.length]'(by omega)):=List.getElem?_eq_getElem _
   simp only [sl_symItem_l2,ilt_eq,ile_eq,c,e,eh,c0,cp,one_zero,decide_true,cond_true,cond_false,lat_eq,iN,Int.toNat_natCast,hh,hy,bindN_s,cmpI n y _,ltc,e1,hb,bindL_id1]) A.length pre.length (pre.length+A.length) n (by omega) (by omega) (Nat.le_refl _) (Nat.le_refl _) (by omega) (.inl rfl) (.inl rfl)
 generalize hq:k - pre.length=q at *
 have hk:k=pre.length+q:=by omega
 have hqA:q≤A.length:=by omega
 have hAq:=List.take_append_drop q A
 have hA2:Srt ltK (A.take q++A.drop q):=by rw [hAq];exact hA
 have f1:∀ z∈A.drop q,ltK y z=true:=by
  have:=(cut_ends ltK_swo (B1:=[y]) (B2:=[]) hA2 (srt_one y) (by
   by_cases h0:q<A.length
   ·right;right
    refine ⟨_,y,head_drop h0,rfl,?_⟩
    rcases k4 with k4|k4
    ·omega
    ·rw [List.getElem?_eq_getElem h0] at k4
     simpa using k4
   ·left;exact List.drop_of_length_le (by omega)) (.inr (.inl rfl))).1
  exact fun z hz=>this z hz y (by simp)
 obtain ⟨g1,g2⟩:=ins_place hA hAq.symm f1 (by
  by_cases h0:q=0
  ·left;rw [h0];rfl
  ·right
   refine ⟨_,last_take (by omega) hqA,?_⟩
   rcases k3 with k3|k3
   ·omega
   ·rw [show k - 1 - pre.length=q - 1 by omega,List.getElem?_eq_getElem (by omega)] at k3
    simpa using k3)
 refine ⟨A.take q++y ::A.drop q,g1,g2,by simp;omega,?_⟩
 have h1:=sym_l3 n y (pre++A.take q) (A.drop q).length (A.drop q) post n rfl (by simp;omega) (by simp;omega)
 have e1:pre++A.take q++(A.drop q++y ::post)=pre++(A++y ::post):=by rw [List.append_assoc,← List.append_assoc (A.take q),hAq]
 have e2:(pre++A.take q).length=k:=by simp;omega
 have e3:k+(A.drop q).length=pre.length+A.length:=by simp;omega
 rw [e1,e2,e3] at h1
 have k5':sl_symItem_l2 n n (pre++(A++y ::post),((pre.length+A.length:Nat):Int),(),(pre.length:Int),((pre.length+A.length:Nat):Int),())=some (.inl (pre++(A++y ::post),((pre.length+A.length:Nat):Int),(k:Int),())):=k5
 simp only [k5',bindL_inl,h1]
 simp
end Go.Proofs.YtdcphpbimeoioaaGreatDoorE
end
section
set_option linter.unusedSectionVars false
namespace Go.Proofs.YtdcphpbimeoioaaGreatDoorE
open Go Go.Proofs
set_option linter.unusedVariables false
set_option linter.unusedSimpArgs false
abbrev OSym:=RtEl sl_symItem_rs×OutEl sl_symItem_sg
def outS (l:List IT):Option OSym:=some ((),(l,((),((),((),((),()))))))
def symR (n g:Nat) (l:List IT) (mid e b:Int):Option OSym :=
 bif ilt mid e then (bif ilt e b then bindN (sl_symItem_r n g (l,mid,e,b,(),())) fun p=>outS p.2.1 else outS l) else outS l
def symL (n g:Nat) (l:List IT) (a st mid e b:Int):Option OSym :=
 bif ilt a st then (bif ilt st mid then bindN (sl_symItem_r n g (l,a,st,mid,(),())) fun p=>symR n g p.2.1 mid e b else symR n g l mid e b) else symR n g l mid e b
def symT (n g:Nat) (l:List IT) (a m b mid nn st:Int):Option OSym :=
 bif ilt st m then (bif ilt m (isub .i64 nn st) then bindN (sl_rotItem n (l,st,m,isub .i64 nn st,(),())) fun p=>symL n g p.2.1 a st mid (isub .i64 nn st) b else symL n g l a st mid (isub .i64 nn st) b) else symL n g l a st mid (isub .i64 nn st) b
abbrev midI (a b:Int):Int:=iconv .i64 (ishr .u64 (iconv .u64 (iadd .i64 a b)) (1:Int))
theorem sym_succ (n g:Nat) (l:List IT) (a m b:Int):sl_symItem_r n (g+1) (l,a,m,b,(),()) =
  (bif ieq (isub .i64 m a) (1:Int) then
   bindL (sl_symItem_l0 n n (l,a,(),m,b,())) (fun a1=>bindL (sl_symItem_l1 n n (a1.1,a1.2.2.1,a1.2.1,())) (fun a3=>some ((),(a3.1,((),((),((),((),()))))))) fun b4=>none) fun b2=>none
  else bif ieq (isub .i64 b m) (1:Int) then
   bindL (sl_symItem_l2 n n (l,m,(),a,m,())) (fun a5=>bindL (sl_symItem_l3 n n (a5.1,a5.2.2.1,a5.2.1,())) (fun a7=>some ((),(a7.1,((),((),((),((),()))))))) fun b8=>none) fun b6=>none
  else bif ilt (1:Int) (0:Int) then none
  else bif ilt (midI a b) m then
   bindL (sl_symItem_l4 n n (l,a,m,b,(),midI a b,iadd .i64 (midI a b) m,isub .i64 (iadd .i64 (midI a b) m) b,midI a b,isub .i64 (iadd .i64 (midI a b) m) (1:Int),())) (fun s=>symT n g s.1 s.2.1 s.2.2.1 s.2.2.2.1 s.2.2.2.2.2.1 s.2.2.2.2.2.2.1 s.2.2.2.2.2.2.2.1) fun b10=>none
  else
   bindL (sl_symItem_l4 n n (l,a,m,b,(),midI a b,iadd .i64 (midI a b) m,a,m,isub .i64 (iadd .i64 (midI a b) m) (1:Int),())) (fun s=>symT n g s.1 s.2.1 s.2.2.1 s.2.2.2.1 s.2.2.2.2.2.1 s.2.2.2.2.2.2.1 s.2.2.2.2.2.2.2.1) fun b25=>none):=by
 rw [sl_symItem_r];rfl
def PrL (l:List IT) (p c:Nat):Bool:=match l[p - c]? with|some y=>(match l[c]? with|some x => !ltK y x|none=>false)|none=>false
theorem sym_l4 {n:Nat} (hn:Big n) (l:List IT) (a m b mid nn:Int) (p lo hi:Nat) (hl:l.length≤100000000) (hlo:lo≤hi) (h1:hi≤l.length) (h2:∀ c,lo≤c→c<hi→c≤p∧p - c<l.length) :
  ∃ k,lo≤k∧k≤hi∧(k=lo∨PrL l p (k - 1)=true)∧(k=hi∨PrL l p k=false)∧sl_symItem_l4 n n (l,a,m,b,(),mid,nn,(lo:Int),(hi:Int),(p:Int),())=some (.inl (l,a,m,b,(),mid,nn,(k:Int),())):=by
 have hn':=hn
 unfold Big at hn'
 exact bsearch (PrL l p) (L:=fun g i j=>sl_symItem_l4 n g (l,a,m,b,(),mid,nn,i,j,(p:Int),())) (res:=fun k => .inl (l,a,m,b,(),mid,nn,(k:Int),())) lo hi (fun g i j hij=>by
   have c:¬ (i:Int)<(j:Int):=by omega
   simp only [sl_symItem_l4,ilt_eq,c,decide_false,cond_false]) (fun g i j q1 q2 q3=>by
   have c:(i:Int)<(j:Int):=by omega
   have e:iadd .i64 (i:Int) (j:Int)=((i+j:Nat):Int):=by rw [iadd64 (by omega) (by omega)];omega
   have eh:=half_of (i+j) (by omega)
   obtain ⟨r1,r2⟩:=h2 ((i+j) / 2) (by omega) (by omega)
   have c0:(0:Int)≤(((i+j) / 2:Nat):Int):=by omega
   have cp:(0:Int)≤((p - (i+j) / 2:Nat):Int):=by omega
   by_cases hp:p≤4000000000000000000
   ·have ep:isub .i64 (p:Int) (((i+j) / 2:Nat):Int)=((p - (i+j) / 2:Nat):Int):=by rw [isub64 (by omega) (by omega)];omega
    have e1:iadd .i64 (((i+j) / 2:Nat):Int) 1=(((i+j) / 2+1:Nat):Int):=iadd1 (by omega)
    have hx:l[(i+j) / 2]?=some (l[(i+j) / 2]'(by omega)):=List.getElem?_eq_getElem _
    have hy:l[p - (i+j) / 2]?=some (l[p - (i+j) / 2]'(by omega)):=List.getElem?_eq_getElem _
    unfold PrL
    simp only [sl_symItem_l4,ilt_eq,ile_eq,c,e,eh,ep,c0,cp,one_zero,decide_true,cond_true,cond_false,lat_eq,iN,Int.toNat_natCast,hx,hy,bindN_s,cmpI n (l[p - (i+j) / 2]'(by omega)) (l[(i+j) / 2]'(by omega)),ltc,e1,bindL_id1]
   ·exfalso;omega) (hi - lo) lo hi n (Nat.le_refl _) hlo (Nat.le_refl _) (Nat.le_refl _) (by omega) (.inl rfl) (.inl rfl)
def SymOk (n g D:Nat):Prop:=∀ (pre A B post:List IT),A.length+B.length≤D→0<A.length→0<B.length→(pre++(A++(B++post))).length≤100000000→Srt ltK A→Srt ltK B →
 ∃ R,Srt ltK R∧Stb ltK R (A++B)∧R.length=A.length+B.length∧sl_symItem_r n g (pre++(A++(B++post)),(pre.length:Int),((pre.length+A.length:Nat):Int),((pre.length+A.length+B.length:Nat):Int),(),())=outS (pre++(R++post))
theorem sym_half {n g D:Nat} (hI:SymOk n g D) {F:List IT→Option OSym} (pre A B post:List IT) (hD:A.length+B.length≤D) (hl:(pre++(A++(B++post))).length≤100000000) (hA:Srt ltK A) (hB:Srt ltK B) :
  ∃ R,Srt ltK R∧Stb ltK R (A++B)∧R.length=A.length+B.length ∧
   (bif ilt (pre.length:Int) ((pre.length+A.length:Nat):Int) then (bif ilt ((pre.length+A.length:Nat):Int) ((pre.length+A.length+B.length:Nat):Int) then bindN (sl_symItem_r n g (pre++(A++(B++post)),(pre.length:Int),((pre.length+A.length:Nat):Int),((pre.length+A.length+B.length:Nat):Int),(),())) fun p=>F p.2.1 else F (pre++(A++(B++post)))) else F (pre++(A++(B++post))))=F (pre++(R++post)):=by
 by_cases h1:0<A.length
 ·have c1:((pre.length:Nat):Int)<((pre.length+A.length:Nat):Int):=by omega
  by_cases h2:0<B.length
  ·have c2:((pre.length+A.length:Nat):Int)<((pre.length+A.length+B.length:Nat):Int):=by omega
   obtain ⟨R,r1,r2,r3,r4⟩:=hI pre A B post hD h1 h2 hl hA hB
   refine ⟨R,r1,r2,r3,?_⟩
   simp only [ilt_eq,c1,c2,decide_true,cond_true,r4,outS,bindN_s]
  ·have e:B=[]:=List.length_eq_zero_iff.1 (by omega)
   subst e
   refine ⟨A,hA,by rw [List.append_nil];exact Stb.refl _,by simp,?_⟩
   have c2:¬ ((pre.length+A.length:Nat):Int)<((pre.length+A.length+([]:List IT).length:Nat):Int):=by simp
   simp only [ilt_eq,c1,c2,decide_true,decide_false,cond_true,cond_false,List.nil_append]
 ·have e:A=[]:=List.length_eq_zero_iff.1 (by omega)
  subst e
  refine ⟨B,hB,by rw [List.nil_append];exact Stb.refl _,by simp,?_⟩
  have c1:¬ ((pre.length:Nat):Int)<((pre.length+([]:List IT).length:Nat):Int):=by simp
  simp only [ilt_eq,c1,decide_false,cond_false,List.nil_append]
theorem sym_tail {n g D:Nat} (hn:Big n) (hI:SymOk n g D) (pre A1 A2 B1 B2 post:List IT) (d1:A1.length+B1.length≤D) (d2:A2.length+B2.length≤D) (hl:pre.length+A1.length+A2.length+B1.length+B2.length+post.length≤100000000)
  (hA:Srt ltK (A1++A2)) (hB:Srt ltK (B1++B2)) (c1:A2=[]∨B1=[]∨∃ x y,A2.head?=some x∧B1.getLast?=some y∧ltK y x=true) (c2:A1=[]∨B2=[]∨∃ x y,A1.getLast?=some x∧B2.head?=some y∧ltK y x=false)
  {l:List IT} {a m b mid nn st:Nat} (el:l=pre++((A1++A2)++((B1++B2)++post))) (ea:a=pre.length) (est:st=a+A1.length) (em:m=st+A2.length) (eb:b=m+B1.length+B2.length) (emid:mid=st+B1.length) (enn:nn=mid+m) :
  ∃ R,Srt ltK R∧Stb ltK R ((A1++A2)++(B1++B2))∧R.length=A1.length+A2.length+(B1.length+B2.length)∧symT n g l (a:Int) (m:Int) (b:Int) (mid:Int) (nn:Int) (st:Int)=outS (pre++(R++post)):=by
 have ee:isub .i64 (nn:Int) (st:Int)=((m+B1.length:Nat):Int):=by rw [isub64 (by omega) (by omega)];omega
 have hrot:symT n g l (a:Int) (m:Int) (b:Int) (mid:Int) (nn:Int) (st:Int)=symL n g (pre++(A1++(B1++(A2++(B2++post))))) (a:Int) (st:Int) (mid:Int) ((m+B1.length:Nat):Int) (b:Int):=by
  unfold symT
  rw [ee]
  by_cases q1:0<A2.length
  ·have k1:(st:Int)<(m:Int):=by omega
   by_cases q2:0<B1.length
   ·have k2:(m:Int)<((m+B1.length:Nat):Int):=by omega
    have hr:=rot_v hn (pre++A1) A2 B1 (B2++post) q1 q2 (by simp;omega)
    have x1:pre++A1++(A2++(B1++(B2++post)))=l:=by rw [el];simp
    have x2:(pre++A1).length=st:=by simp;omega
    have x3:st+A2.length=m:=by omega
    rw [x1,x2,x3] at hr
    simp only [ilt_eq,k1,k2,decide_true,cond_true,hr,bindN_s]
    simp
   ·have e:B1=[]:=List.length_eq_zero_iff.1 (by omega)
    subst e
    have k2:¬ (m:Int)<((m+([]:List IT).length:Nat):Int):=by simp
    simp only [ilt_eq,k1,k2,decide_true,decide_false,cond_true,cond_false]
    rw [el];simp
  ·have e:A2=[]:=List.length_eq_zero_iff.1 (by omega)
   subst e
   have k1:¬ (st:Int)<(m:Int):=by simp at em;omega
   simp only [ilt_eq,k1,decide_false,cond_false]
   rw [el];simp
 rw [hrot]
 obtain ⟨f1,f2⟩:=cut_ends ltK_swo hA hB c1 c2
 have sA:=srt_app.1 hA
 have sB:=srt_app.1 hB
 obtain ⟨L,l1,l2,l3,l4⟩:=sym_half hI (F:=fun z=>symR n g z (mid:Int) ((m+B1.length:Nat):Int) (b:Int)) pre A1 B1 (A2++(B2++post)) d1 (by simp;omega) sA.1 sB.1
 rw [show pre.length+A1.length+B1.length=mid by omega,show pre.length+A1.length=st by omega,← ea] at l4
 have l4':symL n g (pre++(A1++(B1++(A2++(B2++post))))) (a:Int) (st:Int) (mid:Int) ((m+B1.length:Nat):Int) (b:Int)=symR n g (pre++(L++(A2++(B2++post)))) (mid:Int) ((m+B1.length:Nat):Int) (b:Int):=l4
 rw [l4']
 obtain ⟨R2,r1,r2,r3,r4⟩:=sym_half hI (F:=outS) (pre++L) A2 B2 post d2 (by simp;omega) sA.2.1 sB.2.1
 have x2:(pre++L).length=mid:=by simp;omega
 rw [x2,show mid+A2.length+B2.length=b by omega,show mid+A2.length=m+B1.length by omega] at r4
 have x1:pre++L++(A2++(B2++post))=pre++(L++(A2++(B2++post))):=by simp
 rw [x1] at r4
 have r4':symR n g (pre++(L++(A2++(B2++post)))) (mid:Int) ((m+B1.length:Nat):Int) (b:Int)=outS (pre++L++(R2++post)):=r4
 have hm:=merge_cut ltK_swo hA hB f1 f2 l1 l2 r1 r2
 exact ⟨L++R2,hm.1,hm.2,by simp;omega,by rw [r4'];simp⟩
theorem sym_ok {n:Nat} (hn:Big n):∀ (D g:Nat),D<g→SymOk n g D
 | 0,g,hg=>fun pre A B post h1 h2 h3=>by omega
 | D+1,g,hg=>by
  obtain ⟨g,rfl⟩:∃ g',g=g'+1:=⟨g - 1,by omega⟩
  have hI:=sym_ok hn D g (by omega)
  intro pre A B post hD hA0 hB0 hl hA hB
  have hlen:(pre++(A++(B++post))).length=pre.length+A.length+B.length+post.length:=by simp;omega
  rw [hlen] at hl
  rw [sym_succ]
  have ema:isub .i64 ((pre.length+A.length:Nat):Int) (pre.length:Int)=(A.length:Int):=by rw [isub64 (by omega) (by omega)];omega
  have ebm:isub .i64 ((pre.length+A.length+B.length:Nat):Int) ((pre.length+A.length:Nat):Int)=(B.length:Int):=by rw [isub64 (by omega) (by omega)];omega
  rw [ema,ebm]
  by_cases h1:A.length=1
  ·obtain ⟨x,rfl⟩:=List.length_eq_one_iff.1 h1
   obtain ⟨R,r1,r2,r3,r4⟩:=sym_one hn x pre B post hB (by simp at hl;omega)
   refine ⟨R,r1,r2,by simp;omega,?_⟩
   have c:((([x]:List IT).length:Nat):Int)=1:=rfl
   simp only [ieq_eq,c,decide_true,cond_true]
   exact r4
  ·have c1:¬ (A.length:Int)=1:=by omega
   by_cases h2:B.length=1
   ·obtain ⟨y,rfl⟩:=List.length_eq_one_iff.1 h2
    obtain ⟨R,r1,r2,r3,r4⟩:=sym_two hn y pre A post hA (by simp at hl;omega)
    refine ⟨R,r1,r2,by simp;omega,?_⟩
    have c:((([y]:List IT).length:Nat):Int)=1:=rfl
    simp only [ieq_eq,c1,c,decide_true,decide_false,cond_true,cond_false]
    exact r4
   ·have c2:¬ (B.length:Int)=1:=by omega
    have eab:iadd .i64 (pre.length:Int) ((pre.length+A.length+B.length:Nat):Int)=((pre.length+(pre.length+A.length+B.length):Nat):Int):=by rw [iadd64 (by omega) (by omega)];omega
    have emid:midI (pre.length:Int) ((pre.length+A.length+B.length:Nat):Int)=(((pre.length+(pre.length+A.length+B.length)) / 2:Nat):Int):=by unfold midI;rw [eab];exact half_of _ (by omega)
    simp only [ieq_eq,c1,c2,decide_false,cond_false,ilt_eq,one_zero]
    rw [emid]
    generalize hmid:(pre.length+(pre.length+A.length+B.length)) / 2=mid
    have hm1:2 * mid≤pre.length+(pre.length+A.length+B.length)∧pre.length+(pre.length+A.length+B.length)≤2 * mid+1:=by omega
    have enn:iadd .i64 (mid:Int) ((pre.length+A.length:Nat):Int)=((mid+(pre.length+A.length):Nat):Int):=by rw [iadd64 (by omega) (by omega)];omega
    have ep:isub .i64 ((mid+(pre.length+A.length):Nat):Int) 1=((mid+(pre.length+A.length) - 1:Nat):Int):=by rw [isub64 (by omega) (by omega)];omega
    rw [enn,ep]
    have atA:∀ c,(q1:pre.length≤c)→(q2:c<pre.length+A.length)→(pre++(A++(B++post)))[c]?=some (A[c - pre.length]'(by omega)):=fun c q1 q2=>by
     rw [List.getElem?_append_right q1,List.getElem?_append_left (by omega)]
     exact List.getElem?_eq_getElem _
    have atB:∀ c,(q1:pre.length+A.length≤c)→(q2:c<pre.length+A.length+B.length)→(pre++(A++(B++post)))[c]?=some (B[c - (pre.length+A.length)]'(by omega)):=fun c q1 q2=>by
     rw [List.getElem?_append_right (by omega),List.getElem?_append_right (by omega),List.getElem?_append_left (by omega)]
     rw [show c - pre.length - A.length=c - (pre.length+A.length) by omega]
     exact List.getElem?_eq_getElem _
    have hp:∀ c,(q1:pre.length≤c)→(q2:c<pre.length+A.length)→(q3:pre.length+A.length≤mid+(pre.length+A.length) - 1 - c)→(q4:mid+(pre.length+A.length) - 1 - c<pre.length+A.length+B.length)→PrL (pre++(A++(B++post))) (mid+(pre.length+A.length) - 1) c = !ltK (B[mid+(pre.length+A.length) - 1 - c - (pre.length+A.length)]'(by omega)) (A[c - pre.length]'(by omega)):=fun c q1 q2 q3 q4=>by
     unfold PrL
     rw [atB _ q3 q4,atA _ q1 q2]
    have key:∀ (lo hi k:Nat),pre.length≤lo→lo≤k→k≤hi→hi≤pre.length+A.length→hi≤mid→mid+(pre.length+A.length)≤lo+(pre.length+A.length+B.length)→(lo=pre.length∨lo+(pre.length+A.length+B.length)=mid+(pre.length+A.length))→(hi=pre.length+A.length∨hi=mid) →
      (k=lo∨PrL (pre++(A++(B++post))) (mid+(pre.length+A.length) - 1) (k - 1)=true)→(k=hi∨PrL (pre++(A++(B++post))) (mid+(pre.length+A.length) - 1) k=false) →
      ∃ R,Srt ltK R∧Stb ltK R (A++B)∧R.length=A.length+B.length∧symT n g (pre++(A++(B++post))) (pre.length:Int) ((pre.length+A.length:Nat):Int) ((pre.length+A.length+B.length:Nat):Int) (mid:Int) ((mid+(pre.length+A.length):Nat):Int) (k:Int)=outS (pre++(R++post)):=by
     intro lo hi k u1 u2 u3 u4 u5 u6 u7 u8 u9 u10
     have eA:=List.take_append_drop (k - pre.length) A
     have eB:=List.take_append_drop (mid - k) B
     obtain ⟨R,r1,r2,r3,r4⟩:=sym_tail hn hI pre (A.take (k - pre.length)) (A.drop (k - pre.length)) (B.take (mid - k)) (B.drop (mid - k)) post (by simp;omega) (by simp;omega) (by simp;omega) (by rw [eA];exact hA) (by rw [eB];exact hB) (by
      by_cases z1:k<pre.length+A.length
      ·by_cases z2:k<mid
       ·right;right
        refine ⟨_,_,head_drop (by omega),last_take (by omega) (by omega),?_⟩
        rcases u10 with u10|u10
        ·omega
        ·rw [hp k (by omega) z1 (by omega) (by omega)] at u10
         rw [Bool.not_eq_false'] at u10
         have e1:mid+(pre.length+A.length) - 1 - k - (pre.length+A.length)=mid - k - 1:=by omega
         simp only [e1] at u10
         exact u10
       ·right;left
        rw [show mid - k=0 by omega];rfl
      ·left;exact List.drop_of_length_le (by omega)) (by
      by_cases z1:pre.length<k
      ·by_cases z2:mid - k<B.length
       ·right;right
        refine ⟨_,_,last_take (by omega) (by omega),head_drop z2,?_⟩
        rcases u9 with u9|u9
        ·omega
        ·rw [hp (k - 1) (by omega) (by omega) (by omega) (by omega)] at u9
         rw [Bool.not_eq_true'] at u9
         have e1:mid+(pre.length+A.length) - 1 - (k - 1) - (pre.length+A.length)=mid - k:=by omega
         have e2:k - 1 - pre.length=k - pre.length - 1:=by omega
         simp only [e1,e2] at u9
         exact u9
       ·right;left;exact List.drop_of_length_le (by omega)
      ·left;rw [show k - pre.length=0 by omega];rfl) (l:=pre++(A++(B++post))) (a:=pre.length) (m:=pre.length+A.length) (b:=pre.length+A.length+B.length) (mid:=mid) (nn:=mid+(pre.length+A.length)) (st:=k) (by rw [eA,eB]) rfl (by simp;omega) (by simp;omega) (by simp;omega) (by simp;omega) rfl
     rw [eA,eB] at r2
     exact ⟨R,r1,r2,by rw [r3];simp;omega,r4⟩
    have hlen2:(pre++(A++(B++post))).length≤100000000:=by omega
    by_cases hc:mid<pre.length+A.length
    ·have c3:((mid:Nat):Int)<((pre.length+A.length:Nat):Int):=by omega
     have elo:isub .i64 ((mid+(pre.length+A.length):Nat):Int) ((pre.length+A.length+B.length:Nat):Int)=((mid+(pre.length+A.length) - (pre.length+A.length+B.length):Nat):Int):=by rw [isub64 (by omega) (by omega)];omega
     obtain ⟨k,k1,k2,k3,k4,k5⟩:=sym_l4 hn (pre++(A++(B++post))) (pre.length:Int) ((pre.length+A.length:Nat):Int) ((pre.length+A.length+B.length:Nat):Int) (mid:Int) ((mid+(pre.length+A.length):Nat):Int) (mid+(pre.length+A.length) - 1) (mid+(pre.length+A.length) - (pre.length+A.length+B.length)) mid hlen2 (by omega) (by omega) (fun c q1 q2=>by omega)
     obtain ⟨R,r1,r2,r3,r4⟩:=key _ _ k (by omega) k1 k2 (by omega) (Nat.le_refl _) (by omega) (.inr (by omega)) (.inr rfl) k3 k4
     refine ⟨R,r1,r2,r3,?_⟩
     simp only [c3,decide_true,cond_true,elo,k5,bindL_inl]
     exact r4
    ·have c3:¬ ((mid:Nat):Int)<((pre.length+A.length:Nat):Int):=by omega
     obtain ⟨k,k1,k2,k3,k4,k5⟩:=sym_l4 hn (pre++(A++(B++post))) (pre.length:Int) ((pre.length+A.length:Nat):Int) ((pre.length+A.length+B.length:Nat):Int) (mid:Int) ((mid+(pre.length+A.length):Nat):Int) (mid+(pre.length+A.length) - 1) pre.length (pre.length+A.length) hlen2 (by omega) (by omega) (fun c q1 q2=>by omega)
     obtain ⟨R,r1,r2,r3,r4⟩:=key _ _ k (by omega) k1 k2 (by omega) (by omega) (by omega) (.inl rfl) (.inl rfl) k3 k4
     refine ⟨R,r1,r2,r3,?_⟩
     simp only [c3,decide_false,cond_false,k5,bindL_inl]
     exact r4
end Go.Proofs.YtdcphpbimeoioaaGreatDoorE
end
section
set_option linter.unusedSectionVars false
namespace Go.Proofs.YtdcphpbimeoioaaGreatDoorE
open Go Go.Proofs
set_option linter.unusedVariables false
set_option linter.unusedSimpArgs false
def SB (k:Nat) (l:List IT):Prop:=∀ i,Srt ltK ((l.drop (i * k)).take k)
theorem sb_app {k q:Nat} {pre R:List IT} (hk:0<k) (hp:pre.length=q * k) (h:SB k pre) (hR:Srt ltK R) (hl:R.length≤k):SB k (pre++R):=by
 intro i
 by_cases h1:i<q
 ·have:i * k+k≤pre.length:=by rw [hp,← Nat.succ_mul];exact Nat.mul_le_mul_right k h1
  rw [List.drop_append_of_le_length (by omega),List.take_append_of_le_length (by simp;omega)]
  exact h i
 ·by_cases h2:i=q
  ·subst h2
   rw [← hp,List.drop_left,List.take_of_length_le hl];exact hR
  ·have:pre.length+k≤i * k:=by rw [hp,← Nat.succ_mul];exact Nat.mul_le_mul_right k (by omega)
   rw [List.drop_of_length_le (by simp;omega),List.take_nil];exact List.Pairwise.nil
theorem stb_length {R X:List IT} (h1:Srt ltK R) (h2:Stb ltK R X):R.length=X.length:=by rw [stable_eq ltK_swo h1 h2];exact (stableS_perm X).length_eq
theorem sb_nil (k:Nat):SB k []:=fun i=>by simp [Srt]
theorem take_take_drop {α:Type} (l:List α) (k:Nat):l.take k++((l.drop k).take k++l.drop (2 * k))=l:=by
 have e:l.drop (2 * k)=(l.drop k).drop k:=by rw [List.drop_drop];congr 1;omega
 rw [e,List.take_append_drop,List.take_append_drop]
structure Lev (k:Nat) (l0:List IT) (q:Nat) (pre:List IT):Prop where
 len:pre.length=q * (2 * k)
 sb:SB (2 * k) pre
 stb:Stb ltK pre (l0.take (q * (2 * k)))
 le:q * (2 * k)≤l0.length
theorem stab_l2 {n:Nat} (hn:Big n) (k:Nat) (hk:0<k) (l0:List IT) (h0:SB k l0) (hl:l0.length≤10000000) (hk2:k≤10000000):∀ (d q g:Nat) (pre:List IT),l0.length - q * (2 * k)≤d→d<g→Lev k l0 q pre →
  ∃ q' pre',Lev k l0 q' pre'∧l0.length<q' * (2 * k)+2 * k∧sl_stabItem_l2 n g (pre++l0.drop (q * (2 * k)),(l0.length:Int),(),(k:Int),((q * (2 * k):Nat):Int),((q * (2 * k)+2 * k:Nat):Int),()) =
   some (.inl (pre'++l0.drop (q' * (2 * k)),(l0.length:Int),(),(k:Int),((q' * (2 * k):Nat):Int),()))
 | d,q,g,pre,hd,hg,hL=>by
  obtain ⟨g,rfl⟩:∃ g',g=g'+1:=⟨g - 1,by omega⟩
  have hle:=hL.le
  by_cases hc:q * (2 * k)+2 * k≤l0.length
  ·obtain ⟨d,rfl⟩:∃ d',d=d'+1:=⟨d - 1,by omega⟩
   have c:((q * (2 * k)+2 * k:Nat):Int)≤(l0.length:Int):=by omega
   generalize hr:l0.drop (q * (2 * k))=rest at *
   have hrl:rest.length=l0.length - q * (2 * k):=by rw [← hr];simp
   have sA:Srt ltK (rest.take k):=by
    have:=h0 (q * 2)
    rw [show q * 2 * k=q * (2 * k) by rw [Nat.mul_assoc],hr] at this;exact this
   have sB:Srt ltK ((rest.drop k).take k):=by
    have:=h0 (q * 2+1)
    rw [show (q * 2+1) * k=q * (2 * k)+k by rw [Nat.add_mul,Nat.mul_assoc,Nat.one_mul],← List.drop_drop,hr] at this;exact this
   have eR:=take_take_drop rest k
   have lA:(rest.take k).length=k:=by simp;omega
   have lB:((rest.drop k).take k).length=k:=by simp;omega
   obtain ⟨R,r1,r2,r3,r4⟩:=sym_ok hn (2 * k) n (by unfold Big at hn;omega) pre (rest.take k) ((rest.drop k).take k) (rest.drop (2 * k)) (by omega) (by omega) (by omega) (by rw [eR];have:=hL.len;simp;omega) sA sB
   rw [eR,lA,lB,hL.len] at r4
   have hq1:(q+1) * (2 * k)=q * (2 * k)+2 * k:=by rw [Nat.add_mul,Nat.one_mul]
   have hL':Lev k l0 (q+1) (pre++R):=by
    refine ⟨by rw [List.length_append,hL.len,r3,lA,lB,hq1];omega,sb_app (q:=q) (by omega) hL.len hL.sb r1 (by omega),?_,by omega⟩
    have e:l0.take ((q+1) * (2 * k))=l0.take (q * (2 * k))++(rest.take k++(rest.drop k).take k):=by
     rw [hq1,List.take_add,hr]
     congr 1
     rw [show 2 * k=k+k by omega,List.take_add]
    rw [e]
    exact hL.stb.app r2
   obtain ⟨q',pre',g1,g2,g3⟩:=stab_l2 hn k hk l0 h0 hl hk2 d (q+1) g (pre++R) (by rw [hq1];omega) (by omega) hL'
   refine ⟨q',pre',g1,g2,?_⟩
   have e1:iadd .i64 ((q * (2 * k):Nat):Int) (k:Int)=((q * (2 * k)+k:Nat):Int):=by rw [iadd64 (by omega) (by omega)];omega
   have e2:imul .i64 2 (k:Int)=((2 * k:Nat):Int):=by unfold imul;rw [wrap64 (by omega) (by omega)];omega
   have e3:iadd .i64 ((q * (2 * k)+2 * k:Nat):Int) ((2 * k:Nat):Int)=(((q+1) * (2 * k)+2 * k:Nat):Int):=by rw [iadd64 (by omega) (by omega),hq1];omega
   have r4':sl_symItem n (pre++rest,((q * (2 * k):Nat):Int),((q * (2 * k)+k:Nat):Int),((q * (2 * k)+2 * k:Nat):Int),(),())=outS (pre++(R++rest.drop (2 * k))):=by
    unfold sl_symItem
    rw [show q * (2 * k)+2 * k=q * (2 * k)+k+k by omega]
    exact r4
   have e4:pre++(R++rest.drop (2 * k))=pre++R++l0.drop ((q+1) * (2 * k)):=by
    rw [hq1,← List.drop_drop,hr];simp
   rw [hq1] at g3 e4
   rw [hq1] at e3
   simp only [sl_stabItem_l2,ile_eq,c,decide_true,cond_true,e1,r4',outS,bindN_s,e2,e3,e4,g3,bindL_inl]
  ·refine ⟨q,pre,hL,by omega,?_⟩
   have c:¬ ((q * (2 * k)+2 * k:Nat):Int)≤(l0.length:Int):=by omega
   simp only [sl_stabItem_l2,ile_eq,c,decide_false,cond_false]
theorem stab_l1 {n:Nat} (hn:Big n):∀ (d k g:Nat) (l:List IT),l.length - k≤d→d<g→0<k→k≤10000000→SB k l→l.length≤5000000 →
  ∃ R,Srt ltK R∧Stb ltK R l∧sl_stabItem_l1 n g (l,(l.length:Int),(),(k:Int),())=some (.inl (R,()))
 | d,k,g,l,hd,hg,hk,hk2,hS,hl=>by
  obtain ⟨g,rfl⟩:∃ g',g=g'+1:=⟨g - 1,by omega⟩
  have hn':=hn
  unfold Big at hn'
  by_cases hc:k<l.length
  ·obtain ⟨d,rfl⟩:∃ d',d=d'+1:=⟨d - 1,by omega⟩
   have c:(k:Int)<(l.length:Int):=by omega
   have e2:imul .i64 2 (k:Int)=((2 * k:Nat):Int):=by unfold imul;rw [wrap64 (by omega) (by omega)];omega
   have e2':imul .i64 (k:Int) 2=((2 * k:Nat):Int):=by unfold imul;rw [wrap64 (by omega) (by omega)];omega
   obtain ⟨q,pre,g1,g2,g3⟩:=stab_l2 hn k hk l hS (by omega) hk2 l.length 0 n [] (by omega) (by omega) ⟨by simp,sb_nil _,by simp;exact Stb.refl _,by simp⟩
   rw [Nat.zero_mul,Nat.zero_add,List.drop_zero,List.nil_append] at g3
   rw [show ((0:Nat):Int)=0 from rfl] at g3
   have hle:=g1.le
   generalize hr:l.drop (q * (2 * k))=rest at *
   have hrl:rest.length=l.length - q * (2 * k):=by rw [← hr];simp
   have e3:iadd .i64 ((q * (2 * k):Nat):Int) (k:Int)=((q * (2 * k)+k:Nat):Int):=by rw [iadd64 (by omega) (by omega)];omega
   have sA:Srt ltK (rest.take k):=by
    have:=hS (q * 2)
    rw [show q * 2 * k=q * (2 * k) by rw [Nat.mul_assoc],hr] at this;exact this
   have eS:l.take (q * (2 * k))++rest=l:=by rw [← hr,List.take_append_drop]
   have next:∀ R0,Srt ltK R0→R0.length=rest.length→Stb ltK R0 rest→∃ R,Srt ltK R∧Stb ltK R l∧sl_stabItem_l1 n g (pre++R0,(l.length:Int),(),((2 * k:Nat):Int),())=some (.inl (R,())):=by
    intro R0 q1 q2 q3
    have hlen:(pre++R0).length=l.length:=by rw [List.length_append,g1.len,q2];omega
    have hSB:SB (2 * k) (pre++R0):=sb_app (q:=q) (by omega) g1.len g1.sb q1 (by omega)
    obtain ⟨R,r1,r2,r3⟩:=stab_l1 hn d (2 * k) g (pre++R0) (by rw [hlen];omega) (by omega) (by omega) (by omega) hSB (by omega)
    rw [hlen] at r3
    refine ⟨R,r1,r2.trans ?_,r3⟩
    have:=g1.stb.app q3
    rw [eS] at this
    exact this
   by_cases hm:q * (2 * k)+k<l.length
   ·have cm:((q * (2 * k)+k:Nat):Int)<(l.length:Int):=by omega
    have sB:Srt ltK (rest.drop k):=by
     have:=hS (q * 2+1)
     rw [show (q * 2+1) * k=q * (2 * k)+k by rw [Nat.add_mul,Nat.mul_assoc,Nat.one_mul],← List.drop_drop,hr,List.take_of_length_le (by simp;omega)] at this;exact this
    have lA:(rest.take k).length=k:=by simp;omega
    have eR:rest.take k++(rest.drop k++[])=rest:=by rw [List.append_nil,List.take_append_drop]
    obtain ⟨R0,r1,r2,r3,r4⟩:=sym_ok hn (2 * k) n (by omega) pre (rest.take k) (rest.drop k) [] (by simp;omega) (by omega) (by simp;omega) (by rw [eR];have:=g1.len;simp;omega) sA sB
    rw [eR,lA,g1.len,show q * (2 * k)+k+(rest.drop k).length=l.length by simp;omega,List.append_nil] at r4
    rw [List.take_append_drop] at r2
    obtain ⟨R,x1,x2,x3⟩:=next R0 r1 (by rw [r3];simp;omega) r2
    refine ⟨R,x1,x2,?_⟩
    have r4':sl_symItem n (pre++rest,((q * (2 * k):Nat):Int),((q * (2 * k)+k:Nat):Int),(l.length:Int),(),())=outS (pre++R0):=r4
    simp only [sl_stabItem_l1,ilt_eq,c,decide_true,cond_true,e2,g3,bindL_inl,e3,cm,r4',outS,bindN_s,e2',x3]
   ·have cm:¬ ((q * (2 * k)+k:Nat):Int)<(l.length:Int):=by omega
    rw [List.take_of_length_le (by omega)] at sA
    obtain ⟨R,x1,x2,x3⟩:=next rest sA rfl (Stb.refl _)
    refine ⟨R,x1,x2,?_⟩
    simp only [sl_stabItem_l1,ilt_eq,c,decide_true,cond_true,e2,g3,bindL_inl,e3,cm,decide_false,cond_false,e2',x3]
  ·have c:¬ (k:Int)<(l.length:Int):=by omega
   refine ⟨l,?_,Stb.refl _,by simp only [sl_stabItem_l1,ilt_eq,c,decide_false,cond_false]⟩
   have:=hS 0
   rw [Nat.zero_mul,List.drop_zero,List.take_of_length_le (by omega)] at this
   exact this
theorem stab_l0 {n:Nat} (hn:Big n) (l0:List IT) (hl:l0.length≤5000000):∀ (d q g:Nat) (pre:List IT),l0.length - q * 20≤d→d<g→pre.length=q * 20→SB 20 pre→Stb ltK pre (l0.take (q * 20))→q * 20≤l0.length →
  ∃ q' pre',pre'.length=q' * 20∧SB 20 pre'∧Stb ltK pre' (l0.take (q' * 20))∧q' * 20≤l0.length∧l0.length<q' * 20+20∧sl_stabItem_l0 n g (pre++l0.drop (q * 20),(l0.length:Int),(),(20:Int),((q * 20:Nat):Int),((q * 20+20:Nat):Int),()) =
   some (.inl (pre'++l0.drop (q' * 20),(l0.length:Int),(),(20:Int),((q' * 20:Nat):Int),()))
 | d,q,g,pre,hd,hg,h1,h2,h3,h4=>by
  obtain ⟨g,rfl⟩:∃ g',g=g'+1:=⟨g - 1,by omega⟩
  by_cases hc:q * 20+20≤l0.length
  ·obtain ⟨d,rfl⟩:∃ d',d=d'+1:=⟨d - 1,by omega⟩
   have c:((q * 20+20:Nat):Int)≤(l0.length:Int):=by omega
   generalize hr:l0.drop (q * 20)=rest at *
   have hrl:rest.length=l0.length - q * 20:=by rw [← hr];simp
   have lA:(rest.take 20).length=20:=by simp;omega
   obtain ⟨R,r1,r2,r4⟩:=ins_v hn pre (rest.take 20) (rest.drop 20) (by omega)
   have r3:R.length=20:=by rw [← lA];exact stb_length r1 r2
   rw [List.take_append_drop,lA,h1] at r4
   have hq1:(q+1) * 20=q * 20+20:=by omega
   obtain ⟨q',pre',g1,g2,g3,g4,g5,g6⟩:=stab_l0 hn l0 hl d (q+1) g (pre++R) (by omega) (by omega) (by simp;omega) (sb_app (q:=q) (by omega) h1 h2 r1 (by omega)) (by
    have e:l0.take ((q+1) * 20)=l0.take (q * 20)++rest.take 20:=by rw [hq1,List.take_add,hr]
    rw [e];exact h3.app r2) (by omega)
   refine ⟨q',pre',g1,g2,g3,g4,g5,?_⟩
   have e3:iadd .i64 ((q * 20+20:Nat):Int) (20:Int)=((q * 20+20+20:Nat):Int):=by rw [iadd64 (by omega) (by omega)];omega
   have e4:pre++(R++rest.drop 20)=pre++R++l0.drop ((q+1) * 20):=by rw [hq1,← List.drop_drop,hr];simp
   rw [hq1] at g6 e4
   simp only [sl_stabItem_l0,ile_eq,c,decide_true,cond_true,r4,bindN_s,e3,e4,g6,bindL_inl]
  ·refine ⟨q,pre,h1,h2,h3,h4,by omega,?_⟩
   have c:¬ ((q * 20+20:Nat):Int)≤(l0.length:Int):=by omega
   simp only [sl_stabItem_l0,ile_eq,c,decide_false,cond_false]
theorem sl_StableItem_v {n:Nat} (hn:Big n) (l:List IT) (hl:l.length≤5000000):sl_StableItem n (l,(),())=some ((),(stableS ltK l,((),()))):=by
 have hn':=hn
 unfold Big at hn'
 obtain ⟨q,pre,g1,g2,g3,g4,g5,g6⟩:=stab_l0 hn l hl l.length 0 n [] (by omega) (by omega) (by simp) (sb_nil _) (by simp;exact Stb.refl _) (by omega)
 rw [Nat.zero_mul,Nat.zero_add,List.drop_zero,List.nil_append] at g6
 rw [show ((0:Nat):Int)=0 from rfl,show ((20:Nat):Int)=20 from rfl] at g6
 generalize hr:l.drop (q * 20)=rest at *
 have hrl:rest.length=l.length - q * 20:=by rw [← hr];simp
 obtain ⟨R,r1,r2,r4⟩:=ins_v hn pre rest [] (by omega)
 have r3:R.length=rest.length:=stb_length r1 r2
 rw [List.append_nil,List.append_nil,g1,show q * 20+rest.length=l.length by omega] at r4
 have hlen:(pre++R).length=l.length:=by simp;omega
 obtain ⟨R2,x1,x2,x3⟩:=stab_l1 hn l.length 20 n (pre++R) (by omega) (by omega) (by omega) (by omega) (sb_app (q:=q) (by omega) g1 g2 r1 (by omega)) (by omega)
 rw [hlen,show ((20:Nat):Int)=20 from rfl] at x3
 have hst:Stb ltK R2 l:=by
  refine x2.trans ?_
  have:=g3.app r2
  rw [← hr,List.take_append_drop] at this
  exact this
 have e:=stable_eq ltK_swo x1 hst
 simp only [sl_StableItem,sl_stabItem,ilen,g6,bindL_inl,r4,bindN_s,x3,e]
end Go.Proofs.YtdcphpbimeoioaaGreatDoorE
end
section
set_option linter.unusedSectionVars false
namespace Go.Proofs.YtdcphpbimeoioaaGreatDoorE
open Go Go.RowKit Go.Shelf Go.Proofs
set_option linter.unusedVariables false
set_option linter.unusedSimpArgs false
set_option maxRecDepth 100000
namespace RA
theorem erase_perm {α:Type} (l:List α) (j:Nat) (h:j<l.length):(l[j] ::l.eraseIdx j).Perm l:=by
 rw [List.eraseIdx_eq_take_drop_succ]
 refine List.perm_middle.symm.trans ?_
 rw [← List.drop_eq_getElem_cons h,List.take_append_drop]
variable {S S0:Nat→SL} {F F0:Nat→Prop} {w w0:World} {H0:Heap} {a:Act} {Q:Exit→Act→World→Prop} {b r:Nat}
theorem loop1_eq:B2 = .seq R15 (.seq K15 (.block 3 (.seq R16 R17))):=by kernel_rfl
abbrev rowD (n:Nat) (q:El tQuery) (e:PK×El tCell):El tRow:=(rowA n q e).getD default
theorem loop1 (n:Nat) {q:El tQuery}:∀ (d:Nat) (g:Nat) (left:List (PK×El tCell)) (acc:List (El tRow)) {S:Nat→SL} {F:Nat→Prop} {w:World} {a:Act},left.length=d→d<g→acc.length+left.length≤1000000→(∀ e∈left,∃ r,rowA n q e=some r) →
  Mid nA S0 F0 w0 H0 [2,4] sgE [(64,itv r)] [r,b] (fun W=>HasIter ekP evC W b r left) S F w a (q,acc,()) →
  (∀ S' F' w' a' acc' left',acc'.Perm (acc++left.map (rowD n q))→Mid nA S0 F0 w0 H0 [2,4] sgE [(64,itv r)] [r,b] (fun W=>HasIter ekP evC W b r left') S' F' w' a' (q,acc',())→Q (.exit 2) a' w')→Code.rounds Tryz.prog B2 Q g a w:=by
 intro d
 induction d with
 | zero =>
  intro g left acc S F w a hd hg hle hall h k
  obtain ⟨g,rfl⟩:∃ g',g=g'+1:=⟨g - 1,by omega⟩
  rw [rounds_succ,loop1_eq]
  have hnil:left=[]:=List.length_eq_zero_iff.1 hd
  refine r15 h (fun _ a' h'=>k _ _ _ _ acc left (by rw [hnil];simp) h') fun j p w1 a1 hj=>?_
  rw [hnil] at hj;simp at hj
 | succ d ih =>
  intro g left acc S F w a hd hg hle hall h k
  obtain ⟨g,rfl⟩:∃ g',g=g'+1:=⟨g - 1,by omega⟩
  rw [rounds_succ,loop1_eq]
  refine r15 h (fun hnil a' h'=>by rw [hnil] at hd;simp at hd) fun j p w1 a1 hj h1 he=>?_
  have hjl:j<left.length:=(List.getElem?_eq_some_iff.1 hj).1
  have hjp:left[j]=p:=(List.getElem?_eq_some_iff.1 hj).2
  have hlen:(left.eraseIdx j).length=d:=by rw [List.length_eraseIdx];simp [hjl];omega
  have hperm:(p ::left.eraseIdx j).Perm left:=by rw [← hjp];exact erase_perm left j hjl
  obtain ⟨x,hx⟩:=hall p (hperm.mem_iff.1 List.mem_cons_self)
  have hrow:=hx
  obtain ⟨p1,hp1,hx⟩:=bindN_some hx
  cases hx
  refine wp_block (wp_seq (r16 h1 he fun S2 F2 w2 a2 h2=>?_))
  have hH:=pH_ok n (itv r) (q,acc,(p.1.1,p.1.2,()),p.2,())
  have hp:pH n (itv r) (q,acc,(p.1.1,p.1.2,()),p.2,())=some (.inl (q,acc++[(p.1.1,p.1.2,p1.1)],()),[.raw (itv r)]):=by
   unfold pH
   simp only
   rw [hp1,bindN_s]
   have:roomA acc [(p.1.1,p.1.2,p1.1)] 40=true:=room_of (by simp;omega)
   rw [this];rfl
  have hT:TabF Tryz.prog [cell_Value_ent n]:=by
   intro x hx
   simp only [List.mem_singleton] at hx
   subst hx
   exact cell_Value_ok n
  refine Mid.piece hM hT (by kernel_rfl) (by kernel_rfl) jiter h2 (hH.trans hp) fun S3 F3 w3 a3 h3=>?_
  refine ih g (left.eraseIdx j) _ hlen (by omega) (by simp;omega) (fun e he=>hall e (hperm.mem_iff.1 (List.mem_cons_of_mem _ he))) h3 fun S4 F4 w4 a4 acc' left' hac h4=>k _ _ _ _ acc' left' ?_ h4
  refine hac.trans ?_
  have e:rowD n q p=(p.1.1,p.1.2,p1.1):=by unfold rowD;rw [hrow];rfl
  have:(acc++[(p.1.1,p.1.2,p1.1)]++(left.eraseIdx j).map (rowD n q))=acc++(p ::left.eraseIdx j).map (rowD n q):=by rw [List.map_cons,e];simp
  rw [this]
  exact (hperm.map _).append_left _
theorem tail_eq:body=capp 1 (.seq R0 X1) (capp 1 (.seq R3 R4) (.seq R5 (.seq (.seq R6 (.block 0 (.loop B0))) (.seq (.seq R14 (.block 2 (.loop B2))) (.seq R18 T19))))):=by kernel_rfl
theorem endA {R:Ending→World→Prop} {ps:List Nat} {J:World→Prop} {rows:List (El tRow)} {w':World} {a':Act} {S':Nat→SL} {F':Nat→Prop} (hr:Rel S F w []) (h:Mid nA S F w [] [4] [.own tRow] [] ps J S' F' w' a' (rows,()))
  (k:∀ v S2 F2,Rel S2 F2 w' [.live (.arr tRow rows true)]→Val S2 F2 w' (.own 0) v→Adv S F w [] S2 F2 w' [.live (.arr tRow rows true)]→R (.returned v) w'):bodyPost Tryz.prog Tryz.f59 R .ret a' w':=by
 have hK:(resVals (envOf [4] [.own tRow] [] ((rows,()):SgEl [.own tRow])) (heapOf [.own tRow] ((rows,()):SgEl [.own tRow])) (Tryz.f59.results.toList.map (resOf Tryz.prog)) fun vs=>fin ([]:Heap).length true (oneOf vs) (heapOf [.own tRow] ((rows,()):SgEl [.own tRow])) fun p H=>some (p,H))=some (.own 0,[.live (.arr tRow rows true)]):=by kernel_rfl
 exact ret_ok (n:=nA) hr h.sta.rel h.sta.at' h.adv hK k
end RA
open RA in
theorem row_Answer_ok (n:Nat):EntOk Tryz.prog (row_Answer_ent n):=by
 intro x y hy
 refine ⟨enters Tryz.func59 (by kernel_rfl) (by kernel_rfl),?_⟩
 intro S F w vs hr hA
 have hr:Rel S F w []:=hr
 have hvs:vs.size=2:=hA.1
 have hb:Tryz.f59.body=some body:=by kernel_rfl
 refine calls_of_wp Tryz.func59 hb ?_
 have hnt:nA=2+(Tryz.f59.ntmps - 2):=by kernel_rfl
 have hsz:(vs++Array.replicate (Tryz.f59.ntmps - vs.size) undef).size=nA:=by
  rw [Array.size_append,Array.size_replicate,hvs,hnt]
 have hev:∀ (k:Nat) (hk:k<vs.size),Act.eval { tmps:=vs++Array.replicate (Tryz.f59.ntmps - vs.size) undef,defers:=[] } (.tmp k)=vs[k]:=fun k hk=>by
  simp [Act.eval,Array.getElem?_append_left hk,hk]
 have h0:Mid nA S F w [] [0,1] [.tree tQuery, .tree (.slice tItem)] [] [] (fun _=>True) S F w { tmps:=vs++Array.replicate (Tryz.f59.ntmps - vs.size) undef,defers:=[] } x:=by
  refine ⟨⟨hr,fun j t p h1 h2=>?_,fun u hu=>(by cases hu),hsz,rfl⟩,fun c hc=>(by cases hc),(Adv.refl _ _ _ _).toM,trivial⟩
  match j,h1 with
  | 0,h1 =>
   cases h1
   rw [hev 0 (by rw [hvs];decide)]
   exact hA.2 0 p _ h2 (Array.getElem?_eq_getElem (by rw [hvs];decide))
  | 1,h1 =>
   cases h1
   rw [hev 1 (by rw [hvs];decide)]
   exact hA.2 1 p _ h2 (Array.getElem?_eq_getElem (by rw [hvs];decide))
  | j+2,h1=>simp at h1
 rw [tail_eq]
 have hJ0:JOk [] (fun _=>True):=fun _ _ _ _=>trivial
 have hy:row_Answer n x=some y:=hy
 unfold row_Answer at hy
 have hAok:=pA_ok n x
 unfold pA at hAok
 have hT1:TabF Tryz.prog [query_Right_ent n]:=by
  intro x hx
  simp only [List.mem_singleton] at hx
  subst hx
  exact query_Right_ok n
 obtain ⟨p1,e1,hy⟩:=bindN_some hy
 rw [e1,bindN_s] at hAok
 cases c1:p1.1.1 with
 | false =>
  rw [c1] at hy hAok
  cases hy
  exact Mid.front 1 hM hT1 (by kernel_rfl) (by kernel_rfl) hJ0 h0 hAok fun S' F' w' a' h'=>by
   simp only [exOf,Exit.then]
   exact endA hr h' fun v S2 F2 k1 k2 k3=>⟨v,S2,F2,rfl,k1,k2,k3⟩
 | true =>
  rw [c1] at hy hAok
  simp only [Bool.not_true,cond_false] at hy
  obtain ⟨p2,e2,hy⟩:=bindN_some hy
  obtain ⟨p3,e3,hy⟩:=bindN_some hy
  obtain ⟨l3,hy⟩:=cond_some hy
  obtain ⟨m,em,hy⟩:=bindN_some hy
  obtain ⟨rows,er,hy⟩:=bindN_some hy
  obtain ⟨lr,hy⟩:=cond_some hy
  cases hy
  have l3:=Nat.le_of_ble_eq_true l3
  have lr:=Nat.le_of_ble_eq_true lr
  obtain ⟨hall,hrows⟩:=rowsA_each er
  have hnd:=runA_keys em (by simp)
  have hlen:rows.length=m.length:=by rw [hrows,List.length_map]
  refine Mid.front 1 hM hT1 (by kernel_rfl) (by kernel_rfl) hJ0 h0 hAok fun S1 F1 w1 a1 h1=>?_
  have hB:=pB_ok n (x.1,x.2.1,[],())
  unfold pB at hB
  simp only at hB
  rw [e2,bindN_s,e3,bindN_s] at hB
  have hT2:TabF Tryz.prog [sl_CloneItem_ent n,sl_StableItem_ent n]:=by
   intro x hx
   simp only [List.mem_cons,List.not_mem_nil,or_false] at hx
   rcases hx with rfl|rfl
   ·exact sl_CloneItem_ok n
   ·exact sl_StableItem_ok n
  refine Mid.front 1 hM hT2 (by kernel_rfl) (by kernel_rfl) hJ0 h1 hB fun S2 F2 w2 a2 h2=>?_
  refine wp_seq (r5 nA_big h2 fun a3 h3=>?_)
  refine wp_seq (wp_seq ?_)
  refine Mid.piece hM (T:=[]) (fun x hx=>by cases hx) (by kernel_rfl) (by kernel_rfl) jmap h3 (pC_ok _ _) fun S4 F4 w4 a4 h4=>?_
  refine wp_block (wp_loop_rounds (p3.2.1.length+1) ?_)
  refine loop0 n l3 p3.2.1.length 0 _ [] (by omega) em (by omega) h4 fun S5 F5 w5 a5 h5=>?_
  refine wp_seq (wp_seq ?_)
  refine r14 h5 fun r w6 a6 h6=>?_
  refine wp_block (wp_loop_rounds (m.length+1) ?_)
  refine loop1 n m.length _ m [] rfl (by omega) (by simp;omega) hall h6 fun S7 F7 w7 a7 acc left' hac h7=>?_
  have hperm:acc.Perm rows:=by rw [hrows];simpa using hac
  have hplaces:(rows.map fun r=>(r.1,r.2.1)).Nodup:=by
   have:(rows.map fun r=>(r.1,r.2.1))=m.map (·.1):=by
    rw [hrows,List.map_map]
    refine List.map_congr_left fun e he=>?_
    obtain ⟨r,hr⟩:=hall e he
    simp only [Function.comp_apply,hr,Option.getD_some]
    exact rowA_place hr
   rw [this];exact hnd
  have hI:=pI_ok n (x.1,acc,())
  have hpI:pI n (x.1,acc,())=some (.inr (sl_SortRow_sorted rows,()),[]):=by
   unfold pI
   have:sl_SortRow n (acc,(),())=some ((),(sl_SortRow_sorted acc,((),()))):=by
    unfold sl_SortRow
    have:Nat.blt acc.length 4611686018427387904=true:=by rw [Nat.blt_eq];have:=hperm.length_eq;omega
    simp only [this,cond_true]
   simp only
   rw [this,bindN_s,sortRow_perm hperm hplaces]
  have hT3:TabF Tryz.prog [sl_SortRow_ent n]:=by
   intro x hx
   simp only [List.mem_singleton] at hx
   subst hx
   exact sl_SortRow_ok n
  have h8:=h7.more (h7.sta.less (us':=[]) (fun u hu=>by cases hu))
  exact Mid.piece hM hT3 (by kernel_rfl) (by kernel_rfl) jiter h8 (hI.trans hpI) fun S9 F9 w9 a9 h9=>by
   simp only [exOf]
   exact endA hr h9 fun v S2 F2 k1 k2 k3=>⟨v,S2,F2,rfl,k1,k2,k3⟩
end Go.Proofs.YtdcphpbimeoioaaGreatDoorE
end
section
set_option linter.unusedSectionVars false
namespace Go.Proofs.YtdcphpbimeoioaaGreatDoorE
open Go Go.Proofs
set_option linter.unusedVariables false
set_option linter.unusedSimpArgs false
theorem iadd_hi {a b:Int} (h1:9223372036854775807<a+b) (h2:a+b≤18446744073709551614):iadd .i64 a b=a+b - 18446744073709551616:=by
 unfold iadd;simp [IntKind.wrap,IntKind.bits,IntKind.signed];omega
theorem iadd_lo {a b:Int} (h1:a+b < -9223372036854775808) (h2 : -18446744073709551616≤a+b):iadd .i64 a b=a+b+18446744073709551616:=by
 unfold iadd;simp [IntKind.wrap,IntKind.bits,IntKind.signed];omega
theorem sat_addI (n:Nat) (x y:Int) (o p:Bool) (hx:I64 x) (hy:I64 y):sat_Add n ((x,o,()),(y,p,()),())=some ((addS (x,o,()) (y,p,()),()),((),(),())):=by
 obtain ⟨hx1,hx2⟩:=hx
 obtain ⟨hy1,hy2⟩:=hy
 unfold addS
 cases o with
 | true=>simp [sat_Add]
 | false =>
  cases p with
  | true=>simp [sat_Add]
  | false =>
   simp only [sat_Add,sat_Of,bindN_s,cond_false,ilt_eq,ile_eq]
   by_cases h2:9223372036854775807<x+y
   ·have a1:0<x:=by omega
    have a2:0<y:=by omega
    have a3:x+y - 18446744073709551616<0:=by omega
    rw [iadd_hi h2 (by omega)]
    simp only [a1,a2,a3,h2,decide_true,cond_true,if_true]
   ·by_cases h3:x+y < -9223372036854775808
    ·have a1:¬ 0<x:=by omega
     have a2:x<0:=by omega
     have a4:y<0:=by omega
     have a3:0≤x+y+18446744073709551616:=by omega
     rw [iadd_lo h3 (by omega)]
     simp only [a1,a2,a3,a4,h2,h3,decide_true,decide_false,cond_true,cond_false,if_true,if_false]
    ·rw [iadd64 (by omega) (by omega)]
     by_cases g1:0<x
     ·have g3:¬ x<0:=by omega
      by_cases g2:0<y
      ·have g4:¬ x+y<0:=by omega
       simp only [g1,g2,g3,g4,h2,h3,decide_true,decide_false,cond_true,cond_false,if_false]
      ·simp only [g1,g2,g3,h2,h3,decide_true,decide_false,cond_true,cond_false,if_false]
     ·by_cases g3:x<0
      ·by_cases g2:y<0
       ·have g4:¬ 0≤x+y:=by omega
        simp only [g1,g2,g3,g4,h2,h3,decide_true,decide_false,cond_true,cond_false,if_false]
       ·simp only [g1,g2,g3,h2,h3,decide_true,decide_false,cond_true,cond_false,if_false]
      ·simp only [g1,g3,h2,h3,decide_false,cond_false,if_false]
theorem sat_Add_v (n:Nat) (a b:SM) (ha:I64 a.1) (hb:I64 b.1):sat_Add n (a,b,())=some ((addS a b,()),((),(),())):=sat_addI n a.1 b.1 a.2.1 b.2.1 ha hb
theorem cell_two_v (n:Nat) (a b:CL) (ha:CellFit a) (hb:CellFit b):cell_two n (a,b,())=some ((twoC a b,()),((),(),())):=by
 have hA:=sat_Add_v n a.2.1 b.2.1 ha.2.1 hb.2.1
 obtain ⟨c,s,mn,mx,⟨⟩⟩:=a
 obtain ⟨d,t,mn',mx',⟨⟩⟩:=b
 obtain ⟨⟨p1,p2⟩,_,_,_⟩:=ha
 obtain ⟨⟨q1,q2⟩,_,_,_⟩:=hb
 simp only at p1 p2 q1 q2 hA
 unfold twoC
 simp only [cell_two,cell_Empty,cell_counts,ilt_eq,bindN_s]
 by_cases h1:d<1
 ·simp only [h1,decide_true,cond_true,if_true]
 ·by_cases h2:c<1
  ·simp only [h1,h2,decide_true,decide_false,cond_true,cond_false,if_true,if_false]
  ·have e1:isub .i64 9223372036854775807 d=9223372036854775807 - d:=subM q1 q2 h1
   simp only [h1,h2,decide_false,cond_false,if_false,e1,hA,bindN_s]
   by_cases h3:9223372036854775807 - d<c
   ·simp only [h3,decide_true,cond_true,if_true,bindN_s]
    by_cases h4:mn'<mn<;>by_cases h5:mx<mx'<;>simp only [h4,h5,decide_true,decide_false,cond_true,cond_false,if_true,if_false]
   ·have e2:iadd .i64 c d=c+d:=addM p2 q2 h1 h2 h3
    simp only [h3,decide_false,cond_false,if_false,e2,bindN_s]
    by_cases h4:mn'<mn<;>by_cases h5:mx<mx'<;>simp only [h4,h5,decide_true,decide_false,cond_true,cond_false,if_true,if_false]
theorem cell_merge_l0 (n:Nat) (l:List CL) (hl:l.length≤1000000) (hf:∀ c∈l,CellFit c):∀ (d i g:Nat) (acc:CL),CellFit acc→i+d=l.length→d<g →
  cell_Merge_l0 n g (acc,l,(l.length:Int),(i:Int),())=some (.inl ((l.drop i).foldl twoC acc,()))
 | 0,i,g,acc,ha,hd,hg=>by
  obtain ⟨g,rfl⟩:∃ g',g=g'+1:=⟨g - 1,by omega⟩
  have k:¬ (i:Int)<(l.length:Int):=by omega
  rw [List.drop_of_length_le (by omega)]
  simp [cell_Merge_l0,k]
 | d+1,i,g,acc,ha,hd,hg=>by
  obtain ⟨g,rfl⟩:∃ g',g=g'+1:=⟨g - 1,by omega⟩
  have hi:i<l.length:=by omega
  have k:(i:Int)<(l.length:Int):=by omega
  have k0:(0:Int)≤i:=by omega
  have hx:=hf _ (List.getElem_mem hi)
  have hT:=cell_two_v n acc l[i] ha hx
  have ih:=cell_merge_l0 n l hl hf d (i+1) g (twoC acc l[i]) (twoC_fit ha hx) (by omega) (by omega)
  rw [drop_eq hi,List.foldl_cons]
  simp only [cell_Merge_l0,ilt_eq,ile_eq,k,k0,decide_true,cond_true,lat_eq,iN,Int.toNat_natCast,List.getElem?_eq_getElem hi,bindN_s,hT,iadd1 (i:=i) (by omega),bindL_id2,ih]
theorem cell_Merge_v {n:Nat} (hn:Big n) (l:List CL) (hl:l.length≤1000000) (hf:∀ c∈l,CellFit c):cell_Merge n (l,())=some ((l.foldl twoC zC,()),((),())):=by
 have h:=cell_merge_l0 n l hl hf l.length 0 n zC zC_fit (by omega) (by unfold Big at hn;omega)
 rw [show ((0:Nat):Int)=0 from rfl,List.drop_zero] at h
 have h':cell_Merge_l0 n n (((0:Int),((0:Int),false,()),(0:Int),(0:Int),()),l,(l.length:Int),(0:Int),())=some (.inl (l.foldl twoC zC,())):=h
 simp only [cell_Merge,ilen,h',bindL_inl]
theorem cell_Value_v (n:Nat) (c:CL) (agg:Int):cell_Value n (c,agg,())=some ((valC c agg,()),((),(),())):=by
 unfold valC
 simp only [cell_Value,sat_Of,bindN_s,ieq_eq]
 by_cases h1:agg=1
 ·simp [h1]
 ·by_cases h2:agg=2
  ·simp [h2]
  ·by_cases h3:agg=3
   ·simp [h3]
   ·by_cases h4:agg=4
    ·simp [h4]
    ·simp [h1,h2,h3,h4]
def FitMp (m:List (PK×CL)):Prop:=∀ e∈m,CellFit e.2
theorem mget_fit {k:PK}:∀ {m:List (PK×CL)},FitMp m→CellFit (mget eqK k zC m)
 | [],_=>zC_fit
 | p ::r,h=>by
  rw [mget]
  cases eqK k p.1 with
  | true=>exact h p List.mem_cons_self
  | false=>exact mget_fit fun e he=>h e (List.mem_cons_of_mem _ he)
theorem mput_fit {k:PK} {v:CL} (hv:CellFit v):∀ {m:List (PK×CL)},FitMp m→FitMp (mput eqK k v m)
 | [],_=>fun e he=>by
  rw [mput,List.mem_singleton] at he;rw [he];exact hv
 | p ::r,h=>fun e he=>by
  rw [mput] at he
  cases hq:eqK k p.1 with
  | true =>
   rw [hq,cond_true] at he
   rcases List.mem_cons.1 he with he|he
   ·rw [he];exact hv
   ·exact h e (List.mem_cons_of_mem _ he)
  | false =>
   rw [hq,cond_false] at he
   rcases List.mem_cons.1 he with he|he
   ·rw [he];exact h p List.mem_cons_self
   ·exact mput_fit hv (fun e he=>h e (List.mem_cons_of_mem _ he)) e he
theorem mput_len {k:PK} {v:CL}:∀ m:List (PK×CL),(mput eqK k v m).length≤m.length+1
 | []=>by simp [mput]
 | p ::r=>by
  rw [mput]
  cases eqK k p.1 with
  | true=>simp
  | false=>have:=mput_len (k:=k) (v:=v) r;simp;omega
theorem stepM_fit {q:QY} {m:List (PK×CL)} {x:IT} (hm:FitMp m) (hx:CellFit x.2.2.1):FitMp (stepM q m x):=by
 unfold stepM
 cases okI q x with
 | none=>exact hm
 | some g=>exact mput_fit (twoC_fit (twoC_fit zC_fit (mget_fit hm)) hx) hm
theorem stepM_len (q:QY) (m:List (PK×CL)) (x:IT):(stepM q m x).length≤m.length+1:=by
 unfold stepM
 cases okI q x with
 | none=>exact Nat.le_succ _
 | some g=>exact mput_len m
theorem foldM_len (q:QY):∀ (l:List IT) (m:List (PK×CL)),(l.foldl (stepM q) m).length≤m.length+l.length
 | [],m=>by simp
 | x ::l,m=>by
  have h1:=foldM_len q l (stepM q m x)
  have h2:=stepM_len q m x
  rw [List.foldl_cons,List.length_cons];omega
theorem stepA_v {n:Nat} (hn:Big n) (q:QY) (hq:FitQ q) (x:IT) (hx1:x.2.1.size≤100000) (hx2:CellFit x.2.2.1) (m:List (PK×CL)) (hm:FitMp m):stepA n q x m=some (stepM q m x):=by
 have hS:=row_series_v hn x.2.1 hx1
 have hout:=parseK_out x.2.1
 unfold stepA stepM okI
 rw [hS,bindN_s]
 by_cases q1:(parseK x.2.1).2.2=0
 ·have hr:=hout.resolve_right (fun h=>h.1 q1)
  obtain ⟨f1,f2,f3,f4⟩:=rightK_fit hr.2
  by_cases q2:textK (parseK x.2.1).1 (parseK x.2.1).2.1=x.2.1
  ·have hE:cell_Empty n x.2.2=some ((decide (x.2.2.1.1<1),()),((),())):=by simp [cell_Empty]
   rw [hE]
   simp only [q1,q2,decide_true,Bool.and_self,Bool.not_true,cond_false,bindN_s,if_true]
   by_cases q3:x.2.2.1.1<1
   ·simp only [q3,decide_true,cond_true,if_true]
   ·have hF:=query_Fits_v hn q ((parseK x.2.1).1,(parseK x.2.1).2.1,()) (by show (parseK x.2.1).2.1.length≤_;omega) hq.2.1
    simp only at hF
    simp only [q3,decide_false,cond_false,hF,bindN_s,if_false]
    by_cases q4:fitsQ q.2.1 q.2.2.1 (parseK x.2.1).1 (parseK x.2.1).2.1=true
    ·have hG:=query_Group_v hn q ((parseK x.2.1).1,(parseK x.2.1).2.1,()) f2 hq.2.2
     simp only at hG
     have hM:=cell_Merge_v hn [mget eqK (x.1,groupQ q.2.2.2.1 (parseK x.2.1).2.1) zCell m,x.2.2.1] (by simp) (by
      intro c hc
      simp only [List.mem_cons,List.not_mem_nil,or_false] at hc
      rcases hc with rfl|rfl
      ·exact mget_fit hm
      ·exact hx2)
     simp only [q4,Bool.not_true,cond_false,hG,bindN_s,hM,if_true]
     rfl
    ·have q4':fitsQ q.2.1 q.2.2.1 (parseK x.2.1).1 (parseK x.2.1).2.1=false:=by simpa using q4
     simp only [q4',Bool.not_false,cond_true,Bool.false_eq_true,if_false]
  ·simp only [q1,q2,decide_true,decide_false,Bool.and_false,Bool.not_false,cond_true,if_true,if_false]
 ·simp only [q1,decide_false,Bool.false_and,Bool.not_false,cond_true,if_false]
theorem runA_v {n:Nat} (hn:Big n) (q:QY) (hq:FitQ q):∀ (l:List IT) (m:List (PK×CL)),(∀ x∈l,x.2.1.size≤100000∧CellFit x.2.2.1)→FitMp m→runA n q l m=some (l.foldl (stepM q) m)
 | [],m,_,_=>rfl
 | x ::l,m,hl,hm=>by
  obtain ⟨h1,h2⟩:=hl x List.mem_cons_self
  rw [runA,stepA_v hn q hq x h1 h2 m hm,bindN_s,List.foldl_cons]
  exact runA_v hn q hq l _ (fun y hy=>hl y (List.mem_cons_of_mem _ hy)) (stepM_fit hm h2)
theorem rowsA_v {n:Nat} (q:QY):∀ m:List (PK×CL),rowsA n q m=some (m.map (rowM q))
 | []=>rfl
 | e ::m=>by
  have h:rowA n q e=some (rowM q e):=by
   unfold rowA
   rw [cell_Value_v n e.2 q.1,bindN_s];rfl
  rw [rowsA,h,bindN_s,rowsA_v q m,bindN_s];rfl
theorem row_Answer_v {n:Nat} (hn:Big n) (q:QY) (hq:FitQ q) (l:List IT) (hl:FitI l):row_Answer n (q,l,())=some ((answerQ q l,()),((),(),())):=by
 have hl1:=hl.1
 have hR:=query_Right_v hn q hq.2.1 hq.2.2
 have hC:sl_CloneItem n (l,())=some ((l,()),((),())):=by
  have:room l.length 64=true:=room_of (by omega)
  simp [sl_CloneItem,this]
 have hS:=sl_StableItem_v hn l (by omega)
 have hs:=fitI_sorted hl
 have hA:=runA_v hn q hq (stableS ltK l) [] (fun x hx=>hs.2 x hx) (fun e he=>by cases he)
 have hlen:=foldM_len q (stableS ltK l) []
 have hs1:=hs.1
 have b1:Nat.ble (stableS ltK l).length 1000000=true:=by rw [Nat.ble_eq];omega
 have b2:Nat.ble (((stableS ltK l).foldl (stepM q) []).map (rowM q)).length 1000000=true:=by rw [Nat.ble_eq,List.length_map];simp at hlen;omega
 have hrows:=rows_sorted q l (List.Perm.refl _) (sortRow_spec (((stableS ltK l).foldl (stepM q) []).map (rowM q))).1 ((sortRow_spec (((stableS ltK l).foldl (stepM q) []).map (rowM q))).2.imp fun {a b} h=>by rw [ltRow] at h;exact h)
 unfold answerQ
 simp only [row_Answer,hR,bindN_s]
 unfold rightY
 cases rightQ q.1 q.2.1 q.2.2.1 q.2.2.2.1 with
 | false=>simp
 | true =>
  simp only [Bool.not_true,cond_false,hC,bindN_s,hS,b1,cond_true,hA,rowsA_v,b2,hrows,if_true]
end Go.Proofs.YtdcphpbimeoioaaGreatDoorE
end
section
set_option linter.unusedSectionVars false
namespace Go.Proofs.YtdcphpbimeoioaaGreatDoorE
open Go
set_option linter.unusedVariables false
set_option maxRecDepth 100000
abbrev tLaw16_Turn:Ty := .pair tWrite (.pair (.int .i64) .unit)
abbrev scan_Answer_sg:List Sg:=[.tree tScan]
abbrev scan_Answer_rs:List Rt:=[.tree tAnswer]
def scan_Answer (n:Nat) (x:SgEl scan_Answer_sg):Option (RtEl scan_Answer_rs×OutEl scan_Answer_sg) :=
  bindN (row_Answer n (x.1.2.1,x.1.2.2.2.2)) fun p1 =>
  some (((x.1.1,x.1.2.2.1,p1.1),()),((),()))
abbrev scan_Answer_ent (n:Nat):Ent:=⟨26,scan_Answer_sg,scan_Answer_rs,scan_Answer n⟩
theorem scan_Answer_ok (n:Nat):EntOk Tryz.prog (scan_Answer_ent n):=ent_ok' mixed (T:=[row_Answer_ent n]) (tabCons (row_Answer_ok n) tabNil) tabLNil fun x=>by kernel_rfl
abbrev scan_All_sg:List Sg:=[.tree tQuery, .tree (.int .i64), .tree (.slice tDrop), .tree (.slice tShard)]
abbrev scan_All_rs:List Rt:=[.tree (.slice tRow)]
def scan_All_l0 (n:Nat):Nat→SgEl [.tree (.slice tDrop), .tree (.slice tShard), .boxr tScan]→Option (SgEl [.boxr tScan] ⊕ SgEl [])
  | 0,_=>none
  | g+1,s =>
    bindN (scan_Done n (s.2.2.1,ilen s.2.1,())) fun p1 =>
    bif !p1.1.1 then
     bindN (scan_Step n (s.2.2.1,s.2.1,s.1,())) fun p2 =>
     bindL (scan_All_l0 n g (s.1,s.2.1,p2.1)) (fun a3 =>
      some (Sum.inl a3)) fun b4 =>
     some (Sum.inr ())
    else
    some (Sum.inl s.2.2)
theorem scan_All_l0_ok (n:Nat):∀ g,LEntOk Tryz.prog 31 (nSl scan_All_sg) ⟨0,[.tree (.slice tDrop), .tree (.slice tShard), .boxr tScan],0,[.boxr tScan],[],scan_All_l0 n g⟩ g
  | 0=>loop_zero' fun _=>rfl
  | g+1=>loop_step' mixed (T:=[scan_Start_ent n,scan_Done_ent n,scan_Step_ent n,scan_Answer_ent n]) (tabCons (scan_Start_ok n) (tabCons (scan_Done_ok n) (tabCons (scan_Step_ok n) (tabCons (scan_Answer_ok n) tabNil)))) tabLNil (scan_All_l0_ok n g) fun s=>by kernel_rfl
def scan_All (n:Nat) (x:SgEl scan_All_sg):Option (RtEl scan_All_rs×OutEl scan_All_sg) :=
  bindN (scan_Start n ((0:Int),x.1,x.2.1,())) fun p1 =>
  bindL (scan_All_l0 n n (x.2.2.1,x.2.2.2.1,p1.1)) (fun a2 =>
   bindN (scan_Answer n a2) fun p4 =>
   some (p4.1.1.2.2,((),(),(),(),()))) fun b3 =>
  none
abbrev scan_All_ent (n:Nat):Ent:=⟨31,scan_All_sg,scan_All_rs,scan_All n⟩
theorem scan_All_ok (n:Nat):EntOk Tryz.prog (scan_All_ent n):=ent_ok' mixed (T:=[scan_Start_ent n,scan_Done_ent n,scan_Step_ent n,scan_Answer_ent n]) (tabCons (scan_Start_ok n) (tabCons (scan_Done_ok n) (tabCons (scan_Step_ok n) (tabCons (scan_Answer_ok n) tabNil)))) (tabLCons (scan_All_l0_ok n n) tabLNil) fun x=>by kernel_rfl
abbrev law16_alive_sg:List Sg:=[]
abbrev law16_alive_rs:List Rt:=[.tree .bool]
def law16_alive (n:Nat) (x:SgEl law16_alive_sg):Option (RtEl law16_alive_rs×OutEl law16_alive_sg) :=
  bindN (r07_Parse n ((⟨#[115,117,109,32,99,112,117]⟩:ByteArray),())) fun p1 =>
  bindN (r11_Apply n (([],()),((1:Int),(0:Int),(⟨#[99,112,117,123,97,61,49,125]⟩:ByteArray),(3:Int),()),())) fun p2 =>
  bindN (r11_Apply n (([],()),((2:Int),(0:Int),(⟨#[99,112,117,123,97,61,50,125]⟩:ByteArray),(4:Int),()),())) fun p3 =>
  bindN (scan_Start n ((9:Int),p1.1.1,(2:Int),())) fun p4 =>
  bindN (scan_StepO n (p4.1.1,[p2.1.1,p3.1.1],[],())) fun p5 =>
  bindN (scan_Done n (p5.1.1,(2:Int),())) fun p6 =>
  bindN (scan_StepO n (p5.1.1,[p2.1.1,p3.1.1],[],())) fun p7 =>
  bindN (scan_Answer n p7.1) fun p8 =>
  bif !p6.1.1 then
   bindN (scan_Done n (p7.1.1,(2:Int),())) fun p9 =>
   bif p9.1.1 then
    bif ieq p8.1.1.1 (9:Int) then
     bif ieq p8.1.1.2.1 (2:Int) then
      bindN (r08_Text n p8.1.1.2.2) fun p10 =>
      bif seq p10.1.1 (⟨#[48,124,124,55]⟩:ByteArray) then
       bindN (scan_All n (p1.1.1,(1:Int),[],[p2.1.1,p3.1.1],())) fun p11 =>
       bindN (r08_Text n p11.1) fun p12 =>
       bif seq p12.1.1 (⟨#[48,124,124,51]⟩:ByteArray) then
        bindN (scan_All n (p1.1.1,(2:Int),[((0:Int),(2:Int),())],[p2.1.1,p3.1.1],())) fun p13 =>
        some ((ieq (ilen p13.1.1) (0:Int),()),())
       else
       some ((false,()),())
      else
      some ((false,()),())
     else
     some ((false,()),())
    else
    some ((false,()),())
   else
   some ((false,()),())
  else
  some ((false,()),())
abbrev law16_alive_ent (n:Nat):Ent:=⟨17,law16_alive_sg,law16_alive_rs,law16_alive n⟩
theorem law16_alive_ok (n:Nat):EntOk Tryz.prog (law16_alive_ent n):=ent_ok' mixed (T:=[r07_Parse_ent n,r11_Apply_ent n,scan_Start_ent n,scan_StepO_ent n,scan_Done_ent n,scan_Answer_ent n,r08_Text_ent n,scan_All_ent n]) (tabCons (r07_Parse_ok n) (tabCons (r11_Apply_ok n) (tabCons (scan_Start_ok n) (tabCons (scan_StepO_ok n) (tabCons (scan_Done_ok n) (tabCons (scan_Answer_ok n) (tabCons (r08_Text_ok n) (tabCons (scan_All_ok n) tabNil)))))))) tabLNil fun x=>by kernel_rfl
abbrev law_ScanSteps_sg:List Sg:=[.tree tScan, .tree (.slice tShard), .tree (.slice tDrop)]
abbrev law_ScanSteps_rs:List Rt:=[.tree .bool]
def law_ScanSteps (n:Nat) (x:SgEl law_ScanSteps_sg):Option (RtEl law_ScanSteps_rs×OutEl law_ScanSteps_sg) :=
  bindN (law16_alive n ()) fun p1 =>
  bif !p1.1.1 then
   some ((false,()),((),(),(),()))
  else
  bindN (r16_Great n (x.2.1,())) fun p2 =>
  bif p2.1.1 then
   some ((true,()),((),(),(),()))
  else
  bif ilt (20:Int) (ilen x.2.2.1) then
   some ((true,()),((),(),(),()))
  else
  bindN (r07_Great n (x.1.2.1,())) fun p3 =>
  bif p3.1.1 then
   some ((true,()),((),(),(),()))
  else
  bindN (r08_Much n x.1.2.2.2.2) fun p4 =>
  bif p4.1.1 then
   some ((true,()),((),(),(),()))
  else
  bif roomA ([]:List (El tItem)) x.1.2.2.2.2.1 64 then
   bindN (scan_Step n x) fun p5 =>
   bindN (r16_Step n x) fun p6 =>
   bindN (r16_Same n (p5.1.1,p6.1)) fun p7 =>
   bif p7.1.1 then
    bindN (scan_Done n (x.1,ilen x.2.1,())) fun p8 =>
    bif beqB p8.1.1 (ile (ilen x.2.1) x.1.2.2.2.1) then
     bindN (scan_Answer n (x.1,())) fun p9 =>
     bindN (r16_Answer n (x.1,())) fun p10 =>
     bindN (r16_Answers n (p9.1.1,p10.1)) fun p11 =>
     bif p11.1.1 then
      bindN (r08_Items n (app ([]:List (El tItem)) x.1.2.2.2.2.1,x.1.2.2.2.2)) fun p12 =>
      some (p12.1,((),(),(),()))
     else
     some ((false,()),((),(),(),()))
    else
    some ((false,()),((),(),(),()))
   else
   some ((false,()),((),(),(),()))
  else none
abbrev law_ScanSteps_ent (n:Nat):Ent:=⟨3,law_ScanSteps_sg,law_ScanSteps_rs,law_ScanSteps n⟩
theorem law_ScanSteps_ok (n:Nat):EntOk Tryz.prog (law_ScanSteps_ent n):=ent_ok' mixed (T:=[law16_alive_ent n,r16_Great_ent n,r07_Great_ent n,r08_Much_ent n,scan_Step_ent n,r16_Step_ent n,r16_Same_ent n,scan_Done_ent n,scan_Answer_ent n,r16_Answer_ent n,r16_Answers_ent n,r08_Items_ent n]) (tabCons (law16_alive_ok n) (tabCons (r16_Great_ok n) (tabCons (r07_Great_ok n) (tabCons (r08_Much_ok n) (tabCons (scan_Step_ok n) (tabCons (r16_Step_ok n) (tabCons (r16_Same_ok n) (tabCons (scan_Done_ok n) (tabCons (scan_Answer_ok n) (tabCons (r16_Answer_ok n) (tabCons (r16_Answers_ok n) (tabCons (r08_Items_ok n) tabNil)))))))))))) tabLNil fun x=>by kernel_rfl
abbrev law_ScanAll_sg:List Sg:=[.tree tQuery, .tree (.int .i64), .tree (.slice tShard)]
abbrev law_ScanAll_rs:List Rt:=[.tree .bool]
def law_ScanAll_l0 (n:Nat):Nat→SgEl [.tree (.int .i64), .tree (.slice tShard), .boxr tQuery, .tree (.slice tDrop), .boxr tScan, .tree (.slice tRow), .tree (.int .i64)]→Option (SgEl [.tree (.int .i64), .tree (.slice tShard), .boxr tQuery, .tree (.slice tDrop), .boxr tScan, .tree (.slice tRow)] ⊕ SgEl [])
  | 0,_=>none
  | g+1,s =>
    bif ilt s.2.2.2.2.2.2.1 (ilen s.2.1) then
     bindN (scan_Step n (s.2.2.2.2.1,s.2.1,s.2.2.2.1,())) fun p1 =>
     bindL (law_ScanAll_l0 n g (s.1,s.2.1,s.2.2.1,s.2.2.2.1,p1.1.1,s.2.2.2.2.2.1,iadd .i64 s.2.2.2.2.2.2.1 (1:Int),())) (fun a2 =>
      some (Sum.inl a2)) fun b3 =>
     some (Sum.inr ())
    else
    some (Sum.inl (s.1,s.2.1,s.2.2.1,s.2.2.2.1,s.2.2.2.2.1,s.2.2.2.2.2.1,()))
theorem law_ScanAll_l0_ok (n:Nat):∀ g,LEntOk Tryz.prog 4 (nSl law_ScanAll_sg) ⟨0,[.tree (.int .i64), .tree (.slice tShard), .boxr tQuery, .tree (.slice tDrop), .boxr tScan, .tree (.slice tRow), .tree (.int .i64)],0,[.tree (.int .i64), .tree (.slice tShard), .boxr tQuery, .tree (.slice tDrop), .boxr tScan, .tree (.slice tRow)],[],law_ScanAll_l0 n g⟩ g
  | 0=>loop_zero' fun _=>rfl
  | g+1=>loop_step' mixed (T:=[law16_alive_ent n,r16_Great_ent n,r07_Great_ent n,scan_Start_ent n,r07_Same_ent n,scan_All_ent n,scan_Step_ent n,r16_All_ent n,r08_Same_ent n,scan_Answer_ent n,scan_Done_ent n]) (tabCons (law16_alive_ok n) (tabCons (r16_Great_ok n) (tabCons (r07_Great_ok n) (tabCons (scan_Start_ok n) (tabCons (r07_Same_ok n) (tabCons (scan_All_ok n) (tabCons (scan_Step_ok n) (tabCons (r16_All_ok n) (tabCons (r08_Same_ok n) (tabCons (scan_Answer_ok n) (tabCons (scan_Done_ok n) tabNil))))))))))) tabLNil (law_ScanAll_l0_ok n g) fun s=>by kernel_rfl
def law_ScanAll (n:Nat) (x:SgEl law_ScanAll_sg):Option (RtEl law_ScanAll_rs×OutEl law_ScanAll_sg) :=
  bindN (law16_alive n ()) fun p1 =>
  bif !p1.1.1 then
   some ((false,()),((),(),(),()))
  else
  bindN (r16_Great n x.2.2) fun p2 =>
  bif p2.1.1 then
   some ((true,()),((),(),(),()))
  else
  bindN (r07_Great n (x.1,())) fun p3 =>
  bif p3.1.1 then
   some ((true,()),((),(),(),()))
  else
  bindN (scan_Start n ((4:Int),x.1,x.2.1,())) fun p4 =>
  bif !(ieq p4.1.1.1 (4:Int)) then
   some ((false,()),((),(),(),()))
  else
  bif !(ieq p4.1.1.2.2.1 x.2.1) then
   some ((false,()),((),(),(),()))
  else
  bif !(ieq p4.1.1.2.2.2.1 (0:Int)) then
   some ((false,()),((),(),(),()))
  else
  bif !(ieq (ilen p4.1.1.2.2.2.2.1) (0:Int)) then
   some ((false,()),((),(),(),()))
  else
  bindN (r07_Same n (p4.1.1.2.1,x.1,())) fun p5 =>
  bif !p5.1.1 then
   some ((false,()),((),(),(),()))
  else
  bindN (scan_All n (x.1,x.2.1,[((1:Int),(6:Int),())],x.2.2)) fun p6 =>
  bindL (law_ScanAll_l0 n n (x.2.1,x.2.2.1,x.1,[((1:Int),(6:Int),())],p4.1.1,p6.1.1,(0:Int),())) (fun a7 =>
   bindN (r16_All n (a7.2.2.1,a7.1,a7.2.2.2.1,a7.2.1,())) fun p9 =>
   bindN (r08_Same n (a7.2.2.2.2.2.1,p9.1)) fun p10 =>
   bif p10.1.1 then
    bindN (scan_Answer n (a7.2.2.2.2.1,())) fun p11 =>
    bindN (r08_Same n (a7.2.2.2.2.2.1,p11.1.1.2.2)) fun p12 =>
    bif p12.1.1 then
     bindN (scan_Done n (a7.2.2.2.2.1,ilen a7.2.1,())) fun p13 =>
     some (p13.1,((),(),(),()))
    else
    some ((false,()),((),(),(),()))
   else
   some ((false,()),((),(),(),()))) fun b8 =>
  none
abbrev law_ScanAll_ent (n:Nat):Ent:=⟨4,law_ScanAll_sg,law_ScanAll_rs,law_ScanAll n⟩
theorem law_ScanAll_ok (n:Nat):EntOk Tryz.prog (law_ScanAll_ent n):=ent_ok' mixed (T:=[law16_alive_ent n,r16_Great_ent n,r07_Great_ent n,scan_Start_ent n,r07_Same_ent n,scan_All_ent n,scan_Step_ent n,r16_All_ent n,r08_Same_ent n,scan_Answer_ent n,scan_Done_ent n]) (tabCons (law16_alive_ok n) (tabCons (r16_Great_ok n) (tabCons (r07_Great_ok n) (tabCons (scan_Start_ok n) (tabCons (r07_Same_ok n) (tabCons (scan_All_ok n) (tabCons (scan_Step_ok n) (tabCons (r16_All_ok n) (tabCons (r08_Same_ok n) (tabCons (scan_Answer_ok n) (tabCons (scan_Done_ok n) tabNil))))))))))) (tabLCons (law_ScanAll_l0_ok n n) tabLNil) fun x=>by kernel_rfl
abbrev law_ScanStays_sg:List Sg:=[.tree tScan, .tree (.slice tShard), .tree (.slice tLaw16_Turn)]
abbrev law_ScanStays_rs:List Rt:=[.tree .bool]
def law_ScanStays_l2 (n:Nat):Nat→SgEl [.tree (.slice tShard), .tree (.slice tLaw16_Turn), .boxr tScan, .tree (.slice tRow), .boxr tScan, .own tShard, .tree (.int .i64), .tree (.int .i64)]→Option (SgEl [.tree (.slice tShard), .tree (.slice tLaw16_Turn), .boxr tScan, .tree (.slice tRow), .boxr tScan, .own tShard, .tree (.int .i64)] ⊕ SgEl [])
  | 0,_=>none
  | g+1,s =>
    bif ilt s.2.2.2.2.2.2.2.1 (ilen s.2.2.2.2.2.1) then
     bif ile (0:Int) s.2.2.2.2.2.2.1 then
      bindN (lat s.2.1 (iN s.2.2.2.2.2.2.1)) fun v1 =>
      bif ile v1.2.1 s.2.2.1.2.2.1 then
       bif ile (0:Int) s.2.2.2.2.2.2.2.1 then
        bindN (lat s.2.2.2.2.2.1 (iN s.2.2.2.2.2.2.2.1)) fun v2 =>
        bindN (lat s.2.2.2.2.2.1 (iN s.2.2.2.2.2.2.2.1)) fun v3 =>
        bif ile (0:Int) s.2.2.2.2.2.2.1 then
         bindN (lat s.2.1 (iN s.2.2.2.2.2.2.1)) fun v4 =>
         bindN (r11_Prune n (v3,v4.2.1,[],())) fun p5 =>
         bif ile (0:Int) s.2.2.2.2.2.2.2.1 then
          bindN (lat s.2.2.2.2.2.1 (iN s.2.2.2.2.2.2.2.1)) fun v6 =>
          bindN (lat s.2.2.2.2.2.1 (iN s.2.2.2.2.2.2.2.1)) fun v7 =>
          bif ile (0:Int) s.2.2.2.2.2.2.2.1 then
           bindN (lat (lput s.2.2.2.2.2.1 (iN s.2.2.2.2.2.2.2.1) p5.1.1) (iN s.2.2.2.2.2.2.2.1)) fun v8 =>
           bindN (lat (lput s.2.2.2.2.2.1 (iN s.2.2.2.2.2.2.2.1) p5.1.1) (iN s.2.2.2.2.2.2.2.1)) fun v9 =>
           bif ile (0:Int) s.2.2.2.2.2.2.1 then
            bindN (lat s.2.1 (iN s.2.2.2.2.2.2.1)) fun v10 =>
            bindN (r11_Apply n (v9,v10.1,())) fun p11 =>
            bif ieq p11.1.2.1 (0:Int) then
             bif ile (0:Int) s.2.2.2.2.2.2.1 then
              bindN (lat s.2.1 (iN s.2.2.2.2.2.2.1)) fun v12 =>
              bif ilt s.2.2.1.2.2.1 v12.1.1 then
               bif ile (0:Int) s.2.2.2.2.2.2.1 then
                bindN (lat s.2.1 (iN s.2.2.2.2.2.2.1)) fun v13 =>
                bif ilt (ssize v13.1.2.2.1) (300:Int) then
                 bif ile (0:Int) s.2.2.2.2.2.2.2.1 then
                  bindN (lat (lput s.2.2.2.2.2.1 (iN s.2.2.2.2.2.2.2.1) p5.1.1) (iN s.2.2.2.2.2.2.2.1)) fun v14 =>
                  bindN (lat (lput s.2.2.2.2.2.1 (iN s.2.2.2.2.2.2.2.1) p5.1.1) (iN s.2.2.2.2.2.2.2.1)) fun v15 =>
                  bindL (law_ScanStays_l2 n g (s.1,s.2.1,s.2.2.1,s.2.2.2.1,s.2.2.2.2.1,lput (lput s.2.2.2.2.2.1 (iN s.2.2.2.2.2.2.2.1) p5.1.1) (iN s.2.2.2.2.2.2.2.1) p11.1.1,s.2.2.2.2.2.2.1,iadd .i64 s.2.2.2.2.2.2.2.1 (1:Int),())) (fun a16 =>
                   some (Sum.inl a16)) fun b17 =>
                  some (Sum.inr ())
                 else none
                else
                bindL (law_ScanStays_l2 n g (s.1,s.2.1,s.2.2.1,s.2.2.2.1,s.2.2.2.2.1,lput s.2.2.2.2.2.1 (iN s.2.2.2.2.2.2.2.1) p5.1.1,s.2.2.2.2.2.2.1,iadd .i64 s.2.2.2.2.2.2.2.1 (1:Int),())) (fun a18 =>
                 some (Sum.inl a18)) fun b19 =>
                some (Sum.inr ())
               else none
              else
              bindL (law_ScanStays_l2 n g (s.1,s.2.1,s.2.2.1,s.2.2.2.1,s.2.2.2.2.1,lput s.2.2.2.2.2.1 (iN s.2.2.2.2.2.2.2.1) p5.1.1,s.2.2.2.2.2.2.1,iadd .i64 s.2.2.2.2.2.2.2.1 (1:Int),())) (fun a20 =>
               some (Sum.inl a20)) fun b21 =>
              some (Sum.inr ())
             else none
            else
            bindL (law_ScanStays_l2 n g (s.1,s.2.1,s.2.2.1,s.2.2.2.1,s.2.2.2.2.1,lput s.2.2.2.2.2.1 (iN s.2.2.2.2.2.2.2.1) p5.1.1,s.2.2.2.2.2.2.1,iadd .i64 s.2.2.2.2.2.2.2.1 (1:Int),())) (fun a22 =>
             some (Sum.inl a22)) fun b23 =>
            some (Sum.inr ())
           else none
          else none
         else none
        else none
       else none
      else
      bif ile (0:Int) s.2.2.2.2.2.2.2.1 then
       bindN (lat s.2.2.2.2.2.1 (iN s.2.2.2.2.2.2.2.1)) fun v24 =>
       bindN (lat s.2.2.2.2.2.1 (iN s.2.2.2.2.2.2.2.1)) fun v25 =>
       bif ile (0:Int) s.2.2.2.2.2.2.1 then
        bindN (lat s.2.1 (iN s.2.2.2.2.2.2.1)) fun v26 =>
        bindN (r11_Apply n (v25,v26.1,())) fun p27 =>
        bif ieq p27.1.2.1 (0:Int) then
         bif ile (0:Int) s.2.2.2.2.2.2.1 then
          bindN (lat s.2.1 (iN s.2.2.2.2.2.2.1)) fun v28 =>
          bif ilt s.2.2.1.2.2.1 v28.1.1 then
           bif ile (0:Int) s.2.2.2.2.2.2.1 then
            bindN (lat s.2.1 (iN s.2.2.2.2.2.2.1)) fun v29 =>
            bif ilt (ssize v29.1.2.2.1) (300:Int) then
             bif ile (0:Int) s.2.2.2.2.2.2.2.1 then
              bindN (lat s.2.2.2.2.2.1 (iN s.2.2.2.2.2.2.2.1)) fun v30 =>
              bindN (lat s.2.2.2.2.2.1 (iN s.2.2.2.2.2.2.2.1)) fun v31 =>
              bindL (law_ScanStays_l2 n g (s.1,s.2.1,s.2.2.1,s.2.2.2.1,s.2.2.2.2.1,lput s.2.2.2.2.2.1 (iN s.2.2.2.2.2.2.2.1) p27.1.1,s.2.2.2.2.2.2.1,iadd .i64 s.2.2.2.2.2.2.2.1 (1:Int),())) (fun a32 =>
               some (Sum.inl a32)) fun b33 =>
              some (Sum.inr ())
             else none
            else
            bindL (law_ScanStays_l2 n g (s.1,s.2.1,s.2.2.1,s.2.2.2.1,s.2.2.2.2.1,s.2.2.2.2.2.1,s.2.2.2.2.2.2.1,iadd .i64 s.2.2.2.2.2.2.2.1 (1:Int),())) (fun a34 =>
             some (Sum.inl a34)) fun b35 =>
            some (Sum.inr ())
           else none
          else
          bindL (law_ScanStays_l2 n g (s.1,s.2.1,s.2.2.1,s.2.2.2.1,s.2.2.2.2.1,s.2.2.2.2.2.1,s.2.2.2.2.2.2.1,iadd .i64 s.2.2.2.2.2.2.2.1 (1:Int),())) (fun a36 =>
           some (Sum.inl a36)) fun b37 =>
          some (Sum.inr ())
         else none
        else
        bindL (law_ScanStays_l2 n g (s.1,s.2.1,s.2.2.1,s.2.2.2.1,s.2.2.2.2.1,s.2.2.2.2.2.1,s.2.2.2.2.2.2.1,iadd .i64 s.2.2.2.2.2.2.2.1 (1:Int),())) (fun a38 =>
         some (Sum.inl a38)) fun b39 =>
        some (Sum.inr ())
       else none
      else none
     else none
    else
    some (Sum.inl (s.1,s.2.1,s.2.2.1,s.2.2.2.1,s.2.2.2.2.1,s.2.2.2.2.2.1,s.2.2.2.2.2.2.1,()))
theorem law_ScanStays_l2_ok (n:Nat):∀ g,LEntOk Tryz.prog 5 (nSl law_ScanStays_sg) ⟨2,[.tree (.slice tShard), .tree (.slice tLaw16_Turn), .boxr tScan, .tree (.slice tRow), .boxr tScan, .own tShard, .tree (.int .i64), .tree (.int .i64)],4,[.tree (.slice tShard), .tree (.slice tLaw16_Turn), .boxr tScan, .tree (.slice tRow), .boxr tScan, .own tShard, .tree (.int .i64)],[],law_ScanStays_l2 n g⟩ g
  | 0=>loop_zero' fun _=>rfl
  | g+1=>loop_step' mixed (T:=[law16_alive_ent n,r16_Great_ent n,r07_Great_ent n,r11_Right_ent n,scan_All_ent n,scan_Start_ent n,scan_StepO_ent n,r11_Prune_ent n,r11_Apply_ent n,scan_Answer_ent n,r08_Same_ent n]) (tabCons (law16_alive_ok n) (tabCons (r16_Great_ok n) (tabCons (r07_Great_ok n) (tabCons (r11_Right_ok n) (tabCons (scan_All_ok n) (tabCons (scan_Start_ok n) (tabCons (scan_StepO_ok n) (tabCons (r11_Prune_ok n) (tabCons (r11_Apply_ok n) (tabCons (scan_Answer_ok n) (tabCons (r08_Same_ok n) tabNil))))))))))) tabLNil (law_ScanStays_l2_ok n g) fun s=>by kernel_rfl
def law_ScanStays_l1 (n:Nat):Nat→SgEl [.tree (.slice tShard), .tree (.slice tLaw16_Turn), .boxr tScan, .tree (.slice tRow), .boxr tScan, .own tShard, .tree (.int .i64)]→Option (SgEl [.tree (.slice tRow), .boxr tScan] ⊕ SgEl [])
  | 0,_=>none
  | g+1,s =>
    bif ilt s.2.2.2.2.2.2.1 (ilen s.1) then
     bindN (scan_StepO n (s.2.2.2.2.1,s.2.2.2.2.2.1,[],())) fun p1 =>
     bif ile (ilen s.2.1) s.2.2.2.2.2.2.1 then
      bindL (law_ScanStays_l1 n g (s.1,s.2.1,s.2.2.1,s.2.2.2.1,p1.1.1,p1.2.2.1,iadd .i64 s.2.2.2.2.2.2.1 (1:Int),())) (fun a2 =>
       some (Sum.inl a2)) fun b3 =>
      some (Sum.inr ())
     else
     bindL (law_ScanStays_l2 n n (s.1,s.2.1,s.2.2.1,s.2.2.2.1,p1.1.1,p1.2.2.1,s.2.2.2.2.2.2.1,(0:Int),())) (fun a4 =>
      bindL (law_ScanStays_l1 n g (a4.1,a4.2.1,a4.2.2.1,a4.2.2.2.1,a4.2.2.2.2.1,a4.2.2.2.2.2.1,iadd .i64 a4.2.2.2.2.2.2.1 (1:Int),())) (fun a6 =>
       some (Sum.inl a6)) fun b7 =>
      some (Sum.inr ())) fun b5 =>
     some (Sum.inr ())
    else
    some (Sum.inl (s.2.2.2.1,s.2.2.2.2.1,()))
theorem law_ScanStays_l1_ok (n:Nat):∀ g,LEntOk Tryz.prog 5 (nSl law_ScanStays_sg) ⟨1,[.tree (.slice tShard), .tree (.slice tLaw16_Turn), .boxr tScan, .tree (.slice tRow), .boxr tScan, .own tShard, .tree (.int .i64)],2,[.tree (.slice tRow), .boxr tScan],[],law_ScanStays_l1 n g⟩ g
  | 0=>loop_zero' fun _=>rfl
  | g+1=>loop_step' mixed (T:=[law16_alive_ent n,r16_Great_ent n,r07_Great_ent n,r11_Right_ent n,scan_All_ent n,scan_Start_ent n,scan_StepO_ent n,r11_Prune_ent n,r11_Apply_ent n,scan_Answer_ent n,r08_Same_ent n]) (tabCons (law16_alive_ok n) (tabCons (r16_Great_ok n) (tabCons (r07_Great_ok n) (tabCons (r11_Right_ok n) (tabCons (scan_All_ok n) (tabCons (scan_Start_ok n) (tabCons (scan_StepO_ok n) (tabCons (r11_Prune_ok n) (tabCons (r11_Apply_ok n) (tabCons (scan_Answer_ok n) (tabCons (r08_Same_ok n) tabNil))))))))))) (tabLCons (law_ScanStays_l2_ok n n) tabLNil) (law_ScanStays_l1_ok n g) fun s=>by kernel_rfl
def law_ScanStays_l0 (n:Nat):Nat→SgEl [.tree (.slice tShard), .tree (.slice tLaw16_Turn), .boxr tScan, .tree (.int .i64)]→Option (SgEl [.tree (.slice tShard), .tree (.slice tLaw16_Turn), .boxr tScan] ⊕ SgEl [.tree .bool])
  | 0,_=>none
  | g+1,s =>
    bif ilt s.2.2.2.1 (ilen s.1) then
     bif ile (0:Int) s.2.2.2.1 then
      bindN (lat s.1 (iN s.2.2.2.1)) fun v1 =>
      bindN (r11_Right n (v1,())) fun p2 =>
      bif !p2.1.1 then
       some (Sum.inr (true,()))
      else
      bindL (law_ScanStays_l0 n g (s.1,s.2.1,s.2.2.1,iadd .i64 s.2.2.2.1 (1:Int),())) (fun a3 =>
       some (Sum.inl a3)) fun b4 =>
      some (Sum.inr b4)
     else none
    else
    some (Sum.inl (s.1,s.2.1,s.2.2.1,()))
theorem law_ScanStays_l0_ok (n:Nat):∀ g,LEntOk Tryz.prog 5 (nSl law_ScanStays_sg) ⟨0,[.tree (.slice tShard), .tree (.slice tLaw16_Turn), .boxr tScan, .tree (.int .i64)],0,[.tree (.slice tShard), .tree (.slice tLaw16_Turn), .boxr tScan],[.tree .bool],law_ScanStays_l0 n g⟩ g
  | 0=>loop_zero' fun _=>rfl
  | g+1=>loop_step' mixed (T:=[law16_alive_ent n,r16_Great_ent n,r07_Great_ent n,r11_Right_ent n,scan_All_ent n,scan_Start_ent n,scan_StepO_ent n,r11_Prune_ent n,r11_Apply_ent n,scan_Answer_ent n,r08_Same_ent n]) (tabCons (law16_alive_ok n) (tabCons (r16_Great_ok n) (tabCons (r07_Great_ok n) (tabCons (r11_Right_ok n) (tabCons (scan_All_ok n) (tabCons (scan_Start_ok n) (tabCons (scan_StepO_ok n) (tabCons (r11_Prune_ok n) (tabCons (r11_Apply_ok n) (tabCons (scan_Answer_ok n) (tabCons (r08_Same_ok n) tabNil))))))))))) (tabLCons (law_ScanStays_l1_ok n n) (tabLCons (law_ScanStays_l2_ok n n) tabLNil)) (law_ScanStays_l0_ok n g) fun s=>by kernel_rfl
def law_ScanStays (n:Nat) (x:SgEl law_ScanStays_sg):Option (RtEl law_ScanStays_rs×OutEl law_ScanStays_sg) :=
  bindN (law16_alive n ()) fun p1 =>
  bif !p1.1.1 then
   some ((false,()),((),(),(),()))
  else
  bindN (r16_Great n (x.2.1,())) fun p2 =>
  bif p2.1.1 then
   some ((true,()),((),(),(),()))
  else
  bindN (r07_Great n (x.1.2.1,())) fun p3 =>
  bif p3.1.1 then
   some ((true,()),((),(),(),()))
  else
  bif ilt (10:Int) (ilen x.2.2.1) then
   some ((true,()),((),(),(),()))
  else
  bindL (law_ScanStays_l0 n n (x.2.1,x.2.2.1,x.1,(0:Int),())) (fun a4 =>
   bindN (scan_All n (a4.2.2.1.2.1,a4.2.2.1.2.2.1,[],a4.1,())) fun p6 =>
   bindN (scan_Start n (a4.2.2.1.1,a4.2.2.1.2.1,a4.2.2.1.2.2.1,())) fun p7 =>
   bif roomA ([]:List (El tShard)) a4.1 24 then
    bindL (law_ScanStays_l1 n n (a4.1,a4.2.1,a4.2.2.1,p6.1.1,p7.1.1,app ([]:List (El tShard)) a4.1,(0:Int),())) (fun a8 =>
     bindN (scan_Answer n a8.2) fun p10 =>
     bindN (r08_Same n (p10.1.1.2.2.1,a8.1,())) fun p11 =>
     some (p11.1,((),(),(),()))) fun b9 =>
    none
   else none) fun b5 =>
  some (b5,((),(),(),()))
abbrev law_ScanStays_ent (n:Nat):Ent:=⟨5,law_ScanStays_sg,law_ScanStays_rs,law_ScanStays n⟩
theorem law_ScanStays_ok (n:Nat):EntOk Tryz.prog (law_ScanStays_ent n):=ent_ok' mixed (T:=[law16_alive_ent n,r16_Great_ent n,r07_Great_ent n,r11_Right_ent n,scan_All_ent n,scan_Start_ent n,scan_StepO_ent n,r11_Prune_ent n,r11_Apply_ent n,scan_Answer_ent n,r08_Same_ent n]) (tabCons (law16_alive_ok n) (tabCons (r16_Great_ok n) (tabCons (r07_Great_ok n) (tabCons (r11_Right_ok n) (tabCons (scan_All_ok n) (tabCons (scan_Start_ok n) (tabCons (scan_StepO_ok n) (tabCons (r11_Prune_ok n) (tabCons (r11_Apply_ok n) (tabCons (scan_Answer_ok n) (tabCons (r08_Same_ok n) tabNil))))))))))) (tabLCons (law_ScanStays_l0_ok n n) (tabLCons (law_ScanStays_l1_ok n n) (tabLCons (law_ScanStays_l2_ok n n) tabLNil))) fun x=>by kernel_rfl
abbrev law_shares_sg:List Sg:=[.tree tShard, .tree tShard]
abbrev law_shares_rs:List Rt:=[.tree .bool]
def law_shares_l1 (n:Nat):Nat→SgEl [.boxr tShard, .boxr tShard, .tree (.int .i64), .tree (.int .i64)]→Option (SgEl [.boxr tShard, .boxr tShard, .tree (.int .i64)] ⊕ SgEl [.tree .bool])
  | 0,_=>none
  | g+1,s =>
    bif ilt s.2.2.2.1 (ilen s.2.1.1) then
     bif ile (0:Int) s.2.2.1 then
      bindN (lat s.1.1 (iN s.2.2.1)) fun v1 =>
      bif ile (0:Int) s.2.2.2.1 then
       bindN (lat s.2.1.1 (iN s.2.2.2.1)) fun v2 =>
       bif seq v1.2.1 v2.2.1 then
        some (Sum.inr (true,()))
       else
       bindL (law_shares_l1 n g (s.1,s.2.1,s.2.2.1,iadd .i64 s.2.2.2.1 (1:Int),())) (fun a3 =>
        some (Sum.inl a3)) fun b4 =>
       some (Sum.inr b4)
      else none
     else none
    else
    some (Sum.inl (s.1,s.2.1,s.2.2.1,()))
theorem law_shares_l1_ok (n:Nat):∀ g,LEntOk Tryz.prog 37 (nSl law_shares_sg) ⟨1,[.boxr tShard, .boxr tShard, .tree (.int .i64), .tree (.int .i64)],2,[.boxr tShard, .boxr tShard, .tree (.int .i64)],[.tree .bool],law_shares_l1 n g⟩ g
  | 0=>loop_zero' fun _=>rfl
  | g+1=>loop_step' mixed (T:=[]) tabNil tabLNil (law_shares_l1_ok n g) fun s=>by kernel_rfl
def law_shares_l0 (n:Nat):Nat→SgEl [.boxr tShard, .boxr tShard, .tree (.int .i64)]→Option (SgEl [] ⊕ SgEl [.tree .bool])
  | 0,_=>none
  | g+1,s =>
    bif ilt s.2.2.1 (ilen s.1.1) then
     bindL (law_shares_l1 n n (s.1,s.2.1,s.2.2.1,(0:Int),())) (fun a1 =>
      bindL (law_shares_l0 n g (a1.1,a1.2.1,iadd .i64 a1.2.2.1 (1:Int),())) (fun a3 =>
       some (Sum.inl ())) fun b4 =>
      some (Sum.inr b4)) fun b2 =>
     some (Sum.inr b2)
    else
    some (Sum.inl ())
theorem law_shares_l0_ok (n:Nat):∀ g,LEntOk Tryz.prog 37 (nSl law_shares_sg) ⟨0,[.boxr tShard, .boxr tShard, .tree (.int .i64)],0,[],[.tree .bool],law_shares_l0 n g⟩ g
  | 0=>loop_zero' fun _=>rfl
  | g+1=>loop_step' mixed (T:=[]) tabNil (tabLCons (law_shares_l1_ok n n) tabLNil) (law_shares_l0_ok n g) fun s=>by kernel_rfl
def law_shares (n:Nat) (x:SgEl law_shares_sg):Option (RtEl law_shares_rs×OutEl law_shares_sg) :=
  bindL (law_shares_l0 n n (x.1,x.2.1,(0:Int),())) (fun a1 =>
   some ((false,()),((),(),()))) fun b2 =>
  some (b2,((),(),()))
abbrev law_shares_ent (n:Nat):Ent:=⟨37,law_shares_sg,law_shares_rs,law_shares n⟩
theorem law_shares_ok (n:Nat):EntOk Tryz.prog (law_shares_ent n):=ent_ok' mixed (T:=[]) tabNil (tabLCons (law_shares_l0_ok n n) (tabLCons (law_shares_l1_ok n n) tabLNil)) fun x=>by kernel_rfl
abbrev law_ScanTurned_sg:List Sg:=[.tree tQuery, .tree (.int .i64), .tree (.slice tShard)]
abbrev law_ScanTurned_rs:List Rt:=[.tree .bool]
def law_ScanTurned_l1 (n:Nat):Nat→SgEl [.tree (.int .i64), .tree (.slice tShard), .boxr tQuery, .own tShard, .tree (.int .i64), .tree (.int .i64)]→Option (SgEl [.tree (.int .i64), .tree (.slice tShard), .boxr tQuery, .own tShard, .tree (.int .i64)] ⊕ SgEl [.tree .bool])
  | 0,_=>none
  | g+1,s =>
    bif ilt s.2.2.2.2.2.1 s.2.2.2.2.1 then
     bif ile (0:Int) s.2.2.2.2.1 then
      bindN (lat s.2.1 (iN s.2.2.2.2.1)) fun v1 =>
      bif ile (0:Int) s.2.2.2.2.2.1 then
       bindN (lat s.2.1 (iN s.2.2.2.2.2.1)) fun v2 =>
       bindN (law_shares n (v1,v2,())) fun p3 =>
       bif p3.1.1 then
        some (Sum.inr (true,()))
       else
       bindL (law_ScanTurned_l1 n g (s.1,s.2.1,s.2.2.1,s.2.2.2.1,s.2.2.2.2.1,iadd .i64 s.2.2.2.2.2.1 (1:Int),())) (fun a4 =>
        some (Sum.inl a4)) fun b5 =>
       some (Sum.inr b5)
      else none
     else none
    else
    some (Sum.inl (s.1,s.2.1,s.2.2.1,s.2.2.2.1,s.2.2.2.2.1,()))
theorem law_ScanTurned_l1_ok (n:Nat):∀ g,LEntOk Tryz.prog 6 (nSl law_ScanTurned_sg) ⟨1,[.tree (.int .i64), .tree (.slice tShard), .boxr tQuery, .own tShard, .tree (.int .i64), .tree (.int .i64)],2,[.tree (.int .i64), .tree (.slice tShard), .boxr tQuery, .own tShard, .tree (.int .i64)],[.tree .bool],law_ScanTurned_l1 n g⟩ g
  | 0=>loop_zero' fun _=>rfl
  | g+1=>loop_step' mixed (T:=[law16_alive_ent n,r16_Great_ent n,r07_Great_ent n,law_shares_ent n,scan_All_ent n,r08_Same_ent n]) (tabCons (law16_alive_ok n) (tabCons (r16_Great_ok n) (tabCons (r07_Great_ok n) (tabCons (law_shares_ok n) (tabCons (scan_All_ok n) (tabCons (r08_Same_ok n) tabNil)))))) tabLNil (law_ScanTurned_l1_ok n g) fun s=>by kernel_rfl
def law_ScanTurned_l0 (n:Nat):Nat→SgEl [.tree (.int .i64), .tree (.slice tShard), .boxr tQuery, .own tShard, .tree (.int .i64)]→Option (SgEl [.tree (.int .i64), .tree (.slice tShard), .boxr tQuery, .own tShard] ⊕ SgEl [.tree .bool])
  | 0,_=>none
  | g+1,s =>
    bif ile (0:Int) s.2.2.2.2.1 then
     bif ile (0:Int) s.2.2.2.2.1 then
      bindN (lat s.2.1 (iN s.2.2.2.2.1)) fun v1 =>
      bif roomA s.2.2.2.1 [v1] 24 then
       bindL (law_ScanTurned_l1 n n (s.1,s.2.1,s.2.2.1,app s.2.2.2.1 [v1],s.2.2.2.2.1,(0:Int),())) (fun a2 =>
        bindL (law_ScanTurned_l0 n g (a2.1,a2.2.1,a2.2.2.1,a2.2.2.2.1,isub .i64 a2.2.2.2.2.1 (1:Int),())) (fun a4 =>
         some (Sum.inl a4)) fun b5 =>
        some (Sum.inr b5)) fun b3 =>
       some (Sum.inr b3)
      else none
     else none
    else
    some (Sum.inl (s.1,s.2.1,s.2.2.1,s.2.2.2.1,()))
theorem law_ScanTurned_l0_ok (n:Nat):∀ g,LEntOk Tryz.prog 6 (nSl law_ScanTurned_sg) ⟨0,[.tree (.int .i64), .tree (.slice tShard), .boxr tQuery, .own tShard, .tree (.int .i64)],0,[.tree (.int .i64), .tree (.slice tShard), .boxr tQuery, .own tShard],[.tree .bool],law_ScanTurned_l0 n g⟩ g
  | 0=>loop_zero' fun _=>rfl
  | g+1=>loop_step' mixed (T:=[law16_alive_ent n,r16_Great_ent n,r07_Great_ent n,law_shares_ent n,scan_All_ent n,r08_Same_ent n]) (tabCons (law16_alive_ok n) (tabCons (r16_Great_ok n) (tabCons (r07_Great_ok n) (tabCons (law_shares_ok n) (tabCons (scan_All_ok n) (tabCons (r08_Same_ok n) tabNil)))))) (tabLCons (law_ScanTurned_l1_ok n n) tabLNil) (law_ScanTurned_l0_ok n g) fun s=>by kernel_rfl
def law_ScanTurned (n:Nat) (x:SgEl law_ScanTurned_sg):Option (RtEl law_ScanTurned_rs×OutEl law_ScanTurned_sg) :=
  bindN (law16_alive n ()) fun p1 =>
  bif !p1.1.1 then
   some ((false,()),((),(),(),()))
  else
  bindN (r16_Great n x.2.2) fun p2 =>
  bif p2.1.1 then
   some ((true,()),((),(),(),()))
  else
  bindN (r07_Great n (x.1,())) fun p3 =>
  bif p3.1.1 then
   some ((true,()),((),(),(),()))
  else
  bindL (law_ScanTurned_l0 n n (x.2.1,x.2.2.1,x.1,[],isub .i64 (ilen x.2.2.1) (1:Int),())) (fun a4 =>
   bindN (scan_All n (a4.2.2.1,a4.1,[],a4.2.1,())) fun p6 =>
   bindN (scan_All n (a4.2.2.1,a4.1,[],a4.2.2.2)) fun p7 =>
   bindN (r08_Same n (p6.1.1,p7.1)) fun p8 =>
   some (p8.1,((),(),(),()))) fun b5 =>
  some (b5,((),(),(),()))
abbrev law_ScanTurned_ent (n:Nat):Ent:=⟨6,law_ScanTurned_sg,law_ScanTurned_rs,law_ScanTurned n⟩
theorem law_ScanTurned_ok (n:Nat):EntOk Tryz.prog (law_ScanTurned_ent n):=ent_ok' mixed (T:=[law16_alive_ent n,r16_Great_ent n,r07_Great_ent n,law_shares_ent n,scan_All_ent n,r08_Same_ent n]) (tabCons (law16_alive_ok n) (tabCons (r16_Great_ok n) (tabCons (r07_Great_ok n) (tabCons (law_shares_ok n) (tabCons (scan_All_ok n) (tabCons (r08_Same_ok n) tabNil)))))) (tabLCons (law_ScanTurned_l0_ok n n) (tabLCons (law_ScanTurned_l1_ok n n) tabLNil)) fun x=>by kernel_rfl
end Go.Proofs.YtdcphpbimeoioaaGreatDoorE
end
section
set_option linter.unusedSectionVars false
namespace Go.Proofs.YtdcphpbimeoioaaGreatDoorE
open Go
set_option linter.unusedVariables false
set_option linter.unusedSimpArgs false
theorem r08_Same_v {n:Nat} (hn:Big n) {a b:List (El tRow)} (ha:Lim a):r08_Same n (a,b,())=some ((eqb a b,()),((),(),())):=by
 by_cases h:a.length=b.length
 ·letI:DecidableEq (El tRow):=fun _ _=>Classical.propDecidable _
  have hL:=eq_loop h (L:=fun g i=>r08_Same_l0 n g (a,b,i,())) (fun g=>by simp [r08_Same_l0]) (fun g i h1 h2=>by
   have e:=iadd1 (i:=i) (by omega)
   simp [r08_Same_l0,h1,h2,e,eqb,Prod.ext_iff]
   try (split<;>split<;>first|rfl|(exfalso;simp_all))) (g:=n) (by unfold Big at hn;omega)
  simp only [r08_Same,ilen,h,ieq_eq] at hL ⊢
  simp only [decide_true,Bool.not_true,cond_false,hL]
  by_cases e:a=b<;>simp [e,eqb_f]
 ·have e:a≠b:=fun e=>h (by rw [e])
  have h':¬ (a.length:Int)=(b.length:Int):=by omega
  simp [r08_Same,h',eqb_f e]
theorem r08_Items_v {n:Nat} (hn:Big n) {a b:List (El tItem)} (ha:Lim a):r08_Items n (a,b,())=some ((eqb a b,()),((),(),())):=by
 by_cases h:a.length=b.length
 ·letI:DecidableEq (El tItem):=fun _ _=>Classical.propDecidable _
  have hL:=eq_loop h (L:=fun g i=>r08_Items_l0 n g (a,b,i,())) (fun g=>by simp [r08_Items_l0]) (fun g i h1 h2=>by
   have e:=iadd1 (i:=i) (by omega)
   simp [r08_Items_l0,h1,h2,e,eqb,Prod.ext_iff]
   try (split<;>split<;>first|rfl|(exfalso;simp_all))) (g:=n) (by unfold Big at hn;omega)
  simp only [r08_Items,ilen,h,ieq_eq] at hL ⊢
  simp only [decide_true,Bool.not_true,cond_false,hL]
  by_cases e:a=b<;>simp [e,eqb_f]
 ·have e:a≠b:=fun e=>h (by rw [e])
  have h':¬ (a.length:Int)=(b.length:Int):=by omega
  simp [r08_Items,h',eqb_f e]
end Go.Proofs.YtdcphpbimeoioaaGreatDoorE
end
section
set_option linter.unusedSectionVars false
namespace Go.Proofs.YtdcphpbimeoioaaGreatDoorE
open Go Go.Proofs
set_option linter.unusedVariables false
set_option linter.unusedSimpArgs false
def muchI (l:List (El tItem)):Bool:=decide (100<l.length) || l.any fun r=>decide (300<r.2.1.size)
theorem r08_Much_v {n:Nat} (hn:Big n) (l:List (El tItem)):r08_Much n (l,())=some ((muchI l,()),((),())):=by
 by_cases h:100<l.length
 ·have h':(100:Int)<l.length:=by omega
  simp [r08_Much,muchI,h,h']
 ·have hL:=any_loop (a:=l) (fun r=>decide (300<r.2.1.size)) true (L:=fun g i=>r08_Much_l0 n g (l,i,())) (fun g=>by simp [r08_Much_l0]) (fun g i h1=>by
   have e:=iadd1 (i:=i) (by omega)
   by_cases hp:300<(l[i]).2.1.size
   ·have hp':(300:Int)<(l[i]).2.1.size:=by omega
    simp [r08_Much_l0,h1,e,hp,hp']
   ·have hp':¬ (300:Int)<(l[i]).2.1.size:=by omega
    simp [r08_Much_l0,h1,e,hp,hp']) (g:=n) (by unfold Big at hn;omega)
  have e:¬ (100:Int)<l.length:=by omega
  simp only [r08_Much,ilen,ilt_eq,e,decide_false,cond_false,hL,muchI,h,Bool.false_or]
  generalize l.any _=c
  cases c<;>simp
theorem not_muchI {l:List (El tItem)} (h:muchI l=false):l.length≤100∧∀ r∈l,r.2.1.size≤300:=by
 unfold muchI at h
 rw [Bool.or_eq_false_iff,decide_eq_false_iff_not,List.any_eq_false] at h
 exact ⟨by omega,fun r hr=>by have:=h.2 r hr;simp at this;omega⟩
theorem i64_of {n:Int} (h:(Lit.int .i64 n).wf=true):I64 n:=by
 simp [Lit.wf,IntKind.bits,IntKind.signed,IntKind.min,IntKind.max] at h
 unfold I64
 omega
end Go.Proofs.YtdcphpbimeoioaaGreatDoorE
end
section
set_option linter.unusedSectionVars false
namespace Go.Proofs.YtdcphpbimeoioaaGreatDoorE
open Go Go.Proofs
set_option linter.unusedVariables false
set_option linter.unusedSimpArgs false
set_option maxRecDepth 100000
theorem big_n:Big 1000000000000000:=by unfold Big;omega
end Go.Proofs.YtdcphpbimeoioaaGreatDoorE
end
section
set_option linter.unusedSectionVars false
namespace Go.Proofs.YtdcphpbimeoioaaGreatDoorE
open Go Go.Proofs
set_option linter.unusedVariables false
set_option linter.unusedSimpArgs false
set_option maxRecDepth 100000
theorem fitQ_of {q:QY} (h:greatQ q.2.1 q.2.2.1 q.2.2.2.1=false):FitQ q:=by
 obtain ⟨h1,h2,h3,_⟩:=not_greatQ h
 exact ⟨by omega,by have:=h2.1;omega,by omega⟩
theorem cell_ok {c:CL} (h:okE tCell c):CellFit c:=⟨i64_of h.1,i64_of h.2.1.1,i64_of h.2.2.1,i64_of h.2.2.2.1⟩
theorem fitI_of {l:List IT} (ho:okE (.slice tItem) l) (h:muchI l=false):FitI l:=by
 obtain ⟨h1,h2⟩:=not_muchI h
 exact ⟨by omega,fun r hr=>⟨by have:=h2 r hr;omega,cell_ok (ho.2 r hr).2.2.1⟩⟩
theorem filter_right {l:List TG} (h:rightT l=true) (p:TG→Bool):rightT (l.filter p)=true:=by
 obtain ⟨h1,h2,h3⟩:=(right_iff l).1 h
 refine (right_iff _).2 ⟨?_,h2.sublist List.filter_sublist,Nat.le_trans (List.length_filter_le _ _) h3⟩
 rw [List.all_eq_true] at h1 ⊢
 exact fun x hx=>h1 x (List.mem_filter.1 hx).1
def GoodG (g:ByteArray):Prop:=groupE g=0∧g.size≤1000
theorem good_text {l:List TG} (h:rightT l=true):GoodG (textT l):=by
 have h1:=parse_text l h
 have h2:=(right_fit h).2
 refine ⟨?_,by rw [← size_bl];exact h2⟩
 unfold groupE
 rw [h1];simp
theorem okI_good {q:QY} {x:IT} {g:ByteArray} (h:okI q x=some g):GoodG g:=by
 unfold okI at h
 split at h
 ·rename_i q1
  split at h
  ·split at h
   ·cases h
   ·split at h
    ·cases h
     have hr:=(parseK_out x.2.1).resolve_right (fun h'=>h'.1 q1)
     have h2:=((rightK_iff _ _).1 hr.2).2
     exact good_text (filter_right h2 _)
    ·cases h
  ·cases h
 ·cases h
theorem parts_good (q:QY):∀ (l acc:List IT),(∀ p∈acc,GoodG p.2.1)→∀ p∈l.foldl (stepQ q) acc,GoodG p.2.1
 | [],acc,h=>h
 | x ::l,acc,h=>by
  rw [List.foldl_cons]
  refine parts_good q l _ fun p hp=>?_
  unfold stepQ at hp
  cases ho:okI q x with
  | none=>rw [ho] at hp;exact h p hp
  | some g =>
   rw [ho] at hp
   rcases intoP_mem hp with h1|h1|⟨z,hz,h1⟩
   ·exact h p h1
   ·rw [h1];exact okI_good ho
   ·rw [h1];exact h z hz
theorem rise_of:∀ {l:List RW},l.Pairwise (fun a b=>befR a b=true)→riseR l=true
 | [],_=>rfl
 | [a],_=>rfl
 | a ::b ::r,h=>by
  have h1:=List.pairwise_cons.1 h
  rw [riseR,h1.1 b List.mem_cons_self,rise_of h1.2];rfl
theorem parts_strict (q:QY) (l:List IT):StrictP (partsQ' q l):=(fold_eqv q (stableS ltK l) [] [] ⟨inv0,List.Pairwise.nil,List.Perm.refl _⟩).2.1
theorem answer_fit (q:QY) (l:List IT) (hl:l.length≤100000):FitR (answerQ q l)∧rightR (answerQ q l)=true:=by
 unfold answerQ
 cases rightY q with
 | false=>exact ⟨⟨by simp,fun r hr=>by simp at hr⟩,rfl⟩
 | true =>
  have hg:=parts_good q (stableS ltK l) [] (fun p hp=>by cases hp)
  have hlen:=fold_len q (stableS ltK l) []
  have hp:=(stableS_perm l).length_eq
  rw [if_pos rfl]
  refine ⟨⟨by rw [List.length_map];unfold partsQ';simp at hlen;omega,fun r hr=>?_⟩,?_⟩
  ·obtain ⟨p,hp,rfl⟩:=List.mem_map.1 hr
   have:=(hg p hp).2
   show p.2.1.size≤_;omega
  ·unfold rightR
   rw [Bool.and_eq_true,List.all_eq_true]
   refine ⟨fun r hr=>?_,rise_of ?_⟩
   ·obtain ⟨p,hp,rfl⟩:=List.mem_map.1 hr
    exact decide_eq_true (hg p hp).1
   ·rw [List.pairwise_map]
    exact (parts_strict q l).imp fun {a b} h=>h
end Go.Proofs.YtdcphpbimeoioaaGreatDoorE
end
section
set_option linter.unusedSectionVars false
namespace Go.Proofs.YtdcphpbimeoioaaGreatDoorE
open Go
set_option linter.unusedVariables false
set_option linter.unusedSimpArgs false
theorem r02_Same_v {n:Nat} (hn:Big n) {a b:List (El .str)} (ha:Lim a):r02_Same n (a,b,())=some ((eqb a b,()),((),(),())):=by
 by_cases h:a.length=b.length
 ·letI:DecidableEq (El .str):=fun _ _=>Classical.propDecidable _
  have hL:=eq_loop h (L:=fun g i=>r02_Same_l0 n g (a,b,i,())) (fun g=>by simp [r02_Same_l0]) (fun g i h1 h2=>by
   have e:=iadd1 (i:=i) (by omega)
   simp [r02_Same_l0,h1,h2,e,eqb,Prod.ext_iff]
   try (split<;>split<;>first|rfl|(exfalso;simp_all))) (g:=n) (by unfold Big at hn;omega)
  simp only [r02_Same,ilen,h,ieq_eq] at hL ⊢
  simp only [decide_true,Bool.not_true,cond_false,hL]
  by_cases e:a=b<;>simp [e,eqb_f]
 ·have e:a≠b:=fun e=>h (by rw [e])
  have h':¬ (a.length:Int)=(b.length:Int):=by omega
  simp [r02_Same,h',eqb_f e]
theorem r05_Same_v {n:Nat} (hn:Big n) {a b:List (El tMatch)} (ha:Lim a):r05_Same n (a,b,())=some ((eqb a b,()),((),(),())):=by
 by_cases h:a.length=b.length
 ·letI:DecidableEq (El tMatch):=fun _ _=>Classical.propDecidable _
  have hL:=eq_loop h (L:=fun g i=>r05_Same_l0 n g (a,b,i,())) (fun g=>by simp [r05_Same_l0]) (fun g i h1 h2=>by
   have e:=iadd1 (i:=i) (by omega)
   simp [r05_Same_l0,h1,h2,e,eqb,Prod.ext_iff]
   try (split<;>split<;>first|rfl|(exfalso;simp_all))) (g:=n) (by unfold Big at hn;omega)
  simp only [r05_Same,ilen,h,ieq_eq] at hL ⊢
  simp only [decide_true,Bool.not_true,cond_false,hL]
  by_cases e:a=b<;>simp [e,eqb_f]
 ·have e:a≠b:=fun e=>h (by rw [e])
  have h':¬ (a.length:Int)=(b.length:Int):=by omega
  simp [r05_Same,h',eqb_f e]
def LimQ (q:El tQuery):Prop:=Lim q.2.2.1∧Lim q.2.2.2.1
theorem r07_Same_v {n:Nat} (hn:Big n) {a b:El tQuery} (ha:LimQ a):r07_Same n (a,b,())=some ((eqb a b,()),((),(),())):=by
 have h0:=r05_Same_v hn (b:=b.2.2.1) ha.1
 have h1:=r02_Same_v hn (b:=b.2.2.2.1) ha.2
 obtain ⟨a0,a1,a2,a3,⟨⟩⟩:=a
 obtain ⟨b0,b1,b2,b3,⟨⟩⟩:=b
 simp only [Prod.mk.injEq,and_true] at *
 simp only [r07_Same,h0,h1,bindN_s,ieq_eq,seq_eq]
 by_cases e0:a0=b0<;>by_cases e1:a1=b1<;>by_cases e2:a2=b2<;>by_cases e3:a3=b3<;>simp [*,eqb]
end Go.Proofs.YtdcphpbimeoioaaGreatDoorE
end
section
set_option linter.unusedSectionVars false
namespace Go.Proofs.YtdcphpbimeoioaaGreatDoorE
open Go Go.Proofs
set_option linter.unusedVariables false
set_option linter.unusedSimpArgs false
abbrev VS:=El tVersion
abbrev EN:=El tEntry
abbrev SH:=El tShard
abbrev DR:=El tDrop
abbrev WT:=El tWrite
def zCL:CL:=(0,(0,false,()),0,0,())
theorem zC_fit':CellFit zCL:=⟨⟨by decide,by decide⟩,⟨by decide,by decide⟩,⟨by decide,by decide⟩,⟨by decide,by decide⟩⟩
def atO (st:Int):List VS→Option CL
 | []=>none
 | v ::r=>match atO st r with|some c=>some c|none=>if v.1≤st then some v.2.1 else none
def atC (l:List VS) (st:Int):CL:=(atO st l).getD zCL
theorem at_l0 (n:Nat) (l:List VS) (st:Int) (z:CL) (hl:l.length≤1000000):∀ (d i g:Nat) (c:CL),i+d=l.length→d<g →
  r10_At_l0 n g (l,st,z,c,(i:Int),())=some (.inl (z,(atO st (l.drop i)).getD c,()))
 | 0,i,g,c,hd,hg=>by
  obtain ⟨g,rfl⟩:∃ g',g=g'+1:=⟨g - 1,by omega⟩
  have k:¬ (i:Int)<(l.length:Int):=by omega
  rw [List.drop_of_length_le (by omega)]
  simp [r10_At_l0,k,atO]
 | d+1,i,g,c,hd,hg=>by
  obtain ⟨g,rfl⟩:∃ g',g=g'+1:=⟨g - 1,by omega⟩
  have hi:i<l.length:=by omega
  have k:(i:Int)<(l.length:Int):=by omega
  have k0:(0:Int)≤i:=by omega
  have ih:=fun c=>at_l0 n l st z hl d (i+1) g c (by omega) (by omega)
  rw [drop_eq hi,atO]
  simp only [r10_At_l0,ilt_eq,ile_eq,ilen,k,k0,decide_true,cond_true,lat_eq,iN,Int.toNat_natCast,List.getElem?_eq_getElem hi,bindN_s,iadd1 (i:=i) (by omega),bindL_id2,ih]
  cases atO st (l.drop (i+1)) with
  | some c'=>by_cases h:l[i].1≤st<;>simp [h]
  | none=>by_cases h:l[i].1≤st<;>simp [h]
theorem r10_At_v {n:Nat} (hn:Big n) (l:List VS) (st:Int) (hl:l.length≤1000000):r10_At n (l,st,())=some ((atC l st,()),((),(),())):=by
 have h:=at_l0 n l st zCL hl l.length 0 n zCL (by omega) (by unfold Big at hn;omega)
 rw [show ((0:Nat):Int)=0 from rfl,List.drop_zero] at h
 have h':r10_At_l0 n n (l,st,((0:Int),((0:Int),false,()),(0:Int),(0:Int),()),((0:Int),((0:Int),false,()),(0:Int),(0:Int),()),(0:Int),())=_:=h
 simp only [r10_At,h',bindL_inl]
 rfl
def dropD (ds:List DR) (w st:Int):Bool:=ds.any fun d=>decide (d.1=w) && decide (d.2.1≤st)
theorem r11_Dropped_v {n:Nat} (hn:Big n) (ds:List DR) (w st:Int) (hl:ds.length≤1000000):r11_Dropped n (ds,w,st,())=some ((dropD ds w st,()),((),(),(),())):=by
 have hL:=any_loop' (a:=ds) (fun d=>decide (d.1=w) && decide (d.2.1≤st)) () (true,()) (L:=fun g i=>r11_Dropped_l0 n g (ds,w,st,i,())) (fun g=>by simp [r11_Dropped_l0]) (fun g i hi=>by
  have k:(i:Int)<(ds.length:Int):=by omega
  have k0:(0:Int)≤i:=by omega
  simp only [r11_Dropped_l0,ilt_eq,ile_eq,ieq_eq,ilen,k,k0,decide_true,cond_true,lat_eq,iN,Int.toNat_natCast,List.getElem?_eq_getElem hi,bindN_s,iadd1 (i:=i) (by omega),bindL_id]
  by_cases h1:ds[i].1=w
  ·by_cases h2:ds[i].2.1≤st<;>simp [h1,h2]
  ·simp [h1]) (g:=n) (by unfold Big at hn;omega)
 simp only [r11_Dropped,hL]
 unfold dropD
 cases ds.any (fun d=>decide (d.1=w) && decide (d.2.1≤st))<;>simp
def readE (st:Int) (ds:List DR) (e:EN):Option IT :=
 if 1≤(atC e.2.2.1 st).1 then (if dropD ds e.1 st=true then none else some (e.1,e.2.1,atC e.2.2.1 st,())) else none
def readS (s:SH) (st:Int) (ds:List DR):List IT:=s.1.filterMap (readE st ds)
def FitS (s:SH):Prop:=s.1.length≤100000∧∀ e∈s.1,e.2.2.1.length≤100000
theorem rread_l0 {n:Nat} (hn:Big n) (s:SH) (hs:FitS s) (st:Int) (ds:List DR) (hd':ds.length≤1000000):∀ (d i g:Nat) (acc:List IT),i+d=s.1.length→acc.length≤i→d<g →
  r11_Read_l0 n g (st,ds,s,acc,(i:Int),())=some (.inl (acc++(s.1.drop i).filterMap (readE st ds),()))
 | 0,i,g,acc,hd,ha,hg=>by
  obtain ⟨g,rfl⟩:∃ g',g=g'+1:=⟨g - 1,by omega⟩
  have k:¬ (i:Int)<(s.1.length:Int):=by omega
  rw [List.drop_of_length_le (by omega)]
  simp [r11_Read_l0,k]
 | d+1,i,g,acc,hd,ha,hg=>by
  obtain ⟨g,rfl⟩:∃ g',g=g'+1:=⟨g - 1,by omega⟩
  have hs1:=hs.1
  have hi:i<s.1.length:=by omega
  have k:(i:Int)<(s.1.length:Int):=by omega
  have k0:(0:Int)≤i:=by omega
  have hA:=r10_At_v hn s.1[i].2.2.1 st (by have:=hs.2 _ (List.getElem_mem hi);omega)
  have hD:=r11_Dropped_v hn ds s.1[i].1 st hd'
  have r1:room (acc.length+1) 64=true:=room_of (by omega)
  have ih1:=fun x=>rread_l0 hn s hs st ds hd' d (i+1) g (acc++[x]) (by omega) (by simp;omega) (by omega)
  have ih2:=rread_l0 hn s hs st ds hd' d (i+1) g acc (by omega) (by omega) (by omega)
  rw [drop_eq hi,List.filterMap_cons]
  simp only [r11_Read_l0,ilt_eq,ile_eq,ilen,k,k0,decide_true,cond_true,lat_eq,iN,Int.toNat_natCast,List.getElem?_eq_getElem hi,bindN_s,hA,hD,roomA,List.length_singleton,r1,app,iadd1 (i:=i) (by omega),bindL_id2,ih1,ih2]
  unfold readE
  by_cases h1:(1:Int)≤(atC s.1[i].2.2.1 st).1
  ·cases h2:dropD ds s.1[i].1 st<;>simp [h1]
  ·simp [h1]
theorem r11_Read_v {n:Nat} (hn:Big n) (s:SH) (hs:FitS s) (st:Int) (ds:List DR) (hd:ds.length≤1000000):r11_Read n (s,st,ds,())=some ((readS s st ds,()),((),(),(),())):=by
 have h:=rread_l0 hn s hs st ds hd s.1.length 0 n [] (by omega) (by simp) (by have:=hs.1;unfold Big at hn;omega)
 rw [show ((0:Nat):Int)=0 from rfl,List.drop_zero,List.nil_append] at h
 simp only [r11_Read,h,bindL_inl]
 rfl
def pruneV (f:Int):List VS→List VS
 | []=>[]
 | v ::r=>if f<v.1 then v ::pruneV f r else if (r.any fun u=>decide (u.1≤f))=true then pruneV f r else v ::pruneV f r
def lastI (f:Int):List VS→Option Nat
 | []=>none
 | v ::r=>match lastI f r with|some k=>some (k+1)|none=>if v.1≤f then some 0 else none
theorem last_any (f:Int):∀ l:List VS,(lastI f l).isSome=l.any fun u=>decide (u.1≤f)
 | []=>rfl
 | v ::r=>by
  have ih:=last_any f r
  rw [lastI,List.any_cons,← ih]
  cases lastI f r with
  | some k=>simp
  | none=>by_cases h:v.1≤f<;>simp [h]
theorem prune_l0 (n:Nat) (l:List VS) (f:Int) (hl:l.length≤1000000):∀ (d i g:Nat) (last:Int),i+d=l.length→d<g →
  r10_Prune_l0 n g (l,f,last,(i:Int),())=some (.inl (l,f,(match lastI f (l.drop i) with|some k=>((i+k:Nat):Int)|none=>last),()))
 | 0,i,g,last,hd,hg=>by
  obtain ⟨g,rfl⟩:∃ g',g=g'+1:=⟨g - 1,by omega⟩
  have k:¬ (i:Int)<(l.length:Int):=by omega
  rw [List.drop_of_length_le (by omega)]
  simp [r10_Prune_l0,k,lastI]
 | d+1,i,g,last,hd,hg=>by
  obtain ⟨g,rfl⟩:∃ g',g=g'+1:=⟨g - 1,by omega⟩
  have hi:i<l.length:=by omega
  have k:(i:Int)<(l.length:Int):=by omega
  have k0:(0:Int)≤i:=by omega
  have ih:=fun c=>prune_l0 n l f hl d (i+1) g c (by omega) (by omega)
  rw [drop_eq hi,lastI]
  simp only [r10_Prune_l0,ilt_eq,ile_eq,ilen,k,k0,decide_true,cond_true,lat_eq,iN,Int.toNat_natCast,List.getElem?_eq_getElem hi,bindN_s,iadd1 (i:=i) (by omega),bindL_id2,ih]
  cases lastI f (l.drop (i+1)) with
  | some c' =>
   have e:i+1+c'=i+(c'+1):=by omega
   by_cases h:l[i].1≤f<;>simp only [h,decide_true,decide_false,cond_true,cond_false,e]
  | none=>by_cases h:l[i].1≤f<;>simp [h]
theorem prune_l1 (n:Nat) (l:List VS) (f last:Int) (hl:l.length≤1000000):∀ (d i g:Nat) (acc:List VS),i+d=l.length→acc.length≤i→(match lastI f (l.drop i) with|some k=>last=((i+k:Nat):Int)|none=>last<(i:Int))→d<g →
  r10_Prune_l1 n g (l,f,last,acc,(i:Int),())=some (.inl (acc++pruneV f (l.drop i),()))
 | 0,i,g,acc,hd,ha,hL,hg=>by
  obtain ⟨g,rfl⟩:∃ g',g=g'+1:=⟨g - 1,by omega⟩
  have k:¬ (i:Int)<(l.length:Int):=by omega
  rw [List.drop_of_length_le (by omega)]
  simp [r10_Prune_l1,k,pruneV]
 | d+1,i,g,acc,hd,ha,hL,hg=>by
  obtain ⟨g,rfl⟩:∃ g',g=g'+1:=⟨g - 1,by omega⟩
  have hi:i<l.length:=by omega
  have k:(i:Int)<(l.length:Int):=by omega
  have k0:(0:Int)≤i:=by omega
  have r1:room (acc.length+1) 48=true:=room_of (by omega)
  have hany:=last_any f (l.drop (i+1))
  rw [drop_eq hi,lastI] at hL
  have hL':(match lastI f (l.drop (i+1)) with|some k=>last=((i+1+k:Nat):Int)|none=>last<((i+1:Nat):Int)):=by
   cases hl2:lastI f (l.drop (i+1)) with
   | some c =>
    rw [hl2] at hL
    simp only at hL ⊢
    rw [hL];omega
   | none =>
    rw [hl2] at hL
    simp only at hL ⊢
    by_cases h:l[i].1≤f
    ·rw [if_pos h] at hL;simp only at hL;omega
    ·rw [if_neg h] at hL;simp only at hL;omega
  have ih1:=prune_l1 n l f last hl d (i+1) g (acc++[l[i]]) (by omega) (by simp;omega) hL' (by omega)
  have ih2:=prune_l1 n l f last hl d (i+1) g acc (by omega) (by omega) hL' (by omega)
  rw [drop_eq hi,pruneV]
  simp only [r10_Prune_l1,ilt_eq,ile_eq,ieq_eq,ilen,k,k0,decide_true,cond_true,lat_eq,iN,Int.toNat_natCast,List.getElem?_eq_getElem hi,bindN_s,roomA,List.length_singleton,r1,app,iadd1 (i:=i) (by omega),bindL_id2,ih1,ih2]
  by_cases h:f<l[i].1
  ·simp [h]
  ·have hle:l[i].1≤f:=Int.not_lt.1 h
   cases hl2:lastI f (l.drop (i+1)) with
   | some c =>
    rw [hl2] at hL hany
    simp only at hL
    have hne:¬ (i:Int)=last:=by omega
    rw [← hany]
    simp [h,hne]
   | none =>
    rw [hl2] at hL hany
    simp only [if_pos hle] at hL
    have he:(i:Int)=last:=by omega
    rw [← hany]
    simp [h,he]
theorem r10_Prune_v {n:Nat} (hn:Big n) (l:List VS) (f:Int) (hl:l.length≤1000000):r10_Prune n (l,f,())=some ((pruneV f l,()),((),(),())):=by
 have h0:=prune_l0 n l f hl l.length 0 n (-1) (by omega) (by unfold Big at hn;omega)
 rw [show ((0:Nat):Int)=0 from rfl,List.drop_zero] at h0
 have h1:=fun last hL=>prune_l1 n l f last hl l.length 0 n [] (by omega) (by simp) hL (by unfold Big at hn;omega)
 rw [show ((0:Nat):Int)=0 from rfl,List.drop_zero,List.nil_append] at h1
 simp only [r10_Prune,h0,bindL_inl]
 cases hq:lastI f l with
 | some k =>
  rw [h1 ((0+k:Nat):Int) (by rw [hq])]
  simp
 | none =>
  rw [h1 (-1) (by rw [hq];simp)]
  simp
theorem prune_len (f:Int):∀ l:List VS,(pruneV f l).length≤l.length
 | []=>Nat.le_refl _
 | v ::r=>by
  have:=prune_len f r
  rw [pruneV,List.length_cons]
  split
  ·rw [List.length_cons];omega
  ·split
   ·omega
   ·rw [List.length_cons];omega
theorem at_prune {f st:Int} (h:f≤st):∀ l:List VS,atO st (pruneV f l)=atO st l
 | []=>rfl
 | v ::r=>by
  have ih:=at_prune h r
  rw [pruneV]
  by_cases h1:f<v.1
  ·rw [if_pos h1,atO,ih,atO]
  ·rw [if_neg h1]
   by_cases h2:(r.any fun u=>decide (u.1≤f))=true
   ·rw [if_pos h2,ih,atO]
    have key:∀ l:List VS,(l.any fun u=>decide (u.1≤f))=true→(atO st l).isSome=true:=by
     intro l
     induction l with
     | nil=>intro h;cases h
     | cons u l ihl =>
      intro hu
      rw [atO]
      cases hl:atO st l with
      | some c=>rfl
      | none =>
       rw [List.any_cons,Bool.or_eq_true,decide_eq_true_eq] at hu
       rcases hu with hu|hu
       ·simp only;rw [if_pos (Int.le_trans hu h)];rfl
       ·rw [hl] at ihl;exact absurd (ihl hu) (by simp)
    have:=key r h2
    cases hr:atO st r with
    | some c=>rfl
    | none=>rw [hr] at this;cases this
   ·rw [if_neg h2,atO,ih,atO]
def pruneS (f:Int) (ds:List DR) (s:SH):SH:=((s.1.filter fun e => !dropD ds e.1 f).map fun e=>(e.1,e.2.1,pruneV f e.2.2.1,()),())
theorem prune_s0 {n:Nat} (hn:Big n) (s:SH) (hs:FitS s) (f:Int) (ds:List DR) (hd':ds.length≤1000000) (z:SH):∀ (d i g:Nat) (acc:List EN),i+d=s.1.length→acc.length≤i→d<g →
  r11_Prune_l0 n g (f,ds,s,z,acc,(i:Int),())=some (.inl (z,acc++((s.1.drop i).filter fun e => !dropD ds e.1 f).map (fun e=>(e.1,e.2.1,pruneV f e.2.2.1,())),()))
 | 0,i,g,acc,hd,ha,hg=>by
  obtain ⟨g,rfl⟩:∃ g',g=g'+1:=⟨g - 1,by omega⟩
  have k:¬ (i:Int)<(s.1.length:Int):=by omega
  rw [List.drop_of_length_le (by omega)]
  simp [r11_Prune_l0,k]
 | d+1,i,g,acc,hd,ha,hg=>by
  obtain ⟨g,rfl⟩:∃ g',g=g'+1:=⟨g - 1,by omega⟩
  have hs1:=hs.1
  have hi:i<s.1.length:=by omega
  have k:(i:Int)<(s.1.length:Int):=by omega
  have k0:(0:Int)≤i:=by omega
  have hP:=r10_Prune_v hn s.1[i].2.2.1 f (by have:=hs.2 _ (List.getElem_mem hi);omega)
  have hD:=r11_Dropped_v hn ds s.1[i].1 f hd'
  have r1:room (acc.length+1) 48=true:=room_of (by omega)
  have ih1:=fun x=>prune_s0 hn s hs f ds hd' z d (i+1) g (acc++[x]) (by omega) (by simp;omega) (by omega)
  have ih2:=prune_s0 hn s hs f ds hd' z d (i+1) g acc (by omega) (by omega) (by omega)
  rw [drop_eq hi,List.filter_cons]
  simp only [r11_Prune_l0,ilt_eq,ile_eq,ilen,k,k0,decide_true,cond_true,lat_eq,iN,Int.toNat_natCast,List.getElem?_eq_getElem hi,bindN_s,hP,hD,roomA,List.length_singleton,r1,app,iadd1 (i:=i) (by omega),bindL_id2,ih1,ih2]
  cases h2:dropD ds s.1[i].1 f<;>simp
theorem r11_Prune_v {n:Nat} (hn:Big n) (s:SH) (hs:FitS s) (f:Int) (ds:List DR) (hd:ds.length≤1000000):r11_Prune n (s,f,ds,())=some ((pruneS f ds s,()),((),(),(),())):=by
 have h:=prune_s0 hn s hs f ds hd ([],()) s.1.length 0 n [] (by omega) (by simp) (by have:=hs.1;unfold Big at hn;omega)
 rw [show ((0:Nat):Int)=0 from rfl,List.drop_zero,List.nil_append] at h
 simp only [r11_Prune,h,bindL_inl]
 rfl
theorem read_prune {f st:Int} (h:f≤st) (ds:List DR) (s:SH):readS (pruneS f [] s) st ds=readS s st ds:=by
 unfold readS pruneS
 have e0:(s.1.filter fun e => !dropD [] e.1 f)=s.1:=List.filter_eq_self.2 fun e _=>rfl
 rw [e0,List.filterMap_map]
 congr 1
 funext e
 show readE st ds (e.1,e.2.1,pruneV f e.2.2.1,())=readE st ds e
 unfold readE
 have e1:atC (pruneV f e.2.2.1) st=atC e.2.2.1 st:=by unfold atC;rw [at_prune h]
 rw [show atC ((e.1,e.2.1,pruneV f e.2.2.1,()):EN).2.2.1 st=atC e.2.2.1 st from e1]
end Go.Proofs.YtdcphpbimeoioaaGreatDoorE
end
section
set_option linter.unusedSectionVars false
namespace Go.Proofs.YtdcphpbimeoioaaGreatDoorE
open Go
set_option linter.unusedVariables false
section
variable {α σ E R:Type}
def chainA (lt:α→α→Bool):List α→Bool
 | a ::b ::r=>lt a b && chainA lt (b ::r)
 | _=>true
theorem chainA_drop (lt:α→α→Bool) (l:List α) (i:Nat) (h:i+1<l.length):chainA lt (l.drop i)=(lt l[i] l[i+1] && chainA lt (l.drop (i+1))):=by
 rw [List.drop_eq_getElem_cons (by omega:i<l.length),List.drop_eq_getElem_cons h,chainA]
theorem chainA_end (lt:α→α→Bool) (l:List α) (i:Nat) (h:l.length≤i+1):chainA lt (l.drop i)=true:=by
 by_cases h1:i<l.length
 ·rw [List.drop_eq_getElem_cons h1,List.drop_of_length_le (by omega)];rfl
 ·rw [List.drop_of_length_le (by omega)];rfl
theorem nb_loop (l:List α) (ok:α→Bool) (lt:α→α→Bool) (e:E) (r:R) {L:Nat→Int→Option (E ⊕ R)} (hend:∀ g,L (g+1) (l.length:Int)=some (.inl e))
  (h0:∀ g (h:0<l.length),L (g+1) (0:Int)=bif ok l[0] then L g (1:Int) else some (.inr r))
  (hS:∀ g i (h:i+1<l.length),L (g+1) ((i+1:Nat):Int)=bif ok l[i+1] && lt l[i] l[i+1] then L g ((i+1+1:Nat):Int) else some (.inr r)) {g:Nat} (hg:l.length<g) :
  L g (0:Int)=some (bif l.all ok && chainA lt l then .inl e else .inr r):=by
 have key:∀ (d i g:Nat),i+1+d=l.length→d<g→L g ((i+1:Nat):Int)=some (bif (l.drop (i+1)).all ok && chainA lt (l.drop i) then .inl e else .inr r):=by
  intro d
  induction d with
  | zero =>
   intro i g hd hg
   obtain ⟨g,rfl⟩:∃ g',g=g'+1:=⟨g - 1,by omega⟩
   have e':i+1=l.length:=by omega
   rw [e',hend,chainA_end lt l i (by omega),List.drop_length];rfl
  | succ d ih =>
   intro i g hd hg
   obtain ⟨g,rfl⟩:∃ g',g=g'+1:=⟨g - 1,by omega⟩
   have h:i+1<l.length:=by omega
   rw [hS g i h,ih (i+1) g (by omega) (by omega),chainA_drop lt l i h,List.drop_eq_getElem_cons h,List.all_cons]
   cases ok l[i+1]<;>cases lt l[i] l[i+1]<;>simp
 obtain ⟨g,rfl⟩:∃ g',g=g'+1:=⟨g - 1,by omega⟩
 cases l with
 | nil=>exact hend g
 | cons a t =>
  have h1:=h0 g (by simp)
  rw [h1]
  have h2:=key t.length 0 g (by simp;omega) (by simp at hg;omega)
  simp only [List.getElem_cons_zero,List.all_cons]
  rw [show ((0+1:Nat):Int)=1 from rfl] at h2
  rw [h2]
  cases ok a<;>simp
end
end Go.Proofs.YtdcphpbimeoioaaGreatDoorE
end
section
set_option linter.unusedSectionVars false
namespace Go.Proofs.YtdcphpbimeoioaaGreatDoorE
open Go Go.Proofs
set_option linter.unusedVariables false
set_option linter.unusedSimpArgs false
def oneC (v:Int):CL:=(1,(v,false,()),v,v,())
def foldC (c:CL) (v:Int):CL:=twoC c (oneC v)
theorem oneC_fit {v:Int} (h:I64 v):CellFit (oneC v):=⟨⟨by show (-9223372036854775808:Int)≤1;decide,by show (1:Int)≤9223372036854775807;decide⟩,h,h,h⟩
theorem foldC_fit {c:CL} {v:Int} (hc:CellFit c) (hv:I64 v):CellFit (foldC c v):=twoC_fit hc (oneC_fit hv)
theorem addV (n:Nat) (s:SM) (v:Int) (hs:I64 s.1) (hv:I64 v):r01_Add n (s,(v,false,()),())=some ((addS s (v,false,()),()),((),(),())):=r01_Add_v n s (v,false,()) hs hv
theorem max_one {x:Int} (h:x≤9223372036854775807):(x<9223372036854775807)=¬ (9223372036854775807 - 1<x):=propext ⟨fun h=>by omega,fun h=>by omega⟩
theorem r06_Fold_v (n:Nat) (c:CL) (v:Int) (hc:CellFit c) (hv:I64 v):r06_Fold n (c,v,())=some ((foldC c v,()),((),(),())):=by
  have hA:=addV n c.2.1 v hc.2.1 hv
  obtain ⟨x,s,mn,mx,⟨⟩⟩:=c
  obtain ⟨⟨p1,p2⟩,_,_,_⟩:=hc
  simp only at p1 p2 hA
  unfold foldC twoC oneC
  simp only [r06_Fold,ilt_eq,hA,bindN_s,show ¬ (1:Int)<1 by decide,if_false]
  by_cases h1:x<1
  · simp only [h1,decide_true,cond_true,if_true]
  · simp only [h1,decide_false,cond_false,if_false]
    by_cases h2:(9223372036854775807:Int) - 1<x
    · have h2':¬ x<9223372036854775807:=by rw [max_one p2];exact fun h=>h h2
      have e:x=9223372036854775807:=Int.le_antisymm p2 (Int.not_lt.1 h2')
      simp only [h2,h2',decide_false,cond_false,if_true]
      by_cases h4:v<mn<;>by_cases h5:mx<v<;>simp only [h4,h5,decide_true,decide_false,cond_true,cond_false,if_true,if_false]<;>rw [e]
    · have h2':x<9223372036854775807:=by rw [max_one p2];exact h2
      have e:iadd .i64 x 1=x+1:=addM p2 (by decide) (by decide) h1 h2
      simp only [h2,h2',decide_true,cond_true,if_false,e]
      by_cases h4:v<mn<;>by_cases h5:mx<v<;>simp only [h4,h5,decide_true,decide_false,cond_true,cond_false,if_true,if_false]
def okV (v:VS):Bool := !(ilt v.1 1) && !(ilt 1000000000000000 v.1)
def ltV (a b:VS):Bool:=ilt a.1 b.1
def rightV (l:List VS):Bool:=l.all okV && chainA ltV l
theorem r10_Right_v {n:Nat} (hn:Big n) (l:List VS) (hl:l.length≤1000000):r10_Right n (l,())=some ((rightV l,()),((),())):=by
  have hL:=nb_loop l okV ltV () (false,()) (L:=fun g i=>r10_Right_l0 n g (l,i,())) (fun g=>by simp [r10_Right_l0,ilen]) (fun g h=>by
    have k:(0:Int)<(l.length:Int):=by omega
    have e:iadd .i64 0 1=1:=by decide+kernel
    simp only [r10_Right_l0,ilt_eq,ile_eq,ilen,k,Int.le_refl,decide_true,cond_true,lat_eq,iN,Int.toNat_zero,List.getElem?_eq_getElem h,bindN_s,e,bindL_id,okV,Int.lt_irrefl,decide_false,cond_false]
    cases decide (l[0].1<1)<;>cases decide ((1000000000000000:Int)<l[0].1)<;>rfl) (fun g i h=>by
    have k:((i+1:Nat):Int)<(l.length:Int):=by omega
    have k0:(0:Int)≤((i+1:Nat):Int):=by omega
    have k1:(0:Int)<((i+1:Nat):Int):=by omega
    have k2:(0:Int)≤(i:Int):=by omega
    have hi:i<l.length:=by omega
    have e0:isub .i64 ((i+1:Nat):Int) 1=(i:Int):=by rw [isub64 (by omega) (by omega)];omega
    have en:decide (l[i+1].1≤l[i].1) = !ilt l[i].1 l[i+1].1:=by rw [ilt_eq];rw [← decide_not,decide_eq_decide];exact Int.not_lt.symm
    simp only [r10_Right_l0,ile_eq,ilen,k0,k1,k2,e0,decide_true,cond_true,lat_eq,iN,Int.toNat_natCast,List.getElem?_eq_getElem h,List.getElem?_eq_getElem hi,bindN_s,iadd1 (i:=i+1) (by omega),bindL_id,okV,ltV,en]
    rw [show ilt ((i+1:Nat):Int) (l.length:Int)=true by rw [ilt_eq];exact decide_eq_true k,show ilt (0:Int) ((i+1:Nat):Int)=true by rw [ilt_eq];exact decide_eq_true k1]
    cases ilt l[i+1].1 1<;>cases ilt 1000000000000000 l[i+1].1<;>cases ilt l[i].1 l[i+1].1<;>rfl) (g:=n) (by unfold Big at hn;omega)
  unfold rightV
  simp only [r10_Right,hL]
  cases l.all okV && chainA ltV l<;>simp
def lastC (l:List VS):CL:=match l.getLast? with|some v=>v.2.1|none=>zCL
def appV (l:List VS) (st v:Int):List VS:=l++[(st,foldC (lastC l) v,())]
def foldV (l:List VS) (st v:Int):List VS×Int:=if rightV (appV l st v)=true then (appV l st v,0) else ([],9)
theorem r10_Fold_v {n:Nat} (hn:Big n) (l:List VS) (st v:Int) (hl:l.length≤100000) (hf:∀ x∈l,CellFit x.2.1) (hv:I64 v):r10_Fold n (l,st,v,())=some (((foldV l st v).1,(foldV l st v).2,()),((),(),(),())):=by
  have put:∀ c:CL,r10_Put n (l,[(st,c,())],())=some ((if rightV (l++[(st,c,())])=true then (l++[(st,c,())],0,()) else ([],9,())),((),(),())):=fun c=>by
    have hb:=r10_Right_v hn (l++[(st,c,())]) (by simp;omega)
    have r1:room (0+l.length) 48=true:=room_of (by omega)
    have r2:room (l.length+1) 48=true:=room_of (by omega)
    simp only [r10_Put,roomA,app,List.nil_append,List.length_nil,List.length_singleton,r1,r2,cond_true,hb,bindN_s]
    cases rightV (l++[(st,c,())])<;>rfl
  unfold foldV appV lastC
  by_cases h:0<l.length
  · have k:(0:Int)<(l.length:Int):=by omega
    have e0:isub .i64 (l.length:Int) 1=((l.length - 1:Nat):Int):=by rw [isub64 (by omega) (by omega)];omega
    have k1:(0:Int)≤((l.length - 1:Nat):Int):=by omega
    have hi:l.length - 1<l.length:=by omega
    have hF:=r06_Fold_v n l[l.length - 1].2.1 v (hf _ (List.getElem_mem hi)) hv
    rw [List.getLast?_eq_getElem?,List.getElem?_eq_getElem hi]
    simp only [r10_Fold,ilt_eq,ile_eq,ilen,k,e0,k1,decide_true,cond_true,lat_eq,iN,Int.toNat_natCast,List.getElem?_eq_getElem hi,bindN_s,hF,put]
    cases rightV (l++[(st,foldC l[l.length - 1].2.1 v,())])<;>rfl
  · have k:¬ (0:Int)<(l.length:Int):=by omega
    have hl0:l=[]:=List.length_eq_zero_iff.1 (by omega)
    have hF:=r06_Fold_v n zCL v zC_fit' hv
    have hF':r06_Fold n (((0:Int),((0:Int),false,()),(0:Int),(0:Int),()),v,())=_:=hF
    subst hl0
    simp only [r10_Fold,ilt_eq,ilen,k,decide_false,cond_false,hF',bindN_s,put]
    show some ((if rightV ([]++[(st,foldC zCL v,())])=true then ([]++[(st,foldC zCL v,())],0,()) else ([],9,())),((),(),(),()))=some ((((if rightV ([]++[(st,foldC zCL v,())])=true then ([]++[(st,foldC zCL v,())],(0:Int)) else ([],9))).1,(if rightV ([]++[(st,foldC zCL v,())])=true then ([]++[(st,foldC zCL v,())],(0:Int)) else ([],9)).2,()),((),(),(),()))
    cases rightV ([]++[(st,foldC zCL v,())])<;>simp
def lessE (e:EN) (w:Int) (key:ByteArray):Bool:=ilt e.1 w || (ieq e.1 w && slt e.2.1 key)
theorem r11_less_v (n:Nat) (e:EN) (w:Int) (key:ByteArray):r11_less n (e,w,key,())=some ((lessE e w key,()),((),(),(),())):=by
  unfold lessE
  simp only [r11_less]
  cases ilt e.1 w<;>cases ieq e.1 w<;>cases slt e.2.1 key<;>rfl
def okEn (e:EN):Bool := !(ieq (ilen e.2.2.1) 0) && rightV e.2.2.1
def ltE (a b:EN):Bool:=lessE a b.1 b.2.1
def rightS (s:SH):Bool:=s.1.all okEn && chainA ltE s.1
def FitK (k:Nat) (s:SH):Prop:=s.1.length≤k∧∀ e∈s.1,e.2.2.1.length≤k
theorem r11_Right_v {n:Nat} (hn:Big n) (s:SH) {k:Nat} (hk:k≤100000) (hs:FitK k s):r11_Right n (s,())=some ((rightS s,()),((),())):=by
  have hs1:=hs.1
  have hR:∀ (i:Nat) (h:i<s.1.length),r10_Right n s.1[i].2.2=some ((rightV s.1[i].2.2.1,()),((),())):=fun i h=>r10_Right_v hn s.1[i].2.2.1 (by have:=hs.2 _ (List.getElem_mem h);omega)
  have hL:=nb_loop s.1 okEn ltE () (false,()) (L:=fun g i=>r11_Right_l0 n g (s,i,())) (fun g=>by simp [r11_Right_l0,ilen]) (fun g h=>by
    have k:ilt (0:Int) (ilen s.1)=true:=by rw [ilt_eq];exact decide_eq_true (by unfold ilen;omega)
    have e:iadd .i64 0 1=1:=by decide+kernel
    have z:ilt (0:Int) 0=false:=by rw [ilt_eq];rfl
    have z1:ile (0:Int) 0=true:=by rw [ile_eq];rfl
    simp only [r11_Right_l0,k,z,z1,cond_true,cond_false,lat_eq,iN,Int.toNat_zero,List.getElem?_eq_getElem h,bindN_s,e,bindL_id,okEn,hR 0 h]
    cases ieq (ilen s.1[0].2.2.1) 0<;>cases rightV s.1[0].2.2.1<;>rfl) (fun g i h=>by
    have k0:ilt ((i+1:Nat):Int) (ilen s.1)=true:=by rw [ilt_eq];exact decide_eq_true (by unfold ilen;omega)
    have k1:ile (0:Int) ((i+1:Nat):Int)=true:=by rw [ile_eq];exact decide_eq_true (by omega)
    have k2:ilt (0:Int) ((i+1:Nat):Int)=true:=by rw [ilt_eq];exact decide_eq_true (by omega)
    have k3:ile (0:Int) (i:Int)=true:=by rw [ile_eq];exact decide_eq_true (by omega)
    have hi:i<s.1.length:=by omega
    have e0:isub .i64 ((i+1:Nat):Int) 1=(i:Int):=by rw [isub64 (by omega) (by omega)];omega
    have hl:=r11_less_v n s.1[i] s.1[i+1].1 s.1[i+1].2.1
    simp only [r11_Right_l0,k0,k1,k2,k3,e0,cond_true,lat_eq,iN,Int.toNat_natCast,List.getElem?_eq_getElem h,List.getElem?_eq_getElem hi,bindN_s,iadd1 (i:=i+1) (by omega),bindL_id,okEn,ltE,hl,hR (i+1) h]
    cases ieq (ilen s.1[i+1].2.2.1) 0<;>cases rightV s.1[i+1].2.2.1<;>cases lessE s.1[i] s.1[i+1].1 s.1[i+1].2.1<;>rfl) (g:=n) (by unfold Big at hn;omega)
  unfold rightS
  simp only [r11_Right,hL]
  cases s.1.all okEn && chainA ltE s.1<;>simp
def plE (w:Int) (key:ByteArray) (l:List EN):Nat:=(l.takeWhile fun e=>lessE e w key).length
theorem plE_le (w:Int) (key:ByteArray) (l:List EN):plE w key l≤l.length:=(List.takeWhile_sublist _).length_le
theorem apply_l0 (n:Nat) (s:SH) (w:WT) (z:SH) (hs:s.1.length≤1000000):∀ (d i g:Nat),i+d=s.1.length→d<g→r11_Apply_l0 n g (s,w,z,(i:Int),())=some (.inl (s,w,z,((i+plE w.2.1 w.2.2.1 (s.1.drop i):Nat):Int),()))
  | 0,i,g,hd,hg=>by
    obtain ⟨g,rfl⟩:∃ g',g=g'+1:=⟨g - 1,by omega⟩
    have k:¬ (i:Int)<(s.1.length:Int):=by omega
    rw [List.drop_of_length_le (by omega)]
    simp [r11_Apply_l0,k,plE]
  | d+1,i,g,hd,hg=>by
    obtain ⟨g,rfl⟩:∃ g',g=g'+1:=⟨g - 1,by omega⟩
    have hi:i<s.1.length:=by omega
    have k:(i:Int)<(s.1.length:Int):=by omega
    have k0:(0:Int)≤i:=by omega
    have ih:=apply_l0 n s w z hs d (i+1) g (by omega) (by omega)
    have hL:=r11_less_v n s.1[i] w.2.1 w.2.2.1
    rw [drop_eq hi]
    unfold plE
    rw [List.takeWhile_cons]
    unfold plE at ih
    simp only [r11_Apply_l0,ilt_eq,ile_eq,ilen,k,k0,decide_true,cond_true,lat_eq,iN,Int.toNat_natCast,List.getElem?_eq_getElem hi,bindN_s,hL,iadd1 (i:=i) (by omega),bindL_id2,ih]
    cases lessE s.1[i] w.2.1 w.2.2.1 with
    | true=>simp only [cond_true,if_true,List.length_cons];rw [show ∀ m:Nat,i+1+m=i+(m+1) from fun m=>by omega]
    | false=>simp
def samePl (e:EN) (w:WT):Bool:=ieq e.1 w.2.1 && seq e.2.1 w.2.2.1
def putE (l:List EN) (w:WT):List VS×List EN :=
  match l.drop (plE w.2.1 w.2.2.1 l) with
  | []=>([],[])
  | x ::r=>if samePl x w=true then (x.2.2.1,r) else ([],x ::r)
def applyS (s:SH) (w:WT):SH×Int :=
  if rightS s=true then
    (let p:=putE s.1 w
     let f:=foldV p.1 w.1 w.2.2.2.1
     if f.2=0 then ((s.1.take (plE w.2.1 w.2.2.1 s.1)++(w.2.1,w.2.2.1,f.1,()) ::p.2,()),0) else (([],()),f.2))
  else (([],()),9)
def CellsFit (s:SH):Prop:=∀ e∈s.1,∀ v∈e.2.2.1,CellFit v.2.1
theorem putE_mem {l:List EN} {w:WT}:(∀ v∈(putE l w).1,∃ e∈l,v∈e.2.2.1)∧(∀ e∈(putE l w).2,e∈l):=by
  unfold putE
  have hm:∀ x∈l.drop (plE w.2.1 w.2.2.1 l),x∈l:=fun x hx=>List.mem_of_mem_drop hx
  cases hd:l.drop (plE w.2.1 w.2.2.1 l) with
  | nil=>exact ⟨fun v hv=>(by cases hv),fun e he=>(by cases he)⟩
  | cons x r =>
    rw [hd] at hm
    simp only
    split
    · exact ⟨fun v hv=>⟨x,hm x List.mem_cons_self,hv⟩,fun e he=>hm e (List.mem_cons_of_mem _ he)⟩
    · exact ⟨fun v hv=>(by cases hv),fun e he=>hm e he⟩
theorem putE_len {l:List EN} {w:WT}:(putE l w).2.length≤l.length:=by
  unfold putE
  have hl:(l.drop (plE w.2.1 w.2.2.1 l)).length≤l.length:=by rw [List.length_drop];omega
  cases hd:l.drop (plE w.2.1 w.2.2.1 l) with
  | nil=>simp
  | cons x r =>
    rw [hd] at hl
    simp only
    split
    · show r.length≤_;simp at hl;omega
    · exact hl
theorem r11_Apply_v {n:Nat} (hn:Big n) (s:SH) {k:Nat} (hk:k≤10000) (hs:FitK k s) (hc:CellsFit s) (w:WT) (hv:I64 w.2.2.2.1):r11_Apply n (s,w,())=some (((applyS s w).1,(applyS s w).2,()),((),(),())):=by
  have hb:=r11_Right_v hn s (k:=k) (by omega) hs
  have hs1:=hs.1
  unfold applyS
  cases hr:rightS s with
  | false=>rw [hr] at hb;simp only [r11_Apply,hb,bindN_s,Bool.not_false,cond_true,Bool.false_eq_true,if_false]
  | true =>
    rw [hr] at hb
    have h0:=apply_l0 n s w ([],()) (by omega) s.1.length 0 n (by omega) (by unfold Big at hn;omega)
    rw [show ((0:Nat):Int)=0 from rfl,List.drop_zero,Nat.zero_add] at h0
    have hm:=plE_le w.2.1 w.2.2.1 s.1
    have hp:=putE_mem (l:=s.1) (w:=w)
    have hpl:=putE_len (l:=s.1) (w:=w)
    have hF:=r10_Fold_v hn (putE s.1 w).1 w.1 w.2.2.2.1 (by
      unfold putE
      cases hd:s.1.drop (plE w.2.1 w.2.2.1 s.1) with
      | nil=>simp
      | cons x r =>
        simp only
        split
        · have:=hs.2 x (List.mem_of_mem_drop (by rw [hd];exact List.mem_cons_self));show x.2.2.1.length≤_;omega
        · simp) (fun v hv=>by obtain ⟨e,he,h⟩:=hp.1 v hv;exact hc e he v h) hv
    unfold putE at hF hpl ⊢
    generalize hpm:plE w.2.1 w.2.2.1 s.1=m at *
    have k0:(0:Int)≤(m:Int):=by omega
    have k1:(m:Int)≤(s.1.length:Int):=by omega
    have e1:(s.1.take m).length=m:=by rw [List.length_take];omega
    have r1:room (0+m) 48=true:=room_of (by omega)
    have r2:room (m+1) 48=true:=room_of (by omega)
    have ew:(s.1.drop m).take (s.1.length - m)=s.1.drop m:=List.take_of_length_le (by rw [List.length_drop];omega)
    have i0:(0:Int).toNat=0:=rfl
    have i1:(1:Int).toNat=1:=rfl
    have z0:decide ((0:Int)≤0)=true:=rfl
    have z1:decide ((0:Int)≤1)=true:=rfl
    cases hd:s.1.drop m with
    | nil =>
      rw [hd] at hF hpl ew
      simp only at hF
      have c0:decide ((0:Int)<(([]:List EN).length:Int))=false:=rfl
      have r3:room (m+1+([]:List EN).length) 48=true:=room_of (by simp;omega)
      simp only [r11_Apply,hb,bindN_s,Bool.not_true,cond_false,h0,bindL_inl,ile_eq,ilt_eq,ieq_eq,ilen,winI,win_eq,k0,k1,Int.le_refl,decide_true,cond_true,Int.toNat_natCast,hd,ew,c0,hF,i0,List.drop_zero,Nat.sub_zero,e1,roomA,app,List.nil_append,List.length_nil,List.length_append,List.length_singleton,r1,r2,r3,List.append_assoc,List.singleton_append,if_true]
      by_cases he:(foldV [] w.1 w.2.2.2.1).2=0
      · simp [he]
      · simp [he]
    | cons x r =>
      rw [hd] at hF hpl ew
      have hlen:(x ::r).length=s.1.length - m:=by rw [← hd,List.length_drop]
      have c0:decide ((0:Int)<((x ::r).length:Int))=true:=decide_eq_true (by rw [List.length_cons];omega)
      have c1:decide ((1:Int)≤((x ::r).length:Int))=true:=decide_eq_true (by rw [List.length_cons];omega)
      have l0:(x ::r)[0]?=some x:=rfl
      have e2:((x ::r).drop 1).take ((x ::r).length - 1)=r:=by
        show r.take (r.length+1 - 1)=r
        exact List.take_of_length_le (by omega)
      have r3:room (m+1+r.length) 48=true:=room_of (by simp at hlen;omega)
      have r4:room (m+1+(x ::r).length) 48=true:=room_of (by omega)
      have es:samePl x w=(decide (@Eq Int x.1 w.2.1) && decide (@Eq ByteArray x.2.1 w.2.2.1)):=by unfold samePl;rw [ieq_eq,seq_eq]
      simp only [es] at hF
      simp only [es,if_true]
      simp only [r11_Apply,hb,bindN_s,Bool.not_true,cond_false,h0,bindL_inl,ile_eq,ilt_eq,ieq_eq,seq_eq,ilen,winI,win_eq,lat_eq,iN,k0,k1,Int.le_refl,decide_true,cond_true,Int.toNat_natCast,hd,ew,c0,c1,z0,z1,i0,i1,l0,e2,List.drop_zero,Nat.sub_zero,e1,roomA,app,List.nil_append,List.length_nil,List.length_append,List.length_singleton,r1,r2,if_true]
      by_cases h1:@Eq Int x.1 w.2.1
      · by_cases h2:@Eq ByteArray x.2.1 w.2.2.1
        · simp only [h1,h2,decide_true,Bool.and_self,if_true] at hF ⊢
          simp only [cond_true,hF,bindN_s,r3,List.append_assoc,List.singleton_append]
          by_cases he:(foldV x.2.2.1 w.1 w.2.2.2.1).2=0
          · simp [he]
          · simp [he]
        · simp only [h1,h2,decide_true,decide_false,Bool.and_false,Bool.false_eq_true,if_false] at hF ⊢
          simp only [cond_true,cond_false,hF,bindN_s,r4,List.append_assoc,List.singleton_append]
          by_cases he:(foldV [] w.1 w.2.2.2.1).2=0
          · simp [he]
          · simp [he]
      · simp only [h1,decide_false,Bool.false_and,Bool.false_eq_true,if_false] at hF ⊢
        simp only [cond_false,hF,bindN_s,r4,List.append_assoc,List.singleton_append]
        by_cases he:(foldV [] w.1 w.2.2.2.1).2=0
        · simp [he]
        · simp [he]
theorem atO_app (st:Int) (v:VS) (h:st<v.1):∀ l:List VS,atO st (l++[v])=atO st l
  | []=>by
    have:¬ v.1≤st:=Int.not_le.2 h
    simp [atO,this]
  | u ::l=>by rw [List.cons_append,atO,atO_app st v h l,atO]
theorem read_new {st:Int} {ds:List DR} {w:Int} {key:ByteArray} {t:Int} {c:CL} (h:st<t):readE st ds (w,key,[(t,c,())],())=none:=by
  unfold readE
  have e:atC [((t,c,()):VS)] st=zCL:=by
    unfold atC
    have:=atO_app st (t,c,()) h []
    rw [List.nil_append] at this
    rw [this];rfl
  rw [show atC ((w,key,[(t,c,())],()):EN).2.2.1 st=zCL from e,if_neg (by decide)]
theorem read_more {st:Int} {ds:List DR} {e:EN} {t:Int} {c:CL} (h:st<t):readE st ds (e.1,e.2.1,e.2.2.1++[(t,c,())],())=readE st ds e:=by
  unfold readE
  have e':atC (e.2.2.1++[((t,c,()):VS)]) st=atC e.2.2.1 st:=by
    unfold atC
    rw [atO_app st (t,c,()) h]
  rw [show atC ((e.1,e.2.1,e.2.2.1++[(t,c,())],()):EN).2.2.1 st=atC e.2.2.1 st from e']
theorem foldV_ok {l:List VS} {st v:Int} (h:(foldV l st v).2=0):(foldV l st v).1=appV l st v:=by
  unfold foldV at *
  split
  · rfl
  · rename_i q;rw [if_neg q] at h;exact absurd h (by decide)
theorem apply_read {s:SH} {w:WT} {st:Int} {ds:List DR} (h:(applyS s w).2=0) (hst:st<w.1):readS (applyS s w).1 st ds=readS s st ds:=by
  unfold applyS at *
  split
  · rename_i hr
    rw [if_pos hr] at h
    simp only at h ⊢
    split
    · rename_i hf
      have hL:=foldV_ok hf
      have hsplit:=List.take_append_drop (plE w.2.1 w.2.2.1 s.1) s.1
      unfold readS
      show List.filterMap _ (s.1.take (plE w.2.1 w.2.2.1 s.1)++(w.2.1,w.2.2.1,(foldV (putE s.1 w).1 w.1 w.2.2.2.1).1,()) ::(putE s.1 w).2)=_
      rw [hL]
      unfold putE appV
      generalize plE w.2.1 w.2.2.1 s.1=m at *
      cases hd:s.1.drop m with
      | nil =>
        simp only [List.nil_append]
        rw [List.filterMap_append,List.filterMap_cons,read_new hst]
        conv=>rhs;rw [← hsplit,hd]
        simp
      | cons x r =>
        simp only
        cases hs:samePl x w with
        | true =>
          simp only [if_true]
          have e1:x.1=w.2.1∧x.2.1=w.2.2.1:=by
            unfold samePl at hs
            rw [ieq_eq,seq_eq,Bool.and_eq_true,decide_eq_true_eq,decide_eq_true_eq] at hs
            exact hs
          have hre:=read_more (ds:=ds) (e:=x) (t:=w.1) (c:=foldC (lastC x.2.2.1) w.2.2.2.1) hst
          rw [e1.1,e1.2] at hre
          rw [List.filterMap_append,List.filterMap_cons,hre]
          conv=>rhs;rw [← hsplit,hd,List.filterMap_append,List.filterMap_cons]
          done
        | false =>
          simp only [Bool.false_eq_true,if_false,List.nil_append]
          rw [List.filterMap_append,List.filterMap_cons,read_new hst,← hd,← List.filterMap_append,hsplit]
    · rename_i hf;rw [if_neg hf] at h;exact absurd h hf
  · rename_i hr;rw [if_neg hr] at h;exact absurd h (by decide)
theorem apply_fit {k:Nat} {s:SH} {w:WT} (hs:FitK k s):FitK (k+1) (applyS s w).1:=by
  unfold applyS
  split
  · simp only
    split
    · rename_i hf
      have hL:=foldV_ok hf
      have hp:=putE_mem (l:=s.1) (w:=w)
      have hm:=plE_le w.2.1 w.2.2.1 s.1
      have hpe:(putE s.1 w).1.length≤k∧(s.1.take (plE w.2.1 w.2.2.1 s.1)).length+(putE s.1 w).2.length≤k:=by
        have hlen:(s.1.drop (plE w.2.1 w.2.2.1 s.1)).length=s.1.length - plE w.2.1 w.2.2.1 s.1:=List.length_drop
        have hs1:=hs.1
        have ht:(s.1.take (plE w.2.1 w.2.2.1 s.1)).length≤plE w.2.1 w.2.2.1 s.1:=by rw [List.length_take];omega
        unfold putE
        cases hd:s.1.drop (plE w.2.1 w.2.2.1 s.1) with
        | nil=>exact ⟨by simp,by simp;omega⟩
        | cons x r =>
          rw [hd,List.length_cons] at hlen
          have hx:=hs.2 x (List.mem_of_mem_drop (by rw [hd];exact List.mem_cons_self))
          simp only
          split
          · exact ⟨hx,by show _+r.length≤k;omega⟩
          · exact ⟨by simp,by show _+(x ::r).length≤k;rw [List.length_cons];omega⟩
      refine ⟨?_,fun e he=>?_⟩
      · show (s.1.take _++(w.2.1,w.2.2.1,_,()) ::(putE s.1 w).2).length≤_
        rw [List.length_append,List.length_cons];omega
      · rcases List.mem_append.1 he with he|he
        · have:=hs.2 e (List.mem_of_mem_take he);omega
        · rcases List.mem_cons.1 he with he|he
          · rw [he,hL]
            show (appV (putE s.1 w).1 w.1 w.2.2.2.1).length≤_
            unfold appV
            rw [List.length_append,List.length_singleton];omega
          · have:=hs.2 e (hp.2 e he);omega
    · exact ⟨by simp,fun e he=>by cases he⟩
  · exact ⟨by simp,fun e he=>by cases he⟩
theorem lastC_fit {l:List VS} (h:∀ v∈l,CellFit v.2.1):CellFit (lastC l):=by
  unfold lastC
  cases hl:l.getLast? with
  | none=>exact zC_fit'
  | some v=>exact h v (List.mem_of_getLast? hl)
theorem apply_cells {s:SH} {w:WT} (hc:CellsFit s) (hv:I64 w.2.2.2.1):CellsFit (applyS s w).1:=by
  unfold applyS
  split
  · simp only
    split
    · rename_i hf
      have hL:=foldV_ok hf
      have hp:=putE_mem (l:=s.1) (w:=w)
      intro e he v hv'
      rcases List.mem_append.1 he with he|he
      · exact hc e (List.mem_of_mem_take he) v hv'
      · rcases List.mem_cons.1 he with he|he
        · rw [he,hL] at hv'
          have hv2:v∈appV (putE s.1 w).1 w.1 w.2.2.2.1:=hv'
          have hin:∀ u∈(putE s.1 w).1,CellFit u.2.1:=fun u hu=>by obtain ⟨e',he',h⟩:=hp.1 u hu;exact hc e' he' u h
          unfold appV at hv2
          rcases List.mem_append.1 hv2 with h|h
          · exact hin v h
          · rw [List.mem_singleton] at h
            rw [h]
            exact foldC_fit (lastC_fit hin) hv
        · exact hc e (hp.2 e he) v hv'
    · exact fun e he=>by cases he
  · exact fun e he=>by cases he
def greatE (e:EN):Bool:=decide (100<e.2.2.1.length) || decide (300<e.2.1.size)
def greatS (s:SH):Bool:=decide (100<s.1.length) || s.1.any greatE
def greatC (l:List SH):Bool:=decide (8<l.length) || l.any fun s=>greatS s || decide (30<s.1.length)
theorem r11_Great_v {n:Nat} (hn:Big n) (s:SH):r11_Great n (s,())=some ((greatS s,()),((),())):=by
  unfold greatS
  by_cases h:100<s.1.length
  · have h':(100:Int)<(s.1.length:Int):=by omega
    simp [r11_Great,h,h']
  · have h':¬ (100:Int)<(s.1.length:Int):=by omega
    have hL:=big_loop (a:=s.1) greatE true (L:=fun g i=>r11_Great_l0 n g (s,i,())) hn (by omega) (fun g=>by simp [r11_Great_l0]) (fun g i hi=>by
      have k:(i:Int)<(s.1.length:Int):=by omega
      have k1:(0:Int)≤i:=by omega
      simp only [r11_Great_l0,ilt_eq,ile_eq,ssize_eq,ilen,k,k1,decide_true,cond_true,lat_eq,iN,Int.toNat_natCast,List.getElem?_eq_getElem hi,bindN_s,iadd1 (i:=i) (by omega),bindL_id,greatE]
      rw [show decide ((100:Int)<(s.1[i].2.2.1.length:Int))=decide (100<s.1[i].2.2.1.length) from lt_nat 100 _,show decide ((300:Int)<(s.1[i].2.1.size:Int))=decide (300<s.1[i].2.1.size) from lt_nat 300 _]
      cases decide (100<s.1[i].2.2.1.length)<;>cases decide (300<s.1[i].2.1.size)<;>rfl)
    simp only [r11_Great,ilt_eq,ilen,h',decide_false,cond_false,hL,h,Bool.false_or]
    cases s.1.any greatE<;>simp
theorem r16_Great_v {n:Nat} (hn:Big n) (l:List SH):r16_Great n (l,())=some ((greatC l,()),((),())):=by
  unfold greatC
  by_cases h:8<l.length
  · have h':(8:Int)<(l.length:Int):=by omega
    simp [r16_Great,h,h']
  · have h':¬ (8:Int)<(l.length:Int):=by omega
    have hL:=big_loop (a:=l) (fun s=>greatS s || decide (30<s.1.length)) true (L:=fun g i=>r16_Great_l0 n g (l,i,())) hn (by omega) (fun g=>by simp [r16_Great_l0]) (fun g i hi=>by
      have k:(i:Int)<(l.length:Int):=by omega
      have k1:(0:Int)≤i:=by omega
      simp only [r16_Great_l0,ilt_eq,ile_eq,ilen,k,k1,decide_true,cond_true,lat_eq,iN,Int.toNat_natCast,List.getElem?_eq_getElem hi,bindN_s,r11_Great_v hn l[i],iadd1 (i:=i) (by omega),bindL_id]
      rw [show decide ((30:Int)<(l[i].1.length:Int))=decide (30<l[i].1.length) from lt_nat 30 _]
      cases greatS l[i]<;>cases decide (30<l[i].1.length)<;>rfl)
    simp only [r16_Great,ilt_eq,ilen,h',decide_false,cond_false,hL,h,Bool.false_or]
    cases l.any (fun s=>greatS s || decide (30<s.1.length))<;>simp
theorem not_greatC {l:List SH} (h:greatC l=false):l.length≤8∧∀ s∈l,s.1.length≤30∧∀ e∈s.1,e.2.2.1.length≤100∧e.2.1.size≤300:=by
  unfold greatC at h
  rw [Bool.or_eq_false_iff,decide_eq_false_iff_not,List.any_eq_false] at h
  refine ⟨by omega,fun s hs=>?_⟩
  have h2:=h.2 s hs
  simp only [Bool.or_eq_true,decide_eq_true_eq,not_or] at h2
  refine ⟨by omega,fun e he=>?_⟩
  have h3:=h2.1
  unfold greatS at h3
  simp only [Bool.or_eq_true,decide_eq_true_eq,not_or,List.any_eq_true,not_exists,not_and] at h3
  have h4:=h3.2 e he
  unfold greatE at h4
  simp only [Bool.or_eq_true,decide_eq_true_eq,not_or] at h4
  exact ⟨by omega,by omega⟩
end Go.Proofs.YtdcphpbimeoioaaGreatDoorE
end
