/- A part of the proof: ZQGN3, ZQGN4, ZQHG0, ZQGN5, ZQHG1, ZQHG2, ZQHG3, ZQHG4, ZQHG, ZQHFc, ZQGP5, ZQGY2, ZQGW8, ZQGY3. No condition. -/
import Derived.Test.YtdcphpbimeoioaaGreatDoorBQ3
import Derived.ChangeKeysEq
import Derived.Test.YtdcphpbimeoioaaGreatDoorProg
section
set_option linter.unusedSectionVars false
namespace Go.Proofs.YtdcphpbimeoioaaGreatDoorE
open Go Go.RowKit Go.Shelf
set_option linter.unusedVariables false
set_option linter.unusedSimpArgs false
section
variable {β:Type} {P:Program} {S:Nat→SL} {F:Nat→Prop} {w:World} {H0:Heap} {E E0:Env} {O:Orc} {a:Act} {n base:Nat} {Ls:List Stp} {os:Array Oper} {Q:Exit→Act→World→Prop}
theorem any_raw {J:(Nat→Bool)→(Nat→SL)→(Nat→Prop)→World→Heap→Prop} {raw:Nat→Bool} {L:List POp} (hO:OrcOk P O) (hL:Ls.map (fun s=>(s.d.i,s.o))=number 0 L) (hlen:L.length=os.size)
  (hsame:∀ i o,os[i]?=some o→∃ po,L[i]?=some po∧po.dst=o.dst∧po.after=(opOf P os o).after∧po.guard=(opOf P os o).guard∧(raw i=false→po=opOf P os o)∧(raw i=true→o.guard=none∧∃ v us,po.act = .raw v us))
  (hd:(os.toList.map (opOf P os)).all (dstIn n)=true) (hs:StepsOk O base [] Ls E0 H0)
  (hJ:∀ (A A':Nat→Bool) {S F w H S' F' w' H'},(∀ i,raw i=true→A' i=A i)→J A S F w H→Adv S F w H S' F' w' H'→J A' S' F' w' H')
  (hR:∀ (l l':List Stp) (s:Stp) (o:Oper),Ls=l++s ::l'→os[s.d.i]?=some o→raw s.d.i=true→∀ (A B:Nat→Bool) (S1:Nat→SL) (F1:Nat→Prop) (w1:World) (H1:Heap) (E1:Env) (a1:Act),A s.d.i=false→(∀ k∈s.o.after,A k=true)→B s.d.i=true→(∀ i,i≠s.d.i→B i=A i) →
   Rel S1 F1 w1 H1→At S1 F1 w1 E1 a1 n→(∀ t∈usesO s.o,get E1 t=get (allE l E0) t)→J A S1 F1 w1 H1 →
   ∃ v w',(∀ (K:Act→World→Prop),K (a1.put o.dst v) w'→o.wp P a1 w1 K Q)∧Val S1 F1 w' s.v v∧Off S1 F1 w1 H1 w'∧J B S1 F1 w' H1)
  (hQ:∀ S' F' w' E' a' A,(∀ i,raw i=true→i<os.size→A i=true)→EqE E' (allE Ls E0)→Rel S' F' w' (allH Ls H0)→At S' F' w' E' a' n→J A S' F' w' (allH Ls H0)→Q .normal a' w') :
  ∀ (fuel:Nat) (listed:Array Bool) {S1:Nat→SL} {F1:Nat→Prop} {w1:World} {E1:Env} {a1:Act},listed.size=os.size→(∀ s∈Ls,listed.getD s.d.i false=true→∀ k∈s.o.after,listed.getD k false=true)→listed.toList.count false≤fuel →
   Rel S1 F1 w1 (subH (fun i=>listed.getD i false) Ls H0)→At S1 F1 w1 E1 a1 n→EqE E1 (subE (fun i=>listed.getD i false) Ls E0)→J (fun i=>listed.getD i false) S1 F1 w1 (subH (fun i=>listed.getD i false) Ls H0)→wpAny P .any os Q fuel listed a1 w1:=by
 have hidx:∀ s∈Ls,s.d.i<os.size∧∃ o,os[s.d.i]?=some o∧L[s.d.i]?=some s.o∧s.o.after=(opOf P os o).after:=by
  intro s hs
  have hm:(s.d.i,s.o)∈number 0 L:=by rw [← hL];exact List.mem_map.2 ⟨s,hs,rfl⟩
  obtain ⟨_,h2⟩:=number_mem _ _ _ hm
  rw [Nat.sub_zero] at h2
  have hlt:s.d.i<os.size:=by have:=(List.getElem?_eq_some_iff.1 h2).1;omega
  obtain ⟨po,g1,_,g3,_⟩:=hsame s.d.i _ (Array.getElem?_eq_getElem hlt)
  rw [g1] at h2
  cases h2
  exact ⟨hlt,_,Array.getElem?_eq_getElem hlt,g1,g3⟩
 have hall':∀ i,i<os.size→∃ s∈Ls,s.d.i=i:=by
  intro i hi
  have h1:Ls.map (fun s=>s.d.i)=List.range' 0 L.length:=by
   have:=congrArg (List.map Prod.fst) hL
   rw [number_fst,List.map_map] at this
   simpa [Function.comp_def] using this
  have:i∈Ls.map (fun s=>s.d.i):=by rw [h1];simp [List.mem_range'_1];omega
  obtain ⟨s,hs,e⟩:=List.mem_map.1 this
  exact ⟨s,hs,e⟩
 have fin:∀ (listed:Array Bool) {S1:Nat→SL} {F1:Nat→Prop} {w1:World} {E1:Env} {a1:Act},(∀ s∈Ls,listed.getD s.d.i false=true)→Rel S1 F1 w1 (subH (fun i=>listed.getD i false) Ls H0)→At S1 F1 w1 E1 a1 n→EqE E1 (subE (fun i=>listed.getD i false) Ls E0)→J (fun i=>listed.getD i false) S1 F1 w1 (subH (fun i=>listed.getD i false) Ls H0)→Q .normal a1 w1:=by
  intro listed S1 F1 w1 E1 a1 hall hr ha he hA
  rw [subH_true (B:=fun i=>listed.getD i false) Ls H0 hall] at hr hA
  rw [subE_true (B:=fun i=>listed.getD i false) Ls E0 hall] at he
  exact hQ _ _ _ _ _ _ (fun i _ hi=>by obtain ⟨s,h1,h2⟩:=hall' i hi;rw [← h2];exact hall s h1) he hr ha hA
 intro fuel
 induction fuel with
 | zero =>
  intro listed S1 F1 w1 E1 a1 hsz hcl hf hr ha he hA
  have hno:∀ i,i<os.size→listed.getD i false=true:=by
   intro i hi
   have h0:listed.toList.count false=0:=Nat.le_zero.1 hf
   rw [List.count_eq_zero] at h0
   have hi':i<listed.size:=by omega
   rw [Array.getD_eq_getD_getElem?,Array.getElem?_eq_getElem hi']
   simp only [Option.getD_some]
   cases hb:listed[i] with
   | true=>rfl
   | false=>exact absurd (by rw [← hb];exact Array.getElem_mem_toList hi') h0
  refine ⟨?_,fin listed (fun s hs=>hno _ (hidx s hs).1) hr ha he hA⟩
  refine List.eq_nil_iff_forall_not_mem.2 fun i hi=>?_
  obtain ⟨h1,o,h2,_⟩:=mem_ready.1 hi
  have hlt:i<os.size:=(Array.getElem?_eq_some_iff.1 h2).1
  have:=hno i hlt
  rw [Array.getD_eq_getD_getElem?,Array.getElem?_eq_getElem (by omega:i<listed.size)] at this h1
  simp only [Option.getD_some] at this h1
  rw [this] at h1;cases h1
 | succ fuel ih =>
  intro listed S1 F1 w1 E1 a1 hsz hcl hf hr ha he hA
  have hgd:∀ i,i<os.size→listed.getD i true=listed.getD i false:=by
   intro i hi
   rw [Array.getD_eq_getD_getElem?,Array.getD_eq_getD_getElem?,Array.getElem?_eq_getElem (by omega:i<listed.size)]
   rfl
  refine ⟨fun hnil=>fin listed ?_ hr ha he hA,fun i hi=>?_⟩
  ·
   have key:∀ (m:Nat),∀ s∈Ls,s.d.i≤m→listed.getD s.d.i false=true:=by
    intro m
    induction m with
    | zero =>
     intro s hsm hle
     cases hb:listed.getD s.d.i false with
     | true=>rfl
     | false =>
      obtain ⟨hlt,o,ho,_,hso⟩:=hidx s hsm
      have:s.d.i∈Region.ready .any os listed:=mem_ready.2 ⟨by rw [hgd _ hlt];exact hb,o,ho,fun e he' hbd=>by
       obtain ⟨l,l',hll⟩:=List.append_of_mem hsm
       have h2:=(steps_at (done:=[]) l (hll ▸ hs)).2.1
       have:e.on∈s.o.after:=by rw [hso];exact List.mem_map.2 ⟨e,List.mem_filter.2 ⟨by simpa using he',hbd⟩,rfl⟩
       have:=List.all_eq_true.1 h2 _ this
       have:=Nat.le_of_ble_eq_true this
       omega⟩
      rw [hnil] at this;cases this
    | succ m ihm =>
     intro s hsm hle
     cases hb:listed.getD s.d.i false with
     | true=>rfl
     | false =>
      obtain ⟨hlt,o,ho,_,hso⟩:=hidx s hsm
      have:s.d.i∈Region.ready .any os listed:=mem_ready.2 ⟨by rw [hgd _ hlt];exact hb,o,ho,fun e he' hbd=>by
       obtain ⟨l,l',hll⟩:=List.append_of_mem hsm
       have h2:=(steps_at (done:=[]) l (hll ▸ hs)).2.1
       have:e.on∈s.o.after:=by rw [hso];exact List.mem_map.2 ⟨e,List.mem_filter.2 ⟨by simpa using he',hbd⟩,rfl⟩
       have:=List.all_eq_true.1 h2 _ this
       have h3:=Nat.le_of_ble_eq_true this
       have hlt':e.on<os.size:=by omega
       obtain ⟨s',e1,e2⟩:=hall' e.on hlt'
       have:=ihm s' e1 (by omega)
       rwa [e2] at this⟩
      rw [hnil] at this;cases this
   exact fun s hs=>key _ s hs (Nat.le_refl _)
  ·obtain ⟨h1,o,ho,hrd⟩:=mem_ready.1 hi
   have hlt:i<os.size:=(Array.getElem?_eq_some_iff.1 ho).1
   rw [hgd i hlt] at h1
   obtain ⟨s,l,l',hll,hsi,hl,hl'⟩:∃ s l l',Ls=l++s ::l'∧s.d.i=i∧(∀ x∈l,x.d.i≠i)∧∀ x∈l',x.d.i≠i:=by
    obtain ⟨s,hsm,rfl⟩:=hall' i hlt
    obtain ⟨l,l',e0⟩:=List.append_of_mem hsm
    have h1:Ls.map (fun s=>s.d.i)=List.range' 0 L.length:=by
     have:=congrArg (List.map Prod.fst) hL
     rw [number_fst,List.map_map] at this
     simpa [Function.comp_def] using this
    have hn:((l++s ::l').map (fun s=>s.d.i)).Nodup:=by rw [← e0,h1];exact List.nodup_range' (step:=1)
    rw [List.map_append,List.map_cons,List.nodup_append] at hn
    obtain ⟨_,n2,n3⟩:=hn
    rw [List.nodup_cons] at n2
    exact ⟨s,l,l',e0,rfl,fun x hx e=>n3 _ (List.mem_map.2 ⟨x,hx,rfl⟩) _ (List.mem_cons_self ..) e,fun x hx e=>n2.1 (List.mem_map.2 ⟨x,hx,e⟩)⟩
   obtain ⟨_,o2,ho2,hLs,haft⟩:=hidx s (by rw [hll];simp)
   rw [hsi,ho] at ho2
   cases ho2
   obtain ⟨po,q1,q2,q3,q4,q5,q6⟩:=hsame i o ho
   rw [hsi,q1] at hLs
   cases hLs
   have hA0:listed.getD s.d.i false=false:=by rw [hsi];exact h1
   have hrdy:∀ k∈s.o.after,listed.getD k false=true:=by
    intro k hk
    rw [haft] at hk
    obtain ⟨e,he',rfl⟩:=List.mem_map.1 hk
    obtain ⟨g1,g2⟩:=List.mem_filter.1 he'
    exact hrd e (by simpa using g1) g2
   have hB:(listed.setIfInBounds i true).getD s.d.i false=true:=by rw [hsi];exact getD_set_self (by omega)
   have hne:∀ x:Stp,x.d.i≠i→(listed.setIfInBounds i true).getD x.d.i false=listed.getD x.d.i false:=fun x hx=>getD_set_ne false fun e=>hx e.symm
   have hmono:∀ k,listed.getD k false=true→(listed.setIfInBounds i true).getD k false=true:=fun k hk=>by
    by_cases e:i=k
    ·subst e;exact getD_set_self (by omega)
    ·rw [getD_set_ne false e];exact hk
   have hs':=hs
   rw [hll] at hs' hcl
   obtain ⟨e1,e2⟩:=step_env (A:=fun i=>listed.getD i false) hs' hcl hA0 hrdy
   obtain ⟨p1,p2⟩:=step_put (A:=fun i=>listed.getD i false) (B:=fun j=>(listed.setIfInBounds i true).getD j false) hs' hcl hA0 hrdy hB (fun x hx=>hne x (hl x hx)) (fun x hx=>hne x (hl' x hx))
   have hrun:=(steps_at (done:=[]) l hs').1
   rw [← hll] at e1 e2 p1 p2 hcl
   obtain ⟨d1,d2⟩:=dstIn_spec (List.all_eq_true.1 hd _ (List.mem_map.2 ⟨o,by simpa using Array.mem_of_getElem? ho,rfl⟩):dstIn n (opOf P os o)=true)
   have hcl':∀ x∈Ls,(listed.setIfInBounds i true).getD x.d.i false=true→∀ k∈x.o.after,(listed.setIfInBounds i true).getD k false=true:=by
    intro x hx hb k hk
    by_cases e:x.d.i=i
    ·refine hmono k (hrdy k ?_)
     have hx':=hx
     rw [hll] at hx'
     rcases List.mem_append.1 hx' with hx'|hx'
     ·exact absurd e (hl x hx')
     ·rcases List.mem_cons.1 hx' with rfl|hx'
      ·exact hk
      ·exact absurd e (hl' x hx')
    ·rw [hne x e] at hb
     exact hmono k (hcl x hx hb k hk)
   have hcnt:(listed.setIfInBounds i true).toList.count false≤fuel:=by
    have hi':i<listed.toList.length:=by simpa using (by omega:i<listed.size)
    have h0:listed.toList[i]=false:=by
     rw [Array.getD_eq_getD_getElem?,Array.getElem?_eq_getElem (by omega:i<listed.size)] at h1
     simpa using h1
    have hm:0<listed.toList.count false:=List.count_pos_iff.2 (by rw [← h0];exact List.getElem_mem hi')
    rw [Array.toList_setIfInBounds,List.count_set hi',h0]
    simp
    simp at hm hf
    omega
   have hus:∀ t∈usesO s.o,get E1 t=get (allE l E0) t:=fun t ht=>(he t).trans (e1 t ht)
   have hJmono:∀ {S' F' w' H'},raw i=false→Adv S1 F1 w1 (subH (fun i=>listed.getD i false) Ls H0) S' F' w' H'→J (fun j=>(listed.setIfInBounds i true).getD j false) S' F' w' H':=fun {S' F' w' H'} hr0 hA' =>
    hJ _ _ (fun j hj=>getD_set_ne false fun e=>by rw [e,hj] at hr0;cases hr0) hA hA'
   have hwant:Fires s.o.guard (allE l E0)→Region.wanted o (yielded os a1.tmps)=true:=by
    intro g1
    cases hg:o.guard with
    | none=>simp [Region.wanted,hg]
    | some g =>
     obtain ⟨j,b⟩:=g
     obtain ⟨t,hgo,ht⟩:=d2 j b hg
     rw [q4,hgo] at g1
     have hb:get E1 t = .bool b:=(hus t (by simp [usesO,q4,hgo])).trans g1
     simp [Region.wanted,hg,ha.yield hb ht]
   unfold wpOp
   simp only [ho]
   cases hraw:raw i with
   | true =>
    obtain ⟨hog,rv,us,hact⟩:=q6 hraw
    rcases hrun.run with ⟨g1,g2⟩|⟨g1,g3,g4⟩
    ·have ha':=g2 E1 _ hus e2 (fun v H=>some (v,H))
     rw [hact] at ha'
     have ha':some (rv,subH (fun i=>listed.getD i false) Ls H0)=some (s.v,upd (subH (fun i=>listed.getD i false) Ls H0) s.δ):=ha'
     simp only [Option.some.injEq,Prod.mk.injEq] at ha'
     obtain ⟨v,w',c1,c2,c3,c4⟩:=hR l l' s o hll (by rw [hsi];exact ho) (by rw [hsi];exact hraw) (fun j=>listed.getD j false) (fun j=>(listed.setIfInBounds i true).getD j false) S1 F1 w1 _ E1 a1 hA0 hrdy hB (fun j hj=>getD_set_ne false fun e=>hj (by rw [hsi,e])) hr ha hus hA
     simp only [hwant g1,if_true]
     refine .inl (c1 _ ?_)
     have p2':subH (fun j=>(listed.setIfInBounds i true).getD j false) Ls H0=subH (fun i=>listed.getD i false) Ls H0:=p2.trans ha'.2.symm
     refine ih _ (by simpa using hsz) hcl' hcnt (by rw [p2'];exact c3.rel hr) ((c3.at' hr ha).put c2 (fun d hd'=>d1 d (by simpa using hd'))) ?_ (by rw [p2'];exact c4)
     rw [← q2]
     exact (he.put _ _).trans p1
    ·exfalso
     have:s.o.guard=none:=by rw [q4];simp [opOf,hog]
     rw [this] at g1;exact g1
   | false =>
    have hso:=q5 hraw
    have fire:Fires s.o.guard (allE l E0)→(∀ E' H',(∀ t∈usesO s.o,get E' t=get (allE l E0) t)→Agr (s.d.rd++s.d.wr) (allH l H0) H'→∀ {β:Type} (K:PV→Heap→Option β),act O (base+s.d.i) E' H' s.o.act K=K s.v (upd H' s.δ)) →
      o.wp P a1 w1 (wpAny P .any os Q fuel (listed.setIfInBounds i true)) Q:=by
     intro _ hact
     have ha':=hact E1 _ hus e2 (fun v H=>some (v,H))
     rw [show s.o.act=actV P (appUses os o.dst) o by rw [hso];rfl] at ha'
     refine wp_of_runs (actV_ok hO hr ha.opd o _ ha') fun v w' hv=>?_
     obtain ⟨pv,H',S',F',hK,hr',hv',hA'⟩:=hv
     cases hK
     refine ih _ (by simpa using hsz) hcl' hcnt (by rw [p2];exact hr') ((ha.adv hr hA').put hv' d1) ?_ (by rw [p2];exact hJmono hraw hA')
     have hdst:s.o.dst=o.dst:=by rw [hso];rfl
     rw [← hdst]
     exact (he.put _ _).trans p1
    rcases hrun.run with ⟨g1,g2⟩|⟨g1,g2,g3⟩
    ·simp only [hwant g1,if_true]
     exact .inl (fire g1 g2)
    ·cases hg:o.guard with
     | none =>
      have:s.o.guard=none:=by rw [hso];simp [opOf,hg]
      rw [this] at g1;exact absurd g1 (fun h=>h)
     | some g =>
      obtain ⟨j,b⟩:=g
      obtain ⟨t,hgo,ht⟩:=d2 j b hg
      rw [hso,hgo] at g1
      have hu:=hus t (by rw [hso];simp [usesO,hgo])
      have hw:=ha.wantNo hg (g1.imp hu.trans hu.trans) ht
      simp only [hw,Bool.false_eq_true,if_false]
      rw [g3] at p2
      rw [g2] at p1
      have p2':subH (fun j=>(listed.setIfInBounds i true).getD j false) Ls H0=subH (fun i=>listed.getD i false) Ls H0:=p2
      have hdst:s.o.dst=o.dst:=by rw [hso];rfl
      refine ih _ (by simpa using hsz) hcl' hcnt (by rw [p2'];exact hr) (ha.skip d1) ?_ (by rw [p2'];exact hJmono hraw (Adv.refl _ _ _ _))
      rw [← hdst]
      exact (he.put _ _).trans p1
end
end Go.Proofs.YtdcphpbimeoioaaGreatDoorE
end
section
set_option linter.unusedSectionVars false
namespace Go.Proofs.YtdcphpbimeoioaaGreatDoorE
open Go Go.RowKit Go.Shelf
set_option linter.unusedVariables false
set_option linter.unusedSimpArgs false
structure Sta (n:Nat) (ts:List Nat) (sg:List Sg) (us:List (Nat×Value)) (S:Nat→SL) (F:Nat→Prop) (w:World) (a:Act) (s:SgEl sg):Prop where
 rel:Rel S F w (heapOf sg s)
 outs:Outs S F w ts (argsOf sg s 0) a.eval
 raw:∀ u∈us,a.eval (.tmp u.1)=u.2
 size:a.tmps.size=n
 defers:a.defers=[]
structure Pce where
 ap:List Nat:=[]
 ts1:List Nat
 sg1:List Sg
 e:Ex
 ts2:List Nat
 sg2:List Sg
def exNo:Ex→Nat
 | .exit i=>i
 | _=>1000000
def sameEx:Ex→Ex→Bool
 | .ret, .ret=>true
 | .exit i, .exit j=>Nat.beq i j
 | _,_=>false
def envOf (ts:List Nat) (sg:List Sg) (us:List (Nat×Value)) (s:SgEl sg):Env:=us.map (fun u=>(u.1, .raw u.2))++ts.zip (argsOf sg s 0)
def walkC (P:Program) (T:List Ent) (f:FuncId) (c:Code) (ts:List Nat) (sg:List Sg) (us:List (Nat×Value)) (p:Pce) (s:SgEl sg):Option ((SgEl p.sg1 ⊕ SgEl p.sg2)×List PV) :=
 code (specO T []) f 0 (ann (rawOf P c 0).1 [(exNo p.e,p.ts2++us.map (·.1))] (p.ts1++us.map (·.1))).1 (envOf ts sg us s) (heapOf sg s) fun x E H=>match x with
  | .normal=>enter 0 p.ts1 p.ap [] false E H fun vs H=>(decIn p.sg1 vs H).map fun a=>(.inl a,us.map fun u=>get E u.1)
  | x=>cond (sameEx x p.e) (enter 0 p.ts2 p.ap [] false E H fun vs H=>(decIn p.sg2 vs H).map fun a=>(.inr a,us.map fun u=>get E u.1)) none
section
variable {P:Program} {S S0:Nat→SL} {F F0:Nat→Prop} {w w0:World} {H0:Heap} {a:Act} {n:Nat} {Q:Exit→Act→World→Prop}
theorem get_raws {us:List (Nat×Value)} {E:Env} {t:Nat}:(∃ v,(t,v)∈us∧get (us.map (fun u=>(u.1,PV.raw u.2))++E) t = .raw v)∨get (us.map (fun u=>(u.1,PV.raw u.2))++E) t=get E t:=by
 induction us with
 | nil=>exact .inr rfl
 | cons u us ih =>
  rw [List.map_cons,List.cons_append,get_cons]
  by_cases h:u.1=t
  ·rw [if_pos h];exact .inl ⟨u.2,by rw [← h];exact List.mem_cons_self,rfl⟩
  ·rw [if_neg h]
   rcases ih with ⟨v,h1,h2⟩|h1
   ·exact .inl ⟨v,List.mem_cons_of_mem _ h1,h2⟩
   ·exact .inr h1
theorem Sta.at' {ts:List Nat} {sg:List Sg} {us:List (Nat×Value)} {s:SgEl sg} (h:Sta n ts sg us S F w a s):At S F w (envOf ts sg us s) a n:=by
 have h0:=h.outs.at h.size h.defers
 refine ⟨⟨fun k=>?_,h0.opd.const,h0.opd.func⟩,h.size,h.defers⟩
 unfold envOf
 rcases get_raws (us:=us) (E:=ts.zip (argsOf sg s 0)) (t:=k) with ⟨v,h1,h2⟩|h1
 ·rw [h2,h.raw _ h1];exact .raw _
 ·rw [h1];exact h0.opd.tmp k
theorem val_raw {v x:Value} (h:Val S F w (.raw v) x):x=v:=by cases h;rfl
theorem raws_of {us:List (Nat×Value)} {E:Env} (ha:At S F w E a n) (h:(us.map fun u=>get E u.1)=us.map fun u=>PV.raw u.2):∀ u∈us,a.eval (.tmp u.1)=u.2:=by
 intro u hu
 have:get E u.1 = .raw u.2:=by
  obtain ⟨i,hi⟩:=List.getElem?_of_mem hu
  have:=congrArg (fun l=>l[i]?) h
  simp only [List.getElem?_map,hi,Option.map_some,Option.some.injEq] at this
  exact this
 have hv:=ha.opd.tmp u.1
 rw [this] at hv
 exact val_raw hv
theorem piece_ok (hM:P.follows .mixedOrders=true) {T:List Ent} (hT:TabF P T) {f:FuncId} {c:Code} (hd:(opsIn (rawOf P c 0).1).all (dstIn n)=true) {ts:List Nat} {sg:List Sg} {us:List (Nat×Value)} {p:Pce} (hs:subs (ann (rawOf P c 0).1 [(exNo p.e,p.ts2++us.map (·.1))] (p.ts1++us.map (·.1))).1=[])
  {s:SgEl sg} {y:SgEl p.sg1 ⊕ SgEl p.sg2} (hst:Sta n ts sg us S F w a s) (h:walkC P T f c ts sg us p s=some (y,us.map fun u => .raw u.2))
  (k:∀ S' F' w' a',AdvM 0 S F w (heapOf sg s) S' F' w' (match y with|.inl s1=>heapOf p.sg1 s1|.inr s2=>heapOf p.sg2 s2) →
   (match y with|.inl s1=>Sta n p.ts1 p.sg1 us S' F' w' a' s1→Q .normal a' w'|.inr s2=>Sta n p.ts2 p.sg2 us S' F' w' a' s2→Q (exOf p.e) a' w')):c.wp P Q a w:=by
 have hO:=orc_table hT []
 have hm:Mt P n c (ann (rawOf P c 0).1 [(exNo p.e,p.ts2++us.map (·.1))] (p.ts1++us.map (·.1))).1:=mt_raw c 0 _ _ hd
 unfold walkC at h
 refine code_ok (l:=[]) hO (drawn_ok hM hO) (fun i lv lx ap fz nb pc c hx=>by cases hx) hm (by rw [hs];exact fun x hx=>hx) hst.rel hst.at' h fun x E1 H1 S1 F1 w1 a1 hK hr1 ha1 hA=>?_
 have dec:∀ {sgo:List Sg} {tso:List Nat} {g:SgEl sgo→SgEl p.sg1 ⊕ SgEl p.sg2},(enter 0 tso p.ap [] false E1 H1 fun vs H=>(decIn sgo vs H).map fun a=>(g a,us.map fun u=>get E1 u.1))=some (y,us.map fun u => .raw u.2) →
   ∃ s1 S' F',y=g s1∧Sta n tso sgo us S' F' w1 a1 s1∧AdvM 0 S F w (heapOf sg s) S' F' w1 (heapOf sgo s1):=by
  intro sgo tso g hK
  obtain ⟨vs',H',S',F',g1,g2,g3,g4⟩:=enter_ok (m:=0) hr1 ha1.opd.tmp hK
  cases hdc:decIn sgo vs' H' with
  | none=>rw [hdc] at g1;cases g1
  | some s1 =>
   rw [hdc] at g1
   simp only [Option.map_some,Option.some.injEq,Prod.mk.injEq] at g1
   obtain ⟨e1,e2⟩:=decIn_some hdc
   subst e1;subst e2
   exact ⟨s1,S',F',g1.1.symm,⟨g2,g4,raws_of ha1 g1.2,ha1.size,ha1.defers⟩,hA.trans g3⟩
 cases x with
 | normal =>
  obtain ⟨s1,S',F',rfl,h1,h2⟩:=dec hK
  exact k S' F' w1 a1 h2 h1
 | ret =>
  obtain ⟨h0,hK⟩:=cond_some hK
  obtain ⟨s1,S',F',rfl,h1,h2⟩:=dec hK
  have e:p.e = .ret:=by
   cases hp:p.e<;>rw [hp] at h0<;>first|rfl|cases h0
  have:=k S' F' w1 a1 h2 h1
  rw [e] at this;exact this
 | exit i =>
  obtain ⟨h0,hK⟩:=cond_some hK
  obtain ⟨s1,S',F',rfl,h1,h2⟩:=dec hK
  have e:p.e = .exit i:=by
   cases hp:p.e with
   | exit j=>rw [hp] at h0;rw [Nat.eq_of_beq_eq_true h0]
   | ret=>rw [hp] at h0;cases h0
   | normal=>rw [hp] at h0;cases h0
  have:=k S' F' w1 a1 h2 h1
  rw [e] at this;exact this
end
end Go.Proofs.YtdcphpbimeoioaaGreatDoorE
end
section
set_option linter.unusedSectionVars false
namespace Go.Proofs.YtdcphpbimeoioaaGreatDoorE
open Go Go.RowKit Go.Shelf Go.Proofs
set_option linter.unusedVariables false
set_option linter.unusedSimpArgs false
set_option maxRecDepth 100000
namespace RA
def cL:Code→Code|.seq a _=>a|_ => .skip
def cR:Code→Code|.seq _ b=>b|_ => .skip
def cB:Code→Code|.block _ c=>c|.loop c=>c|_ => .skip
def cOps:Code→Array Oper|.region _ os _=>os|_=>#[]
noncomputable def body:Code:=match Tryz.f59.body with|some c=>c|none => .skip
abbrev fA:FuncId:=59
noncomputable def R0:Code:=cL body
noncomputable def T1:Code:=cR body
noncomputable def X1:Code:=cL T1
noncomputable def T3:Code:=cR T1
noncomputable def R3:Code:=cL T3
noncomputable def T4:Code:=cR T3
noncomputable def R4:Code:=cL T4
noncomputable def T5:Code:=cR T4
noncomputable def R5:Code:=cL T5
noncomputable def T6:Code:=cR T5
noncomputable def L0:Code:=cL T6
noncomputable def T14:Code:=cR T6
noncomputable def L1:Code:=cL T14
noncomputable def T18:Code:=cR T14
noncomputable def R6:Code:=cL L0
noncomputable def B0:Code:=cB (cB (cR L0))
noncomputable def R7:Code:=cL B0
noncomputable def K7:Code:=cL (cR B0)
noncomputable def B1:Code:=cB (cL (cR (cR B0)))
noncomputable def R13:Code:=cR (cR (cR B0))
noncomputable def R8:Code:=cL B1
noncomputable def R9:Code:=cL (cR B1)
noncomputable def X2:Code:=cL (cR (cR B1))
noncomputable def R11:Code:=cL (cR (cR (cR B1)))
noncomputable def R12:Code:=cR (cR (cR (cR B1)))
noncomputable def R14:Code:=cL L1
noncomputable def B2:Code:=cB (cB (cR L1))
noncomputable def R15:Code:=cL B2
noncomputable def K15:Code:=cL (cR B2)
noncomputable def B3:Code:=cB (cR (cR B2))
noncomputable def R16:Code:=cL B3
noncomputable def R17:Code:=cR B3
noncomputable def R18:Code:=cL T18
noncomputable def T19:Code:=cR T18
abbrev sg1:List Sg:=[.boxr tQuery, .tree (.slice tItem), .own tRow]
def pA (n:Nat) (s:SgEl [.tree tQuery, .tree (.slice tItem)]):Option ((SgEl sg1 ⊕ SgEl [.own tRow])×List PV) :=
 bindN (query_Right n (s.1,())) fun p1 =>
 bif !p1.1.1 then some (.inr ([],()),[]) else some (.inl (s.1,s.2.1,[],()),[])
theorem pA_ok (n:Nat) (s):walkC Tryz.prog [query_Right_ent n] fA (.seq R0 X1) [0,1] [.tree tQuery, .tree (.slice tItem)] [] ⟨[4],[2,1,4],sg1, .ret,[4],[.own tRow]⟩ s=pA n s:=by kernel_rfl
abbrev sg2:List Sg:=[.boxr tQuery, .own tRow, .own tItem]
def pB (n:Nat) (s:SgEl sg1):Option ((SgEl sg2 ⊕ SgEl [])×List PV) :=
 bindN (sl_CloneItem n (s.2.1,())) fun p1 =>
 bindN (sl_StableItem n (p1.1.1,(),())) fun p2 =>
 some (.inl (s.1,s.2.2.1,p2.2.1,()),[])
theorem pB_ok (n:Nat) (s):walkC Tryz.prog [sl_CloneItem_ent n,sl_StableItem_ent n] fA (.seq R3 R4) [2,1,4] sg1 [] ⟨[],[2,4,5],sg2, .ret,[],[]⟩ s=pB n s:=by kernel_rfl
abbrev sg3:List Sg:=[.boxr tQuery, .own tRow, .own tItem, .tree (.int .i64), .tree (.int .i64)]
theorem pC_ok (v:Value) (s:SgEl sg2):walkC Tryz.prog [] fA R6 [2,4,5] sg2 [(6,v)] ⟨[],[2,4,22,23,24],sg3, .ret,[],[]⟩ s=some (.inl (s.1,s.2.1,s.2.2.1,ilen s.2.2.1,(0:Int),()),[.raw v]):=by kernel_rfl
abbrev sgE:List Sg:=[.boxr tQuery, .own tRow]
theorem pD_ok (v:Value) (s:SgEl sg3):walkC Tryz.prog [] fA (.seq R7 K7) [2,4,22,23,24] sg3 [(6,v)] ⟨[],[2,4,22,23,24],sg3, .exit 0,[2,4],sgE⟩ s =
  (bif ilt s.2.2.2.2.1 s.2.2.2.1 then some (.inl s,[.raw v]) else some (.inr (s.1,s.2.1,()),[.raw v])):=by kernel_rfl
abbrev sg4:List Sg:=[.boxr tQuery, .own tRow, .own tItem, .tree (.int .i64), .tree (.int .i64), .boxr tItem, .boxr tRow_place]
def pE (n:Nat) (v:Value) (s:SgEl sg3):Option ((SgEl sg4 ⊕ SgEl sg3)×List PV) :=
 bif ile (0:Int) s.2.2.2.2.1 then
 bindN (lat s.2.2.1 (iN s.2.2.2.2.1)) fun v0 =>
 bindN (lat s.2.2.1 (iN s.2.2.2.2.1)) fun v1 =>
 bindN (row_series n (v1.2.1,())) fun p2 =>
 bif !p2.1.2.1 then some (.inr s,[.raw v]) else
 bindN (cell_Empty n v1.2.2) fun p3 =>
 bif p3.1.1 then some (.inr s,[.raw v]) else
 bindN (query_Fits n (s.1,p2.1.1,())) fun p4 =>
 bif !p4.1.1 then some (.inr s,[.raw v]) else
 bindN (query_Group n (s.1,p2.1.1,())) fun p5 =>
 some (.inl (s.1,s.2.1,s.2.2.1,s.2.2.2.1,s.2.2.2.2.1,v1,(v1.1,p5.1.1,()),()),[.raw v])
 else none
theorem pE_ok (n:Nat) (v:Value) (s:SgEl sg3):walkC Tryz.prog [row_series_ent n,cell_Empty_ent n,query_Fits_ent n,query_Group_ent n] fA (.seq R8 (.seq R9 (.seq X2 R11))) [2,4,22,23,24] sg3 [(6,v)] ⟨[],[2,4,22,23,24,8,11],sg4, .exit 1,[2,4,22,23,24],sg3⟩ s=pE n v s:=by kernel_rfl
theorem pF'_ok (v:Value) (s:SgEl sg3):walkC Tryz.prog [] fA R13 [2,4,22,23,24] sg3 [(6,v)] ⟨[],[2,4,22,23,24],sg3, .ret,[],[]⟩ s=some (.inl (s.1,s.2.1,s.2.2.1,s.2.2.2.1,iadd .i64 s.2.2.2.2.1 (1:Int),()),[.raw v]):=by kernel_rfl
abbrev sg5:List Sg:=[.boxr tQuery, .own tRow, .boxr tRow_place, .boxr tCell]
def pH (n:Nat) (v:Value) (s:SgEl sg5):Option ((SgEl sgE ⊕ SgEl [])×List PV) :=
 bindN (cell_Value n (s.2.2.2.1,s.1.1,())) fun p1 =>
 bif roomA s.2.1 [(s.2.2.1.1,s.2.2.1.2.1,p1.1)] 40 then some (.inl (s.1,app s.2.1 [(s.2.2.1.1,s.2.2.1.2.1,p1.1)],()),[.raw v]) else none
theorem pH_ok (n:Nat) (v:Value) (s:SgEl sg5):walkC Tryz.prog [cell_Value_ent n] fA R17 [2,4,12,13] sg5 [(64,v)] ⟨[4],[2,4],sgE, .ret,[],[]⟩ s=pH n v s:=by kernel_rfl
def pI (n:Nat) (s:SgEl sgE):Option ((SgEl [] ⊕ SgEl [.own tRow])×List PV) :=
 bindN (sl_SortRow n (s.2.1,(),())) fun p1=>some (.inr (p1.2.1,()),[])
theorem pI_ok (n:Nat) (s:SgEl sgE):walkC Tryz.prog [sl_SortRow_ent n] fA (.seq R18 T19) [2,4] sgE [] ⟨[],[],[], .ret,[4],[.own tRow]⟩ s=pI n s:=by kernel_rfl
end RA
end Go.Proofs.YtdcphpbimeoioaaGreatDoorE
end
section
set_option linter.unusedSectionVars false
namespace Go.Proofs.YtdcphpbimeoioaaGreatDoorE
open Go Go.RowKit Go.Shelf
open Go.ChangeMaps (setBlock)
set_option linter.unusedVariables false
set_option linter.unusedSimpArgs false
section
variable {P:Program} {S S' S0:Nat→SL} {F F' F0:Nat→Prop} {w w' w0:World} {H H' H0:Heap} {E E':Env} {O:Orc} {a:Act} {n:Nat} {Q:Exit→Act→World→Prop} {ts:List Nat} {sg:List Sg} {us:List (Nat×Value)} {s:SgEl sg} {bs:List Nat} {J J':World→Prop}
theorem Sta.off (h:Sta n ts sg us S F w a s) (hO:Off S F w (heapOf sg s) w'):Sta n ts sg us S F w' a s :=
 ⟨hO.rel h.rel,fun j t p h1 h2=>hO.val h.rel (h.outs j t p h1 h2),h.raw,h.size,h.defers⟩
theorem Sta.put (h:Sta n ts sg us S F w a s) {t:Nat} (v:Value) (h1:¬ t∈ts) (h2:¬ t∈us.map (·.1)):Sta n ts sg us S F w (a.put (some t) v) s:=by
 refine ⟨h.rel,fun j k p g1 g2=>?_,fun u hu=>?_,by simp [Act.put,h.size],h.defers⟩
 ·rw [Act.eval_put (fun d' hd' e'=>by cases hd';cases e';exact h1 (List.mem_of_getElem? g1))]
  exact h.outs j k p g1 g2
 ·rw [Act.eval_put (fun d' hd' e'=>by cases hd';cases e';exact h2 (List.mem_map.2 ⟨u,hu,rfl⟩))]
  exact h.raw u hu
theorem eval_put_same {t:Nat} (ht:t<a.tmps.size) (v:Value):(a.put (some t) v).eval (.tmp t)=v:=by simp [Act.eval,Act.put,ht]
theorem Sta.putu (h:Sta n ts sg us S F w a s) {t:Nat} (v:Value) (h1:¬ t∈ts) (h2:¬ t∈us.map (·.1)) (ht:t<n):Sta n ts sg (us++[(t,v)]) S F w (a.put (some t) v) s:=by
 have g:=h.put v h1 h2
 refine ⟨g.rel,g.outs,fun u hu=>?_,g.size,g.defers⟩
 rcases List.mem_append.1 hu with hu|hu
 ·exact g.raw u hu
 ·simp only [List.mem_singleton] at hu
  subst hu
  exact eval_put_same (by rw [h.size];exact ht) v
theorem Sta.less {us':List (Nat×Value)} (h:Sta n ts sg us S F w a s) (hu:∀ u∈us',u∈us):Sta n ts sg us' S F w a s:=⟨h.rel,h.outs,fun u hu'=>h.raw u (hu u hu'),h.size,h.defers⟩
structure Mid (n:Nat) (S0:Nat→SL) (F0:Nat→Prop) (w0:World) (H0:Heap) (ts:List Nat) (sg:List Sg) (us:List (Nat×Value)) (bs:List Nat) (J:World→Prop) (S:Nat→SL) (F:Nat→Prop) (w:World) (a:Act) (s:SgEl sg):Prop where
 sta:Sta n ts sg us S F w a s
 frn:∀ b∈bs,Frn S F w (heapOf sg s) b∧w0.heap.size≤b
 adv:AdvM 0 S0 F0 w0 H0 S F w (heapOf sg s)
 keep:J w
def JOk (bs:List Nat) (J:World→Prop):Prop:=∀ w w':World,(∀ b∈bs,w'.heap[b]?=w.heap[b]?)→J w→J w'
theorem sta_of {ap:List Nat} {s1:SgEl sg} (hr:Rel S F w H) (ha:At S F w E a n) (h:(enter 0 ts ap [] false E H fun vs H=>(decIn sg vs H).map fun x=>(x,us.map fun u=>get E u.1))=some (s1,us.map fun u => .raw u.2)) :
  ∃ S' F',Sta n ts sg us S' F' w a s1∧AdvM 0 S F w H S' F' w (heapOf sg s1):=by
 obtain ⟨vs',H',S',F',g1,g2,g3,g4⟩:=enter_ok (m:=0) hr ha.opd.tmp h
 cases hdc:decIn sg vs' H' with
 | none=>rw [hdc] at g1;cases g1
 | some s2 =>
  rw [hdc] at g1
  simp only [Option.map_some,Option.some.injEq,Prod.mk.injEq] at g1
  obtain ⟨e1,e2⟩:=decIn_some hdc
  subst e1;subst e2
  obtain ⟨g11,g12⟩:=g1
  subst g11
  exact ⟨S',F',⟨g2,g4,raws_of ha g12,ha.size,ha.defers⟩,g3⟩
theorem Mid.to {ts1:List Nat} {sg1:List Sg} {us1:List (Nat×Value)} {s1:SgEl sg1} {a':Act} (hJ:JOk bs J) (h:Mid n S0 F0 w0 H0 ts sg us bs J S F w a s) (hA:AdvM 0 S F w (heapOf sg s) S' F' w' (heapOf sg1 s1)) (hs:Sta n ts1 sg1 us1 S' F' w' a' s1):Mid n S0 F0 w0 H0 ts1 sg1 us1 bs J S' F' w' a' s1 :=
 ⟨hs,fun b hb=>⟨(h.frn b hb).1.adv hA,(h.frn b hb).2⟩,h.adv.trans hA,hJ w w' (fun b hb=>(h.frn b hb).1.same hA) h.keep⟩
theorem Mid.piece (hM:P.follows .mixedOrders=true) {T:List Ent} (hT:TabF P T) {f:FuncId} {c:Code} (hd:(opsIn (rawOf P c 0).1).all (dstIn n)=true) {p:Pce} (hs:subs (ann (rawOf P c 0).1 [(exNo p.e,p.ts2++us.map (·.1))] (p.ts1++us.map (·.1))).1=[])
  (hJ:JOk bs J) {y:SgEl p.sg1 ⊕ SgEl p.sg2} (h:Mid n S0 F0 w0 H0 ts sg us bs J S F w a s) (hw:walkC P T f c ts sg us p s=some (y,us.map fun u => .raw u.2))
  (k:∀ S' F' w' a',(match y with|.inl s1=>Mid n S0 F0 w0 H0 p.ts1 p.sg1 us bs J S' F' w' a' s1→Q .normal a' w'|.inr s2=>Mid n S0 F0 w0 H0 p.ts2 p.sg2 us bs J S' F' w' a' s2→Q (exOf p.e) a' w')):c.wp P Q a w:=by
 refine piece_ok hM hT hd hs h.sta hw fun S' F' w' a' hA=>?_
 have k:=k S' F' w' a'
 cases y with
 | inl s1=>exact fun hs=>k (h.to hJ hA hs)
 | inr s2=>exact fun hs=>k (h.to hJ hA hs)
def capp:Nat→Code→Code→Code
 | k+1, .seq a b,z => .seq a (capp k b z)
 | _,c,z => .seq c z
theorem code_ok_app {β:Type} {f:FuncId} {l:List PCode} {m:Nat} (hO:OrcOk P O) (hD:DrawnOk P O) (hL:LoopsOk P n m O f l) {z:Code}:∀ (d:Nat) {c:Code} {pc:PCode} (hm:Mt P n c pc) {S:Nat→SL} {F:Nat→Prop} {w:World} {H:Heap} {E:Env} {a:Act} {r:β} {K:Ex→Env→Heap→Option β} {Q:Exit→Act→World→Prop},
  (∀ x∈subs pc,x∈l)→Rel S F w H→At S F w E a n→code O f m pc E H K=some r→Goes n m S F w H K r (Exit.then (z.wp P Q) Q)→(capp d c z).wp P Q a w
 | 0,c,pc,hm,S,F,w,H,E,a,r,K,Q,hs,hr,ha,h,hQ=>by
  rw [show capp 0 c z = .seq c z by cases c<;>rfl]
  exact wp_seq (code_ok hO hD hL hm hs hr ha h hQ)
 | d+1,c,pc,hm,S,F,w,H,E,a,r,K,Q,hs,hr,ha,h,hQ=>by
  cases hm with
  | seq h1 h2 =>
   rw [capp]
   simp only [code] at h
   refine wp_seq (code_ok hO hD hL h1 (fun x hx=>hs x (List.mem_append_left _ hx)) hr ha h fun x E1 H1 S1 F1 w1 a1 hK hr1 ha1 hA=>?_)
   cases x with
   | normal=>exact code_ok_app hO hD hL d h2 (fun x hx=>hs x (List.mem_append_right _ hx)) hr1 ha1 hK fun x E2 H2 S2 F2 w2 a2 k1 k2 k3 k4=>hQ _ _ _ _ _ _ _ k1 k2 k3 (hA.trans k4)
   | exit id=>exact hQ (.exit id) _ _ _ _ _ _ hK hr1 ha1 hA
   | ret=>exact hQ .ret _ _ _ _ _ _ hK hr1 ha1 hA
  | bad c=>cases h
  | skip=>exact wp_seq (code_ok hO hD hL .skip hs hr ha h hQ)
  | ret=>exact wp_seq (code_ok hO hD hL .ret hs hr ha h hQ)
  | exit id=>exact wp_seq (code_ok hO hD hL (.exit id) hs hr ha h hQ)
  | region id os d out hd=>exact wp_seq (code_ok hO hD hL (.region id os d out hd) hs hr ha h hQ)
  | cond c h1 h2=>exact wp_seq (code_ok hO hD hL (.cond c h1 h2) hs hr ha h hQ)
  | block id h1=>exact wp_seq (code_ok hO hD hL (.block id h1) hs hr ha h hQ)
  | loop i lv lx ap fz nb h1=>exact wp_seq (code_ok hO hD hL (.loop i lv lx ap fz nb h1) hs hr ha h hQ)
theorem Mid.front (d:Nat) (hM:P.follows .mixedOrders=true) {T:List Ent} (hT:TabF P T) {f:FuncId} {c z:Code} (hd:(opsIn (rawOf P c 0).1).all (dstIn n)=true) {p:Pce} (hs:subs (ann (rawOf P c 0).1 [(exNo p.e,p.ts2++us.map (·.1))] (p.ts1++us.map (·.1))).1=[])
  (hJ:JOk bs J) {y:SgEl p.sg1 ⊕ SgEl p.sg2} (h:Mid n S0 F0 w0 H0 ts sg us bs J S F w a s) (hw:walkC P T f c ts sg us p s=some (y,us.map fun u => .raw u.2))
  (k:∀ S' F' w' a',(match y with|.inl s1=>Mid n S0 F0 w0 H0 p.ts1 p.sg1 us bs J S' F' w' a' s1→z.wp P Q a' w'|.inr s2=>Mid n S0 F0 w0 H0 p.ts2 p.sg2 us bs J S' F' w' a' s2→Exit.then (z.wp P Q) Q (exOf p.e) a' w')):(capp d c z).wp P Q a w:=by
 have hO:=orc_table hT []
 have hm:Mt P n c (ann (rawOf P c 0).1 [(exNo p.e,p.ts2++us.map (·.1))] (p.ts1++us.map (·.1))).1:=mt_raw c 0 _ _ hd
 unfold walkC at hw
 refine code_ok_app (l:=[]) hO (drawn_ok hM hO) (fun i lv lx ap fz nb pc c hx=>by cases hx) d hm (by rw [hs];exact fun x hx=>hx) h.sta.rel h.sta.at' hw fun x E1 H1 S1 F1 w1 a1 hK hr1 ha1 hA=>?_
 have dec:∀ {sgo:List Sg} {tso:List Nat} {g:SgEl sgo→SgEl p.sg1 ⊕ SgEl p.sg2},(enter 0 tso p.ap [] false E1 H1 fun vs H=>(decIn sgo vs H).map fun a=>(g a,us.map fun u=>get E1 u.1))=some (y,us.map fun u => .raw u.2) →
   ∃ s1 S' F',y=g s1∧Sta n tso sgo us S' F' w1 a1 s1∧AdvM 0 S F w (heapOf sg s) S' F' w1 (heapOf sgo s1):=by
  intro sgo tso g hK
  obtain ⟨vs',H',S',F',g1,g2,g3,g4⟩:=enter_ok (m:=0) hr1 ha1.opd.tmp hK
  cases hdc:decIn sgo vs' H' with
  | none=>rw [hdc] at g1;cases g1
  | some s1 =>
   rw [hdc] at g1
   simp only [Option.map_some,Option.some.injEq,Prod.mk.injEq] at g1
   obtain ⟨e1,e2⟩:=decIn_some hdc
   subst e1;subst e2
   exact ⟨s1,S',F',g1.1.symm,⟨g2,g4,raws_of ha1 g1.2,ha1.size,ha1.defers⟩,hA.trans g3⟩
 cases x with
 | normal =>
  obtain ⟨s1,S',F',rfl,h1,h2⟩:=dec hK
  exact k S' F' w1 a1 (h.to hJ h2 h1)
 | ret =>
  obtain ⟨h0,hK⟩:=cond_some hK
  obtain ⟨s1,S',F',rfl,h1,h2⟩:=dec hK
  have e:p.e = .ret:=by
   cases hp:p.e<;>rw [hp] at h0<;>first|rfl|cases h0
  have:=k S' F' w1 a1 (h.to hJ h2 h1)
  rw [e] at this;exact this
 | exit i =>
  obtain ⟨h0,hK⟩:=cond_some hK
  obtain ⟨s1,S',F',rfl,h1,h2⟩:=dec hK
  have e:p.e = .exit i:=by
   cases hp:p.e with
   | exit j=>rw [hp] at h0;rw [Nat.eq_of_beq_eq_true h0]
   | ret=>rw [hp] at h0;cases h0
   | normal=>rw [hp] at h0;cases h0
  have:=k S' F' w1 a1 (h.to hJ h2 h1)
  rw [e] at this;exact this
theorem Mid.set (h:Mid n S0 F0 w0 H0 ts sg us bs J S F w a s) {b:Nat} (hb:b∈bs) (o:Obj) (hk:J' (setBlock w b o)):Mid n S0 F0 w0 H0 ts sg us bs J' S F (setBlock w b o) a s:=by
 have hO:=off_set (h.frn b hb).1 o
 refine ⟨h.sta.off hO,fun c hc=>⟨(h.frn c hc).1.grow hO.sz,(h.frn c hc).2⟩,hO.adv h.adv fun k hk=>?_,hk⟩
 have:b≠k:=by have:=(h.frn b hb).2;omega
 simp [setBlock,Array.getElem?_setIfInBounds,this]
theorem Mid.drew (h:Mid n S0 F0 w0 H0 ts sg us bs J S F w a s) (hk:J' w.drew):Mid n S0 F0 w0 H0 ts sg us bs J' S F w.drew a s :=
 ⟨h.sta.off (off_drew w),fun c hc=>⟨(h.frn c hc).1.grow (Nat.le_refl _),(h.frn c hc).2⟩,(off_drew w).adv h.adv fun k hk=>rfl,hk⟩
theorem Mid.alloc (h:Mid n S0 F0 w0 H0 ts sg us bs J S F w a s) (o:Obj) (hk:J' (w.alloc o)):Mid n S0 F0 w0 H0 ts sg us (w.heap.size ::bs) J' S F (w.alloc o) a s:=by
 have hO:=off_alloc (S:=S) (F:=F) (H:=heapOf sg s) w o
 have hsz:w.heap.size<(w.alloc o).heap.size:=by
  have e:(w.alloc o).heap=w.heap.push o:=rfl
  rw [e];simp
 refine ⟨h.sta.off hO,fun c hc=>?_,hO.adv h.adv fun k hk=>(MapKept.heap_alloc w o).2 k (Nat.lt_of_lt_of_le hk h.adv.sz),hk⟩
 rcases List.mem_cons.1 hc with rfl|hc
 ·exact ⟨Frn.new h.sta.rel hsz,h.adv.sz⟩
 ·exact ⟨(h.frn c hc).1.grow hO.sz,(h.frn c hc).2⟩
theorem Mid.more (h:Mid n S0 F0 w0 H0 ts sg us bs J S F w a s) {us':List (Nat×Value)} {a':Act} (hs:Sta n ts sg us' S F w a' s):Mid n S0 F0 w0 H0 ts sg us' bs J S F w a' s:=⟨hs,h.frn,h.adv,h.keep⟩
theorem get_app {xs:List (Nat×PV)} {t:Nat}:(∃ x∈xs,x.1=t∧get (xs++E) t=x.2)∨get (xs++E) t=get E t:=by
 induction xs with
 | nil=>exact .inr rfl
 | cons x xs ih =>
  rw [List.cons_append,get_cons]
  by_cases h:x.1=t
  ·rw [if_pos h];exact .inl ⟨x,List.mem_cons_self,h,rfl⟩
  ·rw [if_neg h]
   rcases ih with ⟨y,h1,h2⟩|h1
   ·exact .inl ⟨y,List.mem_cons_of_mem _ h1,h2⟩
   ·exact .inr h1
theorem At.app (ha:At S F w E a n) {xs:List (Nat×PV)} (hx:∀ x∈xs,Val S F w x.2 (a.eval (.tmp x.1))):At S F w (xs++E) a n:=by
 refine ⟨⟨fun k=>?_,ha.opd.const,ha.opd.func⟩,ha.size,ha.defers⟩
 rcases get_app (E:=E) (xs:=xs) (t:=k) with ⟨x,h1,h2,h3⟩|h1
 ·rw [h3,← h2];exact hx x h1
 ·rw [h1];exact ha.opd.tmp k
theorem Mid.ops {T:List Ent} (hT:TabF P T) {os:Array Oper} {L:List (Nat×POp)} (hL:∀ x∈L,IsOp P os n x) (hJ:JOk bs J) (h:Mid n S0 F0 w0 H0 ts sg us bs J S F w a s) {xs:List (Nat×PV)} (hx:∀ x∈xs,Val S F w x.2 (a.eval (.tmp x.1)))
  {ts1 ap:List Nat} {sg1:List Sg} {s1:SgEl sg1} {base:Nat}
  (hw:(ops (specO T []) base L (xs++envOf ts sg us s) (heapOf sg s) fun E H=>enter 0 ts1 ap [] false E H fun vs H=>(decIn sg1 vs H).map fun x=>(x,us.map fun u=>get E u.1))=some (s1,us.map fun u => .raw u.2))
  (k:∀ S' F' w' a',Mid n S0 F0 w0 H0 ts1 sg1 us bs J S' F' w' a' s1→Q .normal a' w'):wpOps P os Q (L.map (·.1)) a w:=by
 refine ops_ok (orc_table hT []) L hL h.sta.rel (h.sta.at'.app hx) hw fun S' F' w' H' E' a' hK hr ha hA=>?_
 obtain ⟨S2,F2,g1,g2⟩:=sta_of (us:=us) hr ha hK
 exact k _ _ _ _ (h.to hJ (hA.toM.trans g2) g1)
def lk:List (Nat×PAct)→Nat→Option PAct
 | [],_=>none
 | x ::r,i=>bif Nat.beq x.1 i then some x.2 else lk r i
def setRaw (l:List (Nat×PAct)):Nat→List POp→List POp
 | _,[]=>[]
 | i,o ::r=>(match lk l i with|some x=>{ o with act:=x }|none=>o) ::setRaw l (i+1) r
theorem setRaw_len (l:List (Nat×PAct)):∀ (i:Nat) (r:List POp),(setRaw l i r).length=r.length
 | _,[]=>rfl
 | i,_ ::r=>by simp [setRaw,setRaw_len l (i+1) r]
theorem setRaw_get (l:List (Nat×PAct)):∀ (i:Nat) (r:List POp) (j:Nat),(setRaw l i r)[j]?=(r[j]?).map fun o=>match lk l (i+j) with|some x=>{ o with act:=x }|none=>o
 | _,[],j=>by simp [setRaw]
 | i,o ::r,0=>by simp [setRaw]
 | i,o ::r,j+1=>by
  simp only [setRaw,List.getElem?_cons_succ]
  rw [setRaw_get l (i+1) r j,show i+1+j=i+(j+1) by omega]
def noDst (L:List POp) (t:Nat):Bool:=L.all fun o=>match o.dst with|some d => !(Nat.beq d t)|none=>true
theorem number_get:∀ (k:Nat) (l:List POp) (j:Nat),(number k l)[j]?=(l[j]?).map fun o=>(k+j,o)
 | _,[],j=>by simp [number]
 | k,o ::l,0=>by simp [number]
 | k,o ::l,j+1=>by
  simp only [number,List.getElem?_cons_succ]
  rw [number_get (k+1) l j,show k+1+j=k+(j+1) by omega]
theorem steps_place {Ls l l':List Stp} {s:Stp} {L:List POp} (hL:Ls.map (fun s=>(s.d.i,s.o))=number 0 L) (e:Ls=l++s ::l'):l.length=s.d.i∧∀ x∈s ::l',x.o∈L.drop s.d.i:=by
 have h1:∀ j:Nat,(Ls[j]?).map (fun (s:Stp)=>(s.d.i,s.o))=(L[j]?).map fun o=>(j,o):=fun j=>by
  have:=congrArg (fun z=>z[j]?) hL
  simp only [List.getElem?_map,number_get,Nat.zero_add] at this
  exact this
 have h2:l.length=s.d.i:=by
  have:=h1 l.length
  rw [e,List.getElem?_append_right (Nat.le_refl _),Nat.sub_self] at this
  simp only [List.getElem?_cons_zero,Option.map_some] at this
  cases hx:L[l.length]? with
  | none=>rw [hx] at this;cases this
  | some o=>rw [hx] at this;simp only [Option.map_some,Option.some.injEq,Prod.mk.injEq] at this;exact this.1.symm
 refine ⟨h2,fun x hx=>?_⟩
 obtain ⟨j,hj⟩:=List.getElem?_of_mem hx
 have:=h1 (l.length+j)
 rw [e,List.getElem?_append_right (by omega),Nat.add_sub_cancel_left,hj,Option.map_some] at this
 cases hy:L[l.length+j]? with
 | none=>rw [hy] at this;cases this
 | some o =>
  rw [hy] at this
  simp only [Option.map_some,Option.some.injEq,Prod.mk.injEq] at this
  rw [this.2,← h2]
  exact List.mem_of_getElem? (i:=j) (by rw [List.getElem?_drop];exact hy)
theorem allE_app:∀ (l l':List Stp) (E:Env),allE (l++l') E=allE l' (allE l E)
 | [],_,_=>rfl
 | s ::l,l',E=>allE_app l l' _
theorem allE_no {t:Nat}:∀ (l:List Stp) (E:Env),(∀ x∈l,∀ d,x.o.dst=some d→d≠t)→get (allE l E) t=get E t
 | [],_,_=>rfl
 | s ::l,E,h=>by
  show get (allE l _) t=_
  rw [allE_no l _ fun x hx=>h x (List.mem_cons_of_mem _ hx)]
  cases hd:s.o.dst with
  | none=>rfl
  | some d=>simp only [putD,get_cons];rw [if_neg (h s List.mem_cons_self d hd)]
theorem region_raw {β:Type} (hM:P.follows .mixedOrders=true) (hO:OrcOk P O) {id:Nat} {os:Array Oper} {l:List (Nat×PAct)} (hl:∀ i x,lk l i=some x→∃ v us,x = .raw v us) (hg:∀ i o,os[i]?=some o→(lk l i).isSome=true→o.guard=none)
  (hd:(os.toList.map (opOf P os)).all (dstIn n)=true) {J:(Nat→Bool)→(Nat→SL)→(Nat→Prop)→World→Heap→Prop} {base:Nat} {r:β} {K:Env→Heap→Option β}
  (h:opsD O base [] (number 0 (setRaw l 0 (os.toList.map (opOf P os)))) E H K=some r) (hr:Rel S F w H) (ha:At S F w E a n)
  (hJ:∀ (A A':Nat→Bool) {S F w H S' F' w' H'},(∀ i,(lk l i).isSome=true→A' i=A i)→J A S F w H→Adv S F w H S' F' w' H'→J A' S' F' w' H') (hJ0:J (fun _=>false) S F w H)
  (hR:∀ (Ef:Env) (Hf:Heap),K Ef Hf=some r→∀ (i:Nat) (v:PV) (vs:List Arg) (o:Oper),os[i]?=some o→lk l i=some (.raw v vs)→∀ (A B:Nat→Bool) (S1:Nat→SL) (F1:Nat→Prop) (w1:World) (H1:Heap) (E1:Env) (a1:Act),A i=false→(∀ k∈(opOf P os o).after,A k=true)→B i=true→(∀ j,j≠i→B j=A j) →
   Rel S1 F1 w1 H1→At S1 F1 w1 E1 a1 n→(∀ t∈(PAct.raw v vs).uses,noDst ((setRaw l 0 (os.toList.map (opOf P os))).drop i) t=true→get E1 t=get Ef t)→J A S1 F1 w1 H1 →
   ∃ x w',(∀ (K:Act→World→Prop),K (a1.put o.dst x) w'→o.wp P a1 w1 K Q)∧Val S1 F1 w' v x∧Off S1 F1 w1 H1 w'∧J B S1 F1 w' H1)
  (hQ:∀ S' F' w' E' a' H' A,K E' H'=some r→(∀ i,(lk l i).isSome=true→i<os.size→A i=true)→Rel S' F' w' H'→At S' F' w' E' a' n→J A S' F' w' H'→Q .normal a' w'):(Code.region id os true).wp P Q a w:=by
 obtain ⟨Ls,k1,k2,E',k3,k4⟩:=opsD_steps hO _ [] (fun _=>rfl) h
 have eqAt:∀ {S F w E1 E2 a1},EqE E1 E2→At S F w E1 a1 n→At S F w E2 a1 n:=fun he ha=>⟨⟨fun k=>he k ▸ ha.opd.tmp k,ha.opd.const,ha.opd.func⟩,ha.size,ha.defers⟩
 have h0:∀ i,(Array.replicate os.size false).getD i false=false:=fun i=>by
  simp [Array.getD_eq_getD_getElem?,Array.getElem?_replicate]
  split<;>rfl
 refine wp_region_any hM ?_
 have hst:∀ i o,os[i]?=some o→(os.toList.map (opOf P os))[i]?=some (opOf P os o):=fun i o ho=>by
  rw [List.getElem?_map,Array.getElem?_toList,ho];rfl
 have hA:=Adv.heap (w:=w) (w':={ w with drawn:=w.drawn+1 }) rfl ⟨rfl,rfl,rfl,(fun _=>Nat.le_succ _)⟩ S F H
 refine any_raw (J:=J) (raw:=fun i=>(lk l i).isSome) (L:=setRaw l 0 (os.toList.map (opOf P os))) hO k1 (by rw [setRaw_len];simp) (fun i o ho=>?_) hd k2 hJ (fun l1 l2 s o hLs ho hraw A B S1 F1 w1 H1 E1 a1 g1 g2 g3 g4 g5 g6 g7 g8=>?_) (fun S' F' w' E2 a' A e1 e2 e3 e4 e5=>?_) os.size _ (by simp) (fun s _ hb=>?_) ?_ (S1:=S) (F1:=F) (E1:=E) ?_ (ha.adv hr hA) ?_ ?_
 ·have e:=setRaw_get l 0 (os.toList.map (opOf P os)) i
  rw [hst i o ho,Option.map_some,Nat.zero_add] at e
  cases hx:lk l i with
  | none=>rw [hx] at e;exact ⟨_,e,rfl,rfl,rfl,fun _=>rfl,fun h=>by simp at h⟩
  | some x =>
   rw [hx] at e
   exact ⟨_,e,rfl,rfl,rfl,fun h=>by simp at h,fun _=>⟨hg i o ho (by rw [hx];rfl),hl i x hx⟩⟩
 ·have hraw:(lk l s.d.i).isSome=true:=hraw
  obtain ⟨x,hx⟩:=Option.isSome_iff_exists.1 hraw
  obtain ⟨v,vs,rfl⟩:=hl _ _ hx
  obtain ⟨p1,p2⟩:=steps_place k1 hLs
  have e:=setRaw_get l 0 (os.toList.map (opOf P os)) s.d.i
  rw [hst _ o ho,Option.map_some,Nat.zero_add,hx] at e
  have hso:s.o={ opOf P os o with act := .raw v vs }:=by
   have h1:=congrArg (fun z=>z[s.d.i]?) k1
   simp only [List.getElem?_map,number_get,Nat.zero_add,e,Option.map_some] at h1
   rw [hLs,← p1,List.getElem?_append_right (Nat.le_refl _),Nat.sub_self] at h1
   simp only [List.getElem?_cons_zero,Option.map_some,Option.some.injEq,Prod.mk.injEq] at h1
   exact h1.2
  have hgn:=hg _ o ho hraw
  have hsv:s.v=v:=by
   have k2':=k2
   rw [hLs] at k2'
   have hrun:=(steps_at (done:=[]) l1 k2').1.run
   rcases hrun with ⟨_,f2⟩|⟨f1,_⟩
   ·have:=f2 (allE l1 E) (allH l1 H) (fun _ _=>rfl) (fun _ _=>rfl) (fun v H=>some v)
    rw [hso] at this
    exact (Option.some.inj this).symm
   ·rw [hso] at f1
    have:(opOf P os o).guard=none:=by simp [opOf,hgn]
    simp only [this] at f1
    exact f1.elim
  rw [hsv]
  refine hR E' (allH Ls H) k4 s.d.i v vs o ho hx A B S1 F1 w1 H1 E1 a1 g1 (fun k hk=>g2 k (by rw [hso];exact hk)) g3 g4 g5 g6 (fun t ht hn=>?_) g8
  rw [g7 t (by rw [hso];exact List.mem_append_left _ ht),k3 t,hLs,allE_app,allE_no (s ::l2) _ ?_]
  intro y hy d hd' hdt
  subst hdt
  have:=List.all_eq_true.1 hn _ (p2 y hy)
  rw [hd'] at this
  simp [show Nat.beq d d=true from Nat.beq_refl d] at this
 ·exact hQ _ _ _ _ _ _ A k4 e1 e3 (eqAt (fun t=>(e2 t).trans (k3 t).symm) e4) e5
 ·rw [h0] at hb;cases hb
 ·have:=List.count_le_length (a:=false) (l:=(Array.replicate os.size false).toList)
  simp
 ·rw [subH_false (B:=fun i=>(Array.replicate os.size false).getD i false) _ _ fun s _=>h0 _]
  exact Rel.heap (w:=w) rfl hr
 ·rw [subE_false (B:=fun i=>(Array.replicate os.size false).getD i false) _ _ fun s _=>h0 _]
  exact fun _=>rfl
 ·rw [subH_false (B:=fun i=>(Array.replicate os.size false).getD i false) _ _ fun s _=>h0 _]
  exact hJ _ _ (fun i _=>h0 i) hJ0 hA
end
end Go.Proofs.YtdcphpbimeoioaaGreatDoorE
end
section
set_option linter.unusedSectionVars false
namespace Go.Proofs.YtdcphpbimeoioaaGreatDoorE
open Go Go.RowKit Go.Shelf Go.Proofs
set_option linter.unusedVariables false
set_option linter.unusedSimpArgs false
set_option maxRecDepth 100000
abbrev PK:=Int×ByteArray
def eqK (a b:PK):Bool:=decide (a.1=b.1) && decide (a.2=b.2)
theorem eqK_iff {a b:PK}:eqK a b=true↔a=b:=by
 unfold eqK
 rw [Bool.and_eq_true,decide_eq_true_eq,decide_eq_true_eq,Prod.ext_iff]
def ekP (k:PK):Value := .agg (encT tRow_place (k.1,k.2,())).toArray
def evC (c:El tCell):Value := .agg (encT tCell c).toArray
def zCell:El tCell:=(0,(0,false,()),0,0,())
namespace RA
abbrev mt:TypeId:=155
abbrev kt:TypeId:=141
abbrev et:TypeId:=94
theorem zero_run (w:World):(zeroValue et).run Tryz.prog w = .ok (evC zCell) w:=by
 have h:(Tryz.prog.info? et).bind (·.zero)=some (evC zCell):=by kernel_rfl
 cases hi:Tryz.prog.info? et with
 | none=>rw [hi] at h;cases h
 | some i =>
  rw [hi] at h
  simp only [Option.bind_some] at h
  simp [zeroValue,run_typeInfo w hi,h]
noncomputable def fs:Array Field:=match Tryz.prog.underlying kt with|some (.struct fs)=>fs|_=>#[]
theorem und_kt:Tryz.prog.underlying kt=some (.struct fs):=by kernel_rfl
theorem fs_eq:fs.toList.map (fun f=>(f.name,f.type,f.offset))=[("window",2,0),("group",9,1)]:=by kernel_rfl
theorem fs_two:∃ f1 f2,fs.toList=[f1,f2]∧(f1.name ≠ "_"∧f1.type=2∧f1.offset=0)∧(f2.name ≠ "_"∧f2.type=9∧f2.offset=1):=by
 have h:=fs_eq
 generalize fs.toList=l at h
 rcases l with _|⟨f1,_|⟨f2,_|⟨f3,l⟩⟩⟩
 ·cases h
 ·simp at h
 ·simp only [List.map_cons,List.map_nil,List.cons.injEq,Prod.mk.injEq,and_true] at h
  obtain ⟨⟨a1,a2,a3⟩,b1,b2,b3⟩:=h
  exact ⟨f1,f2,rfl,⟨by rw [a1];decide,a2,a3⟩,by rw [b1];decide,b2,b3⟩
 ·simp at h
theorem u2:Tryz.prog.underlying 2=some (.int .i64):=by kernel_rfl
theorem u9:Tryz.prog.underlying 9=some .string:=by kernel_rfl
theorem p2:Tryz.prog.plainKey 2=true:=by kernel_rfl
theorem p9:Tryz.prog.plainKey 9=true:=by kernel_rfl
theorem stood:Tryz.prog.stoodInHeld kt=false:=by kernel_rfl
theorem part1 (w:World) (a b:Value):(Go.part 2 #[a,b] 0).run Tryz.prog w = .ok a w:=run_part_plain w p2 rfl
theorem part2 (w:World) (a b:Value):(Go.part 9 #[a,b] 1).run Tryz.prog w = .ok b w:=run_part_plain w p9 rfl
theorem chk_at (n:Nat) (e:Bool) (a:Int) (b:ByteArray) (w:World):(Instr.checkKey e (n+1+1) kt (.agg #[.int .i64 a, .string b])).run Tryz.prog w = .ok () w:=by
 obtain ⟨f1,f2,hl,⟨a1,a2,a3⟩,b1,b2,b3⟩:=fs_two
 have c1:(Instr.checkKey e (n+1) 2 (.int .i64 a)).run Tryz.prog w = .ok () w:=by simp [Instr.checkKey,run_underlying u2]
 have c2:(Instr.checkKey e (n+1) 9 (.string b)).run Tryz.prog w = .ok () w:=by simp [Instr.checkKey,run_underlying u9]
 rw [Instr.checkKey]
 simp only [Sem.run_bind,run_underlying und_kt,Result.andThen_ok]
 rw [← Array.forIn_toList,hl]
 simp only [List.forIn_cons,List.forIn_nil,Sem.run_bind,a1,a2,a3,b1,b2,b3,ne_eq,not_false_eq_true,if_true,Result.andThen_ok,part1,part2,c1,c2,Sem.run_pure]
theorem chk_run (e:Bool) (k:PK) (w:World):(Instr.checkKey e 10000 kt (ekP k)).run Tryz.prog w = .ok () w:=chk_at 9998 e k.1 k.2 w
theorem str_eqb (a b:ByteArray):(a.toList ==b.toList)=decide (a=b):=by
 rw [Bool.eq_iff_iff,decide_eq_true_eq,ByteArray.toList_eq,ByteArray.toList_eq]
 constructor
 ·intro h
  have h:=eq_of_beq h
  obtain ⟨⟨x⟩⟩:=a
  obtain ⟨⟨y⟩⟩:=b
  simp only at h
  rw [h]
 ·intro h;subst h;exact beq_self_eq_true _
theorem eq_at (n:Nat) (a a':Int) (b b':ByteArray) (w:World):(Op.equalIn (n+1+1) kt (.agg #[.int .i64 a, .string b]) (.agg #[.int .i64 a', .string b'])).run Tryz.prog w = .ok (decide (a=a') && decide (b=b')) w:=by
 obtain ⟨f1,f2,hl,⟨a1,a2,a3⟩,b1,b2,b3⟩:=fs_two
 have hf:Tryz.prog.fieldsOf kt=fs:=by unfold Program.fieldsOf;rw [und_kt]
 rw [run_equalIn_struct w _ _ _ _ (by rw [hf];exact und_kt) stood,hf,hl]
 have c1:=run_equalIn_int (P:=Tryz.prog) w n 2 .i64 .i64 a a' u2
 have c2:=run_equalIn_string (P:=Tryz.prog) w n 9 b b' u9
 have h1:(a ==a')=decide (a=a'):=by rw [Bool.eq_iff_iff,decide_eq_true_eq];exact beq_iff_eq
 rw [str_eqb] at c2
 rw [h1] at c1
 simp only [Op.eqFields,Sem.run_bind,a1,a2,a3,b1,b2,b3,ne_eq,not_false_eq_true,if_true,Result.andThen_ok,part1,part2,c1,Sem.run_ite,c2,Sem.run_pure]
 cases decide (a=a')<;>cases decide (b=b')<;>rfl
theorem eq_run (k k':PK) (w:World):(Op.equal kt (ekP k) (ekP k')).run Tryz.prog w = .ok (eqK k k') w:=eq_at 9998 k.1 k'.1 k.2 k'.2 w
theorem bits_at (n:Nat) (a:Int) (b:ByteArray):Instr.sameBits (n+1) (.agg #[.int .i64 a, .string b]) (.agg #[.int .i64 a, .string b])=true:=by
 have h:(b ==b)=true:=by rw [beq_toListBytes,str_eqb];simp
 simp [Instr.sameBits,h]
theorem mapTy:MapTy Tryz.prog mt kt et ekP evC eqK zCell where
 und:=by kernel_rfl
 kd:=⟨_,und_kt⟩
 chk e k w:=chk_run e k w
 eq k k' w:=eq_run k k' w
 bits k k' h:=by
  rw [eqK_iff] at h
  subst h
  exact bits_at 9999 k.1 k.2
 zero:=zero_run
end RA
end Go.Proofs.YtdcphpbimeoioaaGreatDoorE
end
section
set_option linter.unusedSectionVars false
namespace Go.Proofs.YtdcphpbimeoioaaGreatDoorE
open Go Go.RowKit Go.Shelf Go.Proofs
open Go.ChangeMaps (setBlock)
set_option linter.unusedVariables false
set_option linter.unusedSimpArgs false
set_option maxRecDepth 100000
theorem op_at {os:Array Oper} {i:Nat} {op:Op} {d:Option Nat} (h:(os[i]?).map (fun o=>(o.op,o.guard,o.dst))=some (op,none,d)):∃ o,os[i]?=some o∧o.op=op∧o.guard=none∧o.dst=d:=by
 cases ho:os[i]? with
 | none=>rw [ho] at h;cases h
 | some o =>
  rw [ho] at h
  simp only [Option.map_some,Option.some.injEq,Prod.mk.injEq] at h
  exact ⟨o,rfl,h.1,h.2.1,h.2.2⟩
theorem jmap {b:Nat} {m:List (PK×El tCell)}:JOk [b] (fun w=>HasMap ekP evC w b m):=fun w w' h hm=>hm.same (h b (by simp))
theorem jiter {b r:Nat} {m:List (PK×El tCell)}:JOk [r,b] (fun w=>HasIter ekP evC w b r m):=fun w w' h hm=>hm.same (h b (by simp)) (h r (by simp))
theorem val_agg {S:Nat→SL} {F:Nat→Prop} {w:World} {a b:Ty} (hfl:flatY (.pair a b)=true) {x:El (.pair a b)} {v:Value} (h:Val S F w (valPV (.pair a b) x) v):v = .agg (encT (.pair a b) x).toArray:=by
 cases h with
 | agg cs vs hl hv ho =>
  congr 1
  apply Array.ext_getElem?
  intro i
  cases hp:(cellsOf (.pair a b) x)[i]? with
  | none =>
   have h1:vs[i]?=none:=by rw [Array.getElem?_eq_none_iff,hl];exact List.getElem?_eq_none_iff.1 hp
   rw [h1]
   simp [encT,hp]
  | some p =>
   have hi:i<vs.size:=by rw [hl];exact (List.getElem?_eq_some_iff.1 hp).1
   have h1:=hv i p vs[i] hp (Array.getElem?_eq_getElem hi)
   have h2:=((flat_pv _ hfl x p (List.mem_of_getElem? hp)).2 S F w).2 _ h1
   rw [Array.getElem?_eq_getElem hi,h2]
   simp [encT,hp]
namespace RA
variable {n:Nat} {S S0:Nat→SL} {F F0:Nat→Prop} {w w0:World} {H0:Heap} {a:Act} {Q:Exit→Act→World→Prop} {bs:List Nat} {J:World→Prop}
theorem R5_eq:R5 = .region 5 (cOps R5) false:=by kernel_rfl
theorem R5_range:List.range (cOps R5).size=[0,1]:=by kernel_rfl
theorem r5 (hn:84<n) {s:SgEl sg2} (h:Mid n S0 F0 w0 H0 [2,4,5] sg2 [] [] J S F w a s)
  (k:∀ a',Mid n S0 F0 w0 H0 [2,4,5] sg2 [(6, .map (some w.heap.size))] [w.heap.size] (fun W=>HasMap ekP evC W w.heap.size ([]:List (PK×El tCell))) S F (w.alloc (.map #[] 0)) a' s→Q .normal a' (w.alloc (.map #[] 0))):R5.wp Tryz.prog Q a w:=by
 rw [R5_eq]
 refine wp_region ?_
 rw [R5_range]
 obtain ⟨o0,h0,p0,g0,d0⟩:=op_at (os:=cOps R5) (i:=0) (op := .makeMap mt none) (d:=some 21) (by kernel_rfl)
 obtain ⟨o1,h1,p1,g1,d1⟩:=op_at (os:=cOps R5) (i:=1) (op := .assign (.tmp 21)) (d:=some 6) (by kernel_rfl)
 refine raw_step h0 g0 (v := .map (some w.heap.size)) (w':=w.alloc (.map #[] 0)) (by unfold execOp;rw [p0];simp [Instr.makeMap,Result.andThen]) ?_
 refine raw_step h1 g1 (v := .map (some w.heap.size)) (w':=w.alloc (.map #[] 0)) (by unfold execOp;rw [p1,d0];simp only;rw [eval_put_same (by rw [h.sta.size];omega)];rfl) ?_
 rw [d0,d1]
 refine k _ ?_
 have g:=(h.alloc (.map #[] 0) (J':=fun W=>HasMap ekP evC W w.heap.size ([]:List (PK×El tCell))) (HasMap.made w))
 exact g.more ((g.sta.put _ (by decide) (by decide)).putu (t:=6) _ (by decide) (by decide) (by omega))
noncomputable abbrev nA:Nat:=sizeF Tryz.prog fA
theorem nA_big:84<nA:=by
 have h:Nat.blt 84 nA=true:=by kernel_rfl
 exact Nat.le_of_ble_eq_true h
theorem hM:Tryz.prog.follows .mixedOrders=true:=by kernel_rfl
def raw12 (pv:PV):List (Nat×PAct):=[(4, .raw pv [.t 55, .t 56]),(9, .raw (.tup []) [.t 53, .t 54, .t 61])]
abbrev keyOf4 (s:SgEl sg4):PK:=(s.2.2.2.2.2.2.1.1,s.2.2.2.2.2.2.1.2.1)
abbrev next4 (s:SgEl sg4):SgEl sg3:=(s.1,s.2.1,s.2.2.1,s.2.2.2.1,s.2.2.2.2.1,())
def K12 (E:Env) (H:Heap):Option ((SgEl sg3×List PV)×List PV) :=
 (enter 0 [2,4,22,23,24] [] [] false E H fun vs H=>(decIn sg3 vs H).map fun x=>(x,[get E 6])).map fun y=>(y,[get E 53,get E 54,get E 55,get E 56,get E 61])
theorem ev12 (n':Nat) (v:Value) (c:El tCell) (s:SgEl sg4) :
  opsD (specO [cell_Merge_ent n'] []) (heapOf sg4 s).length [] (number 0 (setRaw (raw12 (valPV tCell c)) 0 ((cOps R12).toList.map (opOf Tryz.prog (cOps R12))))) (envOf [2,4,22,23,24,8,11] sg4 [(6,v)] s) (heapOf sg4 s) K12 =
  bindN (cell_Merge n' ([c,s.2.2.2.2.2.1.2.2.1],())) fun p1=>some ((next4 s,[.raw v]),[.raw v,valPV tRow_place s.2.2.2.2.2.2.1, .raw v,valPV tRow_place s.2.2.2.2.2.2.1,valPV tCell p1.1.1]):=by kernel_rfl
theorem R12_eq:R12 = .region 12 (cOps R12) true:=by kernel_rfl
theorem R12_dst:((cOps R12).toList.map (opOf Tryz.prog (cOps R12))).all (dstIn nA)=true:=by kernel_rfl
theorem R12_after:((cOps R12)[9]?).map (fun o=>memN 4 (opOf Tryz.prog (cOps R12) o).after)=some true:=by kernel_rfl
theorem lk12 {pv x:PV} {vs:List Arg} {i:Nat} (h:lk (raw12 pv) i=some (.raw x vs)):(i=4∧x=pv∧vs=[.t 55, .t 56])∨(i=9∧x = .tup []∧vs=[.t 53, .t 54, .t 61]):=by
 unfold raw12 lk at h
 cases h4:Nat.beq 4 i with
 | true=>rw [h4] at h;cases h;exact .inl ⟨(Nat.eq_of_beq_eq_true h4).symm,rfl,rfl⟩
 | false =>
  rw [h4,cond_false] at h
  unfold lk at h
  cases h9:Nat.beq 9 i with
  | true=>rw [h9] at h;cases h;exact .inr ⟨(Nat.eq_of_beq_eq_true h9).symm,rfl,rfl⟩
  | false=>rw [h9] at h;cases h
theorem r12 {n' b:Nat} {m:List (PK×El tCell)} {c':El tCell} {s:SgEl sg4} (hT:EntOk Tryz.prog (cell_Merge_ent n'))
  (h:Mid nA S0 F0 w0 H0 [2,4,22,23,24,8,11] sg4 [(6, .map (some b))] [b] (fun W=>HasMap ekP evC W b m) S F w a s)
  (hm:cell_Merge n' ([mget eqK (keyOf4 s) zCell m,s.2.2.2.2.2.1.2.2.1],())=some ((c',()),((),())))
  (k:∀ S' F' w' a',Mid nA S0 F0 w0 H0 [2,4,22,23,24] sg3 [(6, .map (some b))] [b] (fun W=>HasMap ekP evC W b (mput eqK (keyOf4 s) c' m)) S' F' w' a' (next4 s)→Q .normal a' w'):R12.wp Tryz.prog Q a w:=by
 rw [R12_eq]
 have hev:=ev12 n' (.map (some b)) (mget eqK (keyOf4 s) zCell m) s
 rw [hm] at hev
 simp only [bindN,Option.bind_some] at hev
 have hO:OrcOk Tryz.prog (specO [cell_Merge_ent n'] []):=orc_table (by intro x hx;simp only [List.mem_singleton] at hx;subst hx;exact hT) []
 refine region_raw hM hO (l:=raw12 (valPV tCell (mget eqK (keyOf4 s) zCell m))) (fun i x hx=>?_) (fun i o ho hi=>?_) R12_dst hev h.sta.rel h.sta.at'
  (J:=fun A S F w H=>AdvM 0 S0 F0 w0 H0 S F w H∧Frn S F w H b∧(A 9=true→A 4=true)∧HasMap ekP evC w b (bif A 9 then mput eqK (keyOf4 s) c' m else m))
  (fun A A' S F w H S' F' w' H' hAA hj hAd=>?_) ⟨h.adv,(h.frn b (by simp)).1,fun hh=>Bool.noConfusion hh,h.keep⟩ (fun Ef Hf hK i v vs o ho hlk A B S1 F1 w1 H1 E1 a1 hAi hAft hBi hBo hr ha hus hj=>?_) (fun S' F' w' E' a' H' A hK hAr hr ha hj=>?_)
 ·unfold raw12 lk at hx
  cases h4:Nat.beq 4 i with
  | true=>rw [h4] at hx;cases hx;exact ⟨_,_,rfl⟩
  | false =>
   rw [h4,cond_false] at hx
   unfold lk at hx
   cases h9:Nat.beq 9 i with
   | true=>rw [h9] at hx;cases hx;exact ⟨_,_,rfl⟩
   | false=>rw [h9] at hx;cases hx
 ·have hall:(cOps R12).toList.all (fun o=>o.guard.isNone)=true:=by kernel_rfl
  have:=List.all_eq_true.1 hall o (by simpa using Array.mem_of_getElem? ho)
  cases hg:o.guard with
  | none=>rfl
  | some g=>rw [hg] at this;cases this
 ·obtain ⟨j1,j2,j3,j4⟩:=hj
  have e4:=hAA 4 rfl
  have e9:=hAA 9 rfl
  refine ⟨j1.trans hAd.toM,j2.adv (m:=0) hAd.toM,by rw [e4,e9];exact j3,by rw [e9];exact j4.same (j2.same (m:=0) hAd.toM)⟩
 ·obtain ⟨j1,j2,j3,j4⟩:=hj
  unfold K12 at hK
  obtain ⟨y,hy,hyr⟩:=Option.map_eq_some_iff.1 hK
  simp only [Prod.mk.injEq,List.cons.injEq,and_true] at hyr
  obtain ⟨_,q53,q54,q55,q56,q61⟩:=hyr
  rcases lk12 hlk with ⟨rfl,rfl,rfl⟩|⟨rfl,rfl,rfl⟩
  ·obtain ⟨o4,ho4,p4,g4,d4⟩:=op_at (os:=cOps R12) (i:=4) (op := .lookup mt (.tmp 55) (.tmp 56) false) (d:=some 57) (by kernel_rfl)
   rw [ho] at ho4;cases ho4
   have u55:=hus 55 (show 55∈[55,56] by decide) (by kernel_rfl)
   have u56:=hus 56 (show 56∈[55,56] by decide) (by kernel_rfl)
   have v55:=ha.opd.tmp 55
   have v56:=ha.opd.tmp 56
   rw [u55,q55] at v55
   rw [u56,q56] at v56
   have e55:=val_raw v55
   have e56:=val_agg (by rfl) v56
   have h9:A 9=false:=by
    cases hc:A 9 with
    | false=>rfl
    | true=>rw [j3 hc] at hAi;cases hAi
   rw [h9] at j4
   have hl:=lookup_run mapTy j4 (keyOf4 s)
   have hB9:B 9=false:=(hBo 9 (by decide)).trans h9
   refine ⟨evC (mget eqK (keyOf4 s) zCell m),w1,fun K hK=>?_,enc_val (by rfl) _,⟨Nat.le_refl _,fun _ _ _=>rfl,rfl,rfl,rfl,fun _=>Nat.le_refl _⟩,j1,j2,fun hh=>Bool.noConfusion (hB9.symm.trans hh),by rw [hB9];exact j4⟩
   unfold Oper.wp execOp
   rw [p4]
   simp only
   rw [e55,e56]
   have:(Instr.lookup mt (.map (some b)) (.agg (encT tRow_place s.2.2.2.2.2.2.1).toArray) false).run Tryz.prog w1 = .ok (evC (mget eqK (keyOf4 s) zCell m)) w1:=hl
   rw [Sem.run_bind,this]
   exact hK
  ·obtain ⟨o9,ho9,p9,g9,d9⟩:=op_at (os:=cOps R12) (i:=9) (op := .mapUpdate mt (.tmp 53) (.tmp 54) (.tmp 61)) (d:=none) (by kernel_rfl)
   rw [ho] at ho9;cases ho9
   have v53:=ha.opd.tmp 53
   have v54:=ha.opd.tmp 54
   have v61:=ha.opd.tmp 61
   rw [hus 53 (show 53∈[53,54,61] by decide) (by kernel_rfl),q53] at v53
   rw [hus 54 (show 54∈[53,54,61] by decide) (by kernel_rfl),q54] at v54
   rw [hus 61 (show 61∈[53,54,61] by decide) (by kernel_rfl),q61] at v61
   have e53:=val_raw v53
   have e54:=val_agg (by rfl) v54
   have e61:=val_agg (by rfl) v61
   have h4:A 4=true:=by
    have:=R12_after
    rw [ho] at this
    simp only [Option.map_some,Option.some.injEq] at this
    exact hAft 4 (memN_iff.1 this)
   rw [hAi] at j4
   obtain ⟨ob,hu1,hu2⟩:=update_run mapTy j4 (keyOf4 s) c'
   have hOff:=off_set j2 ob
   refine ⟨undef,setBlock w1 b ob,fun K hK=>?_, .tup _ #[] rfl (fun i p v hp=>by simp at hp),hOff,hOff.adv j1 fun k hk=>?_,j2.grow hOff.sz,fun _=>(hBo 4 (by decide)).trans h4,by rw [hBi];exact hu2⟩
   ·unfold Oper.wp execOp
    rw [p9]
    simp only
    rw [e53,e54,e61]
    have:(Instr.mapUpdate mt (.map (some b)) (.agg (encT tRow_place s.2.2.2.2.2.2.1).toArray) (.agg (encT tCell c').toArray)).run Tryz.prog w1 = .ok () (setBlock w1 b ob):=hu1
    rw [Sem.run_bind,this]
    exact hK
   ·have:b≠k:=by have:=(h.frn b (by simp)).2;omega
    simp [setBlock,Array.getElem?_setIfInBounds,this]
 ·obtain ⟨j1,j2,j3,j4⟩:=hj
  unfold K12 at hK
  obtain ⟨y,hy,hyr⟩:=Option.map_eq_some_iff.1 hK
  simp only [Prod.mk.injEq] at hyr
  obtain ⟨rfl,_⟩:=hyr
  have hy2:(enter 0 [2,4,22,23,24] [] [] false E' H' fun vs H=>(decIn sg3 vs H).map fun x=>(x,([(6,Value.map (some b))]:List (Nat×Value)).map fun u=>get E' u.1))=some (next4 s,([(6,Value.map (some b))]:List (Nat×Value)).map fun u=>PV.raw u.2):=hy
  obtain ⟨S2,F2,k1,k2⟩:=sta_of hr ha hy2
  have h9:A 9=true:=hAr 9 rfl (by
   have:Nat.blt 9 (cOps R12).size=true:=by kernel_rfl
   exact Nat.le_of_ble_eq_true this)
  rw [h9] at j4
  exact k _ _ _ _ ⟨k1,fun c hc=>by
   simp only [List.mem_singleton] at hc
   subst hc
   exact ⟨j2.adv k2,(h.frn _ (by simp)).2⟩,j1.trans k2,j4.same (j2.same k2)⟩
end RA
end Go.Proofs.YtdcphpbimeoioaaGreatDoorE
end
section
set_option linter.unusedSectionVars false
namespace Go.Proofs.YtdcphpbimeoioaaGreatDoorE
open Go Go.RowKit Go.Shelf Go.Proofs
open Go.ChangeMaps (setBlock)
set_option linter.unusedVariables false
set_option linter.unusedSimpArgs false
set_option maxRecDepth 100000
namespace RA
variable {S S0:Nat→SL} {F F0:Nat→Prop} {w w0:World} {H0:Heap} {a:Act} {Q:Exit→Act→World→Prop} {b r:Nat} {m left:List (PK×El tCell)} {s:SgEl sgE}
abbrev itv (r:Nat):Value := .pointer (some ⟨r,0,none⟩)
theorem R14_eq:R14 = .region 14 (cOps R14) false:=by kernel_rfl
theorem R14_range:List.range (cOps R14).size=[0,1]:=by kernel_rfl
theorem r14 (h:Mid nA S0 F0 w0 H0 [2,4] sgE [(6, .map (some b))] [b] (fun W=>HasMap ekP evC W b m) S F w a s)
  (k:∀ r w' a',Mid nA S0 F0 w0 H0 [2,4] sgE [(64,itv r)] [r,b] (fun W=>HasIter ekP evC W b r m) S F w' a' s→Q .normal a' w'):R14.wp Tryz.prog Q a w:=by
 rw [R14_eq]
 refine wp_region ?_
 rw [R14_range]
 have hn:=nA_big
 obtain ⟨o0,h0,p0,g0,d0⟩:=op_at (os:=cOps R14) (i:=0) (op := .move (.tmp 6)) (d:=some 63) (by kernel_rfl)
 obtain ⟨o1,h1,p1,g1,d1⟩:=op_at (os:=cOps R14) (i:=1) (op := .range mt (.tmp 63)) (d:=some 64) (by kernel_rfl)
 have e6:=h.sta.raw (6, .map (some b)) (by simp)
 refine raw_step h0 g0 (v := .map (some b)) (w':=w) (by unfold execOp;rw [p0];simp only;rw [e6];rfl) ?_
 obtain ⟨q,c1,c2⟩:=range_run (P:=Tryz.prog) mapTy h.keep
 refine raw_step h1 g1 (v:=itv w.heap.size) (w':=w.alloc (.mapIter (some b) q #[] q)) (by unfold execOp;rw [p1,d0];simp only;rw [eval_put_same (by rw [h.sta.size];omega),Sem.run_bind,c1];rfl) ?_
 rw [d0,d1]
 refine k w.heap.size _ _ ?_
 have g:=h.alloc (.mapIter (some b) q #[] q) (J':=fun W=>HasIter ekP evC W b w.heap.size m) c2
 exact g.more (((g.sta.put _ (by decide) (by simp)).putu (t:=64) _ (by decide) (by simp) (by omega)).less (by simp))
theorem R15_eq:R15 = .region 15 (cOps R15) false:=by kernel_rfl
theorem R15_range:List.range (cOps R15).size=[0,1]:=by kernel_rfl
theorem K15_eq:K15 = .cond (.tmp 66) .skip (.exit 2):=by kernel_rfl
theorem r15 {y:Code} (h:Mid nA S0 F0 w0 H0 [2,4] sgE [(64,itv r)] [r,b] (fun W=>HasIter ekP evC W b r left) S F w a s)
  (k0:left=[]→∀ a',Mid nA S0 F0 w0 H0 [2,4] sgE [(64,itv r)] [r,b] (fun W=>HasIter ekP evC W b r left) S F w a' s→Q (.exit 2) a' w)
  (k1:∀ j p w1 a1,left[j]?=some p→Mid nA S0 F0 w0 H0 [2,4] sgE [(64,itv r)] [r,b] (fun W=>HasIter ekP evC W b r (left.eraseIdx j)) S F w1 a1 s→(Instr.entry (itv r)).run Tryz.prog w1 = .ok (.tuple #[ekP p.1,evC p.2]) w1→y.wp Tryz.prog Q a1 w1) :
  (Code.seq R15 (.seq K15 y)).wp Tryz.prog Q a w:=by
 refine wp_seq ?_
 rw [R15_eq]
 refine wp_region ?_
 rw [R15_range]
 have hn:=nA_big
 obtain ⟨o0,h0,p0,g0,d0⟩:=op_at (os:=cOps R15) (i:=0) (op := .next (.tmp 64) false) (d:=some 65) (by kernel_rfl)
 obtain ⟨o1,h1,p1,g1,d1⟩:=op_at (os:=cOps R15) (i:=1) (op := .extract (.tmp 65) 0) (d:=some 66) (by kernel_rfl)
 have e64:=h.sta.raw (64,itv r) (by simp)
 have hbr:b≠r:=h.keep.lt.2.2
 have fin:∀ (t:Bool) (a2:Act) (w2:World) {Q':Exit→Act→World→Prop},a2.eval (.tmp 66) = .bool t→(if t then (Code.skip).wp Tryz.prog Q' a2 w2 else (Code.exit 2).wp Tryz.prog Q' a2 w2)→K15.wp Tryz.prog Q' a2 w2:=fun t a2 w2 Q' he hk=>by
  rw [K15_eq]
  refine wp_cond he ?_
  cases t<;>exact hk
 rcases next_run (P:=Tryz.prog) h.keep o0.type with ⟨hl,c1⟩|⟨j,p,w1,o,hj,hal,c1,c2,c3⟩
 ·refine raw_step h0 g0 (v := .tuple #[.bool false]) (w':=w) (by unfold execOp;rw [p0];simp only;rw [e64,Sem.run_bind,c1];rfl) ?_
  refine raw_step h1 g1 (v := .bool false) (w':=w) (by unfold execOp;rw [p1,d0];simp only;rw [eval_put_same (by rw [h.sta.size];omega)];simp [Instr.extract]) ?_
  rw [d0,d1]
  refine wp_seq (fin false _ _ (eval_put_same (by simp [Act.put,h.sta.size];omega) _) ?_)
  refine wp_exit ?_
  refine k0 hl _ ?_
  exact h.more ((h.sta.put _ (by decide) (by simp)).put _ (by decide) (by simp))
 ·refine raw_step h0 g0 (v := .tuple #[.bool true,ekP p.1,evC p.2]) (w':=setBlock w1 r o) (by unfold execOp;rw [p0];simp only;rw [e64,Sem.run_bind,c1];rfl) ?_
  refine raw_step h1 g1 (v := .bool true) (w':=setBlock w1 r o) (by unfold execOp;rw [p1,d0];simp only;rw [eval_put_same (by rw [h.sta.size];omega)];simp [Instr.extract]) ?_
  rw [d0,d1]
  refine wp_seq (fin true _ _ (eval_put_same (by simp [Act.put,h.sta.size];omega) _) ?_)
  refine wp_skip ?_
  have g:Mid nA S0 F0 w0 H0 [2,4] sgE [(64,itv r)] [r,b] (fun W=>HasIter ekP evC W b r (left.eraseIdx j)) S F (setBlock w1 r o) a s:=by
   rcases hal with rfl|rfl
   ·exact h.set (J':=fun W=>HasIter ekP evC W b r (left.eraseIdx j)) (by simp) o c2
   ·exact (h.drew (J':=fun _=>True) trivial).set (J':=fun W=>HasIter ekP evC W b r (left.eraseIdx j)) (by simp) o c2
  exact k1 j p _ _ hj (g.more ((g.sta.put _ (by decide) (by simp)).put _ (by decide) (by simp))) c3
theorem R16_eq:R16 = .region 16 (cOps R16) false:=by kernel_rfl
theorem R16_range:List.range (cOps R16).size=0 ::1 ::2 ::((number 0 ((cOps R16).toList.map (opOf Tryz.prog (cOps R16)))).drop 3).map (·.1):=by kernel_rfl
theorem R16_dst:((cOps R16).toList.map (opOf Tryz.prog (cOps R16))).all (dstIn nA)=true:=by kernel_rfl
theorem ev16 (v:Value) (pl:El tRow_place) (c:El tCell) (s:SgEl sgE) :
  ops (specO [] []) (heapOf sgE s).length ((number 0 ((cOps R16).toList.map (opOf Tryz.prog (cOps R16)))).drop 3) ([(68,valPV tRow_place pl),(69,valPV tCell c)]++envOf [2,4] sgE [(64,v)] s) (heapOf sgE s)
   (fun E H=>enter 0 [2,4,12,13] [] [] false E H fun vs H=>(decIn sg5 vs H).map fun x=>(x,([(64,v)]:List (Nat×Value)).map fun u=>get E u.1))=some (((s.1,s.2.1,pl,c,()):SgEl sg5),([(64,v)]:List (Nat×Value)).map fun u=>PV.raw u.2):=by kernel_rfl
theorem r16 {p:PK×El tCell} (h:Mid nA S0 F0 w0 H0 [2,4] sgE [(64,itv r)] [r,b] (fun W=>HasIter ekP evC W b r left) S F w a s) (he:(Instr.entry (itv r)).run Tryz.prog w = .ok (.tuple #[ekP p.1,evC p.2]) w)
  (k:∀ S' F' w' a',Mid nA S0 F0 w0 H0 [2,4,12,13] sg5 [(64,itv r)] [r,b] (fun W=>HasIter ekP evC W b r left) S' F' w' a' (s.1,s.2.1,(p.1.1,p.1.2,()),p.2,())→Q .normal a' w'):R16.wp Tryz.prog Q a w:=by
 rw [R16_eq]
 refine wp_region ?_
 rw [R16_range]
 have hn:=nA_big
 obtain ⟨o0,h0,p0,g0,d0⟩:=op_at (os:=cOps R16) (i:=0) (op := .entry (.tmp 64)) (d:=some 67) (by kernel_rfl)
 obtain ⟨o1,h1,p1,g1,d1⟩:=op_at (os:=cOps R16) (i:=1) (op := .extract (.tmp 67) 0) (d:=some 68) (by kernel_rfl)
 obtain ⟨o2,h2,p2,g2,d2⟩:=op_at (os:=cOps R16) (i:=2) (op := .extract (.tmp 67) 1) (d:=some 69) (by kernel_rfl)
 have e64:=h.sta.raw (64,itv r) (by simp)
 have ne:∀ {a:Act} {t u:Nat} {v:Value},t≠u→(a.put (some t) v).eval (.tmp u)=a.eval (.tmp u):=fun {a t u v} hne=>Act.eval_put (fun d' hd' e'=>by cases hd';cases e';exact hne rfl)
 refine raw_step h0 g0 (v := .tuple #[ekP p.1,evC p.2]) (w':=w) (by unfold execOp;rw [p0];simp only;rw [e64,Sem.run_bind,he];rfl) ?_
 refine raw_step h1 g1 (v:=ekP p.1) (w':=w) (by unfold execOp;rw [p1,d0];simp only;rw [eval_put_same (by rw [h.sta.size];omega)];simp [Instr.extract]) ?_
 refine raw_step h2 g2 (v:=evC p.2) (w':=w) (by unfold execOp;rw [p2,d0,d1];simp only;rw [ne (by decide),eval_put_same (by rw [h.sta.size];omega)];simp [Instr.extract]) ?_
 rw [d0,d1,d2]
 have hsz:∀ (t:Nat) (v:Value) (a:Act),(a.put (some t) v).tmps.size=a.tmps.size:=fun t v a=>by simp [Act.put]
 have g:=h.more (((h.sta.put (t:=67) (.tuple #[ekP p.1,evC p.2]) (by decide) (by simp)).put (t:=68) (ekP p.1) (by decide) (by simp)).put (t:=69) (evC p.2) (by decide) (by simp))
 have hx:∀ x∈[(68,valPV tRow_place (p.1.1,p.1.2,())),(69,valPV tCell p.2)],Val S F w x.2 ((((a.put (some 67) (.tuple #[ekP p.1,evC p.2])).put (some 68) (ekP p.1)).put (some 69) (evC p.2)).eval (.tmp x.1)):=by
  intro x hx
  simp only [List.mem_cons,List.not_mem_nil,or_false] at hx
  rcases hx with rfl|rfl
  ·show Val S F w _ (Act.eval _ (.tmp 68))
   rw [ne (t:=69) (u:=68) (by decide),eval_put_same (by rw [hsz,h.sta.size];omega)]
   exact enc_val (by rfl) _
  ·show Val S F w _ (Act.eval _ (.tmp 69))
   rw [eval_put_same (by rw [hsz,hsz,h.sta.size];omega)]
   exact enc_val (by rfl) _
 exact g.ops (T:=[]) (fun x hx=>by cases hx) (fun x hx=>region_isOp R16_dst x (List.mem_of_mem_drop hx)) jiter hx (ev16 (itv r) (p.1.1,p.1.2,()) p.2 s) k
end RA
end Go.Proofs.YtdcphpbimeoioaaGreatDoorE
end
section
set_option linter.unusedSectionVars false
namespace Go.Proofs.YtdcphpbimeoioaaGreatDoorE
open Go Go.RowKit Go.Shelf Go.Proofs
set_option linter.unusedVariables false
set_option linter.unusedSimpArgs false
set_option maxRecDepth 100000
theorem perm_uniq {α:Type} {lt:α→α→Bool}:∀ {a b:List α},a.Pairwise (fun x y=>lt x y=true∧lt y x=false)→b.Pairwise (fun x y=>lt y x=false)→a.Perm b→a=b
 | [],b,_,_,hp=>by rw [List.nil_perm.1 hp]
 | x ::a,[],_,_,hp=>by have:=hp.length_eq;simp at this
 | x ::a,y ::b,ha,hb,hp=>by
  rw [List.pairwise_cons] at ha hb
  have hxy:x=y:=by
   rcases List.mem_cons.1 (hp.mem_iff.1 List.mem_cons_self) with h|h
   ·exact h
   ·rcases List.mem_cons.1 (hp.mem_iff.2 (List.mem_cons_self (a:=y))) with h2|h2
    ·exact h2.symm
    ·have h3:=hb.1 x h
     have h4:=(ha.1 y h2).1
     rw [h3] at h4;cases h4
  subst hxy
  rw [perm_uniq ha.2 hb.2 (List.Perm.cons_inv hp)]
theorem sortRow_spec (l:List (El tRow)):(sl_SortRow_sorted l).Perm l∧(sl_SortRow_sorted l).Pairwise (fun a b=>ltOf cfRow b a=false):=by
 have h:=Go.Sort.pdq_sorts (ltOf sl_SortRow_cf) sl_SortRow_swo l.toArray 0 l.toArray.size (Lib.bitLen l.toArray.size) true true (Nat.zero_le _) (Nat.le_refl _) (.inl rfl)
 unfold sl_SortRow_sorted
 generalize Go.Sort.pdq (ltOf sl_SortRow_cf) l.toArray 0 l.toArray.size (Lib.bitLen l.toArray.size) true true=q at h
 obtain ⟨⟨h1,h2,h3⟩,h4⟩:=h
 constructor
 ·have e1:q.extract 0 l.toArray.size=q:=by rw [← h1];simp
  have e2:l.toArray.extract 0 l.toArray.size=l.toArray:=by simp
  rw [e1,e2] at h3;simpa using h3
 ·rw [List.pairwise_iff_getElem]
  intro i j hi hj hij
  have hi':i<q.size:=by simpa using hi
  have hj':j<q.size:=by simpa using hj
  have:=h4 i j (Nat.zero_le _) hij (by rw [← h1];exact hj')
  rw [getElem!_pos q j hj',getElem!_pos q i hi'] at this
  simp only [Array.getElem_toList]
  exact this
theorem sortRow_strict {l:List (El tRow)} (hn:(l.map fun r=>(r.1,r.2.1)).Nodup):(sl_SortRow_sorted l).Pairwise (fun a b=>ltOf cfRow a b=true∧ltOf cfRow b a=false):=by
 obtain ⟨h1,h2⟩:=sortRow_spec l
 have hn2:((sl_SortRow_sorted l).map fun r=>(r.1,r.2.1)).Nodup:=(h1.map _).nodup_iff.2 hn
 rw [List.Nodup,List.pairwise_map] at hn2
 refine (h2.and hn2).imp fun {a b} hab=>⟨?_,hab.1⟩
 have h3:=hab.1
 rw [ltRow] at h3 ⊢
 simp only [Bool.or_eq_true,Bool.and_eq_true,decide_eq_true_eq,Bool.or_eq_false_iff,Bool.and_eq_false_iff,decide_eq_false_iff_not] at h3 ⊢
 by_cases e:a.1=b.1
 ·have hne:a.2.1.data.toList≠b.2.1.data.toList:=fun h=>hab.2 (Prod.ext e (by
   have:∀ x y:ByteArray,x.data.toList=y.data.toList→x=y:=fun x y hxy=>by
    obtain ⟨⟨x⟩⟩:=x;obtain ⟨⟨y⟩⟩:=y;simp only at hxy;rw [hxy]
   exact this _ _ h))
  rcases bl_total _ _ hne with g|g
  ·exact .inr ⟨e,g⟩
  ·rcases h3.2 with h|h
   ·exact absurd e.symm h
   ·rw [g] at h;cases h
 ·rcases Int.lt_or_lt_of_ne e with g|g
  ·exact .inl g
  ·exact absurd g h3.1
theorem sortRow_perm {a b:List (El tRow)} (h:a.Perm b) (hn:(b.map fun r=>(r.1,r.2.1)).Nodup):sl_SortRow_sorted a=sl_SortRow_sorted b :=
 (perm_uniq (sortRow_strict hn) (sortRow_spec a).2 ((sortRow_spec b).1.trans (h.symm.trans (sortRow_spec a).1.symm))).symm
theorem mput_keys (k:PK) (v:El tCell):∀ m:List (PK×El tCell),(m.map (·.1)).Nodup→((mput eqK k v m).map (·.1)).Nodup∧∀ x∈(mput eqK k v m).map (·.1),x=k∨x∈m.map (·.1)
 | [],_=>⟨by simp [mput],by simp [mput]⟩
 | p ::r,h=>by
  rw [List.map_cons,List.nodup_cons] at h
  obtain ⟨h1,h2⟩:=h
  obtain ⟨g1,g2⟩:=mput_keys k v r h2
  rw [mput]
  cases he:eqK k p.1 with
  | true =>
   rw [eqK_iff] at he
   subst he
   exact ⟨by simp only [cond_true,List.map_cons,List.nodup_cons];exact ⟨h1,h2⟩,fun x hx=>by simpa using hx⟩
  | false =>
   have hne:p.1≠k:=fun e=>by rw [e,eqK_iff.2 rfl] at he;cases he
   refine ⟨by
    simp only [cond_false,List.map_cons,List.nodup_cons]
    exact ⟨fun hx=>by rcases g2 _ hx with e|e;exact hne e;exact h1 e,g1⟩,fun x hx=>?_⟩
   simp only [cond_false,List.map_cons,List.mem_cons] at hx ⊢
   rcases hx with e|e
   ·exact .inr (.inl e)
   ·rcases g2 x e with e|e
    ·exact .inl e
    ·exact .inr (.inr e)
def stepA (n:Nat) (q:El tQuery) (x:El tItem) (m:List (PK×El tCell)):Option (List (PK×El tCell)) :=
 bindN (row_series n (x.2.1,())) fun p2 =>
 bif !p2.1.2.1 then some m else
 bindN (cell_Empty n x.2.2) fun p3 =>
 bif p3.1.1 then some m else
 bindN (query_Fits n (q,p2.1.1,())) fun p4 =>
 bif !p4.1.1 then some m else
 bindN (query_Group n (q,p2.1.1,())) fun p5 =>
 bindN (cell_Merge n ([mget eqK (x.1,p5.1.1) zCell m,x.2.2.1],())) fun p6 =>
 some (mput eqK (x.1,p5.1.1) p6.1.1 m)
def runA (n:Nat) (q:El tQuery):List (El tItem)→List (PK×El tCell)→Option (List (PK×El tCell))
 | [],m=>some m
 | x ::r,m=>bindN (stepA n q x m) fun m'=>runA n q r m'
def rowA (n:Nat) (q:El tQuery) (e:PK×El tCell):Option (El tRow):=bindN (cell_Value n (e.2,q.1,())) fun p1=>some (e.1.1,e.1.2,p1.1)
def rowsA (n:Nat) (q:El tQuery):List (PK×El tCell)→Option (List (El tRow))
 | []=>some []
 | e ::r=>bindN (rowA n q e) fun x=>bindN (rowsA n q r) fun l=>some (x ::l)
abbrev row_Answer_sg:List Sg:=[.tree tQuery, .tree (.slice tItem)]
abbrev row_Answer_rs:List Rt:=[.own tRow]
def row_Answer (n:Nat) (x:SgEl row_Answer_sg):Option (RtEl row_Answer_rs×OutEl row_Answer_sg) :=
 bindN (query_Right n (x.1,())) fun p1 =>
 bif !p1.1.1 then some (([],()),((),((),()))) else
 bindN (sl_CloneItem n (x.2.1,())) fun p2 =>
 bindN (sl_StableItem n (p2.1.1,(),())) fun p3 =>
 bif Nat.ble p3.2.1.length 1000000 then
 bindN (runA n x.1 p3.2.1 []) fun m =>
 bindN (rowsA n x.1 m) fun rows =>
 bif Nat.ble rows.length 1000000 then some ((sl_SortRow_sorted rows,()),((),((),()))) else none else none
abbrev row_Answer_ent (n:Nat):Ent:=⟨59,row_Answer_sg,row_Answer_rs,row_Answer n⟩
theorem stepA_keys {n:Nat} {q:El tQuery} {x:El tItem} {m m':List (PK×El tCell)} (h:stepA n q x m=some m') (hn:(m.map (·.1)).Nodup):(m'.map (·.1)).Nodup:=by
 unfold stepA at h
 obtain ⟨p2,h2,h⟩:=bindN_some h
 cases c2:p2.1.2.1 with
 | false=>rw [c2] at h;cases h;exact hn
 | true =>
  rw [c2] at h
  obtain ⟨p3,h3,h⟩:=bindN_some h
  cases c3:p3.1.1 with
  | true=>rw [c3] at h;cases h;exact hn
  | false =>
   rw [c3] at h
   obtain ⟨p4,h4,h⟩:=bindN_some h
   cases c4:p4.1.1 with
   | false=>rw [c4] at h;cases h;exact hn
   | true =>
    rw [c4] at h
    obtain ⟨p5,h5,h⟩:=bindN_some h
    obtain ⟨p6,h6,h⟩:=bindN_some h
    cases h
    exact (mput_keys _ _ _ hn).1
theorem runA_keys {n:Nat} {q:El tQuery}:∀ {l:List (El tItem)} {m m':List (PK×El tCell)},runA n q l m=some m'→(m.map (·.1)).Nodup→(m'.map (·.1)).Nodup
 | [],m,m',h,hn=>by cases h;exact hn
 | x ::r,m,m',h,hn=>by
  obtain ⟨m1,h1,h2⟩:=bindN_some h
  exact runA_keys h2 (stepA_keys h1 hn)
theorem rowsA_each {n:Nat} {q:El tQuery}:∀ {m:List (PK×El tCell)} {rows:List (El tRow)},rowsA n q m=some rows→(∀ e∈m,∃ r,rowA n q e=some r)∧rows=m.map fun e=>(rowA n q e).getD default
 | [],rows,h=>by cases h;exact ⟨by simp,rfl⟩
 | e ::m,rows,h=>by
  obtain ⟨x,h1,h⟩:=bindN_some h
  obtain ⟨l,h2,h⟩:=bindN_some h
  cases h
  obtain ⟨g1,g2⟩:=rowsA_each h2
  refine ⟨fun y hy=>?_,?_⟩
  ·rcases List.mem_cons.1 hy with rfl|hy
   ·exact ⟨x,h1⟩
   ·exact g1 y hy
  ·rw [List.map_cons,h1,g2];rfl
theorem rowA_place {n:Nat} {q:El tQuery} {e:PK×El tCell} {r:El tRow} (h:rowA n q e=some r):(r.1,r.2.1)=e.1:=by
 obtain ⟨p,_,h⟩:=bindN_some h
 cases h;rfl
namespace RA
variable {S S0:Nat→SL} {F F0:Nat→Prop} {w w0:World} {H0:Heap} {a:Act} {Q:Exit→Act→World→Prop} {b r:Nat} {m left:List (PK×El tCell)}
theorem pE_cases {n:Nat} {v:Value} {s:SgEl sg3} {x:El tItem} {m m':List (PK×El tCell)} (hi:ile (0:Int) s.2.2.2.2.1=true) (hx:lat s.2.2.1 (iN s.2.2.2.2.1)=some x) (h:stepA n s.1 x m=some m') :
  (pE n v s=some (.inr s,[.raw v])∧m'=m)∨∃ g c',pE n v s=some (.inl (s.1,s.2.1,s.2.2.1,s.2.2.2.1,s.2.2.2.2.1,x,(x.1,g,()),()),[.raw v])∧cell_Merge n ([mget eqK (x.1,g) zCell m,x.2.2.1],())=some ((c',()),((),()))∧m'=mput eqK (x.1,g) c' m:=by
 unfold stepA at h
 unfold pE
 rw [hi,cond_true,hx,bindN_s,bindN_s]
 obtain ⟨p2,h2,h⟩:=bindN_some h
 rw [h2,bindN_s]
 cases c2:p2.1.2.1 with
 | false=>rw [c2] at h;cases h;exact .inl ⟨rfl,rfl⟩
 | true =>
  rw [c2] at h
  obtain ⟨p3,h3,h⟩:=bindN_some h
  rw [Bool.not_true,cond_false,h3,bindN_s]
  cases c3:p3.1.1 with
  | true=>rw [c3] at h;cases h;exact .inl ⟨rfl,rfl⟩
  | false =>
   rw [c3] at h
   obtain ⟨p4,h4,h⟩:=bindN_some h
   rw [cond_false,h4,bindN_s]
   cases c4:p4.1.1 with
   | false=>rw [c4] at h;cases h;exact .inl ⟨rfl,rfl⟩
   | true =>
    rw [c4] at h
    obtain ⟨p5,h5,h⟩:=bindN_some h
    rw [Bool.not_true,cond_false,h5,bindN_s]
    obtain ⟨p6,h6,h⟩:=bindN_some h
    cases h
    exact .inr ⟨p5.1.1,p6.1.1,rfl,h6,rfl⟩
theorem loop0_eq:B0=capp 1 (.seq R7 K7) (.seq (.block 1 (capp 3 (.seq R8 (.seq R9 (.seq X2 R11))) R12)) R13):=by kernel_rfl
theorem loop0 (n:Nat) {q:El tQuery} {l:List (El tItem)} (hl:l.length≤1000000) {m':List (PK×El tCell)}:∀ (d i g:Nat) (m:List (PK×El tCell)) {S:Nat→SL} {F:Nat→Prop} {w:World} {a:Act},i+d=l.length→runA n q (l.drop i) m=some m'→d<g →
  Mid nA S0 F0 w0 H0 [2,4,22,23,24] sg3 [(6, .map (some b))] [b] (fun W=>HasMap ekP evC W b m) S F w a (q,[],l,(l.length:Int),(i:Int),()) →
  (∀ S' F' w' a',Mid nA S0 F0 w0 H0 [2,4] sgE [(6, .map (some b))] [b] (fun W=>HasMap ekP evC W b m') S' F' w' a' (q,[],())→Q (.exit 0) a' w')→Code.rounds Tryz.prog B0 Q g a w:=by
 intro d
 induction d with
 | zero =>
  intro i g m S F w a hd hr hg h k
  obtain ⟨g,rfl⟩:∃ g',g=g'+1:=⟨g - 1,by omega⟩
  rw [rounds_succ,loop0_eq]
  rw [List.drop_of_length_le (by omega)] at hr
  cases hr
  have hv:=pD_ok (.map (some b)) (q,[],l,(l.length:Int),(i:Int),())
  have hlt:ilt (i:Int) (l.length:Int)=false:=by rw [ilt_eq,decide_eq_false_iff_not];omega
  simp only [hlt,cond_false] at hv
  refine Mid.front 1 hM (T:=[]) (fun x hx=>by cases hx) (by kernel_rfl) (by kernel_rfl) jmap h hv fun S' F' w' a' h'=>k _ _ _ _ h'
 | succ d ih =>
  intro i g m S F w a hd hr hg h k
  obtain ⟨g,rfl⟩:∃ g',g=g'+1:=⟨g - 1,by omega⟩
  rw [rounds_succ,loop0_eq]
  have hi:i<l.length:=by omega
  rw [List.drop_eq_getElem_cons hi,runA] at hr
  obtain ⟨m1,hm1,hr2⟩:=bindN_some hr
  have hv:=pD_ok (.map (some b)) (q,[],l,(l.length:Int),(i:Int),())
  have hlt:ilt (i:Int) (l.length:Int)=true:=by rw [ilt_eq,decide_eq_true_eq];omega
  simp only [hlt,cond_true] at hv
  refine Mid.front 1 hM (T:=[]) (fun x hx=>by cases hx) (by kernel_rfl) (by kernel_rfl) jmap h hv fun S' F' w' a' h'=>?_
  have back:∀ {m1:List (PK×El tCell)} {S' F' w' a'},runA n q (l.drop (i+1)) m1=some m'→Mid nA S0 F0 w0 H0 [2,4,22,23,24] sg3 [(6, .map (some b))] [b] (fun W=>HasMap ekP evC W b m1) S' F' w' a' (q,[],l,(l.length:Int),(i:Int),())→R13.wp Tryz.prog (Exit.then (Code.rounds Tryz.prog B0 Q g) Q) a' w':=by
   intro m1 S' F' w' a' hr h'
   have hv':=pF'_ok (.map (some b)) (q,[],l,(l.length:Int),(i:Int),())
   simp only [iadd1 (i:=i) (by omega)] at hv'
   exact Mid.piece hM (T:=[]) (fun x hx=>by cases hx) (by kernel_rfl) (by kernel_rfl) jmap h' hv' fun S2 F2 w2 a2 h2=>ih (i+1) g m1 (by omega) hr (by omega) h2 k
  refine wp_seq (wp_block ?_)
  have hE:=pE_ok n (.map (some b)) (q,[],l,(l.length:Int),(i:Int),())
  have hT:TabF Tryz.prog [row_series_ent n,cell_Empty_ent n,query_Fits_ent n,query_Group_ent n]:=by
   intro x hx
   simp only [List.mem_cons,List.not_mem_nil,or_false] at hx
   rcases hx with rfl|rfl|rfl|rfl
   ·exact row_series_ok n
   ·exact cell_Empty_ok n
   ·exact query_Fits_ok n
   ·exact query_Group_ok n
  rcases pE_cases (n:=n) (v := .map (some b)) (s:=(q,[],l,(l.length:Int),(i:Int),())) (x:=l[i]) (by simp only [ile_eq,decide_eq_true_eq];omega) (by simp only [iN,Int.toNat_natCast,lat_eq];exact List.getElem?_eq_getElem hi) hm1 with ⟨e1,e2⟩|⟨gr,c',e1,e2,e3⟩
  ·subst e2
   exact Mid.front 3 hM hT (by kernel_rfl) (by kernel_rfl) jmap h' (hE.trans e1) fun S2 F2 w2 a2 h2=>back hr2 h2
  ·subst e3
   exact Mid.front 3 hM hT (by kernel_rfl) (by kernel_rfl) jmap h' (hE.trans e1) fun S2 F2 w2 a2 h2=>r12 (cell_Merge_ok n) h2 e2 fun S3 F3 w3 a3 h3=>back hr2 h3
end RA
end Go.Proofs.YtdcphpbimeoioaaGreatDoorE
end
section
set_option linter.unusedSectionVars false
namespace Go.Proofs.YtdcphpbimeoioaaGreatDoorE
open Go Go.RowKit Go.Shelf Go.Proofs
set_option linter.unusedVariables false
set_option linter.unusedSimpArgs false
set_option maxRecDepth 100000
namespace RA
theorem erase_perm {α:Type} (l:List α) (j:Nat) (h:j<l.length):(l[j] ::l.eraseIdx j).Perm l:=by
 rw [List.eraseIdx_eq_take_drop_succ]
 refine List.perm_middle.symm.trans ?_
 rw [← List.drop_eq_getElem_cons h,List.take_append_drop]
variable {S S0:Nat→SL} {F F0:Nat→Prop} {w w0:World} {H0:Heap} {a:Act} {Q:Exit→Act→World→Prop} {b r:Nat}
theorem loop1_eq:B2 = .seq R15 (.seq K15 (.block 3 (.seq R16 R17))):=by kernel_rfl
abbrev rowD (n:Nat) (q:El tQuery) (e:PK×El tCell):El tRow:=(rowA n q e).getD default
theorem loop1 (n:Nat) {q:El tQuery}:∀ (d:Nat) (g:Nat) (left:List (PK×El tCell)) (acc:List (El tRow)) {S:Nat→SL} {F:Nat→Prop} {w:World} {a:Act},left.length=d→d<g→acc.length+left.length≤1000000→(∀ e∈left,∃ r,rowA n q e=some r) →
  Mid nA S0 F0 w0 H0 [2,4] sgE [(64,itv r)] [r,b] (fun W=>HasIter ekP evC W b r left) S F w a (q,acc,()) →
  (∀ S' F' w' a' acc' left',acc'.Perm (acc++left.map (rowD n q))→Mid nA S0 F0 w0 H0 [2,4] sgE [(64,itv r)] [r,b] (fun W=>HasIter ekP evC W b r left') S' F' w' a' (q,acc',())→Q (.exit 2) a' w')→Code.rounds Tryz.prog B2 Q g a w:=by
 intro d
 induction d with
 | zero =>
  intro g left acc S F w a hd hg hle hall h k
  obtain ⟨g,rfl⟩:∃ g',g=g'+1:=⟨g - 1,by omega⟩
  rw [rounds_succ,loop1_eq]
  have hnil:left=[]:=List.length_eq_zero_iff.1 hd
  refine r15 h (fun _ a' h'=>k _ _ _ _ acc left (by rw [hnil];simp) h') fun j p w1 a1 hj=>?_
  rw [hnil] at hj;simp at hj
 | succ d ih =>
  intro g left acc S F w a hd hg hle hall h k
  obtain ⟨g,rfl⟩:∃ g',g=g'+1:=⟨g - 1,by omega⟩
  rw [rounds_succ,loop1_eq]
  refine r15 h (fun hnil a' h'=>by rw [hnil] at hd;simp at hd) fun j p w1 a1 hj h1 he=>?_
  have hjl:j<left.length:=(List.getElem?_eq_some_iff.1 hj).1
  have hjp:left[j]=p:=(List.getElem?_eq_some_iff.1 hj).2
  have hlen:(left.eraseIdx j).length=d:=by rw [List.length_eraseIdx];simp [hjl];omega
  have hperm:(p ::left.eraseIdx j).Perm left:=by rw [← hjp];exact erase_perm left j hjl
  obtain ⟨x,hx⟩:=hall p (hperm.mem_iff.1 List.mem_cons_self)
  have hrow:=hx
  obtain ⟨p1,hp1,hx⟩:=bindN_some hx
  cases hx
  refine wp_block (wp_seq (r16 h1 he fun S2 F2 w2 a2 h2=>?_))
  have hH:=pH_ok n (itv r) (q,acc,(p.1.1,p.1.2,()),p.2,())
  have hp:pH n (itv r) (q,acc,(p.1.1,p.1.2,()),p.2,())=some (.inl (q,acc++[(p.1.1,p.1.2,p1.1)],()),[.raw (itv r)]):=by
   unfold pH
   simp only
   rw [hp1,bindN_s]
   have:roomA acc [(p.1.1,p.1.2,p1.1)] 40=true:=room_of (by simp;omega)
   rw [this];rfl
  have hT:TabF Tryz.prog [cell_Value_ent n]:=by
   intro x hx
   simp only [List.mem_singleton] at hx
   subst hx
   exact cell_Value_ok n
  refine Mid.piece hM hT (by kernel_rfl) (by kernel_rfl) jiter h2 (hH.trans hp) fun S3 F3 w3 a3 h3=>?_
  refine ih g (left.eraseIdx j) _ hlen (by omega) (by simp;omega) (fun e he=>hall e (hperm.mem_iff.1 (List.mem_cons_of_mem _ he))) h3 fun S4 F4 w4 a4 acc' left' hac h4=>k _ _ _ _ acc' left' ?_ h4
  refine hac.trans ?_
  have e:rowD n q p=(p.1.1,p.1.2,p1.1):=by unfold rowD;rw [hrow];rfl
  have:(acc++[(p.1.1,p.1.2,p1.1)]++(left.eraseIdx j).map (rowD n q))=acc++(p ::left.eraseIdx j).map (rowD n q):=by rw [List.map_cons,e];simp
  rw [this]
  exact (hperm.map _).append_left _
theorem tail_eq:body=capp 1 (.seq R0 X1) (capp 1 (.seq R3 R4) (.seq R5 (.seq (.seq R6 (.block 0 (.loop B0))) (.seq (.seq R14 (.block 2 (.loop B2))) (.seq R18 T19))))):=by kernel_rfl
theorem endA {R:Ending→World→Prop} {ps:List Nat} {J:World→Prop} {rows:List (El tRow)} {w':World} {a':Act} {S':Nat→SL} {F':Nat→Prop} (hr:Rel S F w []) (h:Mid nA S F w [] [4] [.own tRow] [] ps J S' F' w' a' (rows,()))
  (k:∀ v S2 F2,Rel S2 F2 w' [.live (.arr tRow rows true)]→Val S2 F2 w' (.own 0) v→Adv S F w [] S2 F2 w' [.live (.arr tRow rows true)]→R (.returned v) w'):bodyPost Tryz.prog Tryz.f59 R .ret a' w':=by
 have hK:(resVals (envOf [4] [.own tRow] [] ((rows,()):SgEl [.own tRow])) (heapOf [.own tRow] ((rows,()):SgEl [.own tRow])) (Tryz.f59.results.toList.map (resOf Tryz.prog)) fun vs=>fin ([]:Heap).length true (oneOf vs) (heapOf [.own tRow] ((rows,()):SgEl [.own tRow])) fun p H=>some (p,H))=some (.own 0,[.live (.arr tRow rows true)]):=by kernel_rfl
 exact ret_ok (n:=nA) hr h.sta.rel h.sta.at' h.adv hK k
end RA
open RA in
theorem row_Answer_ok (n:Nat):EntOk Tryz.prog (row_Answer_ent n):=by
 intro x y hy
 refine ⟨enters Tryz.func59 (by kernel_rfl) (by kernel_rfl),?_⟩
 intro S F w vs hr hA
 have hr:Rel S F w []:=hr
 have hvs:vs.size=2:=hA.1
 have hb:Tryz.f59.body=some body:=by kernel_rfl
 refine calls_of_wp Tryz.func59 hb ?_
 have hnt:nA=2+(Tryz.f59.ntmps - 2):=by kernel_rfl
 have hsz:(vs++Array.replicate (Tryz.f59.ntmps - vs.size) undef).size=nA:=by
  rw [Array.size_append,Array.size_replicate,hvs,hnt]
 have hev:∀ (k:Nat) (hk:k<vs.size),Act.eval { tmps:=vs++Array.replicate (Tryz.f59.ntmps - vs.size) undef,defers:=[] } (.tmp k)=vs[k]:=fun k hk=>by
  simp [Act.eval,Array.getElem?_append_left hk,hk]
 have h0:Mid nA S F w [] [0,1] [.tree tQuery, .tree (.slice tItem)] [] [] (fun _=>True) S F w { tmps:=vs++Array.replicate (Tryz.f59.ntmps - vs.size) undef,defers:=[] } x:=by
  refine ⟨⟨hr,fun j t p h1 h2=>?_,fun u hu=>(by cases hu),hsz,rfl⟩,fun c hc=>(by cases hc),(Adv.refl _ _ _ _).toM,trivial⟩
  match j,h1 with
  | 0,h1 =>
   cases h1
   rw [hev 0 (by rw [hvs];decide)]
   exact hA.2 0 p _ h2 (Array.getElem?_eq_getElem (by rw [hvs];decide))
  | 1,h1 =>
   cases h1
   rw [hev 1 (by rw [hvs];decide)]
   exact hA.2 1 p _ h2 (Array.getElem?_eq_getElem (by rw [hvs];decide))
  | j+2,h1=>simp at h1
 rw [tail_eq]
 have hJ0:JOk [] (fun _=>True):=fun _ _ _ _=>trivial
 have hy:row_Answer n x=some y:=hy
 unfold row_Answer at hy
 have hAok:=pA_ok n x
 unfold pA at hAok
 have hT1:TabF Tryz.prog [query_Right_ent n]:=by
  intro x hx
  simp only [List.mem_singleton] at hx
  subst hx
  exact query_Right_ok n
 obtain ⟨p1,e1,hy⟩:=bindN_some hy
 rw [e1,bindN_s] at hAok
 cases c1:p1.1.1 with
 | false =>
  rw [c1] at hy hAok
  cases hy
  exact Mid.front 1 hM hT1 (by kernel_rfl) (by kernel_rfl) hJ0 h0 hAok fun S' F' w' a' h'=>by
   simp only [exOf,Exit.then]
   exact endA hr h' fun v S2 F2 k1 k2 k3=>⟨v,S2,F2,rfl,k1,k2,k3⟩
 | true =>
  rw [c1] at hy hAok
  simp only [Bool.not_true,cond_false] at hy
  obtain ⟨p2,e2,hy⟩:=bindN_some hy
  obtain ⟨p3,e3,hy⟩:=bindN_some hy
  obtain ⟨l3,hy⟩:=cond_some hy
  obtain ⟨m,em,hy⟩:=bindN_some hy
  obtain ⟨rows,er,hy⟩:=bindN_some hy
  obtain ⟨lr,hy⟩:=cond_some hy
  cases hy
  have l3:=Nat.le_of_ble_eq_true l3
  have lr:=Nat.le_of_ble_eq_true lr
  obtain ⟨hall,hrows⟩:=rowsA_each er
  have hnd:=runA_keys em (by simp)
  have hlen:rows.length=m.length:=by rw [hrows,List.length_map]
  refine Mid.front 1 hM hT1 (by kernel_rfl) (by kernel_rfl) hJ0 h0 hAok fun S1 F1 w1 a1 h1=>?_
  have hB:=pB_ok n (x.1,x.2.1,[],())
  unfold pB at hB
  simp only at hB
  rw [e2,bindN_s,e3,bindN_s] at hB
  have hT2:TabF Tryz.prog [sl_CloneItem_ent n,sl_StableItem_ent n]:=by
   intro x hx
   simp only [List.mem_cons,List.not_mem_nil,or_false] at hx
   rcases hx with rfl|rfl
   ·exact sl_CloneItem_ok n
   ·exact sl_StableItem_ok n
  refine Mid.front 1 hM hT2 (by kernel_rfl) (by kernel_rfl) hJ0 h1 hB fun S2 F2 w2 a2 h2=>?_
  refine wp_seq (r5 nA_big h2 fun a3 h3=>?_)
  refine wp_seq (wp_seq ?_)
  refine Mid.piece hM (T:=[]) (fun x hx=>by cases hx) (by kernel_rfl) (by kernel_rfl) jmap h3 (pC_ok _ _) fun S4 F4 w4 a4 h4=>?_
  refine wp_block (wp_loop_rounds (p3.2.1.length+1) ?_)
  refine loop0 n l3 p3.2.1.length 0 _ [] (by omega) em (by omega) h4 fun S5 F5 w5 a5 h5=>?_
  refine wp_seq (wp_seq ?_)
  refine r14 h5 fun r w6 a6 h6=>?_
  refine wp_block (wp_loop_rounds (m.length+1) ?_)
  refine loop1 n m.length _ m [] rfl (by omega) (by simp;omega) hall h6 fun S7 F7 w7 a7 acc left' hac h7=>?_
  have hperm:acc.Perm rows:=by rw [hrows];simpa using hac
  have hplaces:(rows.map fun r=>(r.1,r.2.1)).Nodup:=by
   have:(rows.map fun r=>(r.1,r.2.1))=m.map (·.1):=by
    rw [hrows,List.map_map]
    refine List.map_congr_left fun e he=>?_
    obtain ⟨r,hr⟩:=hall e he
    simp only [Function.comp_apply,hr,Option.getD_some]
    exact rowA_place hr
   rw [this];exact hnd
  have hI:=pI_ok n (x.1,acc,())
  have hpI:pI n (x.1,acc,())=some (.inr (sl_SortRow_sorted rows,()),[]):=by
   unfold pI
   have:sl_SortRow n (acc,(),())=some ((),(sl_SortRow_sorted acc,((),()))):=by
    unfold sl_SortRow
    have:Nat.blt acc.length 4611686018427387904=true:=by rw [Nat.blt_eq];have:=hperm.length_eq;omega
    simp only [this,cond_true]
   simp only
   rw [this,bindN_s,sortRow_perm hperm hplaces]
  have hT3:TabF Tryz.prog [sl_SortRow_ent n]:=by
   intro x hx
   simp only [List.mem_singleton] at hx
   subst hx
   exact sl_SortRow_ok n
  have h8:=h7.more (h7.sta.less (us':=[]) (fun u hu=>by cases hu))
  exact Mid.piece hM hT3 (by kernel_rfl) (by kernel_rfl) jiter h8 (hI.trans hpI) fun S9 F9 w9 a9 h9=>by
   simp only [exOf]
   exact endA hr h9 fun v S2 F2 k1 k2 k3=>⟨v,S2,F2,rfl,k1,k2,k3⟩
end Go.Proofs.YtdcphpbimeoioaaGreatDoorE
end
section
set_option linter.unusedSectionVars false
namespace Go.Proofs.YtdcphpbimeoioaaGreatDoorE
open Go
set_option linter.unusedVariables false
set_option maxRecDepth 100000
abbrev law8_alive_sg:List Sg:=[]
abbrev law8_alive_rs:List Rt:=[.tree .bool]
def law8_alive (n:Nat) (x:SgEl law8_alive_sg):Option (RtEl law8_alive_rs×OutEl law8_alive_sg) :=
  bindN (row_Parse n ((⟨#[51,124,97,61,49,124,53,59,52,124,124,55,33]⟩:ByteArray),())) fun p1 =>
  bindN (row_Parse n ((⟨#[52,124,124,55,59,51,124,124,53]⟩:ByteArray),())) fun p2 =>
  bindN (row_Parse n ((⟨#[51,124,53]⟩:ByteArray),())) fun p3 =>
  bindN (r07_Parse n ((⟨#[115,117,109,32,99,112,117,32,98,121,32,97]⟩:ByteArray),())) fun p4 =>
  bindN (r06_Of n ([(5:Int)],())) fun p5 =>
  bindN (row_Answer n (p4.1.1,[((4:Int),(⟨#[99,112,117,123,97,61,50,125]⟩:ByteArray),p5.1),((4:Int),(⟨#[99,112,117,123,97,61,49,44,98,61,57,125]⟩:ByteArray),p5.1),((4:Int),(⟨#[99,112,117,123,97,61,49,125]⟩:ByteArray),p5.1),((4:Int),(⟨#[109,101,109]⟩:ByteArray),p5.1)],())) fun p6 =>
  bif ieq p1.1.2.1 (0:Int) then
   bif ieq p2.1.2.1 (9:Int) then
    bif ieq p3.1.2.1 (2:Int) then
     bif ieq (ilen p1.1.1) (2:Int) then
      bif ile (0:Int) (1:Int) then
       bindN (lat p1.1.1 (iN (1:Int))) fun v7 =>
       bif ieq v7.1 (4:Int) && (seq v7.2.1 (⟨#[]⟩:ByteArray) && (ieq v7.2.2.1.1 (7:Int) && (beqB v7.2.2.1.2.1 true && true))) then
        bindN (row_Text n (p1.1.1,())) fun p8 =>
        bif seq p8.1.1 (⟨#[51,124,97,61,49,124,53,59,52,124,124,55,33]⟩:ByteArray) then
         bindN (row_Text n ([],())) fun p9 =>
         bif seq p9.1.1 (⟨#[45]⟩:ByteArray) then
          bindN (row_Text n p6.1) fun p10 =>
          bif seq p10.1.1 (⟨#[52,124,97,61,49,124,49,48,59,52,124,97,61,50,124,53]⟩:ByteArray) then
           bindN (row_Right n p6.1) fun p11 =>
           bif p11.1.1 then
            bif ile (0:Int) (0:Int) then
             bindN (lat p1.1.1 (iN (0:Int))) fun v12 =>
             bif ile (0:Int) (1:Int) then
              bindN (lat p1.1.1 (iN (1:Int))) fun v13 =>
              bindN (row_Before n (v12,v13,())) fun p14 =>
              bif p14.1.1 then
               bindN (row_Same n (p1.1.1,p1.1.1,())) fun p15 =>
               bif p15.1.1 then
                bindN (row_Same n (p1.1.1,p6.1)) fun p16 =>
                some ((!p16.1.1,()),())
               else
               some ((false,()),())
              else
              some ((false,()),())
             else none
            else none
           else
           some ((false,()),())
          else
          some ((false,()),())
         else
         some ((false,()),())
        else
        some ((false,()),())
       else
       some ((false,()),())
      else none
     else
     some ((false,()),())
    else
    some ((false,()),())
   else
   some ((false,()),())
  else
  some ((false,()),())
abbrev law8_alive_ent (n:Nat):Ent:=⟨48,law8_alive_sg,law8_alive_rs,law8_alive n⟩
theorem law8_alive_ok (n:Nat):EntOk Tryz.prog (law8_alive_ent n):=ent_ok' mixed (T:=[row_Parse_ent n,r07_Parse_ent n,r06_Of_ent n,row_Answer_ent n,row_Text_ent n,row_Right_ent n,row_Before_ent n,row_Same_ent n]) (tabCons (row_Parse_ok n) (tabCons (r07_Parse_ok n) (tabCons (r06_Of_ok n) (tabCons (row_Answer_ok n) (tabCons (row_Text_ok n) (tabCons (row_Right_ok n) (tabCons (row_Before_ok n) (tabCons (row_Same_ok n) tabNil)))))))) tabLNil fun x=>by kernel_rfl
abbrev law_RowBack_sg:List Sg:=[.tree (.slice tRow), .tree .str]
abbrev law_RowBack_rs:List Rt:=[.tree .bool]
def law_RowBack (n:Nat) (x:SgEl law_RowBack_sg):Option (RtEl law_RowBack_rs×OutEl law_RowBack_sg) :=
  bindN (law8_alive n ()) fun p1 =>
  bif !p1.1.1 then
   some ((false,()),((),(),()))
  else
  bindN (r08_Great n (x.1,())) fun p2 =>
  bif p2.1.1 then
   some ((true,()),((),(),()))
  else
  bif ilt (500:Int) (ssize x.2.1) then
   some ((true,()),((),(),()))
  else
  bindN (r08_Right n (x.1,())) fun p3 =>
  bif p3.1.1 then
   bindN (row_Text n (x.1,())) fun p4 =>
   bindN (row_Parse n p4.1) fun p5 =>
   bif !(ieq p5.1.2.1 (0:Int)) then
    some ((false,()),((),(),()))
   else
   bindN (r08_Same n (p5.1.1,x.1,())) fun p6 =>
   bif !p6.1.1 then
    some ((false,()),((),(),()))
   else
   bindN (row_Parse n x.2) fun p7 =>
   bif !(ieq p7.1.2.1 (0:Int)) then
    some ((ieq (ilen p7.1.1) (0:Int),()),((),(),()))
   else
   bindN (row_Text n (p7.1.1,())) fun p8 =>
   bif seq p8.1.1 x.2.1 then
    bindN (r08_Right n (p7.1.1,())) fun p9 =>
    some (p9.1,((),(),()))
   else
   some ((false,()),((),(),()))
  else
  bindN (row_Parse n x.2) fun p10 =>
  bif !(ieq p10.1.2.1 (0:Int)) then
   some ((ieq (ilen p10.1.1) (0:Int),()),((),(),()))
  else
  bindN (row_Text n (p10.1.1,())) fun p11 =>
  bif seq p11.1.1 x.2.1 then
   bindN (r08_Right n (p10.1.1,())) fun p12 =>
   some (p12.1,((),(),()))
  else
  some ((false,()),((),(),()))
abbrev law_RowBack_ent (n:Nat):Ent:=⟨15,law_RowBack_sg,law_RowBack_rs,law_RowBack n⟩
theorem law_RowBack_ok (n:Nat):EntOk Tryz.prog (law_RowBack_ent n):=ent_ok' mixed (T:=[law8_alive_ent n,r08_Great_ent n,r08_Right_ent n,row_Text_ent n,row_Parse_ent n,r08_Same_ent n]) (tabCons (law8_alive_ok n) (tabCons (r08_Great_ok n) (tabCons (r08_Right_ok n) (tabCons (row_Text_ok n) (tabCons (row_Parse_ok n) (tabCons (r08_Same_ok n) tabNil)))))) tabLNil fun x=>by kernel_rfl
end Go.Proofs.YtdcphpbimeoioaaGreatDoorE
end
section
set_option linter.unusedSectionVars false
namespace Go.Proofs.YtdcphpbimeoioaaGreatDoorE
open Go
set_option linter.unusedVariables false
set_option linter.unusedSimpArgs false
theorem r08_Same_v {n:Nat} (hn:Big n) {a b:List (El tRow)} (ha:Lim a):r08_Same n (a,b,())=some ((eqb a b,()),((),(),())):=by
 by_cases h:a.length=b.length
 ·letI:DecidableEq (El tRow):=fun _ _=>Classical.propDecidable _
  have hL:=eq_loop h (L:=fun g i=>r08_Same_l0 n g (a,b,i,())) (fun g=>by simp [r08_Same_l0]) (fun g i h1 h2=>by
   have e:=iadd1 (i:=i) (by omega)
   simp [r08_Same_l0,h1,h2,e,eqb,Prod.ext_iff]
   try (split<;>split<;>first|rfl|(exfalso;simp_all))) (g:=n) (by unfold Big at hn;omega)
  simp only [r08_Same,ilen,h,ieq_eq] at hL ⊢
  simp only [decide_true,Bool.not_true,cond_false,hL]
  by_cases e:a=b<;>simp [e,eqb_f]
 ·have e:a≠b:=fun e=>h (by rw [e])
  have h':¬ (a.length:Int)=(b.length:Int):=by omega
  simp [r08_Same,h',eqb_f e]
end Go.Proofs.YtdcphpbimeoioaaGreatDoorE
end
section
set_option linter.unusedSectionVars false
namespace Go.Proofs.YtdcphpbimeoioaaGreatDoorE
open Go Go.Proofs
set_option linter.unusedVariables false
set_option linter.unusedSimpArgs false
theorem row_text_l0 {n:Nat} (l:List RW) (hf:FitRs l):∀ (d i g:Nat) (acc:List ByteArray),i+d=l.length→acc.length=i→d<g →
  row_Text_l0 n g (acc,l,(l.length:Int),(i:Int),())=some (.inl (acc++(l.drop i).map rowL,()))
 | 0,i,g,acc,hd,ha,hg=>by
  obtain ⟨g,rfl⟩:∃ g',g=g'+1:=⟨g - 1,by omega⟩
  have k:¬ (i:Int)<(l.length:Int):=by omega
  rw [List.drop_of_length_le (by omega)]
  simp [row_Text_l0,k]
 | d+1,i,g,acc,hd,ha,hg=>by
  obtain ⟨g,rfl⟩:∃ g',g=g'+1:=⟨g - 1,by omega⟩
  have hl:=hf.1
  have hi:i<l.length:=by omega
  have k:(i:Int)<(l.length:Int):=by omega
  have k0:(0:Int)≤i:=by omega
  have hR:=hf.2 l[i] (List.getElem_mem hi)
  obtain ⟨h1,h2,h3⟩:=hR
  have hN:=sat_Number_v n l[i].1 h1
  have hT:=sat_Text_v n l[i].2.2.1 h2
  have eT:sumB l[i].2.2.1=mkB (sumL l[i].2.2.1):=rfl
  rw [eT] at hT
  have hJ:=word_Join_v n (mkB [124]) [numB l[i].1,l[i].2.1,mkB (sumL l[i].2.2.1)] (by simp) (by have:=row_len ⟨h1,h2,h3⟩;unfold rowL at this;omega)
  have r1:room (acc.length+1) 16=true:=room_of (by omega)
  have ih:=row_text_l0 (n:=n) l hf d (i+1) g (acc++[rowL l[i]]) (by omega) (by simp;omega) (by omega)
  rw [drop_cons l i hi]
  have eJ:joinB (mkB [124]) [numB l[i].1,l[i].2.1,mkB (sumL l[i].2.2.1)]=rowL l[i]:=rfl
  rw [eJ,show mkB [124]=(⟨#[124]⟩:ByteArray) from rfl] at hJ
  have hT':sat_Text n l[i].2.2=some ((mkB (sumL l[i].2.2.1),()),((),())):=hT
  simp only [row_Text_l0,ilt_eq,ile_eq,k,k0,decide_true,cond_true,lat_eq,iN,Int.toNat_natCast,List.getElem?_eq_getElem hi,bindN_s,hN,hT',hJ,roomA,List.length_singleton,r1,app,iadd1 (i:=i) (by omega),bindL_id2,ih]
  rw [List.map_cons,List.append_assoc];rfl
theorem row_Text_v {n:Nat} (hn:Big n) (l:List RW) (hf:FitRs l):row_Text n (l,())=some ((textR l,()),((),())):=by
 have hl:=hf.1
 unfold textR
 by_cases h0:l.length=0
 ·have:(l.length:Int)=0:=by omega
  simp only [row_Text,ilen,ieq_eq,this,decide_true,cond_true,if_pos h0];rfl
 ·have k:¬ (l.length:Int)=0:=by omega
  have h:=row_text_l0 (n:=n) l hf l.length 0 n [] (by omega) rfl (by unfold Big at hn;omega)
  rw [show ((0:Nat):Int)=0 from rfl] at h
  have hj:=word_Join_v n (mkB [59]) (l.map rowL) (by simp;omega) (Nat.le_trans (textR_len hf) (by decide))
  rw [show mkB [59]=(⟨#[59]⟩:ByteArray) from rfl] at hj
  simp only [row_Text,ilen,ieq_eq,k,decide_false,cond_false,h,bindL_inl,List.nil_append,List.drop_zero,hj,bindN_s,if_neg h0]
  rfl
theorem row_one_v {n:Nat} (hn:Big n) (s:ByteArray) (hs:s.size≤100000):∃ r,row_one n (s,())=some ((r,(oneR s).2,()),((),()))∧((oneR s).2=0→r=(oneR s).1):=by
 have hsp:=word_Split_v hn 124 s (by omega)
 rw [show (((124:UInt8).toNat:Nat):Int)=124 from rfl] at hsp
 have hsz:=fun x hx=>splitB_size 124 s x hx
 by_cases h3:(splitB 124 s).length=3
 ·unfold oneR
  generalize splitB 124 s=p at h3 hsp hsz
  rcases p with _|⟨a,_|⟨b,_|⟨c,_|⟨d,r⟩⟩⟩⟩
  ·simp at h3
  ·simp at h3
  ·simp at h3
  ·have l0:lat [a,b,c] (iN (0:Int))=some a:=by rw [lat_eq];rfl
   have l1:lat [a,b,c] (iN (1:Int))=some b:=by rw [lat_eq];rfl
   have l2:lat [a,b,c] (iN (2:Int))=some c:=by rw [lat_eq];rfl
   have z0:decide ((0:Int)≤0)=true:=rfl
   have z1:decide ((0:Int)≤1)=true:=rfl
   have z2:decide ((0:Int)≤2)=true:=rfl
   have e3:decide (ilen [a,b,c]=3)=true:=rfl
   have ha:=sat_Read_v n a (by have:=hsz a (by simp);omega)
   have hb:=row_group_v hn b (Nat.le_trans (hsz b (by simp)) hs)
   have hc:=sat_Parse_v n c (by have:=hsz c (by simp);omega)
   simp only [row_one,hsp,bindN_s,ieq_eq,ile_eq,e3,z0,z1,z2,l0,l1,l2,ha,hb,hc,Bool.not_true,cond_false,cond_true]
   by_cases q1:(readL (bl a)).2=0
   ·by_cases q2:groupE b=0
    ·by_cases q3:(parseS (bl c)).2=0
     ·simp [q1,q2,q3]
     ·simp [q1,q2,q3]
    ·simp [q1,q2]
   ·simp [q1]
  ·simp at h3
 ·have e3:decide (ilen (splitB 124 s)=3)=false:=decide_eq_false (by show ¬ ((splitB 124 s).length:Int)=3;omega)
  rw [oneR_no h3]
  simp only [row_one,hsp,bindN_s,ieq_eq,e3,Bool.not_false,cond_true]
  exact ⟨_,rfl,fun h=>absurd h (by decide)⟩
theorem row_parse_l0 {n:Nat} (hn:Big n) (ps:List ByteArray) (hl:ps.length≤1000000) (hs:∀ x∈ps,x.size≤100000):∀ (d i g:Nat) (acc:List RW),i+d=ps.length→acc.length≤i→d<g →
  row_Parse_l0 n g (acc,ps,(ps.length:Int),(i:Int),())=some (match scanR acc (ps.drop i) with|.inl o => .inl (o,())|.inr e => .inr ([],e,()))
 | 0,i,g,acc,hd,ha,hg=>by
  obtain ⟨g,rfl⟩:∃ g',g=g'+1:=⟨g - 1,by omega⟩
  have k:¬ (i:Int)<(ps.length:Int):=by omega
  rw [List.drop_of_length_le (by omega)]
  simp [row_Parse_l0,k,scanR]
 | d+1,i,g,acc,hd,ha,hg=>by
  obtain ⟨g,rfl⟩:∃ g',g=g'+1:=⟨g - 1,by omega⟩
  have hi:i<ps.length:=by omega
  have k:(i:Int)<(ps.length:Int):=by omega
  have k0:(0:Int)≤i:=by omega
  obtain ⟨r,h1,h2⟩:=row_one_v hn ps[i] (hs ps[i] (List.getElem_mem hi))
  have r1:room (acc.length+1) 40=true:=room_of (by omega)
  have ih:=row_parse_l0 hn ps hl hs d (i+1) g (acc++[(oneR ps[i]).1]) (by omega) (by simp;omega) (by omega)
  rw [drop_cons ps i hi,scanR]
  simp only [row_Parse_l0,ilt_eq,ile_eq,ieq_eq,k,k0,decide_true,cond_true,lat_eq,iN,Int.toNat_natCast,List.getElem?_eq_getElem hi,bindN_s,h1,roomA,List.length_singleton,r1,app,iadd1 (i:=i) (by omega),bindL_id1]
  by_cases q:(oneR ps[i]).2=0
  ·rw [h2 q]
   simp only [q,decide_true,Bool.not_true,cond_false,if_true,ih]
  ·simp [q]
theorem row_Parse_v {n:Nat} (hn:Big n) (s:ByteArray) (hs:s.size≤90000):row_Parse n (s,())=some (((parseR s).1,(parseR s).2,()),((),())):=by
 have h1:=splitB_len 59 s
 unfold row_Parse parseR
 by_cases hb:bl s=[45]
 ·simp [eq45,hb]
 ·have hsp:=word_Split_v hn 59 s (by omega)
  rw [show (((59:UInt8).toNat:Nat):Int)=59 from rfl] at hsp
  have h:=row_parse_l0 hn (splitB 59 s) (by omega) (fun x hx=>by have:=splitB_size 59 s x hx;omega) (splitB 59 s).length 0 n [] (by omega) (by simp) (by unfold Big at hn;omega)
  rw [show ((0:Nat):Int)=0 from rfl,List.drop_zero] at h
  simp only [seq_eq,eq45,hb,decide_false,cond_false,hsp,bindN_s,ilen,h,if_false]
  cases hp:scanR [] (splitB 59 s) with
  | inr e=>simp
  | inl o =>
   have hlen:=scanR_len _ _ _ hp
   simp only [bindL_inl,row_rise_v hn o (by simp at hlen;omega),bindN_s]
   cases riseR o<;>simp
def greatR (l:List RW):Bool:=decide (100<l.length) || l.any fun r=>decide (300<r.2.1.size)
theorem r08_Great_v {n:Nat} (hn:Big n) (l:List RW):r08_Great n (l,())=some ((greatR l,()),((),())):=by
 by_cases h:100<l.length
 ·have h':(100:Int)<l.length:=by omega
  simp [r08_Great,greatR,h,h']
 ·have hL:=any_loop (a:=l) (fun r=>decide (300<r.2.1.size)) true (L:=fun g i=>r08_Great_l0 n g (l,i,())) (fun g=>by simp [r08_Great_l0]) (fun g i h1=>by
   have e:=iadd1 (i:=i) (by omega)
   by_cases hp:300<(l[i]).2.1.size
   ·have hp':(300:Int)<(l[i]).2.1.size:=by omega
    simp [r08_Great_l0,h1,e,hp,hp']
   ·have hp':¬ (300:Int)<(l[i]).2.1.size:=by omega
    simp [r08_Great_l0,h1,e,hp,hp']) (g:=n) (by unfold Big at hn;omega)
  have e:¬ (100:Int)<l.length:=by omega
  simp only [r08_Great,ilen,ilt_eq,e,decide_false,cond_false,hL,greatR,h,Bool.false_or]
  generalize l.any _=c
  cases c<;>simp
theorem not_greatR {l:List RW} (h:greatR l=false):l.length≤100∧∀ r∈l,r.2.1.size≤300:=by
 unfold greatR at h
 rw [Bool.or_eq_false_iff,decide_eq_false_iff_not,List.any_eq_false] at h
 exact ⟨by omega,fun r hr=>by have:=h.2 r hr;simp at this;omega⟩
theorem i64_of {n:Int} (h:(Lit.int .i64 n).wf=true):I64 n:=by
 simp [Lit.wf,IntKind.bits,IntKind.signed,IntKind.min,IntKind.max] at h
 unfold I64
 omega
theorem fit_rows {l:List RW} (ho:okE (.slice tRow) l) (h:greatR l=false):FitRs l∧FitR l:=by
 obtain ⟨h1,h2⟩:=not_greatR h
 refine ⟨⟨by omega,fun r hr=>?_⟩,by omega,fun r hr=>by have:=h2 r hr;omega⟩
 have:=ho.2 r hr
 exact ⟨i64_of this.1,i64_of this.2.2.1.1,by have:=h2 r hr;omega⟩
end Go.Proofs.YtdcphpbimeoioaaGreatDoorE
end
section
set_option linter.unusedSectionVars false
namespace Go.Proofs.YtdcphpbimeoioaaGreatDoorE
open Go Go.Proofs
set_option linter.unusedVariables false
set_option linter.unusedSimpArgs false
theorem tags_no {l:List TG} (h:rightT l=true) (c:UInt8) (h1:inNameB c=false) (h2:inValB c=false) (h3:c≠61) (h4:c≠44):c ∉ bl (textT l):=by
 obtain ⟨ha,_,_⟩:=(right_iff l).1 h
 rw [List.all_eq_true] at ha
 unfold textT
 refine join_no c (mkB [44]) (by rw [bl_mkB];simpa using h4) _ fun y hy=>?_
 obtain ⟨t,ht,rfl⟩:=List.mem_map.1 hy
 have hm:=may_parts (ha t ht)
 rw [bl_pairB]
 intro hc
 rcases List.mem_append.1 hc with hc|hc
 ·rcases List.mem_append.1 hc with hc|hc
  ·exact name_no _ hm.1 c h1 hc
  ·simp at hc;exact h3 hc
 ·exact value_no _ hm.2 c h2 hc
theorem okG_iff {r:RW}:okG r=true↔(parseT r.2.1).2=0∧textT (parseT r.2.1).1=r.2.1:=by
 unfold okG groupE
 rw [decide_eq_true_eq]
 by_cases h:(parseT r.2.1).2=0
 ·rw [if_pos h]
  by_cases h2:textT (parseT r.2.1).1=r.2.1
  ·rw [if_pos h2];exact ⟨fun _=>⟨h,h2⟩,fun _=>rfl⟩
  ·rw [if_neg h2];exact ⟨fun e=>absurd e (by decide),fun e=>absurd e.2 h2⟩
 ·rw [if_neg h];exact ⟨fun e=>absurd e h,fun e=>absurd e.1 h⟩
theorem group_no {r:RW} (h:okG r=true) (c:UInt8) (h1:inNameB c=false) (h2:inValB c=false) (h3:c≠61) (h4:c≠44):c ∉ bl r.2.1:=by
 obtain ⟨g1,g2⟩:=okG_iff.1 h
 have hr:=(parse_out r.2.1).resolve_right fun e=>e.1 g1
 rw [← g2]
 exact tags_no hr.2 c h1 h2 h3 h4
theorem row_no {r:RW} (h:okG r=true):(59:UInt8) ∉ bl (rowL r):=by
 have h1:=itoa_no r.1 59 (by decide)
 have h2:=group_no h 59 (by decide+kernel) (by decide+kernel) (by decide) (by decide)
 have h3:=sum_chars r.2.2.1 59 (by decide) (by decide)
 rw [bl_row]
 intro hc
 simp only [List.mem_append,List.mem_cons] at hc
 rcases hc with hc|hc|hc|hc|hc
 ·exact h1 hc
 ·exact absurd hc (by decide)
 ·exact h2 hc
 ·exact absurd hc (by decide)
 ·exact h3 hc
theorem split_row {r:RW} (h:okG r=true):splitB 124 (rowL r)=[numB r.1,r.2.1,mkB (sumL r.2.2.1)]:=by
 unfold rowL
 refine splitB_join 124 _ _ fun y hy=>?_
 simp only [List.mem_cons,List.not_mem_nil,or_false] at hy
 rcases hy with rfl|rfl|rfl
 ·unfold numB;rw [bl_mkB];exact itoa_no _ 124 (by decide)
 ·exact group_no h 124 (by decide+kernel) (by decide+kernel) (by decide) (by decide)
 ·rw [bl_mkB];exact sum_chars _ 124 (by decide) (by decide)
theorem one_row {r:RW} (h:okG r=true) (h1:I64 r.1) (h2:I64 r.2.2.1.1):oneR (rowL r)=(r,0):=by
 obtain ⟨a,g,s,⟨⟩⟩:=r
 have hg:groupE g=0:=by unfold okG at h;exact of_decide_eq_true h
 have hr:=read_itoa h1
 have hp:=parse_sum s h2
 simp only at hr hp
 unfold oneR
 rw [split_row h]
 simp only
 unfold numB
 rw [bl_mkB,bl_mkB,hr,hp,if_pos rfl,if_pos hg,if_pos rfl]
theorem scan_rows:∀ (l acc:List RW),(∀ r∈l,okG r=true∧I64 r.1∧I64 r.2.2.1.1)→scanR acc (l.map rowL) = .inl (acc++l)
 | [],acc,_=>by simp [scanR]
 | r ::l,acc,h=>by
  obtain ⟨h1,h2,h3⟩:=h r List.mem_cons_self
  rw [List.map_cons,scanR,one_row h1 h2 h3,if_pos rfl,scan_rows l _ fun x hx=>h x (List.mem_cons_of_mem _ hx)]
  simp
theorem text_ne45 {r:RW} {l:List RW}:bl (joinB (mkB [59]) ((r ::l).map rowL))≠[45]:=by
 intro e
 have h1:(124:UInt8)∈bl (joinB (mkB [59]) ((r ::l).map rowL)):=by
  rw [List.map_cons,joinB_cons,bl_row];simp
 rw [e] at h1
 exact absurd h1 (by decide)
theorem parse_textR (l:List RW) (h:rightR l=true) (hf:∀ r∈l,I64 r.1∧I64 r.2.2.1.1):parseR (textR l)=(l,0):=by
 unfold rightR at h
 rw [Bool.and_eq_true,List.all_eq_true] at h
 cases l with
 | nil=>unfold parseR;rw [show textR []=mkB [45] from rfl,bl_mkB,if_pos rfl]
 | cons r l =>
  have e:textR (r ::l)=joinB (mkB [59]) ((r ::l).map rowL):=by unfold textR;rw [if_neg (by simp)]
  unfold parseR
  rw [e,if_neg text_ne45]
  have hs:splitB 59 (joinB (mkB [59]) ((r ::l).map rowL))=(r ::l).map rowL:=by
   rw [List.map_cons]
   refine splitB_join 59 _ _ fun y hy=>?_
   rw [← List.map_cons] at hy
   obtain ⟨x,hx,rfl⟩:=List.mem_map.1 hy
   exact row_no (h.1 x hx)
  rw [hs,scan_rows _ [] fun x hx=>⟨h.1 x hx,hf x hx⟩]
  simp only [List.nil_append]
  rw [if_pos h.2]
theorem one_back {x:ByteArray} (h:(oneR x).2=0):rowL (oneR x).1=x∧okG (oneR x).1=true∧I64 (oneR x).1.1∧I64 (oneR x).1.2.2.1.1:=by
 have hj:=joinB_split 124 x
 unfold oneR at h ⊢
 generalize splitB 124 x=p at *
 rcases p with _|⟨a,_|⟨b,_|⟨c,_|⟨d,r⟩⟩⟩⟩
 ·exact absurd h (by decide)
 ·exact absurd h (show ¬ ((2:Int)=0) by decide)
 ·exact absurd h (show ¬ ((2:Int)=0) by decide)
 ·simp only at h ⊢
  by_cases q1:(readL (bl a)).2=0
  ·rw [if_pos q1] at h ⊢
   by_cases q2:groupE b=0
   ·rw [if_pos q2] at h ⊢
    by_cases q3:(parseS (bl c)).2=0
    ·rw [if_pos q3]
     have h1:=itoa_read (show readL (bl a)=((readL (bl a)).1,0) by rw [← q1])
     have h2:=sum_parse q3
     refine ⟨?_,?_,h1.2,h2.2⟩
     ·unfold rowL numB
      simp only
      rw [h1.1,h2.1,mkB_bl,mkB_bl]
      exact hj
     ·unfold okG;exact decide_eq_true q2
    ·rw [if_neg q3] at h;exact absurd h q3
   ·rw [if_neg q2] at h;exact absurd h q2
  ·rw [if_neg q1] at h;exact absurd h q1
 ·exact absurd h (show ¬ ((2:Int)=0) by decide)
theorem scan_back:∀ (ps:List ByteArray) (acc o:List RW),scanR acc ps = .inl o→∃ l,o=acc++l∧l.map rowL=ps∧∀ r∈l,okG r=true∧I64 r.1∧I64 r.2.2.1.1
 | [],acc,o,h=>by
  simp [scanR] at h
  exact ⟨[],by simp [h],rfl,fun r hr=>by cases hr⟩
 | x ::ps,acc,o,h=>by
  rw [scanR] at h
  by_cases q:(oneR x).2=0
  ·rw [if_pos q] at h
   obtain ⟨l,h1,h2,h3⟩:=scan_back ps _ o h
   obtain ⟨g1,g2,g3,g4⟩:=one_back q
   refine ⟨(oneR x).1 ::l,by rw [h1];simp,by rw [List.map_cons,g1,h2],fun r hr=>?_⟩
   rcases List.mem_cons.1 hr with rfl|hr
   ·exact ⟨g2,g3,g4⟩
   ·exact h3 r hr
  ·rw [if_neg q] at h;cases h
theorem text_parseR (s:ByteArray) (h:(parseR s).2=0):textR (parseR s).1=s∧rightR (parseR s).1=true∧∀ r∈(parseR s).1,I64 r.1∧I64 r.2.2.1.1:=by
 unfold parseR at h ⊢
 by_cases h45:bl s=[45]
 ·rw [if_pos h45]
  refine ⟨?_,rfl,fun r hr=>by cases hr⟩
  exact bl_inj (by rw [h45];rfl)
 ·rw [if_neg h45] at h ⊢
  cases hs:scanR [] (splitB 59 s) with
  | inr e =>
   exfalso
   rw [hs] at h
   have key:∀ (ps:List ByteArray) (acc:List RW) (e:Int),scanR acc ps = .inr e→e≠0:=by
    intro ps
    induction ps with
    | nil=>intro acc e h;cases h
    | cons x ps ih =>
     intro acc e h
     rw [scanR] at h
     by_cases q:(oneR x).2=0
     ·rw [if_pos q] at h;exact ih _ _ h
     ·rw [if_neg q] at h;cases h;exact q
   exact key _ _ _ hs h
  | inl o =>
   rw [hs] at h
   simp only at h ⊢
   by_cases hr:riseR o=true
   ·rw [if_pos hr]
    obtain ⟨l,h1,h2,h3⟩:=scan_back _ _ _ hs
    rw [List.nil_append] at h1
    subst h1
    refine ⟨?_,?_,fun r hr=>(h3 r hr).2⟩
    ·unfold textR
     have hne:¬ o.length=0:=fun e=>by
      have:=congrArg List.length h2
      rw [List.length_map,e] at this
      have hn:=splitL_ne 59 (bl s)
      unfold splitB at this
      rw [List.length_map] at this
      exact hn (List.length_eq_zero_iff.1 this.symm)
     rw [if_neg hne,h2]
     exact joinB_split 59 s
    ·unfold rightR
     rw [Bool.and_eq_true,List.all_eq_true]
     exact ⟨fun r hr=>(h3 r hr).1,hr⟩
   ·rw [if_neg hr] at h;exact absurd h (by decide)
theorem parseR_bad (s:ByteArray) (h:(parseR s).2≠0):(parseR s).1=[]:=by
 unfold parseR at h ⊢
 by_cases h45:bl s=[45]
 ·rw [if_pos h45]
 ·rw [if_neg h45] at h ⊢
  cases hs:scanR [] (splitB 59 s) with
  | inr e=>rfl
  | inl o =>
   rw [hs] at h
   simp only at h ⊢
   by_cases hr:riseR o=true
   ·rw [if_pos hr] at h;exact absurd rfl h
   ·rw [if_neg hr]
end Go.Proofs.YtdcphpbimeoioaaGreatDoorE
end
section
set_option linter.unusedSectionVars false
namespace Go.Proofs.YtdcphpbimeoioaaGreatDoorE
open Go Go.Proofs
set_option linter.unusedVariables false
set_option linter.unusedSimpArgs false
set_option maxRecDepth 100000
theorem alive8_v:law8_alive 1000000000000000 ()=some ((true,()),()):=by kernel_rfl
theorem big_n:Big 1000000000000000:=by unfold Big;omega
theorem parseR_fit (s:ByteArray) (hs:s.size≤90000):FitRs (parseR s).1∧FitR (parseR s).1:=by
 by_cases h:(parseR s).2=0
 ·obtain ⟨h1,h2,h3⟩:=text_parseR s h
  have hlen:(parseR s).1.length≤100000:=by
   have h4:=splitB_len 59 s
   unfold parseR
   by_cases h45:bl s=[45]
   ·rw [if_pos h45];simp
   ·rw [if_neg h45]
    cases hp:scanR [] (splitB 59 s) with
    | inr e=>simp
    | inl o =>
     have:=scanR_len _ _ _ hp
     simp only
     split
     ·simp at this ⊢;omega
     ·simp
  have hg:∀ r∈(parseR s).1,r.2.1.size≤100000:=fun r hr=>by
   unfold rightR at h2
   rw [Bool.and_eq_true,List.all_eq_true] at h2
   obtain ⟨g1,g2⟩:=okG_iff.1 (h2.1 r hr)
   rcases parse_out r.2.1 with ⟨_,q⟩|⟨q,_⟩
   ·have:=(right_fit q).2
    rw [g2,size_bl] at this;omega
   ·exact absurd g1 q
  exact ⟨⟨hlen,fun r hr=>⟨(h3 r hr).1,(h3 r hr).2,hg r hr⟩⟩,hlen,hg⟩
 ·rw [parseR_bad s h]
  exact ⟨⟨by simp,fun r hr=>by cases hr⟩,by simp,fun r hr=>by cases hr⟩
theorem rowBack_true:∀ x,okArgs [.slice tRow, .str] x→∃ o,law_RowBack 1000000000000000 x=some ((true,()),o):=by
 intro x hx
 obtain ⟨l,s,⟨⟩⟩:=x
 obtain ⟨hl,hs,_⟩:=hx
 have hn:=big_n
 have ha:=alive8_v
 generalize 1000000000000000=n at hn ha
 refine ⟨((),(),()),?_⟩
 have gl:=r08_Great_v hn l
 cases hgl:greatR l with
 | true=>simp only [law_RowBack,ha,bindN_s,Bool.not_true,cond_false,gl,hgl,cond_true]
 | false =>
  by_cases h5:(500:Int)<(s.size:Int)
  ·simp only [law_RowBack,ha,bindN_s,Bool.not_true,cond_false,gl,hgl,ilt_eq,ssize_eq,h5,decide_true,cond_true]
  ·obtain ⟨f1,f2⟩:=fit_rows hl hgl
   have e2:=r08_Right_v hn l f2
   have e3:=row_Text_v hn l f1
   have p1:=row_Parse_v hn s (by omega)
   obtain ⟨q1,q2⟩:=parseR_fit s (by omega)
   have t1:=row_Text_v hn (parseR s).1 q1
   have t2:=r08_Right_v hn (parseR s).1 q2
   have tail:(bif !(decide ((parseR s).2=0)) then some ((decide (ilen (parseR s).1=0),()),((),(),())) else bindN (row_Text n ((parseR s).1,())) fun p11=>bif decide (p11.1.1=s) then bindN (r08_Right n ((parseR s).1,())) fun p12=>some (p12.1,((),(),())) else some ((false,()),((),(),())))=some ((true,()),((),(),())):=by
    by_cases h:(parseR s).2=0
    ·obtain ⟨g1,g2,_⟩:=text_parseR s h
     simp only [h,decide_true,Bool.not_true,cond_false,t1,bindN_s,g1,cond_true,t2,g2]
    ·have:=parseR_bad s h
     simp only [h,decide_false,Bool.not_false,cond_true]
     rw [this];rfl
   cases hr:rightR l with
   | false=>simp only [law_RowBack,ha,bindN_s,Bool.not_true,cond_false,gl,hgl,ilt_eq,ssize_eq,h5,decide_false,e2,hr,p1,ieq_eq,seq_eq];exact tail
   | true =>
    have hb:=parse_textR l hr fun r hr=>⟨(f1.2 r hr).1,(f1.2 r hr).2.1⟩
    have hlen:(textR l).size≤90000:=by
     unfold textR
     split
     ·decide
     ·have hj:=joinB_len (mkB [59]) 345 (l.map rowL) (fun x hx=>by
       obtain ⟨r,hr,rfl⟩:=List.mem_map.1 hx
       obtain ⟨i1,i2,_⟩:=f1.2 r hr
       have h1:=Lib.itoa_length_le r.1 i1.1 i1.2
       have h2:=sumL_len i2
       have h3:=(not_greatR hgl).2 r hr
       rw [bl_row]
       simp only [List.length_append,List.length_cons,size_bl];omega)
      rw [List.length_map] at hj
      have h1:=(not_greatR hgl).1
      have h2:l.length * ((bl (mkB [59])).length+345)≤100 * 346:=Nat.mul_le_mul h1 (by rw [bl_mkB];simp)
      rw [← size_bl];omega
    have p2:=row_Parse_v hn (textR l) hlen
    rw [hb] at p2
    have hlim:Lim l:=Nat.le_trans f2.1 (by decide)
    have e6:=r08_Same_v hn (b:=l) hlim
    simp only [law_RowBack,ha,bindN_s,Bool.not_true,cond_false,gl,hgl,ilt_eq,ssize_eq,h5,decide_false,e2,hr,cond_true,e3,p2,ieq_eq,decide_true,e6,eqb_refl,p1,seq_eq]
    exact tail
end Go.Proofs.YtdcphpbimeoioaaGreatDoorE
end
