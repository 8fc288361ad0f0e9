/- A part of the proof: ZQER, ZQES, ZQET, ZQEU, ZQEV, ZQEW, ZQEX, ZQEY, ZQEZ, ZQFA, ZQFB, ZQFC, ZQFD, ZQFE, ZQFF, ZQFG, ZQFH, ZQFI, ZQFJ, ZQFK, ZQFL, ZQFM, ZQGA, ZQGB. No condition. -/
import Derived.Test.YtdcphpbimeoioaaGreatDoorBQ0
import Derived.LoopN
import Derived.Orders
import Derived.WalkKit
import Derived.ProofKit
import Derived.OpenShut
import Derived.ShutString
import Derived.ChangeOld
import Derived.Below
import Derived.SizedLaws
import Derived.Carry
section
set_option linter.unusedSectionVars false
namespace Go.Proofs.YtdcphpbimeoioaaGreatDoorE
open Go
set_option linter.unusedVariables false
set_option linter.unusedSimpArgs false
variable [Dm]
section
variable {β:Type} {P:Program} {S S' S1:Nat→SL} {F F' F1:Nat→Prop} {w w':World} {H H' H1:Heap} {E:Env} {ρ:Operand→Value} {O:Orc} {nb:Nat} {r:β}
def Args (S:Nat→SL) (F:Nat→Prop) (w:World) (ags:List PV) (vs:Array Value):Prop:=vs.size=ags.length∧∀ (i:Nat) (p:PV) (v:Value),ags[i]?=some p→vs[i]?=some v→Val S F w p v
def CallOk (P:Program) (f:FuncId) (ags:List PV) (H:Heap) (p:PV×Heap):Prop :=
 ∀ (S:Nat→SL) (F:Nat→Prop) (w:World) (vs:Array Value),Rel S F w H→Args S F w ags vs →
  Calls P f vs w fun e w'=>∃ v S' F',e = .returned v∧Rel S' F' w' p.2∧Val S' F' w' p.1 v∧Adv S F w H S' F' w' p.2
def Enters (P:Program) (f:FuncId):Prop:=∃ fn,P.funcs[f]?=some fn∧fn.body.isSome=true∧(fn.name == "runtime.NumGoroutine")=false
def OrcOk (P:Program) (O:Orc):Prop:=∀ f ags H,match O.call f ags H with
 | ⟨_,x,enc,keeps⟩=>∀ p,x=some p→Enters P f∧CallOk P f ags H (enc p)∧(keeps=true→(enc p).2=H)
theorem cellsOf_pure:∀ (t:Ty) (x:El t) (j:Nat) (p:PV),(cellsOf t x)[j]?=some p→pureC p=true
 | .int k,n,j,p,h=>by cases j<;>simp [cellsOf] at h;subst h;rfl
 | .bool,b,j,p,h=>by cases j<;>simp [cellsOf] at h;subst h;rfl
 | .str,s,j,p,h=>by cases j<;>simp [cellsOf] at h;subst h;rfl
 | .slice t,xs,j,p,h=>by cases j<;>simp [cellsOf] at h;subst h;rfl
 | .unit,_,j,p,h=>by simp [cellsOf] at h
 | .none,x,_,_,_=>nomatch x
 | .pair a b,x,j,p,h=>by
  simp only [cellsOf] at h
  by_cases hj:j<(cellsOf a x.1).length
  ·rw [List.getElem?_append_left hj] at h;exact cellsOf_pure a _ j p h
  ·rw [List.getElem?_append_right (by omega)] at h;exact cellsOf_pure b _ _ p h
theorem Val.pure (hF:∀ k,F k→F' k) (hw:∀ k,F k→w'.heap[k]?=w.heap[k]?) {p:PV} {v:Value} (h:Val S F w p v):pureC p=true→Val S' F' w' p v:=by
 induction h with
 | junk v=>exact fun _ => .junk v
 | raw v=>exact fun _ => .raw v
 | int k n=>exact fun _ => .int k n
 | bool b=>exact fun _ => .bool b
 | str s=>exact fun _ => .str s
 | agg=>exact fun h=>by simp [pureC] at h
 | tup=>exact fun h=>by simp [pureC] at h
 | nil t=>exact fun _ => .nil t
 | lst t xs a cap vf hc ha hs hcell hv ih =>
  exact fun _ => .lst t xs a cap vf hc ha hs (fun ad i x j p e1 e2 e3=>⟨hF _ (hcell ad i x j p e1 e2 e3).1,(cell_of_heap (hw _ (hcell ad i x j p e1 e2 e3).1) _).trans (hcell ad i x j p e1 e2 e3).2⟩) (fun i x j p a b=>ih i x j p a b (cellsOf_pure _ _ _ _ b))
 | own=>exact fun h=>by simp [pureC] at h
 | ownd=>exact fun h=>by simp [pureC] at h
 | nilp=>exact fun _ => .nilp
 | ptr=>exact fun h=>by simp [pureC] at h
 | ptra=>exact fun h=>by simp [pureC] at h
 | ptrd=>exact fun h=>by simp [pureC] at h
 | view=>exact fun h=>by simp [pureC] at h
 | viewd=>exact fun h=>by simp [pureC] at h
 | emp=>exact fun h=>by simp [pureC] at h
 | ref=>exact fun h=>by simp [pureC] at h
 | fn=>exact fun h=>by simp [pureC] at h
theorem Val.pref (hF:∀ k,F k→F' k) (hw:∀ k,F k→w'.heap[k]?=w.heap[k]?) {cs:List PV} {v:Value} (h:Val S F w (.ref cs) v) (hp:cs.all pureC=true):Val S' F' w' (.ref cs) v:=by
 cases h with
 | ref _ ad vf hs hcell ho hv =>
  exact .ref cs ad vf hs (fun j p e=>⟨hF _ (hcell j p e).1,(cell_of_heap (hw _ (hcell j p e).1) _).trans (hcell j p e).2⟩) ho (fun j p e=>(hv j p e).pure hF hw (List.all_eq_true.1 hp p (List.mem_of_getElem? e)))
theorem posN_some {b:Nat}:∀ {ids:List Nat} {i:Nat},posN b ids=some i→ids[i]?=some b
 | [],i,h=>by simp [posN] at h
 | c ::r,i,h=>by
  simp only [posN] at h
  by_cases hb:Nat.beq b c=true
  ·rw [hb] at h;simp only [cond_true,Option.some.injEq] at h;subst h
   simp [Nat.eq_of_beq_eq_true hb]
  ·simp only [Bool.not_eq_true] at hb
   rw [hb] at h
   simp only [cond_false] at h
   cases hp:posN b r with
   | none=>rw [hp] at h;cases h
   | some k=>rw [hp] at h;simp only [Option.some.injEq] at h;subst h;simpa using posN_some hp
theorem posN_none {b:Nat}:∀ {ids:List Nat},posN b ids=none→b ∉ ids
 | [],h=>by simp
 | c ::r,h=>by
  simp only [posN] at h
  by_cases hb:Nat.beq b c=true
  ·rw [hb] at h;simp at h
  ·simp only [Bool.not_eq_true] at hb
   rw [hb] at h
   simp only [cond_false] at h
   cases hp:posN b r with
   | none =>
    simp only [List.mem_cons,not_or]
    exact ⟨(fun e=>by subst e;rw [show Nat.beq b b=true from Nat.beq_refl b] at hb;cases hb),posN_none hp⟩
   | some k=>rw [hp] at h;cases h
theorem posN_get {ids:List Nat} (hd:ids.Nodup) {i b:Nat} (h:ids[i]?=some b):posN b ids=some i:=by
 cases hp:posN b ids with
 | none=>exact absurd (List.mem_of_getElem? h) (posN_none hp)
 | some k =>
  have h2:=posN_some hp
  obtain ⟨l1,e1⟩:=List.getElem?_eq_some_iff.1 h
  obtain ⟨l2,e2⟩:=List.getElem?_eq_some_iff.1 h2
  have hpw:=List.pairwise_iff_getElem.1 hd
  rcases Nat.lt_trichotomy i k with h3|h3|h3
  ·exact absurd (e1.trans e2.symm) (hpw i k l1 l2 h3)
  ·rw [h3]
  ·exact absurd (e2.trans e1.symm) (hpw k i l2 l1 h3)
theorem reach_nodup:∀ (n:Nat) (H:Heap) (todo seen:List Nat),seen.Nodup→(reach H n todo seen).Nodup
 | 0,_,_,_,h=>h
 | _+1,_,[],_,h=>h
 | n+1,H,b ::r,seen,h=>by
  simp only [reach]
  cases hm:memN b seen with
  | true=>exact reach_nodup n H r seen h
  | false =>
   simp only [cond_false]
   refine reach_nodup n H _ _ ?_
   rw [List.nodup_append]
   refine ⟨h,by simp,fun a ha b' hb' e=>?_⟩
   simp at hb';subst hb';subst e
   have:=memN_iff.2 ha
   rw [hm] at this;cases this
theorem renC_val {ids:List Nat} (hF:∀ k,F k→F' k) (hw:∀ k,F k→w'.heap[k]?=w.heap[k]?) (hS:∀ b i,posN b ids=some i→S b ≠ .unused→S' i=S b) {c:PV} {v:Value} (h:Val S F w c v):Val S' F' w' (renC ids c) v:=by
 cases h with
 | view b lo k a n cap sz hb hl=>simp only [renC,pureC,cond_false];exact .junk _
 | viewd b lo k v hb ho=>simp only [renC,pureC,cond_false];exact .junk _
 | emp t a=>simp only [renC,pureC,cond_false];exact .junk _
 | own b a n cap sz hb =>
  simp only [renC]
  cases hp:posN b ids with
  | none=>exact .junk _
  | some i=>exact .own i a n cap sz ((hS b i hp (by rw [hb];simp)).trans hb)
 | ownd b v hb ho =>
  simp only [renC]
  cases hp:posN b ids with
  | none=>exact .junk _
  | some i=>exact .ownd i v ((hS b i hp (by rw [hb];simp)).trans hb) ho
 | ptr b blk j hb =>
  simp only [renC]
  cases hp:posN b ids with
  | none=>exact .junk _
  | some i=>exact .ptr i blk j ((hS b i hp (by rw [hb];simp)).trans hb)
 | ptra b a n cap sz i j hb hi =>
  simp only [renC]
  cases hp:posN b ids with
  | none=>exact .junk _
  | some k=>exact .ptra k a n cap sz i j ((hS b k hp (by rw [hb];simp)).trans hb) hi
 | ptrd b i j v hb ho =>
  simp only [renC]
  cases hp:posN b ids with
  | none=>exact .junk _
  | some k=>exact .ptrd k i j v ((hS b k hp (by rw [hb];simp)).trans hb) ho
 | ref cs ad vf hs hcell ho hv =>
  simp only [renC]
  cases hp:cs.all pureC with
  | false=>exact .junk _
  | true=>exact (Val.ref cs ad vf hs hcell ho hv).pref hF hw hp
 | agg=>simp only [renC,pureC];exact .junk _
 | tup=>simp only [renC,pureC];exact .junk _
 | fn=>simp only [renC,pureC];exact .junk _
 | junk v=>exact .junk v
 | raw v=>exact .raw v
 | int k n=>exact .int k n
 | bool b=>exact .bool b
 | str s=>exact .str s
 | nil t=>exact .nil t
 | nilp=>exact .nilp
 | lst t xs a cap vf hc ha hs hcell hv=>exact (Val.lst t xs a cap vf hc ha hs hcell hv).pure hF hw rfl
theorem map_val {A B:PV→Value→Prop} {g:PV→PV} (hg:∀ c v,A c v→B (g c) v) {cs:List PV} {vs:Array Value} (h:∀ (i:Nat) (p:PV) (v:Value),cs[i]?=some p→vs[i]?=some v→A p v) :
  ∀ (i:Nat) (p:PV) (v:Value),(cs.map g)[i]?=some p→vs[i]?=some v→B p v:=by
 intro i p v hp hv
 rw [List.getElem?_map] at hp
 cases hc:cs[i]? with
 | none=>rw [hc] at hp;cases hp
 | some c=>rw [hc] at hp;cases hp;exact hg _ _ (h i c v hc hv)
theorem elem_val {A B:PV→Value→Prop} {g e:PV→PV} (hA:∀ p v,A p v→Val S F w p v) (hB:∀ p v,Val S' F' w' p v→B p v) (hg:∀ c v,Val S F w c v→Val S' F' w' (g c) v) (he:∀ c,e c=match c with|.agg cs => .agg (cs.map g)|v=>g v) {c:PV} {v:Value} (h:A c v):B (e c) v:=by
 rw [he]
 have h:=hA c v h
 refine hB _ _ ?_
 clear hA hB he
 split
 ·cases h with
  | agg _ vs hl hv ho=>exact .agg _ vs (by simp [hl]) (map_val hg hv) ho
 ·exact hg _ _ h
theorem whole_val {g e t:PV→PV} (hg:∀ c v,Val S F w c v→Val S' F' w' (g c) v) (he:∀ c,e c=match c with|.agg cs => .agg (cs.map g)|v=>g v) (ht:∀ c,t c=match c with|.tup vs => .tup (vs.map e)|.fn f a b => .fn f (a.map g) (b.map g)|v=>e v) {c:PV} {v:Value} (h:Val S F w c v):Val S' F' w' (t c) v:=by
 have hee:∀ c v,Val S F w c v→Val S' F' w' (e c) v:=fun c v h=>elem_val (A:=Val S F w) (B:=Val S' F' w') (fun _ _ h=>h) (fun _ _ h=>h) hg he h
 rw [ht]
 split
 ·cases h with
  | tup _ vs hl hv=>exact .tup _ vs (by simp [hl]) (map_val hee hv)
 ·cases h with
  | fn _ _ _ va vb la lb ha hb=>exact .fn _ _ _ va vb (by simp [la]) (by simp [lb]) (map_val hg ha) (map_val hg hb)
 ·exact hee _ _ h
theorem renV_val {ids:List Nat} (hF:∀ k,F k→F' k) (hw:∀ k,F k→w'.heap[k]?=w.heap[k]?) (hS:∀ b i,posN b ids=some i→S b ≠ .unused→S' i=S b) {c:PV} {v:Value} (h:Val S F w c v):Val S' F' w' (renV ids c) v :=
 whole_val (g:=renC ids) (e:=renE ids) (fun c v h=>renC_val hF hw hS h) (fun c=>by cases c<;>rfl) (fun c=>by cases c<;>rfl) h
theorem bakC_val {ids:List Nat} {nb:Nat} (hF:∀ k,F k→F' k) (hS:∀ i,S i ≠ .unused→S' (bakN ids nb i)=S i) {c:PV} {v:Value} (h:Val S F w c v):Val S' F' w (bakC ids nb c) v:=by
 have hw:∀ k,F k→w.heap[k]?=w.heap[k]?:=fun _ _=>rfl
 cases h with
 | view b lo k a n cap sz hb hl=>simp only [bakC,pureC,cond_false];exact .junk _
 | viewd b lo k v hb ho=>simp only [bakC,pureC,cond_false];exact .junk _
 | emp t a=>simp only [bakC,pureC,cond_false];exact .junk _
 | own b a n cap sz hb=>exact .own _ a n cap sz ((hS b (by rw [hb];simp)).trans hb)
 | ownd b v hb ho=>exact .ownd _ v ((hS b (by rw [hb];simp)).trans hb) ho
 | ptr b blk j hb=>exact .ptr _ blk j ((hS b (by rw [hb];simp)).trans hb)
 | ptra b a n cap sz i j hb hi=>exact .ptra _ a n cap sz i j ((hS b (by rw [hb];simp)).trans hb) hi
 | ptrd b i j v hb ho=>exact .ptrd _ i j v ((hS b (by rw [hb];simp)).trans hb) ho
 | ref cs ad vf hs hcell ho hv =>
  simp only [bakC]
  cases hp:cs.all pureC with
  | false=>exact .junk _
  | true=>exact (Val.ref cs ad vf hs hcell ho hv).pref hF hw hp
 | agg=>simp only [bakC,pureC];exact .junk _
 | tup=>simp only [bakC,pureC];exact .junk _
 | fn=>simp only [bakC,pureC];exact .junk _
 | junk v=>exact .junk v
 | raw v=>exact .raw v
 | int k n=>exact .int k n
 | bool b=>exact .bool b
 | str s=>exact .str s
 | nil t=>exact .nil t
 | nilp=>exact .nilp
 | lst t xs a cap vf hc ha hs hcell hv=>exact (Val.lst t xs a cap vf hc ha hs hcell hv).pure hF hw rfl
theorem flatC_val {ids:List Nat} {nb:Nat} {c:PV} {v:Value} (hf:flatC c=true) (h:Val S F w c v):Val S' F' w' (bakC ids nb c) v:=by
 cases h<;>simp [flatC] at hf<;>simp only [bakC,pureC,cond_true]<;>first|exact .junk _|exact .int _ _|exact .bool _|exact .str _|exact .nilp
theorem mapV_val {ids:List Nat} {nb:Nat} (hc:∀ c v,Val S F w c v→Val S' F' w' (bakC ids nb c) v) {c:PV} {v:Value} (h:Val S F w c v):Val S' F' w' (bakV ids nb c) v :=
 whole_val (g:=bakC ids nb) (e:=bakE ids nb) hc (fun c=>by cases c<;>rfl) (fun c=>by cases c<;>rfl) h
theorem flatE_val {ids:List Nat} {nb:Nat} {c:PV} {v:Value} (hf:flatE c=true) (h:Val S F w c v):Val S' F' w' (bakE ids nb c) v:=by
 by_cases ha:∃ cs,c = .agg cs
 ·obtain ⟨cs,rfl⟩:=ha
  cases h with
  | agg _ vs hl hv ho =>
   refine .agg _ vs (by simp [hl]) (fun i p v hp hvv=>?_) ho
   rw [List.getElem?_map] at hp
   cases hc:cs[i]? with
   | none=>rw [hc] at hp;cases hp
   | some c=>rw [hc] at hp;cases hp;exact flatC_val (List.all_eq_true.1 (show cs.all flatC=true from hf) c (List.mem_of_getElem? hc)) (hv i c v hc hvv)
 ·have h1:flatC c=true:=by cases c<;>first|exact hf|exact absurd ⟨_,rfl⟩ ha
  have:=flatC_val (S':=S') (F':=F') (w':=w') (ids:=ids) (nb:=nb) h1 h
  cases c<;>first|exact this|exact absurd ⟨_,rfl⟩ ha
theorem flatV_val {ids:List Nat} {nb:Nat} {c:PV} {v:Value} (hf:flatV c=true) (h:Val S F w c v):Val S' F' w' (bakV ids nb c) v:=by
 by_cases ht:∃ ps,c = .tup ps
 ·obtain ⟨ps,rfl⟩:=ht
  cases h with
  | tup _ vs hl hv =>
   refine .tup _ vs (by simp [hl]) (fun i p v hp hvv=>?_)
   rw [List.getElem?_map] at hp
   cases hc:ps[i]? with
   | none=>rw [hc] at hp;cases hp
   | some c =>
    rw [hc] at hp
    simp only [Option.map_some,Option.some.injEq] at hp
    subst hp
    exact flatE_val (List.all_eq_true.1 (show ps.all flatE=true from hf) c (List.mem_of_getElem? hc)) (hv i c v hc hvv)
 ·have hfe:flatE c=true:=by cases c<;>first|exact hf|exact absurd ⟨_,rfl⟩ ht
  have:=flatE_val (S':=S') (F':=F') (w':=w') (ids:=ids) (nb:=nb) hfe h
  cases c<;>first|exact this|exact absurd ⟨_,rfl⟩ ht|(simp [flatE,flatC] at hfe)
end
end Go.Proofs.YtdcphpbimeoioaaGreatDoorE
end
section
set_option linter.unusedSectionVars false
namespace Go.Proofs.YtdcphpbimeoioaaGreatDoorE
open Go
set_option linter.unusedVariables false
set_option linter.unusedSimpArgs false
variable [Dm]
section
variable {β:Type} {P:Program} {S S' S1 S2:Nat→SL} {F F' F1 F2:Nat→Prop} {w w':World} {H H' H1:Heap} {E:Env} {ρ:Operand→Value} {O:Orc} {nb:Nat} {r:β}
theorem nth_eq {α:Type}:∀ (l:List α) (i:Nat),nth l i=l[i]?
 | [],_=>by simp [nth]
 | x ::r,0=>by simp [nth]
 | x ::r,i+1=>by simp [nth,nth_eq r i]
theorem hget_get (H:Heap) (b:Nat):hget H b=(H[b]?).getD .unused:=by simp [hget,List.getD]
theorem hget_puts:∀ (l:List Nat) (ss:List Slot) (H:Heap) (c:Nat),l.Nodup→hget (puts H l ss) c=match posN c l with|some i=>(ss[i]?).getD (hget H c)|none=>hget H c
 | [],ss,H,c,_=>by simp [puts,posN]
 | b ::l,[],H,c,_=>by
  simp only [puts]
  split<;>simp
 | b ::l,s ::ss,H,c,hd=>by
  simp only [List.nodup_cons] at hd
  simp only [puts]
  rw [hget_puts l ss _ c hd.2]
  simp only [posN]
  by_cases h:c=b
  ·subst h
   rw [show Nat.beq c c=true from Nat.beq_refl c]
   cases hp:posN c l with
   | some i=>exact absurd (List.mem_of_getElem? (posN_some hp)) hd.1
   | none=>simp [hget_hset_same]
  ·have:Nat.beq c b=false:=by cases hh:Nat.beq c b with
    | true=>exact absurd (Nat.eq_of_beq_eq_true hh) h
    | false=>rfl
   rw [this]
   simp only [cond_false]
   cases hp:posN c l with
   | some i=>simp [hget_hset_ne _ _ _ _ h]
   | none=>simp [hget_hset_ne _ _ _ _ h]
theorem lenOk_spec:∀ {ids:List Nat} {H:Heap},lenOk ids H=true→ids.length≤H.length∧H.length≤ids.length+1∧wrS (hget H ids.length)=true
 | [],[],_=>⟨Nat.le_refl _,by simp,rfl⟩
 | [],[s],h=>⟨by simp,by simp,h⟩
 | [],_ ::_ ::_,h=>by simp [lenOk] at h
 | b ::ids,[],h=>by simp [lenOk] at h
 | b ::ids,s ::H,h=>by
  obtain ⟨h1,h2,h3⟩:=lenOk_spec (ids:=ids) (H:=H) (by simpa [lenOk] using h)
  exact ⟨by simp;omega,by simp;omega,by simpa [hget] using h3⟩
theorem flat_any {p:PV} {v:Value} (hf:flatC p=true) (h:Val S F w p v):Val S' F' w' p v:=by
 cases h<;>simp [flatC] at hf<;>first|exact .junk _|exact .int _ _|exact .bool _|exact .str _|exact .nilp
theorem cellsOf_flat:∀ (t:Ty) (x:El t) (j:Nat) (p:PV),flatT t=true→(cellsOf t x)[j]?=some p→flatC p=true
 | .int k,n,j,p,_,h=>by cases j<;>simp [cellsOf] at h;subst h;rfl
 | .bool,b,j,p,_,h=>by cases j<;>simp [cellsOf] at h;subst h;rfl
 | .str,s,j,p,_,h=>by cases j<;>simp [cellsOf] at h;subst h;rfl
 | .slice t,xs,j,p,hf,h=>by simp [flatT] at hf
 | .unit,_,j,p,_,h=>by simp [cellsOf] at h
 | .none,x,_,_,_,_=>nomatch x
 | .pair a b,x,j,p,hf,h=>by
  simp only [flatT,Bool.and_eq_true] at hf
  simp only [cellsOf] at h
  by_cases hj:j<(cellsOf a x.1).length
  ·rw [List.getElem?_append_left hj] at h;exact cellsOf_flat a _ j p hf.1 h
  ·rw [List.getElem?_append_right (by omega)] at h;exact cellsOf_flat b _ _ p hf.2 h
def mapS (g:PV→PV) (s:Slot):Slot :=
 match s with
 | .live (.box cs wr) => .live (.box (cs.map g) wr)
 | s=>s
theorem slot_re {g:PV→PV} {s s':Slot} {l:SL} (h:SlotOk S F w s l) (hs:s'=mapS g s) (hg:∀ cs wr,s = .live (.box cs wr)→∀ c v,c∈cs→Val S F w c v→Val S' F' w (g c) v)
  (ha:∀ (t:Ty) (xs:List (El t)) (wr:Bool),s = .live (.arr t xs wr)→∀ (x:El t) (j:Nat) (p:PV) (v:Value),(cellsOf t x)[j]?=some p→Val S F w p v→Val S' F' w p v) (h1:∀ k,blkOf l=some k→¬ F k→¬ F' k) (h2:∀ k,blkOf l=some k→wrS s=false→F k→F' k):SlotOk S' F' w s' l:=by
 subst hs
 cases s with
 | unused=>cases l<;>simp only [SlotOk,mapS] at h ⊢
 | dead=>cases l<;>simp only [SlotOk,mapS] at h ⊢
 | live x =>
  cases x with
  | box cs wr =>
   cases l<;>simp only [SlotOk,mapS] at h ⊢
   obtain ⟨⟨c,t,g1,g2,g3,g4⟩,g5,g6⟩:=h
   refine ⟨⟨c,t,g1,by simp [g2],fun j p v hp hv=>?_,g4⟩,fun hw=>h1 _ rfl (g5 hw),fun hw=>h2 _ rfl hw (g6 hw)⟩
   rw [List.getElem?_map] at hp
   cases hc:cs[j]? with
   | none=>rw [hc] at hp;cases hp
   | some q=>rw [hc] at hp;cases hp;exact hg cs wr rfl q v (List.mem_of_getElem? hc) (g3 j q v hc hv)
  | arr t xs wr =>
   cases l<;>simp only [SlotOk,mapS] at h ⊢
   rename_i a n cap sz
   obtain ⟨g1,g2,g3,g4,g5⟩:=h
   refine ⟨g1,g2,g3,g4,?_⟩
   rcases g5 with g5|⟨ad,rfl,⟨q0,c,tt,fr,q1,q2,q3,q4,q5⟩,q6,q7⟩
   ·exact .inl g5
   ·by_cases hc:cap=0
    ·exact .inl hc
    have hbk:blkOf (.arr (some ad) n cap sz)=some ad.block:=by simp [blkOf,hc]
    refine .inr ⟨ad,rfl,⟨q0,c,tt,fr,q1,q2,q3,q4,fun i x j p hx hp=>?_⟩,fun hw=>h1 _ hbk (q6 hw),fun hw=>h2 _ hbk hw (q7 hw)⟩
    obtain ⟨v,e1,e2⟩:=q5 i x j p hx hp
    exact ⟨v,e1,ha t xs wr rfl x j p v hp e2⟩
theorem slot_live {b:Nat} {k:Nat} (hr:Rel S F w H) (h:blkOf (S b)=some k):∃ x,hget H b = .live x:=by
 have:=hr.slots b
 cases hg:hget H b with
 | live x=>exact ⟨x,rfl⟩
 | unused=>rw [hg] at this;cases hs:S b<;>rw [hs] at this h<;>simp only [SlotOk] at this;cases h
 | dead=>rw [hg] at this;cases hs:S b<;>rw [hs] at this h<;>simp only [SlotOk] at this;cases h
theorem callK_ok (hO:OrcOk P O) (hr:Rel S F w H) {f:FuncId} {args:List (Bool×PV)} {vs:Array Value} {K:PV→Heap→Option β} (hl:vs.size=args.length) (hv:∀ (i:Nat) (p:Bool×PV) (v:Value),args[i]?=some p→vs[i]?=some v→Val S F w p.2 v)
  (h:callK O nb H f args K=some r):Enters P f∧Calls P f vs w fun e w'=>∃ v,e = .returned v∧Aft S F w H K r v w':=by
 unfold callK at h
 obtain ⟨hun,h⟩:=fresh_some h
 obtain ⟨hchk,h⟩:=cond_some h
 simp only [Bool.and_eq_true,Bool.not_eq_true'] at hchk
 obtain ⟨⟨⟨c1,c2⟩,c3⟩,c4⟩:=hchk
 rw [fAs_eq,fH_eq] at h
 generalize hids:callIds H args=ids at *
 generalize hfro:callFrozen H args=frozen at *
 have hnd:ids.Nodup:=by rw [← hids];exact reach_nodup _ _ _ _ (by simp)
 have hdis:∀ b,b∈frozen→b ∉ ids:=fun b hb hi=>by
  have:=List.all_eq_true.1 c1 b hb
  rw [memN_iff.2 hi] at this;cases this
 have hnf:nb ∉ frozen:=fun hb=>by rw [memN_iff.2 hb] at c2;cases c2
 have hni:nb ∉ ids:=fun hb=>by rw [memN_iff.2 hb] at c3;cases c3
 have hlive:∀ b,b∈ids→∃ x,hget H b = .live x:=fun b hb=>by
  have:=List.all_eq_true.1 c4 b hb
  unfold isLive at this;split at this
  ·exact ⟨_,by assumption⟩
  ·cases this
 obtain ⟨z1,z2⟩:=frz_rel hr frozen
 have hfb:∀ b cs wr c,b∈ids→hget H b = .live (.box cs wr)→c∈cs→∀ b',b'∈ownC c→b'∈frozen:=by
  intro b cs wr c hb hg hc b' hb'
  rw [← hfro]
  unfold callFrozen
  rw [hids]
  refine List.mem_append_right _ (List.mem_flatMap.2 ⟨b,hb,?_⟩)
  rw [hg]
  exact List.mem_flatMap.2 ⟨c,hc,hb'⟩
 let S0:Nat→SL:=fun i=>match ids[i]? with|some b=>S b|none => .unused
 have hS0:∀ b i,posN b ids=some i→S b ≠ .unused→S0 i=S b:=fun b i hp _=>by show (match ids[i]? with|some b=>S b|none=>SL.unused)=S b;rw [posN_some hp]
 have hH0:∀ i,hget (ids.map fun b=>renS ids (snapS H (hget H b))) i=match ids[i]? with|some b=>renS ids (snapS H (hget H b))|none => .unused:=by
  intro i;rw [hget_get,List.getElem?_map];cases ids[i]?<;>rfl
 have rel0:Rel S0 (FZ S F H frozen) w (ids.map fun b=>renS ids (snapS H (hget H b))):=by
  refine ⟨fun i=>?_,fun i j k h1 h2=>?_,z1.fsz,z1.gl⟩
  ·rw [hH0]
   show SlotOk S0 _ w _ (match ids[i]? with|some b=>S b|none=>SL.unused)
   cases hi:ids[i]? with
   | none=>simp [SlotOk]
   | some b =>
    have hb:=List.mem_of_getElem? hi
    refine slot_re (g:=fun c=>renC ids (cell1 H c)) (hr.slots b) (by
     simp only
     generalize hget H b=s
     cases s with
     | live x=>cases x<;>simp [snapS,snapB,renS,renB,mapS]
     | _=>rfl) (fun cs wr hg c v hc hvv=>?_) (fun t xs wr hg x j p v hp hvv=>hvv.pure (fun k hk => .inl hk) (fun _ _=>rfl) (cellsOf_pure _ _ _ _ hp)) (fun k hk hn=>?_) (fun k hk _ hF => .inl hF)
    ·have h1:Val S (FZ S F H frozen) w (cell1 H c) v:=cell1_val hr hvv (fun k hk => .inl hk) (fun b' k hb' ⟨x,hx⟩ hk => .inr ⟨b',x,hfb b cs wr c hb hg hc b' hb',hx,hk⟩)
     exact renC_val (fun _ h=>h) (fun _ _=>rfl) hS0 h1
    ·rintro (hF|⟨b',x,hb',hx,hk'⟩)
     ·exact hn hF
     ·have:=hr.inj _ _ _ hk' hk
      subst this
      exact hdis _ hb' hb
  ·have e:∀ i k,blkOf (S0 i)=some k→∃ b,ids[i]?=some b∧blkOf (S b)=some k:=by
    intro i k hk
    have hk:blkOf (match ids[i]? with|some b=>S b|none=>SL.unused)=some k:=hk
    cases hi:ids[i]? with
    | none=>rw [hi] at hk;cases hk
    | some b=>rw [hi] at hk;exact ⟨b,rfl,hk⟩
   obtain ⟨b,e1,e2⟩:=e _ _ h1
   obtain ⟨b',e3,e4⟩:=e _ _ h2
   have:=hr.inj _ _ _ e2 e4
   subst this
   have p1:=posN_get hnd e1
   have p2:=posN_get hnd e3
   rw [p1] at p2;cases p2;rfl
 have args0:Args S0 (FZ S F H frozen) w ((callArgs H args).map (renV ids)) vs:=by
  refine ⟨by simp [callArgs,hl],fun i p v hp hvv=>?_⟩
  simp only [callArgs,List.map_map,List.getElem?_map] at hp
  cases ha:args[i]? with
  | none=>rw [ha] at hp;cases hp
  | some q =>
   rw [ha] at hp
   simp only [Option.map_some,Option.some.injEq,Function.comp] at hp
   subst hp
   obtain ⟨o,a⟩:=q
   have hva:=hv i (o,a) v ha hvv
   refine renV_val (S:=S) (F:=FZ S F H frozen) (w:=w) (fun _ h=>h) (fun _ _=>rfl) hS0 ?_
   cases o with
   | true=>exact hva.mono (fun k hk => .inl hk) (fun _ _=>rfl) (fun _ _ => .inl rfl)
   | false =>
    refine snapV_val hr hva (fun k hk => .inl hk) (fun b k hb ⟨x,hx⟩ hk => .inr ⟨b,x,?_,hx,hk⟩)
    rw [← hfro]
    unfold callFrozen
    exact List.mem_append_left _ (List.mem_flatMap.2 ⟨(false,a),List.mem_of_getElem? ha,hb⟩)
 have ho:=hO f ((callArgs H args).map (renV ids)) (ids.map fun b=>renS ids (snapS H (hget H b)))
 generalize hcall:O.call f ((callArgs H args).map (renV ids)) (ids.map fun b=>renS ids (snapS H (hget H b)))=su at ho h
 obtain ⟨α,x,enc,keeps⟩:=su
 simp only at ho h
 obtain ⟨p,hp,h⟩:=bindN_some h
 obtain ⟨hent,hcok,_⟩:=ho p hp
 refine ⟨hent,?_⟩
 refine (hcok S0 _ w vs rel0 args0).mono ?_
 rintro e w' ⟨v,S1,F1,rfl,rel1,val1,adv1⟩
 refine ⟨v,rfl,?_⟩
 generalize enc p=q at rel1 val1 adv1 h
 obtain ⟨r1,H1⟩:=q
 simp only at rel1 val1 adv1
 unfold back at h
 simp only [fH_eq] at h
 obtain ⟨hlen,h⟩:=cond_some h
 obtain ⟨l1,l2,l3⟩:=lenOk_spec hlen
 let S2:Nat→SL:=fun c=>match posN c ids with|some i=>S1 i|none=>if c=nb then S1 ids.length else S c
 have s2i:∀ c i,posN c ids=some i→S2 c=S1 i:=fun c i hp=>by show (match posN c ids with|some i=>S1 i|none=>if c=nb then S1 ids.length else S c)=_;rw [hp]
 have pnb:posN nb ids=none:=by cases hp:posN nb ids with
  | none=>rfl
  | some i=>exact absurd (List.mem_of_getElem? (posN_some hp)) hni
 have s2n:S2 nb=S1 ids.length:=by show (match posN nb ids with|some i=>S1 i|none=>if nb=nb then S1 ids.length else S nb)=_;rw [pnb];simp
 have s2o:∀ c,c ∉ ids→c≠nb→S2 c=S c:=fun c h1 h2=>by
  have:posN c ids=none:=by cases hp:posN c ids with
   | none=>rfl
   | some i=>exact absurd (List.mem_of_getElem? (posN_some hp)) h1
  show (match posN c ids with|some i=>S1 i|none=>if c=nb then S1 ids.length else S c)=_
  rw [this];simp [h2]
 have far:∀ i,ids.length<i→S1 i = .unused:=fun i hi=>unused_S rel1 (by rw [hget_get,List.getElem?_eq_none (by omega)];rfl)
 have hbak:∀ i,S1 i ≠ .unused→S2 (bakN ids nb i)=S1 i:=by
  intro i hi
  unfold bakN
  rw [nth_eq]
  cases hg:ids[i]? with
  | some b=>exact s2i b i (posN_get hnd hg)
  | none =>
   have:ids.length≤i:=List.getElem?_eq_none_iff.1 hg
   rcases Nat.lt_or_ge ids.length i with h1|h1
   ·exact absurd (far i h1) hi
   ·have:i=ids.length:=by omega
    subst this;exact s2n
 have hnd2:(ids++[nb]).Nodup:=by
  rw [List.nodup_append];exact ⟨hnd,by simp,fun a ha b hb e=>by simp at hb;subst hb;subst e;exact hni ha⟩
 have pos2:∀ c,posN c (ids++[nb])=match posN c ids with|some i=>some i|none=>if c=nb then some ids.length else none:=by
  intro c
  cases hp:posN c ids with
  | some i =>
   have h1:=posN_some hp
   exact posN_get hnd2 (by rw [List.getElem?_append_left (List.getElem?_eq_some_iff.1 h1).1];exact h1)
  | none =>
   by_cases hc:c=nb
   ·subst hc
    simp only [if_true]
    exact posN_get hnd2 (by simp)
   ·simp only [if_neg hc]
    cases hq:posN c (ids++[nb]) with
    | none=>rfl
    | some i =>
     have h1:=List.mem_of_getElem? (posN_some hq)
     simp at h1
     rcases h1 with h1|h1
     ·exact absurd h1 (posN_none hp)
     ·exact absurd h1 hc
 have hP:∀ c,hget (puts H (ids++[nb]) (H1.map (bakS ids nb))) c=match posN c ids with|some i=>bakS ids nb (hget H1 i)|none=>if c=nb then bakS ids nb (hget H1 ids.length) else hget H c:=by
  intro c
  rw [hget_puts _ _ _ _ hnd2,pos2 c]
  cases hp:posN c ids with
  | some i =>
   simp only
   have hi:=(List.getElem?_eq_some_iff.1 (posN_some hp)).1
   rw [List.getElem?_map,hget_get H1 i,List.getElem?_eq_getElem (by omega)];rfl
  | none =>
   by_cases hc:c=nb
   ·subst hc
    simp only [if_true]
    rw [List.getElem?_map,hget_get H1]
    cases hq:H1[ids.length]? with
    | some s=>rfl
    | none=>simp [hun];rfl
   ·simp [hc]
 have s0ne:∀ b i,posN b ids=some i→S0 i=S b∧S b ≠ .unused∧S b ≠ .dead:=by
  intro b i hp
  obtain ⟨x,hx⟩:=hlive b (List.mem_of_getElem? (posN_some hp))
  obtain ⟨q1,q2⟩:=live_not_dead hr hx
  exact ⟨hS0 b i hp q2,q2,q1⟩
 have wr0:∀ k,WR S0 (ids.map fun b=>renS ids (snapS H (hget H b))) k→∃ b x,b∈ids∧hget H b = .live x∧x.wr=true∧blkOf (S b)=some k:=by
  rintro k ⟨i,x,hx,hw,hk⟩
  rw [hH0] at hx
  have hk:blkOf (match ids[i]? with|some b=>S b|none=>SL.unused)=some k:=hk
  cases hi:ids[i]? with
  | none=>rw [hi] at hx;cases hx
  | some b =>
   rw [hi] at hx hk
   simp only at hx hk
   refine ⟨b,?_⟩
   cases hg:hget H b with
   | live y =>
    rw [hg] at hx
    refine ⟨y,List.mem_of_getElem? hi,rfl,?_,hk⟩
    cases y<;>simp [snapS,snapB,renS,renB] at hx<;>subst hx<;>exact hw
   | unused=>rw [hg] at hx;simp [snapS,renS] at hx
   | dead=>rw [hg] at hx;simp [snapS,renS] at hx
 have off0:∀ b k,b ∉ ids→blkOf (S b)=some k→¬ WR S0 (ids.map fun b=>renS ids (snapS H (hget H b))) k:=by
  intro b k hb hk hW
  obtain ⟨b',x,h1,_,_,h4⟩:=wr0 k hW
  have:=hr.inj _ _ _ hk h4
  subst this;exact hb h1
 have lt0:∀ b k,blkOf (S b)=some k→k<w.heap.size:=fun b k hk=>by obtain ⟨x,hx⟩:=slot_live hr hk;exact blkOf_lt hr hx hk
 have hFw:∀ k,F k→w'.heap[k]?=w.heap[k]?:=fun k hk=>adv1.same k (hr.fsz k hk) (rel0.not_wr (.inl hk))
 have hF0w:∀ k,FZ S F H frozen k→w'.heap[k]?=w.heap[k]?:=fun k hk=>adv1.same k (z1.fsz k hk) (rel0.not_wr hk)
 have hSS:∀ b,S b ≠ .unused→S2 b=S b∨S2 b = .dead:=by
  intro b hb
  cases hp:posN b ids with
  | some i =>
   obtain ⟨q1,q2,q3⟩:=s0ne b i hp
   rw [s2i b i hp]
   rcases adv1.ss i (by rw [q1];exact q2) with e|e
   ·exact .inl (e.trans q1)
   ·exact .inr e
  | none =>
   by_cases hc:b=nb
   ·subst hc;exact absurd (unused_S hr hun) hb
   ·exact .inl (s2o b (posN_none hp) hc)
 have old1:∀ b k,b ∉ ids→blkOf (S b)=some k→F1 k→FZ S F H frozen k:=by
  intro b k hb hk hF1
  rcases adv1.fn k hF1 with h1|h1|h1
  ·exact h1
  ·exact absurd h1 (off0 b k hb hk)
  ·have:=lt0 b k hk;omega
 have hinj:∀ b b' k,blkOf (S2 b)=some k→blkOf (S2 b')=some k→b=b':=by
  have mixed:∀ i c k,i≤ids.length→blkOf (S1 i)=some k→c ∉ ids→c≠nb→blkOf (S c)=some k→False:=by
   intro i c k hi h1 hc hcn h2
   rcases Nat.lt_or_ge i ids.length with hlt|hge
   ·have hg:=List.getElem?_eq_getElem hlt
    obtain ⟨q1,q2,q3⟩:=s0ne _ i (posN_get hnd hg)
    rcases adv1.ss i (by rw [q1];exact q2) with e|e
    ·rw [e,q1] at h1
     have:=hr.inj _ _ _ h1 h2
     subst this;exact hc (List.mem_of_getElem? hg)
    ·rw [e] at h1;cases h1
   ·have:i=ids.length:=by omega
    subst this
    obtain ⟨x,hx⟩:=slot_live rel1 h1
    have hxw:x.wr=true:=by rw [hx] at l3;cases x<;>exact l3
    rcases adv1.wr k ⟨_,x,hx,hxw,h1⟩ with hW|hW
    ·exact off0 c k hc h2 hW
    ·have:=lt0 c k h2;omega
  have code:∀ b,(∃ i,i≤ids.length∧S2 b=S1 i∧bakN ids nb i=b)∨(b ∉ ids∧b≠nb∧S2 b=S b):=by
   intro b
   cases hp:posN b ids with
   | some i =>
    have hg:=posN_some hp
    exact .inl ⟨i,by have:=(List.getElem?_eq_some_iff.1 hg).1;omega,s2i b i hp,by unfold bakN;rw [nth_eq,hg]⟩
   | none =>
    by_cases hc:b=nb
    ·subst hc;exact .inl ⟨ids.length,Nat.le_refl _,s2n,by unfold bakN;rw [nth_eq,List.getElem?_eq_none (Nat.le_refl _)]⟩
    ·exact .inr ⟨posN_none hp,hc,s2o b (posN_none hp) hc⟩
  intro b b' k h1 h2
  rcases code b with ⟨i,hi,e1,e2⟩|⟨hb,hbn,e1⟩<;>rcases code b' with ⟨j,hj,e3,e4⟩|⟨hb',hbn',e3⟩
  ·rw [e1] at h1;rw [e3] at h2
   have:=rel1.inj _ _ _ h1 h2
   subst this;rw [← e2,← e4]
  ·rw [e1] at h1;rw [e3] at h2;exact (mixed i b' k hi h1 hb' hbn' h2).elim
  ·rw [e1] at h1;rw [e3] at h2;exact (mixed j b k hj h2 hb hbn h1).elim
  ·rw [e1] at h1;rw [e3] at h2;exact hr.inj _ _ _ h1 h2
 have hWR:∀ k,WR S0 (ids.map fun b=>renS ids (snapS H (hget H b))) k→WR S H k:=fun k hk=>by
  obtain ⟨b,x,_,h2,h3,h4⟩:=wr0 k hk;exact ⟨b,x,h2,h3,h4⟩
 have advOf:∀ (F2:Nat→Prop) (H2:Heap),(∀ k,F k→F2 k)→(∀ k,F2 k→F1 k)→(∀ c,hget H2 c=hget (puts H (ids++[nb]) (H1.map (bakS ids nb))) c∨hget H2 c=frzS false (hget (puts H (ids++[nb]) (H1.map (bakS ids nb))) c))→Adv S F w H S2 F2 w' H2:=by
  intro F2 H2 a1 a2 a3
  refine ⟨a1,hSS,adv1.sz,fun k hk hn=>adv1.same k hk (fun hW=>hn (hWR k hW)),fun k hk=>?_,fun k hk=>?_,adv1.st⟩
  ·obtain ⟨c,x,hx,hw,hc⟩:=hk
   have hx':∃ y,hget (puts H (ids++[nb]) (H1.map (bakS ids nb))) c = .live y∧y.wr=true:=by
    rcases a3 c with e|e
    ·exact ⟨x,e ▸ hx,hw⟩
    ·rw [e] at hx
     cases hg:hget (puts H (ids++[nb]) (H1.map (bakS ids nb))) c with
     | live y=>rw [hg] at hx;cases y<;>simp [frzS] at hx<;>subst hx<;>simp [Blk.wr] at hw
     | unused=>rw [hg] at hx;cases hx
     | dead=>rw [hg] at hx;cases hx
   obtain ⟨y,hy,hyw⟩:=hx'
   rw [hP] at hy
   have new:∀ i,bakS ids nb (hget H1 i) = .live y→blkOf (S1 i)=some k→WR S H k∨w.heap.size≤k:=by
    intro i he hb
    cases hg:hget H1 i with
    | live z =>
     rw [hg] at he
     have hzw:z.wr=true:=by cases z<;>simp [bakS] at he<;>subst he<;>exact hyw
     rcases adv1.wr k ⟨i,z,hg,hzw,hb⟩ with h1|h1
     ·exact .inl (hWR k h1)
     ·exact .inr h1
    | unused=>rw [hg] at he;cases he
    | dead=>rw [hg] at he;cases he
   cases hp:posN c ids with
   | some i=>rw [hp] at hy;rw [s2i c i hp] at hc;exact new i hy hc
   | none =>
    rw [hp] at hy
    by_cases hcn:c=nb
    ·subst hcn;simp only [if_true] at hy;rw [s2n] at hc;exact new _ hy hc
    ·simp only [if_neg hcn] at hy
     rw [s2o c (posN_none hp) hcn] at hc
     exact .inl ⟨c,y,hy,hyw,hc⟩
  ·rcases adv1.fn k (a2 k hk) with h1|h1|h1
   ·rcases z2.fn k h1 with h2|h2|h2
    ·exact .inl h2
    ·exact .inr (.inl h2)
    ·exact .inr (.inr h2)
   ·exact .inr (.inl (hWR k h1))
   ·exact .inr (.inr h1)
 cases hflat:(flatV r1 && H1.all flatS) with
 | true =>
  rw [hflat] at h
  simp only [cond_true] at h
  simp only [Bool.and_eq_true] at hflat
  let F2:Nat→Prop:=fun k=>F1 k∧(F k∨¬ ∃ b x,b∈frozen∧hget H b = .live x∧blkOf (S b)=some k)
  have p1:∀ k,F k→F2 k:=fun k hk=>⟨adv1.ff k (.inl hk), .inl hk⟩
  have p2:∀ k,F2 k→F1 k:=fun k hk=>hk.1
  have newslot:∀ i,i≤ids.length→SlotOk S2 F2 w' (bakS ids nb (hget H1 i)) (S1 i):=by
   intro i hi
   have hfs:flatS (hget H1 i)=true:=by
    rw [hget_get]
    cases hg:H1[i]? with
    | none=>rfl
    | some s=>exact List.all_eq_true.1 hflat.2 s (List.mem_of_getElem? hg)
   refine slot_re (g:=bakC ids nb) (rel1.slots i) (by
    generalize hget H1 i=s
    cases s with
    | live x=>cases x<;>rfl
    | _=>rfl) (fun cs wr hg c v hc hvv=>?_) (fun t xs wr hg x j p v hp hvv=>?_) (fun k _ hn hk=>hn hk.1) (fun k hk hw hF=>⟨hF,?_⟩)
   ·rw [hg] at hfs
    exact flatC_val (List.all_eq_true.1 hfs c hc) hvv
   ·rw [hg] at hfs
    exact flat_any (cellsOf_flat t x j p hfs hp) hvv
   ·right
    rintro ⟨b,x,hb,hx,hbk⟩
    rcases Nat.lt_or_ge i ids.length with hlt|hge
    ·have hg:=List.getElem?_eq_getElem hlt
     obtain ⟨q1,q2,q3⟩:=s0ne _ i (posN_get hnd hg)
     rcases adv1.ss i (by rw [q1];exact q2) with e|e
     ·rw [e,q1] at hk
      have:=hr.inj _ _ _ hk hbk
      subst this;exact hdis _ hb (List.mem_of_getElem? hg)
     ·rw [e] at hk;cases hk
    ·have:i=ids.length:=by omega
     subst this
     rw [l3] at hw;cases hw
  refine ⟨_,_,S2,F2,h,⟨fun c=>?_,hinj,fun k hk=>rel1.fsz k hk.1,fun k hk=>p1 k (hr.gl.1 k hk),rel1.gl.2⟩,flatV_val hflat.1 val1,advOf F2 _ p1 p2 (fun c => .inl rfl)⟩
  rw [hP]
  cases hp:posN c ids with
  | some i=>simp only;rw [s2i c i hp];exact newslot i (by have:=(List.getElem?_eq_some_iff.1 (posN_some hp)).1;omega)
  | none =>
   by_cases hcn:c=nb
   ·subst hcn;simp only [if_true];rw [s2n];exact newslot _ (Nat.le_refl _)
   ·simp only [if_neg hcn]
    rw [s2o c (posN_none hp) hcn]
    refine (hr.slots c).mono p1 hFw hSS (fun k hk=>adv1.same k (lt0 c k hk) (off0 c k (posN_none hp) hk)) (fun k hk hF2=>?_)
    rcases old1 c k (posN_none hp) hk hF2.1 with h1|h1
    ·exact h1
    ·rcases hF2.2 with h2|h2
     ·exact h2
     ·exact absurd h1 h2
 | false =>
  rw [hflat] at h
  simp only [cond_false] at h
  have p1:∀ k,F k→F1 k:=fun k hk=>adv1.ff k (.inl hk)
  have newslot:∀ i,SlotOk S2 F1 w' (bakS ids nb (hget H1 i)) (S1 i):=by
   intro i
   refine slot_re (g:=bakC ids nb) (rel1.slots i) (by
    generalize hget H1 i=s
    cases s with
    | live x=>cases x<;>rfl
    | _=>rfl) (fun cs wr hg c v hc hvv=>bakC_val (fun _ h=>h) hbak hvv) (fun t xs wr hg x j p v hp hvv=>hvv.pure (fun _ h=>h) (fun _ _=>rfl) (cellsOf_pure _ _ _ _ hp)) (fun k _ hn=>hn) (fun k _ _ hF=>hF)
  refine ⟨_,_,S2,F1,h,⟨fun c=>?_,hinj,rel1.fsz,rel1.gl⟩,mapV_val (fun c v hvv=>bakC_val (fun _ h=>h) hbak hvv) val1,advOf F1 _ p1 (fun _ h=>h) (fun c=>?_)⟩
  ·rw [hget_frz,hP]
   have nofro:∀ c,c ∉ frozen→(!memN c frozen)=true:=fun c hc=>by
    cases hm:memN c frozen with
    | true=>exact absurd (memN_iff.1 hm) hc
    | false=>rfl
   cases hp:posN c ids with
   | some i =>
    simp only
    rw [nofro c (fun hc=>hdis c hc (List.mem_of_getElem? (posN_some hp))),frzS_true,s2i c i hp]
    exact newslot i
   | none =>
    by_cases hcn:c=nb
    ·subst hcn;simp only [if_true];rw [nofro c hnf,frzS_true,s2n];exact newslot _
    ·simp only [if_neg hcn]
     rw [s2o c (posN_none hp) hcn]
     have:=z1.slots c
     rw [hget_frz] at this
     exact this.mono (fun k hk=>adv1.ff k hk) hF0w hSS (fun k hk=>adv1.same k (lt0 c k hk) (off0 c k (posN_none hp) hk)) (fun k hk hF1=>old1 c k (posN_none hp) hk hF1)
  ·rw [hget_frz]
   cases memN c frozen with
   | true=>exact .inr rfl
   | false=>exact .inl (frzS_true _)
end
end Go.Proofs.YtdcphpbimeoioaaGreatDoorE
end
section
set_option linter.unusedSectionVars false
namespace Go.Proofs.YtdcphpbimeoioaaGreatDoorE
open Go
set_option linter.unusedVariables false
set_option linter.unusedSimpArgs false
variable [Dm]
section
variable {β:Type} {P:Program} {S S' S1 S2:Nat→SL} {F F' F1 F2:Nat→Prop} {w w':World} {H H' H1:Heap} {E:Env} {ρ:Operand→Value} {O:Orc} {nb:Nat} {r:β} {K:PV→Heap→Option β}
theorem runs_skip {m:Sem Unit} {R:Value→World→Prop} (h:∃ w',m.run P w = .ok () w'∧R undef w'):Runs P (do m;pure Next.skip) w R:=by
  obtain ⟨w',h1,h2⟩:=h
  unfold Runs
  simp [h1,h2]
theorem runs_call {f:FuncId} {vs:Array Value} {R:Value→World→Prop} (he:Enters P f) (h:Calls P f vs w fun e w'=>∃ v,e = .returned v∧R v w') {m:Sem Next} (hm:m.run P w=(callFunc f vs).run P w):Runs P m w R:=by
  obtain ⟨fn,h1,h2,h3⟩:=he
  unfold Runs
  have:(callFunc f vs).run P w = .ok (.enter f vs) w:=by
    obtain ⟨c,hc⟩:=Option.isSome_iff_exists.1 h2
    simp [callFunc,h1,h3,hc]
    intro hh
    rw [hh] at h3;simp at h3
  rw [hm,this]
  exact h
theorem isStr_iff {v:PV}:isStr v=true↔∃ s,v = .str s:=by cases v<;>simp [isStr]
theorem conv_arm (s d:TypeId) (x:Operand) (dst:Option Tmp) (ty:TypeId) (pos:String) (after:Array Edge) (g:Option (Nat×Bool)) (hr:Rel S F w H) (hd:Opd S F w E ρ) (h:act O nb E H (actOf P ⟨dst, .convert s d x,ty,pos,after,g⟩) K=some r) :
    Runs P (do pure (Next.value (← Go.convert s d (ρ x)))) w (Aft S F w H K r):=by
  have hv:=argOf_val (P:=P) hd s x
  simp only [actOf] at h
  split at h
  · rename_i k' k h1 h2
    obtain ⟨k0,n,e,h⟩:=asInt_some h
    rw [e] at hv
    rw [val_int hv]
    exact runs_tells ⟨_,w,by simp [Go.convert,run_underlying h1,run_underlying h2,Conv.intToInt]<;>rfl,aft_mk hr h (by simp only [iconv];exact .int _ _)⟩
  · rename_i h1 h2
    obtain ⟨s',e,h⟩:=asStr_some h
    rw [e] at hv
    rw [val_str hv]
    exact runs_tells ⟨_,w,by simp [Go.convert,run_underlying h1,run_underlying h2]<;>rfl,aft_mk hr h (.str _)⟩
  · rename_i e h1 h2
    split at h
    · rename_i h3
      obtain ⟨s',e',h⟩:=asStr_some h
      rw [e'] at hv
      rw [val_str hv]
      obtain ⟨u',w',g1,g2⟩:=ok_s2b (P:=P) (e:=e) hr h
      exact runs_tells ⟨u',w',by simp [Go.convert,run_underlying h1,run_underlying h2,run_underlying h3,g1],g2⟩
    · cases h
  · rename_i e h1 h2
    split at h
    · rename_i h3
      obtain ⟨hns,h⟩:=cond_none h
      have hns:∀ s',(argOf P s x).ev E ≠ .str s':=fun s' e'=>by rw [isStr_iff.2 ⟨s',e'⟩] at hns;cases hns
      obtain ⟨pv,u',g1,g2,g3⟩:=ok_b2s (P:=P) hr hv hns h
      refine runs_tells ⟨u',w,?_,aft_mk hr g1 g2⟩
      have hsl:∃ a l c,ρ x = .slice a l c:=by
        generalize (argOf P s x).ev E=p at h hv hns
        generalize ρ x=u at hv ⊢
        unfold elsOf at h
        cases hv<;>first|exact ⟨_,_,_,rfl⟩|(simp at h;done)|(exact absurd rfl (hns _))|skip
        all_goals
          rename_i hb ho
          obtain ⟨y,hy,_⟩:=live_some h
          exact absurd hb (live_not_dead hr hy).1
      obtain ⟨a,l,c,e'⟩:=hsl
      rw [e'] at g3 ⊢
      rw [run_convert_bytes_string w s d e a l c h1 h3 h2,g3]
    · cases h
  · cases h
theorem slice_arm (t:TypeId) (x:Operand) (lo hi:Option Operand) (dst:Option Tmp) (ty:TypeId) (pos:String) (after:Array Edge) (g:Option (Nat×Bool)) (hr:Rel S F w H) (hd:Opd S F w E ρ) (h:act O nb E H (actOf P ⟨dst, .slice t x lo hi none,ty,pos,after,g⟩) K=some r) :
    Runs P (do pure (Next.value (← Instr.sliceAt t (ρ x) (lo.map ρ) (hi.map ρ) none))) w (Aft S F w H K r):=by
  have hv:=argOf_val (P:=P) hd t x
  have hbd:∀ (S:Nat→SL) (F:Nat→Prop),Opd S F w E ρ→∀ (o:Option Operand),Bd S F w (optEv E (o.map (argOf P 2))) (o.map ρ):=by
    intro S F hd o
    cases o with
    | none=>trivial
    | some o=>exact argOf_val (P:=P) hd 2 o
  have go:∀ (st:Bool) (sz:Nat),((∃ e,P.underlying t=some (.slice e)∧szOf P e=some sz)∨P.underlying t=some .string)→(P.underlying t=some .string↔st=true)→act O nb E H (.slice st sz (argOf P t x) (lo.map (argOf P 2)) (hi.map (argOf P 2))) K=some r →
      Runs P (do pure (Next.value (← Instr.sliceAt t (ρ x) (lo.map ρ) (hi.map ρ) none))) w (Aft S F w H K r):=by
    intro st sz ht hst h
    simp only [act] at h
    obtain ⟨hs,h⟩:=cond_some h
    have hs:isStr ((argOf P t x).ev E)=st:=by simpa using hs
    generalize (argOf P t x).ev E=p at h hv hs
    unfold sliceK at h
    split at h
    · rename_i b
      obtain ⟨z1,z2⟩:=frz_rel hr [b]
      simp only [fH_eq] at h
      have hopd:Opd S (FZ S F H [b]) w E ρ:=⟨fun n=>(hd.tmp n).adv hr z2,hd.const,hd.func⟩
      have hx:Val S (FZ S F H [b]) w (cell1 H (.own b)) (ρ x):=cell1_val hr hv (fun k hk => .inl hk) (fun b' k hb' ⟨y,hy⟩ hk => .inr ⟨b',y,by simpa [ownC] using hb',hy,hk⟩)
      have hnst:P.underlying t=some .string↔∃ s,cell1 H (.own b) = .str s:=by
        constructor
        · intro hh;have:=hst.1 hh;rw [← hs] at this;cases this
        · rintro ⟨s,e⟩;unfold cell1 at e;simp only at e;split at e<;>cases e
      obtain ⟨pv,u',g1,g2,g3⟩:=ok_slice (K:=fun v=>K v (frz H [b])) hx (hbd _ _ hopd lo) (hbd _ _ hopd hi) ht hnst h
      exact runs_tells ⟨u',w,g3,pv,_,S,_,g1,z1,g2,z2⟩
    · rename_i t'
      have hnst:P.underlying t=some .string↔∃ s,PV.lst t' [] = .str s:=by
        constructor
        · intro hh;have:=hst.1 hh;rw [← hs] at this;cases this
        · rintro ⟨s,e⟩;cases e
      obtain ⟨pv,u',g1,g2,g3⟩:=ok_slice (K:=fun v=>K v H) (nil_lst hv) (hbd _ _ hd lo) (hbd _ _ hd hi) ht hnst h
      exact runs_tells ⟨u',w,g3,aft_mk hr g1 g2⟩
    · have hnst:P.underlying t=some .string↔∃ s,p = .str s:=by rw [← isStr_iff,hs];exact hst
      obtain ⟨pv,u',g1,g2,g3⟩:=ok_slice (K:=fun v=>K v H) hv (hbd _ _ hd lo) (hbd _ _ hd hi) ht hnst h
      exact runs_tells ⟨u',w,g3,aft_mk hr g1 g2⟩
  simp only [actOf] at h
  split at h
  · rename_i e hu
    split at h
    · rename_i n hz
      exact go false n (.inl ⟨e,hu,hz⟩) (by rw [hu];simp) h
    · cases h
  · rename_i hu
    exact go true 0 (.inr hu) (by rw [hu];simp) h
  · cases h
theorem ok_sliceW {b:Nat} {u:Value} {lo hi:Option PV} {lv hv:Option Value} {sz:Nat} {t e:TypeId} (hr:Rel S F w H) (hx:Val S F w (.own b) u) (h1:Bd S F w lo lv) (h2:Bd S F w hi hv) (hu:P.underlying t=some (.slice e)) (hz:szOf P e=some sz)
    (h:sliceW H sz (.own b) lo hi K=some r):∃ pv u',K pv H=some r∧Val S F w pv u'∧(Instr.sliceAt t u lv hv none).run P w = .ok u' w:=by
  have hsz:(sizeOf e).run P w = .ok sz w:=run_sizeOf hz w
  unfold sliceW at h
  obtain ⟨x,hb,h⟩:=live_some h
  cases x with
  | box _ _=>cases h
  | arr ty xs wr =>
    obtain ⟨hs,h⟩:=cond_some h
    have hs:ty.size=sz:=Nat.eq_of_beq_eq_true hs
    obtain ⟨a,cap,hS,hcap,_,_⟩:=hget_arr hr hb
    have hue:u = .slice a xs.length cap:=by
      cases hx with
      | own _ _ _ _ _ h=>rw [hS] at h;cases h;rfl
      | ownd _ _ h _=>rw [hS] at h;cases h
    subst hue
    have main:∀ (l hh:Int),0≤l→l≤hh→hh≤(xs.length:Int)→(Instr.sliceBounds true xs.length cap lv hv none).run P w = .ok (l.toNat,hh.toNat,cap) w→K (.view b l.toNat (hh.toNat - l.toNat)) H=some r →
        ∃ pv u',K pv H=some r∧Val S F w pv u'∧(Instr.sliceAt t (.slice a xs.length cap) lv hv none).run P w = .ok u' w:=by
      intro l hh a0 a1 a2 hb hK
      refine ⟨_,_,hK, .view b l.toNat (hh.toNat - l.toNat) a xs.length cap ty.size hS (by omega),?_⟩
      rw [hs]
      simp [Instr.sliceAt,underlying,hu,Instr.slice,hb,hsz]
    rcases bound_some h with ⟨e1,h⟩|⟨k1,n1,e1,h⟩<;>rcases bound_some h with ⟨e2,h⟩|⟨k2,n2,e2,h⟩<;>
      (obtain ⟨a0,h⟩:=cond_some h
       obtain ⟨a1,h⟩:=cond_some h
       obtain ⟨a2,h⟩:=cond_some h
       simp only [ile,decide_eq_true_eq] at a0 a1 a2
       exact main _ _ a0 a1 a2 (bd_run (P:=P) (sl:=true) (len:=(xs.length:Int)) (cap:=(cap:Int)) h1 h2 (by first|exact .inl ⟨e1,rfl⟩|exact .inr ⟨_,e1⟩) (by first|exact .inl ⟨e2,rfl⟩|exact .inr ⟨_,e2⟩) xs.length cap rfl rfl hcap a0 a1 a2) h)
theorem sliceV_arm (t:TypeId) (x:Operand) (lo hi:Option Operand) (dst:Option Tmp) (ty:TypeId) (pos:String) (after:Array Edge) (g:Option (Nat×Bool)) (v:Bool) (hr:Rel S F w H) (hd:Opd S F w E ρ) (h:act O nb E H (vwOf v (actOf P ⟨dst, .slice t x lo hi none,ty,pos,after,g⟩)) K=some r) :
    Runs P (do pure (Next.value (← Instr.sliceAt t (ρ x) (lo.map ρ) (hi.map ρ) none))) w (Aft S F w H K r):=by
  by_cases hp:∃ b,(argOf P t x).ev E = .own b∧v=true∧∃ e n,P.underlying t=some (.slice e)∧szOf P e=some n
  · obtain ⟨b,hp,rfl,e,n,hu,hz⟩:=hp
    have ha:actOf P ⟨dst, .slice t x lo hi none,ty,pos,after,g⟩ = .slice false n (argOf P t x) (lo.map (argOf P 2)) (hi.map (argOf P 2)):=by simp only [actOf,hu,hz]
    rw [ha] at h
    simp only [vwOf,cond_true,act] at h
    obtain ⟨_,h⟩:=cond_none h
    have hv:=argOf_val (P:=P) hd t x
    have hbd:∀ (o:Option Operand),Bd S F w (optEv E (o.map (argOf P 2))) (o.map ρ):=by
      intro o
      cases o with
      | none=>trivial
      | some o=>exact argOf_val (P:=P) hd 2 o
    rw [hp] at h hv
    obtain ⟨pv,u',g1,g2,g3⟩:=ok_sliceW hr hv (hbd lo) (hbd hi) hu hz h
    exact runs_tells ⟨u',w,g3,aft_mk hr g1 g2⟩
  · refine slice_arm (O:=O) (nb:=nb) t x lo hi dst ty pos after g hr hd ?_
    rw [← h]
    unfold vwOf
    split
    · rename_i sz x' lo' hi' ha
      cases v with
      | false=>rw [ha];rfl
      | true =>
        simp only [actOf] at ha
        split at ha
        · rename_i e hu
          split at ha
          · rename_i n hz
            cases ha
            simp only [actOf,hu,hz,cond_true,act]
            have hno:∀ b,(argOf P t x).ev E ≠ .own b:=fun b hb=>hp ⟨b,hb,rfl,e,_,hu,hz⟩
            generalize (argOf P t x).ev E=p at hno ⊢
            cases p<;>first|rfl|exact absurd rfl (hno _)
          · cases ha
        · cases ha
        · cases ha
    · rfl
theorem isZ_spec {x:Operand} (h:isZ x=true):x = .const (.int .i64 0):=by
  unfold isZ at h
  split at h
  · simp only [decide_eq_true_eq] at h;subst h;rfl
  · cases h
theorem sliceZ_arm (t:TypeId) (x:Operand) (lo hi:Option Operand) (m:Operand) (dst:Option Tmp) (ty:TypeId) (pos:String) (after:Array Edge) (g:Option (Nat×Bool)) (hr:Rel S F w H) (hd:Opd S F w E ρ) (h:act O nb E H (actOf P ⟨dst, .slice t x lo hi (some m),ty,pos,after,g⟩) K=some r) :
    Runs P (do pure (Next.value (← Instr.sliceAt t (ρ x) (lo.map ρ) (hi.map ρ) ((some m).map ρ)))) w (Aft S F w H K r):=by
  have hv:=argOf_val (P:=P) hd t x
  cases hi with
  | none=>simp only [actOf] at h;cases h
  | some hi =>
    simp only [actOf] at h
    split at h
    · rename_i e hu
      cases hc:(isZo lo && isZ hi && isZ m && (szOf P e).isSome) with
      | false=>rw [hc] at h;cases h
      | true =>
        rw [hc] at h
        simp only [Bool.and_eq_true] at hc
        obtain ⟨⟨⟨h1,h2⟩,h3⟩,h4⟩:=hc
        obtain ⟨n,hn⟩:=Option.isSome_iff_exists.1 h4
        have hsz:=run_sizeOf (P:=P) hn w
        have e2:=isZ_spec h2
        have e3:=isZ_spec h3
        subst e2;subst e3
        have hl:lo.map ρ=none∨lo.map ρ=some (.int .i64 0):=by
          cases lo with
          | none=>exact .inl rfl
          | some l=>have:=isZ_spec (x:=l) h1;subst this;exact .inr (by simp [hd.const])
        have hrun:∀ (a:Option Addr) (len cap:Nat),(Instr.sliceAt t (.slice a len cap) (lo.map ρ) ((some (Operand.const (.int .i64 0))).map ρ) ((some (Operand.const (.int .i64 0))).map ρ)).run P w = .ok (.slice a 0 0) w:=by
          intro a len cap
          rcases hl with hl|hl<;>rw [hl]<;>simp [Instr.sliceAt,underlying,hu,Instr.slice,Instr.sliceBounds,Instr.sliceBound,asIntOf,hd.const,hsz]
        simp only [cond_true,act] at h
        generalize (argOf P t x).ev E=p at h hv
        split at h
        · obtain ⟨_,h⟩:=cond_some h
          generalize ρ x=u at hv ⊢
          cases hv with
          | lst _ _ a cap vf hc ha hsp hcell hv'=>exact runs_tells ⟨_,w,hrun _ _ _,aft_mk hr h (.emp _ a)⟩
        · obtain ⟨_,h⟩:=cond_some h
          generalize ρ x=u at hv ⊢
          cases hv with
          | nil _=>exact runs_tells ⟨_,w,hrun _ _ _,aft_mk hr h (.emp _ none)⟩
        · cases h
    · cases h
end
end Go.Proofs.YtdcphpbimeoioaaGreatDoorE
end
section
set_option linter.unusedSectionVars false
namespace Go.Proofs.YtdcphpbimeoioaaGreatDoorE
open Go
set_option linter.unusedVariables false
set_option linter.unusedSimpArgs false
variable [Dm]
section
variable {β:Type} {P:Program} {S S' S1 S2:Nat→SL} {F F' F1 F2:Nat→Prop} {w w':World} {H H' H1:Heap} {E:Env} {ρ:Operand→Value} {O:Orc} {nb:Nat} {r:β} {K:PV→Heap→Option β}
theorem args_vals (hd:Opd S F w E ρ) {xs:Array Operand} {ts:Array TypeId} (hl:xs.size=ts.size) (g:Operand×TypeId→Bool) :
  (xs.map ρ).size=(callPs E ((xs.toList.zip ts.toList).map fun x=>(g x,argOf P x.2 x.1))).length ∧
  ∀ (i:Nat) (p:Bool×PV) (v:Value),(callPs E ((xs.toList.zip ts.toList).map fun x=>(g x,argOf P x.2 x.1)))[i]?=some p→(xs.map ρ)[i]?=some v→Val S F w p.2 v:=by
 refine ⟨by simp [callPs,hl],fun i p v hp hv=>?_⟩
 simp only [callPs,List.map_map,List.getElem?_map] at hp
 cases hz:(xs.toList.zip ts.toList)[i]? with
 | none=>rw [hz] at hp;cases hp
 | some q =>
  rw [hz] at hp
  simp only [Option.map_some,Option.some.injEq,Function.comp] at hp
  subst hp
  obtain ⟨x,t⟩:=q
  rw [List.getElem?_zip_eq_some] at hz
  have hx:xs[i]?=some x:=by simpa using hz.1
  simp [hx] at hv
  subst hv
  exact argOf_val hd t x
theorem list_vals (hd:Opd S F w E ρ) {xs:List Operand} {ts:List TypeId} (hl:xs.length=ts.length):∀ (i:Nat) (p:PV) (v:Value),(((xs.zip ts).map fun x=>argOf P x.2 x.1).map (Arg.ev E))[i]?=some p→(xs.map ρ)[i]?=some v→Val S F w p v:=by
 intro i p v hp hv
 simp only [List.map_map,List.getElem?_map] at hp hv
 cases hz:(xs.zip ts)[i]? with
 | none=>rw [hz] at hp;cases hp
 | some q =>
  rw [hz] at hp
  simp only [Option.map_some,Option.some.injEq,Function.comp] at hp
  subst hp
  obtain ⟨x,t⟩:=q
  rw [List.getElem?_zip_eq_some] at hz
  rw [hz.1] at hv
  simp at hv;subst hv
  exact argOf_val hd t x
theorem builtin_arm (hr:Rel S F w H) (hd:Opd S F w E ρ) (b:Builtin) (args:Array Operand) (ts:Array TypeId) (ty:TypeId) (consts:Array Bool) (h:act O nb E H (builtinOf P b ts args) K=some r) :
  Runs P (Go.builtin b ts ty consts (args.map ρ)) w (Aft S F w H K r):=by
 obtain ⟨args⟩:=args
 obtain ⟨ts⟩:=ts
 unfold builtinOf at h
 simp only at h
 split at h
 ·
  rename_i x t
  have hv:=argOf_val (P:=P) hd t x
  have go:∀ st,act O nb E H (.len st (argOf P t x)) K=some r→(((∃ e,P.underlying t=some (.slice e))∧st=false)∨(P.underlying t=some .string∧st=true))→Runs P (Go.builtin .len #[t] ty consts #[ρ x]) w (Aft S F w H K r):=by
   intro st h hu
   simp only [act] at h
   obtain ⟨hs,h⟩:=cond_some h
   have hs:isStr ((argOf P t x).ev E)=st:=by simpa using hs
   obtain ⟨n,g1,g2⟩:=ok_len (P:=P) (ty:=ty) hr hv h (by
    rcases hu with ⟨h1,h2⟩|⟨h1,h2⟩
    ·exact .inl ⟨h1,fun s e=>by rw [e,h2] at hs;cases hs⟩
    ·exact .inr ⟨h1,by rw [h2] at hs;exact isStr_iff.1 hs⟩)
   exact runs_tells ⟨_,w,g2,aft_mk hr g1 (.int _ _)⟩
  split at h
  ·rename_i e hu;have:=go false h (.inl ⟨⟨e,hu⟩,rfl⟩);simpa using this
  ·rename_i hu;have:=go true h (.inr ⟨hu,rfl⟩);simpa using this
  ·cases h
 ·
  rename_i x y t u
  have hx:=argOf_val (P:=P) hd t x
  have hy:=argOf_val (P:=P) hd u y
  have go:∀ (st:Bool) (e:TypeId) (z:List PV) (n:Nat),P.underlying t=some (.slice e)→zeroPV P e=some z→szOf P e=some n→((∃ e',P.underlying u=some (.slice e'))∧st=false)∨(P.underlying u=some .string∧st=true)→act O nb E H (bif Nat.blt 0 (P.bytesOf e) then .append st n (P.bytesOf e) (argOf P t x) (argOf P u y) else .bad) K=some r →
    Runs P (Go.builtin .append #[t,u] ty consts #[ρ x,ρ y]) w (Aft S F w H K r):=by
   intro st e z n hu hz hs hk h
   cases hb:Nat.blt 0 (P.bytesOf e) with
   | false=>rw [hb] at h;cases h
   | true =>
    rw [hb] at h
    simp only [cond_true,act] at h
    obtain ⟨hst,h⟩:=cond_some h
    have hst:isStr ((argOf P u y).ev E)=st:=by simpa using hst
    have hbp:0<P.bytesOf e:=Nat.lt_of_lt_of_le (Nat.zero_lt_succ 0) (Nat.le_of_ble_eq_true hb)
    obtain ⟨u',w',g1,g2⟩:=ok_append (P:=P) (ty:=ty) (tx:=u) hr hx hy hu hz hs hbp rfl (by rcases hk with ⟨h1,_⟩|⟨h1,_⟩;exact .inl h1;exact .inr h1) (by
     rw [← isStr_iff,hst]
     rcases hk with ⟨⟨e',h1⟩,h2⟩|⟨h1,h2⟩
     ·rw [h1,h2];simp
     ·rw [h1,h2];simp) h
    exact runs_tells ⟨u',w',g1,g2⟩
  split at h
  ·rename_i e e' h1 h2
   split at h
   ·rename_i z n hz hs;have:=go false e _ _ h1 hz hs (.inl ⟨⟨e',h2⟩,rfl⟩) h;simpa using this
   ·cases h
  ·rename_i e h1 h2
   split at h
   ·rename_i z n hz hs;have:=go true e _ _ h1 hz hs (.inr ⟨h2,rfl⟩) h;simpa using this
   ·cases h
  ·cases h
 ·split at h<;>cases h
 ·split at h<;>cases h
 ·
  cases hl:Nat.beq args.length ts.length with
  | false=>rw [hl] at h;cases h
  | true =>
   rw [hl] at h
   have hl:=Nat.eq_of_beq_eq_true hl
   simp only [cond_true,act] at h
   have hvs:=list_vals (P:=P) hd hl
   split at h
   ·rename_i p l hpl
    cases args with
    | nil=>simp at hpl
    | cons a args =>
     rw [hpl] at hvs
     have hll:args.length=l.length:=by have:=congrArg List.length hpl;simp at this hl;omega
     obtain ⟨pv,u',g1,g2,g3⟩:=ok_folds (P:=P) (lt:=true) (u:=ρ a) (us:=args.map ρ) (hvs 0 p _ rfl rfl) (by simpa using hll) (fun i q v e1 e2=>hvs (i+1) q v (by simpa using e1) (by simpa using e2)) h
     refine runs_tells (m:=Builtin.min_ ts.toArray ty ((a ::args).toArray.map ρ)) ⟨u',w,?_,aft_mk hr g1 g2⟩
     simpa [Builtin.min_] using g3
   ·cases h
 ·
  cases hl:Nat.beq args.length ts.length with
  | false=>rw [hl] at h;cases h
  | true =>
   rw [hl] at h
   have hl:=Nat.eq_of_beq_eq_true hl
   simp only [cond_true,act] at h
   have hvs:=list_vals (P:=P) hd hl
   split at h
   ·rename_i p l hpl
    cases args with
    | nil=>simp at hpl
    | cons a args =>
     rw [hpl] at hvs
     have hll:args.length=l.length:=by have:=congrArg List.length hpl;simp at this hl;omega
     obtain ⟨pv,u',g1,g2,g3⟩:=ok_folds (P:=P) (lt:=false) (u:=ρ a) (us:=args.map ρ) (hvs 0 p _ rfl rfl) (by simpa using hll) (fun i q v e1 e2=>hvs (i+1) q v (by simpa using e1) (by simpa using e2)) h
     refine runs_tells (m:=Builtin.max_ ts.toArray ty ((a ::args).toArray.map ρ)) ⟨u',w,?_,aft_mk hr g1 g2⟩
     simpa [Builtin.max_] using g3
   ·cases h
 ·cases h
theorem call_arm (hO:OrcOk P O) (hr:Rel S F w H) (hd:Opd S F w E ρ) (c:Call) (dst:Option Tmp) (ty:TypeId) (pos:String) (after:Array Edge) (g:Option (Nat×Bool)) (h:act O nb E H (actOf P ⟨dst, .call c,ty,pos,after,g⟩) K=some r) :
  Runs P (do let d ← resolve ρ c ty;invoke d.target d.args) w (Aft S F w H K r):=by
 obtain ⟨callee,args,ts⟩:=c
 simp only [actOf] at h
 split at h
 ·rename_i b
  have:=fun cs=>builtin_arm hr hd b args ts ty cs h
  unfold Runs at this ⊢
  simp only [resolve,invoke,pure_bind]
  exact this _
 ·rename_i f
  cases hl:Nat.beq args.size ts.size with
  | false=>rw [hl] at h;cases h
  | true =>
   rw [hl] at h
   have hl:=Nat.eq_of_beq_eq_true hl
   simp only [cond_true,act] at h
   obtain ⟨a1,a2⟩:=args_vals (P:=P) hd hl (fun x=>inPlaceT P (nameOf P f) x.2)
   obtain ⟨he,hc⟩:=callK_ok (vs:=args.map ρ) hO hr a1 a2 h
   exact runs_call he hc (by simp [resolve,hd.func,Deferred.ofValue,invoke])
 ·rename_i x hx
  cases hl:Nat.beq args.size ts.size with
  | false=>rw [hl] at h;cases h
  | true =>
   rw [hl] at h
   have hl:=Nat.eq_of_beq_eq_true hl
   simp only [cond_true,act] at h
   have hv:=argOf_val (P:=P) hd 0 x
   generalize (argOf P 0 x).ev E=p at h hv
   split at h
   ·rename_i f a b
    generalize hxv:ρ x=u at hv
    cases hv with
    | fn _ _ _ va vb la lb ha hb =>
     obtain ⟨a1,a2⟩:=args_vals (P:=P) hd hl (fun _=>false)
     have e0:callVs E a ((args.toList.zip ts.toList).map fun x=>argOf P x.2 x.1) b=(a.map fun v=>(false,v))++callPs E ((args.toList.zip ts.toList).map fun x=>(false,argOf P x.2 x.1))++b.map fun v=>(false,v):=by
      simp [callVs,callPs]
     rw [e0] at h
     obtain ⟨he,hc⟩:=callK_ok (vs:=va++args.map ρ++vb) hO hr (by simp [la,lb];simpa using a1) (fun i q v e1 e2=>by
      rw [List.getElem?_append] at e1
      rw [Array.getElem?_append] at e2
      have hla:(va++args.map ρ).size=((a.map fun v=>(false,v))++callPs E ((args.toList.zip ts.toList).map fun x=>(false,argOf P x.2 x.1))).length:=by simp [la];simpa using a1
      by_cases h1:i<(va++args.map ρ).size
      ·rw [if_pos h1] at e2
       rw [if_pos (by rw [← hla];exact h1)] at e1
       rw [List.getElem?_append] at e1
       rw [Array.getElem?_append] at e2
       by_cases h2:i<va.size
       ·rw [if_pos h2] at e2
        rw [if_pos (by simpa [la] using h2),List.getElem?_map] at e1
        cases hq:a[i]? with
        | none=>rw [hq] at e1;cases e1
        | some q'=>rw [hq] at e1;cases e1;exact ha i q' v hq e2
       ·rw [if_neg h2] at e2
        rw [if_neg (by simpa [la] using h2)] at e1
        rw [List.length_map,← la] at e1
        exact a2 _ q v e1 e2
      ·rw [if_neg h1] at e2
       rw [if_neg (by rw [← hla];exact h1),← hla,List.getElem?_map] at e1
       cases hq:b[i - (va++args.map ρ).size]? with
       | none=>rw [hq] at e1;cases e1
       | some q'=>rw [hq] at e1;cases e1;exact hb _ q' v hq e2) h
     exact runs_call he hc (by simp [resolve,hxv,Deferred.ofValue,invoke,Array.append_assoc])
   ·cases h
 ·cases h
theorem bin_arm (op:BinOp) (t:TypeId) (x y:Operand) (u:TypeId) (dst:Option Tmp) (ty:TypeId) (pos:String) (after:Array Edge) (g:Option (Nat×Bool)) (hr:Rel S F w H) (hd:Opd S F w E ρ) (h0:act O nb E H (actOf P ⟨dst, .binOp op t x y u,ty,pos,after,g⟩) K=some r) :
  Runs P (do pure (Next.value (← (do eqGuard op t x y (ρ x) (ρ y);Go.binOp op t (ρ x) (ρ y))))) w (Aft S F w H K r):=by
 have hx:=argOf_val (P:=P) hd t x
 have hy:=argOf_val (P:=P) hd u y
 have gbin:act O nb E H (.bin op (argOf P t x) (argOf P u y)) K=some r→Runs P (do pure (Next.value (← (do eqGuard op t x y (ρ x) (ρ y);Go.binOp op t (ρ x) (ρ y))))) w (Aft S F w H K r):=by
  intro h
  simp only [act] at h
  exact out_runs hr (ok_bin (P:=P) h hx hy t x y)
 have gbeq:∀ (neg:Bool),op=(if neg then .neq else .eql)→P.underlying t=some .bool→act O nb E H (.beq neg (argOf P t x) (argOf P u y)) K=some r→Runs P (do pure (Next.value (← (do eqGuard op t x y (ρ x) (ρ y);Go.binOp op t (ρ x) (ρ y))))) w (Aft S F w H K r):=by
  intro neg ho hu h
  subst ho
  simp only [act] at h
  obtain ⟨a,ea,h⟩:=asBool_some h
  obtain ⟨b,eb,h⟩:=asBool_some h
  rw [ea] at hx;rw [eb] at hy
  rw [val_bool hx,val_bool hy]
  exact runs_tells ⟨_,w,ok_beq (P:=P) hu x y,aft_mk hr h (.bool _)⟩
 have gaeq:∀ (neg:Bool) (fs:Array Field),op=(if neg then .neq else .eql)→P.underlying t=some (.struct fs)→act O nb E H (bif eqOk P 20 t && !P.eqGuardType P.depth t then .aeq neg (leafs P 20 t) (argOf P t x) (argOf P u y) else .bad) K=some r →
   Runs P (do pure (Next.value (← (do eqGuard op t x y (ρ x) (ρ y);Go.binOp op t (ρ x) (ρ y))))) w (Aft S F w H K r):=by
  intro neg fs ho hu h
  subst ho
  cases hc:(eqOk P 20 t && !P.eqGuardType P.depth t) with
  | false=>rw [hc] at h;cases h
  | true =>
   rw [hc] at h
   simp only [Bool.and_eq_true,Bool.not_eq_true'] at hc
   simp only [cond_true,act] at h
   generalize (argOf P t x).ev E=p at h hx
   generalize (argOf P u y).ev E=q at h hy
   split at h
   ·rename_i a b
    obtain ⟨hk,h⟩:=cond_some h
    obtain ⟨vs,ex⟩:∃ vs,ρ x = .agg vs:=by generalize ρ x=z at hx;cases hx;exact ⟨_,rfl⟩
    obtain ⟨us,ey⟩:∃ vs,ρ y = .agg vs:=by generalize ρ y=z at hy;cases hy;exact ⟨_,rfl⟩
    rw [ex] at hx ⊢;rw [ey] at hy ⊢
    exact out_runs hr (ok_aeq (P:=P) (K:=fun v=>K v H) h hk hc.1 hc.2 fs hu hx hy x y)
   ·cases h
 simp only [actOf] at h0
 split at h0
 ·exact gbin h0
 ·exact gbin h0
 ·rename_i hu;exact gbeq false rfl hu h0
 ·rename_i hu;exact gbeq true rfl hu h0
 ·rename_i fs hu;exact gaeq false fs rfl hu h0
 ·rename_i fs hu;exact gaeq true fs rfl hu h0
 ·cases h0
end
end Go.Proofs.YtdcphpbimeoioaaGreatDoorE
end
section
set_option linter.unusedSectionVars false
namespace Go.Proofs.YtdcphpbimeoioaaGreatDoorE
open Go
set_option linter.unusedVariables false
set_option linter.unusedSimpArgs false
variable [Dm]
section
variable {β:Type} {P:Program} {S S' S1 S2:Nat→SL} {F F' F1 F2:Nat→Prop} {w w':World} {H H' H1:Heap} {E:Env} {ρ:Operand→Value} {O:Orc} {nb:Nat} {r:β} {K:PV→Heap→Option β}
theorem act_ok (hO:OrcOk P O) (hr:Rel S F w H) (hd:Opd S F w E ρ) (o:Oper) (h:act O nb E H (actOf P o) K=some r):Runs P (execOp ρ o) w (Aft S F w H K r):=by
 obtain ⟨dst,op,ty,pos,after,g⟩:=o
 cases op with
 | move x=>exact runs_val rfl (aft_mk hr h (argOf_val (P:=P) hd ty x))
 | assign x=>exact runs_val rfl (aft_mk hr h (argOf_val (P:=P) hd ty x))
 | pick c a b =>
  simp only [actOf,act] at h
  have hc:=argOf_val (P:=P) hd ty c
  have ha:=argOf_val (P:=P) hd ty a
  have hb:=argOf_val (P:=P) hd ty b
  obtain ⟨t,e,h⟩:=asBool_some h
  rw [e] at hc
  have hc:=val_bool hc
  cases t with
  | true=>exact runs_val (by simp [execOp,hc,Go.asBool]) (aft_mk hr h ha)
  | false=>exact runs_val (by simp [execOp,hc,Go.asBool]) (aft_mk hr h hb)
 | alloc e =>
  simp only [actOf] at h
  split at h
  ·rename_i z hz
   obtain ⟨u,w',g1,g2⟩:=ok_alloc (P:=P) hr hz h
   exact runs_tells ⟨u,w',g1,g2⟩
  ·cases h
 | box e x =>
  obtain ⟨u,w',g1,g2⟩:=ok_box (P:=P) (e:=e) hr (argOf_val (P:=P) hd e x) h
  exact runs_tells ⟨u,w',g1,g2⟩
 | build t parts =>
  simp only [actOf] at h
  split at h
  ·rename_i fs z hu hz
   split at h
   ·rename_i ps hps hfs
    exact out_runs hr (ok_build (P:=P) hd hu hz hps hfs h)
   ·cases h
  ·cases h
 | buildSlice t n parts =>
  simp only [actOf] at h
  split at h
  ·rename_i e hu
   split at h
   ·rename_i k z hs hz
    cases hc:(Nat.beq k (tyOf P 20 e).size && Nat.ble (n * k) 1000 && Nat.blt 0 k) with
    | false=>rw [hc] at h;cases h
    | true =>
     rw [hc] at h
     simp only [Bool.and_eq_true] at hc
     simp only [cond_true,act] at h
     obtain ⟨u',w',g1,g2⟩:=ok_bslice (P:=P) hr hd hu hz hs (Nat.eq_of_beq_eq_true hc.1.1) (by have:=Nat.le_of_ble_eq_true hc.2;omega) (Nat.le_of_ble_eq_true hc.1.2) h
     exact runs_tells ⟨u',w',g1,g2⟩
   ·cases h
  ·cases h
 | load t a =>
  simp only [actOf] at h
  split at h
  ·rename_i k hk
   exact out_runs hr (ok_load (P:=P) hr (argOf_val (P:=P) hd 0 a) hk h)
  ·cases h
 | store t a x =>
  simp only [actOf] at h
  split at h
  ·rename_i n hz
   simp only [act] at h
   have hx:=argOf_val (P:=P) hd t x
   have ha:=argOf_val (P:=P) hd 0 a
   generalize (argOf P 0 a).ev E=p at h ha
   split at h
   ·exact runs_skip (ok_store (P:=P) hr ha hx hz h)
   ·cases h
  ·cases h
 | nilCheck x =>
  simp only [actOf,act] at h
  have hx:=argOf_val (P:=P) hd 0 x
  obtain ⟨hK,hu⟩:=ok_nilck hr hx h
  have:∃ v,(execOp ρ ⟨dst, .nilCheck x,ty,pos,after,g⟩).run P w = .ok (.value v) w∧v=ρ x:=by
   rcases hu with ⟨a,e⟩|⟨f,a,b,e⟩
   ·exact ⟨_,by simp [execOp,e],e.symm⟩
   ·exact ⟨_,by simp [execOp,e],e.symm⟩
  obtain ⟨v,e1,e2⟩:=this
  subst e2
  exact runs_val e1 (aft_mk hr hK hx)
 | binOp op t x y u=>exact bin_arm op t x y u dst ty pos after g hr hd h
 | unOp op t x =>
  simp only [actOf,act] at h
  exact out_runs hr (ok_un (P:=P) h (argOf_val (P:=P) hd t x))
 | convert s d x=>exact conv_arm s d x dst ty pos after g hr hd h
 | makeSlice t l c =>
  simp only [actOf] at h
  split at h
  ·rename_i e hu
   split at h
   ·rename_i k z hs hz
    cases hc:(Nat.beq k (tyOf P 20 e).size && Nat.blt 0 (P.bytesOf e) && Nat.blt 0 k) with
    | false=>rw [hc] at h;cases h
    | true =>
     rw [hc] at h
     simp only [Bool.and_eq_true] at hc
     simp only [cond_true,act] at h
     have hl:=argOf_val (P:=P) hd 2 l
     have hcv:=argOf_val (P:=P) hd 2 c
     obtain ⟨k1,n1,e1,h⟩:=asInt_some h
     obtain ⟨k2,n2,e2,h⟩:=asInt_some h
     rw [e1] at hl;rw [e2] at hcv
     obtain ⟨u',w',g1,g2⟩:=ok_mks (P:=P) (kl:=k1) (kc:=k2) hr hu hz hs (Nat.eq_of_beq_eq_true hc.1.1) (by have:=Nat.le_of_ble_eq_true hc.2;omega) (by have:=Nat.le_of_ble_eq_true hc.1.2;omega) rfl h
     exact runs_tells (m:=Instr.makeSlice t (ρ l) (ρ c)) ⟨u',w',by rw [val_int hl,val_int hcv];exact g1,g2⟩
   ·cases h
  ·cases h
 | slice t x lo hi mx =>
  cases mx with
  | none=>exact slice_arm t x lo hi dst ty pos after g hr hd h
  | some m=>exact sliceZ_arm t x lo hi m dst ty pos after g hr hd h
 | fieldAddr t x i =>
  simp only [actOf] at h
  split at h
  ·rename_i f hf
   split at h
   ·rename_i n hz
    exact out_runs hr (ok_fadr (P:=P) hr (argOf_val (P:=P) hd 0 x) hf hz h)
   ·cases h
  ·cases h
 | field t x i =>
  simp only [actOf] at h
  split at h
  ·rename_i f hf
   split at h
   ·rename_i k hk
    simp only [act] at h
    have hx:=argOf_val (P:=P) hd t x
    generalize (argOf P t x).ev E=p at h hx
    split at h
    ·rename_i cs
     obtain ⟨vs,ex⟩:∃ vs,ρ x = .agg vs:=by generalize ρ x=z at hx;cases hx;exact ⟨_,rfl⟩
     rw [ex] at hx
     obtain ⟨pv,u',g1,g2,g3⟩:=ok_fld (P:=P) (K:=fun v=>K v H) hx hf hk h
     exact runs_tells (m:=Instr.field t (ρ x) i) ⟨u',w,by rw [ex];exact g3,aft_mk hr g1 g2⟩
    ·cases h
   ·cases h
  ·cases h
 | indexAddr t x i =>
  simp only [actOf] at h
  split at h
  ·rename_i e hu
   split at h
   ·rename_i n hz
    simp only [act] at h
    have hi:=argOf_val (P:=P) hd 2 i
    obtain ⟨k,m,e',h⟩:=asInt_some h
    rw [e'] at hi
    obtain ⟨pv,u',g1,g2,g3⟩:=ok_iadr (P:=P) (k:=k) (v:=undef) hr (argOf_val (P:=P) hd t x) hu hz h
    exact runs_tells (m:=Instr.indexAt t (ρ x) (ρ i)) ⟨u',w,by rw [val_int hi];exact g3,aft_mk hr g1 g2⟩
   ·cases h
  ·cases h
 | index t x i =>
  simp only [actOf] at h
  split at h
  ·rename_i hu
   simp only [act] at h
   have hx:=argOf_val (P:=P) hd t x
   have hi:=argOf_val (P:=P) hd 2 i
   obtain ⟨s,e1,h⟩:=asStr_some h
   obtain ⟨k,m,e2,h⟩:=asInt_some h
   obtain ⟨h1,h⟩:=cond_some h
   obtain ⟨h2,h⟩:=cond_some h
   rw [e1] at hx;rw [e2] at hi
   obtain ⟨pv,u',g1,g2,g3⟩:=ok_idx (P:=P) (S:=S) (F:=F) (w:=w) (k:=k) (K:=fun v=>K v H) hu h1 h2 h
   exact runs_tells (m:=Instr.index t (ρ x) (ρ i)) ⟨u',w,by rw [val_str hx,val_int hi];exact g3,aft_mk hr g1 g2⟩
  ·cases h
 | extract x i =>
  simp only [actOf,act] at h
  have hx:=argOf_val (P:=P) hd 0 x
  obtain ⟨vs,e,h⟩:=asTup_some h
  rw [e] at hx
  exact out_runs hr (ok_ext (P:=P) (K:=fun v=>K v H) hx h)
 | call c=>exact call_arm hO hr hd c dst ty pos after g h
 | makeFunc fn first caps =>
  cases fn with
  | func f =>
   simp only [actOf,act] at h
   refine runs_val rfl (aft_mk hr h (.fn f _ _ _ _ (by simp) (by simp) (fun i p v hp hv=>?_) (fun i p v hp hv=>?_)))
   ·simp only [List.map_map,List.getElem?_map,Array.getElem?_toList] at hp
    simp only [Array.getElem?_map] at hv
    cases hq:first[i]? with
    | none=>rw [hq] at hp;cases hp
    | some q=>rw [hq] at hp hv;cases hp;cases hv;exact argOf_val hd 0 q
   ·simp only [List.map_map,List.getElem?_map,Array.getElem?_toList] at hp
    simp only [Array.getElem?_map] at hv
    cases hq:caps[i]? with
    | none=>rw [hq] at hp;cases hp
    | some q=>rw [hq] at hp hv;cases hp;cases hv;exact argOf_val hd 0 q
  | _=>simp only [actOf] at h;cases h
 | _=>simp only [actOf] at h;cases h
theorem actV_ok (hO:OrcOk P O) (hr:Rel S F w H) (hd:Opd S F w E ρ) (o:Oper) (v:Bool) (h:act O nb E H (actV P v o) K=some r):Runs P (execOp ρ o) w (Aft S F w H K r):=by
 obtain ⟨dst,op,ty,pos,after,g⟩:=o
 cases op with
 | slice t x lo hi mx =>
  cases mx with
  | none=>exact sliceV_arm t x lo hi dst ty pos after g v hr hd h
  | some m=>exact act_ok hO hr hd _ h
 | _=>exact act_ok hO hr hd _ h
end
end Go.Proofs.YtdcphpbimeoioaaGreatDoorE
end
section
set_option linter.unusedSectionVars false
namespace Go.Proofs.YtdcphpbimeoioaaGreatDoorE
open Go
set_option linter.unusedVariables false
set_option linter.unusedSimpArgs false
variable [Dm]
structure At (S:Nat→SL) (F:Nat→Prop) (w:World) (E:Env) (a:Act) (n:Nat):Prop where
 opd:Opd S F w E a.eval
 size:a.tmps.size=n
 defers:a.defers=[]
section
variable {β:Type} {P:Program} {S S':Nat→SL} {F F':Nat→Prop} {w w':World} {H H':Heap} {E E':Env} {O:Orc} {a:Act} {n:Nat} {r:β}
theorem get_cons (t u:Nat) (v:PV) (E:Env):get ((t,v) ::E) u=if t=u then v else get E u:=by
 simp only [get]
 by_cases h:t=u
 ·subst h;simp [show Nat.beq t t=true from Nat.beq_refl t]
 ·have:Nat.beq t u=false:=by cases hb:Nat.beq t u;rfl;exact absurd (Nat.eq_of_beq_eq_true hb) h
  simp [this,h]
theorem At.adv (h:At S F w E a n) (hr:Rel S F w H) (hA:Adv S F w H S' F' w' H'):At S' F' w' E a n :=
 ⟨⟨fun k=>(h.opd.tmp k).adv hr hA,h.opd.const,h.opd.func⟩,h.size,h.defers⟩
theorem At.put (h:At S F w E a n) {v:PV} {u:Value} (hv:Val S F w v u) {dst:Option Nat} (hd:∀ d,dst=some d→d<n):At S F w (putD dst v E) (a.put dst u) n:=by
 cases dst with
 | none=>exact h
 | some d =>
  have hlt:=hd d rfl
  refine ⟨⟨fun k=>?_,fun v=>rfl,fun f=>rfl⟩,by simp [Act.put,h.size],h.defers⟩
  simp only [putD,get_cons]
  split
  ·rename_i e
   subst e
   have:(a.put (some d) u).eval (.tmp d)=u:=by simp [Act.eval,Act.put,h.size,hlt]
   rw [this]
   exact hv
  ·rename_i e
   rw [Act.eval_put (fun d' hd' e'=>by cases hd';cases e';exact e rfl)]
   exact h.opd.tmp k
theorem At.know (h:At S F w E a n) {t:Nat} {b:PV} (hb:get E t=b):At S F w ((t,b) ::E) a n:=by
 refine ⟨⟨fun k=>?_,h.opd.const,h.opd.func⟩,h.size,h.defers⟩
 rw [get_cons]
 split
 ·rename_i e;subst e;rw [← hb];exact h.opd.tmp t
 ·exact h.opd.tmp k
theorem At.yield (h:At S F w E a n) {os:Array Oper} {t j:Nat} {b:Bool} (hb:get E t = .bool b) (ht:(os[j]?).bind (·.dst)=some t):yielded os a.tmps j=some b:=by
 have h1:=h.opd.tmp t
 rw [hb] at h1
 have h2:=val_bool h1
 simp only [Act.eval] at h2
 have h3:a.tmps[t]?=some (.bool b):=by
  cases e:a.tmps[t]? with
  | none=>simp [e,undef] at h2
  | some v=>simpa [e] using h2
 simp [yielded,ht,h3]
theorem At.yieldNo (h:At S F w E a n) {os:Array Oper} {t j:Nat} (hb:get E t = .tup []) (ht:(os[j]?).bind (·.dst)=some t):yielded os a.tmps j=none:=by
 have h1:=h.opd.tmp t
 rw [hb] at h1
 have h2:a.eval (.tmp t)=undef:=by
  generalize a.eval (.tmp t)=u at h1
  cases h1 with
  | tup cs vs hl hv=>have:vs=#[]:=Array.size_eq_zero_iff.1 (by simpa using hl);subst this;rfl
 have h3:a.tmps[t]?=none∨a.tmps[t]?=some undef:=by
  cases e:a.tmps[t]? with
  | none=>exact .inl rfl
  | some v=>simp [Act.eval,e] at h2;exact .inr (by rw [h2])
 rcases h3 with h3|h3<;>simp [yielded,ht,h3,undef]
theorem At.wantNo (h:At S F w E a n) {os:Array Oper} {o:Oper} {t j:Nat} {b:Bool} (hg:o.guard=some (j,b)) (hb:get E t = .bool (!b)∨get E t = .tup []) (ht:(os[j]?).bind (·.dst)=some t):Region.wanted o (yielded os a.tmps)=false:=by
 rcases hb with hb|hb
 ·simp only [Region.wanted,hg,h.yield hb ht];cases b<;>rfl
 ·simp only [Region.wanted,hg,h.yieldNo hb ht];cases b<;>rfl
theorem At.skip (h:At S F w E a n) {dst:Option Nat} (hd:∀ d,dst=some d→d<n):At S F w (putD dst (.tup []) E) (a.put dst undef) n :=
 h.put (.tup [] #[] rfl (fun i p v hp=>by simp at hp)) hd
def IsOp (P:Program) (os:Array Oper) (n:Nat) (x:Nat×POp):Prop:=∃ o,os[x.1]?=some o∧x.2=opOf P os o∧dstIn n x.2=true
theorem dstIn_spec {P:Program} {os:Array Oper} {o:Oper} (h:dstIn n (opOf P os o)=true):(∀ d,o.dst=some d→d<n)∧∀ j b,o.guard=some (j,b)→∃ t,(opOf P os o).guard=some (t,b)∧(os[j]?).bind (·.dst)=some t:=by
 unfold dstIn at h
 simp only [Bool.and_eq_true] at h
 refine ⟨fun d hd=>?_,fun j b hg=>?_⟩
 ·have h1:=h.1
  simp only [opOf,hd] at h1
  exact Nat.le_of_ble_eq_true h1
 ·have h2:=h.2
  simp only [opOf,hg] at h2 ⊢
  refine ⟨_,rfl,?_⟩
  cases e:(os[j]?).bind (·.dst) with
  | none=>rw [e] at h2;exact absurd h2 (by decide)
  | some t=>rfl
theorem ops_ok {os:Array Oper} {Q:Exit→Act→World→Prop} {base:Nat} {K:Env→Heap→Option β} (hO:OrcOk P O):∀ (L:List (Nat×POp)) {S:Nat→SL} {F:Nat→Prop} {w:World} {H:Heap} {E:Env} {a:Act},
  (∀ x∈L,IsOp P os n x)→Rel S F w H→At S F w E a n→ops O base L E H K=some r →
  (∀ S' F' w' H' E' a',K E' H'=some r→Rel S' F' w' H'→At S' F' w' E' a' n→Adv S F w H S' F' w' H'→Q .normal a' w')→wpOps P os Q (L.map (·.1)) a w
 | [],S,F,w,H,E,a,_,hr,ha,h,hQ=>hQ _ _ _ _ _ _ h hr ha (Adv.refl _ _ _ _)
 | (i,o) ::L,S,F,w,H,E,a,hL,hr,ha,h,hQ=>by
  obtain ⟨oo,ho,he,hd⟩:=hL _ (List.mem_cons_self ..)
  simp only at ho he hd
  subst he
  obtain ⟨hd1,hd2⟩:=dstIn_spec hd
  have hL':∀ x∈L,IsOp P os n x:=fun x hx=>hL x (List.mem_cons_of_mem _ hx)
  simp only [List.map_cons,wpOps,ho]
  have step:∀ E1,At S F w E1 a n→act O (base+i) E1 H (actV P (appUses os oo.dst) oo) (fun v H=>fV v fun v=>ops O base L (putD oo.dst v E1) H K)=some r→oo.wp P a w (wpOps P os Q (L.map (·.1))) Q:=by
   intro E1 ha1 h1
   refine wp_of_runs (actV_ok hO hr ha1.opd oo _ h1) fun v w' hv=>?_
   obtain ⟨pv,H',S',F',hK,hr',hv',hA⟩:=hv
   simp only [fV_eq] at hK
   exact ops_ok hO L hL' hr' ((ha1.adv hr hA).put hv' hd1) hK fun S2 F2 w2 H2 E2 a2 k1 k2 k3 k4=>hQ _ _ _ _ _ _ k1 k2 k3 (hA.trans' k4)
  cases hg:oo.guard with
  | none =>
   have hw:Region.wanted oo (yielded os a.tmps)=true:=by simp [Region.wanted,hg]
   simp only [hw,if_true]
   have hgo:(opOf P os oo).guard=none:=by simp [opOf,hg]
   simp only [ops,hgo] at h
   exact .inl (step E ha h)
  | some g =>
   obtain ⟨j,b⟩:=g
   obtain ⟨t,hgo,ht⟩:=hd2 j b hg
   simp only [ops,hgo] at h
   rcases asGuard_some h with ⟨hb,h⟩|⟨hb,h⟩
   ·have hw:Region.wanted oo (yielded os a.tmps)=true:=by simp only [Region.wanted,hg,ha.yield hb ht];cases b<;>rfl
    simp only [hw,if_true]
    exact .inl (step _ (ha.know hb) h)
   ·have hw:=ha.wantNo hg hb ht
    simp only [hw,Bool.false_eq_true,if_false]
    exact ops_ok hO L hL' hr ((ha.know rfl).skip hd1) h fun S2 F2 w2 H2 E2 a2 k1 k2 k3 k4=>hQ _ _ _ _ _ _ k1 k2 k3 k4
theorem number_fst:∀ (k:Nat) (l:List POp),(number k l).map (·.1)=List.range' k l.length
 | _,[]=>rfl
 | k,_ ::l=>by simp [number,number_fst (k+1) l,List.range'_succ]
theorem number_mem:∀ (k:Nat) (l:List POp) (x:Nat×POp),x∈number k l→k≤x.1∧l[x.1 - k]?=some x.2
 | _,[],_,h=>by simp [number] at h
 | k,o ::l,x,h=>by
  simp only [number,List.mem_cons] at h
  rcases h with rfl|h
  ·simp
  ·obtain ⟨h1,h2⟩:=number_mem (k+1) l x h
   refine ⟨by omega,?_⟩
   rw [show x.1 - k=(x.1 - (k+1))+1 by omega]
   simpa using h2
theorem region_isOp {os:Array Oper} (h:(os.toList.map (opOf P os)).all (dstIn n)=true):∀ x∈number 0 (os.toList.map (opOf P os)),IsOp P os n x:=fun x hx=>by
 obtain ⟨_,h2⟩:=number_mem _ _ _ hx
 simp only [Nat.sub_zero,List.getElem?_map,Array.getElem?_toList] at h2
 cases e:os[x.1]? with
 | none=>rw [e] at h2;cases h2
 | some o =>
  rw [e] at h2
  have h3:x.2=opOf P os o:=by simpa using h2.symm
  refine ⟨o,e,h3,?_⟩
  rw [h3]
  exact List.all_eq_true.1 h _ (List.mem_map.2 ⟨o,by simpa using Array.mem_of_getElem? e,rfl⟩)
theorem region_ok {os:Array Oper} {Q:Exit→Act→World→Prop} {base id:Nat} {K:Env→Heap→Option β} (hO:OrcOk P O) (hd:(os.toList.map (opOf P os)).all (dstIn n)=true) (hr:Rel S F w H) (ha:At S F w E a n)
  (h:ops O base (number 0 (os.toList.map (opOf P os))) E H K=some r)
  (hQ:∀ S' F' w' H' E' a',K E' H'=some r→Rel S' F' w' H'→At S' F' w' E' a' n→Adv S F w H S' F' w' H'→Q .normal a' w'):(Code.region id os false).wp P Q a w:=by
 refine wp_region ?_
 have:=ops_ok hO _ (region_isOp hd) hr ha h hQ
 rw [number_fst] at this
 simpa [List.range_eq_range'] using this
end
end Go.Proofs.YtdcphpbimeoioaaGreatDoorE
end
section
set_option linter.unusedSectionVars false
namespace Go.Proofs.YtdcphpbimeoioaaGreatDoorE
open Go
set_option linter.unusedVariables false
set_option linter.unusedSimpArgs false
variable [Dm]
structure AdvM (m:Nat) (S:Nat→SL) (F:Nat→Prop) (w:World) (H:Heap) (S':Nat→SL) (F':Nat→Prop) (w':World) (H':Heap):Prop where
 ff:∀ k,F k→F' k
 ss:∀ b,b<m→S b ≠ .unused→S' b=S b∨S' b = .dead
 sz:w.heap.size≤w'.heap.size
 same:∀ k,k<w.heap.size→¬ WR S H k→w'.heap[k]?=w.heap[k]?
 wr:∀ k,WR S' H' k→WR S H k∨w.heap.size≤k
 fn:∀ k,F' k→F k∨WR S H k∨w.heap.size≤k
 st:Str w w'
section
variable {β:Type} {P:Program} {S S' S2:Nat→SL} {F F' F2:Nat→Prop} {w w' w2:World} {H H' H2:Heap} {E E':Env} {O:Orc} {a:Act} {n m:Nat} {r:β} {ρ:Operand→Value}
theorem Adv.toM (h:Adv S F w H S' F' w' H'):AdvM m S F w H S' F' w' H':=⟨h.ff,fun b _=>h.ss b,h.sz,h.same,h.wr,h.fn,h.st⟩
theorem AdvM.trans (h:AdvM m S F w H S' F' w' H') (h':AdvM m S' F' w' H' S2 F2 w2 H2):AdvM m S F w H S2 F2 w2 H2 where
 ff k hk:=h'.ff k (h.ff k hk)
 ss b hm hb:=by
  rcases h.ss b hm hb with e|e
  ·rcases h'.ss b hm (by rw [e];exact hb) with e'|e'
   ·exact .inl (e'.trans e)
   ·exact .inr e'
  ·rcases h'.ss b hm (by rw [e];simp) with e'|e'
   ·exact .inr (e'.trans e)
   ·exact .inr e'
 sz:=Nat.le_trans h.sz h'.sz
 same k hk hn:=by
  have e1:=h.same k hk hn
  rw [← e1]
  refine h'.same k (Nat.lt_of_lt_of_le hk h.sz) fun hw=>?_
  rcases h.wr k hw with h1|h1
  ·exact hn h1
  ·omega
 wr k hk:=by
  rcases h'.wr k hk with h1|h1
  ·exact h.wr k h1
  ·exact .inr (Nat.le_trans h.sz h1)
 fn k hk:=by
  rcases h'.fn k hk with h1|h1|h1
  ·exact h.fn k h1
  ·rcases h.wr k h1 with h2|h2
   ·exact .inr (.inl h2)
   ·exact .inr (.inr h2)
  ·exact .inr (.inr (Nat.le_trans h.sz h1))
 st:=h.st.trans h'.st
theorem hget_len (H:Heap) (b:Nat) (h:H.length≤b):hget H b = .unused:=by rw [hget_get,List.getElem?_eq_none h];rfl
def Outs (S:Nat→SL) (F:Nat→Prop) (w:World) (ts:List Nat) (vs:List PV) (ρ:Operand→Value):Prop:=∀ (j t:Nat) (p:PV),ts[j]?=some t→vs[j]?=some p→Val S F w p (ρ (.tmp t))
theorem outs_zip {ts:List Nat} {vs:List PV} (h:Outs S F w ts vs ρ) (k:Nat):Val S F w (get (ts.zip vs) k) (ρ (.tmp k)):=by
 induction ts generalizing vs with
 | nil=>simp only [List.zip_nil_left,get];exact .junk _
 | cons t ts ih =>
  cases vs with
  | nil=>simp only [List.zip_nil_right,get];exact .junk _
  | cons v vs =>
   simp only [List.zip_cons_cons,get_cons]
   split
   ·rename_i e;subst e;exact h 0 t v rfl rfl
   ·exact ih (fun j t p h1 h2=>h (j+1) t p (by simpa using h1) (by simpa using h2))
theorem Outs.at {ts:List Nat} {vs:List PV} (h:Outs S F w ts vs a.eval) (hs:a.tmps.size=n) (hd:a.defers=[]):At S F w (ts.zip vs) a n :=
 ⟨⟨fun k=>outs_zip h k,fun _=>rfl,fun _=>rfl⟩,hs,hd⟩
theorem keep_some:∀ {out:List Nat} {A:Env} {K:Env→Option β},keep out E A K=some r→∃ A',K A'=some r∧∀ t,get A' t=get E t∨get A' t=get A t
 | [],A,K,h=>⟨A,h,fun _ => .inr rfl⟩
 | t ::out,A,K,h=>by
  simp only [keep,fA_eq] at h
  obtain ⟨A',h1,h2⟩:=keep_some h
  refine ⟨A',h1,fun u=>?_⟩
  rcases h2 u with e|e
  ·exact .inl e
  ·rw [get_cons] at e
   split at e
   ·rename_i e';subst e';exact .inl e
   ·exact .inr e
theorem at_keep {out:List Nat} {K:Env→Option β} (h:At S F w E a n) (hk:Go.Proofs.YtdcphpbimeoioaaGreatDoorE.keep out E [] K=some r):∃ A',K A'=some r∧At S F w A' a n:=by
 obtain ⟨A',h1,h2⟩:=keep_some hk
 refine ⟨A',h1,⟨fun k=>?_,h.opd.const,h.opd.func⟩,h.size,h.defers⟩
 rcases h2 k with e|e
 ·rw [e];exact h.opd.tmp k
 ·rw [e];exact .junk _
theorem head1_ok (hr:Rel S F w H) {ap fz:List Nat} {t:Nat} {v:PV} {u:Value} (hv:Val S F w v u) :
  ∃ S' F',Rel S' F' w (head1 ap fz t v H).2∧Adv S F w H S' F' w (head1 ap fz t v H).2∧Val S' F' w (head1 ap fz t v H).1 u:=by
 unfold head1
 split
 ·rename_i y
  cases hm:memN t ap with
  | true =>
   obtain ⟨S',h1,h2,h3⟩:=new_none hr (hget_len H _ (Nat.le_refl _)) y none
   cases hv
   exact ⟨S',F,h1,h2,h3⟩
  | false=>exact ⟨S,F,hr,Adv.refl _ _ _ _,nil_lst hv⟩
 ·rename_i b
  cases hm:(memN t fz || isFrz H b) with
  | true =>
   obtain ⟨h1,h2⟩:=frz_rel hr [b]
   refine ⟨S,_,h1,h2,?_⟩
   refine cell1_val hr hv (fun k hk => .inl hk) fun b' k hb' ⟨x,hx⟩ hk => .inr ⟨b',x,?_,hx,hk⟩
   simpa [ownC] using hb'
  | false=>exact ⟨S,F,hr,Adv.refl _ _ _ _,hv⟩
 ·rename_i cs
  obtain ⟨h1,h2⟩:=frz_rel hr (ownIds (.agg cs))
  exact ⟨S,_,h1,h2,snapV_val hr hv (fun k hk => .inl hk) fun b' k hb' ⟨x,hx⟩ hk => .inr ⟨b',x,hb',hx,hk⟩⟩
 ·exact ⟨S,F,hr,Adv.refl _ _ _ _,hv⟩
theorem heads_ok {ap fz:List Nat}:∀ (lv:List Nat) {S:Nat→SL} {F:Nat→Prop} {H:Heap},Rel S F w H→(∀ t,Val S F w (get E t) (ρ (.tmp t))) →
  ∃ S' F',Rel S' F' w (heads ap fz E lv H).2∧Adv S F w H S' F' w (heads ap fz E lv H).2∧Outs S' F' w lv (heads ap fz E lv H).1 ρ
 | [],S,F,H,hr,hv=>⟨S,F,hr,Adv.refl _ _ _ _,fun j t p h=>by simp at h⟩
 | t ::lv,S,F,H,hr,hv=>by
  obtain ⟨S1,F1,h1,h2,h3⟩:=head1_ok (ap:=ap) (fz:=fz) (t:=t) hr (hv t)
  obtain ⟨S2,F2,g1,g2,g3⟩:=heads_ok lv h1 fun t=>(hv t).adv hr h2
  refine ⟨S2,F2,by simpa [heads] using g1,by simpa [heads] using h2.trans' g2,?_⟩
  intro j t' p hj hp
  simp only [heads] at hp
  cases j with
  | zero =>
   simp only [List.getElem?_cons_zero,Option.some.injEq] at hj hp
   subst hj;subst hp
   exact h3.adv h1 g2
  | succ j=>exact g3 j t' p (by simpa using hj) (by simpa using hp)
theorem Outs.adv {ts:List Nat} {vs:List PV} (h:Outs S F w ts vs ρ) (hr:Rel S F w H) (hA:Adv S F w H S' F' w' H'):Outs S' F' w' ts vs ρ:=fun j t p h1 h2=>(h j t p h1 h2).adv hr hA
theorem hset_len:∀ (H:Heap) (s:Slot),(hset H H.length s).length=H.length+1
 | [],s=>rfl
 | x ::r,s=>by simpa [hset] using hset_len r s
theorem unnils_ok:∀ (cs:List PV) {S:Nat→SL} {H:Heap},Rel S F w H →
  ∃ S',Rel S' F w (unnils cs H).2∧Adv S F w H S' F w (unnils cs H).2∧(unnils cs H).1.length=cs.length∧(∀ b,b<H.length→hget (unnils cs H).2 b=hget H b)∧H.length≤(unnils cs H).2.length ∧
   ∀ (j:Nat) (p q:PV) (v:Value),(unnils cs H).1[j]?=some p→cs[j]?=some q→Val S F w q v→Val S' F w p v
 | [],S,H,hr=>⟨S,hr,Adv.refl _ _ _ _,rfl,fun _ _=>rfl,Nat.le_refl _,fun j p q v h=>by simp [unnils] at h⟩
 | c ::cs,S,H,hr=>by
  by_cases hc:∃ u,c = .nil u
  ·obtain ⟨u,rfl⟩:=hc
   have hu:=hget_len H _ (Nat.le_refl _)
   obtain ⟨S1,h1,h2,h3⟩:=new_none hr hu u none
   obtain ⟨S2,g1,g2,g3,g4,g5,g6⟩:=unnils_ok cs h1
   have hlen:(hset H H.length (.live (.arr u [] true))).length=H.length+1:=hset_len H _
   simp only [unnils]
   refine ⟨S2,g1,h2.trans' g2,by simp [g3],fun b hb=>?_,by omega,fun j p q v hp hq hv=>?_⟩
   ·rw [g4 b (by omega),hget_hset_ne _ _ _ _ (by omega)]
   ·cases j with
    | zero =>
     simp only [List.getElem?_cons_zero,Option.some.injEq] at hp hq
     subst hp;subst hq
     cases hv
     exact h3.adv h1 g2
    | succ j=>exact g6 j p q v (by simpa using hp) (by simpa using hq) (hv.adv hr h2)
  ·have he:unnils (c ::cs) H=(c ::(unnils cs H).1,(unnils cs H).2):=by
    cases c<;>first|rfl|exact absurd ⟨_,rfl⟩ hc
   obtain ⟨S2,g1,g2,g3,g4,g5,g6⟩:=unnils_ok cs hr
   rw [he]
   refine ⟨S2,g1,g2,by simp [g3],g4,g5,fun j p q v hp hq hv=>?_⟩
   cases j with
   | zero =>
    simp only [List.getElem?_cons_zero,Option.some.injEq] at hp hq
    subst hp;subst hq
    exact hv.adv hr g2
   | succ j=>exact g6 j p q v (by simpa using hp) (by simpa using hq) hv
theorem unnilB_ok:∀ (k b:Nat) {S:Nat→SL} {H:Heap},Rel S F w H→∃ S',Rel S' F w (unnilB k b H)∧Adv S F w H S' F w (unnilB k b H)
 | 0,b,S,H,hr=>⟨S,hr,Adv.refl _ _ _ _⟩
 | k+1,b,S,H,hr=>by
  simp only [unnilB]
  split
  ·rename_i cs hb
   obtain ⟨S1,g1,g2,g3,g4,g5,g6⟩:=unnils_ok cs hr
   have hlt:b<H.length:=Nat.lt_of_not_le fun h=>by rw [hget_len H b h] at hb;cases hb
   have hb1:=(g4 b hlt).trans hb
   have hs:=g1.slots b
   have hs0:=hr.slots b
   rw [hb1] at hs
   rw [hb] at hs0
   cases hl:S1 b<;>rw [hl] at hs<;>simp only [SlotOk] at hs
   rename_i kk
   cases hl0:S b<;>rw [hl0] at hs0<;>simp only [SlotOk] at hs0
   rename_i k0
   have hk:kk=k0:=by
    rcases g2.ss b (by rw [hl0];simp) with e|e
    ·rw [hl,hl0] at e;cases e;rfl
    ·rw [hl] at e;cases e
   subst hk
   obtain ⟨⟨c,t,q1,q2,q3,q4⟩,q5,q6⟩:=hs0
   obtain ⟨u1,u2⟩:=upd_rel (w':=w) (y := .box (unnils cs H).1 true) g1 hb1 rfl rfl (show blkOf (S1 b)=some kk by rw [hl];rfl) rfl (fun _ _=>rfl) ⟨rfl,rfl,rfl,(fun _=>Nat.le_refl _)⟩ (by
    rw [hl]
    simp only [SlotOk]
    refine ⟨⟨c,t,q1,by rw [q2,g3],fun j p v hp hv=>?_,q4⟩,hs.2.1,fun h=>by cases h⟩
    cases hq:cs[j]? with
    | none=>have:=(List.getElem?_eq_some_iff.1 hp).1;rw [g3] at this;rw [List.getElem?_eq_getElem this] at hq;cases hq
    | some q=>exact g6 j p q v hp hq (q3 j q v hq hv))
   obtain ⟨S3,r1,r2⟩:=unnilB_ok k (b+1) u1
   exact ⟨S3,r1,(g2.trans' u2).trans' r2⟩
  ·exact unnilB_ok k (b+1) hr
theorem pre_spec:∀ (m i:Nat) (ids:List Nat),pre i m ids=true→∀ b,b<m→ids[b]?=some (i+b)
 | 0,i,ids,_,b,hb=>by omega
 | m+1,i,[],h,b,hb=>by simp [pre] at h
 | m+1,i,c ::ids,h,b,hb=>by
  simp only [pre] at h
  obtain ⟨h1,h2⟩:Nat.beq c i=true∧pre (i+1) m ids=true:=by cases hc:Nat.beq c i<;>rw [hc] at h<;>simp at h ⊢;exact h
  cases b with
  | zero=>simp [Nat.eq_of_beq_eq_true h1]
  | succ b =>
   have:=pre_spec m (i+1) ids h2 b (by omega)
   simp only [List.getElem?_cons_succ,this,Option.some.injEq]
   omega
theorem norm_ok {K:List PV→Heap→Option β} {ts:List Nat} {vs:List PV} (hr:Rel S F w H) (hv:Outs S F w ts vs ρ) (h:norm m vs H K=some r) :
  ∃ vs' H' S',K vs' H'=some r∧Rel S' F w H'∧AdvM m S F w H S' F w H'∧Outs S' F w ts vs' ρ:=by
 unfold norm at h
 obtain ⟨hp,h⟩:=cond_some h
 have hnd:(reach H 100 (vs.flatMap idsV) []).Nodup:=reach_nodup _ _ _ _ (by simp)
 generalize reach H 100 (vs.flatMap idsV) []=ids at *
 let S0:Nat→SL:=fun i=>match ids[i]? with|some b=>S b|none => .unused
 have hS0:∀ b i,posN b ids=some i→S b ≠ .unused→S0 i=S b:=fun b i hp _=>by show (match ids[i]? with|some b=>S b|none=>SL.unused)=S b;rw [posN_some hp]
 have hH0:∀ i,hget (ids.map fun b=>renS ids (hget H b)) i=match ids[i]? with|some b=>renS ids (hget H b)|none => .unused:=by
  intro i;rw [hget_get,List.getElem?_map];cases ids[i]?<;>rfl
 have e:∀ i k,blkOf (S0 i)=some k→∃ b,ids[i]?=some b∧blkOf (S b)=some k:=by
  intro i k hk
  have hk:blkOf (match ids[i]? with|some b=>S b|none=>SL.unused)=some k:=hk
  cases hi:ids[i]? with
  | none=>rw [hi] at hk;cases hk
  | some b=>rw [hi] at hk;exact ⟨b,rfl,hk⟩
 refine ⟨_,_,S0,h,⟨fun i=>?_,fun i j k h1 h2=>?_,hr.fsz,hr.gl⟩,⟨fun _ h=>h,fun b hb hu=>?_,Nat.le_refl _,fun _ _ _=>rfl,fun k hk=>?_,fun _ h => .inl h,rfl,rfl,rfl,(fun _=>Nat.le_refl _)⟩,fun j t p hj hpj=>?_⟩
 ·rw [hH0]
  show SlotOk S0 F w _ (match ids[i]? with|some b=>S b|none=>SL.unused)
  cases hi:ids[i]? with
  | none=>simp [SlotOk]
  | some b =>
   refine slot_re (g:=renC ids) (hr.slots b) (by
    simp only
    generalize hget H b=s
    cases s with
    | live x=>cases x<;>simp [renS,renB,mapS]
    | _=>rfl) (fun cs wr hg c v hc hvv=>renC_val (fun _ h=>h) (fun _ _=>rfl) hS0 hvv) (fun t xs wr hg x j p v hp hvv=>hvv.pure (fun k hk=>hk) (fun _ _=>rfl) (cellsOf_pure _ _ _ _ hp)) (fun k hk hn=>hn) (fun k hk _ hF=>hF)
 ·obtain ⟨b,e1,e2⟩:=e _ _ h1
  obtain ⟨b',e3,e4⟩:=e _ _ h2
  have:=hr.inj _ _ _ e2 e4
  subst this
  have p1:=posN_get hnd e1
  have p2:=posN_get hnd e3
  rw [p1] at p2;cases p2;rfl
 ·have:=pre_spec m 0 ids hp b hb
  rw [Nat.zero_add] at this
  exact .inl (hS0 b b (posN_get hnd this) hu)
 ·obtain ⟨i,x,hx,hw,hk⟩:=hk
  rw [hH0] at hx
  obtain ⟨b,e1,e2⟩:=e _ _ hk
  rw [e1] at hx
  simp only at hx
  refine .inl ⟨b,?_⟩
  cases hg:hget H b with
  | live y =>
   rw [hg] at hx
   refine ⟨y,rfl,?_,e2⟩
   cases y<;>simp [renS,renB] at hx<;>subst hx<;>exact hw
  | unused=>rw [hg] at hx;simp [renS] at hx
  | dead=>rw [hg] at hx;simp [renS] at hx
 ·rw [List.getElem?_map] at hpj
  cases hc:vs[j]? with
  | none=>rw [hc] at hpj;cases hpj
  | some q=>rw [hc] at hpj;cases hpj;exact renV_val (fun _ h=>h) (fun _ _=>rfl) hS0 (hv j t q hj hc)
theorem unlC_val {v:PV} {u:Value} (h:Val S F w v u):Val S F w (unlC v) u:=by
 unfold unlC;split
 ·exact nil_lst h
 ·exact h
theorem hget_nilS (H:Heap) (b:Nat):hget (H.map nilS) b=nilS (hget H b):=by
 rw [hget_get,hget_get,List.getElem?_map]
 cases H[b]?<;>rfl
theorem nilS_rel (hr:Rel S F w H):Rel S F w (H.map nilS)∧Adv S F w H S F w (H.map nilS):=by
 constructor
 ·refine ⟨fun b=>?_,hr.inj,hr.fsz,hr.gl⟩
  rw [hget_nilS]
  have hs:=hr.slots b
  generalize hget H b=s at hs ⊢
  unfold nilS
  split
  ·rename_i cs
   generalize S b=l at hs ⊢
   cases l with
   | box k =>
    simp only [SlotOk] at hs ⊢
    obtain ⟨⟨c,t,h1,h2,h3,h4⟩,h5⟩:=hs
    refine ⟨⟨c,t,h1,by simpa using h2,fun j p v hp hv=>?_,h4⟩,h5⟩
    rw [List.getElem?_map] at hp
    cases hq:cs[j]? with
    | none=>rw [hq] at hp;cases hp
    | some q=>rw [hq] at hp;cases hp;exact unlC_val (h3 j q v hq hv)
   | _=>simp only [SlotOk] at hs
  ·exact hs
 ·refine ⟨fun _ h=>h,fun _ _ => .inl rfl,Nat.le_refl _,fun _ _ _=>rfl,fun k hk => .inl ?_,fun _ h => .inl h,rfl,rfl,rfl,(fun _=>Nat.le_refl _)⟩
  obtain ⟨b,x,hx,hw,hb⟩:=hk
  rw [hget_nilS] at hx
  generalize hh:hget H b=s at hx
  unfold nilS at hx
  split at hx
  ·cases hx;exact ⟨b,_,hh,rfl,hb⟩
  ·subst hx;exact ⟨b,x,hh,hw,hb⟩
theorem enter_ok {K:List PV→Heap→Option β} {lv ap fz:List Nat} {nb:Bool} (hr:Rel S F w H) (hv:∀ t,Val S F w (get E t) (ρ (.tmp t))) (h:enter m lv ap fz nb E H K=some r) :
  ∃ vs' H' S' F',K vs' H'=some r∧Rel S' F' w H'∧AdvM m S F w H S' F' w H'∧Outs S' F' w lv vs' ρ:=by
 unfold enter at h
 obtain ⟨S1,F1,h1,h2,h3⟩:=heads_ok (ap:=ap) (fz:=fz) lv hr hv
 generalize heads ap fz E lv H=q at *
 obtain ⟨vs,H1⟩:=q
 simp only at h h1 h2 h3
 cases nb with
 | false =>
  obtain ⟨u1,u2⟩:=nilS_rel h1
  obtain ⟨vs',H',S',g1,g2,g3,g4⟩:=norm_ok u1 (h3.adv h1 u2) h
  exact ⟨vs',H',S',F1,g1,g2,((h2.trans' u2).toM).trans g3,g4⟩
 | true =>
  obtain ⟨S2,u1,u2⟩:=unnilB_ok H1.length 0 h1
  obtain ⟨vs',H',S',g1,g2,g3,g4⟩:=norm_ok u1 (h3.adv h1 u2) h
  exact ⟨vs',H',S',F1,g1,g2,((h2.trans' u2).toM).trans g3,g4⟩
end
end Go.Proofs.YtdcphpbimeoioaaGreatDoorE
end
section
set_option linter.unusedSectionVars false
namespace Go.Proofs.YtdcphpbimeoioaaGreatDoorE
open Go
set_option linter.unusedVariables false
set_option linter.unusedSimpArgs false
variable [Dm]
inductive Mt (P:Program) (n:Nat):Code→PCode→Prop
 | bad (c:Code):Mt P n c .bad
 | skip:Mt P n .skip .skip
 | ret:Mt P n .ret .ret
 | exit (id:Nat):Mt P n (.exit id) (.exit id)
 | region (id:Nat) (os:Array Oper) (d:Bool) (out:List Nat) (h:(os.toList.map (opOf P os)).all (dstIn n)=true):Mt P n (.region id os d) (.region (os.toList.map (opOf P os)) d out)
 | seq {a b:Code} {a' b':PCode} (ha:Mt P n a a') (hb:Mt P n b b'):Mt P n (.seq a b) (.seq a' b')
 | cond (c:Operand) {a b:Code} {a' b':PCode} (ha:Mt P n a a') (hb:Mt P n b b'):Mt P n (.cond c a b) (.cond (argOf P 4 c) a' b')
 | block (id:Nat) {c:Code} {c':PCode} (h:Mt P n c c'):Mt P n (.block id c) (.block id c')
 | loop (i:Nat) (lv:List Nat) (lx:List (Nat×List Nat)) (ap fz:List Nat) (nb:Bool) {c:Code} {c':PCode} (h:Mt P n c c'):Mt P n (.loop c) (.loop i lv lx ap fz nb c')
def subs:PCode→List PCode
 | .loop i lv lx ap fz nb c => .loop i lv lx ap fz nb c ::subs c
 | .seq a b=>subs a++subs b
 | .cond _ a b=>subs a++subs b
 | .block _ c=>subs c
 | _=>[]
def exOf:Ex→Exit
 | .normal => .normal
 | .exit id => .exit id
 | .ret => .ret
section
variable {β:Type} {P:Program} {S S' S2:Nat→SL} {F F' F2:Nat→Prop} {w w' w2:World} {H H' H2:Heap} {E E':Env} {O:Orc} {a:Act} {n m:Nat} {r:β} {ρ:Operand→Value}
def LPost (n m:Nat) (lx:List (Nat×List Nat)) (S:Nat→SL) (F:Nat→Prop) (w:World) (H:Heap) (y:(Nat×List PV×Heap) ⊕ (List PV×Heap)) (e:Exit) (a':Act) (w':World):Prop :=
 match y with
 | .inl (j,outs,H')=>e = .exit j∧∃ S' F',Rel S' F' w' H'∧AdvM m S F w H S' F' w' H'∧Outs S' F' w' (liveAt lx j) outs a'.eval∧a'.tmps.size=n∧a'.defers=[]
 | .inr (outs,H')=>e = .ret∧∃ S' F',Rel S' F' w' H'∧AdvM m S F w H S' F' w' H'∧Outs S' F' w' (liveAt lx 1000000) outs a'.eval∧a'.tmps.size=n∧a'.defers=[]
def LoopOk (P:Program) (n m g:Nat) (lv:List Nat) (lx:List (Nat×List Nat)) (c:Code) (vs:List PV) (H:Heap) (y:(Nat×List PV×Heap) ⊕ (List PV×Heap)):Prop :=
 ∀ S F w a,Rel S F w H→Outs S F w lv vs a.eval→a.tmps.size=n→a.defers=[]→Code.rounds P c (LPost n m lx S F w H y) g a w
def LOk (P:Program) (n m g:Nat) (O:Orc) (f:FuncId) (i:Nat) (lv:List Nat) (lx:List (Nat×List Nat)) (c:Code):Prop :=
 ∀ vs H,match O.loop f i vs H with
  | ⟨_,_,x,encE,encR⟩=>∀ y,x=some y→LoopOk P n m g lv lx c vs H (match y with|.inl a => .inl (encE a)|.inr b => .inr (encR b))
def LoopsOk (P:Program) (n m:Nat) (O:Orc) (f:FuncId) (l:List PCode):Prop :=
 ∀ i lv lx ap fz nb pc c,PCode.loop i lv lx ap fz nb pc∈l→Mt P n c pc→∃ g,LOk P n m g O f i lv lx c
def Goes (n m:Nat) (S:Nat→SL) (F:Nat→Prop) (w:World) (H:Heap) (K:Ex→Env→Heap→Option β) (r:β) (Q:Exit→Act→World→Prop):Prop :=
 ∀ x E' H' S' F' w' a',K x E' H'=some r→Rel S' F' w' H'→At S' F' w' E' a' n→AdvM m S F w H S' F' w' H'→Q (exOf x) a' w'
theorem rounds_mono {c:Code} {Q Q':Exit→Act→World→Prop} (h:∀ e a w,Q e a w→Q' e a w):∀ {g:Nat} {a:Act} {w:World},Code.rounds P c Q g a w→Code.rounds P c Q' g a w
 | 0,_,_,h'=>h'
 | g+1,a,w,h'=>wp_mono h' fun e a w hq=>by
  cases e with
  | normal=>exact rounds_mono h hq
  | _=>exact h _ _ _ hq
theorem bindL_some {α ω:Type} {x:Option (α ⊕ ω)} {K:α→Option β} {R:ω→Option β} (h:bindL x K R=some r):∃ y,x=some y∧(match y with|.inl a=>K a|.inr b=>R b)=some r:=by
 unfold bindL at h
 cases x with
 | none=>simp at h
 | some y=>exact ⟨y,rfl,by cases y<;>simpa using h⟩
def DrawnOk (P:Program) (O:Orc):Prop :=
 ∀ {β:Type} {n id:Nat} {os:Array Oper} {S:Nat→SL} {F:Nat→Prop} {w:World} {H:Heap} {E:Env} {a:Act} {r:β} {Q:Exit→Act→World→Prop} {base:Nat} {out:List Nat} {K:Env→Heap→Option β},
  (os.toList.map (opOf P os)).all (dstIn n)=true→Rel S F w H→At S F w E a n →
  opsD O base [] (number 0 (os.toList.map (opOf P os))) E H (fun E H=>keep out E [] fun E=>K E H)=some r →
  (∀ S' F' w' H' E' a',K E' H'=some r→Rel S' F' w' H'→At S' F' w' E' a' n→AdvM 0 S F w H S' F' w' H'→(∀ m,AdvM m S F w H S' F' w' H')→Q .normal a' w')→(Code.region id os true).wp P Q a w
theorem code_ok {f:FuncId} {l:List PCode} (hO:OrcOk P O) (hD:DrawnOk P O) (hL:LoopsOk P n m O f l) {c:Code} {pc:PCode} (hm:Mt P n c pc):∀ {β:Type} {S:Nat→SL} {F:Nat→Prop} {w:World} {H:Heap} {E:Env} {a:Act} {r:β} {K:Ex→Env→Heap→Option β} {Q:Exit→Act→World→Prop},
  (∀ x∈subs pc,x∈l)→Rel S F w H→At S F w E a n→code O f m pc E H K=some r→Goes n m S F w H K r Q→c.wp P Q a w:=by
 obtain ⟨oc,ol⟩:=O
 induction hm with
 | bad c=>intro β S F w H E a r K Q hs hr ha h hQ;cases h
 | skip=>intro β S F w H E a r K Q hs hr ha h hQ;exact wp_skip (hQ _ _ _ _ _ _ _ h hr ha (Adv.refl _ _ _ _).toM)
 | ret=>intro β S F w H E a r K Q hs hr ha h hQ;exact wp_ret (hQ _ _ _ _ _ _ _ h hr ha (Adv.refl _ _ _ _).toM)
 | exit id=>intro β S F w H E a r K Q hs hr ha h hQ;exact wp_exit (hQ (.exit id) _ _ _ _ _ _ h hr ha (Adv.refl _ _ _ _).toM)
 | region id os d out hd =>
  intro β S F w H E a r K Q hs hr ha h hQ
  simp only [code] at h
  cases d with
  | false =>
   refine region_ok hO hd hr ha h fun S' F' w' H' E' a' hK hr' ha' hA=>?_
   obtain ⟨A',h1,h2⟩:=at_keep ha' hK
   exact hQ _ _ _ _ _ _ _ h1 hr' h2 hA.toM
  | true =>
   exact hD (K:=fun E H=>K .normal E H) hd hr ha h fun S' F' w' H' E' a' hK hr' ha' _ hA=>hQ _ _ _ _ _ _ _ hK hr' ha' (hA m)
 | @seq a b a' b' h1 h2 ih1 ih2 =>
  intro β S F w H E ac r K Q hs hr ha h hQ
  simp only [code] at h
  refine wp_seq (ih1 (fun x hx=>hs x (List.mem_append_left _ hx)) hr ha h fun x E1 H1 S1 F1 w1 a1 hK hr1 ha1 hA=>?_)
  cases x with
  | normal=>exact ih2 (fun x hx=>hs x (List.mem_append_right _ hx)) hr1 ha1 hK fun x E2 H2 S2 F2 w2 a2 k1 k2 k3 k4=>hQ _ _ _ _ _ _ _ k1 k2 k3 (hA.trans k4)
  | exit id=>exact hQ (.exit id) _ _ _ _ _ _ hK hr1 ha1 hA
  | ret=>exact hQ .ret _ _ _ _ _ _ hK hr1 ha1 hA
 | @cond c a b a' b' h1 h2 ih1 ih2 =>
  intro β S F w H E ac r K Q hs hr ha h hQ
  simp only [code] at h
  obtain ⟨t,ht,h⟩:=asBool_some h
  have hv:=argOf_val (P:=P) ha.opd 4 c
  rw [ht] at hv
  have hc:=val_bool hv
  have hset:At S F w (setC (argOf P 4 c) t E) ac n:=by
   cases e:argOf P 4 c with
   | t k=>rw [e] at ht;exact ha.know ht
   | c v=>exact ha
  refine wp_cond hc ?_
  cases t with
  | true=>exact ih1 (fun x hx=>hs x (List.mem_append_left _ hx)) hr hset h hQ
  | false=>exact ih2 (fun x hx=>hs x (List.mem_append_right _ hx)) hr hset h hQ
 | @block id c c' h1 ih =>
  intro β S F w H E ac r K Q hs hr ha h hQ
  simp only [code] at h
  refine wp_block (ih hs hr ha h fun x E1 H1 S1 F1 w1 a1 hK hr1 ha1 hA=>?_)
  cases x with
  | normal=>exact hQ .normal _ _ _ _ _ _ hK hr1 ha1 hA
  | ret=>exact hQ .ret _ _ _ _ _ _ hK hr1 ha1 hA
  | exit j =>
   simp only [exOf,Exit.inBlock]
   cases hj:Nat.beq j id with
   | true =>
    rw [if_pos (Nat.eq_of_beq_eq_true hj)]
    simp only [hj,cond_true] at hK
    exact hQ .normal _ _ _ _ _ _ hK hr1 ha1 hA
   | false =>
    rw [if_neg (fun e=>by subst e;rw [show Nat.beq j j=true from Nat.beq_refl j] at hj;cases hj)]
    simp only [hj,cond_false] at hK
    exact hQ (.exit j) _ _ _ _ _ _ hK hr1 ha1 hA
 | @loop i lv lx ap fz nb c c' h1 ih =>
  intro β S F w H E ac r K Q hs hr ha h hQ
  simp only [code] at h
  obtain ⟨vs,H1,S1,F1,hK,hr1,hA1,ho1⟩:=enter_ok hr ha.opd.tmp h
  simp only [fAs_eq,fH_eq] at hK
  obtain ⟨g,hg⟩:=hL i lv lx ap fz nb c' c (hs _ (by simp [subs])) h1
  have hg:=hg vs H1
  dsimp only at hg hK
  generalize ol f i vs H1=su at hg hK
  obtain ⟨α,ω,x,encE,encR⟩:=su
  simp only at hg hK
  obtain ⟨y,hy,hK⟩:=bindL_some hK
  refine wp_loop_rounds g (rounds_mono ?_ (hg y hy S1 F1 w ac hr1 ho1 ha.size ha.defers))
  intro e a' w' hp
  cases y with
  | inl p =>
   simp only at hp hK
   generalize encE p=q at hp hK
   obtain ⟨j,outs,H3⟩:=q
   simp only [LPost] at hp
   obtain ⟨rfl,S',F',g1,g2,g3,g4,g5⟩:=hp
   simp only [fAs_eq,fH_eq] at hK
   exact hQ (.exit j) _ _ _ _ _ _ hK g1 (g3.at g4 g5) (hA1.trans g2)
  | inr p =>
   simp only at hp hK
   generalize encR p=q at hp hK
   obtain ⟨outs,H3⟩:=q
   simp only [LPost] at hp
   obtain ⟨rfl,S',F',g1,g2,g3,g4,g5⟩:=hp
   simp only [fAs_eq,fH_eq] at hK
   exact hQ .ret _ _ _ _ _ _ hK g1 (g3.at g4 g5) (hA1.trans g2)
end
end Go.Proofs.YtdcphpbimeoioaaGreatDoorE
end
section
set_option linter.unusedSectionVars false
namespace Go.Proofs.YtdcphpbimeoioaaGreatDoorE
open Go
set_option linter.unusedVariables false
set_option linter.unusedSimpArgs false
variable [Dm]
section
variable {β:Type} {P:Program} {S S' S2:Nat→SL} {F F' F2:Nat→Prop} {w w' w2:World} {H H' H2:Heap} {E E':Env} {O:Orc} {a:Act} {n m:Nat} {r:β} {ρ:Operand→Value}
def pick (S:Nat→SL) (ids:List Nat) (i:Nat):SL:=match ids[i]? with|some b=>S b|none => .unused
theorem pick_pos {ids:List Nat} {b i:Nat} (hp:posN b ids=some i):pick S ids i=S b:=by unfold pick;rw [posN_some hp]
theorem snap_rel (hr:Rel S F w H) {ids frozen:List Nat} (hnd:ids.Nodup) (hdis:∀ b,b∈frozen→b ∉ ids)
  (hfb:∀ b cs wr c,b∈ids→hget H b = .live (.box cs wr)→c∈cs→∀ b',b'∈ownC c→b'∈frozen) :
  Rel (pick S ids) (FZ S F H frozen) w (ids.map fun b=>renS ids (snapS H (hget H b)))∧∀ k,WR (pick S ids) (ids.map fun b=>renS ids (snapS H (hget H b))) k→WR S H k:=by
 obtain ⟨z1,z2⟩:=frz_rel hr frozen
 have hH0:∀ i,hget (ids.map fun b=>renS ids (snapS H (hget H b))) i=match ids[i]? with|some b=>renS ids (snapS H (hget H b))|none => .unused:=by
  intro i;rw [hget_get,List.getElem?_map];cases ids[i]?<;>rfl
 have e:∀ i k,blkOf (pick S ids i)=some k→∃ b,ids[i]?=some b∧blkOf (S b)=some k:=by
  intro i k hk
  unfold pick at hk
  cases hi:ids[i]? with
  | none=>rw [hi] at hk;cases hk
  | some b=>rw [hi] at hk;exact ⟨b,rfl,hk⟩
 refine ⟨⟨fun i=>?_,fun i j k h1 h2=>?_,z1.fsz,z1.gl⟩,?_⟩
 ·rw [hH0]
  unfold pick
  cases hi:ids[i]? with
  | none=>simp [SlotOk]
  | some b =>
   have hb:=List.mem_of_getElem? hi
   refine slot_re (g:=fun c=>renC ids (cell1 H c)) (hr.slots b) (by
    simp only
    generalize hget H b=s
    cases s with
    | live x=>cases x<;>simp [snapS,snapB,renS,renB,mapS]
    | _=>rfl) (fun cs wr hg c v hc hvv=>?_) (fun t xs wr hg x j p v hp hvv=>hvv.pure (fun k hk => .inl hk) (fun _ _=>rfl) (cellsOf_pure _ _ _ _ hp)) (fun k hk hn=>?_) (fun k hk _ hF => .inl hF)
   ·have h1:Val S (FZ S F H frozen) w (cell1 H c) v:=cell1_val hr hvv (fun k hk => .inl hk) (fun b' k hb' ⟨x,hx⟩ hk => .inr ⟨b',x,hfb b cs wr c hb hg hc b' hb',hx,hk⟩)
    exact renC_val (fun _ h=>h) (fun _ _=>rfl) (fun b i hp _=>pick_pos hp) h1
   ·rintro (hF|⟨b',x,hb',hx,hk'⟩)
    ·exact hn hF
    ·have:=hr.inj _ _ _ hk' hk
     subst this
     exact hdis _ hb' hb
 ·obtain ⟨b,e1,e2⟩:=e _ _ h1
  obtain ⟨b',e3,e4⟩:=e _ _ h2
  have:=hr.inj _ _ _ e2 e4
  subst this
  have p1:=posN_get hnd e1
  have p2:=posN_get hnd e3
  rw [p1] at p2;cases p2;rfl
 ·rintro k ⟨i,x,hx,hw,hk⟩
  rw [hH0] at hx
  obtain ⟨b,e1,e2⟩:=e _ _ hk
  rw [e1] at hx
  simp only at hx
  refine ⟨b,?_⟩
  cases hg:hget H b with
  | live y =>
   rw [hg] at hx
   refine ⟨y,rfl,?_,e2⟩
   cases y<;>simp [snapS,snapB,renS,renB] at hx<;>subst hx<;>exact hw
  | unused=>rw [hg] at hx;simp [snapS,renS] at hx
  | dead=>rw [hg] at hx;simp [snapS,renS] at hx
theorem upto_range:∀ m,upto m=List.range m
 | 0=>rfl
 | m+1=>by rw [upto,upto_range m,List.range_succ]
theorem finIds_nodup (ro:Bool) (p:PV):(finIds m ro p).Nodup:=by
 unfold finIds
 rw [upto_range]
 have h1:∀ b,Nat.ble m b=true→(List.range m++[b]).Nodup:=fun b hb=>by
  rw [List.nodup_append]
  refine ⟨List.nodup_range,by simp,fun x hx y hy e=>?_⟩
  simp at hx hy
  have:=Nat.le_of_ble_eq_true hb
  omega
 have h0:(List.range m++[]).Nodup:=by simpa using List.nodup_range
 split
 ·rename_i b
  cases hb:(ro && Nat.ble m b) with
  | false=>exact h0
  | true=>simp only [Bool.and_eq_true] at hb;exact h1 b hb.2
 ·rename_i b _ _
  cases hb:Nat.ble m b with
  | false=>exact h0
  | true=>exact h1 b hb
 ·exact h0
theorem finIds_get (ro:Bool) (p:PV) {b:Nat} (hb:b<m):(finIds m ro p)[b]?=some b:=by
 unfold finIds
 rw [upto_range,List.getElem?_append_left (by simpa using hb)]
 simp [hb]
theorem finOut_ok {K:PV→Heap→Option β} {ro:Bool} {p:PV} {v:Value} (hr:Rel S F w H) (hv:Val S F w p v) (h:finOut m ro p H K=some r) :
  ∃ p' H' S' F',K p' H'=some r∧Rel S' F' w H'∧Val S' F' w p' v∧AdvM m S F w H S' F' w H':=by
 unfold finOut at h
 obtain ⟨hc,hK⟩:=cond_some h
 clear h
 have hnd:=finIds_nodup (m:=m) ro p
 have hgt:∀ b,b<m→(finIds m ro p)[b]?=some b:=fun b hb=>finIds_get ro p hb
 have hdis:∀ b,b∈finFrozen H m ro p→b ∉ finIds m ro p:=fun b hb hi=>by
  have:=List.all_eq_true.1 hc b hb
  rw [memN_iff.2 hi] at this;cases this
 have hfb:∀ b cs wr c,b∈finIds m ro p→hget H b = .live (.box cs wr)→c∈cs→∀ b',b'∈ownC c→b'∈finFrozen H m ro p:=by
  intro b cs wr c hb hg hcc b' hb'
  unfold finFrozen
  refine List.mem_append_right _ (List.mem_flatMap.2 ⟨b,hb,?_⟩)
  rw [hg]
  exact List.mem_flatMap.2 ⟨c,hcc,hb'⟩
 have hown:handOwn ro p=false→∀ b,b∈ownIds p→b∈finFrozen H m ro p:=fun e b hb=>by
  unfold finFrozen;rw [e];exact List.mem_append_left _ hb
 generalize finFrozen H m ro p=frozen at *
 generalize finIds m ro p=ids at *
 obtain ⟨z1,z2⟩:=frz_rel hr frozen
 obtain ⟨g1,g2⟩:=snap_rel hr hnd hdis hfb
 refine ⟨_,_,_,_,hK,g1,?_,⟨z2.ff,fun b hb hu => .inl (pick_pos (posN_get hnd (hgt b hb))),Nat.le_refl _,fun _ _ _=>rfl,fun k hk => .inl (g2 k hk),z2.fn,z2.st⟩⟩
 refine renV_val (S:=S) (F:=FZ S F H frozen) (w:=w) (fun _ h=>h) (fun _ _=>rfl) (fun b i hp _=>pick_pos hp) ?_
 cases ho:handOwn ro p with
 | true=>exact hv.mono (fun k hk => .inl hk) (fun _ _=>rfl) (fun _ _ => .inl rfl)
 | false=>exact snapV_val hr hv (fun k hk => .inl hk) (fun b k hb ⟨x,hx⟩ hk => .inr ⟨b,x,hown ho b hb,hx,hk⟩)
theorem fin_ok {K:PV→Heap→Option β} {ro:Bool} {p:PV} {v:Value} (hr:Rel S F w H) (hv:Val S F w p v) (h:fin m ro p H K=some r) :
  ∃ p' H' S' F',K p' H'=some r∧Rel S' F' w H'∧Val S' F' w p' v∧AdvM m S F w H S' F' w H':=by
 unfold fin at h
 split at h
 ·rename_i t
  cases ro with
  | false=>exact finOut_ok hr hv h
  | true =>
   obtain ⟨S1,h1,h2,h3⟩:=new_none hr (hget_len H _ (Nat.le_refl _)) t none
   cases hv
   obtain ⟨p',H',S',F',g1,g2,g3,g4⟩:=finOut_ok h1 h3 h
   exact ⟨p',H',S',F',g1,g2,g3,h2.toM.trans g4⟩
 ·rename_i b
  cases hc:(ro && Nat.blt b m) with
  | false=>rw [hc] at h;exact finOut_ok hr hv h
  | true =>
   rw [hc] at h
   simp only [cond_true] at h
   split at h
   ·rename_i t xs hb
    obtain ⟨a,cap,hS,_⟩:=hget_arr hr hb
    have hok:=hr.slots b
    rw [hb,hS] at hok
    have hlt:b<H.length:=Nat.lt_of_not_le fun hle=>by rw [hget_len H b hle] at hb;cases hb
    obtain ⟨S1,h1,h2,h3⟩:=move_rel hr (by omega) (hget_len H _ (Nat.le_refl _)) hb hS hok
    cases hv with
    | own _ a' n' cap' sz' hS' =>
     rw [hS] at hS'
     cases hS'
     obtain ⟨p',H',S',F',g1,g2,g3,g4⟩:=finOut_ok h1 h3 h
     exact ⟨p',H',S',F',g1,g2,g3,h2.toM.trans g4⟩
    | ownd _ _ hd _=>rw [hS] at hd;cases hd
   ·exact finOut_ok hr hv h
 ·exact finOut_ok hr hv h
def oneRes (tmps:Array Value):ResultVar→Sem Value
 | .tmp t=>pure (tmps.getD t undef)
 | .cell a t=>do loadVar t (← asAddr (tmps.getD a undef))
theorem loadVar_of {t:TypeId} {u v:Value} (h:(Instr.loadAt t u).run P w = .ok v w):(do loadVar t (← asAddr u):Sem Value).run P w = .ok v w:=by
 unfold Instr.loadAt at h
 cases u with
 | pointer x =>
  cases x with
  | none=>simp [Instr.sureAddr] at h
  | some ad=>simpa [Instr.sureAddr,asAddr] using h
 | _=>simp [Instr.sureAddr] at h
theorem resVals_ok (hr:Rel S F w H) (hv:∀ t,Val S F w (get E t) (a.tmps.getD t undef)):∀ (rs:List ResultVar) {K:List PV→Option β} {r:β},resVals E H (rs.map (resOf P)) K=some r →
  ∃ ps vs,K ps=some r∧(rs.mapM (oneRes a.tmps)).run P w = .ok vs w∧vs.length=ps.length∧∀ (i:Nat) (p:PV) (v:Value),ps[i]?=some p→vs[i]?=some v→Val S F w p v
 | [],K,r,h=>⟨[],[],h,rfl,rfl,fun i p v h=>by simp at h⟩
 | .tmp t ::rs,K,r,h=>by
  simp only [List.map_cons,resOf,resVals] at h
  obtain ⟨ps,vs,h1,h2,h3,h4⟩:=resVals_ok hr hv rs h
  refine ⟨_,a.tmps.getD t undef ::vs,h1,by simp [List.mapM_cons,oneRes,h2],by simp [h3],fun i p v hp hvv=>?_⟩
  cases i with
  | zero=>simp only [List.getElem?_cons_zero,Option.some.injEq] at hp hvv;subst hp;subst hvv;exact hv t
  | succ i=>exact h4 i p v (by simpa using hp) (by simpa using hvv)
 | .cell t ty ::rs,K,r,h=>by
  simp only [List.map_cons,resOf] at h
  split at h
  ·rename_i k hk
   simp only [resVals] at h
   obtain ⟨pv,u,g1,g2,g3⟩:=ok_load (P:=P) (K:=fun v _=>resVals E H (rs.map (resOf P)) fun vs=>K (v ::vs)) hr (hv t) hk h
   obtain ⟨ps,vs,h1,h2,h3,h4⟩:=resVals_ok hr hv rs g1
   have h5:=loadVar_of g3
   have h6:(oneRes a.tmps (.cell t ty)).run P w = .ok u w:=h5
   refine ⟨_,u ::vs,h1,by rw [List.mapM_cons];simp [h6,h2],by simp [h3],fun i p v hp hvv=>?_⟩
   cases i with
   | zero=>simp only [List.getElem?_cons_zero,Option.some.injEq] at hp hvv;subst hp;subst hvv;exact g2
   | succ i=>exact h4 i p v (by simpa using hp) (by simpa using hvv)
  ·cases h
theorem results_ok {fn:Func} {K:List PV→Option β} (hr:Rel S F w H) (hv:∀ t,Val S F w (get E t) (a.tmps.getD t undef)) (h:resVals E H (fn.results.toList.map (resOf P)) K=some r) :
  ∃ ps v,K ps=some r∧(results fn a.tmps).run P w = .ok v w∧Val S F w (oneOf ps) v:=by
 obtain ⟨ps,vs,h1,h2,h3,h4⟩:=resVals_ok hr hv _ h
 have e:results fn a.tmps=(do let vs ← fn.results.mapM (oneRes a.tmps);pure (if h:vs.size=1 then vs[0] else .tuple vs)):=by
  unfold results
  congr
 refine ⟨ps,if h:vs.toArray.size=1 then vs.toArray[0] else .tuple vs.toArray,h1,?_,?_⟩
 ·rw [e,Array.mapM_eq_mapM_toList]
  simp [h2]
 ·unfold oneOf
  split
  ·rename_i p
   cases vs with
   | nil=>simp at h3
   | cons v vs =>
    cases vs with
    | nil=>simpa using h4 0 p v rfl rfl
    | cons _ _=>simp at h3
  ·rename_i hn
   have:¬ vs.toArray.size=1:=fun e=>by
    simp at e
    rw [h3] at e
    obtain ⟨q,hq⟩:=List.length_eq_one_iff.1 e
    exact hn _ hq
   rw [dif_neg this]
   exact .tup _ _ (by simp [h3]) (fun i p v hp hvv=>h4 i p v hp (by simpa using hvv))
end
end Go.Proofs.YtdcphpbimeoioaaGreatDoorE
end
section
set_option linter.unusedSectionVars false
namespace Go.Proofs.YtdcphpbimeoioaaGreatDoorE
open Go
set_option linter.unusedVariables false
set_option linter.unusedSimpArgs false
variable [Dm]
section
variable {β:Type} {P:Program} {S S' S2:Nat→SL} {F F' F2:Nat→Prop} {w w' w2:World} {H H' H2:Heap} {E E':Env} {O:Orc} {a:Act} {n m:Nat} {r:β} {ρ:Operand→Value}
theorem mt_raw (c:Code):∀ (k:Nat) (ex:List (Nat×List Nat)) (out:List Nat),(opsIn (rawOf P c k).1).all (dstIn n)=true→Mt P n c (ann (rawOf P c k).1 ex out).1:=by
 induction c with
 | skip=>intro k ex out h;exact .skip
 | ret=>intro k ex out h;exact .ret
 | exit id=>intro k ex out h;exact .exit id
 | region id os d=>intro k ex out h;exact .region id os d out h
 | seq a b iha ihb =>
  intro k ex out h
  simp only [rawOf,opsIn,List.all_append,Bool.and_eq_true] at h
  simp only [rawOf,ann]
  exact .seq (iha k _ _ h.1) (ihb _ _ _ h.2)
 | cond c a b iha ihb =>
  intro k ex out h
  simp only [rawOf,opsIn,List.all_append,Bool.and_eq_true] at h
  simp only [rawOf,ann]
  exact .cond c (iha k _ _ h.1) (ihb _ _ _ h.2)
 | block id c ih =>
  intro k ex out h
  simp only [rawOf,opsIn] at h
  simp only [rawOf,ann]
  exact .block id (ih k _ _ h)
 | loop c ih =>
  intro k ex out h
  simp only [rawOf,opsIn] at h
  simp only [rawOf,ann]
  exact .loop _ _ _ _ _ _ (ih _ _ _ h)
 | _=>intros;exact .bad _
def idx:PCode→Nat
 | .loop i _ _ _ _ _ _=>i
 | _=>0
theorem subs_raw (c:Code):∀ (k:Nat),k≤(rawOf P c k).2∧(subs (rawOf P c k).1).map idx=List.range' k ((rawOf P c k).2 - k):=by
 induction c with
 | seq a b iha ihb =>
  intro k
  obtain ⟨h1,h2⟩:=iha k
  obtain ⟨h3,h4⟩:=ihb (rawOf P a k).2
  simp only [rawOf,subs,List.map_append,h2,h4]
  refine ⟨by omega,?_⟩
  have e:(rawOf P b (rawOf P a k).2).2 - k=((rawOf P a k).2 - k)+((rawOf P b (rawOf P a k).2).2 - (rawOf P a k).2):=by omega
  rw [e,← List.range'_append]
  congr 1
  congr 1
  omega
 | cond c a b iha ihb =>
  intro k
  obtain ⟨h1,h2⟩:=iha k
  obtain ⟨h3,h4⟩:=ihb (rawOf P a k).2
  simp only [rawOf,subs,List.map_append,h2,h4]
  refine ⟨by omega,?_⟩
  have e:(rawOf P b (rawOf P a k).2).2 - k=((rawOf P a k).2 - k)+((rawOf P b (rawOf P a k).2).2 - (rawOf P a k).2):=by omega
  rw [e,← List.range'_append]
  congr 1
  congr 1
  omega
 | block id c ih=>intro k;simpa [rawOf,subs] using ih k
 | loop c ih =>
  intro k
  obtain ⟨h1,h2⟩:=ih (k+1)
  simp only [rawOf,subs,List.map_cons,idx,h2]
  refine ⟨by omega,?_⟩
  rw [show (rawOf P c (k+1)).2 - k=((rawOf P c (k+1)).2 - (k+1))+1 by omega,List.range'_succ]
 | _=>intro k;simp [rawOf,subs]
theorem subs_ann (c:PCode):∀ (ex:List (Nat×List Nat)) (out:List Nat),(subs (ann c ex out).1).map idx=(subs c).map idx:=by
 induction c with
 | seq a b iha ihb=>intro ex out;simp [ann,subs,iha,ihb]
 | cond c a b iha ihb=>intro ex out;simp [ann,subs,iha,ihb]
 | block id c ih=>intro ex out;simp [ann,subs,ih]
 | loop i _ _ _ _ _ c ih=>intro ex out;simp [ann,subs,ih,idx]
 | _=>intro ex out;simp [ann,subs]
theorem findLoop_eq (c:PCode) (j:Nat):findLoop c j=(subs c).find? fun x=>Nat.beq (idx x) j:=by
 induction c with
 | seq a b iha ihb=>simp only [findLoop,subs,iha,ihb,List.find?_append];cases (subs a).find? fun x=>Nat.beq (idx x) j<;>rfl
 | cond c a b iha ihb=>simp only [findLoop,subs,iha,ihb,List.find?_append];cases (subs a).find? fun x=>Nat.beq (idx x) j<;>rfl
 | block id c ih=>simp [findLoop,subs,ih]
 | loop i _ _ _ _ _ c ih=>simp only [findLoop,subs,ih,List.find?_cons,idx];cases Nat.beq i j<;>rfl
 | _=>simp [findLoop,subs]
theorem find_of_nodup {l:List PCode} (h:(l.map idx).Nodup) {x:PCode} (hx:x∈l):l.find? (fun y=>Nat.beq (idx y) (idx x))=some x:=by
 induction l with
 | nil=>cases hx
 | cons y l ih =>
  simp only [List.map_cons,List.nodup_cons] at h
  simp only [List.find?_cons]
  simp only [List.mem_cons] at hx
  rcases hx with rfl|hx
  ·simp [show Nat.beq (idx x) (idx x)=true from Nat.beq_refl _]
  ·have:Nat.beq (idx y) (idx x)=false:=by
    cases hb:Nat.beq (idx y) (idx x) with
    | false=>rfl
    | true=>exact absurd (List.mem_map.2 ⟨x,hx,(Nat.eq_of_beq_eq_true hb).symm⟩) h.1
   rw [this]
   exact ih h.2 hx
theorem findLoop_sub (c:Code) (ex:List (Nat×List Nat)) (out:List Nat) {i:Nat} {lv:List Nat} {lx:List (Nat×List Nat)} {ap fz:List Nat} {nb:Bool} {d:PCode} (h:PCode.loop i lv lx ap fz nb d∈subs (ann (rawOf P c 0).1 ex out).1) :
  findLoop (ann (rawOf P c 0).1 ex out).1 i=some (.loop i lv lx ap fz nb d):=by
 rw [findLoop_eq]
 refine find_of_nodup (x := .loop i lv lx ap fz nb d) ?_ h
 rw [subs_ann,(subs_raw c 0).2]
 exact List.nodup_range'
theorem sub_subs (c:PCode):∀ {i:Nat} {lv:List Nat} {lx:List (Nat×List Nat)} {ap fz:List Nat} {nb:Bool} {d:PCode},PCode.loop i lv lx ap fz nb d∈subs c→∀ x∈subs d,x∈subs c:=by
 induction c with
 | seq a b iha ihb =>
  intro i lv lx ap fz nb d h x hx
  simp only [subs,List.mem_append] at h ⊢
  exact h.imp (fun h=>iha h x hx) (fun h=>ihb h x hx)
 | cond c a b iha ihb =>
  intro i lv lx ap fz nb d h x hx
  simp only [subs,List.mem_append] at h ⊢
  exact h.imp (fun h=>iha h x hx) (fun h=>ihb h x hx)
 | block id c ih=>exact ih
 | loop i lv lx ap fz nb c ih =>
  intro i' lv' lx' ap' fz' nb' d h x hx
  simp only [subs,List.mem_cons] at h ⊢
  rcases h with h|h
  ·cases h;exact .inr hx
  ·exact .inr (ih h x hx)
 | _=>intro i lv lx ap fz nb d h;simp [subs] at h
def liveX (lx:List (Nat×List Nat)):Ex→List Nat
 | .normal=>[]
 | .exit j=>liveAt lx j
 | .ret=>liveAt lx 1000000
theorem unl_val {v:PV} {u:Value} (h:Val S F w v u):Val S F w (unl v) u:=by
 unfold unl
 split
 ·rename_i cs
  cases h with
  | agg _ vs hl hv ho =>
   refine .agg _ vs (by simpa using hl) (fun i p x hp hx=>?_) ho
   rw [List.getElem?_map] at hp
   cases hc:cs[i]? with
   | none=>rw [hc] at hp;cases hp
   | some q=>rw [hc] at hp;cases hp;exact unlC_val (hv i q x hc hx)
 ·exact unlC_val h
theorem outs_unl (h:At S F w E a n) (ts:List Nat):Outs S F w ts (ts.map fun t=>unl (get E t)) a.eval:=by
 intro j t p hj hp
 rw [List.getElem?_map,hj] at hp
 simp only [Option.map_some,Option.some.injEq] at hp
 subst hp
 exact unl_val (h.opd.tmp t)
theorem loopBody_ok {f:FuncId} {l:List PCode} (hO:OrcOk P O) (hD:DrawnOk P O) (hL:LoopsOk P n m O f l) {c:Code} {pc:PCode} (hm:Mt P n c pc) (hs:∀ x∈subs pc,x∈l) {g i:Nat} {lv ap fz:List Nat} {lx:List (Nat×List Nat)} {nb:Bool}
  (hg:LOk P n m g O f i lv lx c) {vs:List PV} {K:Ex→List PV→Heap→Option β} (h:loopBody O f m i lv lx ap fz nb pc vs H K=some r) (hr:Rel S F w H) (ho:Outs S F w lv vs a.eval) (hsz:a.tmps.size=n) (hdf:a.defers=[])
  {Q:Exit→Act→World→Prop} (hQ:∀ x outs H' S' F' w' a',x ≠ .normal→K x outs H'=some r→Rel S' F' w' H'→AdvM m S F w H S' F' w' H'→Outs S' F' w' (liveX lx x) outs a'.eval→a'.tmps.size=n→a'.defers=[]→Q (exOf x) a' w') :
  Code.rounds P c Q (g+1) a w:=by
 obtain ⟨oc,ol⟩:=O
 unfold loopBody at h
 simp only [fAs_eq,fH_eq] at h
 refine code_ok hO hD hL hm hs hr (ho.at hsz hdf) h fun x E1 H1 S1 F1 w1 a1 hK hr1 ha1 hA1=>?_
 cases x with
 | normal =>
  simp only at hK
  obtain ⟨vs2,H2,S2,F2,hK,hr2,hA2,ho2⟩:=enter_ok hr1 ha1.opd.tmp hK
  have hg:=hg vs2 H2
  dsimp only at hg hK
  generalize ol f i vs2 H2=su at hg hK
  obtain ⟨α,ω,x,encE,encR⟩:=su
  simp only at hg hK
  obtain ⟨y,hy,hK⟩:=bindL_some hK
  refine rounds_mono ?_ (hg y hy S2 F2 w1 a1 hr2 ho2 ha1.size ha1.defers)
  intro e a' w' hp
  cases y with
  | inl p =>
   simp only at hp hK
   generalize encE p=q at hp hK
   obtain ⟨j,outs,H3⟩:=q
   simp only [LPost] at hp
   obtain ⟨rfl,S',F',g1,g2,g3,g4,g5⟩:=hp
   exact hQ (.exit j) _ _ _ _ _ _ (by simp) hK g1 ((hA1.trans hA2).trans g2) g3 g4 g5
  | inr p =>
   simp only at hp hK
   generalize encR p=q at hp hK
   obtain ⟨outs,H3⟩:=q
   simp only [LPost] at hp
   obtain ⟨rfl,S',F',g1,g2,g3,g4,g5⟩:=hp
   exact hQ .ret _ _ _ _ _ _ (by simp) hK g1 ((hA1.trans hA2).trans g2) g3 g4 g5
 | exit j =>
  simp only at hK
  obtain ⟨vs',H',S',g1,g2,g3,g4⟩:=norm_ok hr1 (outs_unl ha1 _) hK
  exact hQ (.exit j) _ _ _ _ _ _ (by simp) g1 g2 (hA1.trans g3) g4 ha1.size ha1.defers
 | ret =>
  simp only at hK
  obtain ⟨vs',H',S',g1,g2,g3,g4⟩:=norm_ok hr1 (outs_unl ha1 _) hK
  exact hQ .ret _ _ _ _ _ _ (by simp) g1 g2 (hA1.trans g3) g4 ha1.size ha1.defers
end
end Go.Proofs.YtdcphpbimeoioaaGreatDoorE
end
section
set_option linter.unusedSectionVars false
namespace Go.Proofs.YtdcphpbimeoioaaGreatDoorE
open Go
set_option linter.unusedVariables false
set_option linter.unusedSimpArgs false
variable [Dm]
section
variable {β:Type} {H:Heap} {r:β}
theorem decV_some {t:Ty} {v:PV} {K:El t→Option β} (h:decV t v K=some r):∃ x,K x=some r∧v=valPV t x:=by
 cases t with
 | int k =>
  cases v<;>simp only [decV,reduceCtorEq] at h
  obtain ⟨h1,h2⟩:=cond_some h
  have:=of_decide_eq_true h1
  subst this
  exact ⟨_,h2,rfl⟩
 | bool=>cases v<;>simp only [decV,reduceCtorEq] at h;exact ⟨_,h,rfl⟩
 | str=>cases v<;>simp only [decV,reduceCtorEq] at h;exact ⟨_,h,rfl⟩
 | slice t =>
  cases v<;>simp only [decV,reduceCtorEq] at h
  obtain ⟨xs,h1,h2⟩:=optK_some h
  obtain ⟨e,e2⟩:=castL_some h1
  subst e
  subst e2
  exact ⟨_,h2,rfl⟩
 | pair a b =>
  cases v<;>simp only [decV,reduceCtorEq] at h
  obtain ⟨x,rest,h1,h2⟩:=decK_some h
  cases rest with
  | nil=>exact ⟨x,h1,by rw [h2];simp [valPV]⟩
  | cons _ _=>cases h1
 | unit =>
  cases v<;>simp only [decV,reduceCtorEq] at h
  split at h
  ·exact ⟨(),h,rfl⟩
  ·cases h
 | none=>cases v<;>simp only [decV,reduceCtorEq] at h
theorem box?_some {s:Slot} {K:List PV→Option β} (h:box? s K=some r):∃ cs,s = .live (.box cs true)∧K cs=some r:=by
 unfold box? at h;split at h
 ·exact ⟨_,rfl,h⟩
 ·cases h
theorem arr?_some {t:Ty} {s:Slot} {K:List (El t)→Option β} (h:arr? t s K=some r):∃ xs,s = .live (.arr t xs true)∧K xs=some r:=by
 unfold arr? at h;split at h
 ·obtain ⟨xs,h1,h2⟩:=optK_some h
  obtain ⟨e,e2⟩:=castL_some h1
  subst e
  subst e2
  exact ⟨_,rfl,h2⟩
 ·cases h
def Seg (H:Heap) (e:Nat) (L:Heap):Prop:=∀ i s,L[i]?=some s→hget H (e+i)=s
theorem Seg.nil {e:Nat}:Seg H e []:=fun i s h=>by simp at h
theorem Seg.cons {e:Nat} {s:Slot} {L:Heap} (h:hget H e=s) (hL:Seg H (e+1) L):Seg H e (s ::L):=fun i s' hi=>by
 cases i with
 | zero=>simp only [List.getElem?_cons_zero,Option.some.injEq] at hi;subst hi;exact h
 | succ i=>have:=hL i s' (by simpa using hi);rwa [show e+1+i=e+(i+1) by omega] at this
theorem Seg.append {e:Nat} {A B:Heap} (hA:Seg H e A) (hB:Seg H (e+A.length) B):Seg H e (A++B):=fun i s hi=>by
 by_cases h:i<A.length
 ·rw [List.getElem?_append_left h] at hi;exact hA i s hi
 ·rw [List.getElem?_append_right (by omega)] at hi
  have:=hB _ s hi
  rwa [show e+A.length+(i - A.length)=e+i by omega] at this
theorem Seg.all {L:Heap} (h:Seg H 0 L) (hl:H.length=L.length):H=L:=by
 refine List.ext_getElem? fun i=>?_
 by_cases hi:i<L.length
 ·have h1:=h i _ (List.getElem?_eq_getElem hi)
  rw [Nat.zero_add,hget_get,List.getElem?_eq_getElem (by omega:i<H.length)] at h1
  rw [List.getElem?_eq_getElem hi,List.getElem?_eq_getElem (by omega:i<H.length)]
  simpa using h1
 ·rw [List.getElem?_eq_none (by omega),List.getElem?_eq_none (by omega)]
theorem csExtra_length:∀ (cs:List Cs) (x:CsEl cs),(csExtra cs x).length=nOwn cs
 | [],_=>rfl
 | .tree t ::r,x=>csExtra_length r x.2
 | .own t ::r,x=>by simp [csExtra,nOwn,csExtra_length r x.2]
theorem decBox_some:∀ {cs:List Cs} {l:List PV} {e:Nat} {K:CsEl cs→List PV→Option β},decBox H cs l e K=some r →
  ∃ x rest,K x rest=some r∧l=csCells cs x e++rest∧Seg H e (csExtra cs x)
 | [],l,e,K,h=>⟨(),l,h,rfl, .nil⟩
 | .tree t ::cs,l,e,K,h=>by
  simp only [decBox] at h
  obtain ⟨x,rest,h1,h2⟩:=decK_some h
  obtain ⟨y,rest',g1,g2,g3⟩:=decBox_some h1
  exact ⟨(x,y),rest',g1,by rw [h2,g2];simp [csCells],g3⟩
 | .own t ::cs,[],e,K,h=>by simp [decBox] at h
 | .own t ::cs,c ::l,e,K,h=>by
  cases c<;>simp only [decBox,reduceCtorEq] at h
  obtain ⟨h0,h⟩:=cond_some h
  obtain ⟨xs,e1,h⟩:=arr?_some h
  obtain ⟨y,rest',g1,g2,g3⟩:=decBox_some h
  have:=Nat.eq_of_beq_eq_true h0
  subst this
  exact ⟨(xs,y),rest',g1,by rw [g2];simp [csCells], .cons e1 g3⟩
theorem capsHeap_length:∀ (caps:List Ty) (x:CapsEl caps),(capsHeap caps x).length=caps.length
 | [],_=>rfl
 | t ::r,x=>by simp [capsHeap,capsHeap_length r x.2]
theorem decCaps_some:∀ {caps:List Ty} {l:List PV} {n:Nat} {K:CapsEl caps→Option β},decCaps H caps l n K=some r→∃ x,K x=some r∧l=ptrs n caps∧Seg H n (capsHeap caps x)
 | [],[],n,K,h=>⟨(),h,rfl, .nil⟩
 | [],_ ::_,n,K,h=>by simp [decCaps] at h
 | t ::caps,[],n,K,h=>by simp [decCaps] at h
 | t ::caps,c ::l,n,K,h=>by
  cases c<;>simp only [decCaps,reduceCtorEq] at h
  obtain ⟨h0,h⟩:=cond_some h
  obtain ⟨cs,e1,h⟩:=box?_some h
  obtain ⟨x,rest,h1,h2⟩:=decK_some h
  cases rest with
  | cons _ _=>cases h1
  | nil =>
   obtain ⟨y,g1,g2,g3⟩:=decCaps_some h1
   simp only [Bool.and_eq_true] at h0
   have e2:=Nat.eq_of_beq_eq_true h0.1.1
   have e3:=Nat.eq_of_beq_eq_true h0.1.2
   have e4:=Nat.eq_of_beq_eq_true h0.2
   subst e2;subst e3;subst e4
   exact ⟨(x,y),g1,by rw [g2];rfl, .cons (by rw [e1,h2];simp) g3⟩
theorem mainHeap_length:∀ (sg:List Sg) (x:SgEl sg) (e:Nat),(mainHeap sg x e).length=nIds sg
 | [],_,_=>rfl
 | .tree _ ::r,x,e=>mainHeap_length r x.2 e
 | .box cs ::r,x,e=>by simp [mainHeap,nIds,mainHeap_length r]
 | .boxr t ::r,x,e=>by simp [mainHeap,nIds,mainHeap_length r]
 | .fnv _ caps ::r,x,e=>by simp [mainHeap,nIds,mainHeap_length r,capsHeap_length];omega
 | .fnvr _ caps ::r,x,e=>by simp [mainHeap,nIds,mainHeap_length r,capsHeap_length];omega
 | .own t ::r,x,e=>by simp [mainHeap,nIds,mainHeap_length r]
 | .ownx t ::r,x,e=>by simp [mainHeap,nIds,mainHeap_length r]
 | .nl _ ::r,x,e=>mainHeap_length r x.2 e
 | .al _ ::r,x,e=>mainHeap_length r x.2 e
theorem decArgs_some:∀ {sg:List Sg} {args:List PV} {n e:Nat} {K:SgEl sg→Option β},decArgs H sg args n e K=some r →
  ∃ y,K y=some r∧args=argsOf sg y n∧Seg H n (mainHeap sg y e)∧Seg H e (extraHeap sg y)∧H.length=e+(extraHeap sg y).length
 | [],[],n,e,K,h=>by
  simp only [decArgs] at h
  obtain ⟨h0,h⟩:=cond_some h
  exact ⟨(),h,rfl, .nil, .nil,by rw [← Nat.eq_of_beq_eq_true h0];rfl⟩
 | [],_ ::_,n,e,K,h=>by simp [decArgs] at h
 | s ::sg,[],n,e,K,h=>by cases s<;>simp [decArgs] at h
 | .tree t ::sg,v ::l,n,e,K,h=>by
  simp only [decArgs] at h
  obtain ⟨x,h1,h2⟩:=decV_some h
  obtain ⟨y,g1,g2,g3,g4,g5⟩:=decArgs_some h1
  exact ⟨(x,y),g1,by rw [h2,g2];rfl,g3,g4,g5⟩
 | .box cs ::sg,v ::l,n,e,K,h=>by
  cases v<;>simp only [decArgs,reduceCtorEq] at h
  obtain ⟨h0,h⟩:=cond_some h
  obtain ⟨c,e1,h⟩:=box?_some h
  obtain ⟨x,rest,h1,h2,h3⟩:=decBox_some h
  cases rest with
  | cons _ _=>cases h1
  | nil =>
   obtain ⟨y,g1,g2,g3,g4,g5⟩:=decArgs_some h1
   simp only [Bool.and_eq_true] at h0
   have e2:=Nat.eq_of_beq_eq_true h0.1.1
   have e3:=Nat.eq_of_beq_eq_true h0.1.2
   have e4:=Nat.eq_of_beq_eq_true h0.2
   subst e2;subst e3;subst e4
   refine ⟨(x,y),g1,by rw [g2];rfl, .cons (by rw [e1,h2];simp) g3,?_,by simp [extraHeap,csExtra_length,g5];omega⟩
   exact Seg.append h3 (by rw [csExtra_length];exact g4)
 | .fnv g caps ::sg,v ::l,n,e,K,h=>by
  cases v<;>simp only [decArgs,reduceCtorEq] at h
  obtain ⟨h0,h⟩:=cond_some h
  obtain ⟨x,h1,h2,h3⟩:=decCaps_some h
  obtain ⟨y,g1,g2,g3,g4,g5⟩:=decArgs_some h1
  simp only [Bool.and_eq_true] at h0
  have e2:=Nat.eq_of_beq_eq_true h0.1
  have e3:_=[]:=List.isEmpty_iff.1 h0.2
  subst e2;subst e3
  exact ⟨(x,y),g1,by rw [g2,h2];rfl,Seg.append h3 (by rw [capsHeap_length];exact g3),g4,g5⟩
 | .fnvr g caps ::sg,v ::l,n,e,K,h=>by
  cases v<;>simp only [decArgs,reduceCtorEq] at h
  obtain ⟨h0,h⟩:=cond_some h
  obtain ⟨x,h1,h2,h3⟩:=decCaps_some h
  obtain ⟨y,g1,g2,g3,g4,g5⟩:=decArgs_some h1
  simp only [Bool.and_eq_true] at h0
  have e2:=Nat.eq_of_beq_eq_true h0.1
  have e3:_=[]:=List.isEmpty_iff.1 h0.2
  subst e2;subst e3
  exact ⟨(x,y),g1,by rw [g2,h2];rfl,Seg.append h3 (by rw [capsHeap_length];exact g3),g4,g5⟩
 | .boxr t ::sg,v ::l,n,e,K,h=>by
  cases v<;>simp only [decArgs,reduceCtorEq] at h
  obtain ⟨h0,h⟩:=cond_some h
  obtain ⟨c,e1,h⟩:=box?_some h
  obtain ⟨x,rest,h1,h2⟩:=decK_some h
  cases rest with
  | cons _ _=>cases h1
  | nil =>
   obtain ⟨y,g1,g2,g3,g4,g5⟩:=decArgs_some h1
   simp only [Bool.and_eq_true] at h0
   have e2:=Nat.eq_of_beq_eq_true h0.1.1
   have e3:=Nat.eq_of_beq_eq_true h0.1.2
   have e4:=Nat.eq_of_beq_eq_true h0.2
   subst e2;subst e3;subst e4
   exact ⟨(x,y),g1,by rw [g2];rfl, .cons (by rw [e1,h2];simp) g3,g4,g5⟩
 | .own t ::sg,v ::l,n,e,K,h=>by
  cases v<;>simp only [decArgs,reduceCtorEq] at h
  obtain ⟨h0,h⟩:=cond_some h
  obtain ⟨x,e1,h⟩:=arr?_some h
  obtain ⟨y,g1,g2,g3,g4,g5⟩:=decArgs_some h
  have e2:=Nat.eq_of_beq_eq_true h0
  subst e2
  exact ⟨(x,y),g1,by rw [g2];rfl, .cons e1 g3,g4,g5⟩
 | .ownx t ::sg,v ::l,n,e,K,h=>by
  cases v<;>simp only [decArgs,reduceCtorEq] at h
  obtain ⟨h0,h⟩:=cond_some h
  obtain ⟨x,e1,h⟩:=arr?_some h
  obtain ⟨y,g1,g2,g3,g4,g5⟩:=decArgs_some h
  have e2:=Nat.eq_of_beq_eq_true h0
  subst e2
  exact ⟨(x,y),g1,by rw [g2];rfl, .cons e1 g3,g4,g5⟩
 | .nl t ::sg,v ::l,n,e,K,h=>by
  cases v<;>simp only [decArgs,reduceCtorEq] at h
  obtain ⟨h0,h⟩:=cond_some h
  obtain ⟨y,g1,g2,g3,g4,g5⟩:=decArgs_some h
  have e2:=of_decide_eq_true h0
  subst e2
  exact ⟨((),y),g1,by rw [g2];rfl,g3,g4,g5⟩
 | .al j ::sg,v ::l,n,e,K,h=>by
  cases v<;>simp only [decArgs,reduceCtorEq] at h
  obtain ⟨h0,h⟩:=cond_some h
  obtain ⟨y,g1,g2,g3,g4,g5⟩:=decArgs_some h
  have e2:=Nat.eq_of_beq_eq_true h0
  subst e2
  exact ⟨((),y),g1,by rw [g2];rfl,g3,g4,g5⟩
theorem decIn_some {sg:List Sg} {args:List PV} {a:SgEl sg} (h:decIn sg args H=some a):args=argsOf sg a 0∧H=heapOf sg a:=by
 unfold decIn at h
 obtain ⟨y,h1,h2,h3,h4,h5⟩:=decArgs_some h
 simp only [Option.some.injEq] at h1
 subst h1
 refine ⟨h2,?_⟩
 unfold heapOf
 refine Seg.all (Seg.append h3 (by rw [mainHeap_length,Nat.zero_add];exact h4)) ?_
 simp [mainHeap_length,h5]
theorem decCapsOut_some:∀ {caps:List Ty} {H:Heap} {K:CapsEl caps→Heap→Option β},decCapsOut caps H K=some r→∃ x H',K x H'=some r∧H=capsHeap caps x++H'
 | [],H,K,h=>⟨(),H,h,rfl⟩
 | t ::caps,[],K,h=>by simp [decCapsOut] at h
 | t ::caps,s ::H,K,h=>by
  simp only [decCapsOut] at h
  obtain ⟨cs,e1,h⟩:=box?_some h
  obtain ⟨x,rest,h1,h2⟩:=decK_some h
  cases rest with
  | cons _ _=>cases h1
  | nil =>
   obtain ⟨y,H',g1,g2⟩:=decCapsOut_some h1
   exact ⟨(x,y),H',g1,by rw [g2,e1,h2];simp [capsHeap]⟩
theorem decOut_some:∀ {sg:List Sg} {H:Heap} {K:OutEl sg→Heap→Option β},decOut sg H K=some r→∃ o H',K o H'=some r∧∀ a:SgEl sg,H=outHeap sg a o++H'
 | [],H,K,h=>⟨(),H,h,fun _=>rfl⟩
 | .tree _ ::sg,H,K,h=>by
  simp only [decOut] at h
  obtain ⟨o,H',h1,h2⟩:=decOut_some h
  exact ⟨((),o),H',h1,fun a=>h2 a.2⟩
 | .box cs ::sg,[],K,h=>by simp [decOut] at h
 | .box cs ::sg,s ::H,K,h=>by
  simp only [decOut] at h
  obtain ⟨c,e1,h⟩:=box?_some h
  obtain ⟨x,rest,h1,h2,_⟩:=decBox_some h
  cases rest with
  | cons _ _=>cases h1
  | nil =>
   obtain ⟨o,H',g1,g2⟩:=decOut_some h1
   exact ⟨(x,o),H',g1,fun a=>by rw [e1,h2,g2 a.2];simp [outHeap]⟩
 | .boxr _ ::sg,H,K,h=>by simp [decOut] at h
 | .fnvr _ _ ::sg,H,K,h=>by simp [decOut] at h
 | .fnv _ caps ::sg,H,K,h=>by
  simp only [decOut] at h
  obtain ⟨x,H1,h1,h2⟩:=decCapsOut_some h
  obtain ⟨o,H',g1,g2⟩:=decOut_some h1
  exact ⟨(x,o),H',g1,fun a=>by rw [h2,g2 a.2];simp [outHeap]⟩
 | .own t ::sg,[],K,h=>by simp [decOut] at h
 | .own t ::sg,s ::H,K,h=>by
  simp only [decOut] at h
  obtain ⟨x,e1,h⟩:=arr?_some h
  obtain ⟨o,H',g1,g2⟩:=decOut_some h
  exact ⟨(x,o),H',g1,fun a=>by rw [e1,g2 a.2];simp [outHeap]⟩
 | .ownx t ::sg,[],K,h=>by simp [decOut] at h
 | .ownx t ::sg,s ::H,K,h=>by
  cases s<;>simp only [decOut,reduceCtorEq] at h
  obtain ⟨o,H',g1,g2⟩:=decOut_some h
  exact ⟨((),o),H',g1,fun a=>by rw [g2 a.2];simp [outHeap]⟩
 | .nl _ ::sg,H,K,h=>by
  simp only [decOut] at h
  obtain ⟨o,H',h1,h2⟩:=decOut_some h
  exact ⟨((),o),H',h1,fun a=>h2 a.2⟩
 | .al _ ::sg,H,K,h=>by
  simp only [decOut] at h
  obtain ⟨o,H',h1,h2⟩:=decOut_some h
  exact ⟨((),o),H',h1,fun a=>h2 a.2⟩
theorem decList_some:∀ {rs:List Rt} {l:List PV} {K:RtEl rs→Option β},decList rs l K=some r→∃ y,K y=some r∧l=resList rs y
 | [],[],K,h=>⟨(),h,rfl⟩
 | [],_ ::_,K,h=>by simp [decList] at h
 | .tree t ::rs,[],K,h=>by simp [decList] at h
 | .tree t ::rs,v ::l,K,h=>by
  simp only [decList] at h
  obtain ⟨x,h1,h2⟩:=decV_some h
  obtain ⟨y,g1,g2⟩:=decList_some h1
  exact ⟨(x,y),g1,by rw [h2,g2];rfl⟩
 | .own t ::rs,l,K,h=>by cases l<;>simp [decList] at h
 | .ptr t ::rs,l,K,h=>by cases l<;>simp [decList] at h
theorem decRes_some {rs:List Rt} {m:Nat} {v:PV} {K:RtEl rs→Option β} (h:decRes rs m v H K=some r):∃ y,K y=some r∧(v,H)=resOfT rs y m:=by
 unfold decRes at h
 split at h
 ·split at h
  ·obtain ⟨x,h1,h2⟩:=decV_some h
   exact ⟨_,h1,by rw [h2];rfl⟩
  ·cases h
 ·split at h
  ·obtain ⟨h0,h⟩:=cond_some h
   obtain ⟨x,e1,h1⟩:=arr?_some h
   exact ⟨_,h1,by rw [e1,Nat.eq_of_beq_eq_true h0];rfl⟩
  ·cases h
 ·split at h
  ·obtain ⟨h0,h⟩:=cond_some h
   obtain ⟨cs,e1,h⟩:=box?_some h
   obtain ⟨x,rest,h1,h2⟩:=decK_some h
   cases rest with
   | cons _ _=>cases h1
   | nil =>
    simp only [Bool.and_eq_true] at h0
    exact ⟨_,h1,by rw [e1,h2,Nat.eq_of_beq_eq_true h0.1.1,Nat.eq_of_beq_eq_true h0.1.2,Nat.eq_of_beq_eq_true h0.2];simp [resOfT]⟩
  ·cases h
 ·rename_i n1 n2 n3
  split at h
  ·obtain ⟨y,h1,h2⟩:=decList_some h
   refine ⟨y,h1,?_⟩
   rw [h2]
   unfold resOfT
   split
   ·exact (n1 _ _ rfl HEq.rfl).elim
   ·exact (n2 _ _ rfl HEq.rfl).elim
   ·exact (n3 _ _ rfl HEq.rfl).elim
   ·rfl
  ·cases h
end
end Go.Proofs.YtdcphpbimeoioaaGreatDoorE
end
section
set_option linter.unusedSectionVars false
namespace Go.Proofs.YtdcphpbimeoioaaGreatDoorE
open Go
set_option linter.unusedVariables false
set_option linter.unusedSimpArgs false
variable [Dm]
section
variable {β:Type} {P:Program} {S S' S2:Nat→SL} {F F' F2:Nat→Prop} {w w' w2:World} {H H' H2:Heap} {E E':Env} {O:Orc} {a:Act} {n m:Nat} {r:β} {ρ:Operand→Value}
def EntOk (P:Program) (x:Ent):Prop:=∀ a y,x.F a=some y→Enters P x.n∧CallOk P x.n (argsOf x.sg a 0) (heapOf x.sg a) (encOut x.sg x.rs a y)
def TabF (P:Program) (T:List Ent):Prop:=∀ x∈T,EntOk P x
theorem keeps_main:∀ (sg:List Sg),sg.all Sg.keeps=true→∀ (a:SgEl sg) (o:OutEl sg) (e:Nat),outHeap sg a o=mainHeap sg a e∧extraHeap sg a=[]
 | [],_,_,_,_=>⟨rfl,rfl⟩
 | .tree _ ::sg,h,a,o,e=>keeps_main sg (by simpa [Sg.keeps] using h) a.2 o.2 e
 | .nl _ ::sg,h,a,o,e=>keeps_main sg (by simpa [Sg.keeps] using h) a.2 o.2 e
 | .al _ ::sg,h,a,o,e=>keeps_main sg (by simpa [Sg.keeps] using h) a.2 o.2 e
 | .boxr t ::sg,h,a,o,e=>by
  obtain ⟨h1,h2⟩:=keeps_main sg (by simpa [Sg.keeps] using h) a.2 o.2 e
  exact ⟨by simp [outHeap,mainHeap,h1],h2⟩
 | .fnvr _ caps ::sg,h,a,o,e=>by
  obtain ⟨h1,h2⟩:=keeps_main sg (by simpa [Sg.keeps] using h) a.2 o.2 e
  exact ⟨by simp [outHeap,mainHeap,h1],h2⟩
 | .box _ ::sg,h,_,_,_=>by simp [Sg.keeps] at h
 | .fnv _ _ ::sg,h,_,_,_=>by simp [Sg.keeps] at h
 | .own _ ::sg,h,_,_,_=>by simp [Sg.keeps] at h
 | .ownx _ ::sg,h,_,_,_=>by simp [Sg.keeps] at h
theorem keeps_res {rs:List Rt} (h:rs.all Rt.keeps=true) (y:RtEl rs) (m:Nat):(resOfT rs y m).2=[]:=by
 unfold resOfT
 split
 ·rfl
 ·simp [Rt.keeps] at h
 ·simp [Rt.keeps] at h
 ·rfl
theorem keeps_heap {sg:List Sg} {rs:List Rt} (h:(sg.all Sg.keeps && rs.all Rt.keeps)=true) (a:SgEl sg) (y:RtEl rs×OutEl sg):(encOut sg rs a y).2=heapOf sg a:=by
 simp only [Bool.and_eq_true] at h
 obtain ⟨h1,h2⟩:=keeps_main sg h.1 a y.2 (nIds sg)
 have h3:=keeps_res h.2 y.1 (nIds sg)
 unfold encOut heapOf
 generalize resOfT rs y.1 (nIds sg)=q at h3
 obtain ⟨q1,q2⟩:=q
 simp only at h3
 rw [h3,h2,h1]
theorem orc_table {T:List Ent} (h:TabF P T) (L:List LEnt):OrcOk P (specO T L):=by
 intro f ags H
 show match callOf T f ags H with|⟨_,x,enc,keeps⟩=>∀ p,x=some p→Enters P f∧CallOk P f ags H (enc p)∧(keeps=true→(enc p).2=H)
 induction T with
 | nil=>intro p hp;cases hp
 | cons x T ih =>
  simp only [callOf]
  cases hb:Nat.beq x.n f with
  | false=>exact ih fun y hy=>h y (List.mem_cons_of_mem _ hy)
  | true =>
   have:=Nat.eq_of_beq_eq_true hb
   subst this
   simp only [cond_true,Ent.call]
   split
   ·rename_i a ha
    obtain ⟨rfl,rfl⟩:=decIn_some ha
    intro p hp
    obtain ⟨g1,g2⟩:=h x (List.mem_cons_self ..) a p hp
    exact ⟨g1,g2,fun hk=>keeps_heap hk a p⟩
   ·intro p hp;cases hp
def sizeF (P:Program) (f:FuncId):Nat:=match P.funcs[f]? with|some fn=>(fn.params.size+fn.nfree)+(fn.ntmps - (fn.params.size+fn.nfree))|none=>0
theorem dstIn_mono {k:Nat} {o:POp} (h:dstIn k o=true) (hk:k≤n):dstIn n o=true:=by
 unfold dstIn at *
 simp only [Bool.and_eq_true] at *
 refine ⟨?_,h.2⟩
 cases hd:o.dst with
 | none=>rfl
 | some d =>
  rw [hd] at h
  have:=Nat.le_of_ble_eq_true h.1
  exact Nat.ble_eq_true_of_le (by omega)
theorem funcOf_some {f:FuncId} {pf:PFunc} (h:funcOf P f=some pf):∃ fn c ex l,P.funcs[f]?=some fn∧fn.body=some c∧pf.np=fn.params.size+fn.nfree∧pf.res=fn.results.toList.map (resOf P)∧pf.body=(ann (rawOf P c 0).1 ex l).1 ∧
  Mt P (sizeF P f) c pf.body∧Enters P f:=by
 unfold funcOf at h
 split at h
 ·rename_i fn hfn
  split at h
  ·rename_i c hc
   simp only at h
   obtain ⟨h1,h⟩:=cond_some h
   simp only [Option.some.injEq] at h
   subst h
   simp only [Bool.and_eq_true,Bool.not_eq_true'] at h1
   refine ⟨fn,c,_,_,hfn,hc,rfl,rfl,rfl,mt_raw c 0 _ _ ?_,fn,hfn,by rw [hc];rfl,h1.2⟩
   refine List.all_eq_true.2 fun o ho=>dstIn_mono (List.all_eq_true.1 h1.1 o ho) ?_
   simp only [sizeF,hfn]
   omega
  ·cases h
 ·cases h
theorem get_params:∀ (vs:List PV) (k t:Nat),get (params k vs) t=if k≤t then (vs[t - k]?).getD .junk else .junk
 | [],k,t=>by simp [params,get]
 | v ::vs,k,t=>by
  simp only [params,get_cons,get_params vs (k+1) t]
  by_cases h:k=t
  ·subst h;simp
  ·by_cases h2:k+1≤t
   ·have:t - k=(t - (k+1))+1:=by omega
    simp [h,h2,show k≤t by omega,this]
   ·simp [h,h2,show ¬ k≤t by omega]
theorem run_ok {f:FuncId} {pf:PFunc} (hO:OrcOk P O) (hD:DrawnOk P O) (hf:funcOf P f=some pf) (hL:LoopsOk P (sizeF P f) H.length O f (subs pf.body)) {args:List PV} {K:PV→Heap→Option β} (h:runF P O f args H K=some r)
  {vs:Array Value} (hr:Rel S F w H) (hv:Args S F w args vs) :
  Calls P f vs w fun e w'=>∃ v p' H' S' F',e = .returned v∧K p' H'=some r∧Rel S' F' w' H'∧Val S' F' w' p' v∧Adv S F w H S' F' w' H':=by
 unfold runF at h
 rw [hf] at h
 simp only at h
 obtain ⟨h0,h⟩:=cond_some h
 have h0:=Nat.eq_of_beq_eq_true h0
 obtain ⟨fn,c,ex,l,hfn,hc,e1,e2,e3,hm,hE⟩:=funcOf_some hf
 obtain ⟨hsz,hvv⟩:=hv
 have hS:(vs++Array.replicate (fn.ntmps - vs.size) undef).size=sizeF P f:=by
  simp only [Array.size_append,Array.size_replicate,sizeF,hfn]
  rw [hsz,h0,e1]
 unfold funcBody at h
 simp only [fAs_eq,fH_eq] at h
 have hat:At S F w (params 0 args) { tmps:=vs++Array.replicate (fn.ntmps - vs.size) undef,defers:=[] } (sizeF P f):=by
  refine ⟨⟨fun k=>?_,fun _=>rfl,fun _=>rfl⟩,hS,rfl⟩
  rw [get_params]
  simp only [Nat.zero_le,if_true,Nat.sub_zero]
  cases hk:args[k]? with
  | none=>exact .junk _
  | some p =>
   have hlt:k<vs.size:=by rw [hsz];exact (List.getElem?_eq_some_iff.1 hk).1
   have:Act.eval { tmps:=vs++Array.replicate (fn.ntmps - vs.size) undef,defers:=[] } (.tmp k)=vs[k]:=by
    simp [Act.eval,Array.getElem?_append_left hlt,hlt]
   rw [this]
   exact hvv k p _ hk (Array.getElem?_eq_getElem hlt)
 refine calls_of_wp hfn hc (code_ok hO hD hL hm (fun x hx=>hx) hr hat h fun x E1 H1 S1 F1 w1 a1 hK hr1 ha1 hA=>?_)
 have key:∀ (K':PV→Heap→Option β),(resVals E1 H1 pf.res fun vs=>fin H.length pf.ro (oneOf vs) H1 K')=some r→∃ v,(results fn a1.tmps).run P w1 = .ok v w1∧∃ p' H' S' F',K' p' H'=some r∧Rel S' F' w1 H'∧Val S' F' w1 p' v∧Adv S F w H S' F' w1 H':=by
  intro K' hK
  rw [e2] at hK
  obtain ⟨ps,v,g1,g2,g3⟩:=results_ok (fn:=fn) hr1 (fun t=>ha1.opd.tmp t) hK
  obtain ⟨p',H',S',F',k1,k2,k3,k4⟩:=fin_ok hr1 g3 g1
  have k5:=hA.trans k4
  exact ⟨v,g2,p',H',S',F',k1,k2,k3,⟨k5.ff,fun b hb=>by
   refine k5.ss b (Nat.lt_of_not_le fun hle=>hb (unused_S hr (hget_len H b hle))) hb,k5.sz,k5.same,k5.wr,k5.fn,k5.st⟩⟩
 cases x with
 | exit id=>cases hK
 | normal =>
  obtain ⟨v,g1,p',H',S',F',g2⟩:=key K hK
  exact ⟨ha1.defers,v,g1,v,p',H',S',F',rfl,g2⟩
 | ret =>
  obtain ⟨v,g1,p',H',S',F',g2⟩:=key K hK
  exact ⟨ha1.defers,v,g1,v,p',H',S',F',rfl,g2⟩
def LEnt.enc (x:LEnt) (y:SgEl x.sgE ⊕ SgEl x.sgR):(Nat×List PV×Heap) ⊕ (List PV×Heap) :=
 match y with
 | .inl a => .inl (x.e,argsOf x.sgE a 0,heapOf x.sgE a)
 | .inr b => .inr (argsOf x.sgR b 0,heapOf x.sgR b)
def LEntOk (P:Program) (f:FuncId) (m:Nat) (x:LEnt) (g:Nat):Prop :=
 ∀ pf,funcOf P f=some pf→∀ lv lx ap fz nb pc c,PCode.loop x.i lv lx ap fz nb pc∈subs pf.body→Mt P (sizeF P f) c pc→∀ s y,x.L s=some y→LoopOk P (sizeF P f) m g lv lx c (argsOf x.sg s 0) (heapOf x.sg s) (x.enc y)
def TabL (P:Program) (f:FuncId) (m:Nat) (L:List LEnt):Prop:=∀ x∈L,∃ g,LEntOk P f m x g
theorem lent_susp {f:FuncId} {x:LEnt} {g:Nat} (h:LEntOk P f m x g) {pf:PFunc} (hf:funcOf P f=some pf) {lv:List Nat} {lx:List (Nat×List Nat)} {ap fz:List Nat} {nb:Bool} {pc:PCode} {c:Code} (hs:PCode.loop x.i lv lx ap fz nb pc∈subs pf.body) (hm:Mt P (sizeF P f) c pc)
  (vs:List PV) (H:Heap):match x.loop vs H with
  | ⟨_,_,z,encE,encR⟩=>∀ y,z=some y→LoopOk P (sizeF P f) m g lv lx c vs H (match y with|.inl a => .inl (encE a)|.inr b => .inr (encR b)):=by
 unfold LEnt.loop
 cases hd:decIn x.sg vs H with
 | some s =>
  obtain ⟨rfl,rfl⟩:=decIn_some hd
  intro y hy
  have:=h pf hf lv lx ap fz nb pc c hs hm s y hy
  cases y<;>exact this
 | none=>intro y hy;cases hy
theorem loops_table {f:FuncId} {T:List Ent} {L:List LEnt} (h:TabL P f m L) {pf:PFunc} (hf:funcOf P f=some pf):LoopsOk P (sizeF P f) m (specO T L) f (subs pf.body):=by
 intro i lv lx ap fz nb pc c hs hm
 show ∃ g,∀ vs H,match loopOf L i vs H with
  | ⟨_,_,x,encE,encR⟩=>∀ y,x=some y→LoopOk P (sizeF P f) m g lv lx c vs H (match y with|.inl a => .inl (encE a)|.inr b => .inr (encR b))
 induction L with
 | nil=>exact ⟨0,fun vs H y hy=>by cases hy⟩
 | cons x L ih =>
  cases hb:Nat.beq x.i i with
  | false =>
   obtain ⟨g,hg⟩:=ih fun y hy=>h y (List.mem_cons_of_mem _ hy)
   refine ⟨g,fun vs H=>?_⟩
   rw [show loopOf (x ::L) i vs H=loopOf L i vs H by simp only [loopOf,hb,cond_false]]
   exact hg vs H
  | true =>
   have:=Nat.eq_of_beq_eq_true hb
   subst this
   obtain ⟨g,hg⟩:=h x (List.mem_cons_self ..)
   refine ⟨g,fun vs H=>?_⟩
   rw [show loopOf (x ::L) x.i vs H=x.loop vs H by simp only [loopOf,hb,cond_true]]
   exact lent_susp hg hf hs hm vs H
theorem loop_step {f:FuncId} {T:List Ent} {L:List LEnt} (hD:∀ O,OrcOk P O→DrawnOk P O) (hT:TabF P T) (hL:TabL P f m L) {i e g:Nat} {sg sgE sgR:List Sg} {X X':SgEl sg→Option (SgEl sgE ⊕ SgEl sgR)}
  (hX:LEntOk P f m ⟨i,sg,e,sgE,sgR,X⟩ g) (hs:∀ s,walkL P T (⟨i,sg,e,sgE,sgR,X⟩ ::L) f m ⟨i,sg,e,sgE,sgR,X⟩ s=X' s):LEntOk P f m ⟨i,sg,e,sgE,sgR,X'⟩ (g+1):=by
 intro pf hf lv lx ap fz nb pc c hsub hm s y hy
 have hO:=orc_table hT (⟨i,sg,e,sgE,sgR,X⟩ ::L)
 have hL':TabL P f m (⟨i,sg,e,sgE,sgR,X⟩ ::L):=fun x hx=>by
  rcases List.mem_cons.1 hx with rfl|hx
  ·exact ⟨g,hX⟩
  ·exact hL x hx
 have h:=(hs s).trans hy
 unfold walkL runL at h
 rw [hf] at h
 obtain ⟨fn,c0,ex,l,hfn,hc,e1,e2,e3,hm0,hE⟩:=funcOf_some hf
 have hfind:findLoop pf.body i=some (.loop i lv lx ap fz nb pc):=by rw [e3] at hsub ⊢;exact findLoop_sub c0 ex l hsub
 simp only [hfind] at h
 obtain ⟨hlen,h⟩:=cond_some h
 intro S F w a hr ho hsz hdf
 have hself:LOk P (sizeF P f) m g (specO T (⟨i,sg,e,sgE,sgR,X⟩ ::L)) f i lv lx c:=by
  intro vs H
  show match loopOf (⟨i,sg,e,sgE,sgR,X⟩ ::L) i vs H with
   | ⟨_,_,x,encE,encR⟩=>∀ y,x=some y→LoopOk P (sizeF P f) m g lv lx c vs H (match y with|.inl a => .inl (encE a)|.inr b => .inr (encR b))
  rw [show loopOf (⟨i,sg,e,sgE,sgR,X⟩ ::L) i vs H=LEnt.loop ⟨i,sg,e,sgE,sgR,X⟩ vs H by simp only [loopOf,show Nat.beq i i=true from Nat.beq_refl i,cond_true]]
  exact lent_susp hX hf hsub hm vs H
 refine loopBody_ok hO (hD _ hO) (loops_table (T:=T) hL' hf) hm (sub_subs pf.body hsub) hself h hr ho hsz hdf fun x outs H' S' F' w' a' hx hK g1 g2 g3 g4 g5=>?_
 cases x with
 | normal=>exact absurd rfl hx
 | exit j =>
  simp only at hK
  obtain ⟨hj,hK⟩:=cond_some hK
  have:=Nat.eq_of_beq_eq_true hj
  subst this
  cases hd:decIn sgE outs H' with
  | none=>rw [hd] at hK;cases hK
  | some b =>
   rw [hd] at hK
   simp only [Option.map_some,Option.some.injEq] at hK
   subst hK
   obtain ⟨rfl,rfl⟩:=decIn_some hd
   exact ⟨rfl,S',F',g1,g2,g3,g4,g5⟩
 | ret =>
  simp only at hK
  cases hd:decIn sgR outs H' with
  | none=>rw [hd] at hK;cases hK
  | some b =>
   rw [hd] at hK
   simp only [Option.map_some,Option.some.injEq] at hK
   subst hK
   obtain ⟨rfl,rfl⟩:=decIn_some hd
   exact ⟨rfl,S',F',g1,g2,g3,g4,g5⟩
def nSl:List Sg→Nat
 | []=>0
 | .tree _ ::r=>nSl r
 | .box cs ::r=>nSl r+1+nOwn cs
 | .fnv _ caps ::r=>nSl r+caps.length
 | .fnvr _ caps ::r=>nSl r+caps.length
 | .nl _ ::r=>nSl r
 | .al _ ::r=>nSl r
 | _ ::r=>nSl r+1
theorem nSl_eq:∀ (sg:List Sg) (a:SgEl sg),(extraHeap sg a).length+nIds sg=nSl sg
 | [],_=>rfl
 | .tree _ ::r,a=>nSl_eq r a.2
 | .nl _ ::r,a=>nSl_eq r a.2
 | .al _ ::r,a=>nSl_eq r a.2
 | .box cs ::r,a=>by have:=nSl_eq r a.2;simp [extraHeap,nIds,nSl,csExtra_length];omega
 | .boxr _ ::r,a=>by have:=nSl_eq r a.2;simp [extraHeap,nIds,nSl];omega
 | .fnv _ caps ::r,a=>by have:=nSl_eq r a.2;simp [extraHeap,nIds,nSl];omega
 | .fnvr _ caps ::r,a=>by have:=nSl_eq r a.2;simp [extraHeap,nIds,nSl];omega
 | .own _ ::r,a=>by have:=nSl_eq r a.2;simp [extraHeap,nIds,nSl];omega
 | .ownx _ ::r,a=>by have:=nSl_eq r a.2;simp [extraHeap,nIds,nSl];omega
theorem heapOf_length (sg:List Sg) (a:SgEl sg):(heapOf sg a).length=nSl sg:=by
 rw [← nSl_eq sg a];simp [heapOf,mainHeap_length];omega
theorem ent_ok {f:FuncId} {T:List Ent} {L:List LEnt} (hD:∀ O,OrcOk P O→DrawnOk P O) (hT:TabF P T) {sg:List Sg} {rs:List Rt} (hL:TabL P f (nSl sg) L) {X:SgEl sg→Option (RtEl rs×OutEl sg)}
  (h:∀ x,walkF P T L f sg rs x=X x):EntOk P ⟨f,sg,rs,X⟩:=by
 intro x yy hy
 obtain ⟨y,o⟩:=yy
 have h:=(h x).trans hy
 have hO:=orc_table hT L
 unfold walkF at h
 have hf:∃ pf,funcOf P f=some pf:=by
  unfold runF at h
  cases e:funcOf P f with
  | none=>rw [e] at h;cases h
  | some pf=>exact ⟨pf,rfl⟩
 obtain ⟨pf,hf⟩:=hf
 obtain ⟨_,_,_,_,_,_,_,_,_,_,hE⟩:=funcOf_some hf
 refine ⟨hE,fun S F w vs hr hv=>(run_ok hO (hD _ hO) hf (loops_table (T:=T) (by rw [heapOf_length];exact hL) hf) h hr hv).mono ?_⟩
 rintro e w' ⟨v,p',H',S',F',rfl,hK,g1,g2,g3⟩
 obtain ⟨o',H2,k1,k2⟩:=decOut_some hK
 obtain ⟨y',k3,k4⟩:=decRes_some k1
 simp only [Option.some.injEq,Prod.mk.injEq] at k3
 obtain ⟨rfl,rfl⟩:=k3
 have e:encOut sg rs x (y',o')=(p',H'):=by
  unfold encOut
  simp only
  rw [← k4]
  simp only
  rw [← k2 x]
 refine ⟨v,S',F',rfl,?_⟩
 rw [show encOut (⟨f,sg,rs,X⟩:Ent).sg (⟨f,sg,rs,X⟩:Ent).rs x (y',o')=(p',H') from e]
 exact ⟨g1,g2,g3⟩
end
end Go.Proofs.YtdcphpbimeoioaaGreatDoorE
end
section
set_option linter.unusedSectionVars false
namespace Go.Proofs.YtdcphpbimeoioaaGreatDoorE
open Go
set_option linter.unusedVariables false
set_option linter.unusedSimpArgs false
variable [Dm]
def upd (H:Heap):List (Nat×Slot)→Heap
 | []=>H
 | (b,s) ::r=>upd (hset H b s) r
def Agr (A:List Nat) (H H':Heap):Prop:=∀ b∈A,hget H' b=hget H b
def Loc (A W:List Nat) (H:Heap) (c:{β:Type}→Heap→(PV→Heap→Option β)→Option β):Prop :=
 ∃ v δ,(∀ x∈δ,x.1∈W)∧∀ H',Agr A H H'→∀ {β:Type} (K:PV→Heap→Option β),c H' K=K v (upd H' δ)
section
variable {β:Type} {P:Program} {H H':Heap} {E E':Env} {O:Orc} {nb:Nat} {r:β} {A W:List Nat}
theorem hget_upd_ne:∀ (δ:List (Nat×Slot)) (H:Heap) (b:Nat),(∀ x∈δ,x.1≠b)→hget (upd H δ) b=hget H b
 | [],H,b,_=>rfl
 | (c,s) ::δ,H,b,h=>by
  rw [upd,hget_upd_ne δ _ b (fun x hx=>h x (List.mem_cons_of_mem _ hx)),hget_hset_ne _ _ _ _ (fun e=>h (c,s) (List.mem_cons_self ..) e.symm)]
theorem upd_append:∀ (δ δ':List (Nat×Slot)) (H:Heap),upd H (δ++δ')=upd (upd H δ) δ'
 | [],δ',H=>rfl
 | (b,s) ::δ,δ',H=>upd_append δ δ' _
theorem upd_hset:∀ (δ:List (Nat×Slot)) (H:Heap) (b:Nat) (s:Slot),(∀ x∈δ,x.1≠b)→upd (hset H b s) δ=hset (upd H δ) b s
 | [],H,b,s,_=>rfl
 | (c,t) ::δ,H,b,s,h=>by
  rw [upd,upd,← upd_hset δ _ b s (fun x hx=>h x (List.mem_cons_of_mem _ hx)),hset_comm _ _ _ _ _ (fun e=>h (c,t) (List.mem_cons_self ..) e.symm)]
theorem upd_comm:∀ (δ δ':List (Nat×Slot)) (H:Heap),(∀ x∈δ,∀ y∈δ',x.1≠y.1)→upd (upd H δ) δ'=upd (upd H δ') δ
 | [],δ',H,_=>rfl
 | (b,s) ::δ,δ',H,h=>by
  rw [upd,upd_comm δ δ' _ (fun x hx=>h x (List.mem_cons_of_mem _ hx)),upd,upd_hset δ' H b s (fun y hy=>(h (b,s) (List.mem_cons_self ..) y hy).symm)]
theorem Agr.mono {A':List Nat} (h:Agr A H H') (hA:∀ b∈A',b∈A):Agr A' H H':=fun b hb=>h b (hA b hb)
theorem Agr.hset (h:Agr A H H') (b:Nat) (s:Slot):Agr A (hset H b s) (hset H' b s):=fun c hc=>by
 by_cases e:c=b
 ·subst e;rw [hget_hset_same,hget_hset_same]
 ·rw [hget_hset_ne _ _ _ _ e,hget_hset_ne _ _ _ _ e];exact h c hc
theorem frz_upd:∀ (ids:List Nat) (H:Heap),∃ δ,(∀ x∈δ,x.1∈ids)∧∀ H',Agr ids H H'→frz H' ids=upd H' δ
 | [],H=>⟨[],by simp,fun _ _=>rfl⟩
 | b ::ids,H=>by
  have key:∀ s,(∀ H',hget H' b=hget H b→frz H' (b ::ids)=frz (hset H' b s) ids)→∃ δ,(∀ x∈δ,x.1∈b ::ids)∧∀ H',Agr (b ::ids) H H'→frz H' (b ::ids)=upd H' δ:=by
   intro s hs
   obtain ⟨δ,h1,h2⟩:=frz_upd ids (hset H b s)
   refine ⟨(b,s) ::δ,fun y hy=>?_,fun H' hA=>?_⟩
   ·rcases List.mem_cons.1 hy with rfl|hy
    ·exact List.mem_cons_self ..
    ·exact List.mem_cons_of_mem _ (h1 y hy)
   ·rw [hs H' (hA b (List.mem_cons_self ..)),upd]
    exact h2 _ ((hA.mono fun c hc=>List.mem_cons_of_mem _ hc).hset b s)
  have skip:(∀ H',hget H' b=hget H b→frz H' (b ::ids)=frz H' ids)→∃ δ,(∀ x∈δ,x.1∈b ::ids)∧∀ H',Agr (b ::ids) H H'→frz H' (b ::ids)=upd H' δ:=by
   intro hs
   obtain ⟨δ,h1,h2⟩:=frz_upd ids H
   exact ⟨δ,fun y hy=>List.mem_cons_of_mem _ (h1 y hy),fun H' hA=>by rw [hs H' (hA b (List.mem_cons_self ..))];exact h2 _ (hA.mono fun c hc=>List.mem_cons_of_mem _ hc)⟩
  cases hg:hget H b with
  | unused=>exact skip fun H' e=>by simp only [frz,e.trans hg]
  | dead=>exact skip fun H' e=>by simp only [frz,e.trans hg]
  | live x =>
   cases x with
   | box cs w=>exact key (.live (.box cs false)) fun H' e=>by simp only [frz,e.trans hg]
   | arr t xs w=>exact key (.live (.arr t xs false)) fun H' e=>by simp only [frz,e.trans hg]
theorem cond_bind {α:Type} (b:Bool) (x:Option α) (K:α→Option β):(cond b x none).bind K=cond b (x.bind K) none:=by cases b<;>rfl
theorem cond_bind' {α:Type} (b:Bool) (x:Option α) (K:α→Option β):(cond b none x).bind K=cond b none (x.bind K):=by cases b<;>rfl
theorem optK_bind {α γ:Type} (x:Option α) (f:α→Option γ) (K:γ→Option β):(optK x f).bind K=optK x fun a=>(f a).bind K:=by cases x<;>rfl
theorem fit_nat (n:Nat) (cs:List PV) (K:List PV→Option β):fit n cs K=(fit n cs some).bind K:=by unfold fit;rw [cond_bind];rfl
theorem cellsK_nat (v:PV) (K:List PV→Option β):cellsK v K=(cellsK v some).bind K:=by
 unfold cellsK
 split
 ·rfl
 ·rw [cond_bind];rfl
theorem part_nat (k:Option Nat) (j:Nat) (row:List PV) (K:PV→Option β):part k j row K=(part k j row some).bind K:=by
 unfold part
 cases k with
 | none=>simp only;cases nth row j<;>rfl
 | some n=>simp only;rw [fit_nat,fit_nat n _ fun cs=>some (PV.agg cs)];cases fit n ((row.drop j).take n) some<;>rfl
theorem decK_nat:∀ (t:Ty) (cs:List PV) {β:Type} (K:El t→List PV→Option β),decK t cs K=(decK t cs fun x r=>some (x,r)).bind fun p=>K p.1 p.2
 | .int k,cs,β,K=>by
  cases cs with
  | nil=>rfl
  | cons c cs=>cases c<;>first|rfl|(simp only [decK];rw [cond_bind];rfl)
 | .bool,cs,β,K=>by
  cases cs with
  | nil=>rfl
  | cons c cs=>cases c<;>rfl
 | .str,cs,β,K=>by
  cases cs with
  | nil=>rfl
  | cons c cs=>cases c<;>rfl
 | .slice t,cs,β,K=>by
  cases cs with
  | nil=>rfl
  | cons c cs=>cases c<;>first|rfl|(simp only [decK];rw [optK_bind];rfl)
 | .unit,cs,β,K=>by cases cs<;>rfl
 | .none,cs,β,K=>by cases cs<;>rfl
 | .pair a b,cs,β,K=>by
  simp only [decK]
  rw [decK_nat a cs,decK_nat a cs fun x r=>decK b r fun y r'=>some ((x,y),r')]
  cases decK a cs fun x r=>some (x,r) with
  | none=>rfl
  | some p =>
   simp only [Option.bind_some]
   rw [decK_nat b p.2,decK_nat b p.2 fun y r'=>some ((p.1,y),r')]
   cases decK b p.2 fun x r=>some (x,r)<;>rfl
end
end Go.Proofs.YtdcphpbimeoioaaGreatDoorE
end
section
set_option linter.unusedSectionVars false
namespace Go.Proofs.YtdcphpbimeoioaaGreatDoorE
open Go
set_option linter.unusedVariables false
set_option linter.unusedSimpArgs false
variable [Dm]
section
variable {β:Type} {P:Program} {H H':Heap} {E E':Env} {O:Orc} {nb:Nat} {r:β} {A W:List Nat}
theorem bind_some {α γ:Type} {x:Option α} {K:α→Option γ} {r:γ} (h:x.bind K=some r):∃ a,x=some a∧K a=some r:=by
 cases x with
 | none=>cases h
 | some a=>exact ⟨a,rfl,h⟩
theorem intOp_nat (op:BinOp) (k:IntKind) (a b:Int) (K:PV→Option β):intOp op k a b K=(intOp op k a b some).bind K:=by
 cases op<;>simp only [intOp]<;>first|rfl|(rw [cond_bind'];rfl)
theorem strOp_nat (op:BinOp) (a b:ByteArray) (K:PV→Option β):strOp op a b K=(strOp op a b some).bind K:=by
 cases op<;>simp only [strOp]<;>first|rfl|(rw [cond_bind];rfl)
theorem binOp_nat (op:BinOp) (x y:PV) (K:PV→Option β):binOp op x y K=(binOp op x y some).bind K:=by
 unfold binOp
 split
 ·split
  ·rw [cond_bind'];rfl
  ·rw [cond_bind'];rfl
  ·rw [cond_bind,intOp_nat]
 ·exact strOp_nat _ _ _ _
 ·rfl
theorem unOp_nat (op:UnOp) (x:PV) (K:PV→Option β):unOp op x K=(unOp op x some).bind K:=by
 unfold unOp;split<;>rfl
theorem bound_bind {γ:Type} (v:Option PV) (d:Int) (f:Int→Option γ) (K:γ→Option β):(bound v d f).bind K=bound v d fun a=>(f a).bind K:=by
 cases v with
 | none=>rfl
 | some v=>cases v<;>rfl
theorem fit_bind {γ:Type} (n:Nat) (cs:List PV) (f:List PV→Option γ) (K:γ→Option β):(fit n cs f).bind K=fit n cs fun a=>(f a).bind K:=by unfold fit;rw [cond_bind]
theorem cellsK_bind {γ:Type} (v:PV) (f:List PV→Option γ) (K:γ→Option β):(cellsK v f).bind K=cellsK v fun a=>(f a).bind K:=by
 unfold cellsK
 split
 ·rfl
 ·rw [cond_bind]
theorem eqCells_bind:∀ (x y:List PV) {γ β:Type} (f:Bool→Option γ) (K:γ→Option β),(eqCells x y f).bind K=eqCells x y fun b=>(f b).bind K
 | [],y,γ,β,f,K=>by cases y<;>rfl
 | c ::x,[],γ,β,f,K=>by cases c<;>rfl
 | c ::x,d ::y,γ,β,f,K=>by cases c<;>cases d<;>simp only [eqCells]<;>first|rfl|rw [cond_bind,eqCells_bind x y]|rw [eqCells_bind x y]
theorem fillR_bind:∀ (ps:List (Nat×Nat×PV)) (cs:List PV) {γ β:Type} (f:List PV→Option γ) (K:γ→Option β),(fillR cs ps f).bind K=fillR cs ps fun b=>(f b).bind K
 | [],cs,γ,β,f,K=>rfl
 | (off,n,v) ::ps,cs,γ,β,f,K=>by simp only [fillR,cellsK_bind,fit_bind,cond_bind,fillR_bind ps]
theorem folds_bind (mn:Bool):∀ (l:List PV) (x:PV) {γ β:Type} (f:PV→Option γ) (K:γ→Option β),(folds mn x l f).bind K=folds mn x l fun b=>(f b).bind K
 | [],x,γ,β,f,K=>by cases x<;>rfl
 | y ::l,x,γ,β,f,K=>by cases x<;>cases y<;>simp only [folds]<;>first|rfl|exact folds_bind mn l _ f K
theorem sliceOp_bind {γ:Type} (sz:Nat) (x:PV) (lo hi:Option PV) (f:PV→Option γ) (K:γ→Option β):(sliceOp sz x lo hi f).bind K=sliceOp sz x lo hi fun b=>(f b).bind K:=by
 unfold sliceOp
 split<;>simp only [bound_bind,cond_bind,Option.bind_none]
theorem decK_bind (t:Ty) (cs:List PV) {γ:Type} (f:El t→List PV→Option γ) (K:γ→Option β):(decK t cs f).bind K=decK t cs fun a b=>(f a b).bind K:=by
 rw [decK_nat t cs f,decK_nat t cs fun a b=>(f a b).bind K,Option.bind_assoc]
theorem elsFill_bind:∀ (ps:List (Nat×PV)) (t:Ty) (xs:List (El t)) {γ β:Type} (f:List (El t)→Option γ) (K:γ→Option β),(elsFill H t xs ps f).bind K=elsFill H t xs ps fun b=>(f b).bind K
 | [],t,xs,γ,β,f,K=>rfl
 | (i,v) ::ps,t,xs,γ,β,f,K=>by
  simp only [elsFill,cellsK_bind,decK_bind]
  congr
  funext cs
  congr
  funext y rest
  cases rest with
  | nil=>simp only [cond_bind,elsFill_bind ps]
  | cons _ _=>rfl
theorem loc_val {c:{β:Type}→Heap→(PV→Heap→Option β)→Option β} (v:PV) (h:∀ H',Agr A H H'→∀ {β:Type} (K:PV→Heap→Option β),c H' K=K v H'):Loc A W H c :=
 ⟨v,[],by simp,fun H' hA β K=>h H' hA K⟩
theorem loc_nat {c:{β:Type}→(PV→Option β)→Option β} (hc:∀ {γ β:Type} (f:PV→Option γ) (K:γ→Option β),(c f).bind K=c fun b=>(f b).bind K) {K:PV→Option β} (h:c K=some r):∃ v,∀ {β:Type} (K:PV→Option β),c K=K v:=by
 have h1:=hc some K
 simp only [Option.bind_some] at h1
 rw [h] at h1
 obtain ⟨v,hv,_⟩:=bind_some h1
 refine ⟨v,fun {β} K=>?_⟩
 have h2:=hc some K
 simp only [Option.bind_some] at h2
 rw [← h2,hv];rfl
end
end Go.Proofs.YtdcphpbimeoioaaGreatDoorE
end
section
set_option linter.unusedSectionVars false
namespace Go.Proofs.YtdcphpbimeoioaaGreatDoorE
open Go
set_option linter.unusedVariables false
set_option linter.unusedSimpArgs false
variable [Dm]
section
variable {β:Type} {P:Program} {H H':Heap} {E E':Env} {O:Orc} {nb:Nat} {r:β} {A W:List Nat}
theorem live_eq {b:Nat} {x:Blk} (h:hget H b = .live x) (K:Blk→Option β):live H b K=K x:=by simp [live,h]
theorem fresh_eq (h:hget H nb = .unused) (x:Option β):fresh H nb x=x:=by simp [fresh,h]
theorem cell1_agr {c:PV} (h:∀ b∈ownC c,hget H' b=hget H b):cell1 H' c=cell1 H c:=by
 cases c<;>try rfl
 rename_i b
 simp only [cell1,h b (by simp [ownC])]
theorem snapV_agr {v:PV} (h:∀ b∈ownIds v,hget H' b=hget H b):snapV H' v=snapV H v:=by
 cases v with
 | agg cs =>
  simp only [snapV]
  congr 1
  exact List.map_congr_left fun c hc=>cell1_agr fun b hb=>h b (List.mem_flatMap.2 ⟨c,hc,hb⟩)
 | tup vs =>
  simp only [snapV]
  congr 1
  refine List.map_congr_left fun v hv=>?_
  have hm:∀ b∈(match v with|.agg cs=>cs.flatMap ownC|v=>ownC v),hget H' b=hget H b:=fun b hb=>h b (List.mem_flatMap.2 ⟨v,hv,hb⟩)
  cases v with
  | agg cs =>
   simp only
   congr 1
   exact List.map_congr_left fun c hc=>cell1_agr fun b hb=>hm b (List.mem_flatMap.2 ⟨c,hc,hb⟩)
  | own b=>exact cell1_agr (c := .own b) fun c hc=>hm c hc
  | _=>rfl
 | own b=>exact cell1_agr (c := .own b) fun c hc=>h c hc
 | _=>rfl
theorem elsOf_loc {u:Ty} {x:PV} {K:List (El u)→Option β} (h:elsOf H u x K=some r):∃ xs,K xs=some r∧∀ H',(∀ b∈footV x,hget H' b=hget H b)→∀ {β:Type} (K:List (El u)→Option β),elsOf H' u x K=K xs:=by
 unfold elsOf at h
 split at h
 ·obtain ⟨xs,h1,h2⟩:=optK_some h
  exact ⟨xs,h2,fun H' _ β K=>by simp [elsOf,h1,optK]⟩
 ·obtain ⟨xs,h1,h2⟩:=optK_some h
  exact ⟨xs,h2,fun H' _ β K=>by simp [elsOf,h1,optK]⟩
 ·rename_i b
  obtain ⟨y,h0,h⟩:=live_some h
  cases y with
  | box=>cases h
  | arr t xs w =>
   obtain ⟨xs,h1,h2⟩:=optK_some h
   exact ⟨xs,h2,fun H' hA β K=>by
    have:=(hA b (by simp [footV])).trans h0
    simp [elsOf,live_eq this,h1,optK]⟩
 ·rename_i b lo n
  obtain ⟨y,h0,h⟩:=live_some h
  cases y with
  | box=>cases h
  | arr t xs w =>
   obtain ⟨xs,h1,h2⟩:=optK_some h
   exact ⟨xs,h2,fun H' hA β K=>by
    have:=(hA b (by simp [footV])).trans h0
    simp [elsOf,live_eq this,h1,optK]⟩
 ·obtain ⟨xs,h1,h2⟩:=optK_some h
  exact ⟨xs,h2,fun H' _ β K=>by simp [elsOf,h1,optK]⟩
 ·cases h
theorem lenOf_loc {x:PV} {K:Int→Option β} (h:lenOf H x K=some r):∃ n,K n=some r∧∀ H',(∀ b∈footV x,hget H' b=hget H b)→∀ {β:Type} (K:Int→Option β),lenOf H' x K=K n:=by
 unfold lenOf at h
 split at h
 ·exact ⟨_,h,fun H' _ β K=>rfl⟩
 ·exact ⟨_,h,fun H' _ β K=>rfl⟩
 ·exact ⟨_,h,fun H' _ β K=>rfl⟩
 ·rename_i b
  obtain ⟨y,h0,h⟩:=live_some h
  cases y with
  | box=>cases h
  | arr t xs w =>
   exact ⟨_,h,fun H' hA β K=>by
    have:=(hA b (by simp [footV])).trans h0
    simp [lenOf,live_eq this]⟩
 ·cases h
theorem elsFill_agr:∀ (ps:List (Nat×PV)) (t:Ty) (xs:List (El t)) {β:Type} (K:List (El t)→Option β),(∀ p∈ps,∀ b∈ownIds p.2,hget H' b=hget H b)→elsFill H' t xs ps K=elsFill H t xs ps K
 | [],t,xs,β,K,h=>rfl
 | (i,v) ::ps,t,xs,β,K,h=>by
  simp only [elsFill,snapV_agr (h (i,v) (List.mem_cons_self ..))]
  congr
  funext cs
  congr
  funext y rest
  cases rest with
  | nil=>simp only;rw [elsFill_agr ps t _ K fun p hp=>h p (List.mem_cons_of_mem _ hp)]
  | cons _ _=>rfl
theorem load_loc {k:Option Nat} {a:PV} {K:PV→Heap→Option β} (h:loadK H k a K=some r) (hA:∀ b∈footV a,b∈A):Loc A W H fun H K=>loadK H k a K:=by
 unfold loadK at h
 split at h
 ·rename_i b i j
  obtain ⟨x,hx,h⟩:=live_some h
  cases x with
  | box row w =>
   obtain ⟨h0,h⟩:=cond_some h
   obtain ⟨v,hv⟩:=loc_nat (c:=fun {β} K=>part (β:=β) k j row K) (fun f K=>(by
    rw [part_nat k j row f,part_nat k j row fun b=>(f b).bind K,Option.bind_assoc])) h
   exact loc_val v fun H' hH β K=>by
    have:=(hH b (hA b (by simp [footV]))).trans hx
    simp only [loadK,live_eq this,h0,cond_true]
    exact hv fun v=>K v H'
  | arr t xs w =>
   obtain ⟨x,hx2,h⟩:=bindN_some h
   obtain ⟨v,hv⟩:=loc_nat (c:=fun {β} K=>part (β:=β) k j (cellsOf t x) K) (fun f K=>(by
    rw [part_nat k j _ f,part_nat k j _ fun b=>(f b).bind K,Option.bind_assoc])) h
   exact loc_val v fun H' hH β K=>by
    have:=(hH b (hA b (by simp [footV]))).trans hx
    simp only [loadK,live_eq this,hx2,bindN,Option.bind_some]
    exact hv fun v=>K v H'
 ·rename_i cs
  obtain ⟨v,hv⟩:=loc_nat (c:=fun {β} K=>part (β:=β) k 0 cs K) (fun f K=>(by
   rw [part_nat k 0 cs f,part_nat k 0 cs fun b=>(f b).bind K,Option.bind_assoc])) h
  exact loc_val v fun H' hH β K=>hv fun v=>K v H'
 ·cases h
theorem fadr_loc {off:Nat} {a:PV} {K:PV→Heap→Option β} (h:fadrK H off a K=some r) (hA:∀ b∈footV a,b∈A):Loc A W H fun H K=>fadrK H off a K:=by
 unfold fadrK at h
 split at h
 ·rename_i b i j
  obtain ⟨x,hx,h⟩:=live_some h
  exact loc_val _ fun H' hH β K=>by
   have:=(hH b (hA b (by simp [footV]))).trans hx
   simp only [fadrK,live_eq this];rfl
 ·exact loc_val _ fun H' hH β K=>rfl
 ·cases h
theorem nilck_loc {a:PV} {K:PV→Heap→Option β} (h:nilckK H a K=some r) (hA:∀ b∈footV a,b∈A):Loc A W H fun H K=>nilckK H a K:=by
 unfold nilckK at h
 split at h
 ·rename_i b i j
  obtain ⟨x,hx,h⟩:=live_some h
  exact loc_val _ fun H' hH β K=>by
   have:=(hH b (hA b (by simp [footV]))).trans hx
   simp only [nilckK,live_eq this];rfl
 ·exact loc_val _ fun H' hH β K=>rfl
 ·exact loc_val _ fun H' hH β K=>rfl
 ·cases h
theorem iadr_loc {sz:Nat} {a:PV} {i:Int} {K:PV→Heap→Option β} (h:iadrK H sz a i K=some r) (hA:∀ b∈footV a,b∈A):Loc A W H fun H K=>iadrK H sz a i K:=by
 unfold iadrK at h
 split at h
 ·obtain ⟨h0,h⟩:=cond_some h
  obtain ⟨h1,h⟩:=cond_some h
  obtain ⟨x,h2,h⟩:=bindN_some h
  exact loc_val _ fun H' hH β K=>by simp only [iadrK,h0,h1,h2,bindN,cond_true,Option.bind_some];rfl
 ·rename_i b
  obtain ⟨x,hx,h⟩:=live_some h
  cases x with
  | box=>cases h
  | arr t xs w =>
   obtain ⟨h0,h⟩:=cond_some h
   obtain ⟨h1,h⟩:=cond_some h
   obtain ⟨x,h2,h⟩:=bindN_some h
   exact loc_val _ fun H' hH β K=>by
    have:=(hH b (hA b (by simp [footV]))).trans hx
    simp only [iadrK,live_eq this,h0,h1,h2,bindN,cond_true,Option.bind_some];rfl
 ·cases h
theorem slice_loc {sz:Nat} {x:PV} {lo hi:Option PV} {K:PV→Heap→Option β} (h:sliceK H sz x lo hi K=some r) (hA:∀ b∈footV x,b∈A) (hW:∀ b∈footV x,b∈W):Loc A W H fun H K=>sliceK H sz x lo hi K:=by
 unfold sliceK at h
 split at h
 ·rename_i b
  obtain ⟨v,hv⟩:=loc_nat (c:=fun {β} K=>sliceOp (β:=β) sz (cell1 H (.own b)) lo hi K) (fun f K=>sliceOp_bind _ _ _ _ f K) h
  obtain ⟨δ,h1,h2⟩:=frz_upd [b] H
  refine ⟨v,δ,fun x hx=>hW _ (by have:=h1 x hx;simpa [footV] using this),fun H' hH β K=>?_⟩
  have e:cell1 H' (.own b)=cell1 H (.own b):=cell1_agr fun c hc=>hH c (hA c (by simpa [ownC,footV] using hc))
  simp only [sliceK,e,fH_eq]
  rw [hv fun v=>K v (frz H' [b])]
  rw [h2 H' (hH.mono fun c hc=>hA c (by simpa [footV] using hc))]
 ·rename_i t
  obtain ⟨v,hv⟩:=loc_nat (c:=fun {β} K=>sliceOp (β:=β) sz (.lst t []) lo hi K) (fun f K=>sliceOp_bind _ _ _ _ f K) h
  exact loc_val v fun H' hH β K=>hv fun v=>K v H'
 ·rename_i n1 n2
  obtain ⟨v,hv⟩:=loc_nat (c:=fun {β} K=>sliceOp (β:=β) sz x lo hi K) (fun f K=>sliceOp_bind _ _ _ _ f K) h
  exact loc_val v fun H' hH β K=>by
   unfold sliceK
   split
   ·exact absurd rfl (n1 _)
   ·exact absurd rfl (n2 _)
   ·exact hv fun v=>K v H'
theorem sliceW_loc {sz:Nat} {x:PV} {lo hi:Option PV} {K:PV→Heap→Option β} (h:sliceW H sz x lo hi K=some r) (hA:∀ b∈footV x,b∈A):Loc A W H fun H K=>sliceW H sz x lo hi K:=by
 by_cases ho:∃ b,x = .own b
 ·obtain ⟨b,rfl⟩:=ho
  unfold sliceW at h
  obtain ⟨y,hy,h⟩:=live_some h
  cases y with
  | box=>cases h
  | arr t xs w =>
   obtain ⟨v,hv⟩:=loc_nat (c:=fun {β} (K:PV→Option β)=>cond (Nat.beq t.size sz) (bound lo 0 fun l=>bound hi xs.length fun h=>cond (ile 0 l) (cond (ile l h) (cond (ile h xs.length) (K (.view b l.toNat (h.toNat - l.toNat))) none) none) none) none)
    (fun f K=>by simp only [bound_bind,cond_bind,Option.bind_none]) (K:=fun v=>K v H) h
   exact loc_val v fun H' hH β K=>by
    have:=(hH b (hA b (by simp [footV]))).trans hy
    unfold sliceW
    simp only
    rw [live_eq this]
    exact hv fun v=>K v H'
 ·have e:∀ (H:Heap) {β:Type} (K:PV→Heap→Option β),sliceW H sz x lo hi K=sliceK H sz x lo hi K:=by
   intro H β K
   unfold sliceW
   split
   ·exact absurd ⟨_,rfl⟩ ho
   ·rfl
  rw [e] at h
  have hW:∀ b∈footV x,b∈W:=by
   intro b hb
   cases x with
   | own b'=>exact absurd ⟨_,rfl⟩ ho
   | ptr b' i j=>simp [sliceK,sliceOp] at h
   | view b' l n=>simp [sliceK,sliceOp] at h
   | _=>simp [footV] at hb
  have:=slice_loc h hA hW
  simpa only [e] using this
end
end Go.Proofs.YtdcphpbimeoioaaGreatDoorE
end
section
set_option linter.unusedSectionVars false
namespace Go.Proofs.YtdcphpbimeoioaaGreatDoorE
open Go
set_option linter.unusedVariables false
set_option linter.unusedSimpArgs false
variable [Dm]
section
variable {β:Type} {P:Program} {H H':Heap} {E E':Env} {O:Orc} {nb:Nat} {r:β} {A W:List Nat}
theorem cellsK_loc {v:PV} {K:List PV→Option β} (h:cellsK v K=some r):∃ cs,K cs=some r∧∀ {β:Type} (K:List PV→Option β),cellsK v K=K cs:=by
 rw [cellsK_nat] at h
 obtain ⟨cs,h1,h2⟩:=bind_some h
 exact ⟨cs,h2,fun K=>by rw [cellsK_nat,h1];rfl⟩
theorem fit_loc {n:Nat} {cs:List PV} {K:List PV→Option β} (h:fit n cs K=some r):K cs=some r∧∀ {β:Type} (K:List PV→Option β),fit n cs K=K cs:=by
 obtain ⟨h1,h2⟩:=cond_some h
 exact ⟨h2,fun K=>by unfold fit;rw [h1];rfl⟩
theorem decK_loc {t:Ty} {cs:List PV} {K:El t→List PV→Option β} (h:decK t cs K=some r):∃ x rest,K x rest=some r∧∀ {β:Type} (K:El t→List PV→Option β),decK t cs K=K x rest:=by
 rw [decK_nat] at h
 obtain ⟨p,h1,h2⟩:=bind_some h
 exact ⟨p.1,p.2,h2,fun K=>by rw [decK_nat,h1];rfl⟩
theorem elsFill_loc {t:Ty} {xs:List (El t)} {ps:List (Nat×PV)} {K:List (El t)→Option β} (h:elsFill H t xs ps K=some r):∃ ys,K ys=some r∧∀ {β:Type} (K:List (El t)→Option β),elsFill H t xs ps K=K ys:=by
 have e:∀ {β:Type} (K:List (El t)→Option β),elsFill H t xs ps K=(elsFill H t xs ps some).bind K:=fun K=>by rw [elsFill_bind];rfl
 rw [e] at h
 obtain ⟨cs,h1,h2⟩:=bind_some h
 exact ⟨cs,h2,fun K=>by rw [e,h1];rfl⟩
theorem bindN_eq {α:Type} (a:α) (K:α→Option β):bindN (some a) K=K a:=by unfold bindN;rfl
theorem store_loc {b i j n:Nat} {v:PV} {K:PV→Heap→Option β} (h:storeAt H b i j n v K=some r) (hb:b∈A) (hbW:b∈W) (hv:∀ c∈ownIds v,c∈A) (hvW:∀ c∈ownIds v,c∈W):Loc A W H fun H K=>storeAt H b i j n v K:=by
 unfold storeAt at h
 obtain ⟨x,hx,h⟩:=live_some h
 have hx':∀ H',Agr A H H'→hget H' b = .live x:=fun H' hH=>(hH b hb).trans hx
 split at h
 ·rename_i row
  obtain ⟨cs,h,hcs⟩:=cellsK_loc h
  obtain ⟨h,hf⟩:=fit_loc h
  obtain ⟨h0,h⟩:=cond_some h
  refine ⟨.junk,[(b, .live (.box (splice row j cs) true))],by simpa using hbW,fun H' hH β K=>?_⟩
  simp only [storeAt,live_eq (hx' H' hH),hcs,hf,h0,cond_true,fH_eq]
  rfl
 ·rename_i t xs
  obtain ⟨h0,h⟩:=cond_none h
  obtain ⟨cs,h,hcs⟩:=cellsK_loc h
  obtain ⟨h,hf⟩:=fit_loc h
  obtain ⟨x,h1,h⟩:=bindN_some h
  obtain ⟨h2,h⟩:=cond_some h
  obtain ⟨y,rest,h,hd⟩:=decK_loc h
  cases rest with
  | cons _ _=>cases h
  | nil =>
   obtain ⟨δ,g1,g2⟩:=frz_upd (ownIds v) (hset H b (.live (.arr t (lput xs i y) true)))
   refine ⟨.junk,(b, .live (.arr t (lput xs i y) true)) ::δ,fun x hx=>?_,fun H' hH β K=>?_⟩
   ·rcases List.mem_cons.1 hx with rfl|hx
    ·exact hbW
    ·exact hvW _ (g1 x hx)
   ·have e:snapV H' v=snapV H v:=snapV_agr fun c hc=>hH c (hv c hc)
    simp only [storeAt,live_eq (hx' H' hH),h0,cond_false,e,hcs,hf,h1,bindN_eq,h2,cond_true,hd,fH_eq,upd]
    rw [g2 _ ((hH.mono hv).hset b _)]
 ·cases h
theorem append_loc {sz bytes:Nat} {x y:PV} {K:PV→Heap→Option β} (h:appendK nb H sz bytes x y K=some r) (hn:nb∈A) (hnW:nb∈W) (hx:∀ c∈footV x,c∈A) (hxW:∀ c∈footV x,c∈W) (hy:∀ c∈footV y,c∈A):Loc A W H fun H K=>appendK nb H sz bytes x y K:=by
 unfold appendK at h
 split at h
 ·rename_i t
  obtain ⟨more,h,he⟩:=elsOf_loc h
  obtain ⟨h0,h⟩:=cond_some h
  obtain ⟨h1,h⟩:=cond_some h
  obtain ⟨hu,h⟩:=fresh_some h
  refine ⟨.own nb,[(nb, .live (.arr t more true))],by simpa using hnW,fun H' hH β K=>?_⟩
  simp only [appendK,he H' (fun c hc=>hH c (hy c hc)),h0,h1,cond_true,fresh_eq ((hH nb hn).trans hu),fH_eq]
  rfl
 ·rename_i b
  obtain ⟨z,hz,h⟩:=live_some h
  split at h
  ·rename_i t xs
   obtain ⟨more,h,he⟩:=elsOf_loc h
   obtain ⟨h0,h⟩:=cond_some h
   obtain ⟨h1,h⟩:=cond_some h
   obtain ⟨hu,h⟩:=fresh_some h
   refine ⟨.own nb,[(b, .dead),(nb, .live (.arr t (xs++more) true))],fun x hx=>?_,fun H' hH β K=>?_⟩
   ·simp only [List.mem_cons,List.not_mem_nil,or_false] at hx
    rcases hx with rfl|rfl
    ·exact hxW _ (by simp [footV])
    ·exact hnW
   ·simp only [appendK,live_eq ((hH b (hx b (by simp [footV]))).trans hz),he H' (fun c hc=>hH c (hy c hc)),h0,h1,cond_true,fresh_eq ((hH nb hn).trans hu),fH_eq]
    rfl
  ·cases h
 ·cases h
theorem appendV_loc {sz bytes:Nat} {x y:PV} {K:PV→Heap→Option β} (h:appendV nb H sz bytes x y K=some r) (hn:nb∈A) (hnW:nb∈W) (hx:∀ c∈footV x,c∈A) (hxW:∀ c∈footV x,c∈W) (hy:∀ c∈footV y,c∈A):Loc A W H fun H K=>appendV nb H sz bytes x y K:=by
 by_cases ho:∃ b lo n,x = .view b lo n
 ·obtain ⟨b,lo,n,rfl⟩:=ho
  unfold appendV at h
  obtain ⟨z,hz,h⟩:=live_some h
  split at h
  ·rename_i t xs
   obtain ⟨more,h,he⟩:=elsOf_loc h
   obtain ⟨h0,h⟩:=cond_some h
   obtain ⟨h1,h⟩:=cond_some h
   obtain ⟨hu,h⟩:=fresh_some h
   refine ⟨.own nb,[(b, .dead),(nb, .live (.arr t (win xs 0 n++more) true))],fun x hx=>?_,fun H' hH β K=>?_⟩
   ·simp only [List.mem_cons,List.not_mem_nil,or_false] at hx
    rcases hx with rfl|rfl
    ·exact hxW _ (by simp [footV])
    ·exact hnW
   ·simp only [appendV,live_eq ((hH b (hx b (by simp [footV]))).trans hz),he H' (fun c hc=>hH c (hy c hc)),h0,h1,cond_true,fresh_eq ((hH nb hn).trans hu),fH_eq]
    rfl
  ·cases h
 ·by_cases hem:∃ t,x = .emp t
  ·obtain ⟨t,rfl⟩:=hem
   unfold appendV at h
   simp only at h
   obtain ⟨more,h,he⟩:=elsOf_loc h
   obtain ⟨h0,h⟩:=cond_some h
   obtain ⟨h1,h⟩:=cond_some h
   obtain ⟨hu,h⟩:=fresh_some h
   refine ⟨.own nb,[(nb, .live (.arr t more true))],by simpa using hnW,fun H' hH β K=>?_⟩
   simp only [appendV,he H' (fun c hc=>hH c (hy c hc)),h0,h1,cond_true,fresh_eq ((hH nb hn).trans hu),fH_eq]
   rfl
  have e:∀ (H:Heap) {β:Type} (K:PV→Heap→Option β),appendV nb H sz bytes x y K=appendK nb H sz bytes x y K:=by
   intro H β K
   unfold appendV
   split
   ·exact absurd ⟨_,_,_,rfl⟩ ho
   ·exact absurd ⟨_,rfl⟩ hem
   ·rfl
  rw [e] at h
  have:=append_loc h hn hnW hx hxW hy
  simpa only [e] using this
theorem new_loc {c:{β:Type}→Heap→(PV→Heap→Option β)→Option β} (v:PV) (s:Slot) (hW:nb∈W) (h:∀ H',Agr A H H'→∀ {β:Type} (K:PV→Heap→Option β),c H' K=K v (hset H' nb s)):Loc A W H c :=
 ⟨v,[(nb,s)],by simpa using hW,fun H' hH β K=>h H' hH K⟩
theorem pure_loc {c:{β:Type}→(PV→Option β)→Option β} (hc:∀ {γ β:Type} (f:PV→Option γ) (K:γ→Option β),(c f).bind K=c fun b=>(f b).bind K) {K:PV→Option β} (h:c K=some r):Loc A W H fun H K=>c fun v=>K v H:=by
 obtain ⟨v,hv⟩:=loc_nat hc h
 exact loc_val v fun H' _ β K=>hv fun v=>K v H'
theorem act_loc (hcall:∀ (f:FuncId) (args:List (Bool×PV)) {β:Type} {r:β} (K:PV→Heap→Option β),callK O nb H f args K=some r→Loc (nb ::(footC O H f args).1++(footC O H f args).2) (nb ::(footC O H f args).2) H fun H K=>callK O nb H f args K)
  {a:PAct} {K:PV→Heap→Option β} (h:act O nb E H a K=some r):Loc (nb ::(foot O E H a).1++(foot O E H a).2) (nb ::(foot O E H a).2) H fun H K=>act O nb E H a K:=by
 cases a with
 | bad=>cases h
 | mv x=>exact loc_val _ fun H' _ β K=>rfl
 | pick c a b =>
  simp only [act] at h
  obtain ⟨t,ht,h⟩:=asBool_some h
  cases t<;>exact loc_val _ fun H' _ β K=>by simp only [act,ht,asBool];rfl
 | alloc z =>
  obtain ⟨hu,h⟩:=fresh_some h
  exact new_loc (nb:=nb) (.ptr nb 0 0) (.live (.box z true)) (by simp) fun H' hH β K=>by simp only [act,fresh_eq ((hH nb (by simp)).trans hu),fH_eq]
 | box n x =>
  simp only [act] at h
  obtain ⟨cs,h,hcs⟩:=cellsK_loc h
  obtain ⟨h,hf⟩:=fit_loc h
  obtain ⟨hu,h⟩:=fresh_some h
  exact new_loc (nb:=nb) (.ptr nb 0 0) (.live (.box cs true)) (by simp) fun H' hH β K=>by simp only [act,hcs,hf,fresh_eq ((hH nb (by simp)).trans hu),fH_eq]
 | build z ps =>
  have e:∀ {β:Type} (K:List PV→Option β),fillR z (ps.map (evP E)) K=(fillR z (ps.map (evP E)) some).bind K:=fun K=>by rw [fillR_bind];rfl
  simp only [act] at h
  rw [e] at h
  obtain ⟨cs,h1,h2⟩:=bind_some h
  exact loc_val _ fun H' _ β K=>by simp only [act];rw [e,h1];rfl
 | bslice t z n ps =>
  simp only [act] at h
  obtain ⟨y,rest,h,hd⟩:=decK_loc h
  cases rest with
  | cons _ _=>cases h
  | nil =>
   simp only at h
   obtain ⟨ys,h,he⟩:=elsFill_loc h
   obtain ⟨hu,h⟩:=fresh_some h
   obtain ⟨h0,h⟩:=cond_none h
   obtain ⟨δ,g1,g2⟩:=frz_upd (vOwn E (ps.map (·.2))) (hset H nb (.live (.arr t ys true)))
   refine ⟨.own nb,(nb, .live (.arr t ys true)) ::δ,fun x hx=>?_,fun H' hH β K=>?_⟩
   ·rcases List.mem_cons.1 hx with rfl|hx
    ·simp
    ·exact List.mem_cons_of_mem _ (g1 x hx)
   ·have hH2:Agr (vOwn E (ps.map (·.2))) H H':=hH.mono fun c hc=>by simp [foot,hc]
    have e:∀ {β:Type} (K:List (El t)→Option β),elsFill H' t (List.replicate n y) (ps.map fun (i,x)=>(i,x.ev E)) K=K ys:=fun K=>by
     rw [elsFill_agr _ _ _ K fun p hp b hb=>hH2 b ?_]
     ·exact he K
     ·obtain ⟨q,hq,rfl⟩:=List.mem_map.1 hp
      exact List.mem_flatMap.2 ⟨q.2,List.mem_map.2 ⟨q,hq,rfl⟩,hb⟩
    simp only [act,hd,e,fresh_eq ((hH nb (by simp)).trans hu),h0,cond_false,fH_eq,upd]
    rw [g2 _ (hH2.hset nb _)]
 | load k a=>exact load_loc h fun b hb=>by simp [foot,hb]
 | store n a x =>
  simp only [act] at h
  split at h
  ·rename_i b i j he
   have:=store_loc (A:=nb ::(foot O E H (.store n a x)).1++(foot O E H (.store n a x)).2) (W:=nb ::(foot O E H (.store n a x)).2) h (by simp [foot,he,footV]) (by simp [foot,he,footV]) (fun c hc=>by simp [foot,hc]) (fun c hc=>by simp [foot,hc])
   simp only [act,he]
   exact this
  ·cases h
 | nilck x=>exact nilck_loc h fun b hb=>by simp [foot,hb]
 | bin op x y=>exact pure_loc (c:=fun {β} K=>binOp (β:=β) op (x.ev E) (y.ev E) K) (fun f K=>by rw [binOp_nat _ _ _ f,binOp_nat _ _ _ fun b=>(f b).bind K,Option.bind_assoc]) (K:=fun v=>K v H) h
 | beq neg x y =>
  simp only [act] at h
  obtain ⟨a,ha,h⟩:=asBool_some h
  obtain ⟨b,hb,h⟩:=asBool_some h
  exact loc_val _ fun H' _ β K=>by simp only [act,ha,hb,asBool];rfl
 | aeq neg ks x y =>
  simp only [act] at h
  split at h
  ·rename_i a b ha hb
   obtain ⟨h0,h⟩:=cond_some h
   have:=pure_loc (A:=nb ::(foot O E H (.aeq neg ks x y)).1++(foot O E H (.aeq neg ks x y)).2) (W:=nb ::(foot O E H (.aeq neg ks x y)).2) (H:=H) (c:=fun {β} K=>eqCells (β:=β) a b fun e=>K (.bool (cond neg (!e) e))) (fun f K=>eqCells_bind _ _ _ _) (K:=fun v=>K v H) h
   simp only [act,ha,hb,h0,cond_true]
   exact this
  ·cases h
 | un op x=>exact pure_loc (c:=fun {β} K=>unOp (β:=β) op (x.ev E) K) (fun f K=>by rw [unOp_nat _ _ f,unOp_nat _ _ fun b=>(f b).bind K,Option.bind_assoc]) (K:=fun v=>K v H) h
 | toInt k x =>
  simp only [act] at h
  obtain ⟨k',n,e,h⟩:=asInt_some h
  exact loc_val _ fun H' _ β K=>by simp only [act,e,asInt];rfl
 | same x =>
  simp only [act] at h
  obtain ⟨s,e,h⟩:=asStr_some h
  exact loc_val _ fun H' _ β K=>by simp only [act,e,asStr];rfl
 | s2b x =>
  simp only [act] at h
  obtain ⟨s,e,h⟩:=asStr_some h
  obtain ⟨hu,h⟩:=fresh_some h
  exact new_loc (nb:=nb) (.own nb) (.live (.arr (.int .u8) (sbytes s) true)) (by simp) fun H' hH β K=>by simp only [act,e,asStr,fresh_eq ((hH nb (by simp)).trans hu),fH_eq]
 | b2s x =>
  simp only [act] at h
  obtain ⟨h0,h⟩:=cond_none h
  obtain ⟨l,h,he⟩:=elsOf_loc h
  exact loc_val _ fun H' hH β K=>by simp only [act,h0,cond_false,he H' (fun c hc=>hH c (by simp [foot,hc]))];rfl
 | mks t z bytes l c =>
  simp only [act] at h
  obtain ⟨k1,n1,e1,h⟩:=asInt_some h
  obtain ⟨k2,n2,e2,h⟩:=asInt_some h
  obtain ⟨h1,h⟩:=cond_some h
  obtain ⟨h2,h⟩:=cond_some h
  obtain ⟨h3,h⟩:=cond_some h
  obtain ⟨y,rest,h,hd⟩:=decK_loc h
  cases rest with
  | cons _ _=>cases h
  | nil =>
   simp only at h
   obtain ⟨hu,h⟩:=fresh_some h
   exact new_loc (nb:=nb) (.own nb) (.live (.arr t (List.replicate n1.toNat y) true)) (by simp) fun H' hH β K=>by simp only [act,e1,e2,asInt,h1,h2,h3,cond_true,hd,fresh_eq ((hH nb (by simp)).trans hu),fH_eq]
 | slice st sz x lo hi =>
  simp only [act] at h
  obtain ⟨h0,h⟩:=cond_some h
  have:=slice_loc (A:=nb ::(foot O E H (.slice st sz x lo hi)).1++(foot O E H (.slice st sz x lo hi)).2) (W:=nb ::(foot O E H (.slice st sz x lo hi)).2) h (fun b hb=>by simp [foot,hb]) (fun b hb=>by simp [foot,hb])
  simp only [act,h0,cond_true]
  exact this
 | sliceZ t x =>
  simp only [act] at h
  split at h
  ·rename_i hx
   obtain ⟨h0,h⟩:=cond_some h
   exact loc_val _ fun H' _ β K=>by simp only [act,hx,h0,cond_true];rfl
  ·rename_i hx
   obtain ⟨h0,h⟩:=cond_some h
   exact loc_val _ fun H' _ β K=>by simp only [act,hx,h0,cond_true];rfl
  ·cases h
 | sliceV sz x lo hi =>
  simp only [act] at h
  obtain ⟨h0,h⟩:=cond_none h
  have:=sliceW_loc (A:=nb ::(foot O E H (.sliceV sz x lo hi)).1++(foot O E H (.sliceV sz x lo hi)).2) (W:=nb ::(foot O E H (.sliceV sz x lo hi)).2) h (fun b hb=>by simp [foot,hb])
  simp only [act,h0,cond_false]
  exact this
 | raw v us=>exact loc_val _ fun H' _ β K=>by simp only [act];rfl
 | fadr off x=>exact fadr_loc h fun b hb=>by simp [foot,hb]
 | fld off k x =>
  simp only [act] at h
  split at h
  ·rename_i cs hc
   have:=pure_loc (A:=nb ::(foot O E H (.fld off k x)).1++(foot O E H (.fld off k x)).2) (W:=nb ::(foot O E H (.fld off k x)).2) (H:=H) (c:=fun {β} K=>part (β:=β) k off cs K) (fun f K=>by rw [part_nat _ _ _ f,part_nat _ _ _ fun b=>(f b).bind K,Option.bind_assoc]) (K:=fun v=>K v H) h
   simp only [act,hc]
   exact this
  ·cases h
 | iadr sz x i =>
  simp only [act] at h
  obtain ⟨k,n,e,h⟩:=asInt_some h
  have:=iadr_loc (A:=nb ::(foot O E H (.iadr sz x i)).1++(foot O E H (.iadr sz x i)).2) (W:=nb ::(foot O E H (.iadr sz x i)).2) h (fun b hb=>by simp [foot,hb])
  simp only [act,e,asInt]
  exact this
 | idx x i =>
  simp only [act] at h
  obtain ⟨s,e1,h⟩:=asStr_some h
  obtain ⟨k,n,e2,h⟩:=asInt_some h
  obtain ⟨h1,h⟩:=cond_some h
  obtain ⟨h2,h⟩:=cond_some h
  exact loc_val _ fun H' _ β K=>by simp only [act,e1,e2,asStr,asInt,h1,h2,cond_true];rfl
 | ext x i =>
  simp only [act] at h
  obtain ⟨vs,e,h⟩:=asTup_some h
  split at h
  ·rename_i v hv
   exact loc_val v fun H' _ β K=>by simp only [act,e,asTup,hv]
  ·cases h
 | call f o args=>exact hcall f _ K h
 | callv x args =>
  simp only [act] at h
  split at h
  ·rename_i f a b he
   have:=hcall f _ K h
   simp only [act,foot,he]
   exact this
  ·cases h
 | len st x =>
  simp only [act] at h
  obtain ⟨h0,h⟩:=cond_some h
  obtain ⟨n,h,he⟩:=lenOf_loc h
  exact loc_val _ fun H' hH β K=>by simp only [act,h0,cond_true,he H' (fun c hc=>hH c (by simp [foot,hc]))];rfl
 | append st sz bytes x y =>
  simp only [act] at h
  obtain ⟨h0,h⟩:=cond_some h
  have:=appendV_loc (A:=nb ::(foot O E H (.append st sz bytes x y)).1++(foot O E H (.append st sz bytes x y)).2) (W:=nb ::(foot O E H (.append st sz bytes x y)).2) h (by simp) (by simp) (fun b hb=>by simp [foot,hb]) (fun b hb=>by simp [foot,hb]) (fun b hb=>by simp [foot,hb])
  simp only [act,h0,cond_true]
  exact this
 | copy _ _ _=>cases h
 | clear _ _=>cases h
 | min xs =>
  simp only [act] at h
  split at h
  ·rename_i x l he
   have:=pure_loc (A:=nb ::(foot O E H (.min xs)).1++(foot O E H (.min xs)).2) (W:=nb ::(foot O E H (.min xs)).2) (H:=H) (c:=fun {β} K=>folds (β:=β) true x l K) (fun f K=>folds_bind _ _ _ _ _) (K:=fun v=>K v H) h
   simp only [act,he]
   exact this
  ·cases h
 | max xs =>
  simp only [act] at h
  split at h
  ·rename_i x l he
   have:=pure_loc (A:=nb ::(foot O E H (.max xs)).1++(foot O E H (.max xs)).2) (W:=nb ::(foot O E H (.max xs)).2) (H:=H) (c:=fun {β} K=>folds (β:=β) false x l K) (fun f K=>folds_bind _ _ _ _ _) (K:=fun v=>K v H) h
   simp only [act,he]
   exact this
  ·cases h
 | mkf f a b=>exact loc_val _ fun H' _ β K=>rfl
end
end Go.Proofs.YtdcphpbimeoioaaGreatDoorE
end
section
set_option linter.unusedSectionVars false
namespace Go.Proofs.YtdcphpbimeoioaaGreatDoorE
open Go
set_option linter.unusedVariables false
set_option linter.unusedSimpArgs false
variable [Dm]
section
variable {β:Type} {P:Program} {H H':Heap} {E E':Env} {O:Orc} {nb:Nat} {r:β} {A W:List Nat}
theorem reach_seen:∀ (n:Nat) (M:Heap) (todo seen:List Nat) (b:Nat),b∈seen→b∈reach M n todo seen
 | 0,_,_,_,_,h=>h
 | _+1,_,[],_,_,h=>h
 | n+1,M,c ::r,seen,b,h=>by
  simp only [reach]
  cases memN c seen with
  | true=>exact reach_seen n M r seen b h
  | false=>exact reach_seen n M _ _ b (List.mem_append_left _ h)
theorem reach_agr {M M':Heap}:∀ (n:Nat) (todo seen:List Nat),(∀ b∈reach M n todo seen,idsB M' b=idsB M b)→reach M' n todo seen=reach M n todo seen
 | 0,_,_,_=>rfl
 | _+1,[],_,_=>rfl
 | n+1,c ::r,seen,h=>by
  simp only [reach] at h ⊢
  cases hm:memN c seen with
  | true=>rw [hm] at h;exact reach_agr n r seen h
  | false =>
   rw [hm] at h
   simp only [cond_false] at h ⊢
   rw [h c (reach_seen n M _ _ c (by simp))]
   exact reach_agr n _ _ h
theorem hget_map (g:Slot→Slot) (hg:g .unused = .unused) (H:Heap) (b:Nat):hget (H.map g) b=g (hget H b):=by
 rw [hget_get,hget_get,List.getElem?_map]
 cases H[b]?<;>simp [hg]
theorem snapS_agr {s:Slot} (h:∀ c∈ownB s,hget H' c=hget H c):snapS H' s=snapS H s:=by
 cases s with
 | live x =>
  cases x with
  | box cs w =>
   simp only [snapS,snapB]
   congr 2
   exact List.map_congr_left fun c hc=>cell1_agr fun b hb=>h b (List.mem_flatMap.2 ⟨c,hc,hb⟩)
  | arr t xs w=>rfl
 | _=>rfl
theorem callArgs_agr {args:List (Bool×PV)} (h:Agr (callFrozen H args) H H'):callArgs H' args=callArgs H args:=by
 unfold callArgs
 refine List.map_congr_left fun q hq=>?_
 obtain ⟨o,v⟩:=q
 cases o with
 | true=>rfl
 | false=>exact snapV_agr fun b hb=>h b (List.mem_append_left _ (List.mem_flatMap.2 ⟨(false,v),hq,hb⟩))
theorem slot_agr {args:List (Bool×PV)} (h:Agr (callIds H args) H H') (h':Agr (callFrozen H args) H H') {b:Nat} (hb:b∈callIds H args):snapS H' (hget H' b)=snapS H (hget H b):=by
 rw [h b hb]
 exact snapS_agr fun c hc=>h' c (List.mem_append_right _ (List.mem_flatMap.2 ⟨b,hb,hc⟩))
theorem callIds_agr {args:List (Bool×PV)} (h:Agr (callIds H args) H H') (h':Agr (callFrozen H args) H H'):callIds H' args=callIds H args:=by
 unfold callIds
 rw [callArgs_agr h']
 refine reach_agr _ _ _ fun b hb=>?_
 simp only [idsB]
 rw [hget_map _ rfl,hget_map _ rfl,slot_agr h h' hb]
theorem callFrozen_agr {args:List (Bool×PV)} (h:Agr (callIds H args) H H') (h':Agr (callFrozen H args) H H'):callFrozen H' args=callFrozen H args:=by
 unfold callFrozen
 rw [callIds_agr h h']
 have e:∀ l:List Nat,(∀ b∈l,hget H' b=hget H b)→(l.flatMap fun b=>ownB (hget H' b))=l.flatMap fun b=>ownB (hget H b):=by
  intro l
  induction l with
  | nil=>intro _;rfl
  | cons b l ih=>intro hl;simp only [List.flatMap_cons,hl b (List.mem_cons_self ..),ih fun c hc=>hl c (List.mem_cons_of_mem _ hc)]
 rw [e _ h]
theorem puts_upd:∀ (ids:List Nat) (ss:List Slot) (H:Heap),puts H ids ss=upd H (ids.zip ss)
 | [],ss,H=>by cases ss<;>rfl
 | b ::ids,[],H=>rfl
 | b ::ids,s ::ss,H=>puts_upd ids ss _
theorem Agr.upd:∀ (δ:List (Nat×Slot)) {H H':Heap},Agr A H H'→Agr A (upd H δ) (upd H' δ)
 | [],_,_,h=>h
 | (b,s) ::δ,_,_,h=>Agr.upd δ (h.hset b s)
theorem hset_same:∀ (H:Heap) (b:Nat),b<H.length→hset H b (hget H b)=H
 | [],b,h=>by simp at h
 | x ::r,0,h=>rfl
 | x ::r,b+1,h=>by
  have:=hset_same r b (by simpa using h)
  simp only [hset,hget,List.getD_cons_succ] at this ⊢
  rw [this]
theorem upd_same:∀ (δ:List (Nat×Slot)) (H:Heap),(∀ x∈δ,hget H x.1=x.2∧x.1<H.length)→upd H δ=H
 | [],H,_=>rfl
 | (b,s) ::δ,H,h=>by
  obtain ⟨h1,h2⟩:=h (b,s) (List.mem_cons_self ..)
  simp only at h1 h2
  subst h1
  simp only [upd]
  rw [hset_same H b h2]
  exact upd_same δ H fun x hx=>h x (List.mem_cons_of_mem _ hx)
theorem posN_of_mem {b:Nat} {ids:List Nat} (h:b∈ids):∃ i,posN b ids=some i:=by
 cases hp:posN b ids with
 | some i=>exact ⟨i,rfl⟩
 | none=>exact absurd h (posN_none hp)
theorem stay_cell {ids:List Nat} {c:PV} (h:stayC ids c=true):bakC ids nb (renC ids (cell1 H c))=c:=by
 cases c<;>simp only [stayC,reduceCtorEq] at h<;>try rfl
 rename_i b i j
 obtain ⟨k,hk⟩:=posN_of_mem (memN_iff.1 h)
 simp only [cell1,renC,hk,bakC,bakN,nth_eq,posN_some hk]
theorem stay_slot {ids:List Nat} {s:Slot} (h:stayS ids s=true):bakS ids nb (renS ids (snapS H s))=s:=by
 cases s with
 | unused=>rfl
 | dead=>rfl
 | live x =>
  cases x with
  | arr t xs w=>rfl
  | box cs w =>
   simp only [stayS] at h
   simp only [snapS,snapB,renS,renB,bakS,List.map_map]
   have:cs.map (bakC ids nb ∘ renC ids ∘ cell1 H)=cs:=by
    conv=>rhs;rw [← List.map_id cs]
    exact List.map_congr_left fun c hc=>stay_cell (List.all_eq_true.1 h c hc)
   rw [this]
theorem callK_loc (hO:OrcOk P O) {f:FuncId} {args:List (Bool×PV)} {K:PV→Heap→Option β} (h:callK O nb H f args K=some r) :
  Loc (nb ::(footC O H f args).1++(footC O H f args).2) (nb ::(footC O H f args).2) H fun H K=>callK O nb H f args K:=by
 unfold callK at h
 obtain ⟨hun,h⟩:=fresh_some h
 obtain ⟨hchk,h⟩:=cond_some h
 rw [fAs_eq,fH_eq] at h
 have hsame:∀ H',Agr (nb ::(callIds H args++callFrozen H args)) H H'→∀ {β:Type} (K:PV→Heap→Option β),callK O nb H' f args K =
   match O.call f ((callArgs H args).map (renV (callIds H args))) ((callIds H args).map fun b=>renS (callIds H args) (snapS H (hget H b))) with
   | ⟨_,x,enc,_⟩=>bindN x fun p=>back H' (callIds H args) (callFrozen H args) nb (enc p) K:=by
  intro H' hH β K
  have h1:Agr (callIds H args) H H':=hH.mono fun b hb=>by simp [hb]
  have h2:Agr (callFrozen H args) H H':=hH.mono fun b hb=>by simp [hb]
  unfold callK
  rw [fresh_eq ((hH nb (by simp)).trans hun),callIds_agr h1 h2,callFrozen_agr h1 h2,callArgs_agr h2]
  have hl:((callIds H args).all (isLive H'))=(callIds H args).all (isLive H):=by
   rw [Bool.eq_iff_iff,List.all_eq_true,List.all_eq_true]
   exact ⟨fun g b hb=>by have:=g b hb;simpa only [isLive,h1 b hb] using this,fun g b hb=>by have:=g b hb;simpa only [isLive,h1 b hb] using this⟩
  have hs:((callIds H args).map fun b=>renS (callIds H args) (snapS H' (hget H' b)))=(callIds H args).map fun b=>renS (callIds H args) (snapS H (hget H b)) :=
   List.map_congr_left fun b hb=>by rw [slot_agr h1 h2 hb]
  rw [hl,hchk,hs,fAs_eq,fH_eq]
  rfl
 have ho:=hO f ((callArgs H args).map (renV (callIds H args))) ((callIds H args).map fun b=>renS (callIds H args) (snapS H (hget H b)))
 have hft:footC O H f args=cond ((O.call f ((callArgs H args).map (renV (callIds H args))) ((callIds H args).map fun b=>renS (callIds H args) (snapS H (hget H b)))).keeps && (callIds H args).all fun b=>stayS (callIds H args) (hget H b)) (callIds H args,callFrozen H args) ([],callIds H args++callFrozen H args):=rfl
 generalize O.call f ((callArgs H args).map (renV (callIds H args))) ((callIds H args).map fun b=>renS (callIds H args) (snapS H (hget H b)))=su at ho h hsame hft
 obtain ⟨α,x,enc,keeps⟩:=su
 simp only at ho h hsame hft
 obtain ⟨p,hp,h⟩:=bindN_some h
 obtain ⟨_,_,hkeep⟩:=ho p hp
 have hb:∃ r1 H1,enc p=(r1,H1):=⟨_,_,rfl⟩
 obtain ⟨r1,H1,hq⟩:=hb
 rw [hq] at h hkeep
 unfold back at h
 simp only [fH_eq] at h
 obtain ⟨hlen,h⟩:=cond_some h
 obtain ⟨δ,g1,g2⟩:=frz_upd (callFrozen H args) (puts H (callIds H args++[nb]) (H1.map (bakS (callIds H args) nb)))
 have main:∀ H',Agr (nb ::(callIds H args++callFrozen H args)) H H'→∀ {β:Type} (K:PV→Heap→Option β),callK O nb H' f args K =
   K (bakV (callIds H args) nb r1) (upd H' ((callIds H args++[nb]).zip (H1.map (bakS (callIds H args) nb))++cond (flatV r1 && H1.all flatS) [] δ)):=by
  intro H' hH β K
  rw [hsame H' hH K,hp,bindN_eq,hq]
  unfold back
  simp only [fH_eq,hlen,cond_true,upd_append]
  rw [← puts_upd]
  cases (flatV r1 && H1.all flatS) with
  | true=>rfl
  | false =>
   simp only [cond_false]
   rw [g2 _ (by rw [puts_upd,puts_upd];exact Agr.upd _ (hH.mono fun b hb=>by simp [hb]))]
 cases hk:(keeps && (callIds H args).all fun b=>stayS (callIds H args) (hget H b)) with
 | false =>
  rw [hk] at hft
  rw [hft]
  refine ⟨_,_,fun x hx=>?_,fun H' hH β K=>main H' (hH.mono fun b hb=>by simpa using hb) K⟩
  rcases List.mem_append.1 hx with hx|hx
  ·have:=(List.of_mem_zip hx).1
   simp only [List.mem_append,List.mem_cons,List.not_mem_nil,or_false] at this
   rcases this with h1|h1
   ·simp [h1]
   ·simp [h1]
  ·cases hfl:(flatV r1 && H1.all flatS) with
   | true=>rw [hfl] at hx;cases hx
   | false=>rw [hfl] at hx;have:=g1 x hx;simp [this]
 | true =>
  rw [hk] at hft
  rw [hft]
  simp only [Bool.and_eq_true] at hk
  have e:=hkeep hk.1
  simp only at e
  subst e
  refine ⟨bakV (callIds H args) nb r1,cond (flatV r1 && ((callIds H args).map fun b=>renS (callIds H args) (snapS H (hget H b))).all flatS) [] δ,fun x hx=>?_,fun H' hH β K=>?_⟩
  ·cases hfl:(flatV r1 && ((callIds H args).map fun b=>renS (callIds H args) (snapS H (hget H b))).all flatS) with
   | true=>rw [hfl] at hx;cases hx
   | false=>rw [hfl] at hx;have:=g1 x hx;simp [this]
  ·have hH2:Agr (nb ::(callIds H args++callFrozen H args)) H H':=hH.mono fun b hb=>by simpa using hb
   refine (main H' hH2 K).trans ?_
   rw [upd_append,upd_same ((callIds H args++[nb]).zip (((callIds H args).map fun b=>renS (callIds H args) (snapS H (hget H b))).map (bakS (callIds H args) nb))) H' ?_]
   intro x hx
   have hz:∀ l:List Nat,(∀ b∈l,b∈callIds H args)→∀ x∈(l++[nb]).zip ((l.map fun b=>renS (callIds H args) (snapS H (hget H b))).map (bakS (callIds H args) nb)),x.1∈callIds H args∧x.2=hget H x.1:=by
    intro l
    induction l with
    | nil=>intro _ x hx;simp at hx
    | cons b l ih =>
     intro hl x hx
     simp only [List.cons_append,List.map_cons,List.zip_cons_cons,List.mem_cons] at hx
     rcases hx with rfl|hx
     ·have hb:=hl b (List.mem_cons_self ..)
      exact ⟨hb,stay_slot (List.all_eq_true.1 hk.2 b hb)⟩
     ·exact ih (fun c hc=>hl c (List.mem_cons_of_mem _ hc)) x hx
   obtain ⟨k1,k2⟩:=hz _ (fun _ h=>h) x hx
   simp only [Bool.and_eq_true] at hchk
   have hlv:=List.all_eq_true.1 hchk.2 _ k1
   have hg:=hH2 x.1 (by simp [k1])
   refine ⟨by rw [hg,k2],Nat.lt_of_not_le fun hle=>?_⟩
   rw [hget_len H' _ hle] at hg
   simp [isLive,← hg] at hlv
theorem act_loc' (hO:OrcOk P O) {a:PAct} {K:PV→Heap→Option β} (h:act O nb E H a K=some r):Loc (nb ::(foot O E H a).1++(foot O E H a).2) (nb ::(foot O E H a).2) H fun H K=>act O nb E H a K :=
 act_loc (fun f args {β} {r} K h=>callK_loc hO h) h
end
end Go.Proofs.YtdcphpbimeoioaaGreatDoorE
end
section
set_option linter.unusedSectionVars false
namespace Go.Proofs.YtdcphpbimeoioaaGreatDoorE
open Go
set_option linter.unusedVariables false
set_option linter.unusedSimpArgs false
variable [Dm]
section
variable {β:Type} {P:Program} {H H':Heap} {E E':Env} {O:Orc} {nb:Nat} {r:β} {A W:List Nat}
theorem ev_agr {x:Arg} (h:∀ t∈x.uses,get E' t=get E t):x.ev E'=x.ev E:=by
 cases x with
 | t n=>exact h n (by simp [Arg.uses])
 | c v=>rfl
theorem evs_agr {xs:List Arg} (h:∀ t∈xs.flatMap Arg.uses,get E' t=get E t):xs.map (Arg.ev E')=xs.map (Arg.ev E) :=
 List.map_congr_left fun x hx=>ev_agr fun t ht=>h t (List.mem_flatMap.2 ⟨x,hx,ht⟩)
theorem optEv_agr {x:Option Arg} (h:∀ t∈x.toList.flatMap Arg.uses,get E' t=get E t):optEv E' x=optEv E x:=by
 cases x with
 | none=>rfl
 | some x=>simp only [optEv];rw [ev_agr fun t ht=>h t (by simp [ht])]
theorem act_env {a:PAct} (h:∀ t∈a.uses,get E' t=get E t) (K:PV→Heap→Option β):act O nb E' H a K=act O nb E H a K:=by
 cases a with
 | bad=>rfl
 | alloc z=>rfl
 | raw _ _=>rfl
 | mv x|load _ x|nilck x|un _ x|toInt _ x|same x|s2b x|b2s x|fadr _ x|fld _ _ x|ext x _|len _ x|box _ x|sliceZ _ x=>simp only [act,ev_agr (x:=x) h]
 | clear _ x=>rfl
 | copy _ _ _=>rfl
 | pick c a b =>
  simp only [act]
  rw [ev_agr (x:=c) fun t ht=>h t (by simp [PAct.uses,ht]),ev_agr (x:=a) fun t ht=>h t (by simp [PAct.uses,ht]),ev_agr (x:=b) fun t ht=>h t (by simp [PAct.uses,ht])]
 | build z ps =>
  simp only [act]
  have:ps.map (evP E')=ps.map (evP E):=List.map_congr_left fun p hp=>by
   obtain ⟨i,j,x⟩:=p
   simp only [evP]
   rw [ev_agr (x:=x) fun t ht=>h t (List.mem_flatMap.2 ⟨(i,j,x),hp,ht⟩)]
  rw [this]
 | bslice t z n ps =>
  simp only [act]
  have e1:(ps.map fun (i,x)=>(i,Arg.ev E' x))=ps.map fun (i,x)=>(i,Arg.ev E x):=List.map_congr_left fun p hp=>by
   obtain ⟨i,x⟩:=p
   simp only
   rw [ev_agr (x:=x) fun t ht=>h t (List.mem_flatMap.2 ⟨(i,x),hp,ht⟩)]
  have e2:vOwn E' (ps.map (·.2))=vOwn E (ps.map (·.2)):=by
   unfold vOwn
   have:∀ l:List Arg,(∀ t∈l.flatMap Arg.uses,get E' t=get E t)→(l.flatMap fun x=>ownIds (x.ev E'))=l.flatMap fun x=>ownIds (x.ev E):=by
    intro l
    induction l with
    | nil=>intro _;rfl
    | cons x l ih =>
     intro hl
     simp only [List.flatMap_cons]
     rw [ev_agr (x:=x) fun t ht=>hl t (by simp [ht]),ih fun t ht=>hl t (by simp at ht ⊢;exact .inr ht)]
   exact this _ fun t ht=>h t (by simpa [PAct.uses,List.flatMap_map] using ht)
  rw [e1,e2]
 | store n a x|bin _ a x|beq _ a x|aeq _ _ a x|iadr _ a x|idx a x|append _ _ _ a x|mks _ _ _ a x =>
  simp only [act]
  rw [ev_agr (x:=a) fun t ht=>h t (by simp [PAct.uses,ht]),ev_agr (x:=x) fun t ht=>h t (by simp [PAct.uses,ht])]
 | sliceV sz x lo hi =>
  simp only [act]
  rw [ev_agr (x:=x) fun t ht=>h t (by simp [PAct.uses,ht]),optEv_agr (x:=lo) fun t ht=>h t (by simp [PAct.uses] at ht ⊢;exact .inr (.inl ht)),optEv_agr (x:=hi) fun t ht=>h t (by simp [PAct.uses] at ht ⊢;exact .inr (.inr ht))]
 | slice st sz x lo hi =>
  simp only [act]
  rw [ev_agr (x:=x) fun t ht=>h t (by simp [PAct.uses,ht]),optEv_agr (x:=lo) fun t ht=>h t (by simp [PAct.uses] at ht ⊢;exact .inr (.inl ht)),optEv_agr (x:=hi) fun t ht=>h t (by simp [PAct.uses] at ht ⊢;exact .inr (.inr ht))]
 | call f o args =>
  simp only [act]
  have:callPs E' args=callPs E args:=List.map_congr_left fun p hp=>by
   obtain ⟨i,x⟩:=p
   simp only
   rw [ev_agr (x:=x) fun t ht=>h t (List.mem_flatMap.2 ⟨(i,x),hp,ht⟩)]
  rw [this]
 | callv x args =>
  simp only [act]
  have:∀ a b,callVs E' a args b=callVs E a args b:=fun a b=>by
   unfold callVs
   congr 2
   exact List.map_congr_left fun y hy=>by rw [ev_agr (x:=y) fun t ht=>h t (by simp only [PAct.uses,List.mem_append,List.mem_flatMap];exact .inr ⟨y,hy,ht⟩)]
  rw [ev_agr (x:=x) fun t ht=>h t (by simp [PAct.uses,ht])]
  simp only [this]
 | min xs|max xs=>simp only [act];rw [evs_agr h]
 | mkf f a b =>
  simp only [act]
  rw [evs_agr (xs:=a) fun t ht=>h t (by simp only [PAct.uses,List.mem_append];exact .inl ht),evs_agr (xs:=b) fun t ht=>h t (by simp only [PAct.uses,List.mem_append];exact .inr ht)]
end
end Go.Proofs.YtdcphpbimeoioaaGreatDoorE
end
section
set_option linter.unusedSectionVars false
namespace Go.Proofs.YtdcphpbimeoioaaGreatDoorE
open Go
set_option linter.unusedVariables false
set_option linter.unusedSimpArgs false
variable [Dm]
structure Stp where
 o:POp
 v:PV
 δ:List (Nat×Slot)
 d:Done
def Fires (g:Option (Nat×Bool)) (E:Env):Prop:=match g with|none=>True|some (t,w)=>get E t = .bool w
def Stays (g:Option (Nat×Bool)) (E:Env):Prop:=match g with|none=>False|some (t,w)=>get E t = .bool (!w)∨get E t = .tup []
def EqE (E E':Env):Prop:=∀ t,get E t=get E' t
structure StpOk (O:Orc) (base:Nat) (s:Stp) (E:Env) (H:Heap):Prop where
 dst:s.d.dst=s.o.dst
 uses:s.d.uses=usesO s.o
 wr:∀ x∈s.δ,x.1∈s.d.wr
 run:(Fires s.o.guard E∧∀ E' H',(∀ t∈usesO s.o,get E' t=get E t)→Agr (s.d.rd++s.d.wr) H H'→∀ {β:Type} (K:PV→Heap→Option β),act O (base+s.d.i) E' H' s.o.act K=K s.v (upd H' s.δ)) ∨
  (Stays s.o.guard E∧s.v = .tup []∧s.δ=[])
def StepsOk (O:Orc) (base:Nat):List Done→List Stp→Env→Heap→Prop
 | _,[],_,_=>True
 | done,s ::r,E,H=>StpOk O base s E H∧s.o.after.all (fun k=>Nat.blt k s.d.i)=true∧okD s.d done=true∧s.d.anc=dd (s.o.after++s.o.after.flatMap (ancOf done)) ∧
  StepsOk O base (s.d ::done) r (putD s.o.dst s.v E) (upd H s.δ)
def allE:List Stp→Env→Env
 | [],E=>E
 | s ::r,E=>allE r (putD s.o.dst s.v E)
def allH:List Stp→Heap→Heap
 | [],H=>H
 | s ::r,H=>allH r (upd H s.δ)
section
variable {β:Type} {P:Program} {H H':Heap} {E E':Env} {O:Orc} {base:Nat} {r:β} {A W:List Nat}
theorem mem_dd {x:Nat}:∀ {l:List Nat},x∈dd l↔x∈l
 | []=>Iff.rfl
 | y ::r=>by
  have ih:=mem_dd (x:=x) (l:=r)
  simp only [dd]
  cases hm:memN y (dd r) with
  | true =>
   have:=memN_iff.1 hm
   simp only [cond_true,List.mem_cons]
   exact ⟨fun h => .inr (ih.1 h),fun h=>by rcases h with rfl|h;exact this;exact ih.2 h⟩
  | false=>simp only [cond_false,List.mem_cons,ih]
theorem ddK_eq:∀ (l:List Nat) (K:List Nat→Option β),ddK l K=K (dd l)
 | [],K=>rfl
 | x ::r,K=>by
  simp only [ddK,dd,ddK_eq r]
  cases memN x (dd r)<;>rfl
theorem EqE.put (h:EqE E E') (d:Option Nat) (v:PV):EqE (putD d v E) (putD d v E'):=fun t=>by
 cases d with
 | none=>exact h t
 | some d=>simp only [putD,get_cons];split<;>first|rfl|exact h t
theorem EqE.know (h:EqE E E') {t:Nat} {b:PV} (hb:get E t=b):EqE ((t,b) ::E) E':=fun u=>by
 rw [get_cons]
 split
 ·rename_i e;subst e;rw [← h t,hb]
 ·exact h u
theorem opsD_steps (hO:OrcOk P O):∀ (L:List (Nat×POp)) (done:List Done) {E E0:Env} {H:Heap} {K:Env→Heap→Option β},EqE E E0→opsD O base done L E H K=some r →
  ∃ Ls:List Stp,Ls.map (fun s=>(s.d.i,s.o))=L∧StepsOk O base done Ls E0 H∧∃ E',EqE E' (allE Ls E0)∧K E' (allH Ls H)=some r
 | [],done,E,E0,H,K,he,h=>⟨[],rfl,trivial,E,he,h⟩
 | (i,o) ::L,done,E,E0,H,K,he,h=>by
  have fire:∀ E1,EqE E1 E0→Fires o.guard E0→(match (⟨i,o.dst,usesO o,dd (o.after++o.after.flatMap (ancOf done)),dd (foot O E1 H o.act).1,dd ((base+i) ::(foot O E1 H o.act).2)⟩:Done) with
   | d=>cond (o.after.all (fun k=>Nat.blt k i) && okD d done) (act O (base+i) E1 H o.act fun v H=>fV v fun v=>opsD O base (d ::done) L (putD o.dst v E1) H K) none)=some r →
   ∃ Ls:List Stp,Ls.map (fun s=>(s.d.i,s.o))=(i,o) ::L∧StepsOk O base done Ls E0 H∧∃ E',EqE E' (allE Ls E0)∧K E' (allH Ls H)=some r:=by
   intro E1 h1 hf h
   simp only at h
   obtain ⟨h0,h⟩:=cond_some h
   simp only [Bool.and_eq_true] at h0
   obtain ⟨v,δ,g1,g2⟩:=act_loc' hO h
   have h2:=g2 H (fun _ _=>rfl) fun v H9=>fV v fun v=>opsD O base ((⟨i,o.dst,usesO o,dd (o.after++o.after.flatMap (ancOf done)),dd (foot O E1 H o.act).1,dd ((base+i) ::(foot O E1 H o.act).2)⟩:Done) ::done) L (putD o.dst v E1) H9 K
   simp only at h2
   rw [h2,fV_eq] at h
   obtain ⟨Ls,k1,k2,E',k3,k4⟩:=opsD_steps hO L _ (h1.put o.dst v) h
   refine ⟨⟨o,v,δ,⟨i,o.dst,usesO o,dd (o.after++o.after.flatMap (ancOf done)),dd (foot O E1 H o.act).1,dd ((base+i) ::(foot O E1 H o.act).2)⟩⟩ ::Ls,by simp [k1],⟨⟨rfl,rfl,fun x hx=>mem_dd.2 (g1 x hx), .inl ⟨hf,fun E' H' hE hA β K=>?_⟩⟩,h0.1,h0.2,rfl,k2⟩,E',k3,k4⟩
   rw [act_env (E:=E1) (fun t ht=>(hE t (List.mem_append_left _ ht)).trans (h1 t).symm) K]
   exact g2 H' (fun b hb=>hA b (by simp only [List.mem_append,mem_dd];simp at hb ⊢;rcases hb with h|h|h<;>simp [h])) K
  cases hg:o.guard with
  | none =>
   simp only [opsD,hg,ddK_eq] at h
   exact fire E he (by rw [hg];trivial) h
  | some g =>
   obtain ⟨t,w⟩:=g
   simp only [opsD,hg,ddK_eq] at h
   rcases asGuard_some h with ⟨hb,h⟩|⟨hb,h⟩
   ·exact fire _ (he.know hb) (by rw [hg];exact (he t).symm.trans hb) h
   ·obtain ⟨h0,h⟩:=cond_some h
    simp only [Bool.and_eq_true] at h0
    obtain ⟨Ls,k1,k2,E',k3,k4⟩:=opsD_steps hO L _ ((he.know rfl).put o.dst (.tup [])) h
    exact ⟨⟨o, .tup [],[],⟨i,o.dst,usesO o,dd (o.after++o.after.flatMap (ancOf done)),[],[]⟩⟩ ::Ls,by simp [k1],⟨⟨rfl,rfl,by simp, .inr ⟨by rw [hg];exact hb.imp (he t).symm.trans (he t).symm.trans,rfl,rfl⟩⟩,h0.1,h0.2,rfl,k2⟩,E',k3,k4⟩
end
end Go.Proofs.YtdcphpbimeoioaaGreatDoorE
end
section
set_option linter.unusedSectionVars false
namespace Go.Proofs.YtdcphpbimeoioaaGreatDoorE
open Go
set_option linter.unusedVariables false
set_option linter.unusedSimpArgs false
variable [Dm]
def subE (A:Nat→Bool):List Stp→Env→Env
 | [],E=>E
 | s ::r,E=>subE A r (cond (A s.d.i) (putD s.o.dst s.v E) E)
def subH (A:Nat→Bool):List Stp→Heap→Heap
 | [],H=>H
 | s ::r,H=>subH A r (cond (A s.d.i) (upd H s.δ) H)
section
variable {β:Type} {P:Program} {O:Orc} {base:Nat} {r:β} {A B:Nat→Bool}
theorem get_put_ne {d:Option Nat} {v:PV} {E:Env} {t:Nat} (h:d≠some t):get (putD d v E) t=get E t:=by
 cases d with
 | none=>rfl
 | some d=>simp only [putD,get_cons];rw [if_neg fun e=>h (by rw [e])]
theorem get_put_congr {d:Option Nat} {v:PV} {E E':Env} {t:Nat} (h:get E t=get E' t):get (putD d v E) t=get (putD d v E') t:=by
 cases d with
 | none=>exact h
 | some d=>simp only [putD,get_cons];rw [h]
theorem subE_congr:∀ (Ls:List Stp) {E E':Env} {t:Nat},(∀ s∈Ls,A s.d.i=B s.d.i∨s.o.dst≠some t)→get E t=get E' t→get (subE A Ls E) t=get (subE B Ls E') t
 | [],E,E',t,_,he=>he
 | s ::r,E,E',t,h,he=>by
  simp only [subE]
  refine subE_congr r (fun x hx=>h x (List.mem_cons_of_mem _ hx)) ?_
  rcases h s (List.mem_cons_self ..) with e|e
  ·rw [e]
   cases B s.d.i with
   | true=>exact get_put_congr he
   | false=>exact he
  ·cases A s.d.i<;>cases B s.d.i<;>simp only [cond_true,cond_false,get_put_ne e,he]
theorem subH_congr:∀ (Ls:List Stp) {H H':Heap} {b:Nat},(∀ s∈Ls,A s.d.i=B s.d.i∨∀ x∈s.δ,x.1≠b)→hget H b=hget H' b→hget (subH A Ls H) b=hget (subH B Ls H') b
 | [],H,H',b,_,he=>he
 | s ::r,H,H',b,h,he=>by
  simp only [subH]
  refine subH_congr r (fun x hx=>h x (List.mem_cons_of_mem _ hx)) ?_
  rcases h s (List.mem_cons_self ..) with e|e
  ·rw [e]
   cases B s.d.i with
   | true=>exact (Agr.upd (A:=[b]) s.δ (H:=H') (H':=H) (fun c hc=>by simp at hc;subst hc;exact he)) b (by simp)
   | false=>exact he
  ·cases A s.d.i<;>cases B s.d.i<;>simp only [cond_true,cond_false,hget_upd_ne _ _ _ e,he]
theorem subE_append:∀ (l l':List Stp) (E:Env),subE A (l++l') E=subE A l' (subE A l E)
 | [],_,_=>rfl
 | s ::l,l',E=>subE_append l l' _
theorem subH_append:∀ (l l':List Stp) (H:Heap),subH A (l++l') H=subH A l' (subH A l H)
 | [],_,_=>rfl
 | s ::l,l',H=>subH_append l l' _
theorem subH_upd:∀ (l:List Stp) (H:Heap) (δ:List (Nat×Slot)),(∀ s∈l,A s.d.i=true→∀ x∈s.δ,∀ y∈δ,x.1≠y.1)→subH A l (upd H δ)=upd (subH A l H) δ
 | [],H,δ,_=>rfl
 | s ::l,H,δ,h=>by
  simp only [subH]
  cases ha:A s.d.i with
  | false=>exact subH_upd l H δ fun x hx=>h x (List.mem_cons_of_mem _ hx)
  | true =>
   simp only [cond_true]
   rw [upd_comm δ s.δ H fun x hx y hy=>(h s (List.mem_cons_self ..) ha y hy x hx).symm]
   exact subH_upd l _ δ fun x hx=>h x (List.mem_cons_of_mem _ hx)
theorem steps_at {done:List Done}:∀ (l:List Stp) {done:List Done} {s:Stp} {l':List Stp} {E:Env} {H:Heap},StepsOk O base done (l++s ::l') E H →
  StpOk O base s (allE l E) (allH l H)∧s.o.after.all (fun k=>Nat.blt k s.d.i)=true∧okD s.d ((l.map (·.d)).reverse++done)=true∧s.d.anc=dd (s.o.after++s.o.after.flatMap (ancOf ((l.map (·.d)).reverse++done)))∧StepsOk O base (s.d ::((l.map (·.d)).reverse++done)) l' (putD s.o.dst s.v (allE l E)) (upd (allH l H) s.δ)
 | [],done,s,l',E,H,h=>h
 | x ::l,done,s,l',E,H,h=>by
  have:=steps_at (done:=done) l h.2.2.2.2
  simpa [allE,allH] using this
end
end Go.Proofs.YtdcphpbimeoioaaGreatDoorE
end
section
set_option linter.unusedSectionVars false
namespace Go.Proofs.YtdcphpbimeoioaaGreatDoorE
open Go
set_option linter.unusedVariables false
set_option linter.unusedSimpArgs false
variable [Dm]
section
variable {β:Type} {P:Program} {O:Orc} {base:Nat} {r:β} {A B:Nat→Bool}
theorem okD_spec:∀ {l:List Done} {y:Done},okD y l=true→∀ x∈l,x.i∈y.anc∨apartD x y=true
 | [],_,_,x,hx=>by cases hx
 | z ::l,y,h,x,hx=>by
  simp only [okD,Bool.and_eq_true,Bool.or_eq_true] at h
  rcases List.mem_cons.1 hx with rfl|hx
  ·exact h.1.imp memN_iff.1 id
  ·exact okD_spec h.2 x hx
theorem ancOf_mem:∀ {l:List Done} {i k:Nat},k∈ancOf l i→∃ x∈l,x.i=i∧k∈x.anc
 | [],_,_,h=>by simp [ancOf] at h
 | z ::l,i,k,h=>by
  simp only [ancOf] at h
  cases hb:Nat.beq z.i i with
  | true=>rw [hb] at h;exact ⟨z,List.mem_cons_self ..,Nat.eq_of_beq_eq_true hb,h⟩
  | false =>
   rw [hb] at h
   obtain ⟨x,h1,h2⟩:=ancOf_mem h
   exact ⟨x,List.mem_cons_of_mem _ h1,h2⟩
theorem anc_in:∀ (l:List Stp) {done:List Done} {E:Env} {H:Heap},StepsOk O base done l E H→(∀ s∈l,A s.d.i=true→∀ k∈s.o.after,A k=true)→(∀ x∈done,A x.i=true→∀ k∈x.anc,A k=true) →
  ∀ s∈l,(∀ k∈s.o.after,A k=true)→∀ k∈s.d.anc,A k=true
 | [],_,_,_,_,_,_,s,hs,_=>by cases hs
 | z ::l,done,E,H,h,hc,hd,s,hs,hk=>by
  obtain ⟨h1,h2,h3,h4,h5⟩:=h
  have here:(∀ k∈z.o.after,A k=true)→∀ k∈z.d.anc,A k=true:=by
   intro ha k hk
   rw [h4] at hk
   have hk:=mem_dd.1 hk
   rcases List.mem_append.1 hk with hk|hk
   ·exact ha k hk
   ·obtain ⟨j,hj,hk⟩:=List.mem_flatMap.1 hk
    obtain ⟨x,g1,g2,g3⟩:=ancOf_mem hk
    exact hd x g1 (by rw [g2];exact ha j hj) k g3
  rcases List.mem_cons.1 hs with rfl|hs
  ·exact here hk
  ·refine anc_in l h5 (fun x hx=>hc x (List.mem_cons_of_mem _ hx)) (fun x hx ha=>?_) s hs hk
   rcases List.mem_cons.1 hx with rfl|hx
   ·exact here (hc z (List.mem_cons_self ..) ha)
   ·exact hd x hx ha
theorem subE_true:∀ (l:List Stp) (E:Env),(∀ s∈l,B s.d.i=true)→subE B l E=allE l E
 | [],_,_=>rfl
 | s ::l,E,h=>by simp only [subE,allE,h s (List.mem_cons_self ..),cond_true];exact subE_true l _ fun x hx=>h x (List.mem_cons_of_mem _ hx)
theorem subE_false:∀ (l:List Stp) (E:Env),(∀ s∈l,B s.d.i=false)→subE B l E=E
 | [],_,_=>rfl
 | s ::l,E,h=>by simp only [subE,h s (List.mem_cons_self ..),cond_false];exact subE_false l _ fun x hx=>h x (List.mem_cons_of_mem _ hx)
theorem subH_true:∀ (l:List Stp) (H:Heap),(∀ s∈l,B s.d.i=true)→subH B l H=allH l H
 | [],_,_=>rfl
 | s ::l,E,h=>by simp only [subH,allH,h s (List.mem_cons_self ..),cond_true];exact subH_true l _ fun x hx=>h x (List.mem_cons_of_mem _ hx)
theorem subH_false:∀ (l:List Stp) (H:Heap),(∀ s∈l,B s.d.i=false)→subH B l H=H
 | [],_,_=>rfl
 | s ::l,E,h=>by simp only [subH,h s (List.mem_cons_self ..),cond_false];exact subH_false l _ fun x hx=>h x (List.mem_cons_of_mem _ hx)
structure Apart (x y:Done):Prop where
 xy:∀ t,x.dst=some t→t ∉ y.uses
 yx:∀ t,y.dst=some t→t ∉ x.uses
 ne:∀ t,x.dst=some t→y.dst≠some t
 wxy:∀ b∈x.wr,b ∉ y.rd++y.wr
 wyx:∀ b∈y.wr,b ∉ x.rd++x.wr
theorem noneOf_spec {a b:List Nat} (h:noneOf a b=true):∀ x∈a,x ∉ b:=fun x hx hb=>by
 have:=List.all_eq_true.1 h x hx
 rw [memN_iff.2 hb] at this
 cases this
theorem dstOff_spec {d:Option Nat} {l:List Nat} (h:dstOff d l=true):∀ t,d=some t→t ∉ l:=fun t ht hl=>by
 subst ht
 simp only [dstOff,memN_iff.2 hl] at h
 cases h
theorem apartD_spec {x y:Done} (h:apartD x y=true):Apart x y:=by
 unfold apartD at h
 simp only [Bool.and_eq_true] at h
 obtain ⟨⟨⟨⟨h1,h2⟩,h3⟩,h4⟩,h5⟩:=h
 refine ⟨dstOff_spec h1,dstOff_spec h2,fun t hx hy=>?_,noneOf_spec h4,noneOf_spec h5⟩
 rw [hx,hy] at h3
 simp only [show Nat.beq t t=true from Nat.beq_refl t] at h3
 cases h3
theorem Apart.symm {x y:Done} (h:Apart x y):Apart y x:=⟨h.yx,h.xy,fun t h1 h2=>h.ne t h2 h1,h.wyx,h.wxy⟩
theorem step_apart {l l':List Stp} {s:Stp} {E:Env} {H:Heap} (h:StepsOk O base [] (l++s ::l') E H) (hc:∀ x∈l++s ::l',A x.d.i=true→∀ k∈x.o.after,A k=true) (hs:A s.d.i=false) (hr:∀ k∈s.o.after,A k=true) :
  (∀ x∈l,A x.d.i=false→Apart x.d s.d)∧∀ x∈l',A x.d.i=true→Apart s.d x.d:=by
 have hin:=anc_in (A:=A) _ h hc (fun x hx=>by cases hx)
 refine ⟨fun x hx hA=>?_,fun x hx hA=>?_⟩
 ·obtain ⟨_,_,h3,_⟩:=steps_at (done:=[]) l h
  rcases okD_spec h3 x.d (by simp;exact ⟨x,hx,rfl⟩) with e|e
  ·have:=hin s (by simp) hr _ e
   rw [hA] at this;cases this
  ·exact apartD_spec e
 ·obtain ⟨l1,l2,rfl⟩:=List.append_of_mem hx
  have h':StepsOk O base [] ((l++s ::l1)++x ::l2) E H:=by simpa using h
  obtain ⟨_,_,h3,_⟩:=steps_at (done:=[]) (l++s ::l1) h'
  rcases okD_spec h3 s.d (by simp) with e|e
  ·have:=hin x (by simp) (hc x (by simp) hA) _ e
   rw [hs] at this;cases this
  ·exact apartD_spec e
theorem steps_all:∀ {l:List Stp} {done:List Done} {E:Env} {H:Heap},StepsOk O base done l E H→∀ x∈l,x.d.dst=x.o.dst∧x.d.uses=usesO x.o∧∀ y∈x.δ,y.1∈x.d.wr
 | [],_,_,_,_,x,hx=>by cases hx
 | z ::l,done,E,H,h,x,hx=>by
  rcases List.mem_cons.1 hx with rfl|hx
  ·exact ⟨h.1.dst,h.1.uses,h.1.wr⟩
  ·exact steps_all h.2.2.2.2 x hx
theorem step_env {l l':List Stp} {s:Stp} {E:Env} {H:Heap} (h:StepsOk O base [] (l++s ::l') E H) (hc:∀ x∈l++s ::l',A x.d.i=true→∀ k∈x.o.after,A k=true) (hs:A s.d.i=false) (hr:∀ k∈s.o.after,A k=true) :
  (∀ t∈usesO s.o,get (subE A (l++s ::l') E) t=get (allE l E) t)∧Agr (s.d.rd++s.d.wr) (allH l H) (subH A (l++s ::l') H):=by
 obtain ⟨a1,a2⟩:=step_apart h hc hs hr
 have hall:=steps_all h
 have hsu:=(hall s (by simp)).2.1
 refine ⟨fun t ht=>?_,fun b hb=>?_⟩
 ·rw [subE_append,← subE_true (B:=fun _=>true) l E (fun _ _=>rfl)]
  simp only [subE,hs,cond_false]
  rw [← subE_false (B:=fun _=>false) l' (subE (fun _=>true) l E) (fun _ _=>rfl)]
  refine subE_congr l' (fun x hx=>?_) (subE_congr l (fun x hx=>?_) rfl)
  ·cases hA:A x.d.i with
   | false=>exact .inl rfl
   | true=>exact .inr fun e=>(a2 x hx hA).yx t (by rw [(hall x (by simp [hx])).1,e]) (by rw [hsu];exact ht)
  ·cases hA:A x.d.i with
   | true=>exact .inl rfl
   | false=>exact .inr fun e=>(a1 x hx hA).xy t (by rw [(hall x (by simp [hx])).1,e]) (by rw [hsu];exact ht)
 ·rw [subH_append,← subH_true (B:=fun _=>true) l H (fun _ _=>rfl)]
  simp only [subH,hs,cond_false]
  rw [← subH_false (B:=fun _=>false) l' (subH (fun _=>true) l H) (fun _ _=>rfl)]
  refine subH_congr l' (fun x hx=>?_) (subH_congr l (fun x hx=>?_) rfl)
  ·cases hA:A x.d.i with
   | false=>exact .inl rfl
   | true=>exact .inr fun y hy e=>(a2 x hx hA).wyx y.1 ((hall x (by simp [hx])).2.2 y hy) (by rw [e];exact hb)
  ·cases hA:A x.d.i with
   | true=>exact .inl rfl
   | false=>exact .inr fun y hy e=>(a1 x hx hA).wxy y.1 ((hall x (by simp [hx])).2.2 y hy) (by rw [e];exact hb)
theorem subE_same:∀ (l:List Stp) (E:Env),(∀ s∈l,A s.d.i=B s.d.i)→subE A l E=subE B l E
 | [],_,_=>rfl
 | s ::l,E,h=>by simp only [subE,h s (List.mem_cons_self ..)];exact subE_same l _ fun x hx=>h x (List.mem_cons_of_mem _ hx)
theorem subH_same:∀ (l:List Stp) (H:Heap),(∀ s∈l,A s.d.i=B s.d.i)→subH A l H=subH B l H
 | [],_,_=>rfl
 | s ::l,E,h=>by simp only [subH,h s (List.mem_cons_self ..)];exact subH_same l _ fun x hx=>h x (List.mem_cons_of_mem _ hx)
theorem step_put {l l':List Stp} {s:Stp} {E:Env} {H:Heap} (h:StepsOk O base [] (l++s ::l') E H) (hc:∀ x∈l++s ::l',A x.d.i=true→∀ k∈x.o.after,A k=true) (hs:A s.d.i=false) (hr:∀ k∈s.o.after,A k=true)
  (hB:B s.d.i=true) (hl:∀ x∈l,B x.d.i=A x.d.i) (hl':∀ x∈l',B x.d.i=A x.d.i) :
  EqE (putD s.o.dst s.v (subE A (l++s ::l') E)) (subE B (l++s ::l') E)∧subH B (l++s ::l') H=upd (subH A (l++s ::l') H) s.δ:=by
 obtain ⟨a1,a2⟩:=step_apart h hc hs hr
 have hall:=steps_all h
 have hsd:=hall s (by simp)
 constructor
 ·intro t
  rw [subE_append,subE_append]
  simp only [subE,hs,hB,cond_false,cond_true]
  rw [subE_same (A:=B) (B:=A) l' _ hl',subE_same (A:=B) (B:=A) l _ hl]
  by_cases e:s.o.dst=some t
  ·have:get (subE A l' (putD s.o.dst s.v (subE A l E))) t=get (subE (fun _=>false) l' (putD s.o.dst s.v (subE A l E))) t:=by
    refine subE_congr l' (fun x hx=>?_) rfl
    cases hA:A x.d.i with
    | false=>exact .inl rfl
    | true=>exact .inr fun e'=>(a2 x hx hA).ne t (by rw [hsd.1,e]) (by rw [(hall x (by simp [hx])).1,e'])
   rw [this,subE_false (B:=fun _=>false) _ _ fun _ _=>rfl]
   rw [e]
   simp [putD,get_cons]
  ·rw [get_put_ne e]
   exact (subE_congr l' (fun x hx => .inl rfl) (get_put_ne e)).symm
 ·rw [subH_append,subH_append]
  simp only [subH,hs,hB,cond_false,cond_true]
  rw [subH_same (A:=B) (B:=A) l' _ hl',subH_same (A:=B) (B:=A) l _ hl]
  refine subH_upd l' _ _ fun x hx hA y hy z hz e=>?_
  have g1:=(hall x (by simp [hx])).2.2 y hy
  have g2:=hsd.2.2 z hz
  exact (a2 x hx hA).wyx y.1 g1 (by rw [e];exact List.mem_append_right _ g2)
end
end Go.Proofs.YtdcphpbimeoioaaGreatDoorE
end
section
set_option linter.unusedSectionVars false
namespace Go.Proofs.YtdcphpbimeoioaaGreatDoorE
open Go
set_option linter.unusedVariables false
set_option linter.unusedSimpArgs false
variable [Dm]
section
variable {β:Type} {P:Program} {O:Orc} {base n:Nat} {r:β} {os:Array Oper} {Q:Exit→Act→World→Prop} {Ls:List Stp} {E0:Env} {H0:Heap} {S:Nat→SL} {F:Nat→Prop} {w:World}
theorem EqE.symm {E E':Env} (h:EqE E E'):EqE E' E:=fun t=>(h t).symm
theorem EqE.trans {E E' E2:Env} (h:EqE E E') (h':EqE E' E2):EqE E E2:=fun t=>(h t).trans (h' t)
theorem At.eqE {E E':Env} {a:Act} (h:At S F w E a n) (he:EqE E E'):At S F w E' a n :=
 ⟨⟨fun k=>by rw [← he k];exact h.opd.tmp k,h.opd.const,h.opd.func⟩,h.size,h.defers⟩
theorem stp_at (hL:Ls.map (fun s=>(s.d.i,s.o))=number 0 (os.toList.map (opOf P os))) {i:Nat} {o:Oper} (ho:os[i]?=some o) :
  ∃ s l l',Ls=l++s ::l'∧s.d.i=i∧s.o=opOf P os o∧(∀ x∈l,x.d.i≠i)∧∀ x∈l',x.d.i≠i:=by
 have h1:Ls.map (fun s=>s.d.i)=List.range' 0 os.size:=by
  have:=congrArg (List.map Prod.fst) hL
  rw [number_fst,List.map_map] at this
  simpa [Function.comp_def] using this
 have hlt:i<os.size:=(Array.getElem?_eq_some_iff.1 ho).1
 have hi:i∈Ls.map (fun s=>s.d.i):=by rw [h1];simp [List.mem_range'_1,hlt]
 obtain ⟨s,hs,rfl⟩:=List.mem_map.1 hi
 have hso:s.o=opOf P os o:=by
  have hm:(s.d.i,s.o)∈number 0 (os.toList.map (opOf P os)):=by rw [← hL];exact List.mem_map.2 ⟨s,hs,rfl⟩
  obtain ⟨_,h2⟩:=number_mem _ _ _ hm
  simp only [Nat.sub_zero,List.getElem?_map,Array.getElem?_toList,ho,Option.map_some,Option.some.injEq] at h2
  exact h2.symm
 obtain ⟨l,l',rfl⟩:=List.append_of_mem hs
 have hn:((l++s ::l').map (fun s=>s.d.i)).Nodup:=by rw [h1];exact List.nodup_range' (step:=1)
 rw [List.map_append,List.map_cons,List.nodup_append] at hn
 obtain ⟨_,n2,n3⟩:=hn
 rw [List.nodup_cons] at n2
 exact ⟨s,l,l',rfl,rfl,hso,fun x hx e=>n3 _ (List.mem_map.2 ⟨x,hx,rfl⟩) _ (List.mem_cons_self ..) e,fun x hx e=>n2.1 (List.mem_map.2 ⟨x,hx,e⟩)⟩
theorem getD_set_self {l:Array Bool} {i:Nat} (h:i<l.size):(l.setIfInBounds i true).getD i false=true:=by
 simp [Array.getD_eq_getD_getElem?,Array.getElem?_setIfInBounds,h]
theorem any_ok (hO:OrcOk P O) (hL:Ls.map (fun s=>(s.d.i,s.o))=number 0 (os.toList.map (opOf P os))) (hd:(os.toList.map (opOf P os)).all (dstIn n)=true) (hs:StepsOk O base [] Ls E0 H0)
  (hQ:∀ S' F' w' E' a',EqE E' (allE Ls E0)→Rel S' F' w' (allH Ls H0)→At S' F' w' E' a' n→Adv S F w H0 S' F' w' (allH Ls H0)→Q .normal a' w') :
  ∀ (fuel:Nat) (listed:Array Bool) {S1:Nat→SL} {F1:Nat→Prop} {w1:World} {E1:Env} {a1:Act},listed.size=os.size→(∀ s∈Ls,listed.getD s.d.i false=true→∀ k∈s.o.after,listed.getD k false=true)→listed.toList.count false≤fuel →
   Rel S1 F1 w1 (subH (fun i=>listed.getD i false) Ls H0)→At S1 F1 w1 E1 a1 n→EqE E1 (subE (fun i=>listed.getD i false) Ls E0)→Adv S F w H0 S1 F1 w1 (subH (fun i=>listed.getD i false) Ls H0)→wpAny P .any os Q fuel listed a1 w1:=by
 have hidx:∀ s∈Ls,s.d.i<os.size∧∃ o,os[s.d.i]?=some o∧s.o=opOf P os o:=by
  intro s hs
  have hm:(s.d.i,s.o)∈number 0 (os.toList.map (opOf P os)):=by rw [← hL];exact List.mem_map.2 ⟨s,hs,rfl⟩
  obtain ⟨o,h1,h2,_⟩:=region_isOp hd _ hm
  exact ⟨(Array.getElem?_eq_some_iff.1 h1).1,o,h1,h2⟩
 have fin:∀ (listed:Array Bool) {S1:Nat→SL} {F1:Nat→Prop} {w1:World} {E1:Env} {a1:Act},(∀ s∈Ls,listed.getD s.d.i false=true)→Rel S1 F1 w1 (subH (fun i=>listed.getD i false) Ls H0)→At S1 F1 w1 E1 a1 n→EqE E1 (subE (fun i=>listed.getD i false) Ls E0)→Adv S F w H0 S1 F1 w1 (subH (fun i=>listed.getD i false) Ls H0)→Q .normal a1 w1:=by
  intro listed S1 F1 w1 E1 a1 hall hr ha he hA
  rw [subH_true (B:=fun i=>listed.getD i false) Ls H0 hall] at hr hA
  rw [subE_true (B:=fun i=>listed.getD i false) Ls E0 hall] at he
  exact hQ _ _ _ _ _ he hr ha hA
 intro fuel
 induction fuel with
 | zero =>
  intro listed S1 F1 w1 E1 a1 hsz hcl hf hr ha he hA
  have hno:∀ i,i<os.size→listed.getD i false=true:=by
   intro i hi
   have h0:listed.toList.count false=0:=Nat.le_zero.1 hf
   rw [List.count_eq_zero] at h0
   have hi':i<listed.size:=by omega
   rw [Array.getD_eq_getD_getElem?,Array.getElem?_eq_getElem hi']
   simp only [Option.getD_some]
   cases hb:listed[i] with
   | true=>rfl
   | false=>exact absurd (by rw [← hb];exact Array.getElem_mem_toList hi') h0
  refine ⟨?_,fin listed (fun s hs=>hno _ (hidx s hs).1) hr ha he hA⟩
  refine List.eq_nil_iff_forall_not_mem.2 fun i hi=>?_
  obtain ⟨h1,o,h2,_⟩:=mem_ready.1 hi
  have hlt:i<os.size:=(Array.getElem?_eq_some_iff.1 h2).1
  have:=hno i hlt
  rw [Array.getD_eq_getD_getElem?,Array.getElem?_eq_getElem (by omega:i<listed.size)] at this h1
  simp only [Option.getD_some] at this h1
  rw [this] at h1;cases h1
 | succ fuel ih =>
  intro listed S1 F1 w1 E1 a1 hsz hcl hf hr ha he hA
  have hgd:∀ i,i<os.size→listed.getD i true=listed.getD i false:=by
   intro i hi
   rw [Array.getD_eq_getD_getElem?,Array.getD_eq_getD_getElem?,Array.getElem?_eq_getElem (by omega:i<listed.size)]
   rfl
  refine ⟨fun hnil=>fin listed ?_ hr ha he hA,fun i hi=>?_⟩
  ·
   have key:∀ (m:Nat),∀ s∈Ls,s.d.i≤m→listed.getD s.d.i false=true:=by
    intro m
    induction m with
    | zero =>
     intro s hsm hle
     cases hb:listed.getD s.d.i false with
     | true=>rfl
     | false =>
      obtain ⟨hlt,o,ho,hso⟩:=hidx s hsm
      have:s.d.i∈Region.ready .any os listed:=mem_ready.2 ⟨by rw [hgd _ hlt];exact hb,o,ho,fun e he' hbd=>by
       obtain ⟨l,l',hll⟩:=List.append_of_mem hsm
       have h2:=(steps_at (done:=[]) l (hll ▸ hs)).2.1
       have:e.on∈s.o.after:=by rw [hso];exact List.mem_map.2 ⟨e,List.mem_filter.2 ⟨by simpa using he',hbd⟩,rfl⟩
       have:=List.all_eq_true.1 h2 _ this
       have:=Nat.le_of_ble_eq_true this
       omega⟩
      rw [hnil] at this;cases this
    | succ m ihm =>
     intro s hsm hle
     cases hb:listed.getD s.d.i false with
     | true=>rfl
     | false =>
      obtain ⟨hlt,o,ho,hso⟩:=hidx s hsm
      have:s.d.i∈Region.ready .any os listed:=mem_ready.2 ⟨by rw [hgd _ hlt];exact hb,o,ho,fun e he' hbd=>by
       obtain ⟨l,l',hll⟩:=List.append_of_mem hsm
       have h2:=(steps_at (done:=[]) l (hll ▸ hs)).2.1
       have:e.on∈s.o.after:=by rw [hso];exact List.mem_map.2 ⟨e,List.mem_filter.2 ⟨by simpa using he',hbd⟩,rfl⟩
       have:=List.all_eq_true.1 h2 _ this
       have h3:=Nat.le_of_ble_eq_true this
       have hlt':e.on<os.size:=by omega
       obtain ⟨s',k,k',e1,e2,e3,_⟩:=stp_at hL (Array.getElem?_eq_getElem hlt')
       have:=ihm s' (by rw [e1];simp) (by omega)
       rwa [e2] at this⟩
      rw [hnil] at this;cases this
   exact fun s hs=>key _ s hs (Nat.le_refl _)
  ·obtain ⟨h1,o,ho,hrd⟩:=mem_ready.1 hi
   have hlt:i<os.size:=(Array.getElem?_eq_some_iff.1 ho).1
   rw [hgd i hlt] at h1
   obtain ⟨s,l,l',hll,hsi,hso,hl,hl'⟩:=stp_at hL ho
   have hA0:listed.getD s.d.i false=false:=by rw [hsi];exact h1
   have hrdy:∀ k∈s.o.after,listed.getD k false=true:=by
    intro k hk
    rw [hso] at hk
    obtain ⟨e,he',rfl⟩:=List.mem_map.1 hk
    obtain ⟨g1,g2⟩:=List.mem_filter.1 he'
    exact hrd e (by simpa using g1) g2
   have hB:(listed.setIfInBounds i true).getD s.d.i false=true:=by rw [hsi];exact getD_set_self (by omega)
   have hne:∀ x:Stp,x.d.i≠i→(listed.setIfInBounds i true).getD x.d.i false=listed.getD x.d.i false:=fun x hx=>getD_set_ne false fun e=>hx e.symm
   have hmono:∀ k,listed.getD k false=true→(listed.setIfInBounds i true).getD k false=true:=fun k hk=>by
    by_cases e:i=k
    ·subst e;exact getD_set_self (by omega)
    ·rw [getD_set_ne false e];exact hk
   have hs':=hs
   rw [hll] at hs' hcl
   obtain ⟨e1,e2⟩:=step_env (A:=fun i=>listed.getD i false) hs' hcl hA0 hrdy
   obtain ⟨p1,p2⟩:=step_put (A:=fun i=>listed.getD i false) (B:=fun j=>(listed.setIfInBounds i true).getD j false) hs' hcl hA0 hrdy hB (fun x hx=>hne x (hl x hx)) (fun x hx=>hne x (hl' x hx))
   have hrun:=(steps_at (done:=[]) l hs').1
   rw [← hll] at e1 e2 p1 p2 hcl
   obtain ⟨d1,d2⟩:=dstIn_spec (List.all_eq_true.1 hd _ (List.mem_map.2 ⟨o,by simpa using Array.mem_of_getElem? ho,rfl⟩):dstIn n (opOf P os o)=true)
   have hcl':∀ x∈Ls,(listed.setIfInBounds i true).getD x.d.i false=true→∀ k∈x.o.after,(listed.setIfInBounds i true).getD k false=true:=by
    intro x hx hb k hk
    by_cases e:x.d.i=i
    ·refine hmono k (hrdy k ?_)
     have hx':=hx
     rw [hll] at hx'
     rcases List.mem_append.1 hx' with hx'|hx'
     ·exact absurd e (hl x hx')
     ·rcases List.mem_cons.1 hx' with rfl|hx'
      ·exact hk
      ·exact absurd e (hl' x hx')
    ·rw [hne x e] at hb
     exact hmono k (hcl x hx hb k hk)
   have hcnt:(listed.setIfInBounds i true).toList.count false≤fuel:=by
    have hi':i<listed.toList.length:=by simpa using (by omega:i<listed.size)
    have h0:listed.toList[i]=false:=by
     rw [Array.getD_eq_getD_getElem?,Array.getElem?_eq_getElem (by omega:i<listed.size)] at h1
     simpa using h1
    have hm:0<listed.toList.count false:=List.count_pos_iff.2 (by rw [← h0];exact List.getElem_mem hi')
    rw [Array.toList_setIfInBounds,List.count_set hi',h0]
    simp
    simp at hm hf
    omega
   have hus:∀ t∈usesO s.o,get E1 t=get (allE l E0) t:=fun t ht=>(he t).trans (e1 t ht)
   have fire:Fires s.o.guard (allE l E0)→(∀ E' H',(∀ t∈usesO s.o,get E' t=get (allE l E0) t)→Agr (s.d.rd++s.d.wr) (allH l H0) H'→∀ {β:Type} (K:PV→Heap→Option β),act O (base+s.d.i) E' H' s.o.act K=K s.v (upd H' s.δ)) →
     o.wp P a1 w1 (wpAny P .any os Q fuel (listed.setIfInBounds i true)) Q:=by
    intro _ hact
    have ha':=hact E1 _ hus e2 (fun v H=>some (v,H))
    rw [show s.o.act=actV P (appUses os o.dst) o by rw [hso];rfl] at ha'
    refine wp_of_runs (actV_ok hO hr ha.opd o _ ha') fun v w' hv=>?_
    obtain ⟨pv,H',S',F',hK,hr',hv',hA'⟩:=hv
    cases hK
    refine ih _ (by simpa using hsz) hcl' hcnt (by rw [p2];exact hr') ((ha.adv hr hA').put hv' d1) ?_ (by rw [p2];exact hA.trans' hA')
    have hdst:s.o.dst=o.dst:=by rw [hso];rfl
    rw [← hdst]
    exact (he.put _ _).trans p1
   unfold wpOp
   simp only [ho]
   rcases hrun.run with ⟨g1,g2⟩|⟨g1,g2,g3⟩
   ·have hw:Region.wanted o (yielded os a1.tmps)=true:=by
     cases hg:o.guard with
     | none=>simp [Region.wanted,hg]
     | some g =>
      obtain ⟨j,b⟩:=g
      obtain ⟨t,hgo,ht⟩:=d2 j b hg
      rw [hso,hgo] at g1
      have hb:get E1 t = .bool b:=(hus t (by rw [hso];simp [usesO,hgo])).trans g1
      simp [Region.wanted,hg,ha.yield hb ht]
    simp only [hw,if_true]
    exact .inl (fire g1 g2)
   ·cases hg:o.guard with
    | none =>
     have:s.o.guard=none:=by rw [hso];simp [opOf,hg]
     rw [this] at g1;exact absurd g1 (fun h=>h)
    | some g =>
     obtain ⟨j,b⟩:=g
     obtain ⟨t,hgo,ht⟩:=d2 j b hg
     rw [hso,hgo] at g1
     have hu:=hus t (by rw [hso];simp [usesO,hgo])
     have hw:=ha.wantNo hg (g1.imp hu.trans hu.trans) ht
     simp only [hw,Bool.false_eq_true,if_false]
     rw [g3] at p2
     rw [g2] at p1
     have p2':subH (fun j=>(listed.setIfInBounds i true).getD j false) Ls H0=subH (fun i=>listed.getD i false) Ls H0:=p2
     have hdst:s.o.dst=o.dst:=by rw [hso];rfl
     refine ih _ (by simpa using hsz) hcl' hcnt (by rw [p2'];exact hr) (ha.skip d1) ?_ (by rw [p2'];exact hA)
     rw [← hdst]
     exact (he.put _ _).trans p1
theorem drawn_ok (hM:P.follows .mixedOrders=true) (hO:OrcOk P O):DrawnOk P O:=by
 intro β n id os S F w H E a r Q base out K hd hr ha h hQ
 obtain ⟨Ls,k1,k2,E',k3,k4⟩:=opsD_steps hO _ [] (fun _=>rfl) h
 refine wp_region_any hM ?_
 have h0:∀ i,(Array.replicate os.size false).getD i false=false:=fun i=>by
  simp [Array.getD_eq_getD_getElem?,Array.getElem?_replicate]
  split<;>rfl
 have hA:=Adv.heap (w:=w) (w':={ w with drawn:=w.drawn+1 }) rfl ⟨rfl,rfl,rfl,(fun _=>Nat.le_succ _)⟩ S F H
 refine any_ok (S:=S) (F:=F) (w:=w) hO k1 hd k2 (fun S' F' w' E2 a' e1 e2 e3 e4=>?_) os.size _ (by simp) (fun s _ hb=>?_) ?_ (S1:=S) (F1:=F) (E1:=E) ?_ (ha.adv hr hA) ?_ ?_
 ·obtain ⟨A',g1,g2⟩:=at_keep (e3.eqE (e1.trans k3.symm)) k4
  exact hQ _ _ _ _ _ _ g1 e2 g2 e4.toM fun m=>e4.toM
 ·rw [h0] at hb;cases hb
 ·have:=List.count_le_length (a:=false) (l:=(Array.replicate os.size false).toList)
  simp
 ·rw [subH_false (B:=fun i=>(Array.replicate os.size false).getD i false) _ _ fun s _=>h0 _]
  exact Rel.heap (w:=w) rfl hr
 ·rw [subE_false (B:=fun i=>(Array.replicate os.size false).getD i false) _ _ fun s _=>h0 _]
  exact fun _=>rfl
 ·rw [subH_false (B:=fun i=>(Array.replicate os.size false).getD i false) _ _ fun s _=>h0 _]
  exact hA
end
end Go.Proofs.YtdcphpbimeoioaaGreatDoorE
end
section
set_option linter.unusedSectionVars false
namespace Go.Proofs.YtdcphpbimeoioaaGreatDoorE
open Go Go.ChangeShapes Go.WideShapes
set_option linter.unusedVariables false
set_option linter.unusedSimpArgs false
variable [Dm]
def okE:(t:Ty)→El t→Prop
 | .int k,n=>(Lit.int k n).wf=true
 | .bool,_=>True
 | .str,s=>s.size≤140737488351232
 | .unit,_=>True
 | .none,_=>True
 | .slice t,xs=>xs.length≤140737488351232∧∀ x∈xs,okE t x
 | .pair a b,x=>okE a x.1∧okE b x.2
section
variable (P:Program)
def rowOk:List Field→Nat→Bool
 | [],_=>true
 | f ::r,n=>Nat.beq f.offset n && rowOk r (n+P.cellsOf f.type)
def tyGood:Nat→TypeId→Bool
 | 0,_=>false
 | n+1,t=>match P.underlying t with
  | some .bool=>true
  | some (.int _)=>true
  | some .string=>true
  | some (.slice e)=>Nat.beq (P.cellsOf e) (tyOf P n e).size && Nat.blt 0 (tyOf P n e).size && Nat.blt 0 (P.bytesOf e) && tyGood n e
  | some (.struct fs)=>rowOk P fs.toList 0 && Nat.beq (P.cellsOf t) (tyOf P (n+1) t).size && fs.toList.all fun f=>Nat.beq (P.cellsOf f.type) (tyOf P n f.type).size && tyGood n f.type
  | _=>false
end
def S0:Nat→SL:=fun _ => .unused
def F0 (w:World):Nat→Prop:=fun k=>k<w.heap.size
def CellsV (w:World) (t:Ty) (y:El t) (cs:List Value):Prop :=
 cs.length=t.size∧∀ (j:Nat) (p:PV) (v:Value),(cellsOf t y)[j]?=some p→cs[j]?=some v→Val S0 (F0 w) w p v∧v.oneCell=true
def OpE (P:Program) (ty:Ty) (t:TypeId):Prop :=
 ∀ (X:Type) (enc:TypeId×Value→X) (w:World) (base fuel:Nat) (held:Bool) (cs:List Value) (x:DataW X) (ps:List MemPlace),
  DataW.trod enc P w base (fun _=>true) held fuel t cs=some (x,ps)→(x.weights P t).all (·≤reachBytes)=true→∃ y:El ty,okE ty y∧CellsV w ty y cs
theorem eMapM_get {α β:Type} {f:α→Option β}:∀ {l:List α} {ys:List β},l.mapM f=some ys→ys.length=l.length∧∀ (i:Nat) (a:α),l[i]?=some a→∃ b,ys[i]?=some b∧f a=some b
 | [],ys,h=>by
  simp at h;subst h
  exact ⟨rfl,fun i a hi=>by simp at hi⟩
 | x ::l,ys,h=>by
  rw [List.mapM_cons] at h
  cases hx:f x with
  | none=>rw [hx] at h;simp at h
  | some b =>
   cases hl:l.mapM f with
   | none=>rw [hx,hl] at h;simp at h
   | some bs =>
    rw [hx,hl] at h
    simp at h
    subst h
    obtain ⟨h1,h2⟩:=eMapM_get hl
    refine ⟨by simp [h1],fun i a hi=>?_⟩
    cases i with
    | zero=>simp at hi;subst hi;exact ⟨b,rfl,hx⟩
    | succ i=>simp at hi;obtain ⟨c,hc,hf⟩:=h2 i a hi;exact ⟨c,by simpa using hc,hf⟩
theorem eChoose {α:Type} (Q:Nat→α→Prop):∀ n,(∀ i,i<n→∃ y,Q i y)→∃ ys:List α,ys.length=n∧∀ i y,ys[i]?=some y→Q i y
 | 0,_=>⟨[],rfl,fun i y h=>by simp at h⟩
 | n+1,h=>by
  obtain ⟨ys,hl,hq⟩:=eChoose Q n (fun i hi=>h i (by omega))
  obtain ⟨y,hy⟩:=h n (by omega)
  refine ⟨ys++[y],by simp [hl],fun i z hz=>?_⟩
  by_cases hi:i<n
  ·rw [List.getElem?_append_left (by omega)] at hz;exact hq i z hz
  ·rw [List.getElem?_append_right (by omega)] at hz
   have:i=n:=by
    have:=(List.getElem?_eq_some_iff.1 hz).1
    simp at this;omega
   subst this
   simp [hl] at hz;subst hz;exact hy
theorem eCells {w:World} {base:Nat} {a:Addr} {n:Nat} {cs:List Value} (h:w.cells? base a n=some cs):cs.length=n∧∀ i u,cs[i]?=some u→w.cell? (a.add i)=some u:=by
 unfold World.cells? at h
 split at h
 ·obtain ⟨h1,h2⟩:=eMapM_get h
  refine ⟨by simpa using h1,fun i u hu=>?_⟩
  have hi:i<n:=by
   have:=(List.getElem?_eq_some_iff.1 hu).1
   simp at h1;omega
  obtain ⟨b,hb,hc⟩:=h2 i i (by simp [hi])
  rw [hu] at hb;cases hb;exact hc
 ·cases h
theorem eCell {w:World} {a:Addr} {u:Value} (h:w.cell? a=some u):a.spot=none∧a.block<w.heap.size:=by
 unfold World.cell? at h
 split at h
 ·rename_i c t f he
  split at h
  ·cases h
  ·rename_i hs
   exact ⟨by cases hsp:a.spot<;>simp_all,(Array.getElem?_eq_some_iff.1 he).1⟩
 ·cases h
theorem eAllApp {p:Nat→Bool} {l r:List Nat}:(l++r).all p=true↔l.all p=true∧r.all p=true:=by simp
section
variable {P:Program}
theorem eWeights {X:Type} {e:TypeId}:∀ {xs:List (DataW X)},(DataW.weightsAll P e xs).all (·≤reachBytes)=true→∀ x∈xs,(x.weights P e).all (·≤reachBytes)=true
 | [],_,_,h=>by cases h
 | y ::ys,h,x,hx=>by
  rw [DataW.weightsAll,eAllApp] at h
  rcases List.mem_cons.1 hx with rfl|hx
  ·exact h.1
  ·exact eWeights h.2 x hx
theorem ope_int {t:TypeId} {k:IntKind} (hu:P.underlying t=some (.int k)):OpE P (.int k) t:=by
 intro X enc w base fuel held cs x ps h hw
 cases fuel with
 | zero=>cases h
 | succ fuel =>
  unfold DataW.trod at h
  rw [hu] at h
  split at h<;>first|(cases h;done)|skip
  all_goals first|(rename_i h1;cases h1)|skip
  all_goals simp_all
  obtain ⟨⟨rfl,hwf⟩,_⟩:=h
  refine ⟨_,hwf,rfl,fun j p v hp hv=>?_⟩
  cases j with
  | zero=>simp [cellsOf] at hp hv;subst hp;subst hv;exact ⟨.int _ _,rfl⟩
  | succ j=>simp at hv
theorem ope_bool {t:TypeId} (hu:P.underlying t=some .bool):OpE P .bool t:=by
 intro X enc w base fuel held cs x ps h hw
 cases fuel with
 | zero=>cases h
 | succ fuel =>
  unfold DataW.trod at h
  rw [hu] at h
  split at h<;>simp_all
  rename_i b
  have hc:CellsV w .bool b [.bool b]:=⟨rfl,fun j p v hp hv=>by
   cases j with
   | zero=>simp [cellsOf] at hp hv;subst hp;subst hv;exact ⟨.bool _,rfl⟩
   | succ j=>simp at hv⟩
  cases b
  ·exact .inl ⟨trivial,hc⟩
  ·exact .inr ⟨trivial,hc⟩
theorem ope_str {t:TypeId} (hu:P.underlying t=some .string):OpE P .str t:=by
 intro X enc w base fuel held cs x ps h hw
 cases fuel with
 | zero=>cases h
 | succ fuel =>
  unfold DataW.trod at h
  rw [hu] at h
  split at h<;>simp_all
  obtain ⟨_,rfl,_⟩:=h
  rename_i s _ _
  refine ⟨s,?_,rfl,fun j p v hp hv=>?_⟩
  ·simp [DataW.weights,reachBytes] at hw
   exact hw
  ·cases j with
   | zero=>simp [cellsOf] at hp hv;subst hp;subst hv;exact ⟨.str _,rfl⟩
   | succ j=>simp at hv
theorem ope_slice {t e:TypeId} {te:Ty} (hu:P.underlying t=some (.slice e)) (he:OpE P te e) (hsz:P.cellsOf e=te.size) (h0:0<te.size) (hB:0<P.bytesOf e):OpE P (.slice te) t:=by
 intro X enc w base fuel held cs x ps h hw
 cases fuel with
 | zero=>cases h
 | succ fuel =>
  unfold DataW.trod at h
  rw [hu] at h
  split at h
  case h_7 =>
   refine ⟨[],⟨by simp,by simp⟩,rfl,fun j p v hp hv=>?_⟩
   cases j with
   | zero=>simp [cellsOf] at hp hv;subst hp;subst hv;exact ⟨.lst te [] none 0 (fun _ _=>undef) (Nat.le_refl _) (fun h=>absurd rfl h) (fun _ _ h=>by cases h) (fun ad i x j p _ h=>by simp at h) (fun i x j p h=>by simp at h),rfl⟩
   | succ j=>simp at hv
  case h_8 e2 a len cap he2 =>
   obtain rfl:e=e2:=by cases he2;rfl
   simp only [if_true] at h
   split at h
   case isFalse=>cases h
   case isTrue hb =>
    cases h1:(List.range len).mapM fun i=>(w.cells? base (a.add (i * P.cellsOf e)) (P.cellsOf e)).bind (DataW.trod enc P w base (fun _=>true) held fuel e) with
    | none=>rw [h1] at h;cases h
    | some elems =>
     rw [h1] at h
     simp only [Option.bind_some] at h
     cases h2:(List.range (cap - len)).mapM fun j=>(w.cells? base (a.add ((len+j) * P.cellsOf e)) (P.cellsOf e)).bind (DataW.trod enc P w base (fun _=>true) held fuel e) with
     | none=>rw [h2] at h;cases h
     | some rest =>
      rw [h2] at h
      simp only [Option.map_some,Option.some.injEq,Prod.mk.injEq] at h
      obtain ⟨rfl,_⟩:=h
      rw [DataW.weights,hu] at hw
      simp only [List.all_cons,List.all_append,Bool.and_eq_true,List.length_map] at hw
      obtain ⟨hw0,hw1,_⟩:=hw
      obtain ⟨l1,g1⟩:=eMapM_get h1
      have l1':elems.length=len:=by simpa using l1
      obtain ⟨ys,hyl,hys⟩:=eChoose (fun i (y:El te)=>∃ c,CellsV w te y c∧(∀ j u,c[j]?=some u→w.cell? ((a.add (i * te.size)).add j)=some u)∧okE te y) len (fun i hi=>by
       obtain ⟨b,hb1,hb2⟩:=g1 i i (by simp [hi])
       cases hc:w.cells? base (a.add (i * P.cellsOf e)) (P.cellsOf e) with
       | none=>rw [hc] at hb2;cases hb2
       | some c =>
        rw [hc] at hb2
        simp only [Option.bind_some] at hb2
        obtain ⟨c1,c2⟩:=eCells hc
        obtain ⟨y,hy,hok⟩:=he _ enc w base fuel held c b.1 b.2 (by rw [hb2]) (eWeights (by simpa using hw1) b.1 (List.mem_map.2 ⟨b,List.mem_of_getElem? hb1,rfl⟩))
        exact ⟨y,c,hok,fun j u hu=>by rw [← hsz];exact c2 j u hu,hy⟩)
      subst hyl
      have hadd:∀ (a:Addr) (i j:Nat) (u:Value),w.cell? ((a.add i).add j)=some u→w.cell? ⟨a.block,a.off+i+j,none⟩=some u∧a.block<w.heap.size∧(i=0→j=0→a.spot=none):=by
       intro a i j u h
       obtain ⟨s1,s2⟩:=eCell h
       obtain ⟨blk,off,sp⟩:=a
       unfold Addr.add at *
       by_cases hi:i=0<;>by_cases hj:j=0<;>simp_all
      refine ⟨ys,⟨?_,?_⟩,rfl,fun j p v hp hv=>?_⟩
      ·have hw0:(elems.length+rest.length) * P.bytesOf e≤140737488351232:=of_decide_eq_true hw0
       have h3:(elems.length+rest.length) * 1≤(elems.length+rest.length) * P.bytesOf e:=Nat.mul_le_mul_left _ hB
       omega
      ·intro y hy
       obtain ⟨i,hi⟩:=List.getElem?_of_mem hy
       obtain ⟨_,_,_,h⟩:=hys i y hi
       exact h
      ·cases j with
       | succ j=>simp at hv
       | zero =>
        simp [cellsOf] at hp hv
        subst hp;subst hv
        refine ⟨.lst te ys (some a) cap (fun i j=>(w.cell? ⟨a.block,a.off+i * te.size+j,none⟩).getD undef) hb.2.1 (fun _=>⟨a,rfl⟩) (fun hne ad e=>?_) (fun ad i x j p e hx hp=>?_) (fun i x j p hx hp=>?_),rfl⟩
        ·cases e
         cases ys with
         | nil=>exact absurd rfl hne
         | cons y ys =>
          obtain ⟨c,⟨c1,_⟩,c3,_⟩:=hys 0 y rfl
          have:0<c.length:=by omega
          exact (hadd _ _ _ _ (c3 0 _ (List.getElem?_eq_getElem this))).2.2 (by simp) rfl
        ·cases e
         obtain ⟨c,⟨c1,c2⟩,c3,_⟩:=hys i x hx
         have hj:j<c.length:=by rw [c1,← cellsOf_size te x];exact (List.getElem?_eq_some_iff.1 hp).1
         obtain ⟨q1,q2,_⟩:=hadd _ _ _ _ (c3 j _ (List.getElem?_eq_getElem hj))
         exact ⟨q2,by rw [q1];rfl⟩
        ·obtain ⟨c,⟨c1,c2⟩,c3,_⟩:=hys i x hx
         have hj:j<c.length:=by rw [c1,← cellsOf_size te x];exact (List.getElem?_eq_some_iff.1 hp).1
         obtain ⟨q1,q2,_⟩:=hadd _ _ _ _ (c3 j _ (List.getElem?_eq_getElem hj))
         rw [q1]
         exact (c2 j p _ hp (List.getElem?_eq_getElem hj)).1
  all_goals first|(cases h;done)|(rename_i h1;cases h1;done)|simp_all
theorem ope_fields (tf:TypeId→Ty):∀ (fs:List Field) (o:Nat),rowOk P fs o=true→(∀ f∈fs,OpE P (tf f.type) f.type∧P.cellsOf f.type=(tf f.type).size) →
  ∀ (X:Type) (enc:TypeId×Value→X) (w:World) (base fuel:Nat) (held:Bool) (cs:List Value) (xs:List (DataW X×List MemPlace)),cs.length=o+(fs.foldr (fun f r=>Ty.pair (tf f.type) r) .unit).size →
   (fs.mapM fun f=>DataW.trod enc P w base (fun _=>true) held fuel f.type ((cs.drop f.offset).take (P.cellsOf f.type)))=some xs →
   (DataW.weightsEach P (fs.map (·.type)) (xs.map (·.1))).all (·≤reachBytes)=true→∃ y:El (fs.foldr (fun f r=>Ty.pair (tf f.type) r) .unit),okE _ y∧CellsV w _ y (cs.drop o)
 | [],o,_,_,X,enc,w,base,fuel,held,cs,xs,hl,h,hw=>by
  refine ⟨(),trivial,?_,fun j p v hp hv=>?_⟩
  ·simpa [Ty.size] using by simp [Ty.size] at hl;omega
  ·simp [cellsOf] at hp
 | f ::fs,o,hro,hf,X,enc,w,base,fuel,held,cs,xs,hl,h,hw=>by
  simp only [rowOk,Bool.and_eq_true] at hro
  obtain ⟨hof,hro⟩:=hro
  have hof:=Nat.eq_of_beq_eq_true hof
  obtain ⟨hf1,hf2⟩:=hf f (List.mem_cons_self ..)
  simp only [List.foldr_cons,Ty.size] at hl
  rw [List.mapM_cons] at h
  cases h1:DataW.trod enc P w base (fun _=>true) held fuel f.type ((cs.drop f.offset).take (P.cellsOf f.type)) with
  | none=>rw [h1] at h;simp at h
  | some b =>
   cases h2:fs.mapM fun f=>DataW.trod enc P w base (fun _=>true) held fuel f.type ((cs.drop f.offset).take (P.cellsOf f.type)) with
   | none=>rw [h1,h2] at h;simp at h
   | some bs =>
    rw [h1,h2] at h
    simp at h
    subst h
    simp only [List.map_cons,DataW.weightsEach,List.all_append,Bool.and_eq_true] at hw
    rw [hof,hf2] at h1
    obtain ⟨y,hy,hyc⟩:=hf1 _ enc w base fuel held _ b.1 b.2 h1 hw.1
    rw [hf2] at hro
    obtain ⟨z,hz,hzc⟩:=ope_fields tf fs (o+(tf f.type).size) hro (fun g hg=>hf g (List.mem_cons_of_mem _ hg)) _ enc w base fuel held cs bs (by omega) h2 hw.2
    refine ⟨(y,z),⟨hy,hz⟩,?_,fun j p v hp hv=>?_⟩
    ·simp only [List.foldr_cons,Ty.size,List.length_drop];omega
    ·have hcl:=cellsOf_size (tf f.type) y
     simp only [List.foldr_cons,cellsOf] at hp
     rw [List.getElem?_append] at hp
     rw [List.getElem?_drop] at hv
     split at hp
     ·rename_i hj
      exact hyc.2 j p v hp (by rw [List.getElem?_take,if_pos (by omega),List.getElem?_drop];exact hv)
     ·rename_i hj
      refine hzc.2 (j - (cellsOf (tf f.type) y).length) p v hp ?_
      rw [List.getElem?_drop,← hv]
      congr 1
      omega
theorem ope_struct {t:TypeId} {fs:Array Field} {tf:TypeId→Ty} (hu:P.underlying t=some (.struct fs)) (hro:rowOk P fs.toList 0=true) (hf:∀ f∈fs.toList,OpE P (tf f.type) f.type∧P.cellsOf f.type=(tf f.type).size)
  (hsz:P.cellsOf t=(fs.toList.foldr (fun f r=>Ty.pair (tf f.type) r) .unit).size):OpE P (fs.toList.foldr (fun f r=>Ty.pair (tf f.type) r) .unit) t:=by
 intro X enc w base fuel held cs x ps h hw
 cases fuel with
 | zero=>cases h
 | succ fuel =>
  unfold DataW.trod at h
  rw [hu] at h
  simp only at h
  split at h
  case isFalse=>cases h
  case isTrue hl =>
   cases h1:fs.toList.mapM fun f=>DataW.trod enc P w base (fun _=>true) held fuel f.type ((cs.drop f.offset).take (P.cellsOf f.type)) with
   | none=>rw [h1] at h;cases h
   | some xs =>
    rw [h1] at h
    simp only [Option.map_some,Option.some.injEq,Prod.mk.injEq] at h
    obtain ⟨rfl,_⟩:=h
    rw [DataW.weights,hu] at hw
    have:=ope_fields tf fs.toList 0 hro hf _ enc w base fuel held cs xs (by rw [hl,hsz];omega) h1 hw
    simpa using this
theorem ope:∀ (n:Nat) (t:TypeId),tyGood P n t=true→OpE P (tyOf P n t) t
 | 0,t,h=>by cases h
 | n+1,t,h=>by
  have IH:∀ u,tyGood P n u=true→OpE P (tyOf P n u) u:=fun u hu=>ope n u hu
  unfold tyGood at h
  unfold tyOf
  split at h<;>rename_i hu<;>simp only [hu]
  ·exact ope_bool hu
  ·exact ope_int hu
  ·exact ope_str hu
  ·simp only [Bool.and_eq_true] at h
   exact ope_slice hu (IH _ h.2) (Nat.eq_of_beq_eq_true h.1.1.1) (Nat.le_of_ble_eq_true h.1.1.2) (Nat.le_of_ble_eq_true h.1.2)
  ·simp only [Bool.and_eq_true] at h
   have hsz:=Nat.eq_of_beq_eq_true h.1.2
   unfold tyOf at hsz
   simp only [hu] at hsz
   refine ope_struct hu h.1.1 (fun f hf=>?_) hsz
   have:=List.all_eq_true.1 h.2 f hf
   simp only [Bool.and_eq_true] at this
   exact ⟨IH _ this.2,Nat.eq_of_beq_eq_true this.1⟩
  ·cases h
end
end Go.Proofs.YtdcphpbimeoioaaGreatDoorE
end
section
set_option linter.unusedSectionVars false
namespace Go.Proofs.YtdcphpbimeoioaaGreatDoorE
open Go Go.ChangeShapes Go.WideShapes Go.ChangeAt Go.RowKit
set_option linter.unusedVariables false
set_option linter.unusedSimpArgs false
variable [Dm]
def okArgs:(tys:List Ty)→SgEl (tys.map Sg.tree)→Prop
 | [],_=>True
 | t ::r,x=>okE t x.1∧okArgs r x.2
section
variable {P:Program}
theorem mainHeap_trees:∀ (tys:List Ty) (x:SgEl (tys.map Sg.tree)) (e:Nat),mainHeap (tys.map Sg.tree) x e=[]
 | [],_,_=>rfl
 | t ::r,x,e=>mainHeap_trees r x.2 e
theorem extraHeap_trees:∀ (tys:List Ty) (x:SgEl (tys.map Sg.tree)),extraHeap (tys.map Sg.tree) x=[]
 | [],_=>rfl
 | t ::r,x=>extraHeap_trees r x.2
theorem outHeap_trees:∀ (tys:List Ty) (x:SgEl (tys.map Sg.tree)) (o:OutEl (tys.map Sg.tree)),outHeap (tys.map Sg.tree) x o=[]
 | [],_,_=>rfl
 | t ::r,x,o=>outHeap_trees r x.2 o.2
theorem heap_trees (tys:List Ty) (x:SgEl (tys.map Sg.tree)):heapOf (tys.map Sg.tree) x=[]:=by
 unfold heapOf;rw [mainHeap_trees,extraHeap_trees];rfl
theorem rel0 {w:World} (hg:gHolds w):Rel S0 (F0 w) w [] :=
 ⟨fun b=>by simp [hget,SlotOk,S0],fun b b' k h=>by simp [S0,blkOf] at h,fun k h=>h,gHolds_lt hg,hg⟩
theorem val_top {w:World} {t:TypeId} {n:Nat} (hg:tyGood P n t=true) {r:Reach} {b0:Nat} {v:Value} (hv:Value.okWide P w r b0 t v) {y:El (tyOf P n t)} (hy:CellsV w (tyOf P n t) y v.cells.toList):Val S0 (F0 w) w (valPV (tyOf P n t) y) v:=by
 cases n with
 | zero=>cases hg
 | succ n =>
  have one:∀ (hvc:v.cells=#[v]) {ty:Ty} {y:El ty},cellsOf ty y=[valPV ty y]→(∀ (j:Nat) (p:PV) (u:Value),(cellsOf ty y)[j]?=some p→v.cells.toList[j]?=some u→Val S0 (F0 w) w p u∧u.oneCell=true)→Val S0 (F0 w) w (valPV ty y) v:=by
   intro hvc ty y he h
   exact (h 0 _ v (by rw [he];rfl) (by rw [hvc];rfl)).1
  unfold tyGood at hg
  split at hg<;>rename_i hu
  ·have e:tyOf P (n+1) t = .bool:=by rw [tyOf];simp only [hu]
   revert y;rw [e];intro y hy
   obtain ⟨b,rfl⟩:∃ b,v = .bool b:=by
    simp only [Value.okWide,hu,Cell.okWide] at hv
    cases v<;>simp_all [Cell.ok]
   exact one rfl rfl hy.2
  ·rename_i k
   have e:tyOf P (n+1) t = .int k:=by rw [tyOf];simp only [hu]
   revert y;rw [e];intro y hy
   obtain ⟨k',m,rfl⟩:∃ k' m,v = .int k' m:=by
    simp only [Value.okWide,hu,Cell.okWide] at hv
    cases v<;>simp_all [Cell.ok]
   exact one rfl rfl hy.2
  ·have e:tyOf P (n+1) t = .str:=by rw [tyOf];simp only [hu]
   revert y;rw [e];intro y hy
   obtain ⟨s,rfl⟩:=okWide_string hu hv
   exact one rfl rfl hy.2
  ·rename_i el
   have e:tyOf P (n+1) t = .slice (tyOf P n el):=by rw [tyOf];simp only [hu]
   revert y;rw [e];intro y hy
   obtain ⟨a,len,cap,rfl⟩:=okWide_slice hu hv
   exact one rfl rfl hy.2
  ·rename_i fs
   obtain ⟨cs,rfl,hsz⟩:=okWide_struct hu hv
   have e:tyOf P (n+1) t=fs.toList.foldr (fun f r=>Ty.pair (tyOf P n f.type) r) .unit:=by rw [tyOf];simp only [hu]
   revert y;rw [e]
   have agg:∀ (ty:Ty) (y:El ty),valPV ty y = .agg (cellsOf ty y)→CellsV w ty y cs.toList→Val S0 (F0 w) w (valPV ty y) (.agg cs):=by
    intro ty y he ⟨c1,c2⟩
    rw [he]
    have hl:cs.size=(cellsOf ty y).length:=by rw [cellsOf_size];simpa using c1
    refine .agg _ cs hl (fun i p u hp hu=>(c2 i p u hp (by simpa using hu)).1) (fun i u hu=>?_)
    have hi:i<(cellsOf ty y).length:=by rw [← hl];exact (Array.getElem?_eq_some_iff.1 hu).1
    exact (c2 i _ u (List.getElem?_eq_getElem hi) (by simpa using hu)).2
   intro y hy
   have ha:∀ (l:List Field) (y:El (l.foldr (fun f r=>Ty.pair (tyOf P n f.type) r) .unit)),valPV _ y = .agg (cellsOf _ y):=by intro l y;cases l<;>rfl
   exact agg _ y (ha _ y) hy
  ·cases hg
theorem args_open {X:Type} {enc:TypeId×Value→X} {w:World} {r:Reach} {b0 n:Nat}:∀ (ts:List TypeId) (vs:List Value) (ds:List (DataW X)) (ps:List MemPlace),ts.all (tyGood P n)=true →
  DataW.TrodAll enc P w 0 (fun _=>true) true ts vs ds ps→(∀ (j:Nat) (t:TypeId) (v:Value),ts[j]?=some t→vs[j]?=some v→Value.okWide P w r b0 t v) →
  (∀ (j:Nat) (t:TypeId) (d:DataW X),ts[j]?=some t→ds[j]?=some d→(d.weights P t).all (·≤reachBytes)=true) →
  ∃ x:SgEl ((ts.map (tyOf P n)).map Sg.tree),okArgs (ts.map (tyOf P n)) x∧vs.length=(argsOf ((ts.map (tyOf P n)).map Sg.tree) x 0).length∧∀ (i:Nat) (p:PV) (v:Value),(argsOf ((ts.map (tyOf P n)).map Sg.tree) x 0)[i]?=some p→vs[i]?=some v→Val S0 (F0 w) w p v
 | [],vs,ds,ps,_,h,_,_=>by
  cases vs<;>cases ds<;>simp [DataW.TrodAll] at h
  exact ⟨(),trivial,rfl,fun i p v hp=>by have hp:([]:List PV)[i]?=some p:=hp;simp at hp⟩
 | t ::ts,vs,ds,ps,hg,h,hv,hw=>by
  obtain ⟨v,vs',d,ds',p,q,rfl,rfl,_,h1,h2⟩:=trodAll_cons h
  simp only [List.all_cons,Bool.and_eq_true] at hg
  obtain ⟨fuel,hf⟩:=h1
  obtain ⟨y,hy,hc⟩:=ope n t hg.1 _ enc w 0 fuel true _ d p hf (hw 0 t d rfl rfl)
  obtain ⟨x,hx,hl,hxx⟩:=args_open (r:=r) (b0:=b0) ts vs' ds' q hg.2 h2 (fun j t v a b=>hv (j+1) t v (by simpa using a) (by simpa using b)) (fun j t d a b=>hw (j+1) t d (by simpa using a) (by simpa using b))
  refine ⟨(y,x),⟨hy,hx⟩,by show vs'.length+1=_;rw [hl];rfl,fun i p u hp hu=>?_⟩
  have hp:(valPV (tyOf P n t) y ::argsOf ((ts.map (tyOf P n)).map Sg.tree) x 0)[i]?=some p:=hp
  cases i with
  | zero =>
   simp at hp hu
   subst hp;subst hu
   exact val_top hg.1 (hv 0 t v rfl rfl) hc
  | succ i=>exact hxx i p u (by simpa using hp) (by simpa using hu)
theorem weights_each {X:Type}:∀ {ts:List TypeId} {ds:List (DataW X)} {us:List TypeId} {gs:List (DataW X)},ds.length=ts.length→(DataW.weightsEach P (ts++us) (ds++gs)).all (·≤reachBytes)=true→∀ (j:Nat) (t:TypeId) (d:DataW X),ts[j]?=some t→ds[j]?=some d→(d.weights P t).all (·≤reachBytes)=true
 | [],_,_,_,_,_,j,t,d,ht,_=>by simp at ht
 | _ ::_,[],_,_,hl,_,_,_,_,_,_=>by simp at hl
 | t0 ::ts,d0 ::ds,us,gs,hl,h,0,t,d,ht,hd=>by
  simp at ht hd
  subst ht hd
  simp only [List.cons_append,DataW.weightsEach] at h
  rw [eAllApp] at h
  exact h.1
 | t0 ::ts,d0 ::ds,us,gs,hl,h,j+1,t,d,ht,hd=>by
  simp only [List.cons_append,DataW.weightsEach] at h
  rw [eAllApp] at h
  exact weights_each (by simpa using hl) h.2 j t d (by simpa using ht) (by simpa using hd)
theorem trodAll_len {X:Type} {enc:TypeId×Value→X} {w:World} {base:Nat} {sp:Nat→Bool} {held:Bool}:∀ {ts:List TypeId} {vs:List Value} {ds:List (DataW X)} {ps:List MemPlace},DataW.TrodAll enc P w base sp held ts vs ds ps→vs.length=ts.length∧ds.length=ts.length
 | [],vs,ds,ps,h=>by cases vs<;>cases ds<;>simp [DataW.TrodAll] at h;exact ⟨rfl,rfl⟩
 | t ::ts,vs,ds,ps,h=>by
  obtain ⟨v,vs',d,ds',p,q,rfl,rfl,_,_,h2⟩:=trodAll_cons h
  obtain ⟨e1,e2⟩:=trodAll_len h2
  exact ⟨by simp [e1],by simp [e2]⟩
theorem trodAll_below {X:Type} {enc:TypeId×Value→X} {w w':World} (hl:laidOutB P=true) (bel:Below w.heap.size w w'):∀ {ts:List TypeId} {vs:List Value} {ds:List (DataW X)} {ps:List MemPlace},ts.all (fun t=>P.readableRec t && decide (t<P.types.size))=true →
  DataW.TrodAll enc P w 0 (fun _=>true) true ts vs ds ps→DataW.TrodAll enc P w' 0 (fun b=>decide (b<w.heap.size)) true ts vs ds ps
 | [],vs,ds,ps,_,h=>by cases vs<;>cases ds<;>simp [DataW.TrodAll] at h;subst h;exact trodAll_mk0
 | t ::ts,vs,ds,ps,hg,h=>by
  obtain ⟨v,vs',d,ds',p,q,rfl,rfl,rfl,h1,h2⟩:=trodAll_cons h
  simp only [List.all_cons,Bool.and_eq_true,decide_eq_true_eq] at hg
  have hlt:∀ x∈p,x.block<w.heap.size:=by obtain ⟨m,hm⟩:=h1;exact DataW.trod_lt m _ _ _ hm
  exact trodAll_cons_mk (Below.trod hl hg.1.1 hg.1.2 h1 bel hlt) (trodAll_below hl bel hg.2 h2)
theorem law_calls {f:FuncId} {tys:List Ty} {F:SgEl (tys.map Sg.tree)→Option (RtEl [.tree .bool]×OutEl (tys.map Sg.tree))} (hE:EntOk P ⟨f,tys.map Sg.tree,[.tree .bool],F⟩) {x:SgEl (tys.map Sg.tree)} {o:OutEl (tys.map Sg.tree)} (hx:F x=some ((true,()),o))
  {w:World} (hg:gHolds w) {vs:Array Value} (hl:vs.toList.length=(argsOf (tys.map Sg.tree) x 0).length) (hv:∀ (i:Nat) (p:PV) (v:Value),(argsOf (tys.map Sg.tree) x 0)[i]?=some p→vs.toList[i]?=some v→Val S0 (F0 w) w p v) :
  Calls P f vs w fun e w'=>e = .returned (.bool true)∧Below w.heap.size w w':=by
 obtain ⟨_,hc⟩:=hE x _ hx
 have:=hc S0 (F0 w) w vs (by rw [heap_trees];exact rel0 hg) ⟨by simpa using hl,fun i p v a b=>hv i p v a (by simpa using b)⟩
 refine this.mono ?_
 rintro e w' ⟨v,S',F',rfl,hr,hval,hA⟩
 have e1:(encOut (tys.map Sg.tree) [.tree .bool] x ((true,()),o)).1 = .bool true:=rfl
 simp only at hval
 rw [e1] at hval
 refine ⟨by rw [val_bool hval],hA.st.1,hA.st.2.1,hA.st.2.2.1,hA.sz,fun k hk=>hA.same k hk ?_⟩
 rw [heap_trees]
 rintro ⟨b,y,hy,_⟩
 simp [hget] at hy
end
end Go.Proofs.YtdcphpbimeoioaaGreatDoorE
end
