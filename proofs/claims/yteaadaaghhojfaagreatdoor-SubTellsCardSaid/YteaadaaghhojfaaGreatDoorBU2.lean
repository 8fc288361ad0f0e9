/- A part of the proof: GA, GB, GC, GD, GX. No condition. -/
import Derived.Test.YteaadaaghhojfaaGreatDoorBU1
import Derived.WalkKit
import Derived.ProofKit
import Derived.OpenShut
import Derived.ShutString
import Derived.ChangeOld
import Derived.Below
import Derived.SizedLaws
import Derived.Carry
import Derived.Test.YteaadaaghhojfaaGreatDoorProg
section
namespace Go.Proofs.YteaadaaghhojfaaGreatDoorE
open Go Go.ChangeShapes Go.WideShapes
set_option linter.unusedVariables false
set_option linter.unusedSimpArgs false
/-- data that is not greater than a machine may hold -/
def okE : (t : Ty) → El t → Prop
  | .int k, n => (Lit.int k n).wf = true
  | .bool, _ => True
  | .str, s => s.size ≤ 140737488351232
  | .unit, _ => True
  | .none, _ => True
  | .slice t, xs => xs.length ≤ 140737488351232 ∧ ∀ x ∈ xs, okE t x
  | .pair a b, x => okE a x.1 ∧ okE b x.2
section
variable (P : Program)
def rowOk : List Field → Nat → Bool
  | [], _ => true
  | f :: r, n => Nat.beq f.offset n && rowOk r (n + P.cellsOf f.type)
def tyGood : Nat → TypeId → Bool
  | 0, _ => false
  | n + 1, t => match P.underlying t with
    | some .bool => true
    | some (.int _) => true
    | some .string => true
    | some (.slice e) => Nat.beq (P.cellsOf e) (tyOf P n e).size && Nat.blt 0 (tyOf P n e).size && Nat.blt 0 (P.bytesOf e) && tyGood n e
    | some (.struct fs) => rowOk P fs.toList 0 && Nat.beq (P.cellsOf t) (tyOf P (n + 1) t).size && fs.toList.all fun f => Nat.beq (P.cellsOf f.type) (tyOf P n f.type).size && tyGood n f.type
    | _ => false
end
def S0 : Nat → SL := fun _ => .unused
def F0 (w : World) : Nat → Prop := fun k => k < w.heap.size
def CellsV (w : World) (t : Ty) (y : El t) (cs : List Value) : Prop :=
  cs.length = t.size ∧ ∀ (j : Nat) (p : PV) (v : Value), (cellsOf t y)[j]? = some p → cs[j]? = some v → Val S0 (F0 w) w p v ∧ v.oneCell = true
def OpE (P : Program) (ty : Ty) (t : TypeId) : Prop :=
  ∀ (X : Type) (enc : TypeId × Value → X) (w : World) (base fuel : Nat) (held : Bool) (cs : List Value) (x : DataW X) (ps : List MemPlace),
    DataW.trod enc P w base (fun _ => true) held fuel t cs = some (x, ps) → (x.weights P t).all (· ≤ reachBytes) = true → ∃ y : El ty, okE ty y ∧ CellsV w ty y cs
theorem eMapM_get {α β : Type} {f : α → Option β} : ∀ {l : List α} {ys : List β}, l.mapM f = some ys → ys.length = l.length ∧ ∀ (i : Nat) (a : α), l[i]? = some a → ∃ b, ys[i]? = some b ∧ f a = some b
  | [], ys, h => by
    simp at h; subst h
    exact ⟨rfl, fun i a hi => by simp at hi⟩
  | x :: l, ys, h => by
    rw [List.mapM_cons] at h
    cases hx : f x with
    | none => rw [hx] at h; simp at h
    | some b =>
      cases hl : l.mapM f with
      | none => rw [hx, hl] at h; simp at h
      | some bs =>
        rw [hx, hl] at h
        simp at h
        subst h
        obtain ⟨h1, h2⟩ := eMapM_get hl
        refine ⟨by simp [h1], fun i a hi => ?_⟩
        cases i with
        | zero => simp at hi; subst hi; exact ⟨b, rfl, hx⟩
        | succ i => simp at hi; obtain ⟨c, hc, hf⟩ := h2 i a hi; exact ⟨c, by simpa using hc, hf⟩
theorem eChoose {α : Type} (Q : Nat → α → Prop) : ∀ n, (∀ i, i < n → ∃ y, Q i y) → ∃ ys : List α, ys.length = n ∧ ∀ i y, ys[i]? = some y → Q i y
  | 0, _ => ⟨[], rfl, fun i y h => by simp at h⟩
  | n + 1, h => by
    obtain ⟨ys, hl, hq⟩ := eChoose Q n (fun i hi => h i (by omega))
    obtain ⟨y, hy⟩ := h n (by omega)
    refine ⟨ys ++ [y], by simp [hl], fun i z hz => ?_⟩
    by_cases hi : i < n
    · rw [List.getElem?_append_left (by omega)] at hz; exact hq i z hz
    · rw [List.getElem?_append_right (by omega)] at hz
      have : i = n := by
        have := (List.getElem?_eq_some_iff.1 hz).1
        simp at this; omega
      subst this
      simp [hl] at hz; subst hz; exact hy
theorem eCells {w : World} {base : Nat} {a : Addr} {n : Nat} {cs : List Value} (h : w.cells? base a n = some cs) : cs.length = n ∧ ∀ i u, cs[i]? = some u → w.cell? (a.add i) = some u := by
  unfold World.cells? at h
  split at h
  · obtain ⟨h1, h2⟩ := eMapM_get h
    refine ⟨by simpa using h1, fun i u hu => ?_⟩
    have hi : i < n := by
      have := (List.getElem?_eq_some_iff.1 hu).1
      simp at h1; omega
    obtain ⟨b, hb, hc⟩ := h2 i i (by simp [hi])
    rw [hu] at hb; cases hb; exact hc
  · cases h
theorem eCell {w : World} {a : Addr} {u : Value} (h : w.cell? a = some u) : a.spot = none ∧ a.block < w.heap.size := by
  unfold World.cell? at h
  split at h
  · rename_i c t f he
    split at h
    · cases h
    · rename_i hs
      exact ⟨by cases hsp : a.spot <;> simp_all, (Array.getElem?_eq_some_iff.1 he).1⟩
  · cases h
theorem eAllApp {p : Nat → Bool} {l r : List Nat} : (l ++ r).all p = true ↔ l.all p = true ∧ r.all p = true := by simp
section
variable {P : Program}
theorem eWeights {X : Type} {e : TypeId} : ∀ {xs : List (DataW X)}, (DataW.weightsAll P e xs).all (· ≤ reachBytes) = true → ∀ x ∈ xs, (x.weights P e).all (· ≤ reachBytes) = true
  | [], _, _, h => by cases h
  | y :: ys, h, x, hx => by
    rw [DataW.weightsAll, eAllApp] at h
    rcases List.mem_cons.1 hx with rfl | hx
    · exact h.1
    · exact eWeights h.2 x hx
theorem ope_int {t : TypeId} {k : IntKind} (hu : P.underlying t = some (.int k)) : OpE P (.int k) t := by
  intro X enc w base fuel held cs x ps h hw
  cases fuel with
  | zero => cases h
  | succ fuel =>
    unfold DataW.trod at h
    rw [hu] at h
    split at h <;> first | (cases h; done) | skip
    all_goals first | (rename_i h1; cases h1) | skip
    all_goals simp_all
    obtain ⟨⟨rfl, hwf⟩, _⟩ := h
    refine ⟨_, hwf, rfl, fun j p v hp hv => ?_⟩
    cases j with
    | zero => simp [cellsOf] at hp hv; subst hp; subst hv; exact ⟨.int _ _, rfl⟩
    | succ j => simp at hv
theorem ope_bool {t : TypeId} (hu : P.underlying t = some .bool) : OpE P .bool t := by
  intro X enc w base fuel held cs x ps h hw
  cases fuel with
  | zero => cases h
  | succ fuel =>
    unfold DataW.trod at h
    rw [hu] at h
    split at h <;> simp_all
    rename_i b
    have hc : CellsV w .bool b [.bool b] := ⟨rfl, fun j p v hp hv => by
      cases j with
      | zero => simp [cellsOf] at hp hv; subst hp; subst hv; exact ⟨.bool _, rfl⟩
      | succ j => simp at hv⟩
    cases b
    · exact .inl ⟨trivial, hc⟩
    · exact .inr ⟨trivial, hc⟩
theorem ope_str {t : TypeId} (hu : P.underlying t = some .string) : OpE P .str t := by
  intro X enc w base fuel held cs x ps h hw
  cases fuel with
  | zero => cases h
  | succ fuel =>
    unfold DataW.trod at h
    rw [hu] at h
    split at h <;> simp_all
    obtain ⟨_, rfl, _⟩ := h
    rename_i s _ _
    refine ⟨s, ?_, rfl, fun j p v hp hv => ?_⟩
    · simp [DataW.weights, reachBytes] at hw
      exact hw
    · cases j with
      | zero => simp [cellsOf] at hp hv; subst hp; subst hv; exact ⟨.str _, rfl⟩
      | succ j => simp at hv
theorem ope_slice {t e : TypeId} {te : Ty} (hu : P.underlying t = some (.slice e)) (he : OpE P te e) (hsz : P.cellsOf e = te.size) (h0 : 0 < te.size) (hB : 0 < P.bytesOf e) : OpE P (.slice te) t := by
  intro X enc w base fuel held cs x ps h hw
  cases fuel with
  | zero => cases h
  | succ fuel =>
    unfold DataW.trod at h
    rw [hu] at h
    split at h
    case h_7 =>
      refine ⟨[], ⟨by simp, by simp⟩, rfl, fun j p v hp hv => ?_⟩
      cases j with
      | zero => simp [cellsOf] at hp hv; subst hp; subst hv; exact ⟨.lst te [] none 0 (fun _ _ => undef) (Nat.le_refl _) (fun h => absurd rfl h) (fun _ _ h => by cases h) (fun ad i x j p _ h => by simp at h) (fun i x j p h => by simp at h), rfl⟩
      | succ j => simp at hv
    case h_8 e2 a len cap he2 =>
      obtain rfl : e = e2 := by cases he2; rfl
      simp only [if_true] at h
      split at h
      case isFalse => cases h
      case isTrue hb =>
        cases h1 : (List.range len).mapM fun i => (w.cells? base (a.add (i * P.cellsOf e)) (P.cellsOf e)).bind (DataW.trod enc P w base (fun _ => true) held fuel e) with
        | none => rw [h1] at h; cases h
        | some elems =>
          rw [h1] at h
          simp only [Option.bind_some] at h
          cases h2 : (List.range (cap - len)).mapM fun j => (w.cells? base (a.add ((len + j) * P.cellsOf e)) (P.cellsOf e)).bind (DataW.trod enc P w base (fun _ => true) held fuel e) with
          | none => rw [h2] at h; cases h
          | some rest =>
            rw [h2] at h
            simp only [Option.map_some, Option.some.injEq, Prod.mk.injEq] at h
            obtain ⟨rfl, _⟩ := h
            rw [DataW.weights, hu] at hw
            simp only [List.all_cons, List.all_append, Bool.and_eq_true, List.length_map] at hw
            obtain ⟨hw0, hw1, _⟩ := hw
            obtain ⟨l1, g1⟩ := eMapM_get h1
            have l1' : elems.length = len := by simpa using l1
            obtain ⟨ys, hyl, hys⟩ := eChoose (fun i (y : El te) => ∃ c, CellsV w te y c ∧ (∀ j u, c[j]? = some u → w.cell? ((a.add (i * te.size)).add j) = some u) ∧ okE te y) len (fun i hi => by
              obtain ⟨b, hb1, hb2⟩ := g1 i i (by simp [hi])
              cases hc : w.cells? base (a.add (i * P.cellsOf e)) (P.cellsOf e) with
              | none => rw [hc] at hb2; cases hb2
              | some c =>
                rw [hc] at hb2
                simp only [Option.bind_some] at hb2
                obtain ⟨c1, c2⟩ := eCells hc
                obtain ⟨y, hy, hok⟩ := he _ enc w base fuel held c b.1 b.2 (by rw [hb2]) (eWeights (by simpa using hw1) b.1 (List.mem_map.2 ⟨b, List.mem_of_getElem? hb1, rfl⟩))
                exact ⟨y, c, hok, fun j u hu => by rw [← hsz]; exact c2 j u hu, hy⟩)
            subst hyl
            have hadd : ∀ (a : Addr) (i j : Nat) (u : Value), w.cell? ((a.add i).add j) = some u → w.cell? ⟨a.block, a.off + i + j, none⟩ = some u ∧ a.block < w.heap.size ∧ (i = 0 → j = 0 → a.spot = none) := by
              intro a i j u h
              obtain ⟨s1, s2⟩ := eCell h
              obtain ⟨blk, off, sp⟩ := a
              unfold Addr.add at *
              by_cases hi : i = 0 <;> by_cases hj : j = 0 <;> simp_all
            refine ⟨ys, ⟨?_, ?_⟩, rfl, fun j p v hp hv => ?_⟩
            · have hw0 : (elems.length + rest.length) * P.bytesOf e ≤ 140737488351232 := of_decide_eq_true hw0
              have h3 : (elems.length + rest.length) * 1 ≤ (elems.length + rest.length) * P.bytesOf e := Nat.mul_le_mul_left _ hB
              omega
            · intro y hy
              obtain ⟨i, hi⟩ := List.getElem?_of_mem hy
              obtain ⟨_, _, _, h⟩ := hys i y hi
              exact h
            · cases j with
              | succ j => simp at hv
              | zero =>
                simp [cellsOf] at hp hv
                subst hp; subst hv
                refine ⟨.lst te ys (some a) cap (fun i j => (w.cell? ⟨a.block, a.off + i * te.size + j, none⟩).getD undef) hb.2.1 (fun _ => ⟨a, rfl⟩) (fun hne ad e => ?_) (fun ad i x j p e hx hp => ?_) (fun i x j p hx hp => ?_), rfl⟩
                · cases e
                  cases ys with
                  | nil => exact absurd rfl hne
                  | cons y ys =>
                    obtain ⟨c, ⟨c1, _⟩, c3, _⟩ := hys 0 y rfl
                    have : 0 < c.length := by omega
                    exact (hadd _ _ _ _ (c3 0 _ (List.getElem?_eq_getElem this))).2.2 (by simp) rfl
                · cases e
                  obtain ⟨c, ⟨c1, c2⟩, c3, _⟩ := hys i x hx
                  have hj : j < c.length := by rw [c1, ← cellsOf_size te x]; exact (List.getElem?_eq_some_iff.1 hp).1
                  obtain ⟨q1, q2, _⟩ := hadd _ _ _ _ (c3 j _ (List.getElem?_eq_getElem hj))
                  exact ⟨q2, by rw [q1]; rfl⟩
                · obtain ⟨c, ⟨c1, c2⟩, c3, _⟩ := hys i x hx
                  have hj : j < c.length := by rw [c1, ← cellsOf_size te x]; exact (List.getElem?_eq_some_iff.1 hp).1
                  obtain ⟨q1, q2, _⟩ := hadd _ _ _ _ (c3 j _ (List.getElem?_eq_getElem hj))
                  rw [q1]
                  exact (c2 j p _ hp (List.getElem?_eq_getElem hj)).1
    all_goals first | (cases h; done) | (rename_i h1; cases h1; done) | simp_all
theorem ope_fields (tf : TypeId → Ty) : ∀ (fs : List Field) (o : Nat), rowOk P fs o = true → (∀ f ∈ fs, OpE P (tf f.type) f.type ∧ P.cellsOf f.type = (tf f.type).size) →
    ∀ (X : Type) (enc : TypeId × Value → X) (w : World) (base fuel : Nat) (held : Bool) (cs : List Value) (xs : List (DataW X × List MemPlace)), cs.length = o + (fs.foldr (fun f r => Ty.pair (tf f.type) r) .unit).size →
      (fs.mapM fun f => DataW.trod enc P w base (fun _ => true) held fuel f.type ((cs.drop f.offset).take (P.cellsOf f.type))) = some xs →
      (DataW.weightsEach P (fs.map (·.type)) (xs.map (·.1))).all (· ≤ reachBytes) = true → ∃ y : El (fs.foldr (fun f r => Ty.pair (tf f.type) r) .unit), okE _ y ∧ CellsV w _ y (cs.drop o)
  | [], o, _, _, X, enc, w, base, fuel, held, cs, xs, hl, h, hw => by
    refine ⟨(), trivial, ?_, fun j p v hp hv => ?_⟩
    · simpa [Ty.size] using by simp [Ty.size] at hl; omega
    · simp [cellsOf] at hp
  | f :: fs, o, hro, hf, X, enc, w, base, fuel, held, cs, xs, hl, h, hw => by
    simp only [rowOk, Bool.and_eq_true] at hro
    obtain ⟨hof, hro⟩ := hro
    have hof := Nat.eq_of_beq_eq_true hof
    obtain ⟨hf1, hf2⟩ := hf f (List.mem_cons_self ..)
    simp only [List.foldr_cons, Ty.size] at hl
    rw [List.mapM_cons] at h
    cases h1 : DataW.trod enc P w base (fun _ => true) held fuel f.type ((cs.drop f.offset).take (P.cellsOf f.type)) with
    | none => rw [h1] at h; simp at h
    | some b =>
      cases h2 : fs.mapM fun f => DataW.trod enc P w base (fun _ => true) held fuel f.type ((cs.drop f.offset).take (P.cellsOf f.type)) with
      | none => rw [h1, h2] at h; simp at h
      | some bs =>
        rw [h1, h2] at h
        simp at h
        subst h
        simp only [List.map_cons, DataW.weightsEach, List.all_append, Bool.and_eq_true] at hw
        rw [hof, hf2] at h1
        obtain ⟨y, hy, hyc⟩ := hf1 _ enc w base fuel held _ b.1 b.2 h1 hw.1
        rw [hf2] at hro
        obtain ⟨z, hz, hzc⟩ := ope_fields tf fs (o + (tf f.type).size) hro (fun g hg => hf g (List.mem_cons_of_mem _ hg)) _ enc w base fuel held cs bs (by omega) h2 hw.2
        refine ⟨(y, z), ⟨hy, hz⟩, ?_, fun j p v hp hv => ?_⟩
        · simp only [List.foldr_cons, Ty.size, List.length_drop]; omega
        · have hcl := cellsOf_size (tf f.type) y
          simp only [List.foldr_cons, cellsOf] at hp
          rw [List.getElem?_append] at hp
          rw [List.getElem?_drop] at hv
          split at hp
          · rename_i hj
            exact hyc.2 j p v hp (by rw [List.getElem?_take, if_pos (by omega), List.getElem?_drop]; exact hv)
          · rename_i hj
            refine hzc.2 (j - (cellsOf (tf f.type) y).length) p v hp ?_
            rw [List.getElem?_drop, ← hv]
            congr 1
            omega
theorem ope_struct {t : TypeId} {fs : Array Field} {tf : TypeId → Ty} (hu : P.underlying t = some (.struct fs)) (hro : rowOk P fs.toList 0 = true) (hf : ∀ f ∈ fs.toList, OpE P (tf f.type) f.type ∧ P.cellsOf f.type = (tf f.type).size)
    (hsz : P.cellsOf t = (fs.toList.foldr (fun f r => Ty.pair (tf f.type) r) .unit).size) : OpE P (fs.toList.foldr (fun f r => Ty.pair (tf f.type) r) .unit) t := by
  intro X enc w base fuel held cs x ps h hw
  cases fuel with
  | zero => cases h
  | succ fuel =>
    unfold DataW.trod at h
    rw [hu] at h
    simp only at h
    split at h
    case isFalse => cases h
    case isTrue hl =>
      cases h1 : fs.toList.mapM fun f => DataW.trod enc P w base (fun _ => true) held fuel f.type ((cs.drop f.offset).take (P.cellsOf f.type)) with
      | none => rw [h1] at h; cases h
      | some xs =>
        rw [h1] at h
        simp only [Option.map_some, Option.some.injEq, Prod.mk.injEq] at h
        obtain ⟨rfl, _⟩ := h
        rw [DataW.weights, hu] at hw
        have := ope_fields tf fs.toList 0 hro hf _ enc w base fuel held cs xs (by rw [hl, hsz]; omega) h1 hw
        simpa using this
/-- every type that is read as data -/
theorem ope : ∀ (n : Nat) (t : TypeId), tyGood P n t = true → OpE P (tyOf P n t) t
  | 0, t, h => by cases h
  | n + 1, t, h => by
    have IH : ∀ u, tyGood P n u = true → OpE P (tyOf P n u) u := fun u hu => ope n u hu
    unfold tyGood at h
    unfold tyOf
    split at h <;> rename_i hu <;> simp only [hu]
    · exact ope_bool hu
    · exact ope_int hu
    · exact ope_str hu
    · simp only [Bool.and_eq_true] at h
      exact ope_slice hu (IH _ h.2) (Nat.eq_of_beq_eq_true h.1.1.1) (Nat.le_of_ble_eq_true h.1.1.2) (Nat.le_of_ble_eq_true h.1.2)
    · simp only [Bool.and_eq_true] at h
      have hsz := Nat.eq_of_beq_eq_true h.1.2
      unfold tyOf at hsz
      simp only [hu] at hsz
      refine ope_struct hu h.1.1 (fun f hf => ?_) hsz
      have := List.all_eq_true.1 h.2 f hf
      simp only [Bool.and_eq_true] at this
      exact ⟨IH _ this.2, Nat.eq_of_beq_eq_true this.1⟩
    · cases h
end
end Go.Proofs.YteaadaaghhojfaaGreatDoorE
end
section
namespace Go.Proofs.YteaadaaghhojfaaGreatDoorE
open Go Go.ChangeShapes Go.WideShapes Go.ChangeAt Go.RowKit
set_option linter.unusedVariables false
set_option linter.unusedSimpArgs false
def okArgs : (tys : List Ty) → SgEl (tys.map Sg.tree) → Prop
  | [], _ => True
  | t :: r, x => okE t x.1 ∧ okArgs r x.2
section
variable {P : Program}
theorem mainHeap_trees : ∀ (tys : List Ty) (x : SgEl (tys.map Sg.tree)) (e : Nat), mainHeap (tys.map Sg.tree) x e = []
  | [], _, _ => rfl
  | t :: r, x, e => mainHeap_trees r x.2 e
theorem extraHeap_trees : ∀ (tys : List Ty) (x : SgEl (tys.map Sg.tree)), extraHeap (tys.map Sg.tree) x = []
  | [], _ => rfl
  | t :: r, x => extraHeap_trees r x.2
theorem outHeap_trees : ∀ (tys : List Ty) (x : SgEl (tys.map Sg.tree)) (o : OutEl (tys.map Sg.tree)), outHeap (tys.map Sg.tree) x o = []
  | [], _, _ => rfl
  | t :: r, x, o => outHeap_trees r x.2 o.2
theorem heap_trees (tys : List Ty) (x : SgEl (tys.map Sg.tree)) : heapOf (tys.map Sg.tree) x = [] := by
  unfold heapOf; rw [mainHeap_trees, extraHeap_trees]; rfl
theorem rel0 (w : World) : Rel S0 (F0 w) w [] :=
  ⟨fun b => by simp [hget, SlotOk, S0], fun b b' k h => by simp [S0, blkOf] at h, fun k h => h⟩
/-- an argument's value -/
theorem val_top {w : World} {t : TypeId} {n : Nat} (hg : tyGood P n t = true) {r : Reach} {b0 : Nat} {v : Value} (hv : Value.okWide P w r b0 t v) {y : El (tyOf P n t)} (hy : CellsV w (tyOf P n t) y v.cells.toList) : Val S0 (F0 w) w (valPV (tyOf P n t) y) v := by
  cases n with
  | zero => cases hg
  | succ n =>
    have one : ∀ (hvc : v.cells = #[v]) {ty : Ty} {y : El ty}, cellsOf ty y = [valPV ty y] → (∀ (j : Nat) (p : PV) (u : Value), (cellsOf ty y)[j]? = some p → v.cells.toList[j]? = some u → Val S0 (F0 w) w p u ∧ u.oneCell = true) → Val S0 (F0 w) w (valPV ty y) v := by
      intro hvc ty y he h
      exact (h 0 _ v (by rw [he]; rfl) (by rw [hvc]; rfl)).1
    unfold tyGood at hg
    split at hg <;> rename_i hu
    · have e : tyOf P (n + 1) t = .bool := by rw [tyOf]; simp only [hu]
      revert y; rw [e]; intro y hy
      obtain ⟨b, rfl⟩ : ∃ b, v = .bool b := by
        simp only [Value.okWide, hu, Cell.okWide] at hv
        cases v <;> simp_all [Cell.ok]
      exact one rfl rfl hy.2
    · rename_i k
      have e : tyOf P (n + 1) t = .int k := by rw [tyOf]; simp only [hu]
      revert y; rw [e]; intro y hy
      obtain ⟨k', m, rfl⟩ : ∃ k' m, v = .int k' m := by
        simp only [Value.okWide, hu, Cell.okWide] at hv
        cases v <;> simp_all [Cell.ok]
      exact one rfl rfl hy.2
    · have e : tyOf P (n + 1) t = .str := by rw [tyOf]; simp only [hu]
      revert y; rw [e]; intro y hy
      obtain ⟨s, rfl⟩ := okWide_string hu hv
      exact one rfl rfl hy.2
    · rename_i el
      have e : tyOf P (n + 1) t = .slice (tyOf P n el) := by rw [tyOf]; simp only [hu]
      revert y; rw [e]; intro y hy
      obtain ⟨a, len, cap, rfl⟩ := okWide_slice hu hv
      exact one rfl rfl hy.2
    · rename_i fs
      obtain ⟨cs, rfl, hsz⟩ := okWide_struct hu hv
      have e : tyOf P (n + 1) t = fs.toList.foldr (fun f r => Ty.pair (tyOf P n f.type) r) .unit := by rw [tyOf]; simp only [hu]
      revert y; rw [e]
      have agg : ∀ (ty : Ty) (y : El ty), valPV ty y = .agg (cellsOf ty y) → CellsV w ty y cs.toList → Val S0 (F0 w) w (valPV ty y) (.agg cs) := by
        intro ty y he ⟨c1, c2⟩
        rw [he]
        have hl : cs.size = (cellsOf ty y).length := by rw [cellsOf_size]; simpa using c1
        refine .agg _ cs hl (fun i p u hp hu => (c2 i p u hp (by simpa using hu)).1) (fun i u hu => ?_)
        have hi : i < (cellsOf ty y).length := by rw [← hl]; exact (Array.getElem?_eq_some_iff.1 hu).1
        exact (c2 i _ u (List.getElem?_eq_getElem hi) (by simpa using hu)).2
      intro y hy
      have ha : ∀ (l : List Field) (y : El (l.foldr (fun f r => Ty.pair (tyOf P n f.type) r) .unit)), valPV _ y = .agg (cellsOf _ y) := by intro l y; cases l <;> rfl
      exact agg _ y (ha _ y) hy
    · cases hg
/-- all arguments -/
theorem args_open {X : Type} {enc : TypeId × Value → X} {w : World} {r : Reach} {b0 n : Nat} : ∀ (ts : List TypeId) (vs : List Value) (ds : List (DataW X)) (ps : List MemPlace), ts.all (tyGood P n) = true →
    DataW.TrodAll enc P w 0 (fun _ => true) true ts vs ds ps → (∀ (j : Nat) (t : TypeId) (v : Value), ts[j]? = some t → vs[j]? = some v → Value.okWide P w r b0 t v) →
    (∀ (j : Nat) (t : TypeId) (d : DataW X), ts[j]? = some t → ds[j]? = some d → (d.weights P t).all (· ≤ reachBytes) = true) →
    ∃ x : SgEl ((ts.map (tyOf P n)).map Sg.tree), okArgs (ts.map (tyOf P n)) x ∧ vs.length = (argsOf ((ts.map (tyOf P n)).map Sg.tree) x 0).length ∧ ∀ (i : Nat) (p : PV) (v : Value), (argsOf ((ts.map (tyOf P n)).map Sg.tree) x 0)[i]? = some p → vs[i]? = some v → Val S0 (F0 w) w p v
  | [], vs, ds, ps, _, h, _, _ => by
    cases vs <;> cases ds <;> simp [DataW.TrodAll] at h
    exact ⟨(), trivial, rfl, fun i p v hp => by have hp : ([] : List PV)[i]? = some p := hp; simp at hp⟩
  | t :: ts, vs, ds, ps, hg, h, hv, hw => by
    obtain ⟨v, vs', d, ds', p, q, rfl, rfl, _, h1, h2⟩ := trodAll_cons h
    simp only [List.all_cons, Bool.and_eq_true] at hg
    obtain ⟨fuel, hf⟩ := h1
    obtain ⟨y, hy, hc⟩ := ope n t hg.1 _ enc w 0 fuel true _ d p hf (hw 0 t d rfl rfl)
    obtain ⟨x, hx, hl, hxx⟩ := args_open (r := r) (b0 := b0) ts vs' ds' q hg.2 h2 (fun j t v a b => hv (j + 1) t v (by simpa using a) (by simpa using b)) (fun j t d a b => hw (j + 1) t d (by simpa using a) (by simpa using b))
    refine ⟨(y, x), ⟨hy, hx⟩, by show vs'.length + 1 = _; rw [hl]; rfl, fun i p u hp hu => ?_⟩
    have hp : (valPV (tyOf P n t) y :: argsOf ((ts.map (tyOf P n)).map Sg.tree) x 0)[i]? = some p := hp
    cases i with
    | zero =>
      simp at hp hu
      subst hp; subst hu
      exact val_top hg.1 (hv 0 t v rfl rfl) hc
    | succ i => exact hxx i p u (by simpa using hp) (by simpa using hu)
theorem weights_each {X : Type} : ∀ {ts : List TypeId} {ds : List (DataW X)} {us : List TypeId} {gs : List (DataW X)}, ds.length = ts.length → (DataW.weightsEach P (ts ++ us) (ds ++ gs)).all (· ≤ reachBytes) = true → ∀ (j : Nat) (t : TypeId) (d : DataW X), ts[j]? = some t → ds[j]? = some d → (d.weights P t).all (· ≤ reachBytes) = true
  | [], _, _, _, _, _, j, t, d, ht, _ => by simp at ht
  | _ :: _, [], _, _, hl, _, _, _, _, _, _ => by simp at hl
  | t0 :: ts, d0 :: ds, us, gs, hl, h, 0, t, d, ht, hd => by
    simp at ht hd
    subst ht hd
    simp only [List.cons_append, DataW.weightsEach] at h
    rw [eAllApp] at h
    exact h.1
  | t0 :: ts, d0 :: ds, us, gs, hl, h, j + 1, t, d, ht, hd => by
    simp only [List.cons_append, DataW.weightsEach] at h
    rw [eAllApp] at h
    exact weights_each (by simpa using hl) h.2 j t d (by simpa using ht) (by simpa using hd)
theorem trodAll_len {X : Type} {enc : TypeId × Value → X} {w : World} {base : Nat} {sp : Nat → Bool} {held : Bool} : ∀ {ts : List TypeId} {vs : List Value} {ds : List (DataW X)} {ps : List MemPlace}, DataW.TrodAll enc P w base sp held ts vs ds ps → vs.length = ts.length ∧ ds.length = ts.length
  | [], vs, ds, ps, h => by cases vs <;> cases ds <;> simp [DataW.TrodAll] at h; exact ⟨rfl, rfl⟩
  | t :: ts, vs, ds, ps, h => by
    obtain ⟨v, vs', d, ds', p, q, rfl, rfl, _, _, h2⟩ := trodAll_cons h
    obtain ⟨e1, e2⟩ := trodAll_len h2
    exact ⟨by simp [e1], by simp [e2]⟩
theorem trodAll_below {X : Type} {enc : TypeId × Value → X} {w w' : World} (hl : laidOutB P = true) (bel : Below w.heap.size w w') : ∀ {ts : List TypeId} {vs : List Value} {ds : List (DataW X)} {ps : List MemPlace}, ts.all (fun t => P.readableRec t && decide (t < P.types.size)) = true →
    DataW.TrodAll enc P w 0 (fun _ => true) true ts vs ds ps → DataW.TrodAll enc P w' 0 (fun b => decide (b < w.heap.size)) true ts vs ds ps
  | [], vs, ds, ps, _, h => by cases vs <;> cases ds <;> simp [DataW.TrodAll] at h; subst h; exact trodAll_mk0
  | t :: ts, vs, ds, ps, hg, h => by
    obtain ⟨v, vs', d, ds', p, q, rfl, rfl, rfl, h1, h2⟩ := trodAll_cons h
    simp only [List.all_cons, Bool.and_eq_true, decide_eq_true_eq] at hg
    have hlt : ∀ x ∈ p, x.block < w.heap.size := by obtain ⟨m, hm⟩ := h1; exact DataW.trod_lt m _ _ _ hm
    exact trodAll_cons_mk (Below.trod hl hg.1.1 hg.1.2 h1 bel hlt) (trodAll_below hl bel hg.2 h2)
/-- a law's call -/
theorem law_calls {f : FuncId} {tys : List Ty} {F : SgEl (tys.map Sg.tree) → Option (RtEl [.tree .bool] × OutEl (tys.map Sg.tree))} (hE : EntOk P ⟨f, tys.map Sg.tree, [.tree .bool], F⟩) {x : SgEl (tys.map Sg.tree)} {o : OutEl (tys.map Sg.tree)} (hx : F x = some ((true, ()), o))
    {w : World} {vs : Array Value} (hl : vs.toList.length = (argsOf (tys.map Sg.tree) x 0).length) (hv : ∀ (i : Nat) (p : PV) (v : Value), (argsOf (tys.map Sg.tree) x 0)[i]? = some p → vs.toList[i]? = some v → Val S0 (F0 w) w p v) :
    Calls P f vs w fun e w' => e = .returned (.bool true) ∧ Below w.heap.size w w' := by
  obtain ⟨_, hc⟩ := hE x _ hx
  have := hc S0 (F0 w) w vs (by rw [heap_trees]; exact rel0 w) ⟨by simpa using hl, fun i p v a b => hv i p v a (by simpa using b)⟩
  refine this.mono ?_
  rintro e w' ⟨v, S', F', rfl, hr, hval, hA⟩
  have e1 : (encOut (tys.map Sg.tree) [.tree .bool] x ((true, ()), o)).1 = .bool true := rfl
  simp only at hval
  rw [e1] at hval
  refine ⟨by rw [val_bool hval], hA.st.1, hA.st.2.1, hA.st.2.2, hA.sz, fun k hk => hA.same k hk ?_⟩
  rw [heap_trees]
  rintro ⟨b, y, hy, _⟩
  simp [hget] at hy
end
end Go.Proofs.YteaadaaghhojfaaGreatDoorE
end
section
namespace Go.Proofs.YteaadaaghhojfaaGreatDoorE
open Go
set_option linter.unusedVariables false
@[reducible] def bsx (l : List Nat) : ByteArray := ⟨(l.map UInt8.ofNat).toArray⟩
@[reducible] def beqB (a b : Bool) : Bool := a == b
@[reducible] def ilen {α : Type} (xs : List α) : Int := (xs.length : Int)
@[reducible] def iN (i : Int) : Nat := i.toNat
@[reducible] def winI {α : Type} (xs : List α) (l h : Int) : List α := win xs l.toNat (h.toNat - l.toNat)
@[reducible] def roomL {α : Type} (xs : List α) (b : Nat) : Bool := room xs.length b
@[reducible] def roomA {α : Type} (xs ys : List α) (b : Nat) : Bool := room (xs.length + ys.length) b
@[reducible] def app {α : Type} (xs ys : List α) : List α := xs ++ ys
@[reducible] def repl {α : Type} (n : Int) (x : α) : List α := List.replicate n.toNat x
section
variable {P : Program} {f : FuncId} {m : Nat}
theorem tabNil : TabF P [] := fun _ h => by cases h
theorem tabCons {x : Ent} {T : List Ent} (h : EntOk P x) (hT : TabF P T) : TabF P (x :: T) := fun y hy => by
  rcases List.mem_cons.1 hy with rfl | hy
  · exact h
  · exact hT y hy
theorem tabLNil : TabL P f m [] := fun _ h => by cases h
theorem tabLCons {x : LEnt} {g : Nat} {L : List LEnt} (h : LEntOk P f m x g) (hL : TabL P f m L) : TabL P f m (x :: L) := fun y hy => by
  rcases List.mem_cons.1 hy with rfl | hy
  · exact ⟨g, h⟩
  · exact hL y hy
theorem loop_zero' {i e : Nat} {sg sgE sgR : List Sg} {X : SgEl sg → Option (SgEl sgE ⊕ SgEl sgR)} (h : ∀ s, X s = none) : LEntOk P f m ⟨i, sg, e, sgE, sgR, X⟩ 0 := fun pf hf lv lx ap fz nb pc c hs hm s y hy => by
  have := (h s).symm.trans hy; cases this
theorem loop_step' {T : List Ent} {L : List LEnt} (hM : P.follows .mixedOrders = true) (hT : TabF P T) (hL : TabL P f m L) {i e g : Nat} {sg sgE sgR : List Sg} {X X' : SgEl sg → Option (SgEl sgE ⊕ SgEl sgR)}
    (hX : LEntOk P f m ⟨i, sg, e, sgE, sgR, X⟩ g) (hs : ∀ s, walkL P T (⟨i, sg, e, sgE, sgR, X⟩ :: L) f m ⟨i, sg, e, sgE, sgR, X⟩ s = X' s) : LEntOk P f m ⟨i, sg, e, sgE, sgR, X'⟩ (g + 1) :=
  loop_step (fun _ h => drawn_ok hM h) hT hL hX hs
theorem ent_ok' {T : List Ent} {L : List LEnt} (hM : P.follows .mixedOrders = true) {sg : List Sg} {rs : List Rt} (hT : TabF P T) (hL : TabL P f (nSl sg) L) {X : SgEl sg → Option (RtEl rs × OutEl sg)}
    (h : ∀ x, walkF P T L f sg rs x = X x) : EntOk P ⟨f, sg, rs, X⟩ := ent_ok (fun _ h => drawn_ok hM h) hT hL h
end
theorem mixed : Tryz.prog.follows .mixedOrders = true := by kernel_rfl
end Go.Proofs.YteaadaaghhojfaaGreatDoorE
end
section
namespace Go.Proofs.YteaadaaghhojfaaGreatDoorE
open Go
set_option linter.unusedVariables false
set_option maxRecDepth 100000
abbrev tTag : Ty := .pair .str (.pair .str .unit)
abbrev tSum : Ty := .pair (.int .i64) (.pair .bool .unit)
abbrev tMatch : Ty := .pair (.int .i64) tTag
abbrev tQuery : Ty := .pair (.int .i64) (.pair .str (.pair (.slice tMatch) (.pair (.slice .str) .unit)))
abbrev tRow : Ty := .pair (.int .i64) (.pair .str (.pair tSum .unit))
abbrev tChange : Ty := .pair tRow (.pair .bool .unit)
abbrev tMessage : Ty := .pair (.int .i64) (.pair (.int .i64) (.pair (.int .i64) (.pair (.slice tRow) (.pair (.slice tChange) .unit))))
abbrev tSub : Ty := .pair (.int .i64) (.pair tQuery (.pair (.int .i64) (.pair (.slice tRow) (.pair (.slice tMessage) (.pair .bool (.pair .bool .unit))))))
abbrev r02_small_sg : List Sg := [.tree (.int .u8)]
abbrev r02_small_rs : List Rt := [.tree .bool]
def r02_small (n : Nat) (x : SgEl r02_small_sg) : Option (RtEl r02_small_rs × OutEl r02_small_sg) :=
  bif ile (97 : Int) x.1 then
   some ((ile x.1 (122 : Int), ()), ((), ()))
  else
  some ((false, ()), ((), ()))
abbrev r02_small_ent (n : Nat) : Ent := ⟨109, r02_small_sg, r02_small_rs, r02_small n⟩
theorem r02_small_ok (n : Nat) : EntOk Tryz.prog (r02_small_ent n) := ent_ok' mixed (T := []) tabNil tabLNil fun x => by kernel_rfl
abbrev r02_digit_sg : List Sg := [.tree (.int .u8)]
abbrev r02_digit_rs : List Rt := [.tree .bool]
def r02_digit (n : Nat) (x : SgEl r02_digit_sg) : Option (RtEl r02_digit_rs × OutEl r02_digit_sg) :=
  bif ile (48 : Int) x.1 then
   some ((ile x.1 (57 : Int), ()), ((), ()))
  else
  some ((false, ()), ((), ()))
abbrev r02_digit_ent (n : Nat) : Ent := ⟨110, r02_digit_sg, r02_digit_rs, r02_digit n⟩
theorem r02_digit_ok (n : Nat) : EntOk Tryz.prog (r02_digit_ent n) := ent_ok' mixed (T := []) tabNil tabLNil fun x => by kernel_rfl
abbrev r02_Name_sg : List Sg := [.tree .str]
abbrev r02_Name_rs : List Rt := [.tree .bool]
def r02_Name_l0 (n : Nat) : Nat → SgEl [.tree .str, .tree (.int .i64)] → Option (SgEl [] ⊕ SgEl [.tree .bool])
  | 0, _ => none
  | g + 1, s =>
    bif ilt s.2.1 (ssize s.1) then
     bif ile (0 : Int) s.2.1 then
      bif ilt s.2.1 (ssize s.1) then
       bindN (r02_small n (sat s.1 s.2.1, ())) fun p1 =>
       bif !p1.1.1 then
        bif ile (0 : Int) s.2.1 then
         bif ilt s.2.1 (ssize s.1) then
          bindN (r02_digit n (sat s.1 s.2.1, ())) fun p2 =>
          bif !p2.1.1 then
           bif ile (0 : Int) s.2.1 then
            bif ilt s.2.1 (ssize s.1) then
             bif !(ieq (sat s.1 s.2.1) (95 : Int)) then
              some (Sum.inr (false, ()))
             else
             bindL (r02_Name_l0 n g (s.1, iadd .i64 s.2.1 (1 : Int), ())) (fun a3 =>
              some (Sum.inl ())) fun b4 =>
             some (Sum.inr b4)
            else none
           else none
          else
          bindL (r02_Name_l0 n g (s.1, iadd .i64 s.2.1 (1 : Int), ())) (fun a5 =>
           some (Sum.inl ())) fun b6 =>
          some (Sum.inr b6)
         else none
        else none
       else
       bindL (r02_Name_l0 n g (s.1, iadd .i64 s.2.1 (1 : Int), ())) (fun a7 =>
        some (Sum.inl ())) fun b8 =>
       some (Sum.inr b8)
      else none
     else none
    else
    some (Sum.inl ())
theorem r02_Name_l0_ok (n : Nat) : ∀ g, LEntOk Tryz.prog 54 (nSl r02_Name_sg) ⟨0, [.tree .str, .tree (.int .i64)], 0, [], [.tree .bool], r02_Name_l0 n g⟩ g
  | 0 => loop_zero' fun _ => rfl
  | g + 1 => loop_step' mixed (T := [r02_small_ent n, r02_digit_ent n]) (tabCons (r02_small_ok n) (tabCons (r02_digit_ok n) tabNil)) tabLNil (r02_Name_l0_ok n g) fun s => by kernel_rfl
def r02_Name (n : Nat) (x : SgEl r02_Name_sg) : Option (RtEl r02_Name_rs × OutEl r02_Name_sg) :=
  bif ilt (ssize x.1) (1 : Int) then
   some ((false, ()), ((), ()))
  else
  bif ilt (12 : Int) (ssize x.1) then
   some ((false, ()), ((), ()))
  else
  bif ile (0 : Int) (0 : Int) then
   bif ilt (0 : Int) (ssize x.1) then
    bindN (r02_small n (sat x.1 (0 : Int), ())) fun p1 =>
    bif !p1.1.1 then
     some ((false, ()), ((), ()))
    else
    bindL (r02_Name_l0 n n (x.1, (0 : Int), ())) (fun a2 =>
     some ((true, ()), ((), ()))) fun b3 =>
    some (b3, ((), ()))
   else none
  else none
abbrev r02_Name_ent (n : Nat) : Ent := ⟨54, r02_Name_sg, r02_Name_rs, r02_Name n⟩
theorem r02_Name_ok (n : Nat) : EntOk Tryz.prog (r02_Name_ent n) := ent_ok' mixed (T := [r02_small_ent n, r02_digit_ent n]) (tabCons (r02_small_ok n) (tabCons (r02_digit_ok n) tabNil)) (tabLCons (r02_Name_l0_ok n n) tabLNil) fun x => by kernel_rfl
abbrev r02_Value_sg : List Sg := [.tree .str]
abbrev r02_Value_rs : List Rt := [.tree .bool]
def r02_Value_l0 (n : Nat) : Nat → SgEl [.tree .str, .tree (.int .i64)] → Option (SgEl [] ⊕ SgEl [.tree .bool])
  | 0, _ => none
  | g + 1, s =>
    bif ilt s.2.1 (ssize s.1) then
     bif ile (0 : Int) s.2.1 then
      bif ilt s.2.1 (ssize s.1) then
       bindN (r02_small n (sat s.1 s.2.1, ())) fun p1 =>
       bif !p1.1.1 then
        bif ile (0 : Int) s.2.1 then
         bif ilt s.2.1 (ssize s.1) then
          bindN (r02_digit n (sat s.1 s.2.1, ())) fun p2 =>
          bif !p2.1.1 then
           bif ile (0 : Int) s.2.1 then
            bif ilt s.2.1 (ssize s.1) then
             bif !(ieq (sat s.1 s.2.1) (95 : Int)) then
              bif ile (0 : Int) s.2.1 then
               bif ilt s.2.1 (ssize s.1) then
                bif !(ieq (sat s.1 s.2.1) (45 : Int)) then
                 bif ile (0 : Int) s.2.1 then
                  bif ilt s.2.1 (ssize s.1) then
                   bif !(ieq (sat s.1 s.2.1) (46 : Int)) then
                    some (Sum.inr (false, ()))
                   else
                   bindL (r02_Value_l0 n g (s.1, iadd .i64 s.2.1 (1 : Int), ())) (fun a3 =>
                    some (Sum.inl ())) fun b4 =>
                   some (Sum.inr b4)
                  else none
                 else none
                else
                bindL (r02_Value_l0 n g (s.1, iadd .i64 s.2.1 (1 : Int), ())) (fun a5 =>
                 some (Sum.inl ())) fun b6 =>
                some (Sum.inr b6)
               else none
              else none
             else
             bindL (r02_Value_l0 n g (s.1, iadd .i64 s.2.1 (1 : Int), ())) (fun a7 =>
              some (Sum.inl ())) fun b8 =>
             some (Sum.inr b8)
            else none
           else none
          else
          bindL (r02_Value_l0 n g (s.1, iadd .i64 s.2.1 (1 : Int), ())) (fun a9 =>
           some (Sum.inl ())) fun b10 =>
          some (Sum.inr b10)
         else none
        else none
       else
       bindL (r02_Value_l0 n g (s.1, iadd .i64 s.2.1 (1 : Int), ())) (fun a11 =>
        some (Sum.inl ())) fun b12 =>
       some (Sum.inr b12)
      else none
     else none
    else
    some (Sum.inl ())
theorem r02_Value_l0_ok (n : Nat) : ∀ g, LEntOk Tryz.prog 142 (nSl r02_Value_sg) ⟨0, [.tree .str, .tree (.int .i64)], 0, [], [.tree .bool], r02_Value_l0 n g⟩ g
  | 0 => loop_zero' fun _ => rfl
  | g + 1 => loop_step' mixed (T := [r02_small_ent n, r02_digit_ent n]) (tabCons (r02_small_ok n) (tabCons (r02_digit_ok n) tabNil)) tabLNil (r02_Value_l0_ok n g) fun s => by kernel_rfl
def r02_Value (n : Nat) (x : SgEl r02_Value_sg) : Option (RtEl r02_Value_rs × OutEl r02_Value_sg) :=
  bif ilt (ssize x.1) (1 : Int) then
   some ((false, ()), ((), ()))
  else
  bif ilt (12 : Int) (ssize x.1) then
   some ((false, ()), ((), ()))
  else
  bindL (r02_Value_l0 n n (x.1, (0 : Int), ())) (fun a1 =>
   some ((true, ()), ((), ()))) fun b2 =>
  some (b2, ((), ()))
abbrev r02_Value_ent (n : Nat) : Ent := ⟨142, r02_Value_sg, r02_Value_rs, r02_Value n⟩
theorem r02_Value_ok (n : Nat) : EntOk Tryz.prog (r02_Value_ent n) := ent_ok' mixed (T := [r02_small_ent n, r02_digit_ent n]) (tabCons (r02_small_ok n) (tabCons (r02_digit_ok n) tabNil)) (tabLCons (r02_Value_l0_ok n n) tabLNil) fun x => by kernel_rfl
abbrev r02_Split_sg : List Sg := [.tree .str, .tree (.int .u8)]
abbrev r02_Split_rs : List Rt := [.tree (.slice .str)]
def r02_Split_l0 (n : Nat) : Nat → SgEl [.tree .str, .tree (.int .u8), .own .str, .tree (.int .i64), .tree (.int .i64)] → Option (SgEl [.tree .str, .own .str, .tree (.int .i64)] ⊕ SgEl [])
  | 0, _ => none
  | g + 1, s =>
    bif ilt s.2.2.2.2.1 (ssize s.1) then
     bif ile (0 : Int) s.2.2.2.2.1 then
      bif ilt s.2.2.2.2.1 (ssize s.1) then
       bif ieq (sat s.1 s.2.2.2.2.1) s.2.1 then
        bif ile (0 : Int) s.2.2.2.1 then
         bif ile s.2.2.2.1 s.2.2.2.2.1 then
          bif ile s.2.2.2.2.1 (ssize s.1) then
           bif roomA s.2.2.1 [sext s.1 s.2.2.2.1 s.2.2.2.2.1] 16 then
            bindL (r02_Split_l0 n g (s.1, s.2.1, app s.2.2.1 [sext s.1 s.2.2.2.1 s.2.2.2.2.1], iadd .i64 s.2.2.2.2.1 (1 : Int), iadd .i64 s.2.2.2.2.1 (1 : Int), ())) (fun a1 =>
             some (Sum.inl a1)) fun b2 =>
            some (Sum.inr ())
           else none
          else none
         else none
        else none
       else
       bindL (r02_Split_l0 n g (s.1, s.2.1, s.2.2.1, s.2.2.2.1, iadd .i64 s.2.2.2.2.1 (1 : Int), ())) (fun a3 =>
        some (Sum.inl a3)) fun b4 =>
       some (Sum.inr ())
      else none
     else none
    else
    some (Sum.inl (s.1, s.2.2.1, s.2.2.2.1, ()))
theorem r02_Split_l0_ok (n : Nat) : ∀ g, LEntOk Tryz.prog 72 (nSl r02_Split_sg) ⟨0, [.tree .str, .tree (.int .u8), .own .str, .tree (.int .i64), .tree (.int .i64)], 0, [.tree .str, .own .str, .tree (.int .i64)], [], r02_Split_l0 n g⟩ g
  | 0 => loop_zero' fun _ => rfl
  | g + 1 => loop_step' mixed (T := []) tabNil tabLNil (r02_Split_l0_ok n g) fun s => by kernel_rfl
def r02_Split (n : Nat) (x : SgEl r02_Split_sg) : Option (RtEl r02_Split_rs × OutEl r02_Split_sg) :=
  bindL (r02_Split_l0 n n (x.1, x.2.1, [], (0 : Int), (0 : Int), ())) (fun a1 =>
   bif ile (0 : Int) a1.2.2.1 then
    bif ile a1.2.2.1 (ssize a1.1) then
     bif ile (ssize a1.1) (ssize a1.1) then
      bif roomA a1.2.1 [sext a1.1 a1.2.2.1 (ssize a1.1)] 16 then
       some ((app a1.2.1 [sext a1.1 a1.2.2.1 (ssize a1.1)], ()), ((), (), ()))
      else none
     else none
    else none
   else none) fun b2 =>
  none
abbrev r02_Split_ent (n : Nat) : Ent := ⟨72, r02_Split_sg, r02_Split_rs, r02_Split n⟩
theorem r02_Split_ok (n : Nat) : EntOk Tryz.prog (r02_Split_ent n) := ent_ok' mixed (T := []) tabNil (tabLCons (r02_Split_l0_ok n n) tabLNil) fun x => by kernel_rfl
abbrev r02_Join_sg : List Sg := [.tree .str, .tree (.slice .str)]
abbrev r02_Join_rs : List Rt := [.tree .str]
def r02_Join_l0 (n : Nat) : Nat → SgEl [.tree .str, .tree (.slice .str), .tree .str, .tree (.int .i64)] → Option (SgEl [.tree .str] ⊕ SgEl [])
  | 0, _ => none
  | g + 1, s =>
    bif ilt s.2.2.2.1 (ilen s.2.1) then
     bif ilt (0 : Int) s.2.2.2.1 then
      bif sfits s.2.2.1 s.1 then
       bif ile (0 : Int) s.2.2.2.1 then
        bindN (lat s.2.1 (iN s.2.2.2.1)) fun v1 =>
        bif sfits (scat s.2.2.1 s.1) v1 then
         bindL (r02_Join_l0 n g (s.1, s.2.1, scat (scat s.2.2.1 s.1) v1, iadd .i64 s.2.2.2.1 (1 : Int), ())) (fun a2 =>
          some (Sum.inl a2)) fun b3 =>
         some (Sum.inr ())
        else none
       else none
      else none
     else
     bif ile (0 : Int) s.2.2.2.1 then
      bindN (lat s.2.1 (iN s.2.2.2.1)) fun v4 =>
      bif sfits s.2.2.1 v4 then
       bindL (r02_Join_l0 n g (s.1, s.2.1, scat s.2.2.1 v4, iadd .i64 s.2.2.2.1 (1 : Int), ())) (fun a5 =>
        some (Sum.inl a5)) fun b6 =>
       some (Sum.inr ())
      else none
     else none
    else
    some (Sum.inl (s.2.2.1, ()))
theorem r02_Join_l0_ok (n : Nat) : ∀ g, LEntOk Tryz.prog 61 (nSl r02_Join_sg) ⟨0, [.tree .str, .tree (.slice .str), .tree .str, .tree (.int .i64)], 0, [.tree .str], [], r02_Join_l0 n g⟩ g
  | 0 => loop_zero' fun _ => rfl
  | g + 1 => loop_step' mixed (T := []) tabNil tabLNil (r02_Join_l0_ok n g) fun s => by kernel_rfl
def r02_Join (n : Nat) (x : SgEl r02_Join_sg) : Option (RtEl r02_Join_rs × OutEl r02_Join_sg) :=
  bindL (r02_Join_l0 n n (x.1, x.2.1, (⟨#[]⟩ : ByteArray), (0 : Int), ())) (fun a1 =>
   some (a1, ((), (), ()))) fun b2 =>
  none
abbrev r02_Join_ent (n : Nat) : Ent := ⟨61, r02_Join_sg, r02_Join_rs, r02_Join n⟩
theorem r02_Join_ok (n : Nat) : EntOk Tryz.prog (r02_Join_ent n) := ent_ok' mixed (T := []) tabNil (tabLCons (r02_Join_l0_ok n n) tabLNil) fun x => by kernel_rfl
abbrev r02_Same_sg : List Sg := [.tree (.slice .str), .tree (.slice .str)]
abbrev r02_Same_rs : List Rt := [.tree .bool]
def r02_Same_l0 (n : Nat) : Nat → SgEl [.tree (.slice .str), .tree (.slice .str), .tree (.int .i64)] → Option (SgEl [] ⊕ SgEl [.tree .bool])
  | 0, _ => none
  | g + 1, s =>
    bif ilt s.2.2.1 (ilen s.1) then
     bif ile (0 : Int) s.2.2.1 then
      bindN (lat s.1 (iN s.2.2.1)) fun v1 =>
      bif ile (0 : Int) s.2.2.1 then
       bindN (lat s.2.1 (iN s.2.2.1)) fun v2 =>
       bif !(seq v1 v2) then
        some (Sum.inr (false, ()))
       else
       bindL (r02_Same_l0 n g (s.1, s.2.1, iadd .i64 s.2.2.1 (1 : Int), ())) (fun a3 =>
        some (Sum.inl ())) fun b4 =>
       some (Sum.inr b4)
      else none
     else none
    else
    some (Sum.inl ())
theorem r02_Same_l0_ok (n : Nat) : ∀ g, LEntOk Tryz.prog 65 (nSl r02_Same_sg) ⟨0, [.tree (.slice .str), .tree (.slice .str), .tree (.int .i64)], 0, [], [.tree .bool], r02_Same_l0 n g⟩ g
  | 0 => loop_zero' fun _ => rfl
  | g + 1 => loop_step' mixed (T := []) tabNil tabLNil (r02_Same_l0_ok n g) fun s => by kernel_rfl
def r02_Same (n : Nat) (x : SgEl r02_Same_sg) : Option (RtEl r02_Same_rs × OutEl r02_Same_sg) :=
  bif !(ieq (ilen x.1) (ilen x.2.1)) then
   some ((false, ()), ((), (), ()))
  else
  bindL (r02_Same_l0 n n (x.1, x.2.1, (0 : Int), ())) (fun a1 =>
   some ((true, ()), ((), (), ()))) fun b2 =>
  some (b2, ((), (), ()))
abbrev r02_Same_ent (n : Nat) : Ent := ⟨65, r02_Same_sg, r02_Same_rs, r02_Same n⟩
theorem r02_Same_ok (n : Nat) : EntOk Tryz.prog (r02_Same_ent n) := ent_ok' mixed (T := []) tabNil (tabLCons (r02_Same_l0_ok n n) tabLNil) fun x => by kernel_rfl
abbrev r03_may_sg : List Sg := [.tree tTag]
abbrev r03_may_rs : List Rt := [.tree .bool]
def r03_may (n : Nat) (x : SgEl r03_may_sg) : Option (RtEl r03_may_rs × OutEl r03_may_sg) :=
  bindN (r02_Name n (x.1.1, ())) fun p1 =>
  bif p1.1.1 then
   bindN (r02_Value n x.1.2) fun p2 =>
   some (p2.1, ((), ()))
  else
  some ((false, ()), ((), ()))
abbrev r03_may_ent (n : Nat) : Ent := ⟨164, r03_may_sg, r03_may_rs, r03_may n⟩
theorem r03_may_ok (n : Nat) : EntOk Tryz.prog (r03_may_ent n) := ent_ok' mixed (T := [r02_Name_ent n, r02_Value_ent n]) (tabCons (r02_Name_ok n) (tabCons (r02_Value_ok n) tabNil)) tabLNil fun x => by kernel_rfl
abbrev r03_Canon_sg : List Sg := [.tree (.slice tTag)]
abbrev r03_Canon_rs : List Rt := [.tree (.slice tTag), .tree (.int .i64)]
def r03_Canon_l2 (n : Nat) : Nat → SgEl [.tree (.slice tTag), .own tTag, .tree (.int .i64), .tree (.int .i64)] → Option (SgEl [.tree (.slice tTag), .own tTag, .tree (.int .i64), .tree (.int .i64)] ⊕ SgEl [])
  | 0, _ => none
  | g + 1, s =>
    bif ilt s.2.2.2.1 (ilen s.2.1) then
     bif ile (0 : Int) s.2.2.2.1 then
      bindN (lat s.2.1 (iN s.2.2.2.1)) fun v1 =>
      bindN (lat s.2.1 (iN s.2.2.2.1)) fun v2 =>
      bif ile (0 : Int) s.2.2.1 then
       bindN (lat s.1 (iN s.2.2.1)) fun v3 =>
       bif slt v2.1 v3.1 then
        bindL (r03_Canon_l2 n g (s.1, s.2.1, s.2.2.1, iadd .i64 s.2.2.2.1 (1 : Int), ())) (fun a4 =>
         some (Sum.inl a4)) fun b5 =>
        some (Sum.inr ())
       else
       some (Sum.inl s)
      else none
     else none
    else
    some (Sum.inl s)
theorem r03_Canon_l2_ok (n : Nat) : ∀ g, LEntOk Tryz.prog 133 (nSl r03_Canon_sg) ⟨2, [.tree (.slice tTag), .own tTag, .tree (.int .i64), .tree (.int .i64)], 4, [.tree (.slice tTag), .own tTag, .tree (.int .i64), .tree (.int .i64)], [], r03_Canon_l2 n g⟩ g
  | 0 => loop_zero' fun _ => rfl
  | g + 1 => loop_step' mixed (T := [r03_may_ent n]) (tabCons (r03_may_ok n) tabNil) tabLNil (r03_Canon_l2_ok n g) fun s => by kernel_rfl
def r03_Canon_l1 (n : Nat) : Nat → SgEl [.tree (.slice tTag), .own tTag, .tree (.int .i64)] → Option (SgEl [.own tTag] ⊕ SgEl [.tree (.slice tTag), .tree (.int .i64)])
  | 0, _ => none
  | g + 1, s =>
    bif ilt s.2.2.1 (ilen s.1) then
     bindL (r03_Canon_l2 n n (s.1, s.2.1, s.2.2.1, (0 : Int), ())) (fun a1 =>
      bif ilt a1.2.2.2.1 (ilen a1.2.1) then
       bif ile (0 : Int) a1.2.2.2.1 then
        bindN (lat a1.2.1 (iN a1.2.2.2.1)) fun v3 =>
        bindN (lat a1.2.1 (iN a1.2.2.2.1)) fun v4 =>
        bif ile (0 : Int) a1.2.2.1 then
         bindN (lat a1.1 (iN a1.2.2.1)) fun v5 =>
         bif seq v4.1 v5.1 then
          some (Sum.inr ([], (5 : Int), ()))
         else
         bif ile (0 : Int) a1.2.2.2.1 then
          bif ile a1.2.2.2.1 (ilen a1.2.1) then
           bif ile (ilen a1.2.1) (ilen a1.2.1) then
            bif roomA ([] : List (El tTag)) (win a1.2.1 (iN a1.2.2.2.1) (iN (ilen a1.2.1) - iN a1.2.2.2.1)) 32 then
             bif ile (0 : Int) (0 : Int) then
              bif ile (0 : Int) a1.2.2.2.1 then
               bif ile a1.2.2.2.1 (ilen a1.2.1) then
                bif ile (0 : Int) a1.2.2.1 then
                 bindN (lat a1.1 (iN a1.2.2.1)) fun v6 =>
                 bif roomA (win a1.2.1 0 (iN a1.2.2.2.1 - iN (0 : Int))) [v6] 32 then
                  bif roomA (app (win a1.2.1 0 (iN a1.2.2.2.1 - iN (0 : Int))) [v6]) (app ([] : List (El tTag)) (win a1.2.1 (iN a1.2.2.2.1) (iN (ilen a1.2.1) - iN a1.2.2.2.1))) 32 then
                   bindL (r03_Canon_l1 n g (a1.1, app (app (win a1.2.1 0 (iN a1.2.2.2.1 - iN (0 : Int))) [v6]) (app ([] : List (El tTag)) (win a1.2.1 (iN a1.2.2.2.1) (iN (ilen a1.2.1) - iN a1.2.2.2.1))), iadd .i64 a1.2.2.1 (1 : Int), ())) (fun a7 =>
                    some (Sum.inl a7)) fun b8 =>
                   some (Sum.inr b8)
                  else none
                 else none
                else none
               else none
              else none
             else none
            else none
           else none
          else none
         else none
        else none
       else none
      else
      bif ile (0 : Int) a1.2.2.2.1 then
       bif ile a1.2.2.2.1 (ilen a1.2.1) then
        bif ile (ilen a1.2.1) (ilen a1.2.1) then
         bif roomA ([] : List (El tTag)) (win a1.2.1 (iN a1.2.2.2.1) (iN (ilen a1.2.1) - iN a1.2.2.2.1)) 32 then
          bif ile (0 : Int) (0 : Int) then
           bif ile (0 : Int) a1.2.2.2.1 then
            bif ile a1.2.2.2.1 (ilen a1.2.1) then
             bif ile (0 : Int) a1.2.2.1 then
              bindN (lat a1.1 (iN a1.2.2.1)) fun v9 =>
              bif roomA (win a1.2.1 0 (iN a1.2.2.2.1 - iN (0 : Int))) [v9] 32 then
               bif roomA (app (win a1.2.1 0 (iN a1.2.2.2.1 - iN (0 : Int))) [v9]) (app ([] : List (El tTag)) (win a1.2.1 (iN a1.2.2.2.1) (iN (ilen a1.2.1) - iN a1.2.2.2.1))) 32 then
                bindL (r03_Canon_l1 n g (a1.1, app (app (win a1.2.1 0 (iN a1.2.2.2.1 - iN (0 : Int))) [v9]) (app ([] : List (El tTag)) (win a1.2.1 (iN a1.2.2.2.1) (iN (ilen a1.2.1) - iN a1.2.2.2.1))), iadd .i64 a1.2.2.1 (1 : Int), ())) (fun a10 =>
                 some (Sum.inl a10)) fun b11 =>
                some (Sum.inr b11)
               else none
              else none
             else none
            else none
           else none
          else none
         else none
        else none
       else none
      else none) fun b2 =>
     none
    else
    some (Sum.inl (s.2.1, ()))
theorem r03_Canon_l1_ok (n : Nat) : ∀ g, LEntOk Tryz.prog 133 (nSl r03_Canon_sg) ⟨1, [.tree (.slice tTag), .own tTag, .tree (.int .i64)], 2, [.own tTag], [.tree (.slice tTag), .tree (.int .i64)], r03_Canon_l1 n g⟩ g
  | 0 => loop_zero' fun _ => rfl
  | g + 1 => loop_step' mixed (T := [r03_may_ent n]) (tabCons (r03_may_ok n) tabNil) (tabLCons (r03_Canon_l2_ok n n) tabLNil) (r03_Canon_l1_ok n g) fun s => by kernel_rfl
def r03_Canon_l0 (n : Nat) : Nat → SgEl [.tree (.slice tTag), .tree (.int .i64)] → Option (SgEl [.tree (.slice tTag)] ⊕ SgEl [.tree (.slice tTag), .tree (.int .i64)])
  | 0, _ => none
  | g + 1, s =>
    bif ilt s.2.1 (ilen s.1) then
     bif ile (0 : Int) s.2.1 then
      bindN (lat s.1 (iN s.2.1)) fun v1 =>
      bindN (r03_may n (v1, ())) fun p2 =>
      bif !p2.1.1 then
       some (Sum.inr ([], (2 : Int), ()))
      else
      bindL (r03_Canon_l0 n g (s.1, iadd .i64 s.2.1 (1 : Int), ())) (fun a3 =>
       some (Sum.inl a3)) fun b4 =>
      some (Sum.inr b4)
     else none
    else
    some (Sum.inl (s.1, ()))
theorem r03_Canon_l0_ok (n : Nat) : ∀ g, LEntOk Tryz.prog 133 (nSl r03_Canon_sg) ⟨0, [.tree (.slice tTag), .tree (.int .i64)], 0, [.tree (.slice tTag)], [.tree (.slice tTag), .tree (.int .i64)], r03_Canon_l0 n g⟩ g
  | 0 => loop_zero' fun _ => rfl
  | g + 1 => loop_step' mixed (T := [r03_may_ent n]) (tabCons (r03_may_ok n) tabNil) (tabLCons (r03_Canon_l1_ok n n) (tabLCons (r03_Canon_l2_ok n n) tabLNil)) (r03_Canon_l0_ok n g) fun s => by kernel_rfl
def r03_Canon (n : Nat) (x : SgEl r03_Canon_sg) : Option (RtEl r03_Canon_rs × OutEl r03_Canon_sg) :=
  bindL (r03_Canon_l0 n n (x.1, (0 : Int), ())) (fun a1 =>
   bif ilt (4 : Int) (ilen a1.1) then
    some (([], (4 : Int), ()), ((), ()))
   else
   bindL (r03_Canon_l1 n n (a1.1, [], (0 : Int), ())) (fun a3 =>
    some ((a3.1, (0 : Int), ()), ((), ()))) fun b4 =>
   some (b4, ((), ()))) fun b2 =>
  some (b2, ((), ()))
abbrev r03_Canon_ent (n : Nat) : Ent := ⟨133, r03_Canon_sg, r03_Canon_rs, r03_Canon n⟩
theorem r03_Canon_ok (n : Nat) : EntOk Tryz.prog (r03_Canon_ent n) := ent_ok' mixed (T := [r03_may_ent n]) (tabCons (r03_may_ok n) tabNil) (tabLCons (r03_Canon_l0_ok n n) (tabLCons (r03_Canon_l1_ok n n) (tabLCons (r03_Canon_l2_ok n n) tabLNil))) fun x => by kernel_rfl
abbrev r03_Text_sg : List Sg := [.tree (.slice tTag)]
abbrev r03_Text_rs : List Rt := [.tree .str]
def r03_Text_l0 (n : Nat) : Nat → SgEl [.tree (.slice tTag), .own .str, .tree (.int .i64)] → Option (SgEl [.own .str] ⊕ SgEl [])
  | 0, _ => none
  | g + 1, s =>
    bif ilt s.2.2.1 (ilen s.1) then
     bif ile (0 : Int) s.2.2.1 then
      bindN (lat s.1 (iN s.2.2.1)) fun v1 =>
      bif sfits v1.1 (⟨#[61]⟩ : ByteArray) then
       bif ile (0 : Int) s.2.2.1 then
        bindN (lat s.1 (iN s.2.2.1)) fun v2 =>
        bif sfits (scat v1.1 (⟨#[61]⟩ : ByteArray)) v2.2.1 then
         bif roomA s.2.1 [scat (scat v1.1 (⟨#[61]⟩ : ByteArray)) v2.2.1] 16 then
          bindL (r03_Text_l0 n g (s.1, app s.2.1 [scat (scat v1.1 (⟨#[61]⟩ : ByteArray)) v2.2.1], iadd .i64 s.2.2.1 (1 : Int), ())) (fun a3 =>
           some (Sum.inl a3)) fun b4 =>
          some (Sum.inr ())
         else none
        else none
       else none
      else none
     else none
    else
    some (Sum.inl (s.2.1, ()))
theorem r03_Text_l0_ok (n : Nat) : ∀ g, LEntOk Tryz.prog 77 (nSl r03_Text_sg) ⟨0, [.tree (.slice tTag), .own .str, .tree (.int .i64)], 0, [.own .str], [], r03_Text_l0 n g⟩ g
  | 0 => loop_zero' fun _ => rfl
  | g + 1 => loop_step' mixed (T := [r02_Join_ent n]) (tabCons (r02_Join_ok n) tabNil) tabLNil (r03_Text_l0_ok n g) fun s => by kernel_rfl
def r03_Text (n : Nat) (x : SgEl r03_Text_sg) : Option (RtEl r03_Text_rs × OutEl r03_Text_sg) :=
  bindL (r03_Text_l0 n n (x.1, [], (0 : Int), ())) (fun a1 =>
   bindN (r02_Join n ((⟨#[44]⟩ : ByteArray), a1)) fun p3 =>
   some (p3.1, ((), ()))) fun b2 =>
  none
abbrev r03_Text_ent (n : Nat) : Ent := ⟨77, r03_Text_sg, r03_Text_rs, r03_Text n⟩
theorem r03_Text_ok (n : Nat) : EntOk Tryz.prog (r03_Text_ent n) := ent_ok' mixed (T := [r02_Join_ent n]) (tabCons (r02_Join_ok n) tabNil) (tabLCons (r03_Text_l0_ok n n) tabLNil) fun x => by kernel_rfl
abbrev r03_Parse_sg : List Sg := [.tree .str]
abbrev r03_Parse_rs : List Rt := [.tree (.slice tTag), .tree (.int .i64)]
def r03_Parse_l0 (n : Nat) : Nat → SgEl [.own tTag, .tree (.slice .str), .tree (.int .i64)] → Option (SgEl [.own tTag] ⊕ SgEl [.tree (.slice tTag), .tree (.int .i64)])
  | 0, _ => none
  | g + 1, s =>
    bif ilt s.2.2.1 (ilen s.2.1) then
     bif ile (0 : Int) s.2.2.1 then
      bindN (lat s.2.1 (iN s.2.2.1)) fun v1 =>
      bindN (r02_Split n (v1, (61 : Int), ())) fun p2 =>
      bif ilt (ilen p2.1.1) (2 : Int) then
       some (Sum.inr ([], (2 : Int), ()))
      else
      bif ile (0 : Int) (0 : Int) then
       bindN (lat p2.1.1 (iN (0 : Int))) fun v3 =>
       bif ile (0 : Int) (1 : Int) then
        bif ile (1 : Int) (ilen p2.1.1) then
         bif ile (ilen p2.1.1) (ilen p2.1.1) then
          bindN (r02_Join n ((⟨#[61]⟩ : ByteArray), winI p2.1.1 (1 : Int) (ilen p2.1.1), ())) fun p4 =>
          bif roomA s.1 [(v3, p4.1)] 32 then
           bindL (r03_Parse_l0 n g (app s.1 [(v3, p4.1)], s.2.1, iadd .i64 s.2.2.1 (1 : Int), ())) (fun a5 =>
            some (Sum.inl a5)) fun b6 =>
           some (Sum.inr b6)
          else none
         else none
        else none
       else none
      else none
     else none
    else
    some (Sum.inl (s.1, ()))
theorem r03_Parse_l0_ok (n : Nat) : ∀ g, LEntOk Tryz.prog 97 (nSl r03_Parse_sg) ⟨0, [.own tTag, .tree (.slice .str), .tree (.int .i64)], 0, [.own tTag], [.tree (.slice tTag), .tree (.int .i64)], r03_Parse_l0 n g⟩ g
  | 0 => loop_zero' fun _ => rfl
  | g + 1 => loop_step' mixed (T := [r02_Split_ent n, r02_Join_ent n, r03_Canon_ent n]) (tabCons (r02_Split_ok n) (tabCons (r02_Join_ok n) (tabCons (r03_Canon_ok n) tabNil))) tabLNil (r03_Parse_l0_ok n g) fun s => by kernel_rfl
def r03_Parse (n : Nat) (x : SgEl r03_Parse_sg) : Option (RtEl r03_Parse_rs × OutEl r03_Parse_sg) :=
  bif seq x.1 (⟨#[]⟩ : ByteArray) then
   some (([], (0 : Int), ()), ((), ()))
  else
  bindN (r02_Split n (x.1, (44 : Int), ())) fun p1 =>
  bindL (r03_Parse_l0 n n ([], p1.1.1, (0 : Int), ())) (fun a2 =>
   bindN (r03_Canon n a2) fun p4 =>
   some (p4.1, ((), ()))) fun b3 =>
  some (b3, ((), ()))
abbrev r03_Parse_ent (n : Nat) : Ent := ⟨97, r03_Parse_sg, r03_Parse_rs, r03_Parse n⟩
theorem r03_Parse_ok (n : Nat) : EntOk Tryz.prog (r03_Parse_ent n) := ent_ok' mixed (T := [r02_Split_ent n, r02_Join_ent n, r03_Canon_ent n]) (tabCons (r02_Split_ok n) (tabCons (r02_Join_ok n) (tabCons (r03_Canon_ok n) tabNil))) (tabLCons (r03_Parse_l0_ok n n) tabLNil) fun x => by kernel_rfl
abbrev r01_Read_sg : List Sg := [.tree .str]
abbrev r01_Read_rs : List Rt := [.tree (.int .i64), .tree (.int .i64)]
def r01_Read_l1 (n : Nat) : Nat → SgEl [.tree .str, .tree .str, .tree (.int .i64), .tree (.int .i64)] → Option (SgEl [.tree .str, .tree .str, .tree (.int .i64)] ⊕ SgEl [.tree (.int .i64), .tree (.int .i64)])
  | 0, _ => none
  | g + 1, s =>
    bif ilt s.2.2.2.1 (ssize s.2.1) then
     bif ile (0 : Int) s.2.2.2.1 then
      bif ilt s.2.2.2.1 (ssize s.2.1) then
       bif ieq (10 : Int) (0 : Int) then
        none
       else
       bif ilt s.2.2.1 (iquo .i64 (iadd .i64 (-9223372036854775808 : Int) (iconv .i64 (isub .u8 (sat s.2.1 s.2.2.2.1) (48 : Int)))) (10 : Int)) then
        some (Sum.inr ((0 : Int), (3 : Int), ()))
       else
       bindL (r01_Read_l1 n g (s.1, s.2.1, isub .i64 (imul .i64 (10 : Int) s.2.2.1) (iconv .i64 (isub .u8 (sat s.2.1 s.2.2.2.1) (48 : Int))), iadd .i64 s.2.2.2.1 (1 : Int), ())) (fun a1 =>
        some (Sum.inl a1)) fun b2 =>
       some (Sum.inr b2)
      else none
     else none
    else
    some (Sum.inl (s.1, s.2.1, s.2.2.1, ()))
theorem r01_Read_l1_ok (n : Nat) : ∀ g, LEntOk Tryz.prog 154 (nSl r01_Read_sg) ⟨1, [.tree .str, .tree .str, .tree (.int .i64), .tree (.int .i64)], 2, [.tree .str, .tree .str, .tree (.int .i64)], [.tree (.int .i64), .tree (.int .i64)], r01_Read_l1 n g⟩ g
  | 0 => loop_zero' fun _ => rfl
  | g + 1 => loop_step' mixed (T := []) tabNil tabLNil (r01_Read_l1_ok n g) fun s => by kernel_rfl
def r01_Read_l0 (n : Nat) : Nat → SgEl [.tree .str, .tree .str, .tree (.int .i64)] → Option (SgEl [.tree .str, .tree .str] ⊕ SgEl [.tree (.int .i64), .tree (.int .i64)])
  | 0, _ => none
  | g + 1, s =>
    bif ilt s.2.2.1 (ssize s.2.1) then
     bif ile (0 : Int) s.2.2.1 then
      bif ilt s.2.2.1 (ssize s.2.1) then
       bif ilt (sat s.2.1 s.2.2.1) (48 : Int) then
        some (Sum.inr ((0 : Int), (2 : Int), ()))
       else
       bif ile (0 : Int) s.2.2.1 then
        bif ilt s.2.2.1 (ssize s.2.1) then
         bif ilt (57 : Int) (sat s.2.1 s.2.2.1) then
          some (Sum.inr ((0 : Int), (2 : Int), ()))
         else
         bindL (r01_Read_l0 n g (s.1, s.2.1, iadd .i64 s.2.2.1 (1 : Int), ())) (fun a1 =>
          some (Sum.inl a1)) fun b2 =>
         some (Sum.inr b2)
        else none
       else none
      else none
     else none
    else
    some (Sum.inl (s.1, s.2.1, ()))
theorem r01_Read_l0_ok (n : Nat) : ∀ g, LEntOk Tryz.prog 154 (nSl r01_Read_sg) ⟨0, [.tree .str, .tree .str, .tree (.int .i64)], 0, [.tree .str, .tree .str], [.tree (.int .i64), .tree (.int .i64)], r01_Read_l0 n g⟩ g
  | 0 => loop_zero' fun _ => rfl
  | g + 1 => loop_step' mixed (T := []) tabNil (tabLCons (r01_Read_l1_ok n n) tabLNil) (r01_Read_l0_ok n g) fun s => by kernel_rfl
def r01_Read (n : Nat) (x : SgEl r01_Read_sg) : Option (RtEl r01_Read_rs × OutEl r01_Read_sg) :=
  bif ilt (1 : Int) (ssize x.1) then
   bif ile (0 : Int) (0 : Int) then
    bif ilt (0 : Int) (ssize x.1) then
     bif ieq (sat x.1 (0 : Int)) (45 : Int) then
      bif ile (0 : Int) (1 : Int) then
       bif ile (1 : Int) (ssize x.1) then
        bif ile (ssize x.1) (ssize x.1) then
         bif ieq (ssize (sext x.1 (1 : Int) (ssize x.1))) (0 : Int) then
          some (((0 : Int), (2 : Int), ()), ((), ()))
         else
         bif ile (0 : Int) (0 : Int) then
          bif ilt (0 : Int) (ssize (sext x.1 (1 : Int) (ssize x.1))) then
           bif ieq (sat (sext x.1 (1 : Int) (ssize x.1)) (0 : Int)) (48 : Int) then
            bif ilt (1 : Int) (ssize x.1) then
             some (((0 : Int), (2 : Int), ()), ((), ()))
            else
            bindL (r01_Read_l0 n n (x.1, sext x.1 (1 : Int) (ssize x.1), (0 : Int), ())) (fun a1 =>
             bindL (r01_Read_l1 n n (a1.1, a1.2.1, (0 : Int), (0 : Int), ())) (fun a3 =>
              bif ilt (ssize a3.2.1) (ssize a3.1) then
               some ((a3.2.2.1, (0 : Int), ()), ((), ()))
              else
              bif ieq a3.2.2.1 (-9223372036854775808 : Int) then
               some (((0 : Int), (3 : Int), ()), ((), ()))
              else
              some ((isub .i64 (0 : Int) a3.2.2.1, (0 : Int), ()), ((), ()))) fun b4 =>
             some (b4, ((), ()))) fun b2 =>
            some (b2, ((), ()))
           else
           bindL (r01_Read_l0 n n (x.1, sext x.1 (1 : Int) (ssize x.1), (0 : Int), ())) (fun a5 =>
            bindL (r01_Read_l1 n n (a5.1, a5.2.1, (0 : Int), (0 : Int), ())) (fun a7 =>
             bif ilt (ssize a7.2.1) (ssize a7.1) then
              some ((a7.2.2.1, (0 : Int), ()), ((), ()))
             else
             bif ieq a7.2.2.1 (-9223372036854775808 : Int) then
              some (((0 : Int), (3 : Int), ()), ((), ()))
             else
             some ((isub .i64 (0 : Int) a7.2.2.1, (0 : Int), ()), ((), ()))) fun b8 =>
            some (b8, ((), ()))) fun b6 =>
           some (b6, ((), ()))
          else none
         else none
        else none
       else none
      else none
     else
     bif ieq (ssize x.1) (0 : Int) then
      some (((0 : Int), (2 : Int), ()), ((), ()))
     else
     bif ile (0 : Int) (0 : Int) then
      bif ilt (0 : Int) (ssize x.1) then
       bif ieq (sat x.1 (0 : Int)) (48 : Int) then
        bif ilt (1 : Int) (ssize x.1) then
         some (((0 : Int), (2 : Int), ()), ((), ()))
        else
        bindL (r01_Read_l0 n n (x.1, x.1, (0 : Int), ())) (fun a9 =>
         bindL (r01_Read_l1 n n (a9.1, a9.2.1, (0 : Int), (0 : Int), ())) (fun a11 =>
          bif ilt (ssize a11.2.1) (ssize a11.1) then
           some ((a11.2.2.1, (0 : Int), ()), ((), ()))
          else
          bif ieq a11.2.2.1 (-9223372036854775808 : Int) then
           some (((0 : Int), (3 : Int), ()), ((), ()))
          else
          some ((isub .i64 (0 : Int) a11.2.2.1, (0 : Int), ()), ((), ()))) fun b12 =>
         some (b12, ((), ()))) fun b10 =>
        some (b10, ((), ()))
       else
       bindL (r01_Read_l0 n n (x.1, x.1, (0 : Int), ())) (fun a13 =>
        bindL (r01_Read_l1 n n (a13.1, a13.2.1, (0 : Int), (0 : Int), ())) (fun a15 =>
         bif ilt (ssize a15.2.1) (ssize a15.1) then
          some ((a15.2.2.1, (0 : Int), ()), ((), ()))
         else
         bif ieq a15.2.2.1 (-9223372036854775808 : Int) then
          some (((0 : Int), (3 : Int), ()), ((), ()))
         else
         some ((isub .i64 (0 : Int) a15.2.2.1, (0 : Int), ()), ((), ()))) fun b16 =>
        some (b16, ((), ()))) fun b14 =>
       some (b14, ((), ()))
      else none
     else none
    else none
   else none
  else
  bif ieq (ssize x.1) (0 : Int) then
   some (((0 : Int), (2 : Int), ()), ((), ()))
  else
  bif ile (0 : Int) (0 : Int) then
   bif ilt (0 : Int) (ssize x.1) then
    bif ieq (sat x.1 (0 : Int)) (48 : Int) then
     bif ilt (1 : Int) (ssize x.1) then
      some (((0 : Int), (2 : Int), ()), ((), ()))
     else
     bindL (r01_Read_l0 n n (x.1, x.1, (0 : Int), ())) (fun a17 =>
      bindL (r01_Read_l1 n n (a17.1, a17.2.1, (0 : Int), (0 : Int), ())) (fun a19 =>
       bif ilt (ssize a19.2.1) (ssize a19.1) then
        some ((a19.2.2.1, (0 : Int), ()), ((), ()))
       else
       bif ieq a19.2.2.1 (-9223372036854775808 : Int) then
        some (((0 : Int), (3 : Int), ()), ((), ()))
       else
       some ((isub .i64 (0 : Int) a19.2.2.1, (0 : Int), ()), ((), ()))) fun b20 =>
      some (b20, ((), ()))) fun b18 =>
     some (b18, ((), ()))
    else
    bindL (r01_Read_l0 n n (x.1, x.1, (0 : Int), ())) (fun a21 =>
     bindL (r01_Read_l1 n n (a21.1, a21.2.1, (0 : Int), (0 : Int), ())) (fun a23 =>
      bif ilt (ssize a23.2.1) (ssize a23.1) then
       some ((a23.2.2.1, (0 : Int), ()), ((), ()))
      else
      bif ieq a23.2.2.1 (-9223372036854775808 : Int) then
       some (((0 : Int), (3 : Int), ()), ((), ()))
      else
      some ((isub .i64 (0 : Int) a23.2.2.1, (0 : Int), ()), ((), ()))) fun b24 =>
     some (b24, ((), ()))) fun b22 =>
    some (b22, ((), ()))
   else none
  else none
abbrev r01_Read_ent (n : Nat) : Ent := ⟨154, r01_Read_sg, r01_Read_rs, r01_Read n⟩
theorem r01_Read_ok (n : Nat) : EntOk Tryz.prog (r01_Read_ent n) := ent_ok' mixed (T := []) tabNil (tabLCons (r01_Read_l0_ok n n) (tabLCons (r01_Read_l1_ok n n) tabLNil)) fun x => by kernel_rfl
abbrev r01_Parse_sg : List Sg := [.tree .str]
abbrev r01_Parse_rs : List Rt := [.tree tSum, .tree (.int .i64)]
def r01_Parse (n : Nat) (x : SgEl r01_Parse_sg) : Option (RtEl r01_Parse_rs × OutEl r01_Parse_sg) :=
  bif ilt (0 : Int) (ssize x.1) then
   bif ile (0 : Int) (isub .i64 (ssize x.1) (1 : Int)) then
    bif ilt (isub .i64 (ssize x.1) (1 : Int)) (ssize x.1) then
     bif ieq (sat x.1 (isub .i64 (ssize x.1) (1 : Int))) (33 : Int) then
      bif ile (0 : Int) (0 : Int) then
       bif ile (0 : Int) (isub .i64 (ssize x.1) (1 : Int)) then
        bif ile (isub .i64 (ssize x.1) (1 : Int)) (ssize x.1) then
         bindN (r01_Read n (sext x.1 (0 : Int) (isub .i64 (ssize x.1) (1 : Int)), ())) fun p1 =>
         bif !(ieq p1.1.2.1 (0 : Int)) then
          some ((((0 : Int), false, ()), p1.1.2), ((), ()))
         else
         some (((p1.1.1, ieq (sat x.1 (isub .i64 (ssize x.1) (1 : Int))) (33 : Int), ()), (0 : Int), ()), ((), ()))
        else none
       else none
      else none
     else
     bindN (r01_Read n x) fun p2 =>
     bif !(ieq p2.1.2.1 (0 : Int)) then
      some ((((0 : Int), false, ()), p2.1.2), ((), ()))
     else
     some (((p2.1.1, ieq (sat x.1 (isub .i64 (ssize x.1) (1 : Int))) (33 : Int), ()), (0 : Int), ()), ((), ()))
    else none
   else none
  else
  bindN (r01_Read n x) fun p3 =>
  bif !(ieq p3.1.2.1 (0 : Int)) then
   some ((((0 : Int), false, ()), p3.1.2), ((), ()))
  else
  some (((p3.1.1, false, ()), (0 : Int), ()), ((), ()))
abbrev r01_Parse_ent (n : Nat) : Ent := ⟨155, r01_Parse_sg, r01_Parse_rs, r01_Parse n⟩
theorem r01_Parse_ok (n : Nat) : EntOk Tryz.prog (r01_Parse_ent n) := ent_ok' mixed (T := [r01_Read_ent n]) (tabCons (r01_Read_ok n) tabNil) tabLNil fun x => by kernel_rfl
abbrev r05_Great_sg : List Sg := [.tree (.slice tMatch)]
abbrev r05_Great_rs : List Rt := [.tree .bool]
def r05_Great_l0 (n : Nat) : Nat → SgEl [.tree (.slice tMatch), .tree (.int .i64)] → Option (SgEl [] ⊕ SgEl [.tree .bool])
  | 0, _ => none
  | g + 1, s =>
    bif ilt s.2.1 (ilen s.1) then
     bif ile (0 : Int) s.2.1 then
      bindN (lat s.1 (iN s.2.1)) fun v1 =>
      bif ilt (100 : Int) (ssize v1.2.1) then
       some (Sum.inr (true, ()))
      else
      bif ile (0 : Int) s.2.1 then
       bindN (lat s.1 (iN s.2.1)) fun v2 =>
       bif ilt (100 : Int) (ssize v2.2.2.1) then
        some (Sum.inr (true, ()))
       else
       bindL (r05_Great_l0 n g (s.1, iadd .i64 s.2.1 (1 : Int), ())) (fun a3 =>
        some (Sum.inl ())) fun b4 =>
       some (Sum.inr b4)
      else none
     else none
    else
    some (Sum.inl ())
theorem r05_Great_l0_ok (n : Nat) : ∀ g, LEntOk Tryz.prog 49 (nSl r05_Great_sg) ⟨0, [.tree (.slice tMatch), .tree (.int .i64)], 0, [], [.tree .bool], r05_Great_l0 n g⟩ g
  | 0 => loop_zero' fun _ => rfl
  | g + 1 => loop_step' mixed (T := []) tabNil tabLNil (r05_Great_l0_ok n g) fun s => by kernel_rfl
def r05_Great (n : Nat) (x : SgEl r05_Great_sg) : Option (RtEl r05_Great_rs × OutEl r05_Great_sg) :=
  bif ilt (20 : Int) (ilen x.1) then
   some ((true, ()), ((), ()))
  else
  bindL (r05_Great_l0 n n (x.1, (0 : Int), ())) (fun a1 =>
   some ((false, ()), ((), ()))) fun b2 =>
  some (b2, ((), ()))
abbrev r05_Great_ent (n : Nat) : Ent := ⟨49, r05_Great_sg, r05_Great_rs, r05_Great n⟩
theorem r05_Great_ok (n : Nat) : EntOk Tryz.prog (r05_Great_ent n) := ent_ok' mixed (T := []) tabNil (tabLCons (r05_Great_l0_ok n n) tabLNil) fun x => by kernel_rfl
abbrev r05_Same_sg : List Sg := [.tree (.slice tMatch), .tree (.slice tMatch)]
abbrev r05_Same_rs : List Rt := [.tree .bool]
def r05_Same_l0 (n : Nat) : Nat → SgEl [.tree (.slice tMatch), .tree (.slice tMatch), .tree (.int .i64)] → Option (SgEl [] ⊕ SgEl [.tree .bool])
  | 0, _ => none
  | g + 1, s =>
    bif ilt s.2.2.1 (ilen s.1) then
     bif ile (0 : Int) s.2.2.1 then
      bindN (lat s.1 (iN s.2.2.1)) fun v1 =>
      bif ile (0 : Int) s.2.2.1 then
       bindN (lat s.2.1 (iN s.2.2.1)) fun v2 =>
       bif !(ieq v1.1 v2.1 && (seq v1.2.1 v2.2.1 && (seq v1.2.2.1 v2.2.2.1 && true))) then
        some (Sum.inr (false, ()))
       else
       bindL (r05_Same_l0 n g (s.1, s.2.1, iadd .i64 s.2.2.1 (1 : Int), ())) (fun a3 =>
        some (Sum.inl ())) fun b4 =>
       some (Sum.inr b4)
      else none
     else none
    else
    some (Sum.inl ())
theorem r05_Same_l0_ok (n : Nat) : ∀ g, LEntOk Tryz.prog 64 (nSl r05_Same_sg) ⟨0, [.tree (.slice tMatch), .tree (.slice tMatch), .tree (.int .i64)], 0, [], [.tree .bool], r05_Same_l0 n g⟩ g
  | 0 => loop_zero' fun _ => rfl
  | g + 1 => loop_step' mixed (T := []) tabNil tabLNil (r05_Same_l0_ok n g) fun s => by kernel_rfl
def r05_Same (n : Nat) (x : SgEl r05_Same_sg) : Option (RtEl r05_Same_rs × OutEl r05_Same_sg) :=
  bif !(ieq (ilen x.1) (ilen x.2.1)) then
   some ((false, ()), ((), (), ()))
  else
  bindL (r05_Same_l0 n n (x.1, x.2.1, (0 : Int), ())) (fun a1 =>
   some ((true, ()), ((), (), ()))) fun b2 =>
  some (b2, ((), (), ()))
abbrev r05_Same_ent (n : Nat) : Ent := ⟨64, r05_Same_sg, r05_Same_rs, r05_Same n⟩
theorem r05_Same_ok (n : Nat) : EntOk Tryz.prog (r05_Same_ent n) := ent_ok' mixed (T := []) tabNil (tabLCons (r05_Same_l0_ok n n) tabLNil) fun x => by kernel_rfl
abbrev r07_Great_sg : List Sg := [.tree tQuery]
abbrev r07_Great_rs : List Rt := [.tree .bool]
def r07_Great_l0 (n : Nat) : Nat → SgEl [.boxr tQuery, .tree (.int .i64)] → Option (SgEl [] ⊕ SgEl [.tree .bool])
  | 0, _ => none
  | g + 1, s =>
    bif ilt s.2.1 (ilen s.1.2.2.2.1) then
     bif ile (0 : Int) s.2.1 then
      bindN (lat s.1.2.2.2.1 (iN s.2.1)) fun v1 =>
      bif ilt (100 : Int) (ssize v1) then
       some (Sum.inr (true, ()))
      else
      bindL (r07_Great_l0 n g (s.1, iadd .i64 s.2.1 (1 : Int), ())) (fun a2 =>
       some (Sum.inl ())) fun b3 =>
      some (Sum.inr b3)
     else none
    else
    some (Sum.inl ())
theorem r07_Great_l0_ok (n : Nat) : ∀ g, LEntOk Tryz.prog 13 (nSl r07_Great_sg) ⟨0, [.boxr tQuery, .tree (.int .i64)], 0, [], [.tree .bool], r07_Great_l0 n g⟩ g
  | 0 => loop_zero' fun _ => rfl
  | g + 1 => loop_step' mixed (T := [r05_Great_ent n]) (tabCons (r05_Great_ok n) tabNil) tabLNil (r07_Great_l0_ok n g) fun s => by kernel_rfl
def r07_Great (n : Nat) (x : SgEl r07_Great_sg) : Option (RtEl r07_Great_rs × OutEl r07_Great_sg) :=
  bif ilt (200 : Int) (ssize x.1.2.1) then
   some ((true, ()), ((), ()))
  else
  bindN (r05_Great n (x.1.2.2.1, ())) fun p1 =>
  bif p1.1.1 then
   some ((true, ()), ((), ()))
  else
  bif ilt (20 : Int) (ilen x.1.2.2.2.1) then
   some ((true, ()), ((), ()))
  else
  bindL (r07_Great_l0 n n (x.1, (0 : Int), ())) (fun a2 =>
   some ((false, ()), ((), ()))) fun b3 =>
  some (b3, ((), ()))
abbrev r07_Great_ent (n : Nat) : Ent := ⟨13, r07_Great_sg, r07_Great_rs, r07_Great n⟩
theorem r07_Great_ok (n : Nat) : EntOk Tryz.prog (r07_Great_ent n) := ent_ok' mixed (T := [r05_Great_ent n]) (tabCons (r05_Great_ok n) tabNil) (tabLCons (r07_Great_l0_ok n n) tabLNil) fun x => by kernel_rfl
abbrev r07_Same_sg : List Sg := [.tree tQuery, .tree tQuery]
abbrev r07_Same_rs : List Rt := [.tree .bool]
def r07_Same (n : Nat) (x : SgEl r07_Same_sg) : Option (RtEl r07_Same_rs × OutEl r07_Same_sg) :=
  bif ieq x.1.1 x.2.1.1 then
   bif seq x.1.2.1 x.2.1.2.1 then
    bindN (r05_Same n (x.1.2.2.1, x.2.1.2.2.1, ())) fun p1 =>
    bif p1.1.1 then
     bindN (r02_Same n (x.1.2.2.2.1, x.2.1.2.2.2)) fun p2 =>
     some (p2.1, ((), (), ()))
    else
    some ((false, ()), ((), (), ()))
   else
   some ((false, ()), ((), (), ()))
  else
  some ((false, ()), ((), (), ()))
abbrev r07_Same_ent (n : Nat) : Ent := ⟨19, r07_Same_sg, r07_Same_rs, r07_Same n⟩
theorem r07_Same_ok (n : Nat) : EntOk Tryz.prog (r07_Same_ent n) := ent_ok' mixed (T := [r05_Same_ent n, r02_Same_ent n]) (tabCons (r05_Same_ok n) (tabCons (r02_Same_ok n) tabNil)) tabLNil fun x => by kernel_rfl
abbrev r08_Before_sg : List Sg := [.tree tRow, .tree tRow]
abbrev r08_Before_rs : List Rt := [.tree .bool]
def r08_Before (n : Nat) (x : SgEl r08_Before_sg) : Option (RtEl r08_Before_rs × OutEl r08_Before_sg) :=
  bif ilt x.1.1 x.2.1.1 then
   some ((true, ()), ((), (), ()))
  else
  bif ieq x.1.1 x.2.1.1 then
   some ((slt x.1.2.1 x.2.1.2.1, ()), ((), (), ()))
  else
  some ((false, ()), ((), (), ()))
abbrev r08_Before_ent (n : Nat) : Ent := ⟨132, r08_Before_sg, r08_Before_rs, r08_Before n⟩
theorem r08_Before_ok (n : Nat) : EntOk Tryz.prog (r08_Before_ent n) := ent_ok' mixed (T := []) tabNil tabLNil fun x => by kernel_rfl
abbrev r08_group_sg : List Sg := [.tree .str]
abbrev r08_group_rs : List Rt := [.tree (.int .i64)]
def r08_group (n : Nat) (x : SgEl r08_group_sg) : Option (RtEl r08_group_rs × OutEl r08_group_sg) :=
  bindN (r03_Parse n x) fun p1 =>
  bif !(ieq p1.1.2.1 (0 : Int)) then
   some (p1.1.2, ((), ()))
  else
  bindN (r03_Text n (p1.1.1, ())) fun p2 =>
  bif !(seq p2.1.1 x.1) then
   some (((2 : Int), ()), ((), ()))
  else
  some (((0 : Int), ()), ((), ()))
abbrev r08_group_ent (n : Nat) : Ent := ⟨93, r08_group_sg, r08_group_rs, r08_group n⟩
theorem r08_group_ok (n : Nat) : EntOk Tryz.prog (r08_group_ent n) := ent_ok' mixed (T := [r03_Parse_ent n, r03_Text_ent n]) (tabCons (r03_Parse_ok n) (tabCons (r03_Text_ok n) tabNil)) tabLNil fun x => by kernel_rfl
abbrev r08_rise_sg : List Sg := [.tree (.slice tRow)]
abbrev r08_rise_rs : List Rt := [.tree .bool]
def r08_rise_l0 (n : Nat) : Nat → SgEl [.tree (.slice tRow), .tree (.int .i64)] → Option (SgEl [] ⊕ SgEl [.tree .bool])
  | 0, _ => none
  | g + 1, s =>
    bif ilt s.2.1 (ilen s.1) then
     bif ile (0 : Int) (isub .i64 s.2.1 (1 : Int)) then
      bindN (lat s.1 (iN (isub .i64 s.2.1 (1 : Int)))) fun v1 =>
      bif ile (0 : Int) s.2.1 then
       bindN (lat s.1 (iN s.2.1)) fun v2 =>
       bindN (r08_Before n (v1, v2, ())) fun p3 =>
       bif !p3.1.1 then
        some (Sum.inr (false, ()))
       else
       bindL (r08_rise_l0 n g (s.1, iadd .i64 s.2.1 (1 : Int), ())) (fun a4 =>
        some (Sum.inl ())) fun b5 =>
       some (Sum.inr b5)
      else none
     else none
    else
    some (Sum.inl ())
theorem r08_rise_l0_ok (n : Nat) : ∀ g, LEntOk Tryz.prog 94 (nSl r08_rise_sg) ⟨0, [.tree (.slice tRow), .tree (.int .i64)], 0, [], [.tree .bool], r08_rise_l0 n g⟩ g
  | 0 => loop_zero' fun _ => rfl
  | g + 1 => loop_step' mixed (T := [r08_Before_ent n]) (tabCons (r08_Before_ok n) tabNil) tabLNil (r08_rise_l0_ok n g) fun s => by kernel_rfl
def r08_rise (n : Nat) (x : SgEl r08_rise_sg) : Option (RtEl r08_rise_rs × OutEl r08_rise_sg) :=
  bindL (r08_rise_l0 n n (x.1, (1 : Int), ())) (fun a1 =>
   some ((true, ()), ((), ()))) fun b2 =>
  some (b2, ((), ()))
abbrev r08_rise_ent (n : Nat) : Ent := ⟨94, r08_rise_sg, r08_rise_rs, r08_rise n⟩
theorem r08_rise_ok (n : Nat) : EntOk Tryz.prog (r08_rise_ent n) := ent_ok' mixed (T := [r08_Before_ent n]) (tabCons (r08_Before_ok n) tabNil) (tabLCons (r08_rise_l0_ok n n) tabLNil) fun x => by kernel_rfl
abbrev r08_Right_sg : List Sg := [.tree (.slice tRow)]
abbrev r08_Right_rs : List Rt := [.tree .bool]
def r08_Right_l0 (n : Nat) : Nat → SgEl [.tree (.slice tRow), .tree (.int .i64)] → Option (SgEl [.tree (.slice tRow)] ⊕ SgEl [.tree .bool])
  | 0, _ => none
  | g + 1, s =>
    bif ilt s.2.1 (ilen s.1) then
     bif ile (0 : Int) s.2.1 then
      bindN (lat s.1 (iN s.2.1)) fun v1 =>
      bindN (r08_group n (v1.2.1, ())) fun p2 =>
      bif !(ieq p2.1.1 (0 : Int)) then
       some (Sum.inr (false, ()))
      else
      bindL (r08_Right_l0 n g (s.1, iadd .i64 s.2.1 (1 : Int), ())) (fun a3 =>
       some (Sum.inl a3)) fun b4 =>
      some (Sum.inr b4)
     else none
    else
    some (Sum.inl (s.1, ()))
theorem r08_Right_l0_ok (n : Nat) : ∀ g, LEntOk Tryz.prog 45 (nSl r08_Right_sg) ⟨0, [.tree (.slice tRow), .tree (.int .i64)], 0, [.tree (.slice tRow)], [.tree .bool], r08_Right_l0 n g⟩ g
  | 0 => loop_zero' fun _ => rfl
  | g + 1 => loop_step' mixed (T := [r08_group_ent n, r08_rise_ent n]) (tabCons (r08_group_ok n) (tabCons (r08_rise_ok n) tabNil)) tabLNil (r08_Right_l0_ok n g) fun s => by kernel_rfl
def r08_Right (n : Nat) (x : SgEl r08_Right_sg) : Option (RtEl r08_Right_rs × OutEl r08_Right_sg) :=
  bindL (r08_Right_l0 n n (x.1, (0 : Int), ())) (fun a1 =>
   bindN (r08_rise n a1) fun p3 =>
   some (p3.1, ((), ()))) fun b2 =>
  some (b2, ((), ()))
abbrev r08_Right_ent (n : Nat) : Ent := ⟨45, r08_Right_sg, r08_Right_rs, r08_Right n⟩
theorem r08_Right_ok (n : Nat) : EntOk Tryz.prog (r08_Right_ent n) := ent_ok' mixed (T := [r08_group_ent n, r08_rise_ent n]) (tabCons (r08_group_ok n) (tabCons (r08_rise_ok n) tabNil)) (tabLCons (r08_Right_l0_ok n n) tabLNil) fun x => by kernel_rfl
abbrev r08_one_sg : List Sg := [.tree .str]
abbrev r08_one_rs : List Rt := [.tree tRow, .tree (.int .i64)]
def r08_one (n : Nat) (x : SgEl r08_one_sg) : Option (RtEl r08_one_rs × OutEl r08_one_sg) :=
  bindN (r02_Split n (x.1, (124 : Int), ())) fun p1 =>
  bif !(ieq (ilen p1.1.1) (3 : Int)) then
   some ((((0 : Int), (⟨#[]⟩ : ByteArray), ((0 : Int), false, ()), ()), (2 : Int), ()), ((), ()))
  else
  bif ile (0 : Int) (0 : Int) then
   bindN (lat p1.1.1 (iN (0 : Int))) fun v2 =>
   bindN (r01_Read n (v2, ())) fun p3 =>
   bif !(ieq p3.1.2.1 (0 : Int)) then
    some ((((0 : Int), (⟨#[]⟩ : ByteArray), ((0 : Int), false, ()), ()), p3.1.2), ((), ()))
   else
   bif ile (0 : Int) (1 : Int) then
    bindN (lat p1.1.1 (iN (1 : Int))) fun v4 =>
    bindN (r08_group n (v4, ())) fun p5 =>
    bif !(ieq p5.1.1 (0 : Int)) then
     some ((((0 : Int), (⟨#[]⟩ : ByteArray), ((0 : Int), false, ()), ()), p5.1), ((), ()))
    else
    bif ile (0 : Int) (2 : Int) then
     bindN (lat p1.1.1 (iN (2 : Int))) fun v6 =>
     bindN (r01_Parse n (v6, ())) fun p7 =>
     bif !(ieq p7.1.2.1 (0 : Int)) then
      some ((((0 : Int), (⟨#[]⟩ : ByteArray), ((0 : Int), false, ()), ()), p7.1.2), ((), ()))
     else
     bif ile (0 : Int) (1 : Int) then
      bindN (lat p1.1.1 (iN (1 : Int))) fun v8 =>
      some (((p3.1.1, v8, p7.1.1, ()), (0 : Int), ()), ((), ()))
     else none
    else none
   else none
  else none
abbrev r08_one_ent (n : Nat) : Ent := ⟨123, r08_one_sg, r08_one_rs, r08_one n⟩
theorem r08_one_ok (n : Nat) : EntOk Tryz.prog (r08_one_ent n) := ent_ok' mixed (T := [r02_Split_ent n, r01_Read_ent n, r08_group_ent n, r01_Parse_ent n]) (tabCons (r02_Split_ok n) (tabCons (r01_Read_ok n) (tabCons (r08_group_ok n) (tabCons (r01_Parse_ok n) tabNil)))) tabLNil fun x => by kernel_rfl
abbrev r08_Parse_sg : List Sg := [.tree .str]
abbrev r08_Parse_rs : List Rt := [.tree (.slice tRow), .tree (.int .i64)]
def r08_Parse_l0 (n : Nat) : Nat → SgEl [.own tRow, .tree (.slice .str), .tree (.int .i64)] → Option (SgEl [.own tRow] ⊕ SgEl [.tree (.slice tRow), .tree (.int .i64)])
  | 0, _ => none
  | g + 1, s =>
    bif ilt s.2.2.1 (ilen s.2.1) then
     bif ile (0 : Int) s.2.2.1 then
      bindN (lat s.2.1 (iN s.2.2.1)) fun v1 =>
      bindN (r08_one n (v1, ())) fun p2 =>
      bif !(ieq p2.1.2.1 (0 : Int)) then
       some (Sum.inr ([], p2.1.2))
      else
      bif roomA s.1 [p2.1.1] 40 then
       bindL (r08_Parse_l0 n g (app s.1 [p2.1.1], s.2.1, iadd .i64 s.2.2.1 (1 : Int), ())) (fun a3 =>
        some (Sum.inl a3)) fun b4 =>
       some (Sum.inr b4)
      else none
     else none
    else
    some (Sum.inl (s.1, ()))
theorem r08_Parse_l0_ok (n : Nat) : ∀ g, LEntOk Tryz.prog 79 (nSl r08_Parse_sg) ⟨0, [.own tRow, .tree (.slice .str), .tree (.int .i64)], 0, [.own tRow], [.tree (.slice tRow), .tree (.int .i64)], r08_Parse_l0 n g⟩ g
  | 0 => loop_zero' fun _ => rfl
  | g + 1 => loop_step' mixed (T := [r02_Split_ent n, r08_one_ent n, r08_rise_ent n]) (tabCons (r02_Split_ok n) (tabCons (r08_one_ok n) (tabCons (r08_rise_ok n) tabNil))) tabLNil (r08_Parse_l0_ok n g) fun s => by kernel_rfl
def r08_Parse (n : Nat) (x : SgEl r08_Parse_sg) : Option (RtEl r08_Parse_rs × OutEl r08_Parse_sg) :=
  bif seq x.1 (⟨#[45]⟩ : ByteArray) then
   some (([], (0 : Int), ()), ((), ()))
  else
  bindN (r02_Split n (x.1, (59 : Int), ())) fun p1 =>
  bindL (r08_Parse_l0 n n ([], p1.1.1, (0 : Int), ())) (fun a2 =>
   bindN (r08_rise n a2) fun p4 =>
   bif !p4.1.1 then
    some (([], (9 : Int), ()), ((), ()))
   else
   some ((a2.1, (0 : Int), ()), ((), ()))) fun b3 =>
  some (b3, ((), ()))
abbrev r08_Parse_ent (n : Nat) : Ent := ⟨79, r08_Parse_sg, r08_Parse_rs, r08_Parse n⟩
theorem r08_Parse_ok (n : Nat) : EntOk Tryz.prog (r08_Parse_ent n) := ent_ok' mixed (T := [r02_Split_ent n, r08_one_ent n, r08_rise_ent n]) (tabCons (r02_Split_ok n) (tabCons (r08_one_ok n) (tabCons (r08_rise_ok n) tabNil))) (tabLCons (r08_Parse_l0_ok n n) tabLNil) fun x => by kernel_rfl
abbrev r08_Same_sg : List Sg := [.tree (.slice tRow), .tree (.slice tRow)]
abbrev r08_Same_rs : List Rt := [.tree .bool]
def r08_Same_l0 (n : Nat) : Nat → SgEl [.tree (.slice tRow), .tree (.slice tRow), .tree (.int .i64)] → Option (SgEl [] ⊕ SgEl [.tree .bool])
  | 0, _ => none
  | g + 1, s =>
    bif ilt s.2.2.1 (ilen s.1) then
     bif ile (0 : Int) s.2.2.1 then
      bindN (lat s.1 (iN s.2.2.1)) fun v1 =>
      bif ile (0 : Int) s.2.2.1 then
       bindN (lat s.2.1 (iN s.2.2.1)) fun v2 =>
       bif !(ieq v1.1 v2.1 && (seq v1.2.1 v2.2.1 && (ieq v1.2.2.1.1 v2.2.2.1.1 && (beqB v1.2.2.1.2.1 v2.2.2.1.2.1 && true)))) then
        some (Sum.inr (false, ()))
       else
       bindL (r08_Same_l0 n g (s.1, s.2.1, iadd .i64 s.2.2.1 (1 : Int), ())) (fun a3 =>
        some (Sum.inl ())) fun b4 =>
       some (Sum.inr b4)
      else none
     else none
    else
    some (Sum.inl ())
theorem r08_Same_l0_ok (n : Nat) : ∀ g, LEntOk Tryz.prog 44 (nSl r08_Same_sg) ⟨0, [.tree (.slice tRow), .tree (.slice tRow), .tree (.int .i64)], 0, [], [.tree .bool], r08_Same_l0 n g⟩ g
  | 0 => loop_zero' fun _ => rfl
  | g + 1 => loop_step' mixed (T := []) tabNil tabLNil (r08_Same_l0_ok n g) fun s => by kernel_rfl
def r08_Same (n : Nat) (x : SgEl r08_Same_sg) : Option (RtEl r08_Same_rs × OutEl r08_Same_sg) :=
  bif !(ieq (ilen x.1) (ilen x.2.1)) then
   some ((false, ()), ((), (), ()))
  else
  bindL (r08_Same_l0 n n (x.1, x.2.1, (0 : Int), ())) (fun a1 =>
   some ((true, ()), ((), (), ()))) fun b2 =>
  some (b2, ((), (), ()))
abbrev r08_Same_ent (n : Nat) : Ent := ⟨44, r08_Same_sg, r08_Same_rs, r08_Same n⟩
theorem r08_Same_ok (n : Nat) : EntOk Tryz.prog (r08_Same_ent n) := ent_ok' mixed (T := []) tabNil (tabLCons (r08_Same_l0_ok n n) tabLNil) fun x => by kernel_rfl
abbrev r08_Great_sg : List Sg := [.tree (.slice tRow)]
abbrev r08_Great_rs : List Rt := [.tree .bool]
def r08_Great_l0 (n : Nat) : Nat → SgEl [.tree (.slice tRow), .tree (.int .i64)] → Option (SgEl [] ⊕ SgEl [.tree .bool])
  | 0, _ => none
  | g + 1, s =>
    bif ilt s.2.1 (ilen s.1) then
     bif ile (0 : Int) s.2.1 then
      bindN (lat s.1 (iN s.2.1)) fun v1 =>
      bif ilt (300 : Int) (ssize v1.2.1) then
       some (Sum.inr (true, ()))
      else
      bindL (r08_Great_l0 n g (s.1, iadd .i64 s.2.1 (1 : Int), ())) (fun a2 =>
       some (Sum.inl ())) fun b3 =>
      some (Sum.inr b3)
     else none
    else
    some (Sum.inl ())
theorem r08_Great_l0_ok (n : Nat) : ∀ g, LEntOk Tryz.prog 29 (nSl r08_Great_sg) ⟨0, [.tree (.slice tRow), .tree (.int .i64)], 0, [], [.tree .bool], r08_Great_l0 n g⟩ g
  | 0 => loop_zero' fun _ => rfl
  | g + 1 => loop_step' mixed (T := []) tabNil tabLNil (r08_Great_l0_ok n g) fun s => by kernel_rfl
def r08_Great (n : Nat) (x : SgEl r08_Great_sg) : Option (RtEl r08_Great_rs × OutEl r08_Great_sg) :=
  bif ilt (100 : Int) (ilen x.1) then
   some ((true, ()), ((), ()))
  else
  bindL (r08_Great_l0 n n (x.1, (0 : Int), ())) (fun a1 =>
   some ((false, ()), ((), ()))) fun b2 =>
  some (b2, ((), ()))
abbrev r08_Great_ent (n : Nat) : Ent := ⟨29, r08_Great_sg, r08_Great_rs, r08_Great n⟩
theorem r08_Great_ok (n : Nat) : EntOk Tryz.prog (r08_Great_ent n) := ent_ok' mixed (T := []) tabNil (tabLCons (r08_Great_l0_ok n n) tabLNil) fun x => by kernel_rfl
abbrev r09_find_sg : List Sg := [.tree (.slice tRow), .tree tRow]
abbrev r09_find_rs : List Rt := [.tree (.int .i64)]
def r09_find_l0 (n : Nat) : Nat → SgEl [.tree (.slice tRow), .boxr tRow, .tree (.int .i64)] → Option (SgEl [] ⊕ SgEl [.tree (.int .i64)])
  | 0, _ => none
  | g + 1, s =>
    bif ilt s.2.2.1 (ilen s.1) then
     bif ile (0 : Int) s.2.2.1 then
      bindN (lat s.1 (iN s.2.2.1)) fun v1 =>
      bif ieq v1.1 s.2.1.1 then
       bif ile (0 : Int) s.2.2.1 then
        bindN (lat s.1 (iN s.2.2.1)) fun v2 =>
        bif seq v2.2.1 s.2.1.2.1 then
         some (Sum.inr s.2.2)
        else
        bindL (r09_find_l0 n g (s.1, s.2.1, iadd .i64 s.2.2.1 (1 : Int), ())) (fun a3 =>
         some (Sum.inl ())) fun b4 =>
        some (Sum.inr b4)
       else none
      else
      bindL (r09_find_l0 n g (s.1, s.2.1, iadd .i64 s.2.2.1 (1 : Int), ())) (fun a5 =>
       some (Sum.inl ())) fun b6 =>
      some (Sum.inr b6)
     else none
    else
    some (Sum.inl ())
theorem r09_find_l0_ok (n : Nat) : ∀ g, LEntOk Tryz.prog 95 (nSl r09_find_sg) ⟨0, [.tree (.slice tRow), .boxr tRow, .tree (.int .i64)], 0, [], [.tree (.int .i64)], r09_find_l0 n g⟩ g
  | 0 => loop_zero' fun _ => rfl
  | g + 1 => loop_step' mixed (T := []) tabNil tabLNil (r09_find_l0_ok n g) fun s => by kernel_rfl
def r09_find (n : Nat) (x : SgEl r09_find_sg) : Option (RtEl r09_find_rs × OutEl r09_find_sg) :=
  bindL (r09_find_l0 n n (x.1, x.2.1, (0 : Int), ())) (fun a1 =>
   some (((-1 : Int), ()), ((), (), ()))) fun b2 =>
  some (b2, ((), (), ()))
abbrev r09_find_ent (n : Nat) : Ent := ⟨95, r09_find_sg, r09_find_rs, r09_find n⟩
theorem r09_find_ok (n : Nat) : EntOk Tryz.prog (r09_find_ent n) := ent_ok' mixed (T := []) tabNil (tabLCons (r09_find_l0_ok n n) tabLNil) fun x => by kernel_rfl
abbrev r09_into_sg : List Sg := [.ownx tChange, .tree tChange]
abbrev r09_into_rs : List Rt := [.own tChange]
def r09_into_l0 (n : Nat) : Nat → SgEl [.own tChange, .boxr tChange, .tree (.int .i64)] → Option (SgEl [.own tChange, .boxr tChange, .tree (.int .i64)] ⊕ SgEl [])
  | 0, _ => none
  | g + 1, s =>
    bif ilt s.2.2.1 (ilen s.1) then
     bif ile (0 : Int) s.2.2.1 then
      bindN (lat s.1 (iN s.2.2.1)) fun v1 =>
      bindN (lat s.1 (iN s.2.2.1)) fun v2 =>
      bindN (r08_Before n (v2.1, s.2.1.1, ())) fun p3 =>
      bif p3.1.1 then
       bindL (r09_into_l0 n g (s.1, s.2.1, iadd .i64 s.2.2.1 (1 : Int), ())) (fun a4 =>
        some (Sum.inl a4)) fun b5 =>
       some (Sum.inr ())
      else
      some (Sum.inl s)
     else none
    else
    some (Sum.inl s)
theorem r09_into_l0_ok (n : Nat) : ∀ g, LEntOk Tryz.prog 96 (nSl r09_into_sg) ⟨0, [.own tChange, .boxr tChange, .tree (.int .i64)], 0, [.own tChange, .boxr tChange, .tree (.int .i64)], [], r09_into_l0 n g⟩ g
  | 0 => loop_zero' fun _ => rfl
  | g + 1 => loop_step' mixed (T := [r08_Before_ent n]) (tabCons (r08_Before_ok n) tabNil) tabLNil (r09_into_l0_ok n g) fun s => by kernel_rfl
def r09_into (n : Nat) (x : SgEl r09_into_sg) : Option (RtEl r09_into_rs × OutEl r09_into_sg) :=
  bindL (r09_into_l0 n n (x.1, x.2.1, (0 : Int), ())) (fun a1 =>
   bif ile (0 : Int) a1.2.2.1 then
    bif ile a1.2.2.1 (ilen a1.1) then
     bif ile (ilen a1.1) (ilen a1.1) then
      bif roomA ([] : List (El tChange)) (win a1.1 (iN a1.2.2.1) (iN (ilen a1.1) - iN a1.2.2.1)) 48 then
       bif ile (0 : Int) (0 : Int) then
        bif ile (0 : Int) a1.2.2.1 then
         bif ile a1.2.2.1 (ilen a1.1) then
          bif roomA (win a1.1 0 (iN a1.2.2.1 - iN (0 : Int))) [a1.2.1] 48 then
           bif roomA (app (win a1.1 0 (iN a1.2.2.1 - iN (0 : Int))) [a1.2.1]) (app ([] : List (El tChange)) (win a1.1 (iN a1.2.2.1) (iN (ilen a1.1) - iN a1.2.2.1))) 48 then
            some ((app (app (win a1.1 0 (iN a1.2.2.1 - iN (0 : Int))) [a1.2.1]) (app ([] : List (El tChange)) (win a1.1 (iN a1.2.2.1) (iN (ilen a1.1) - iN a1.2.2.1))), ()), ((), (), ()))
           else none
          else none
         else none
        else none
       else none
      else none
     else none
    else none
   else none) fun b2 =>
  none
abbrev r09_into_ent (n : Nat) : Ent := ⟨96, r09_into_sg, r09_into_rs, r09_into n⟩
theorem r09_into_ok (n : Nat) : EntOk Tryz.prog (r09_into_ent n) := ent_ok' mixed (T := [r08_Before_ent n]) (tabCons (r08_Before_ok n) tabNil) (tabLCons (r09_into_l0_ok n n) tabLNil) fun x => by kernel_rfl
abbrev r09_Of_sg : List Sg := [.tree (.slice tRow), .tree (.slice tRow)]
abbrev r09_Of_rs : List Rt := [.tree (.slice tChange), .tree (.int .i64)]
def r09_Of_l1 (n : Nat) : Nat → SgEl [.tree (.slice tRow), .tree (.slice tRow), .own tChange, .tree (.int .i64)] → Option (SgEl [.own tChange] ⊕ SgEl [])
  | 0, _ => none
  | g + 1, s =>
    bif ilt s.2.2.2.1 (ilen s.2.1) then
     bif ile (0 : Int) s.2.2.2.1 then
      bindN (lat s.2.1 (iN s.2.2.2.1)) fun v1 =>
      bindN (r09_find n (s.1, v1, ())) fun p2 =>
      bif ilt p2.1.1 (0 : Int) then
       bif ile (0 : Int) s.2.2.2.1 then
        bindN (lat s.2.1 (iN s.2.2.2.1)) fun v3 =>
        bindN (r09_into n (s.2.2.1, (v3, false, ()), ())) fun p4 =>
        bindL (r09_Of_l1 n g (s.1, s.2.1, p4.1.1, iadd .i64 s.2.2.2.1 (1 : Int), ())) (fun a5 =>
         some (Sum.inl a5)) fun b6 =>
        some (Sum.inr ())
       else none
      else
      bif ile (0 : Int) p2.1.1 then
       bindN (lat s.1 (iN p2.1.1)) fun v7 =>
       bif ile (0 : Int) s.2.2.2.1 then
        bindN (lat s.2.1 (iN s.2.2.2.1)) fun v8 =>
        bif !(ieq v7.2.2.1.1 v8.2.2.1.1 && (beqB v7.2.2.1.2.1 v8.2.2.1.2.1 && true)) then
         bif ile (0 : Int) s.2.2.2.1 then
          bindN (lat s.2.1 (iN s.2.2.2.1)) fun v9 =>
          bindN (r09_into n (s.2.2.1, (v9, false, ()), ())) fun p10 =>
          bindL (r09_Of_l1 n g (s.1, s.2.1, p10.1.1, iadd .i64 s.2.2.2.1 (1 : Int), ())) (fun a11 =>
           some (Sum.inl a11)) fun b12 =>
          some (Sum.inr ())
         else none
        else
        bindL (r09_Of_l1 n g (s.1, s.2.1, s.2.2.1, iadd .i64 s.2.2.2.1 (1 : Int), ())) (fun a13 =>
         some (Sum.inl a13)) fun b14 =>
        some (Sum.inr ())
       else none
      else none
     else none
    else
    some (Sum.inl (s.2.2.1, ()))
theorem r09_Of_l1_ok (n : Nat) : ∀ g, LEntOk Tryz.prog 47 (nSl r09_Of_sg) ⟨1, [.tree (.slice tRow), .tree (.slice tRow), .own tChange, .tree (.int .i64)], 2, [.own tChange], [], r09_Of_l1 n g⟩ g
  | 0 => loop_zero' fun _ => rfl
  | g + 1 => loop_step' mixed (T := [r08_Right_ent n, r09_find_ent n, r09_into_ent n]) (tabCons (r08_Right_ok n) (tabCons (r09_find_ok n) (tabCons (r09_into_ok n) tabNil))) tabLNil (r09_Of_l1_ok n g) fun s => by kernel_rfl
def r09_Of_l0 (n : Nat) : Nat → SgEl [.tree (.slice tRow), .tree (.slice tRow), .own tChange, .tree (.int .i64)] → Option (SgEl [.tree (.slice tRow), .tree (.slice tRow), .own tChange] ⊕ SgEl [])
  | 0, _ => none
  | g + 1, s =>
    bif ilt s.2.2.2.1 (ilen s.1) then
     bif ile (0 : Int) s.2.2.2.1 then
      bindN (lat s.1 (iN s.2.2.2.1)) fun v1 =>
      bindN (r09_find n (s.2.1, v1, ())) fun p2 =>
      bif ilt p2.1.1 (0 : Int) then
       bif ile (0 : Int) s.2.2.2.1 then
        bindN (lat s.1 (iN s.2.2.2.1)) fun v3 =>
        bif ile (0 : Int) s.2.2.2.1 then
         bindN (lat s.1 (iN s.2.2.2.1)) fun v4 =>
         bindN (r09_into n (s.2.2.1, ((v3.1, v4.2.1, ((0 : Int), false, ()), ()), true, ()), ())) fun p5 =>
         bindL (r09_Of_l0 n g (s.1, s.2.1, p5.1.1, iadd .i64 s.2.2.2.1 (1 : Int), ())) (fun a6 =>
          some (Sum.inl a6)) fun b7 =>
         some (Sum.inr ())
        else none
       else none
      else
      bindL (r09_Of_l0 n g (s.1, s.2.1, s.2.2.1, iadd .i64 s.2.2.2.1 (1 : Int), ())) (fun a8 =>
       some (Sum.inl a8)) fun b9 =>
      some (Sum.inr ())
     else none
    else
    some (Sum.inl (s.1, s.2.1, s.2.2.1, ()))
theorem r09_Of_l0_ok (n : Nat) : ∀ g, LEntOk Tryz.prog 47 (nSl r09_Of_sg) ⟨0, [.tree (.slice tRow), .tree (.slice tRow), .own tChange, .tree (.int .i64)], 0, [.tree (.slice tRow), .tree (.slice tRow), .own tChange], [], r09_Of_l0 n g⟩ g
  | 0 => loop_zero' fun _ => rfl
  | g + 1 => loop_step' mixed (T := [r08_Right_ent n, r09_find_ent n, r09_into_ent n]) (tabCons (r08_Right_ok n) (tabCons (r09_find_ok n) (tabCons (r09_into_ok n) tabNil))) (tabLCons (r09_Of_l1_ok n n) tabLNil) (r09_Of_l0_ok n g) fun s => by kernel_rfl
def r09_Of (n : Nat) (x : SgEl r09_Of_sg) : Option (RtEl r09_Of_rs × OutEl r09_Of_sg) :=
  bindN (r08_Right n (x.1, ())) fun p1 =>
  bif !p1.1.1 then
   some (([], (9 : Int), ()), ((), (), ()))
  else
  bindN (r08_Right n x.2) fun p2 =>
  bif !p2.1.1 then
   some (([], (9 : Int), ()), ((), (), ()))
  else
  bindL (r09_Of_l0 n n (x.1, x.2.1, [], (0 : Int), ())) (fun a3 =>
   bindL (r09_Of_l1 n n (a3.1, a3.2.1, a3.2.2.1, (0 : Int), ())) (fun a5 =>
    some ((a5.1, (0 : Int), ()), ((), (), ()))) fun b6 =>
   none) fun b4 =>
  none
abbrev r09_Of_ent (n : Nat) : Ent := ⟨47, r09_Of_sg, r09_Of_rs, r09_Of n⟩
theorem r09_Of_ok (n : Nat) : EntOk Tryz.prog (r09_Of_ent n) := ent_ok' mixed (T := [r08_Right_ent n, r09_find_ent n, r09_into_ent n]) (tabCons (r08_Right_ok n) (tabCons (r09_find_ok n) (tabCons (r09_into_ok n) tabNil))) (tabLCons (r09_Of_l0_ok n n) (tabLCons (r09_Of_l1_ok n n) tabLNil)) fun x => by kernel_rfl
abbrev r09_Right_sg : List Sg := [.tree (.slice tChange)]
abbrev r09_Right_rs : List Rt := [.tree .bool]
def r09_Right_l0 (n : Nat) : Nat → SgEl [.tree (.slice tChange), .own tRow, .tree (.int .i64)] → Option (SgEl [.own tRow] ⊕ SgEl [.tree .bool])
  | 0, _ => none
  | g + 1, s =>
    bif ilt s.2.2.1 (ilen s.1) then
     bif ile (0 : Int) s.2.2.1 then
      bindN (lat s.1 (iN s.2.2.1)) fun v1 =>
      bif v1.2.1 then
       bif ile (0 : Int) s.2.2.1 then
        bindN (lat s.1 (iN s.2.2.1)) fun v2 =>
        bif !(ieq v2.1.2.2.1.1 (0 : Int) && (beqB v2.1.2.2.1.2.1 false && true)) then
         some (Sum.inr (false, ()))
        else
        bif ile (0 : Int) s.2.2.1 then
         bindN (lat s.1 (iN s.2.2.1)) fun v3 =>
         bif roomA s.2.1 [v3.1] 40 then
          bindL (r09_Right_l0 n g (s.1, app s.2.1 [v3.1], iadd .i64 s.2.2.1 (1 : Int), ())) (fun a4 =>
           some (Sum.inl a4)) fun b5 =>
          some (Sum.inr b5)
         else none
        else none
       else none
      else
      bif ile (0 : Int) s.2.2.1 then
       bindN (lat s.1 (iN s.2.2.1)) fun v6 =>
       bif roomA s.2.1 [v6.1] 40 then
        bindL (r09_Right_l0 n g (s.1, app s.2.1 [v6.1], iadd .i64 s.2.2.1 (1 : Int), ())) (fun a7 =>
         some (Sum.inl a7)) fun b8 =>
        some (Sum.inr b8)
       else none
      else none
     else none
    else
    some (Sum.inl (s.2.1, ()))
theorem r09_Right_l0_ok (n : Nat) : ∀ g, LEntOk Tryz.prog 131 (nSl r09_Right_sg) ⟨0, [.tree (.slice tChange), .own tRow, .tree (.int .i64)], 0, [.own tRow], [.tree .bool], r09_Right_l0 n g⟩ g
  | 0 => loop_zero' fun _ => rfl
  | g + 1 => loop_step' mixed (T := [r08_Right_ent n]) (tabCons (r08_Right_ok n) tabNil) tabLNil (r09_Right_l0_ok n g) fun s => by kernel_rfl
def r09_Right (n : Nat) (x : SgEl r09_Right_sg) : Option (RtEl r09_Right_rs × OutEl r09_Right_sg) :=
  bindL (r09_Right_l0 n n (x.1, [], (0 : Int), ())) (fun a1 =>
   bindN (r08_Right n a1) fun p3 =>
   some (p3.1, ((), ()))) fun b2 =>
  some (b2, ((), ()))
abbrev r09_Right_ent (n : Nat) : Ent := ⟨131, r09_Right_sg, r09_Right_rs, r09_Right n⟩
theorem r09_Right_ok (n : Nat) : EntOk Tryz.prog (r09_Right_ent n) := ent_ok' mixed (T := [r08_Right_ent n]) (tabCons (r08_Right_ok n) tabNil) (tabLCons (r09_Right_l0_ok n n) tabLNil) fun x => by kernel_rfl
abbrev r09_Apply_sg : List Sg := [.tree (.slice tRow), .tree (.slice tChange)]
abbrev r09_Apply_rs : List Rt := [.tree (.slice tRow), .tree (.int .i64)]
def r09_Apply_l1 (n : Nat) : Nat → SgEl [.tree (.slice tChange), .own tRow, .tree (.int .i64), .boxr tChange, .tree (.int .i64)] → Option (SgEl [.tree (.slice tChange), .own tRow, .tree (.int .i64), .boxr tChange, .tree (.int .i64)] ⊕ SgEl [])
  | 0, _ => none
  | g + 1, s =>
    bif ilt s.2.2.2.2.1 (ilen s.2.1) then
     bif ile (0 : Int) s.2.2.2.2.1 then
      bindN (lat s.2.1 (iN s.2.2.2.2.1)) fun v1 =>
      bindN (lat s.2.1 (iN s.2.2.2.2.1)) fun v2 =>
      bindN (r08_Before n (v2, s.2.2.2.1.1, ())) fun p3 =>
      bif p3.1.1 then
       bindL (r09_Apply_l1 n g (s.1, s.2.1, s.2.2.1, s.2.2.2.1, iadd .i64 s.2.2.2.2.1 (1 : Int), ())) (fun a4 =>
        some (Sum.inl a4)) fun b5 =>
       some (Sum.inr ())
      else
      some (Sum.inl s)
     else none
    else
    some (Sum.inl s)
theorem r09_Apply_l1_ok (n : Nat) : ∀ g, LEntOk Tryz.prog 92 (nSl r09_Apply_sg) ⟨1, [.tree (.slice tChange), .own tRow, .tree (.int .i64), .boxr tChange, .tree (.int .i64)], 3, [.tree (.slice tChange), .own tRow, .tree (.int .i64), .boxr tChange, .tree (.int .i64)], [], r09_Apply_l1 n g⟩ g
  | 0 => loop_zero' fun _ => rfl
  | g + 1 => loop_step' mixed (T := [r08_Right_ent n, r09_Right_ent n, r09_find_ent n, r08_Before_ent n]) (tabCons (r08_Right_ok n) (tabCons (r09_Right_ok n) (tabCons (r09_find_ok n) (tabCons (r08_Before_ok n) tabNil)))) tabLNil (r09_Apply_l1_ok n g) fun s => by kernel_rfl
def r09_Apply_l0 (n : Nat) : Nat → SgEl [.tree (.slice tChange), .own tRow, .tree (.int .i64)] → Option (SgEl [.own tRow] ⊕ SgEl [.tree (.slice tRow), .tree (.int .i64)])
  | 0, _ => none
  | g + 1, s =>
    bif ilt s.2.2.1 (ilen s.1) then
     bif ile (0 : Int) s.2.2.1 then
      bindN (lat s.1 (iN s.2.2.1)) fun v1 =>
      bindN (r09_find n (s.2.1, v1.1, ())) fun p2 =>
      bif v1.2.1 then
       bif ilt p2.1.1 (0 : Int) then
        some (Sum.inr ([], (6 : Int), ()))
       else
       bif v1.2.1 then
        bif ile (0 : Int) (0 : Int) then
         bif ile (0 : Int) p2.1.1 then
          bif ile p2.1.1 (ilen s.2.1) then
           bif roomA ([] : List (El tRow)) (win s.2.1 (iN (0 : Int)) (iN p2.1.1 - iN (0 : Int))) 40 then
            bif ile (0 : Int) (iadd .i64 p2.1.1 (1 : Int)) then
             bif ile (iadd .i64 p2.1.1 (1 : Int)) (ilen s.2.1) then
              bif ile (ilen s.2.1) (ilen s.2.1) then
               bif roomA (app ([] : List (El tRow)) (win s.2.1 (iN (0 : Int)) (iN p2.1.1 - iN (0 : Int)))) (win s.2.1 (iN (iadd .i64 p2.1.1 (1 : Int))) (iN (ilen s.2.1) - iN (iadd .i64 p2.1.1 (1 : Int)))) 40 then
                bindL (r09_Apply_l0 n g (s.1, app (app ([] : List (El tRow)) (win s.2.1 (iN (0 : Int)) (iN p2.1.1 - iN (0 : Int)))) (win s.2.1 (iN (iadd .i64 p2.1.1 (1 : Int))) (iN (ilen s.2.1) - iN (iadd .i64 p2.1.1 (1 : Int)))), iadd .i64 s.2.2.1 (1 : Int), ())) (fun a3 =>
                 some (Sum.inl a3)) fun b4 =>
                some (Sum.inr b4)
               else none
              else none
             else none
            else none
           else none
          else none
         else none
        else none
       else
       bif ile (0 : Int) p2.1.1 then
        bif ile (0 : Int) p2.1.1 then
         bindN (lat s.2.1 (iN p2.1.1)) fun v5 =>
         bindN (lat s.2.1 (iN p2.1.1)) fun v6 =>
         bindL (r09_Apply_l0 n g (s.1, lput s.2.1 (iN p2.1.1) v1.1, iadd .i64 s.2.2.1 (1 : Int), ())) (fun a7 =>
          some (Sum.inl a7)) fun b8 =>
         some (Sum.inr b8)
        else none
       else
       bindL (r09_Apply_l1 n n (s.1, s.2.1, s.2.2.1, v1, (0 : Int), ())) (fun a9 =>
        bif ile (0 : Int) a9.2.2.2.2.1 then
         bif ile a9.2.2.2.2.1 (ilen a9.2.1) then
          bif ile (ilen a9.2.1) (ilen a9.2.1) then
           bif roomA ([] : List (El tRow)) (win a9.2.1 (iN a9.2.2.2.2.1) (iN (ilen a9.2.1) - iN a9.2.2.2.2.1)) 40 then
            bif ile (0 : Int) (0 : Int) then
             bif ile (0 : Int) a9.2.2.2.2.1 then
              bif ile a9.2.2.2.2.1 (ilen a9.2.1) then
               bif roomA (win a9.2.1 0 (iN a9.2.2.2.2.1 - iN (0 : Int))) [a9.2.2.2.1.1] 40 then
                bif roomA (app (win a9.2.1 0 (iN a9.2.2.2.2.1 - iN (0 : Int))) [a9.2.2.2.1.1]) (app ([] : List (El tRow)) (win a9.2.1 (iN a9.2.2.2.2.1) (iN (ilen a9.2.1) - iN a9.2.2.2.2.1))) 40 then
                 bindL (r09_Apply_l0 n g (a9.1, app (app (win a9.2.1 0 (iN a9.2.2.2.2.1 - iN (0 : Int))) [a9.2.2.2.1.1]) (app ([] : List (El tRow)) (win a9.2.1 (iN a9.2.2.2.2.1) (iN (ilen a9.2.1) - iN a9.2.2.2.2.1))), iadd .i64 a9.2.2.1 (1 : Int), ())) (fun a11 =>
                  some (Sum.inl a11)) fun b12 =>
                 some (Sum.inr b12)
                else none
               else none
              else none
             else none
            else none
           else none
          else none
         else none
        else none) fun b10 =>
       none
      else
      bif v1.2.1 then
       bif ile (0 : Int) (0 : Int) then
        bif ile (0 : Int) p2.1.1 then
         bif ile p2.1.1 (ilen s.2.1) then
          bif roomA ([] : List (El tRow)) (win s.2.1 (iN (0 : Int)) (iN p2.1.1 - iN (0 : Int))) 40 then
           bif ile (0 : Int) (iadd .i64 p2.1.1 (1 : Int)) then
            bif ile (iadd .i64 p2.1.1 (1 : Int)) (ilen s.2.1) then
             bif ile (ilen s.2.1) (ilen s.2.1) then
              bif roomA (app ([] : List (El tRow)) (win s.2.1 (iN (0 : Int)) (iN p2.1.1 - iN (0 : Int)))) (win s.2.1 (iN (iadd .i64 p2.1.1 (1 : Int))) (iN (ilen s.2.1) - iN (iadd .i64 p2.1.1 (1 : Int)))) 40 then
               bindL (r09_Apply_l0 n g (s.1, app (app ([] : List (El tRow)) (win s.2.1 (iN (0 : Int)) (iN p2.1.1 - iN (0 : Int)))) (win s.2.1 (iN (iadd .i64 p2.1.1 (1 : Int))) (iN (ilen s.2.1) - iN (iadd .i64 p2.1.1 (1 : Int)))), iadd .i64 s.2.2.1 (1 : Int), ())) (fun a13 =>
                some (Sum.inl a13)) fun b14 =>
               some (Sum.inr b14)
              else none
             else none
            else none
           else none
          else none
         else none
        else none
       else none
      else
      bif ile (0 : Int) p2.1.1 then
       bif ile (0 : Int) p2.1.1 then
        bindN (lat s.2.1 (iN p2.1.1)) fun v15 =>
        bindN (lat s.2.1 (iN p2.1.1)) fun v16 =>
        bindL (r09_Apply_l0 n g (s.1, lput s.2.1 (iN p2.1.1) v1.1, iadd .i64 s.2.2.1 (1 : Int), ())) (fun a17 =>
         some (Sum.inl a17)) fun b18 =>
        some (Sum.inr b18)
       else none
      else
      bindL (r09_Apply_l1 n n (s.1, s.2.1, s.2.2.1, v1, (0 : Int), ())) (fun a19 =>
       bif ile (0 : Int) a19.2.2.2.2.1 then
        bif ile a19.2.2.2.2.1 (ilen a19.2.1) then
         bif ile (ilen a19.2.1) (ilen a19.2.1) then
          bif roomA ([] : List (El tRow)) (win a19.2.1 (iN a19.2.2.2.2.1) (iN (ilen a19.2.1) - iN a19.2.2.2.2.1)) 40 then
           bif ile (0 : Int) (0 : Int) then
            bif ile (0 : Int) a19.2.2.2.2.1 then
             bif ile a19.2.2.2.2.1 (ilen a19.2.1) then
              bif roomA (win a19.2.1 0 (iN a19.2.2.2.2.1 - iN (0 : Int))) [a19.2.2.2.1.1] 40 then
               bif roomA (app (win a19.2.1 0 (iN a19.2.2.2.2.1 - iN (0 : Int))) [a19.2.2.2.1.1]) (app ([] : List (El tRow)) (win a19.2.1 (iN a19.2.2.2.2.1) (iN (ilen a19.2.1) - iN a19.2.2.2.2.1))) 40 then
                bindL (r09_Apply_l0 n g (a19.1, app (app (win a19.2.1 0 (iN a19.2.2.2.2.1 - iN (0 : Int))) [a19.2.2.2.1.1]) (app ([] : List (El tRow)) (win a19.2.1 (iN a19.2.2.2.2.1) (iN (ilen a19.2.1) - iN a19.2.2.2.2.1))), iadd .i64 a19.2.2.1 (1 : Int), ())) (fun a21 =>
                 some (Sum.inl a21)) fun b22 =>
                some (Sum.inr b22)
               else none
              else none
             else none
            else none
           else none
          else none
         else none
        else none
       else none) fun b20 =>
      none
     else none
    else
    some (Sum.inl (s.2.1, ()))
theorem r09_Apply_l0_ok (n : Nat) : ∀ g, LEntOk Tryz.prog 92 (nSl r09_Apply_sg) ⟨0, [.tree (.slice tChange), .own tRow, .tree (.int .i64)], 0, [.own tRow], [.tree (.slice tRow), .tree (.int .i64)], r09_Apply_l0 n g⟩ g
  | 0 => loop_zero' fun _ => rfl
  | g + 1 => loop_step' mixed (T := [r08_Right_ent n, r09_Right_ent n, r09_find_ent n, r08_Before_ent n]) (tabCons (r08_Right_ok n) (tabCons (r09_Right_ok n) (tabCons (r09_find_ok n) (tabCons (r08_Before_ok n) tabNil)))) (tabLCons (r09_Apply_l1_ok n n) tabLNil) (r09_Apply_l0_ok n g) fun s => by kernel_rfl
def r09_Apply (n : Nat) (x : SgEl r09_Apply_sg) : Option (RtEl r09_Apply_rs × OutEl r09_Apply_sg) :=
  bindN (r08_Right n (x.1, ())) fun p1 =>
  bif !p1.1.1 then
   some (([], (9 : Int), ()), ((), (), ()))
  else
  bindN (r09_Right n x.2) fun p2 =>
  bif !p2.1.1 then
   some (([], (9 : Int), ()), ((), (), ()))
  else
  bif roomA ([] : List (El tRow)) x.1 40 then
   bindL (r09_Apply_l0 n n (x.2.1, app ([] : List (El tRow)) x.1, (0 : Int), ())) (fun a3 =>
    some ((a3.1, (0 : Int), ()), ((), (), ()))) fun b4 =>
   some (b4, ((), (), ()))
  else none
abbrev r09_Apply_ent (n : Nat) : Ent := ⟨92, r09_Apply_sg, r09_Apply_rs, r09_Apply n⟩
theorem r09_Apply_ok (n : Nat) : EntOk Tryz.prog (r09_Apply_ent n) := ent_ok' mixed (T := [r08_Right_ent n, r09_Right_ent n, r09_find_ent n, r08_Before_ent n]) (tabCons (r08_Right_ok n) (tabCons (r09_Right_ok n) (tabCons (r09_find_ok n) (tabCons (r08_Before_ok n) tabNil)))) (tabLCons (r09_Apply_l0_ok n n) (tabLCons (r09_Apply_l1_ok n n) tabLNil)) fun x => by kernel_rfl
abbrev r09_Same_sg : List Sg := [.tree (.slice tChange), .tree (.slice tChange)]
abbrev r09_Same_rs : List Rt := [.tree .bool]
def r09_Same_l0 (n : Nat) : Nat → SgEl [.tree (.slice tChange), .tree (.slice tChange), .tree (.int .i64)] → Option (SgEl [] ⊕ SgEl [.tree .bool])
  | 0, _ => none
  | g + 1, s =>
    bif ilt s.2.2.1 (ilen s.1) then
     bif ile (0 : Int) s.2.2.1 then
      bindN (lat s.1 (iN s.2.2.1)) fun v1 =>
      bif ile (0 : Int) s.2.2.1 then
       bindN (lat s.2.1 (iN s.2.2.1)) fun v2 =>
       bif !(ieq v1.1.1 v2.1.1 && (seq v1.1.2.1 v2.1.2.1 && (ieq v1.1.2.2.1.1 v2.1.2.2.1.1 && (beqB v1.1.2.2.1.2.1 v2.1.2.2.1.2.1 && (beqB v1.2.1 v2.2.1 && true))))) then
        some (Sum.inr (false, ()))
       else
       bindL (r09_Same_l0 n g (s.1, s.2.1, iadd .i64 s.2.2.1 (1 : Int), ())) (fun a3 =>
        some (Sum.inl ())) fun b4 =>
       some (Sum.inr b4)
      else none
     else none
    else
    some (Sum.inl ())
theorem r09_Same_l0_ok (n : Nat) : ∀ g, LEntOk Tryz.prog 86 (nSl r09_Same_sg) ⟨0, [.tree (.slice tChange), .tree (.slice tChange), .tree (.int .i64)], 0, [], [.tree .bool], r09_Same_l0 n g⟩ g
  | 0 => loop_zero' fun _ => rfl
  | g + 1 => loop_step' mixed (T := []) tabNil tabLNil (r09_Same_l0_ok n g) fun s => by kernel_rfl
def r09_Same (n : Nat) (x : SgEl r09_Same_sg) : Option (RtEl r09_Same_rs × OutEl r09_Same_sg) :=
  bif !(ieq (ilen x.1) (ilen x.2.1)) then
   some ((false, ()), ((), (), ()))
  else
  bindL (r09_Same_l0 n n (x.1, x.2.1, (0 : Int), ())) (fun a1 =>
   some ((true, ()), ((), (), ()))) fun b2 =>
  some (b2, ((), (), ()))
abbrev r09_Same_ent (n : Nat) : Ent := ⟨86, r09_Same_sg, r09_Same_rs, r09_Same n⟩
theorem r09_Same_ok (n : Nat) : EntOk Tryz.prog (r09_Same_ent n) := ent_ok' mixed (T := []) tabNil (tabLCons (r09_Same_l0_ok n n) tabLNil) fun x => by kernel_rfl
abbrev r09_Great_sg : List Sg := [.tree (.slice tChange)]
abbrev r09_Great_rs : List Rt := [.tree .bool]
def r09_Great_l0 (n : Nat) : Nat → SgEl [.tree (.slice tChange), .tree (.int .i64)] → Option (SgEl [] ⊕ SgEl [.tree .bool])
  | 0, _ => none
  | g + 1, s =>
    bif ilt s.2.1 (ilen s.1) then
     bif ile (0 : Int) s.2.1 then
      bindN (lat s.1 (iN s.2.1)) fun v1 =>
      bif ilt (300 : Int) (ssize v1.1.2.1) then
       some (Sum.inr (true, ()))
      else
      bindL (r09_Great_l0 n g (s.1, iadd .i64 s.2.1 (1 : Int), ())) (fun a2 =>
       some (Sum.inl ())) fun b3 =>
      some (Sum.inr b3)
     else none
    else
    some (Sum.inl ())
theorem r09_Great_l0_ok (n : Nat) : ∀ g, LEntOk Tryz.prog 90 (nSl r09_Great_sg) ⟨0, [.tree (.slice tChange), .tree (.int .i64)], 0, [], [.tree .bool], r09_Great_l0 n g⟩ g
  | 0 => loop_zero' fun _ => rfl
  | g + 1 => loop_step' mixed (T := []) tabNil tabLNil (r09_Great_l0_ok n g) fun s => by kernel_rfl
def r09_Great (n : Nat) (x : SgEl r09_Great_sg) : Option (RtEl r09_Great_rs × OutEl r09_Great_sg) :=
  bif ilt (100 : Int) (ilen x.1) then
   some ((true, ()), ((), ()))
  else
  bindL (r09_Great_l0 n n (x.1, (0 : Int), ())) (fun a1 =>
   some ((false, ()), ((), ()))) fun b2 =>
  some (b2, ((), ()))
abbrev r09_Great_ent (n : Nat) : Ent := ⟨90, r09_Great_sg, r09_Great_rs, r09_Great n⟩
theorem r09_Great_ok (n : Nat) : EntOk Tryz.prog (r09_Great_ent n) := ent_ok' mixed (T := []) tabNil (tabLCons (r09_Great_l0_ok n n) tabLNil) fun x => by kernel_rfl
abbrev r19_out_sg : List Sg := [.tree tSub, .tree tMessage, .tree (.slice tRow)]
abbrev r19_out_rs : List Rt := [.tree tSub]
def r19_out (n : Nat) (x : SgEl r19_out_sg) : Option (RtEl r19_out_rs × OutEl r19_out_sg) :=
  bif roomA ([] : List (El tMessage)) x.1.2.2.2.2.1 72 then
   bif roomA (app ([] : List (El tMessage)) x.1.2.2.2.2.1) [x.2.1] 72 then
    some (((x.1.1, x.1.2.1, x.2.1.2.2.1, x.2.2.1, app (app ([] : List (El tMessage)) x.1.2.2.2.2.1) [x.2.1], x.1.2.2.2.2.2), ()), ((), (), (), ()))
   else none
  else none
abbrev r19_out_ent (n : Nat) : Ent := ⟨83, r19_out_sg, r19_out_rs, r19_out n⟩
theorem r19_out_ok (n : Nat) : EntOk Tryz.prog (r19_out_ent n) := ent_ok' mixed (T := []) tabNil tabLNil fun x => by kernel_rfl
abbrev r19_Push_sg : List Sg := [.tree tSub, .tree (.int .i64), .tree (.slice tRow), .tree (.int .i64)]
abbrev r19_Push_rs : List Rt := [.tree tSub, .tree (.int .i64)]
def r19_Push (n : Nat) (x : SgEl r19_Push_sg) : Option (RtEl r19_Push_rs × OutEl r19_Push_sg) :=
  bindN (r09_Of n (x.1.2.2.2.1, x.2.2.1, ())) fun p1 =>
  bif !(ieq p1.1.2.1 (0 : Int)) then
   some ((x.1, p1.1.2), ((), (), (), (), ()))
  else
  bif !x.1.2.2.2.2.2.1 then
   bindN (r19_out n ((x.1.1, x.1.2.1, x.1.2.2.1, x.1.2.2.2.1, x.1.2.2.2.2.1, true, x.1.2.2.2.2.2.2), ((1 : Int), x.1.1, x.2.1, x.2.2.1, [], ()), x.2.2.1, ())) fun p2 =>
   some ((p2.1.1, (0 : Int), ()), ((), (), (), (), ()))
  else
  bif ile x.2.1 x.1.2.2.1 then
   some ((x.1, (0 : Int), ()), ((), (), (), (), ()))
  else
  bif x.1.2.2.2.2.2.2.1 then
   bif ilt (ilen x.1.2.2.2.2.1) x.2.2.2.1 then
    bindN (r19_out n ((x.1.1, x.1.2.1, x.1.2.2.1, x.1.2.2.2.1, x.1.2.2.2.2.1, x.1.2.2.2.2.2.1, false, ()), ((3 : Int), x.1.1, x.2.1, x.2.2.1, [], ()), x.2.2.1, ())) fun p3 =>
    some ((p3.1.1, (0 : Int), ()), ((), (), (), (), ()))
   else
   bif x.1.2.2.2.2.2.2.1 then
    some ((x.1, (0 : Int), ()), ((), (), (), (), ()))
   else
   bif ieq (ilen p1.1.1) (0 : Int) then
    some (((x.1.1, x.1.2.1, x.2.1, x.1.2.2.2), (0 : Int), ()), ((), (), (), (), ()))
   else
   bif ilt (ilen x.1.2.2.2.2.1) x.2.2.2.1 then
    bindN (r19_out n (x.1, ((2 : Int), x.1.1, x.2.1, [], p1.1.1, ()), x.2.2.1, ())) fun p4 =>
    some ((p4.1.1, (0 : Int), ()), ((), (), (), (), ()))
   else
   some (((x.1.1, x.1.2.1, x.1.2.2.1, x.1.2.2.2.1, x.1.2.2.2.2.1, x.1.2.2.2.2.2.1, true, ()), (0 : Int), ()), ((), (), (), (), ()))
  else
  bif x.1.2.2.2.2.2.2.1 then
   some ((x.1, (0 : Int), ()), ((), (), (), (), ()))
  else
  bif ieq (ilen p1.1.1) (0 : Int) then
   some (((x.1.1, x.1.2.1, x.2.1, x.1.2.2.2), (0 : Int), ()), ((), (), (), (), ()))
  else
  bif ilt (ilen x.1.2.2.2.2.1) x.2.2.2.1 then
   bindN (r19_out n (x.1, ((2 : Int), x.1.1, x.2.1, [], p1.1.1, ()), x.2.2.1, ())) fun p5 =>
   some ((p5.1.1, (0 : Int), ()), ((), (), (), (), ()))
  else
  some (((x.1.1, x.1.2.1, x.1.2.2.1, x.1.2.2.2.1, x.1.2.2.2.2.1, x.1.2.2.2.2.2.1, true, ()), (0 : Int), ()), ((), (), (), (), ()))
abbrev r19_Push_ent (n : Nat) : Ent := ⟨31, r19_Push_sg, r19_Push_rs, r19_Push n⟩
theorem r19_Push_ok (n : Nat) : EntOk Tryz.prog (r19_Push_ent n) := ent_ok' mixed (T := [r09_Of_ent n, r19_out_ent n]) (tabCons (r09_Of_ok n) (tabCons (r19_out_ok n) tabNil)) tabLNil fun x => by kernel_rfl
abbrev r19_May_sg : List Sg := [.tree tSub, .tree (.int .i64), .tree (.int .i64)]
abbrev r19_May_rs : List Rt := [.tree .bool]
def r19_May (n : Nat) (x : SgEl r19_May_sg) : Option (RtEl r19_May_rs × OutEl r19_May_sg) :=
  bif !x.1.2.2.2.2.2.1 then
   some ((true, ()), ((), (), (), ()))
  else
  bif ilt x.1.2.2.1 x.2.1 then
   bif !x.1.2.2.2.2.2.2.1 then
    some ((true, ()), ((), (), (), ()))
   else
   some ((ilt (ilen x.1.2.2.2.2.1) x.2.2.1, ()), ((), (), (), ()))
  else
  some ((false, ()), ((), (), (), ()))
abbrev r19_May_ent (n : Nat) : Ent := ⟨34, r19_May_sg, r19_May_rs, r19_May n⟩
theorem r19_May_ok (n : Nat) : EntOk Tryz.prog (r19_May_ent n) := ent_ok' mixed (T := []) tabNil tabLNil fun x => by kernel_rfl
abbrev r19_Send_sg : List Sg := [.tree tSub]
abbrev r19_Send_rs : List Rt := [.tree tMessage, .tree tSub, .tree .bool]
def r19_Send (n : Nat) (x : SgEl r19_Send_sg) : Option (RtEl r19_Send_rs × OutEl r19_Send_sg) :=
  bif ieq (ilen x.1.2.2.2.2.1) (0 : Int) then
   some ((((0 : Int), (0 : Int), (0 : Int), [], [], ()), x.1, false, ()), ((), ()))
  else
  bif ile (0 : Int) (0 : Int) then
   bindN (lat x.1.2.2.2.2.1 (iN (0 : Int))) fun v1 =>
   bif ile (0 : Int) (1 : Int) then
    bif ile (1 : Int) (ilen x.1.2.2.2.2.1) then
     bif ile (ilen x.1.2.2.2.2.1) (ilen x.1.2.2.2.2.1) then
      bif roomA ([] : List (El tMessage)) (winI x.1.2.2.2.2.1 (1 : Int) (ilen x.1.2.2.2.2.1)) 72 then
       some ((v1, (x.1.1, x.1.2.1, x.1.2.2.1, x.1.2.2.2.1, app ([] : List (El tMessage)) (winI x.1.2.2.2.2.1 (1 : Int) (ilen x.1.2.2.2.2.1)), x.1.2.2.2.2.2), true, ()), ((), ()))
      else none
     else none
    else none
   else none
  else none
abbrev r19_Send_ent (n : Nat) : Ent := ⟨37, r19_Send_sg, r19_Send_rs, r19_Send n⟩
theorem r19_Send_ok (n : Nat) : EntOk Tryz.prog (r19_Send_ent n) := ent_ok' mixed (T := []) tabNil tabLNil fun x => by kernel_rfl
abbrev r19_Replay_sg : List Sg := [.tree (.slice tMessage)]
abbrev r19_Replay_rs : List Rt := [.tree (.slice tRow), .tree (.int .i64), .tree (.int .i64)]
def r19_Replay_l0 (n : Nat) : Nat → SgEl [.tree (.slice tMessage), .tree (.slice tRow), .tree (.int .i64), .tree (.int .i64)] → Option (SgEl [.tree (.slice tRow), .tree (.int .i64)] ⊕ SgEl [.tree (.slice tRow), .tree (.int .i64), .tree (.int .i64)])
  | 0, _ => none
  | g + 1, s =>
    bif ilt s.2.2.2.1 (ilen s.1) then
     bif ile (0 : Int) s.2.2.2.1 then
      bindN (lat s.1 (iN s.2.2.2.1)) fun v1 =>
      bif ilt v1.1 (1 : Int) then
       some (Sum.inr ([], (0 : Int), (2 : Int), ()))
      else
      bif ilt (3 : Int) v1.1 then
       some (Sum.inr ([], (0 : Int), (2 : Int), ()))
      else
      bif !(beqB (ieq v1.1 (1 : Int)) (ieq s.2.2.2.1 (0 : Int))) then
       some (Sum.inr ([], (0 : Int), (2 : Int), ()))
      else
      bif ilt v1.2.2.1 s.2.2.1 then
       some (Sum.inr ([], (0 : Int), (9 : Int), ()))
      else
      bif ilt (0 : Int) s.2.2.2.1 then
       bif ieq v1.2.2.1 s.2.2.1 then
        some (Sum.inr ([], (0 : Int), (9 : Int), ()))
       else
       bif ieq v1.1 (2 : Int) then
        bindN (r09_Apply n (s.2.1, v1.2.2.2.2)) fun p2 =>
        bif !(ieq p2.1.2.1 (0 : Int)) then
         some (Sum.inr ([], (0 : Int), p2.1.2))
        else
        bindL (r19_Replay_l0 n g (s.1, p2.1.1, v1.2.2.1, iadd .i64 s.2.2.2.1 (1 : Int), ())) (fun a3 =>
         some (Sum.inl a3)) fun b4 =>
        some (Sum.inr b4)
       else
       bindN (r08_Right n (v1.2.2.2.1, ())) fun p5 =>
       bif !p5.1.1 then
        some (Sum.inr ([], (0 : Int), (9 : Int), ()))
       else
       bindL (r19_Replay_l0 n g (s.1, v1.2.2.2.1, v1.2.2.1, iadd .i64 s.2.2.2.1 (1 : Int), ())) (fun a6 =>
        some (Sum.inl a6)) fun b7 =>
       some (Sum.inr b7)
      else
      bif ieq v1.1 (2 : Int) then
       bindN (r09_Apply n (s.2.1, v1.2.2.2.2)) fun p8 =>
       bif !(ieq p8.1.2.1 (0 : Int)) then
        some (Sum.inr ([], (0 : Int), p8.1.2))
       else
       bindL (r19_Replay_l0 n g (s.1, p8.1.1, v1.2.2.1, iadd .i64 s.2.2.2.1 (1 : Int), ())) (fun a9 =>
        some (Sum.inl a9)) fun b10 =>
       some (Sum.inr b10)
      else
      bindN (r08_Right n (v1.2.2.2.1, ())) fun p11 =>
      bif !p11.1.1 then
       some (Sum.inr ([], (0 : Int), (9 : Int), ()))
      else
      bindL (r19_Replay_l0 n g (s.1, v1.2.2.2.1, v1.2.2.1, iadd .i64 s.2.2.2.1 (1 : Int), ())) (fun a12 =>
       some (Sum.inl a12)) fun b13 =>
      some (Sum.inr b13)
     else none
    else
    some (Sum.inl (s.2.1, s.2.2.1, ()))
theorem r19_Replay_l0_ok (n : Nat) : ∀ g, LEntOk Tryz.prog 43 (nSl r19_Replay_sg) ⟨0, [.tree (.slice tMessage), .tree (.slice tRow), .tree (.int .i64), .tree (.int .i64)], 0, [.tree (.slice tRow), .tree (.int .i64)], [.tree (.slice tRow), .tree (.int .i64), .tree (.int .i64)], r19_Replay_l0 n g⟩ g
  | 0 => loop_zero' fun _ => rfl
  | g + 1 => loop_step' mixed (T := [r09_Apply_ent n, r08_Right_ent n]) (tabCons (r09_Apply_ok n) (tabCons (r08_Right_ok n) tabNil)) tabLNil (r19_Replay_l0_ok n g) fun s => by kernel_rfl
def r19_Replay (n : Nat) (x : SgEl r19_Replay_sg) : Option (RtEl r19_Replay_rs × OutEl r19_Replay_sg) :=
  bindL (r19_Replay_l0 n n (x.1, [], (0 : Int), (0 : Int), ())) (fun a1 =>
   some ((a1.1, a1.2.1, (0 : Int), ()), ((), ()))) fun b2 =>
  some (b2, ((), ()))
abbrev r19_Replay_ent (n : Nat) : Ent := ⟨43, r19_Replay_sg, r19_Replay_rs, r19_Replay n⟩
theorem r19_Replay_ok (n : Nat) : EntOk Tryz.prog (r19_Replay_ent n) := ent_ok' mixed (T := [r09_Apply_ent n, r08_Right_ent n]) (tabCons (r09_Apply_ok n) (tabCons (r08_Right_ok n) tabNil)) (tabLCons (r19_Replay_l0_ok n n) tabLNil) fun x => by kernel_rfl
abbrev r19_Equal_sg : List Sg := [.tree tMessage, .tree tMessage]
abbrev r19_Equal_rs : List Rt := [.tree .bool]
def r19_Equal (n : Nat) (x : SgEl r19_Equal_sg) : Option (RtEl r19_Equal_rs × OutEl r19_Equal_sg) :=
  bif ieq x.1.1 x.2.1.1 then
   bif ieq x.1.2.1 x.2.1.2.1 then
    bif ieq x.1.2.2.1 x.2.1.2.2.1 then
     bindN (r08_Same n (x.1.2.2.2.1, x.2.1.2.2.2.1, ())) fun p1 =>
     bif p1.1.1 then
      bindN (r09_Same n (x.1.2.2.2.2.1, x.2.1.2.2.2.2)) fun p2 =>
      some (p2.1, ((), (), ()))
     else
     some ((false, ()), ((), (), ()))
    else
    some ((false, ()), ((), (), ()))
   else
   some ((false, ()), ((), (), ()))
  else
  some ((false, ()), ((), (), ()))
abbrev r19_Equal_ent (n : Nat) : Ent := ⟨38, r19_Equal_sg, r19_Equal_rs, r19_Equal n⟩
theorem r19_Equal_ok (n : Nat) : EntOk Tryz.prog (r19_Equal_ent n) := ent_ok' mixed (T := [r08_Same_ent n, r09_Same_ent n]) (tabCons (r08_Same_ok n) (tabCons (r09_Same_ok n) tabNil)) tabLNil fun x => by kernel_rfl
abbrev r19_Messages_sg : List Sg := [.tree (.slice tMessage), .tree (.slice tMessage)]
abbrev r19_Messages_rs : List Rt := [.tree .bool]
def r19_Messages_l0 (n : Nat) : Nat → SgEl [.tree (.slice tMessage), .tree (.slice tMessage), .tree (.int .i64)] → Option (SgEl [] ⊕ SgEl [.tree .bool])
  | 0, _ => none
  | g + 1, s =>
    bif ilt s.2.2.1 (ilen s.1) then
     bif ile (0 : Int) s.2.2.1 then
      bindN (lat s.1 (iN s.2.2.1)) fun v1 =>
      bif ile (0 : Int) s.2.2.1 then
       bindN (lat s.2.1 (iN s.2.2.1)) fun v2 =>
       bindN (r19_Equal n (v1, v2, ())) fun p3 =>
       bif !p3.1.1 then
        some (Sum.inr (false, ()))
       else
       bindL (r19_Messages_l0 n g (s.1, s.2.1, iadd .i64 s.2.2.1 (1 : Int), ())) (fun a4 =>
        some (Sum.inl ())) fun b5 =>
       some (Sum.inr b5)
      else none
     else none
    else
    some (Sum.inl ())
theorem r19_Messages_l0_ok (n : Nat) : ∀ g, LEntOk Tryz.prog 35 (nSl r19_Messages_sg) ⟨0, [.tree (.slice tMessage), .tree (.slice tMessage), .tree (.int .i64)], 0, [], [.tree .bool], r19_Messages_l0 n g⟩ g
  | 0 => loop_zero' fun _ => rfl
  | g + 1 => loop_step' mixed (T := [r19_Equal_ent n]) (tabCons (r19_Equal_ok n) tabNil) tabLNil (r19_Messages_l0_ok n g) fun s => by kernel_rfl
def r19_Messages (n : Nat) (x : SgEl r19_Messages_sg) : Option (RtEl r19_Messages_rs × OutEl r19_Messages_sg) :=
  bif !(ieq (ilen x.1) (ilen x.2.1)) then
   some ((false, ()), ((), (), ()))
  else
  bindL (r19_Messages_l0 n n (x.1, x.2.1, (0 : Int), ())) (fun a1 =>
   some ((true, ()), ((), (), ()))) fun b2 =>
  some (b2, ((), (), ()))
abbrev r19_Messages_ent (n : Nat) : Ent := ⟨35, r19_Messages_sg, r19_Messages_rs, r19_Messages n⟩
theorem r19_Messages_ok (n : Nat) : EntOk Tryz.prog (r19_Messages_ent n) := ent_ok' mixed (T := [r19_Equal_ent n]) (tabCons (r19_Equal_ok n) tabNil) (tabLCons (r19_Messages_l0_ok n n) tabLNil) fun x => by kernel_rfl
abbrev r19_Same_sg : List Sg := [.tree tSub, .tree tSub]
abbrev r19_Same_rs : List Rt := [.tree .bool]
def r19_Same (n : Nat) (x : SgEl r19_Same_sg) : Option (RtEl r19_Same_rs × OutEl r19_Same_sg) :=
  bif ieq x.1.1 x.2.1.1 then
   bindN (r07_Same n (x.1.2.1, x.2.1.2.1, ())) fun p1 =>
   bif p1.1.1 then
    bif ieq x.1.2.2.1 x.2.1.2.2.1 then
     bindN (r08_Same n (x.1.2.2.2.1, x.2.1.2.2.2.1, ())) fun p2 =>
     bif p2.1.1 then
      bindN (r19_Messages n (x.1.2.2.2.2.1, x.2.1.2.2.2.2.1, ())) fun p3 =>
      bif p3.1.1 then
       bif beqB x.1.2.2.2.2.2.1 x.2.1.2.2.2.2.2.1 then
        some ((beqB x.1.2.2.2.2.2.2.1 x.2.1.2.2.2.2.2.2.1, ()), ((), (), ()))
       else
       some ((false, ()), ((), (), ()))
      else
      some ((false, ()), ((), (), ()))
     else
     some ((false, ()), ((), (), ()))
    else
    some ((false, ()), ((), (), ()))
   else
   some ((false, ()), ((), (), ()))
  else
  some ((false, ()), ((), (), ()))
abbrev r19_Same_ent (n : Nat) : Ent := ⟨32, r19_Same_sg, r19_Same_rs, r19_Same n⟩
theorem r19_Same_ok (n : Nat) : EntOk Tryz.prog (r19_Same_ent n) := ent_ok' mixed (T := [r07_Same_ent n, r08_Same_ent n, r19_Messages_ent n]) (tabCons (r07_Same_ok n) (tabCons (r08_Same_ok n) (tabCons (r19_Messages_ok n) tabNil))) tabLNil fun x => by kernel_rfl
abbrev r19_Much_sg : List Sg := [.tree (.slice tMessage)]
abbrev r19_Much_rs : List Rt := [.tree .bool]
def r19_Much_l0 (n : Nat) : Nat → SgEl [.tree (.slice tMessage), .tree (.int .i64)] → Option (SgEl [] ⊕ SgEl [.tree .bool])
  | 0, _ => none
  | g + 1, s =>
    bif ilt s.2.1 (ilen s.1) then
     bif ile (0 : Int) s.2.1 then
      bindN (lat s.1 (iN s.2.1)) fun v1 =>
      bindN (r08_Great n (v1.2.2.2.1, ())) fun p2 =>
      bif p2.1.1 then
       some (Sum.inr (true, ()))
      else
      bif ile (0 : Int) s.2.1 then
       bindN (lat s.1 (iN s.2.1)) fun v3 =>
       bindN (r09_Great n v3.2.2.2.2) fun p4 =>
       bif p4.1.1 then
        some (Sum.inr (true, ()))
       else
       bindL (r19_Much_l0 n g (s.1, iadd .i64 s.2.1 (1 : Int), ())) (fun a5 =>
        some (Sum.inl ())) fun b6 =>
       some (Sum.inr b6)
      else none
     else none
    else
    some (Sum.inl ())
theorem r19_Much_l0_ok (n : Nat) : ∀ g, LEntOk Tryz.prog 41 (nSl r19_Much_sg) ⟨0, [.tree (.slice tMessage), .tree (.int .i64)], 0, [], [.tree .bool], r19_Much_l0 n g⟩ g
  | 0 => loop_zero' fun _ => rfl
  | g + 1 => loop_step' mixed (T := [r08_Great_ent n, r09_Great_ent n]) (tabCons (r08_Great_ok n) (tabCons (r09_Great_ok n) tabNil)) tabLNil (r19_Much_l0_ok n g) fun s => by kernel_rfl
def r19_Much (n : Nat) (x : SgEl r19_Much_sg) : Option (RtEl r19_Much_rs × OutEl r19_Much_sg) :=
  bif ilt (30 : Int) (ilen x.1) then
   some ((true, ()), ((), ()))
  else
  bindL (r19_Much_l0 n n (x.1, (0 : Int), ())) (fun a1 =>
   some ((false, ()), ((), ()))) fun b2 =>
  some (b2, ((), ()))
abbrev r19_Much_ent (n : Nat) : Ent := ⟨41, r19_Much_sg, r19_Much_rs, r19_Much n⟩
theorem r19_Much_ok (n : Nat) : EntOk Tryz.prog (r19_Much_ent n) := ent_ok' mixed (T := [r08_Great_ent n, r09_Great_ent n]) (tabCons (r08_Great_ok n) (tabCons (r09_Great_ok n) tabNil)) (tabLCons (r19_Much_l0_ok n n) tabLNil) fun x => by kernel_rfl
abbrev r19_Great_sg : List Sg := [.tree tSub]
abbrev r19_Great_rs : List Rt := [.tree .bool]
def r19_Great (n : Nat) (x : SgEl r19_Great_sg) : Option (RtEl r19_Great_rs × OutEl r19_Great_sg) :=
  bindN (r07_Great n (x.1.2.1, ())) fun p1 =>
  bif p1.1.1 then
   some ((true, ()), ((), ()))
  else
  bindN (r08_Great n (x.1.2.2.2.1, ())) fun p2 =>
  bif p2.1.1 then
   some ((true, ()), ((), ()))
  else
  bindN (r19_Much n (x.1.2.2.2.2.1, ())) fun p3 =>
  some (p3.1, ((), ()))
abbrev r19_Great_ent (n : Nat) : Ent := ⟨28, r19_Great_sg, r19_Great_rs, r19_Great n⟩
theorem r19_Great_ok (n : Nat) : EntOk Tryz.prog (r19_Great_ent n) := ent_ok' mixed (T := [r07_Great_ent n, r08_Great_ent n, r19_Much_ent n]) (tabCons (r07_Great_ok n) (tabCons (r08_Great_ok n) (tabCons (r19_Much_ok n) tabNil))) tabLNil fun x => by kernel_rfl
end Go.Proofs.YteaadaaghhojfaaGreatDoorE
end
section
namespace Go.Proofs.YteaadaaghhojfaaGreatDoorE
open Go Go.RowKit
set_option linter.unusedVariables false
set_option linter.unusedSimpArgs false
def flatTy : Ty → Bool
  | .int _ | .bool | .str => true
  | _ => false
/-- a number, a bool, a text, as the machine holds it -/
def scal : (t : Ty) → El t → Value
  | .int k, n => .int k n
  | .bool, b => .bool b
  | .str, s => .string s
  | _, _ => undef
def scals : (tys : List Ty) → SgEl (tys.map Sg.tree) → List Value
  | [], _ => []
  | t :: r, x => scal t x.1 :: scals r x.2
def scalr : (rs : List Ty) → RtEl (rs.map Rt.tree) → List Value
  | [], _ => []
  | t :: r, x => scal t x.1 :: scalr r x.2
def resV (rs : List Ty) (y : RtEl (rs.map Rt.tree)) : Value :=
  match rs, y with
  | [t], y => scal t y.1
  | rs, y => .tuple (scalr rs y).toArray
section
variable {P : Program} {S : Nat → SL} {F : Nat → Prop} {w : World}
theorem scal_val {t : Ty} (h : flatTy t = true) (x : El t) : Val S F w (valPV t x) (scal t x) := by
  cases t with
  | int k => exact .int _ _
  | bool => exact .bool _
  | str => exact .str _
  | _ => cases h
theorem scal_of {t : Ty} (h : flatTy t = true) {x : El t} {v : Value} (hv : Val S F w (valPV t x) v) : v = scal t x := by
  cases t with
  | int k => exact val_int hv
  | bool => exact val_bool hv
  | str => exact val_str hv
  | _ => cases h
theorem scals_of : ∀ (tys : List Ty), tys.all flatTy = true → ∀ (x : SgEl (tys.map Sg.tree)) (vs : List Value) (n : Nat), vs.length = (argsOf (tys.map Sg.tree) x n).length → (∀ (i : Nat) (p : PV) (v : Value), (argsOf (tys.map Sg.tree) x n)[i]? = some p → vs[i]? = some v → Val S F w p v) → vs = scals tys x
  | [], _, _, vs, n, hl, _ => by
    have : vs.length = 0 := hl
    exact List.length_eq_zero_iff.1 this
  | t :: tys, h, x, vs, n, hl, hv => by
    simp only [List.all_cons, Bool.and_eq_true] at h
    cases vs with
    | nil => have : (0 : Nat) = (argsOf (tys.map Sg.tree) x.2 n).length + 1 := hl; omega
    | cons v vs =>
      have h1 := scal_of h.1 (hv 0 (valPV t x.1) v rfl rfl)
      have h2 := scals_of tys h.2 x.2 vs n (by have : vs.length + 1 = (argsOf (tys.map Sg.tree) x.2 n).length + 1 := hl; omega) fun i p u hp hu => hv (i + 1) p u hp hu
      rw [h1, h2]; rfl
theorem scalr_val : ∀ (rs : List Ty), rs.all flatTy = true → ∀ (y : RtEl (rs.map Rt.tree)) (i : Nat) (p : PV) (v : Value), (resList (rs.map Rt.tree) y)[i]? = some p → (scalr rs y)[i]? = some v → Val S F w p v
  | [], _, _, i, p, v, hp, _ => by have hp : ([] : List PV)[i]? = some p := hp; simp at hp
  | t :: rs, h, y, i, p, v, hp, hv => by
    simp only [List.all_cons, Bool.and_eq_true] at h
    have hp : (valPV t y.1 :: resList (rs.map Rt.tree) y.2)[i]? = some p := hp
    have hv : (scal t y.1 :: scalr rs y.2)[i]? = some v := hv
    cases i with
    | zero => simp at hp hv; subst hp; subst hv; exact scal_val h.1 _
    | succ i => exact scalr_val rs h.2 y.2 i p v (by simpa using hp) (by simpa using hv)
theorem scalr_len : ∀ (rs : List Ty) (y : RtEl (rs.map Rt.tree)), (scalr rs y).length = (resList (rs.map Rt.tree) y).length
  | [], _ => rfl
  | t :: rs, y => congrArg (· + 1) (scalr_len rs y.2)
theorem res_val {rs : List Ty} (h : rs.all flatTy = true) (y : RtEl (rs.map Rt.tree)) (m : Nat) : Val S F w (resOfT (rs.map Rt.tree) y m).1 (resV rs y) ∧ (resOfT (rs.map Rt.tree) y m).2 = [] := by
  match rs, y, h with
  | [], y, h => exact ⟨.tup _ _ rfl (fun i p v hp => by have hp : ([] : List PV)[i]? = some p := hp; simp at hp), rfl⟩
  | [t], y, h =>
    simp only [List.all_cons, List.all_nil, Bool.and_true] at h
    exact ⟨scal_val h _, rfl⟩
  | t :: t2 :: r, y, h => exact ⟨.tup _ _ (by rw [List.size_toArray]; exact scalr_len (t :: t2 :: r) y) (fun i p v hp hv => scalr_val (t :: t2 :: r) h y i p v hp (by simpa using hv)), rfl⟩
/-- a function whose contract tells what it comes to and that it leaves all as it was -/
theorem ent_scal {f : FuncId} {tys rs : List Ty} (ht : tys.all flatTy = true) (hr : rs.all flatTy = true) (hE : Enters P f) {G : SgEl (tys.map Sg.tree) → Option (RtEl (rs.map Rt.tree) × OutEl (tys.map Sg.tree))}
    (h : ∀ x y, G x = some y → ∀ w, Calls P f (scals tys x).toArray w fun e w' => e = .returned (resV rs y.1) ∧ Below w.heap.size w w') : EntOk P ⟨f, tys.map Sg.tree, rs.map Rt.tree, G⟩ := by
  intro x y hy
  refine ⟨hE, ?_⟩
  intro S F w vs hR hA
  have hv : vs.toList = scals tys x := scals_of tys ht x vs.toList 0 (by simpa using hA.1) fun i p v hp hu => hA.2 i p v hp (by simpa using hu)
  have hv' : vs = (scals tys x).toArray := by rw [← hv]
  rw [hv']
  refine (h x y hy w).mono ?_
  rintro e w' ⟨rfl, bel⟩
  have hh := heap_trees tys x
  rw [hh] at hR
  obtain ⟨g1, g2⟩ := res_val (S := S) (F := F) (w := w') hr y.1 (nIds (tys.map Sg.tree))
  have e2 : (encOut (tys.map Sg.tree) (rs.map Rt.tree) x y).2 = [] := by
    unfold encOut
    generalize resOfT (rs.map Rt.tree) y.1 (nIds (tys.map Sg.tree)) = q at g2
    obtain ⟨q1, q2⟩ := q
    simp only at g2 ⊢
    rw [g2, outHeap_trees]; rfl
  have e1 : (encOut (tys.map Sg.tree) (rs.map Rt.tree) x y).1 = (resOfT (rs.map Rt.tree) y.1 (nIds (tys.map Sg.tree))).1 := by
    unfold encOut
    generalize resOfT (rs.map Rt.tree) y.1 (nIds (tys.map Sg.tree)) = q
    rfl
  have hS : ∀ b, S b = .unused := fun b => unused_S hR (by simp [hget])
  have hno : ∀ k, ¬ WR S ([] : Heap) k := by rintro k ⟨b, z, hz, _⟩; simp [hget] at hz
  refine ⟨_, S, F, rfl, ?_, by rw [e1]; exact g1, ?_⟩
  · rw [e2]
    exact ⟨fun b => by rw [hS]; simp [hget, SlotOk], fun b b' k h1 => (by rw [hS] at h1; simp [blkOf] at h1), fun k hk => Nat.lt_of_lt_of_le (hR.fsz k hk) bel.size⟩
  · rw [e2, hh]
    exact ⟨fun _ h => h, fun b hb => absurd (hS b) hb, bel.size, fun k hk _ => bel.block k hk, fun k hk => absurd hk (hno k), fun _ h => .inl h, bel.os, bel.tape, bel.output⟩
end
theorem enters {P : Program} {f : FuncId} {fn : Func} (h : P.funcs[f]? = some fn) (h1 : fn.body.isSome = true) (h2 : (fn.name == "runtime.NumGoroutine") = false) : Enters P f := ⟨fn, h, h1, h2⟩
theorem kept {P : Program} {f : FuncId} {vs : Array Value} {w : World} {v : Value} (h : Calls P f vs w fun e w' => e = .returned v ∧ w' = w) : Calls P f vs w fun e w' => e = .returned v ∧ Below w.heap.size w w' :=
  h.mono fun e w' hh => ⟨hh.1, hh.2 ▸ Below.refl _ _⟩
end Go.Proofs.YteaadaaghhojfaaGreatDoorE
end
