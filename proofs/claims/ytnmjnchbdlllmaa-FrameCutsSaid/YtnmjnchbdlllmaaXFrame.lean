/- What bytes make of a line that has not ended: byte by byte, and chunk by chunk, cut at the line feeds; both are one. -/
import Derived.Test.YtnmjnchbdlllmaaWMore
import Derived.Shelf.Bytes.SlIndexAt
import Derived.Lib.SlBytesConst
namespace Go.Proofs.YtnmjnchbdlllmaaW.XW
set_option linter.unusedVariables false
section
variable {S : Type} (fin : List Int → Bool → S)
abbrev FSt (S : Type) := List Int × Bool × List S
def fOne (t : FSt S) (c : Int) : FSt S :=
  if c = 10 then ([], false, t.2.2 ++ [fin t.1 t.2.1]) else if t.2.1 = true then t else if 120 ≤ t.1.length then ([], true, t.2.2) else (t.1 ++ [c], false, t.2.2)
def fGrow (t : FSt S) (b : List Int) : FSt S :=
  if t.2.1 = true then t else if 120 < t.1.length + b.length then ([], true, t.2.2) else (t.1 ++ b, false, t.2.2)
def fEnd (t : FSt S) : FSt S := ([], false, t.2.2 ++ [fin t.1 t.2.1])
def fFold (t : FSt S) (b : List Int) : FSt S := b.foldl (fOne fin) t
def fAll (t : FSt S) (l : List (List Int)) : FSt S := l.foldl (fFold fin) t
def FOk (t : FSt S) : Prop := t.1.length ≤ 120 ∧ (t.2.1 = true → t.1 = [])
theorem fOne_ok {t : FSt S} (h : FOk t) (c : Int) : FOk (fOne fin t c) := by
  obtain ⟨p, s, l⟩ := t
  obtain ⟨h1, h2⟩ := h
  unfold fOne FOk
  simp only at h1 h2 ⊢
  split
  · exact ⟨by simp, by simp⟩
  split
  · exact ⟨h1, h2⟩
  split
  · exact ⟨by simp, by simp⟩
  · exact ⟨by simp; omega, by simp⟩
theorem fFold_ok : ∀ (b : List Int) {t : FSt S}, FOk t → FOk (fFold fin t b)
  | [], _, h => h
  | c :: b, _, h => fFold_ok b (fOne_ok fin h c)
theorem fAll_ok : ∀ (l : List (List Int)) {t : FSt S}, FOk t → FOk (fAll fin t l)
  | [], _, h => h
  | b :: l, _, h => fAll_ok l (fFold_ok fin b h)
theorem fFold_grow : ∀ (b : List Int) (t : FSt S), FOk t → (∀ c ∈ b, c ≠ 10) → fFold fin t b = fGrow t b
  | [], (p, s, l), ⟨h1, h2⟩, _ => by
    unfold fFold fGrow
    simp only [List.foldl_nil, List.length_nil, List.append_nil, Nat.add_zero]
    simp only at h1
    by_cases hs : s = true
    · rw [if_pos hs]
    · rw [if_neg hs, if_neg (by omega), Bool.not_eq_true s |>.mp hs]
  | c :: b, (p, s, l), h, hb => by
    have hc := hb c (List.mem_cons_self ..)
    have ih := fFold_grow b (fOne fin (p, s, l) c) (fOne_ok fin h c) (fun x hx => hb x (List.mem_cons_of_mem _ hx))
    show fFold fin (fOne fin (p, s, l) c) b = _
    rw [ih]
    obtain ⟨h1, h2⟩ := h
    simp only at h1 h2
    unfold fOne fGrow
    simp only [if_neg hc, List.length_cons]
    by_cases hs : s = true
    · simp [hs]
    · simp only [if_neg hs]
      by_cases h120 : 120 ≤ p.length
      · simp only [if_pos h120, if_true]
        rw [if_pos (by omega)]
      · simp only [if_neg h120, List.length_append, List.length_cons, List.length_nil, Bool.false_eq_true, if_false, Nat.zero_add]
        by_cases hg : 120 < p.length + (b.length + 1)
        · rw [if_pos hg, if_pos (by omega)]
        · rw [if_neg hg, if_neg (by omega)]; simp
theorem fFold_append (t : FSt S) (a b : List Int) : fFold fin t (a ++ b) = fFold fin (fFold fin t a) b := List.foldl_append ..
theorem fFold_feed (t : FSt S) (a b : List Int) (ht : FOk t) (ha : ∀ c ∈ a, c ≠ 10) : fFold fin t (a ++ 10 :: b) = fFold fin (fEnd fin (fGrow t a)) b := by
  rw [fFold_append, fFold_grow fin a t ht ha]
  show fFold fin (fOne fin _ 10) b = _
  unfold fOne fEnd
  rw [if_pos rfl]
theorem fGrow_ok {t : FSt S} (h : FOk t) (b : List Int) : FOk (fGrow t b) := by
  obtain ⟨p, s, l⟩ := t
  obtain ⟨h1, h2⟩ := h
  unfold fGrow FOk
  simp only at h1 h2 ⊢
  split
  · exact ⟨h1, h2⟩
  split
  · exact ⟨by simp, by simp⟩
  · exact ⟨by simp; omega, by simp⟩
/-- lines that stand ahead stay ahead -/
theorem fOne_ahead (p : List Int) (s : Bool) (l m : List S) (c : Int) : fOne fin (p, s, l ++ m) c = ((fOne fin (p, s, m) c).1, (fOne fin (p, s, m) c).2.1, l ++ (fOne fin (p, s, m) c).2.2) := by
  unfold fOne
  simp only
  split
  · simp
  split
  · rfl
  split <;> rfl
theorem fFold_ahead : ∀ (b : List Int) (p : List Int) (s : Bool) (l m : List S), fFold fin (p, s, l ++ m) b = ((fFold fin (p, s, m) b).1, (fFold fin (p, s, m) b).2.1, l ++ (fFold fin (p, s, m) b).2.2)
  | [], _, _, _, _ => rfl
  | c :: b, p, s, l, m => by
    show fFold fin (fOne fin (p, s, l ++ m) c) b = _
    rw [fOne_ahead]
    exact fFold_ahead b _ _ l _
theorem fFold_ahead0 (b : List Int) (p : List Int) (s : Bool) (l : List S) : fFold fin (p, s, l) b = ((fFold fin (p, s, []) b).1, (fFold fin (p, s, []) b).2.1, l ++ (fFold fin (p, s, []) b).2.2) := by
  have h := fFold_ahead fin b p s l []
  rwa [List.append_nil] at h
theorem fAll_flat : ∀ (l : List (List Int)) (t : FSt S), fAll fin t l = fFold fin t l.flatten
  | [], _ => rfl
  | b :: l, t => by
    rw [List.flatten_cons, fFold_append]
    exact fAll_flat l (fFold fin t b)
theorem fOne_len (t : FSt S) (c : Int) : (fOne fin t c).2.2.length ≤ t.2.2.length + 1 := by
  unfold fOne
  split
  · simp
  split
  · omega
  split <;> simp
theorem fFold_len : ∀ (b : List Int) (t : FSt S), (fFold fin t b).2.2.length ≤ t.2.2.length + b.length
  | [], _ => Nat.le_refl _
  | c :: b, t => by
    have h1 := fFold_len b (fOne fin t c)
    have h2 := fOne_len fin t c
    show (fFold fin (fOne fin t c) b).2.2.length ≤ _
    rw [List.length_cons]; omega
/-- frames that are looked at: a line that is not too long yet, or one that is skipped; bytes -/
def fGood (t : FSt S) (l : List (List Int)) : Bool :=
  decide (t.1.length ≤ 120) && (!t.2.1 || t.1.isEmpty) && decide ((l.map List.length).sum ≤ 1000000000) && l.all (fun b => b.all (fun x => decide (0 ≤ x) && decide (x < 256)))
theorem fGood_ok {t : FSt S} {l : List (List Int)} (h : fGood t l = true) : FOk t ∧ (l.map List.length).sum ≤ 1000000000 ∧ ∀ b ∈ l, ∀ x ∈ b, 0 ≤ x ∧ x < 256 := by
  simp only [fGood, Bool.and_eq_true, decide_eq_true_eq, Bool.or_eq_true, Bool.not_eq_true', List.isEmpty_iff, List.all_eq_true] at h
  obtain ⟨⟨⟨h1, h2⟩, h3⟩, h4⟩ := h
  refine ⟨⟨h1, fun hs => ?_⟩, h3, h4⟩
  rcases h2 with h2 | h2
  · rw [h2] at hs; cases hs
  · exact h2
end
theorem fIdx : ∀ (b : List Int), (∀ x ∈ b, 0 ≤ x ∧ x < 256) → (Lib.indexByte (Lib.bytesOf b) 10 = -1 ∧ ∀ c ∈ b, c ≠ 10) ∨ ∃ o : Nat, Lib.indexByte (Lib.bytesOf b) 10 = o ∧ o < b.length ∧ b = b.take o ++ 10 :: b.drop (o + 1) ∧ ∀ c ∈ b.take o, c ≠ 10
  | [], _ => .inl ⟨rfl, by simp⟩
  | x :: b, h => by
    have hx := h x (List.mem_cons_self ..)
    have hb := fIdx b (fun y hy => h y (List.mem_cons_of_mem _ hy))
    have e : Lib.bytesOf (x :: b) = UInt8.ofNat x.toNat :: Lib.bytesOf b := rfl
    rw [e]
    by_cases hx10 : x = 10
    · subst hx10
      exact .inr ⟨0, by rfl, by simp, by simp, by simp⟩
    · have hne : (UInt8.ofNat x.toNat == 10) = false := by
        rw [beq_eq_false_iff_ne]
        intro hc
        have h2 := congrArg UInt8.toNat hc
        rw [UInt8.toNat_ofNat'] at h2
        have : x.toNat < 256 := by omega
        have h3 : (10 : UInt8).toNat = 10 := rfl
        rw [h3] at h2
        omega
      rcases hb with ⟨h1, h2⟩ | ⟨o, h1, h2, h3, h4⟩
      · refine .inl ⟨?_, ?_⟩
        · simp only [Lib.indexByte, hne, h1]
          first | done | rfl
        · intro c hc
          rcases List.mem_cons.1 hc with rfl | hc
          · exact hx10
          · exact h2 c hc
      · refine .inr ⟨o + 1, ?_, by simp; omega, ?_, ?_⟩
        · simp only [Lib.indexByte, hne, h1]
          rw [if_neg (by simp), if_neg (by first | (simp; done) | (simp; omega))]
          first | done | omega
        · rw [List.take_succ_cons, List.drop_succ_cons, List.cons_append, ← h3]
        · intro c hc
          rw [List.take_succ_cons] at hc
          rcases List.mem_cons.1 hc with rfl | hc
          · exact hx10
          · exact h4 c hc
open Go Go.RowKit Go.Proofs.YtnmjnchbdlllmaaW.PrintWords Go.Proofs.YtnmjnchbdlllmaaW.PrintLast Go.Proofs.YtnmjnchbdlllmaaW.PrintMore in
/-- The bytes of a constant text, marked as the run time does: a row that is only read. -/
theorem lit_mark {P : Program} {ops : Array Oper} {rest : List Oper} {o : Oper} {a : Act} {Q : Exit → Act → World → Prop} {W : World} (hgd : o.guard = none) {N : Tmp} (_hd : o.dst = some N) (xs : List Int) (e : Nat) {t g : Nat} {x : Operand}
    (hop : o.op = .convert t t x) (hev : a.eval x = .slice (some ⟨g, 0, none⟩) xs.length xs.length) (hg : g = W.heap.size) (ht : P.underlying t = some (.slice e)) (he : P.underlying e = some (.int .u8)) (hm : xs.length ≤ 9223372036854775807)
    (h : ∀ v1 w1, Kd.V (Kd.int .u8) e w1 W.heap.size (fun k => W.heap.size ≤ k) v1 xs → Below W.heap.size W w1 → wpList P ops Q rest (a.put o.dst v1) w1) :
    wpList P ops Q (o :: rest) a (W.alloc (.cells (xs.map (Value.int .u8)).toArray e)) := by
  subst hg
  have hrun : (execOp a.eval o).run P (W.alloc (.cells (xs.map (Value.int .u8)).toArray e)) = .ok (.value (.slice (some ⟨W.heap.size, 0, none⟩) xs.length xs.length)) (W.alloc (.cells (xs.map (Value.int .u8)).toArray e (xs.length, xs.length + 1))) := by
    have hc := Lib.run_convert_bytes_const (P := P) W t e (xs.map (Value.int .u8)).toArray xs.length xs.length ht he
    unfold execOp
    rw [hop]
    simp only [hev, Sem.run_bind, hc, Result.andThen, Sem.run_pure, List.size_toArray, List.length_map]
  refine Kd.event_run hgd hrun (h _ _ (Kd.V_mk (Nat.le_refl _) ?_) (below_alloc (Below.refl _ _) _))
  intro W' hW'
  have hb : W'.heap[W.heap.size]? = some (.cells (xs.map (Value.int .u8)).toArray e (xs.length, xs.length + 1)) := by
    rw [hW' W.heap.size (Nat.le_refl _) (by show W.heap.size < (W.heap.push _).size; simp)]
    show (W.heap.push _)[W.heap.size]? = _
    simp
  refine ⟨rfl, hm, fun hn => ⟨⟨W.heap.size, 0, none⟩, rfl, fun j p hj => ⟨[.int .u8 p], rfl, rfl, fun i u hu => ?_⟩⟩⟩
  have hi : i = 0 := by
    have := (List.getElem?_eq_some_iff.1 hu).1
    simp at this
    exact this
  subst hi
  have e1 : (⟨W.heap.size, 0, none⟩ : Addr).add (j * (Kd.int .u8).sz + 0) = ⟨W.heap.size, j, none⟩ := by
    show (⟨W.heap.size, 0, none⟩ : Addr).add (j * 1 + 0) = _
    rw [Nat.mul_one, Nat.add_zero]
    unfold Addr.add
    split
    · next h => rw [h]
    · simp
  rw [e1, cell_of_row W' W.heap.size j _ e _ hb]
  simp only [List.getElem?_toArray, List.getElem?_map, hj, Option.map_some]
  simpa using hu
/-- a carriage return at the line's end falls away -/
def fTrim (p : List Int) : List Int := if Lib.hasSuffix (Lib.bytesOf p) [13] then p.take (p.length - 1) else p
end Go.Proofs.YtnmjnchbdlllmaaW.XW
