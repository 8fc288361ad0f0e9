/- A part of the proof: GP1, GP2, GP3, GP4. No condition. -/
import Derived.Test.YteaadaaghhojfaaGreatDoorBU4
section
namespace Go.Proofs.YteaadaaghhojfaaGreatDoorE
open Go
set_option linter.unusedVariables false
section
variable {α β ω : Type}
@[simp] theorem ilt_eq (a b : Int) : ilt a b = decide (a < b) := by unfold ilt; rfl
@[simp] theorem ile_eq (a b : Int) : ile a b = decide (a ≤ b) := by unfold ile; rfl
@[simp] theorem ieq_eq (a b : Int) : ieq a b = decide (a = b) := by unfold ieq; by_cases h : a = b <;> simp [h]
@[simp] theorem seq_eq (a b : ByteArray) : seq a b = decide (a = b) := by
  unfold seq
  rw [ByteArray.toList_eq, ByteArray.toList_eq]
  by_cases h : a = b
  · subst h; simp
  · have : ¬ a.data.toList = b.data.toList := fun e => h (ByteArray.ext (Array.ext' e))
    rw [decide_eq_false h]; exact beq_eq_false_iff_ne.2 this
@[simp] theorem slt_eq (a b : ByteArray) : slt a b = Op.bytesLess a.data.toList b.data.toList := by unfold slt; rw [ByteArray.toList_eq, ByteArray.toList_eq]
@[simp] theorem ssize_eq (a : ByteArray) : ssize a = (a.size : Int) := by unfold ssize; rfl
@[simp] theorem bindN_s (x : α) (K : α → Option β) : bindN (some x) K = K x := by unfold bindN; rfl
@[simp] theorem bindN_n (K : α → Option β) : bindN none K = none := by unfold bindN; rfl
@[simp] theorem bindL_inl (x : α) (K : α → Option β) (R : ω → Option β) : bindL (some (.inl x)) K R = K x := by unfold bindL; rfl
@[simp] theorem bindL_inr (x : ω) (K : α → Option β) (R : ω → Option β) : bindL (some (.inr x)) K R = R x := by unfold bindL; rfl
@[simp] theorem bindL_none (K : α → Option β) (R : ω → Option β) : bindL none K R = none := by unfold bindL; rfl
@[simp] theorem beqB_eq (a b : Bool) : beqB a b = decide (a = b) := by cases a <;> cases b <;> rfl
theorem nth_get : ∀ (xs : List α) (i : Nat), nth xs i = xs[i]?
  | [], _ => by simp [nth]
  | x :: r, 0 => by simp [nth]
  | x :: r, n + 1 => by simp [nth, nth_get r n]
@[simp] theorem lat_eq (xs : List α) (i : Nat) : lat xs i = xs[i]? := by unfold lat; exact nth_get xs i
@[simp] theorem win_eq (xs : List α) (i n : Nat) : win xs i n = (xs.drop i).take n := by unfold win; rfl
theorem wrap64 {n : Int} (h1 : -9223372036854775808 ≤ n) (h2 : n ≤ 9223372036854775807) : IntKind.i64.wrap n = n := by
  simp [IntKind.wrap, IntKind.bits, IntKind.signed]; omega
theorem iadd64 {a b : Int} (h1 : -9223372036854775808 ≤ a + b) (h2 : a + b ≤ 9223372036854775807) : iadd .i64 a b = a + b := by unfold iadd; exact wrap64 h1 h2
theorem isub64 {a b : Int} (h1 : -9223372036854775808 ≤ a - b) (h2 : a - b ≤ 9223372036854775807) : isub .i64 a b = a - b := by unfold isub; exact wrap64 h1 h2
theorem iadd1 {i : Nat} (h : i < 4611686018427387904) : iadd .i64 (i : Int) 1 = ((i + 1 : Nat) : Int) := by rw [iadd64 (by omega) (by omega)]; rfl
@[simp] theorem bindL_id (X : Option (Unit ⊕ ω)) : bindL X (fun _ => some (Sum.inl ())) (fun b => some (Sum.inr b)) = X := by
  rcases X with _ | ⟨⟨⟩ | _⟩ <;> simp
@[simp] theorem bindL_id1 (X : Option (α ⊕ ω)) : bindL X (fun a => some (Sum.inl a)) (fun b => some (Sum.inr b)) = X := by
  rcases X with _ | _ | _ <;> simp
@[simp] theorem bindL_id2 (X : Option (α ⊕ Unit)) : bindL X (fun a => some (Sum.inl a)) (fun _ => some (Sum.inr ())) = X := by
  rcases X with _ | _ | ⟨⟨⟩⟩ <;> simp
theorem room_of {n bytes : Nat} (h : n * bytes ≤ 70368744177664) : room n bytes = true := by unfold room; simpa using h
/-- the same? -/
noncomputable def eqb (a b : α) : Bool := @decide (a = b) (Classical.propDecidable _)
@[simp] theorem eqb_refl (a : α) : eqb a a = true := by unfold eqb; exact @decide_eq_true _ (Classical.propDecidable _) rfl
theorem eqb_t {a b : α} (h : a = b) : eqb a b = true := by unfold eqb; exact @decide_eq_true _ (Classical.propDecidable _) h
theorem eqb_f {a b : α} (h : ¬ a = b) : eqb a b = false := by unfold eqb; exact @decide_eq_false _ (Classical.propDecidable _) h
theorem eqb_iff {a b : α} : eqb a b = true ↔ a = b := by unfold eqb; exact @decide_eq_true_iff _ (Classical.propDecidable _)
/-- enough rounds -/
def Big (n : Nat) : Prop := 1000000000000000 ≤ n
@[reducible] def Lim (xs : List α) : Prop := xs.length ≤ 140737488355328
/-- a loop up an index -/
theorem up_loop {ρ : Type} {m : Nat} {L : Nat → Int → Option ρ} {spec : Nat → ρ} (hend : ∀ g, L (g + 1) (m : Int) = some (spec m))
    (hstep : ∀ g i, i < m → L g ((i + 1 : Nat) : Int) = some (spec (i + 1)) → L (g + 1) (i : Int) = some (spec i)) : ∀ k i g, i + k = m → k < g → L g (i : Int) = some (spec i)
  | 0, i, g, h, hg => by
    obtain ⟨g, rfl⟩ : ∃ g', g = g' + 1 := ⟨g - 1, by omega⟩
    have : i = m := by omega
    rw [this]; exact hend g
  | k + 1, i, g, h, hg => by
    obtain ⟨g, rfl⟩ : ∃ g', g = g' + 1 := ⟨g - 1, by omega⟩
    exact hstep g i (by omega) (up_loop hend hstep k (i + 1) g (by omega) (by omega))
theorem drop_eq {xs : List α} {i : Nat} (h : i < xs.length) : xs.drop i = xs[i] :: xs.drop (i + 1) := List.drop_eq_getElem_cons h
theorem drops_eq {a b : List α} {i : Nat} (h1 : i < a.length) (h2 : i < b.length) : (a.drop i = b.drop i) ↔ (a[i] = b[i] ∧ a.drop (i + 1) = b.drop (i + 1)) := by rw [drop_eq h1, drop_eq h2, List.cons.injEq]
theorem any_drop {a : List α} {i : Nat} (p : α → Bool) (h1 : i < a.length) : (a.drop i).any p = (p a[i] || (a.drop (i + 1)).any p) := by rw [drop_eq h1, List.any_cons]
/-- two rows, looked through -/
theorem eq_loop [DecidableEq α] {a b : List α} (h : a.length = b.length) {L : Nat → Int → Option (Unit ⊕ (Bool × Unit))} (hend : ∀ g, L (g + 1) (a.length : Int) = some (.inl ()))
    (hstep : ∀ g i (h1 : i < a.length) (h2 : i < b.length), L (g + 1) (i : Int) = if a[i] = b[i] then L g ((i + 1 : Nat) : Int) else some (.inr (false, ()))) {g : Nat} (hg : a.length < g) :
    L g (0 : Int) = some (if a = b then .inl () else .inr (false, ())) := by
  have := up_loop (L := L) (m := a.length) (spec := fun i => if a.drop i = b.drop i then .inl () else .inr (false, ())) (fun g => by
    rw [hend g]
    have e : b.drop a.length = [] := by rw [h]; exact List.drop_length
    simp [e]) (fun g i hi ih => by
    rw [hstep g i hi (by omega), ih]
    simp only [drops_eq hi (b := b) (by omega)]
    by_cases e : a[i] = b[i] <;> simp [e]) a.length 0 g (by omega) hg
  simpa using this
/-- a row looked through for one that is so -/
theorem any_loop {a : List α} (p : α → Bool) (c : Bool) {L : Nat → Int → Option (Unit ⊕ (Bool × Unit))} (hend : ∀ g, L (g + 1) (a.length : Int) = some (.inl ()))
    (hstep : ∀ g i (h1 : i < a.length), L (g + 1) (i : Int) = bif p a[i] then some (.inr (c, ())) else L g ((i + 1 : Nat) : Int)) {g : Nat} (hg : a.length < g) :
    L g (0 : Int) = some (bif a.any p then .inr (c, ()) else .inl ()) := by
  have := up_loop (L := L) (m := a.length) (spec := fun i => bif (a.drop i).any p then .inr (c, ()) else .inl ()) (fun g => by
    rw [hend g]; simp) (fun g i hi ih => by
    rw [hstep g i hi, ih, any_drop p hi]
    cases p a[i] <;> simp) a.length 0 g (by omega) hg
  simpa using this
/-- the same, whatever is told behind it -/
theorem any_loop' {E R : Type} {a : List α} (p : α → Bool) (e : E) (r : R) {L : Nat → Int → Option (E ⊕ R)} (hend : ∀ g, L (g + 1) (a.length : Int) = some (.inl e))
    (hstep : ∀ g i (h1 : i < a.length), L (g + 1) (i : Int) = bif p a[i] then some (.inr r) else L g ((i + 1 : Nat) : Int)) {g : Nat} (hg : a.length < g) :
    L g (0 : Int) = some (bif a.any p then .inr r else .inl e) := by
  have := up_loop (L := L) (m := a.length) (spec := fun i => bif (a.drop i).any p then .inr r else .inl e) (fun g => by
    rw [hend g]; simp) (fun g i hi ih => by
    rw [hstep g i hi, ih, any_drop p hi]
    cases p a[i] <;> simp) a.length 0 g (by omega) hg
  simpa using this
end
end Go.Proofs.YteaadaaghhojfaaGreatDoorE
end
section
namespace Go.Proofs.YteaadaaghhojfaaGreatDoorE
open Go
set_option linter.unusedVariables false
set_option linter.unusedSimpArgs false
theorem r02_Same_v {n : Nat} (hn : Big n) {a b : List (El .str)} (ha : Lim a) : r02_Same n (a, b, ()) = some ((eqb a b, ()), ((), (), ())) := by
  by_cases h : a.length = b.length
  · letI : DecidableEq (El .str) := fun _ _ => Classical.propDecidable _
    have hL := eq_loop h (L := fun g i => r02_Same_l0 n g (a, b, i, ())) (fun g => by simp [r02_Same_l0]) (fun g i h1 h2 => by
      have e := iadd1 (i := i) (by omega)
      simp [r02_Same_l0, h1, h2, e, eqb, Prod.ext_iff]
      try (split <;> split <;> first | rfl | (exfalso; simp_all))) (g := n) (by unfold Big at hn; omega)
    simp only [r02_Same, ilen, h, ieq_eq] at hL ⊢
    simp only [decide_true, Bool.not_true, cond_false, hL]
    by_cases e : a = b <;> simp [e, eqb_f]
  · have e : a ≠ b := fun e => h (by rw [e])
    have h' : ¬ (a.length : Int) = (b.length : Int) := by omega
    simp [r02_Same, h', eqb_f e]
theorem r05_Same_v {n : Nat} (hn : Big n) {a b : List (El tMatch)} (ha : Lim a) : r05_Same n (a, b, ()) = some ((eqb a b, ()), ((), (), ())) := by
  by_cases h : a.length = b.length
  · letI : DecidableEq (El tMatch) := fun _ _ => Classical.propDecidable _
    have hL := eq_loop h (L := fun g i => r05_Same_l0 n g (a, b, i, ())) (fun g => by simp [r05_Same_l0]) (fun g i h1 h2 => by
      have e := iadd1 (i := i) (by omega)
      simp [r05_Same_l0, h1, h2, e, eqb, Prod.ext_iff]
      try (split <;> split <;> first | rfl | (exfalso; simp_all))) (g := n) (by unfold Big at hn; omega)
    simp only [r05_Same, ilen, h, ieq_eq] at hL ⊢
    simp only [decide_true, Bool.not_true, cond_false, hL]
    by_cases e : a = b <;> simp [e, eqb_f]
  · have e : a ≠ b := fun e => h (by rw [e])
    have h' : ¬ (a.length : Int) = (b.length : Int) := by omega
    simp [r05_Same, h', eqb_f e]
theorem r08_Same_v {n : Nat} (hn : Big n) {a b : List (El tRow)} (ha : Lim a) : r08_Same n (a, b, ()) = some ((eqb a b, ()), ((), (), ())) := by
  by_cases h : a.length = b.length
  · letI : DecidableEq (El tRow) := fun _ _ => Classical.propDecidable _
    have hL := eq_loop h (L := fun g i => r08_Same_l0 n g (a, b, i, ())) (fun g => by simp [r08_Same_l0]) (fun g i h1 h2 => by
      have e := iadd1 (i := i) (by omega)
      simp [r08_Same_l0, h1, h2, e, eqb, Prod.ext_iff]
      try (split <;> split <;> first | rfl | (exfalso; simp_all))) (g := n) (by unfold Big at hn; omega)
    simp only [r08_Same, ilen, h, ieq_eq] at hL ⊢
    simp only [decide_true, Bool.not_true, cond_false, hL]
    by_cases e : a = b <;> simp [e, eqb_f]
  · have e : a ≠ b := fun e => h (by rw [e])
    have h' : ¬ (a.length : Int) = (b.length : Int) := by omega
    simp [r08_Same, h', eqb_f e]
theorem r09_Same_v {n : Nat} (hn : Big n) {a b : List (El tChange)} (ha : Lim a) : r09_Same n (a, b, ()) = some ((eqb a b, ()), ((), (), ())) := by
  by_cases h : a.length = b.length
  · letI : DecidableEq (El tChange) := fun _ _ => Classical.propDecidable _
    have hL := eq_loop h (L := fun g i => r09_Same_l0 n g (a, b, i, ())) (fun g => by simp [r09_Same_l0]) (fun g i h1 h2 => by
      have e := iadd1 (i := i) (by omega)
      simp [r09_Same_l0, h1, h2, e, eqb, Prod.ext_iff]
      try (split <;> split <;> first | rfl | (exfalso; simp_all))) (g := n) (by unfold Big at hn; omega)
    simp only [r09_Same, ilen, h, ieq_eq] at hL ⊢
    simp only [decide_true, Bool.not_true, cond_false, hL]
    by_cases e : a = b <;> simp [e, eqb_f]
  · have e : a ≠ b := fun e => h (by rw [e])
    have h' : ¬ (a.length : Int) = (b.length : Int) := by omega
    simp [r09_Same, h', eqb_f e]
theorem sl_EqStr_v {n : Nat} (hn : Big n) {a b : List (El .str)} (ha : Lim a) : sl_EqStr n (a, b, ()) = some ((eqb a b, ()), ((), (), ())) := by
  by_cases h : a.length = b.length
  · letI : DecidableEq (El .str) := fun _ _ => Classical.propDecidable _
    have hL := eq_loop h (L := fun g i => sl_EqStr_l0 n g (a, b, (a.length : Int), i, ())) (fun g => by simp [sl_EqStr_l0]) (fun g i h1 h2 => by
      have e := iadd1 (i := i) (by omega)
      simp [sl_EqStr_l0, h1, h2, e, eqb, Prod.ext_iff]
      try (split <;> split <;> first | rfl | (exfalso; simp_all))) (g := n) (by unfold Big at hn; omega)
    simp only [sl_EqStr, ilen, h, ieq_eq] at hL ⊢
    simp only [decide_true, Bool.not_true, cond_false, hL]
    by_cases e : a = b <;> simp [e, eqb_f]
  · have e : a ≠ b := fun e => h (by rw [e])
    have h' : ¬ (a.length : Int) = (b.length : Int) := by omega
    simp [sl_EqStr, h', eqb_f e]
theorem sl_EqMatch_v {n : Nat} (hn : Big n) {a b : List (El tMatch)} (ha : Lim a) : sl_EqMatch n (a, b, ()) = some ((eqb a b, ()), ((), (), ())) := by
  by_cases h : a.length = b.length
  · letI : DecidableEq (El tMatch) := fun _ _ => Classical.propDecidable _
    have hL := eq_loop h (L := fun g i => sl_EqMatch_l0 n g (a, b, (a.length : Int), i, ())) (fun g => by simp [sl_EqMatch_l0]) (fun g i h1 h2 => by
      have e := iadd1 (i := i) (by omega)
      simp [sl_EqMatch_l0, h1, h2, e, eqb, Prod.ext_iff]
      try (split <;> split <;> first | rfl | (exfalso; simp_all))) (g := n) (by unfold Big at hn; omega)
    simp only [sl_EqMatch, ilen, h, ieq_eq] at hL ⊢
    simp only [decide_true, Bool.not_true, cond_false, hL]
    by_cases e : a = b <;> simp [e, eqb_f]
  · have e : a ≠ b := fun e => h (by rw [e])
    have h' : ¬ (a.length : Int) = (b.length : Int) := by omega
    simp [sl_EqMatch, h', eqb_f e]
theorem sl_EqRow_v {n : Nat} (hn : Big n) {a b : List (El tRow)} (ha : Lim a) : sl_EqRow n (a, b, ()) = some ((eqb a b, ()), ((), (), ())) := by
  by_cases h : a.length = b.length
  · letI : DecidableEq (El tRow) := fun _ _ => Classical.propDecidable _
    have hL := eq_loop h (L := fun g i => sl_EqRow_l0 n g (a, b, (a.length : Int), i, ())) (fun g => by simp [sl_EqRow_l0]) (fun g i h1 h2 => by
      have e := iadd1 (i := i) (by omega)
      simp [sl_EqRow_l0, h1, h2, e, eqb, Prod.ext_iff]
      try (split <;> split <;> first | rfl | (exfalso; simp_all))) (g := n) (by unfold Big at hn; omega)
    simp only [sl_EqRow, ilen, h, ieq_eq] at hL ⊢
    simp only [decide_true, Bool.not_true, cond_false, hL]
    by_cases e : a = b <;> simp [e, eqb_f]
  · have e : a ≠ b := fun e => h (by rw [e])
    have h' : ¬ (a.length : Int) = (b.length : Int) := by omega
    simp [sl_EqRow, h', eqb_f e]
theorem sl_EqChange_v {n : Nat} (hn : Big n) {a b : List (El tChange)} (ha : Lim a) : sl_EqChange n (a, b, ()) = some ((eqb a b, ()), ((), (), ())) := by
  by_cases h : a.length = b.length
  · letI : DecidableEq (El tChange) := fun _ _ => Classical.propDecidable _
    have hL := eq_loop h (L := fun g i => sl_EqChange_l0 n g (a, b, (a.length : Int), i, ())) (fun g => by simp [sl_EqChange_l0]) (fun g i h1 h2 => by
      have e := iadd1 (i := i) (by omega)
      simp [sl_EqChange_l0, h1, h2, e, eqb, Prod.ext_iff]
      try (split <;> split <;> first | rfl | (exfalso; simp_all))) (g := n) (by unfold Big at hn; omega)
    simp only [sl_EqChange, ilen, h, ieq_eq] at hL ⊢
    simp only [decide_true, Bool.not_true, cond_false, hL]
    by_cases e : a = b <;> simp [e, eqb_f]
  · have e : a ≠ b := fun e => h (by rw [e])
    have h' : ¬ (a.length : Int) = (b.length : Int) := by omega
    simp [sl_EqChange, h', eqb_f e]
def LimQ (q : El tQuery) : Prop := Lim q.2.2.1 ∧ Lim q.2.2.2.1
def LimM (m : El tMessage) : Prop := Lim m.2.2.2.1 ∧ Lim m.2.2.2.2.1
def LimS (s : El tSub) : Prop := LimQ s.2.1 ∧ Lim s.2.2.2.1 ∧ Lim s.2.2.2.2.1 ∧ ∀ m ∈ s.2.2.2.2.1, LimM m
theorem row_Same_v {n : Nat} (hn : Big n) {a b : List (El tRow)} (ha : Lim a) : row_Same n (a, b, ()) = some ((eqb a b, ()), ((), (), ())) := by simp [row_Same, sl_EqRow_v hn ha]
theorem diff_Same_v {n : Nat} (hn : Big n) {a b : List (El tChange)} (ha : Lim a) : diff_Same n (a, b, ()) = some ((eqb a b, ()), ((), (), ())) := by simp [diff_Same, sl_EqChange_v hn ha]
theorem pick_Same_v {n : Nat} (hn : Big n) {a b : List (El tMatch)} (ha : Lim a) : pick_Same n (a, b, ()) = some ((eqb a b, ()), ((), (), ())) := by simp [pick_Same, sl_EqMatch_v hn ha]
theorem bothT {c : Bool} {α : Type} {x y : Option α} (h : c = true → x = y) {z : Option α} : (bif c then x else z) = bif c then y else z := by cases c <;> simp_all
theorem r07_Same_v {n : Nat} (hn : Big n) {a b : El tQuery} (ha : LimQ a) : r07_Same n (a, b, ()) = some ((eqb a b, ()), ((), (), ())) := by
  have h0 := r05_Same_v hn (b := b.2.2.1) ha.1
  have h1 := r02_Same_v hn (b := b.2.2.2.1) ha.2
  obtain ⟨a0, a1, a2, a3, ⟨⟩⟩ := a
  obtain ⟨b0, b1, b2, b3, ⟨⟩⟩ := b
  simp only [Prod.mk.injEq, and_true] at *
  simp only [r07_Same, h0, h1, bindN_s, ieq_eq, seq_eq]
  by_cases e0 : a0 = b0 <;> by_cases e1 : a1 = b1 <;> by_cases e2 : a2 = b2 <;> by_cases e3 : a3 = b3 <;> simp [*, eqb]
theorem query_Same_v {n : Nat} (hn : Big n) {a b : El tQuery} (ha : LimQ a) : query_Same n (a, b, ()) = some ((eqb a b, ()), ((), (), ())) := by
  have h0 := pick_Same_v hn (b := b.2.2.1) ha.1
  have h1 := sl_EqStr_v hn (b := b.2.2.2.1) ha.2
  obtain ⟨a0, a1, a2, a3, ⟨⟩⟩ := a
  obtain ⟨b0, b1, b2, b3, ⟨⟩⟩ := b
  simp only [Prod.mk.injEq, and_true] at *
  simp only [query_Same, h0, h1, bindN_s, ieq_eq, seq_eq]
  by_cases e0 : a0 = b0 <;> by_cases e1 : a1 = b1 <;> by_cases e2 : a2 = b2 <;> by_cases e3 : a3 = b3 <;> simp [*, eqb]
theorem r19_Equal_v {n : Nat} (hn : Big n) {a b : El tMessage} (ha : LimM a) : r19_Equal n (a, b, ()) = some ((eqb a b, ()), ((), (), ())) := by
  have h0 := r08_Same_v hn (b := b.2.2.2.1) ha.1
  have h1 := r09_Same_v hn (b := b.2.2.2.2.1) ha.2
  obtain ⟨a0, a1, a2, a3, a4, ⟨⟩⟩ := a
  obtain ⟨b0, b1, b2, b3, b4, ⟨⟩⟩ := b
  simp only [Prod.mk.injEq, and_true] at *
  simp only [r19_Equal, h0, h1, bindN_s, ieq_eq, seq_eq]
  by_cases e0 : a0 = b0 <;> by_cases e1 : a1 = b1 <;> by_cases e2 : a2 = b2 <;> by_cases e3 : a3 = b3 <;> by_cases e4 : a4 = b4 <;> simp [*, eqb]
theorem sub_Equal_v {n : Nat} (hn : Big n) {a b : El tMessage} (ha : LimM a) : sub_Equal n (a, b, ()) = some ((eqb a b, ()), ((), (), ())) := by
  have h0 := row_Same_v hn (b := b.2.2.2.1) ha.1
  have h1 := diff_Same_v hn (b := b.2.2.2.2.1) ha.2
  obtain ⟨a0, a1, a2, a3, a4, ⟨⟩⟩ := a
  obtain ⟨b0, b1, b2, b3, b4, ⟨⟩⟩ := b
  simp only [Prod.mk.injEq, and_true] at *
  simp only [sub_Equal, h0, h1, bindN_s, ieq_eq, seq_eq]
  by_cases e0 : a0 = b0 <;> by_cases e1 : a1 = b1 <;> by_cases e2 : a2 = b2 <;> by_cases e3 : a3 = b3 <;> by_cases e4 : a4 = b4 <;> simp [*, eqb]
theorem r19_Messages_v {n : Nat} (hn : Big n) {a b : List (El tMessage)} (ha : Lim a) (hl : ∀ x ∈ a, LimM x) : r19_Messages n (a, b, ()) = some ((eqb a b, ()), ((), (), ())) := by
  by_cases h : a.length = b.length
  · letI : DecidableEq (El tMessage) := fun _ _ => Classical.propDecidable _
    have hL := eq_loop h (L := fun g i => r19_Messages_l0 n g (a, b, i, ())) (fun g => by simp [r19_Messages_l0]) (fun g i h1 h2 => by
      have hc := r19_Equal_v hn (a := a[i]) (b := b[i]) (hl _ (List.getElem_mem h1))
      have e := iadd1 (i := i) (by omega)
      simp [r19_Messages_l0, h1, h2, e, eqb, Prod.ext_iff, hc]
      try (split <;> split <;> first | rfl | (exfalso; simp_all))) (g := n) (by unfold Big at hn; omega)
    simp only [r19_Messages, ilen, h, ieq_eq] at hL ⊢
    simp only [decide_true, Bool.not_true, cond_false, hL]
    by_cases e : a = b <;> simp [e, eqb_f]
  · have e : a ≠ b := fun e => h (by rw [e])
    have h' : ¬ (a.length : Int) = (b.length : Int) := by omega
    simp [r19_Messages, h', eqb_f e]
theorem sl_EqMsg_v {n : Nat} (hn : Big n) {a b : List (El tMessage)} (ha : Lim a) (hl : ∀ x ∈ a, LimM x) : sl_EqMsg n (a, b, (), ()) = some ((eqb a b, ()), ((), (), (), ())) := by
  by_cases h : a.length = b.length
  · letI : DecidableEq (El tMessage) := fun _ _ => Classical.propDecidable _
    have hL := eq_loop h (L := fun g i => sl_EqMsg_l0 n g (b, (), a, (a.length : Int), i, ())) (fun g => by simp [sl_EqMsg_l0]) (fun g i h1 h2 => by
      have hc := sub_Equal_v hn (a := a[i]) (b := b[i]) (hl _ (List.getElem_mem h1))
      have e := iadd1 (i := i) (by omega)
      simp [sl_EqMsg_l0, h1, h2, e, eqb, Prod.ext_iff, hc]
      try (split <;> split <;> first | rfl | (exfalso; simp_all))) (g := n) (by unfold Big at hn; omega)
    simp only [sl_EqMsg, ilen, h, ieq_eq] at hL ⊢
    simp only [decide_true, Bool.not_true, cond_false, hL]
    by_cases e : a = b <;> simp [e, eqb_f]
  · have e : a ≠ b := fun e => h (by rw [e])
    have h' : ¬ (a.length : Int) = (b.length : Int) := by omega
    simp [sl_EqMsg, h', eqb_f e]
theorem r19_Same_v {n : Nat} (hn : Big n) {a b : El tSub} (ha : LimS a) : r19_Same n (a, b, ()) = some ((eqb a b, ()), ((), (), ())) := by
  have h0 := r07_Same_v hn (b := b.2.1) ha.1
  have h1 := r08_Same_v hn (b := b.2.2.2.1) ha.2.1
  have h2 := r19_Messages_v hn (b := b.2.2.2.2.1) ha.2.2.1 ha.2.2.2
  obtain ⟨a0, a1, a2, a3, a4, a5, a6, ⟨⟩⟩ := a
  obtain ⟨b0, b1, b2, b3, b4, b5, b6, ⟨⟩⟩ := b
  simp only [Prod.mk.injEq, and_true] at *
  simp only [r19_Same, h0, h1, h2, bindN_s, ieq_eq, seq_eq]
  by_cases e0 : a0 = b0 <;> by_cases e1 : a1 = b1 <;> by_cases e2 : a2 = b2 <;> by_cases e3 : a3 = b3 <;> by_cases e4 : a4 = b4 <;> by_cases e5 : a5 = b5 <;> by_cases e6 : a6 = b6 <;> simp [*, eqb]
theorem sub_Same_v {n : Nat} (hn : Big n) {a b : El tSub} (ha : LimS a) : sub_Same n (a, b, ()) = some ((eqb a b, ()), ((), (), ())) := by
  have h0 := query_Same_v hn (b := b.2.1) ha.1
  have h1 := row_Same_v hn (b := b.2.2.2.1) ha.2.1
  have h2 := sl_EqMsg_v hn (b := b.2.2.2.2.1) ha.2.2.1 ha.2.2.2
  obtain ⟨a0, a1, a2, a3, a4, a5, a6, ⟨⟩⟩ := a
  obtain ⟨b0, b1, b2, b3, b4, b5, b6, ⟨⟩⟩ := b
  simp only [Prod.mk.injEq, and_true] at *
  simp only [sub_Same, h0, h1, h2, bindN_s, ieq_eq, seq_eq]
  by_cases e0 : a0 = b0 <;> by_cases e1 : a1 = b1 <;> by_cases e2 : a2 = b2 <;> by_cases e3 : a3 = b3 <;> by_cases e4 : a4 = b4 <;> by_cases e5 : a5 = b5 <;> by_cases e6 : a6 = b6 <;> simp [*, eqb]
end Go.Proofs.YteaadaaghhojfaaGreatDoorE
end
section
namespace Go.Proofs.YteaadaaghhojfaaGreatDoorE
open Go
set_option linter.unusedVariables false
set_option linter.unusedSimpArgs false
def greatR (l : List (El tRow)) : Bool := decide (100 < l.length) || l.any fun r => decide (300 < r.2.1.size)
def greatC (l : List (El tChange)) : Bool := decide (100 < l.length) || l.any fun r => decide (300 < r.1.2.1.size)
def greatMt (l : List (El tMatch)) : Bool := decide (20 < l.length) || l.any fun r => decide (100 < r.2.1.size) || decide (100 < r.2.2.1.size)
def greatQ (q : El tQuery) : Bool := decide (200 < q.2.1.size) || (greatMt q.2.2.1 || (decide (20 < q.2.2.2.1.length) || q.2.2.2.1.any fun s => decide (100 < s.size)))
def muchM (l : List (El tMessage)) : Bool := decide (30 < l.length) || l.any fun m => greatR m.2.2.2.1 || greatC m.2.2.2.2.1
def greatS (s : El tSub) : Bool := greatQ s.2.1 || (greatR s.2.2.2.1 || muchM s.2.2.2.2.1)
theorem r08_Great_v {n : Nat} (hn : Big n) (l : List (El tRow)) : r08_Great n (l, ()) = some ((greatR l, ()), ((), ())) := by
  by_cases h : 100 < l.length
  · have h' : (100 : Int) < l.length := by omega
    simp [r08_Great, greatR, h, h']
  · have hL := any_loop (a := l) (fun r => decide (300 < r.2.1.size)) true (L := fun g i => r08_Great_l0 n g (l, i, ())) (fun g => by simp [r08_Great_l0]) (fun g i h1 => by
      have e := iadd1 (i := i) (by omega)
      by_cases hp : 300 < (l[i]).2.1.size
      · have hp' : (300 : Int) < (l[i]).2.1.size := by omega
        simp [r08_Great_l0, h1, e, hp, hp']
      · have hp' : ¬ (300 : Int) < (l[i]).2.1.size := by omega
        simp [r08_Great_l0, h1, e, hp, hp']) (g := n) (by unfold Big at hn; omega)
    have e : ¬ (100 : Int) < l.length := by omega
    simp only [r08_Great, ilen, ilt_eq, e, decide_false, cond_false, hL, greatR, h, Bool.false_or]
    generalize l.any _ = c
    cases c <;> simp
theorem r09_Great_v {n : Nat} (hn : Big n) (l : List (El tChange)) : r09_Great n (l, ()) = some ((greatC l, ()), ((), ())) := by
  by_cases h : 100 < l.length
  · have h' : (100 : Int) < l.length := by omega
    simp [r09_Great, greatC, h, h']
  · have hL := any_loop (a := l) (fun r => decide (300 < r.1.2.1.size)) true (L := fun g i => r09_Great_l0 n g (l, i, ())) (fun g => by simp [r09_Great_l0]) (fun g i h1 => by
      have e := iadd1 (i := i) (by omega)
      by_cases hp : 300 < (l[i]).1.2.1.size
      · have hp' : (300 : Int) < (l[i]).1.2.1.size := by omega
        simp [r09_Great_l0, h1, e, hp, hp']
      · have hp' : ¬ (300 : Int) < (l[i]).1.2.1.size := by omega
        simp [r09_Great_l0, h1, e, hp, hp']) (g := n) (by unfold Big at hn; omega)
    have e : ¬ (100 : Int) < l.length := by omega
    simp only [r09_Great, ilen, ilt_eq, e, decide_false, cond_false, hL, greatC, h, Bool.false_or]
    generalize l.any _ = c
    cases c <;> simp
theorem r05_Great_v {n : Nat} (hn : Big n) (l : List (El tMatch)) : r05_Great n (l, ()) = some ((greatMt l, ()), ((), ())) := by
  by_cases h : 20 < l.length
  · have h' : (20 : Int) < l.length := by omega
    simp [r05_Great, greatMt, h, h']
  · have hL := any_loop (a := l) (fun r => decide (100 < r.2.1.size) || decide (100 < r.2.2.1.size)) true (L := fun g i => r05_Great_l0 n g (l, i, ())) (fun g => by simp [r05_Great_l0]) (fun g i h1 => by
      have e := iadd1 (i := i) (by omega)
      by_cases hp : 100 < (l[i]).2.1.size
      · have hp' : (100 : Int) < (l[i]).2.1.size := by omega
        simp [r05_Great_l0, h1, e, hp, hp']
      · have hp' : ¬ (100 : Int) < (l[i]).2.1.size := by omega
        by_cases hq : 100 < (l[i]).2.2.1.size
        · have hq' : (100 : Int) < (l[i]).2.2.1.size := by omega
          simp [r05_Great_l0, h1, e, hp, hp', hq, hq']
        · have hq' : ¬ (100 : Int) < (l[i]).2.2.1.size := by omega
          simp [r05_Great_l0, h1, e, hp, hp', hq, hq']) (g := n) (by unfold Big at hn; omega)
    have e : ¬ (20 : Int) < l.length := by omega
    simp only [r05_Great, ilen, ilt_eq, e, decide_false, cond_false, hL, greatMt, h, Bool.false_or]
    generalize l.any _ = c
    cases c <;> simp
theorem r07_Great_v {n : Nat} (hn : Big n) (q : El tQuery) : r07_Great n (q, ()) = some ((greatQ q, ()), ((), ())) := by
  obtain ⟨a, nm, ms, by_, ⟨⟩⟩ := q
  have h5 := r05_Great_v hn ms
  by_cases h1 : 200 < nm.size
  · have h1' : (200 : Int) < nm.size := by omega
    simp [r07_Great, greatQ, h1, h1']
  have h1' : ¬ (200 : Int) < nm.size := by omega
  by_cases h2 : greatMt ms = true
  · simp [r07_Great, greatQ, h1, h1', h2, h5]
  by_cases h : 20 < by_.length
  · have h' : (20 : Int) < by_.length := by omega
    simp [r07_Great, greatQ, h1, h1', h2, h5, h, h']
  · have h' : ¬ (20 : Int) < by_.length := by omega
    have hL := any_loop (a := by_) (fun r => decide (100 < r.size)) true (L := fun g i => r07_Great_l0 n g ((a, nm, ms, by_, ()), i, ())) (fun g => by simp [r07_Great_l0]) (fun g i h1 => by
      have e := iadd1 (i := i) (by omega)
      by_cases hp : 100 < (by_[i]).size
      · have hp' : (100 : Int) < (by_[i]).size := by omega
        simp [r07_Great_l0, h1, e, hp, hp']
      · have hp' : ¬ (100 : Int) < (by_[i]).size := by omega
        simp [r07_Great_l0, h1, e, hp, hp']) (g := n) (by unfold Big at hn; omega)
    simp only [r07_Great, ilen, ilt_eq, ssize_eq, h1', h', h5, bindN_s, decide_false, cond_false, hL, greatQ, h1, h2, h, Bool.false_or]
    generalize by_.any _ = c
    cases c <;> simp
theorem r19_Much_v {n : Nat} (hn : Big n) (l : List (El tMessage)) : r19_Much n (l, ()) = some ((muchM l, ()), ((), ())) := by
  by_cases h : 30 < l.length
  · have h' : (30 : Int) < l.length := by omega
    simp [r19_Much, muchM, h, h']
  · have h' : ¬ (30 : Int) < l.length := by omega
    have hL := any_loop (a := l) (fun m => greatR m.2.2.2.1 || greatC m.2.2.2.2.1) true (L := fun g i => r19_Much_l0 n g (l, i, ())) (fun g => by simp [r19_Much_l0]) (fun g i h1 => by
      have e := iadd1 (i := i) (by omega)
      have a1 := r08_Great_v hn (l[i]).2.2.2.1
      have a2 := r09_Great_v hn (l[i]).2.2.2.2.1
      by_cases hp : greatR (l[i]).2.2.2.1 = true
      · simp [r19_Much_l0, h1, e, a1, hp]
      · by_cases hq : greatC (l[i]).2.2.2.2.1 = true
        · simp [r19_Much_l0, h1, e, a1, a2, hp, hq]
        · simp [r19_Much_l0, h1, e, a1, a2, hp, hq]) (g := n) (by unfold Big at hn; omega)
    simp only [r19_Much, ilen, ilt_eq, h', decide_false, cond_false, hL, muchM, h, Bool.false_or]
    generalize l.any _ = c
    cases c <;> simp
theorem r19_Great_v {n : Nat} (hn : Big n) (s : El tSub) : r19_Great n (s, ()) = some ((greatS s, ()), ((), ())) := by
  obtain ⟨id, q, st, rows, out, bg, ls, ⟨⟩⟩ := s
  have h1 := r07_Great_v hn q
  have h2 := r08_Great_v hn rows
  have h3 := r19_Much_v hn out
  simp only [r19_Great, h1, h2, h3, bindN_s, greatS]
  cases greatQ q <;> cases greatR rows <;> simp
/-- what is not too great has its bounds -/
theorem limR {l : List (El tRow)} (h : greatR l = false) : l.length ≤ 100 ∧ ∀ r ∈ l, r.2.1.size ≤ 300 := by
  simp only [greatR, Bool.or_eq_false_iff, decide_eq_false_iff_not, List.any_eq_false] at h
  exact ⟨by omega, fun r hr => by have := h.2 r hr; simp at this; exact this⟩
theorem limC {l : List (El tChange)} (h : greatC l = false) : l.length ≤ 100 ∧ ∀ r ∈ l, r.1.2.1.size ≤ 300 := by
  simp only [greatC, Bool.or_eq_false_iff, decide_eq_false_iff_not, List.any_eq_false] at h
  exact ⟨by omega, fun r hr => by have := h.2 r hr; simp at this; exact this⟩
theorem limMs {l : List (El tMessage)} (h : muchM l = false) : l.length ≤ 30 ∧ ∀ m ∈ l, greatR m.2.2.2.1 = false ∧ greatC m.2.2.2.2.1 = false := by
  simp only [muchM, Bool.or_eq_false_iff, decide_eq_false_iff_not, List.any_eq_false] at h
  exact ⟨by omega, fun m hm => by have := h.2 m hm; simpa using this⟩
theorem limS {s : El tSub} (h : greatS s = false) : LimS s := by
  simp only [greatS, greatQ, greatMt, Bool.or_eq_false_iff, decide_eq_false_iff_not] at h
  obtain ⟨⟨h1, ⟨h2, _⟩, h3, _⟩, h4, h5⟩ := h
  obtain ⟨g1, _⟩ := limR h4
  obtain ⟨g2, g3⟩ := limMs h5
  refine ⟨⟨by unfold Lim; omega, by unfold Lim; omega⟩, by unfold Lim; omega, by unfold Lim; omega, fun m hm => ?_⟩
  obtain ⟨k1, k2⟩ := g3 m hm
  exact ⟨by have := (limR k1).1; unfold Lim; omega, by have := (limC k2).1; unfold Lim; omega⟩
end Go.Proofs.YteaadaaghhojfaaGreatDoorE
end
section
namespace Go.Proofs.YteaadaaghhojfaaGreatDoorE
open Go
set_option linter.unusedVariables false
set_option linter.unusedSimpArgs false
set_option maxRecDepth 100000
theorem alive_v : law_alive 1000000000000000 () = some ((true, ()), ()) := by kernel_rfl
theorem big_n : Big 1000000000000000 := by unfold Big; omega
theorem send_v {n : Nat} (hn : Big n) {s : El tSub} (h : LimS s) (h30 : s.2.2.2.2.1.length ≤ 30) : ∃ m a ok, sub_Send n (s, ()) = some ((m, a, ok, ()), ((), ())) ∧ r19_Send n (s, ()) = some ((m, a, ok, ()), ((), ())) ∧ LimM m ∧ LimS a := by
  obtain ⟨id, q, st, rows, out, bg, ls, ⟨⟩⟩ := s
  obtain ⟨h1, h2, h3, h4⟩ := h
  simp only at h1 h2 h3 h4 h30
  cases out with
  | nil => exact ⟨_, _, _, by simp [sub_Send]; exact ⟨rfl, rfl, rfl⟩, by simp [r19_Send], ⟨by simp [Lim], by simp [Lim]⟩, h1, h2, h3, h4⟩
  | cons m r =>
    have hr : r.length ≤ 29 := by simp at h30; omega
    have k1 : room r.length 72 = true := room_of (by omega)
    have e0 : ¬ ((r.length : Int) + 1 = 0) := by omega
    have e1 : (1 : Int) ≤ (r.length : Int) + 1 := by omega
    have e2 : ((r.length : Int) + 1 - 1).toNat = r.length := by omega
    refine ⟨m, (id, q, st, rows, r, bg, ls, ()), true, ?_, ?_, h4 m (by simp), h1, h2, by simp [Lim] at h3 ⊢; omega, fun m' hm' => h4 m' (by simp [hm'])⟩
    · simp [sub_Send, sl_CloneMsg, ilen, k1, e0, e1, e2]
    · simp [r19_Send, ilen, roomA, k1, e0, e1, e2]
theorem sends_v {n : Nat} (hn : Big n) (ha : law_alive n () = some ((true, ()), ())) (x : SgEl law_Sends_sg) : ∃ o, law_Sends n x = some ((true, ()), o) := by
  obtain ⟨s, t, ⟨⟩⟩ := x
  have gs := r19_Great_v hn s
  have gt := r19_Great_v hn t
  cases hs : greatS s with
  | true => exact ⟨((), ((), ())), by simp [law_Sends, ha, gs, hs]⟩
  | false =>
    cases ht : greatS t with
    | true => exact ⟨((), ((), ())), by simp [law_Sends, ha, gs, gt, hs, ht]⟩
    | false =>
      have ls := limS hs
      have lt := limS ht
      have h30 : s.2.2.2.2.1.length ≤ 30 := by
        simp only [greatS, Bool.or_eq_false_iff] at hs
        exact (limMs hs.2.2).1
      obtain ⟨m, a, ok, h1, h2, h3, h4⟩ := send_v hn ls h30
      have e1 := r19_Equal_v hn (b := m) h3
      have e2 := r19_Same_v hn (b := a) h4
      have e3 := r19_Same_v hn (b := t) ls
      have e4 := sub_Same_v hn (b := t) ls
      cases ho : t.2.2.2.2.1 with
      | nil => exact ⟨((), ((), ())), by simp [law_Sends, ha, gs, gt, hs, ht, h1, h2, e1, e2, e3, e4, ho]⟩
      | cons y r =>
        have e5 := r19_Equal_v hn (b := y) h3
        have e6 := sub_Equal_v hn (b := y) h3
        have e0 : ¬ ((r.length : Int) + 1 = 0) := by omega
        exact ⟨((), ((), ())), by simp [law_Sends, ha, gs, gt, hs, ht, h1, h2, e1, e2, e3, e4, e5, e6, ho, e0]⟩
theorem sends_true : ∀ x, okArgs [tSub, tSub] x → ∃ o, law_Sends 1000000000000000 x = some ((true, ()), o) := fun x _ => sends_v big_n alive_v x
end Go.Proofs.YteaadaaghhojfaaGreatDoorE
end
