/- Plain laws of the shard's parts: the program's parts and the document's are one fold over the texts; each text lies in just the part that is its shard. -/
import Derived.Test.YtnmjnchbdlllmaaPureSp
import Derived.Test.YtnmjnchbdlllmaaXPure
namespace Go.Proofs.Ytnmjnchbdlllmaa.Pure
open Go.RowKit Go.Proofs.Ytnmjnchbdlllmaa.PSp Go.Proofs.YtnmjnchbdlllmaaW.PrintWords Go.Proofs.YtnmjnchbdlllmaaW.PrintLast Go.Proofs.YtnmjnchbdlllmaaW.PrintMore Go.Proofs.YtnmjnchbdlllmaaW.XP
set_option linter.unusedVariables false
set_option linter.unusedSimpArgs false
/-- So many shards, where there may be so many; else 1. -/
def cnt (n : Int) : Nat := if 1 ≤ n ∧ n ≤ 4 then n.toNat else 1
def put1 (n : Int) (acc : List (List ByteArray)) (s : ByteArray) : List (List ByteArray) := acc.set (shd s n) (acc.getD (shd s n) [] ++ [s])
def fill (n : Int) (acc : List (List ByteArray)) (l : List ByteArray) : List (List ByteArray) := l.foldl (put1 n) acc
theorem shd_cnt (s : ByteArray) (n : Int) : shd s n < cnt n := by
  unfold shd cnt
  split
  · exact Nat.mod_lt _ (by omega)
  · omega
theorem shd_one (s : ByteArray) : shd s 1 = 0 := by
  unfold shd; rw [if_pos (by omega)]; exact Nat.mod_one _
theorem shd_bad (s : ByteArray) (n : Int) (h : ¬ (1 ≤ n ∧ n ≤ 4)) : shd s n = 0 := by unfold shd; rw [if_neg h]
theorem put1_len (n : Int) (acc) (s) : (put1 n acc s).length = acc.length := by simp [put1]
theorem fill_len (n : Int) : ∀ l acc, (fill n acc l).length = acc.length
  | [], acc => rfl
  | s :: l, acc => by show (fill n (put1 n acc s) l).length = _; rw [fill_len n l, put1_len]
theorem rd_L1_nat (acc : List (List ByteArray)) (i : Nat) : rd_L1 acc (i : Int) = acc.getD i [] := by simp [rd_L1]
/-- All parts' lengths stay small. -/
def Small (acc : List (List ByteArray)) (b : Nat) : Prop := ∀ i, (acc.getD i []).length ≤ b
theorem put1_get (n : Int) (acc : List (List ByteArray)) (s : ByteArray) (i : Nat) (h : shd s n < acc.length) : (put1 n acc s).getD i [] = if i = shd s n then acc.getD i [] ++ [s] else acc.getD i [] := by
  unfold put1
  by_cases hi : i = shd s n
  · subst hi; rw [if_pos rfl]; simp [List.getD, h]
  · rw [if_neg hi]; simp [List.getD, List.getElem?_set, Ne.symm hi]
theorem put1_small (n : Int) (acc : List (List ByteArray)) (s : ByteArray) (b : Nat) (h : shd s n < acc.length) (hs : Small acc b) : Small (put1 n acc s) (b + 1) := by
  intro i
  rw [put1_get n acc s i h]
  have := hs i
  split
  · rw [List.length_append, List.length_singleton]; omega
  · omega
theorem parts_loop (n : Int) (l : List ByteArray) (hl : l.length ≤ 100) (hs : ∀ s ∈ l, s.size ≤ 200) : ∀ (d i : Nat) (acc : List (List ByteArray)), i + d = l.length → cnt n ≤ acc.length → Small acc i →
    Ev (fun k => spread_Parts.l0 k n acc l (l.length : Int) (i : Int)) (fill n acc (l.drop i))
  | 0, i, acc, hd, hc, hm => by
    refine Ev.step (f := fun _ => some acc) (fun k => ?_) (by rw [List.drop_of_length_le (by omega)]; exact Ev.now _)
    simp only [spread_Parts.l0]; rw [if_neg (by omega)]
  | d + 1, i, acc, hd, hc, hm => by
    have hi : i < l.length := by omega
    have hsz := hs l[i] (List.getElem_mem hi)
    have hlt := shd_cnt l[i] n
    refine Ev.step (f := fun k => (spread_Of.f k l[i] n).bind fun t => if 0 ≤ t then (if t < (acc.length : Int) then (if (rd_L1 acc t).length < 8796093022208 then spread_Parts.l0 k n (acc.set t.toNat (rd_L1 acc t ++ [l[i]])) l (l.length : Int) ((i + 1 : Nat) : Int) else none) else none) else none) (fun k => ?_) ?_
    · simp only [spread_Parts.l0]; rw [if_pos (by omega), if_pos (by omega), if_pos (by omega), rdOf_lt _ _ _ hi, wrap_up i (by omega)]
    · refine Ev.bind (of_ev l[i] (by omega) n) ?_
      have hm' := hm (shd l[i] n)
      refine Ev_if_pos (by omega) (Ev_if_pos (by omega) (Ev_if_pos (by rw [rd_L1_nat]; omega) ?_))
      have ih := parts_loop n l hl hs d (i + 1) (put1 n acc l[i]) (by omega) (by rw [put1_len]; exact hc) (put1_small n acc _ i (by omega) hm)
      rw [drop_cons l i hi, show fill n acc (l[i] :: l.drop (i + 1)) = fill n (put1 n acc l[i]) (l.drop (i + 1)) from rfl]
      simp only [rd_L1_nat, Int.toNat_natCast]
      exact ih
theorem rparts_loop (n : Int) (l : List ByteArray) (hl : l.length ≤ 100) (hs : ∀ s ∈ l, s.size ≤ 200) : ∀ (d i : Nat) (acc : List (List ByteArray)), i + d = l.length → cnt n ≤ acc.length → Small acc i →
    Ev (fun k => ebbtideref12_Parts.l0 k n l acc (i : Int)) (fill n acc (l.drop i))
  | 0, i, acc, hd, hc, hm => by
    refine Ev.step (f := fun _ => some acc) (fun k => ?_) (by rw [List.drop_of_length_le (by omega)]; exact Ev.now _)
    simp only [ebbtideref12_Parts.l0]; rw [if_neg (by omega)]
  | d + 1, i, acc, hd, hc, hm => by
    have hi : i < l.length := by omega
    have hsz := hs l[i] (List.getElem_mem hi)
    have hlt := shd_cnt l[i] n
    refine Ev.step (f := fun k => (ebbtideref12_Of.f k l[i] n).bind fun t => if 0 ≤ t then (if t < (acc.length : Int) then (if (rd_L1 acc t).length < 8796093022208 then ebbtideref12_Parts.l0 k n l (acc.set t.toNat (rd_L1 acc t ++ [l[i]])) ((i + 1 : Nat) : Int) else none) else none) else none) (fun k => ?_) ?_
    · simp only [ebbtideref12_Parts.l0]; rw [if_pos (by omega), if_pos (by omega), rdOf_lt _ _ _ hi, wrap_up i (by omega)]
    · refine Ev.bind (rof_ev l[i] (by omega) n) ?_
      have hm' := hm (shd l[i] n)
      refine Ev_if_pos (by omega) (Ev_if_pos (by omega) (Ev_if_pos (by rw [rd_L1_nat]; omega) ?_))
      have ih := rparts_loop n l hl hs d (i + 1) (put1 n acc l[i]) (by omega) (by rw [put1_len]; exact hc) (put1_small n acc _ i (by omega) hm)
      rw [drop_cons l i hi, show fill n acc (l[i] :: l.drop (i + 1)) = fill n (put1 n acc l[i]) (l.drop (i + 1)) from rfl]
      simp only [rd_L1_nat, Int.toNat_natCast]
      exact ih
def parts (n : Int) (l : List ByteArray) : List (List ByteArray) := fill n (List.replicate (cnt n) []) l
theorem small_rep (m : Nat) : Small (List.replicate m []) 0 := by
  intro i; simp [List.getD, List.getElem?_replicate]; split <;> simp
theorem fill_shift (n : Int) (h : ¬ (1 ≤ n ∧ n ≤ 4)) : ∀ l acc, fill 1 acc l = fill n acc l
  | [], _ => rfl
  | s :: l, acc => by
    show fill 1 (put1 1 acc s) l = fill n (put1 n acc s) l
    rw [fill_shift n h l]
    simp only [put1, shd_one, shd_bad s n h]
theorem parts_ev (n : Int) (l : List ByteArray) (hl : l.length ≤ 100) (hs : ∀ s ∈ l, s.size ≤ 200) : Ev (fun k => spread_Parts.f k n l) (parts n l) := by
  unfold spread_Parts.f
  rw [right_eq]
  simp only [Option.bind_some]
  by_cases h : 1 ≤ n ∧ n ≤ 4
  · refine Ev_if_pos (by simp [h]) (Ev.step (f := fun k => spread_Parts.l0 k n (List.replicate n.toNat []) l (l.length : Int) ((0 : Nat) : Int)) (fun k => ?_) ?_)
    · simp only [spread_Parts.j0]; rw [if_pos (by omega), if_pos (by omega)]; rfl
    · have := parts_loop n l hl hs l.length 0 (List.replicate n.toNat []) (by omega) (by simp [cnt, h]) (small_rep _)
      simpa [parts, cnt, h] using this
  · refine Ev_if_neg (by simpa using h) (Ev.step (f := fun k => spread_Parts.l0 k 1 (List.replicate 1 []) l (l.length : Int) ((0 : Nat) : Int)) (fun k => ?_) ?_)
    · simp only [spread_Parts.j0]; rfl
    · have := parts_loop 1 l hl hs l.length 0 (List.replicate 1 []) (by omega) (by simp [cnt]) (small_rep _)
      simp only [parts, cnt, if_neg h]
      rw [← fill_shift n h]
      exact this
theorem rparts_ev (n : Int) (l : List ByteArray) (hl : l.length ≤ 100) (hs : ∀ s ∈ l, s.size ≤ 200) : Ev (fun k => ebbtideref12_Parts.f k n l) (parts n l) := by
  have hbad : ¬ (1 ≤ n ∧ n ≤ 4) → Ev (fun k => ebbtideref12_Parts.j0 k n l true) (parts n l) := by
    intro h
    refine Ev.step (f := fun k => ebbtideref12_Parts.j1 k 1 l) (fun k => ?_) (Ev.step (f := fun k => ebbtideref12_Parts.l0 k 1 l (List.replicate 1 []) ((0 : Nat) : Int)) (fun k => ?_) ?_)
    · simp only [ebbtideref12_Parts.j0]; rfl
    · simp only [ebbtideref12_Parts.j1]; rfl
    · have := rparts_loop 1 l hl hs l.length 0 (List.replicate 1 []) (by omega) (by simp [cnt]) (small_rep _)
      simp only [parts, cnt, if_neg h]
      rw [← fill_shift n h]
      exact this
  unfold ebbtideref12_Parts.f
  by_cases h1 : n < 1
  · exact Ev_if_pos h1 (hbad (by omega))
  · refine Ev_if_neg h1 ?_
    by_cases h4 : n > 4
    · rw [decide_eq_true h4]; exact hbad (by omega)
    · rw [decide_eq_false h4]
      have h : 1 ≤ n ∧ n ≤ 4 := by omega
      refine Ev.step (f := fun k => ebbtideref12_Parts.j1 k n l) (fun k => ?_) (Ev.step (f := fun k => ebbtideref12_Parts.l0 k n l (List.replicate n.toNat []) ((0 : Nat) : Int)) (fun k => ?_) ?_)
      · simp only [ebbtideref12_Parts.j0]; rfl
      · simp only [ebbtideref12_Parts.j1]; rw [if_pos (by omega), if_pos (by omega)]; rfl
      · have := rparts_loop n l hl hs l.length 0 (List.replicate n.toNat []) (by omega) (by simp [cnt, h]) (small_rep _)
        simpa [parts, cnt, h] using this
theorem great_loop (l : List ByteArray) (hl : l.length ≤ 100) : ∀ (d i : Nat), i + d = l.length → ∃ b, Ev (fun k => ebbtidelaw12_great.l0 k l (i : Int)) b ∧ (b = false → ∀ s ∈ l.drop i, s.size ≤ 200)
  | 0, i, hd => ⟨false, Ev.step (f := fun _ => some false) (fun k => by simp only [ebbtidelaw12_great.l0]; rw [if_neg (by omega)]) (Ev.now _), fun _ => by rw [List.drop_of_length_le (by omega)]; simp⟩
  | d + 1, i, hd => by
    have hi : i < l.length := by omega
    by_cases hb : (l[i].size : Int) > 200
    · exact ⟨true, Ev.step (f := fun _ => some true) (fun k => by simp only [ebbtidelaw12_great.l0]; rw [if_pos (by omega), if_pos (by omega), rdOf_lt _ _ _ hi, if_pos hb]) (Ev.now _), fun h => by cases h⟩
    · obtain ⟨b, h1, h2⟩ := great_loop l hl d (i + 1) (by omega)
      refine ⟨b, Ev.step (f := fun k => ebbtidelaw12_great.l0 k l ((i + 1 : Nat) : Int)) (fun k => by simp only [ebbtidelaw12_great.l0]; rw [if_pos (by omega), if_pos (by omega), rdOf_lt _ _ _ hi, if_neg hb, wrap_up i (by omega)]) h1, fun hf s hm => ?_⟩
      rw [drop_cons l i hi] at hm
      rcases List.mem_cons.1 hm with rfl | hm
      · omega
      · exact h2 hf s hm
theorem great_ev (l : List ByteArray) : ∃ b, Ev (fun k => ebbtidelaw12_great.f k l) b ∧ (b = false → l.length ≤ 100 ∧ ∀ s ∈ l, s.size ≤ 200) := by
  unfold ebbtidelaw12_great.f
  by_cases h : (l.length : Int) > 100
  · exact ⟨true, Ev_if_pos h (Ev.now _), fun h => by cases h⟩
  · obtain ⟨b, h1, h2⟩ := great_loop l (by omega) l.length 0 (by omega)
    exact ⟨b, Ev_if_neg h h1, fun hf => ⟨by omega, by simpa using h2 hf⟩⟩
theorem same_loop (a : List ByteArray) (ha : a.length ≤ 8796093022208) : ∀ (d i : Nat), i + d = a.length → Ev (fun k => ebbtideref02_Same.l0 k a a (i : Int)) true
  | 0, i, hd => Ev.step (f := fun _ => some true) (fun k => by simp only [ebbtideref02_Same.l0]; rw [if_neg (by omega)]) (Ev.now _)
  | d + 1, i, hd => Ev.step (f := fun k => ebbtideref02_Same.l0 k a a ((i + 1 : Nat) : Int)) (fun k => by simp only [ebbtideref02_Same.l0]; rw [if_pos (by omega), if_pos (by omega), if_pos (by omega), if_pos trivial, wrap_up i (by omega)]) (same_loop a ha d (i + 1) (by omega))
theorem same_ev (a : List ByteArray) (ha : a.length ≤ 8796093022208) : Ev (fun k => ebbtideref02_Same.f k a a) true := by
  unfold ebbtideref02_Same.f
  exact Ev_if_pos rfl (same_loop a ha a.length 0 (by omega))
theorem fill_small (n : Int) : ∀ l acc b, cnt n ≤ acc.length → Small acc b → Small (fill n acc l) (b + l.length)
  | [], acc, b, _, h => by simpa [fill] using h
  | s :: l, acc, b, hc, h => by
    have hlt := shd_cnt s n
    have := fill_small n l (put1 n acc s) (b + 1) (by rw [put1_len]; exact hc) (put1_small n acc s b (by omega) h)
    rw [List.length_cons, show b + (l.length + 1) = b + 1 + l.length by omega]
    exact this
theorem parts_small (n : Int) (l : List ByteArray) : Small (parts n l) l.length := by
  have := fill_small n l (List.replicate (cnt n) []) 0 (by simp) (small_rep _)
  rw [Nat.zero_add] at this
  exact this
theorem parts_len (n : Int) (l : List ByteArray) : (parts n l).length = cnt n := by unfold parts; rw [fill_len]; simp
theorem cnt_le (n : Int) : 1 ≤ cnt n ∧ cnt n ≤ 4 := by unfold cnt; split <;> omega
theorem all_same_loop (p : List (List ByteArray)) (hp : p.length ≤ 4) (hm : Small p 100) : ∀ (d i : Nat), i + d = p.length → Ev (fun k => ebbtidelaw12_SpreadParts.l0 k p p (i : Int)) true
  | 0, i, hd => Ev.step (f := fun _ => some true) (fun k => by simp only [ebbtidelaw12_SpreadParts.l0]; rw [if_neg (by omega)]) (Ev.now _)
  | d + 1, i, hd => by
    refine Ev.step (f := fun k => (ebbtideref02_Same.f k (rd_L1 p (i : Int)) (rd_L1 p (i : Int))).bind fun t => if t = true then ebbtidelaw12_SpreadParts.l0 k p p ((i + 1 : Nat) : Int) else some false) (fun k => by simp only [ebbtidelaw12_SpreadParts.l0]; rw [if_pos (by omega), if_pos (by omega), if_pos (by omega), wrap_up i (by omega)]) ?_
    refine Ev.bind (same_ev _ (by rw [rd_L1_nat]; have := hm i; omega)) (Ev_if_pos rfl (all_same_loop p hp hm d (i + 1) (by omega)))
end Go.Proofs.Ytnmjnchbdlllmaa.Pure
