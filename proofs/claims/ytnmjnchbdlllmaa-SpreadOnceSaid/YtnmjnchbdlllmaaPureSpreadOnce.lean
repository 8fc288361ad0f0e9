/- Each text is in just the part that is its shard, and all are there: the plain law behind the row. -/
import Derived.Test.YtnmjnchbdlllmaaPureSpParts
namespace Go.Proofs.Ytnmjnchbdlllmaa.Pure
open Go.RowKit Go.Proofs.Ytnmjnchbdlllmaa.PSp Go.Proofs.YtnmjnchbdlllmaaW.PrintWords Go.Proofs.YtnmjnchbdlllmaaW.PrintLast Go.Proofs.YtnmjnchbdlllmaaW.PrintMore Go.Proofs.YtnmjnchbdlllmaaW.XP
set_option linter.unusedVariables false
set_option linter.unusedSimpArgs false
def Placed (n : Int) (acc : List (List ByteArray)) : Prop := ∀ i s, s ∈ acc.getD i [] → shd s n = i ∧ s.size ≤ 200
def total (acc : List (List ByteArray)) : Nat := (acc.map List.length).sum
theorem put1_placed (n : Int) (acc : List (List ByteArray)) (s : ByteArray) (hs : s.size ≤ 200) (h : shd s n < acc.length) (hp : Placed n acc) : Placed n (put1 n acc s) := by
  intro i t ht
  rw [put1_get n acc s i h] at ht
  split at ht
  · rename_i hi
    rcases List.mem_append.1 ht with ht | ht
    · exact hp i t ht
    · rw [List.mem_singleton.1 ht]; exact ⟨hi.symm, hs⟩
  · exact hp i t ht
theorem total_set : ∀ (acc : List (List ByteArray)) (j : Nat) (r : List ByteArray), j < acc.length → total (acc.set j r) + (acc.getD j []).length = total acc + r.length
  | [], j, r, h => by simp at h
  | a :: acc, 0, r, h => by simp [total]; omega
  | a :: acc, j + 1, r, h => by
    have := total_set acc j r (by simpa using h)
    simp only [total, List.set_cons_succ, List.map_cons, List.sum_cons, List.getD_cons_succ] at *
    omega
theorem put1_total (n : Int) (acc : List (List ByteArray)) (s : ByteArray) (h : shd s n < acc.length) : total (put1 n acc s) = total acc + 1 := by
  have := total_set acc (shd s n) (acc.getD (shd s n) [] ++ [s]) h
  rw [List.length_append, List.length_singleton] at this
  unfold put1; omega
theorem fill_placed (n : Int) : ∀ l acc, (∀ s ∈ l, s.size ≤ 200) → cnt n ≤ acc.length → Placed n acc → Placed n (fill n acc l) ∧ total (fill n acc l) = total acc + l.length
  | [], acc, _, _, h => ⟨h, rfl⟩
  | s :: l, acc, hs, hc, h => by
    have hlt := shd_cnt s n
    obtain ⟨h1, h2⟩ := fill_placed n l (put1 n acc s) (fun t ht => hs t (List.mem_cons_of_mem _ ht)) (by rw [put1_len]; exact hc) (put1_placed n acc s (hs s List.mem_cons_self) (by omega) h)
    refine ⟨h1, ?_⟩
    show total (fill n (put1 n acc s) l) = _
    rw [h2, put1_total n acc s (by omega), List.length_cons]; omega
theorem total_rep : ∀ m, total (List.replicate m []) = 0
  | 0 => rfl
  | m + 1 => by rw [List.replicate_succ]; have := total_rep m; simp [total] at *
theorem parts_placed (n : Int) (l : List ByteArray) (hs : ∀ s ∈ l, s.size ≤ 200) : Placed n (parts n l) ∧ total (parts n l) = l.length := by
  have := fill_placed n l (List.replicate (cnt n) []) hs (by simp) (fun i s h => by
    exfalso
    have := small_rep (cnt n) i
    cases hh : (List.replicate (cnt n) []).getD i [] with
    | nil => rw [hh] at h; cases h
    | cons x t => rw [hh] at this; simp at this)
  rw [total_rep] at this
  exact ⟨this.1, by have := this.2; rw [Nat.zero_add] at this; exact this⟩
theorem total_drop (p : List (List ByteArray)) (i : Nat) (h : i < p.length) : total (p.drop i) = (p.getD i []).length + total (p.drop (i + 1)) := by
  rw [drop_cons p i h, getD_lt _ _ _ h]; rfl
theorem once_both (n : Int) (l : List ByteArray) (p : List (List ByteArray)) (hp : Placed n p) (hpl : 1 ≤ p.length ∧ p.length ≤ 4) (hl : l.length ≤ 100) (ht : total p = l.length) : ∀ (d i c : Nat), i + d = p.length → c + total (p.drop i) = l.length → Ev (fun k => ebbtidelaw12_SpreadOnce.l0 k n l p (c : Int) (i : Int)) true
  | 0, i, c, hd, hc => by
    have e : p.drop i = [] := List.drop_of_length_le (by omega)
    rw [e] at hc
    have : c = l.length := by simpa [total] using hc
    subst this
    refine Ev.step (f := fun _ => some true) (fun k => ?_) (Ev.now _)
    simp only [ebbtidelaw12_SpreadOnce.l0]; rw [if_neg (by omega), if_pos trivial, decide_eq_true (by omega)]
  | d + 1, i, c, hd, hc => by
    have hi : i < p.length := by omega
    have htd := total_drop p i hi
    have inner : ∀ (q j : Nat), j + q = (p.getD i []).length → Ev (fun k => ebbtidelaw12_SpreadOnce.l1 k n l p ((c + (p.getD i []).length : Nat) : Int) (i : Int) (j : Int)) true := by
      intro q
      induction q with
      | zero =>
        intro j hj
        refine Ev.step (f := fun k => ebbtidelaw12_SpreadOnce.l0 k n l p ((c + (p.getD i []).length : Nat) : Int) ((i + 1 : Nat) : Int)) (fun k => ?_) (once_both n l p hp hpl hl ht d (i + 1) _ (by omega) (by omega))
        simp only [ebbtidelaw12_SpreadOnce.l1]; rw [if_pos (by omega), if_pos (by omega), rd_L1_nat, if_neg (by omega), wrap_up i (by omega)]
      | succ q ih =>
        intro j hj
        have hjl : j < (p.getD i []).length := by omega
        obtain ⟨e1, e2⟩ := hp i _ (List.getElem_mem hjl)
        refine Ev.step (f := fun k => (spread_Of.f k (p.getD i [])[j] n).bind fun t => if t = (i : Int) then ebbtidelaw12_SpreadOnce.l1 k n l p ((c + (p.getD i []).length : Nat) : Int) (i : Int) ((j + 1 : Nat) : Int) else some false) (fun k => ?_) ?_
        · simp only [ebbtidelaw12_SpreadOnce.l1]; rw [if_pos (by omega), if_pos (by omega), rd_L1_nat, if_pos (by omega), if_pos (by omega), rdOf_lt _ _ _ hjl, wrap_up j (by omega)]
        · refine Ev.bind (of_ev _ (by omega) n) (Ev_if_pos (by rw [e1]) (ih (j + 1) (by omega)))
    refine Ev.step (f := fun k => ebbtidelaw12_SpreadOnce.l1 k n l p ((c + (p.getD i []).length : Nat) : Int) (i : Int) ((0 : Nat) : Int)) (fun k => ?_) (inner (p.getD i []).length 0 (by omega))
    simp only [ebbtidelaw12_SpreadOnce.l0]; rw [if_pos (by omega), if_pos (by omega), rd_L1_nat, show (c : Int) + ((p.getD i []).length : Int) = ((c + (p.getD i []).length : Nat) : Int) by omega, wrap64_in (by omega) (by omega)]; rfl
theorem SpreadOnce : ∀ (x0 : Int) (x1 : List ByteArray), (Lit.int .i64 x0).wf = true → (x1.length * 16 ≤ 140737488351232 ∧ ∀ x_ ∈ x1, x_.size ≤ 140737488351232) → ∃ k, ebbtidelaw12_SpreadOnce.f k x0 x1 = some true := by
  intro n l _ _
  refine Ev.rounds (g := fun k => ebbtidelaw12_SpreadOnce.f k n l) ?_
  unfold ebbtidelaw12_SpreadOnce.f
  refine Ev.bind alive_ev (Ev_if_pos rfl ?_)
  obtain ⟨b, h1, h2⟩ := great_ev l
  refine Ev.bind h1 ?_
  cases b with
  | true => exact Ev_if_pos rfl (Ev.now _)
  | false =>
    obtain ⟨hl, hs⟩ := h2 rfl
    refine Ev_if_neg (by simp) (Ev.bind (parts_ev n l hl hs) ?_)
    have hc := cnt_le n
    have hpl := parts_len n l
    obtain ⟨q1, q2⟩ := parts_placed n l hs
    exact once_both n l (parts n l) q1 (by omega) hl q2 (parts n l).length 0 0 (by omega) (by simpa using q2)
end Go.Proofs.Ytnmjnchbdlllmaa.Pure
