/- Any chunks make of any frame that may be the same frame, and the same lines, for the program as for the document. Conditions: bytes are of their kind. -/
import Derived.Test.YtnmjnchbdlllmaaPureFr
import Derived.Test.YtnmjnchbdlllmaaPFrx6
import Derived.Test.YtnmjnchbdlllmaaPFrx4
namespace Go.Proofs.Ytnmjnchbdlllmaa.Pure
open Go.RowKit Go.Proofs.Ytnmjnchbdlllmaa.PFr Go.Proofs.YtnmjnchbdlllmaaW.PrintWords Go.Proofs.YtnmjnchbdlllmaaW.PrintLast Go.Proofs.YtnmjnchbdlllmaaW.PrintMore Go.Proofs.YtnmjnchbdlllmaaW.XP Go.Proofs.YtnmjnchbdlllmaaW.XW
set_option linter.unusedVariables false
set_option linter.unusedSimpArgs false
theorem great_loop (l : List (List Int)) (hl : l.length < 9223372036854775807) : ∀ (d i : Nat), i + d = l.length → (∃ b, Ev (fun k => ebbtideref21_Great.l0 k l (i : Int)) b ∧ (b = false → ∀ x ∈ l.drop i, x.length ≤ 500))
  | 0, i, hd => ⟨false, Ev.step (f := fun _ => some false) (fun k => by simp only [ebbtideref21_Great.l0]; rw [if_neg (by omega)]) (Ev.now _), fun _ x hx => by rw [List.drop_of_length_le (by omega)] at hx; simp at hx⟩
  | d + 1, i, hd => by
    have hi : i < l.length := by omega
    by_cases h5 : ((l[i].length : Int) > 500)
    · exact ⟨true, Ev.step (f := fun _ => some true) (fun k => by simp only [ebbtideref21_Great.l0]; rw [if_pos (by omega), if_pos (by omega), rd_L1_nat l i hi, if_pos h5]) (Ev.now _), fun h => by cases h⟩
    · obtain ⟨b, h1, h2⟩ := great_loop l hl d (i + 1) (by omega)
      refine ⟨b, Ev.step (f := fun k => ebbtideref21_Great.l0 k l ((i + 1 : Nat) : Int)) (fun k => ?_) h1, fun hb x hx => ?_⟩
      · simp only [ebbtideref21_Great.l0]
        rw [if_pos (by omega), if_pos (by omega), rd_L1_nat l i hi, if_neg h5, wrap_up i (by omega)]
      · rw [List.drop_eq_getElem_cons hi] at hx
        rcases List.mem_cons.1 hx with rfl | hx
        · omega
        · exact h2 hb x hx
theorem great_ev (l : List (List Int)) (hl : l.length < 9223372036854775807) : ∃ b, Ev (fun k => ebbtideref21_Great.f k l) b ∧ (b = false → l.length ≤ 50 ∧ ∀ x ∈ l, x.length ≤ 500) := by
  unfold ebbtideref21_Great.f
  by_cases h5 : (l.length : Int) > 50
  · exact ⟨true, Ev_if_pos h5 (Ev.now _), fun h => by cases h⟩
  · obtain ⟨b, h1, h2⟩ := great_loop l hl l.length 0 (by omega)
    exact ⟨b, Ev_if_neg h5 h1, fun hb => ⟨by omega, fun x hx => h2 hb x (by simpa using hx)⟩⟩
theorem sum_le (l : List (List Int)) (h : ∀ x ∈ l, x.length ≤ 500) : (l.map List.length).sum ≤ l.length * 500 := by
  induction l with
  | nil => simp
  | cons x t ih =>
    rw [List.map_cons, List.sum_cons, List.length_cons]
    have h1 := h x (List.mem_cons_self ..)
    have h2 := ih (fun y hy => h y (List.mem_cons_of_mem _ hy))
    omega
theorem same_two (p q : List Int) (s t : Bool) : ∃ r, frame_Same.f p s q t = some r ∧ ebbtideref21_Same.f p s q t = some r := by
  unfold frame_Same.f ebbtideref21_Same.f bytes_Equal.f
  by_cases hst : (s == t) = true
  · rw [if_pos hst]
    by_cases hpq : (strOfNums p).toList = (strOfNums q).toList
    · exact ⟨true, by rw [hpq]; simp, by rw [if_pos hpq, hst]⟩
    · exact ⟨false, by simp [hpq], by rw [if_neg hpq]⟩
  · rw [if_neg hst]
    refine ⟨false, rfl, ?_⟩
    by_cases hpq : (strOfNums p).toList = (strOfNums q).toList
    · rw [if_pos hpq]; simpa using hst
    · rw [if_neg hpq]
theorem j0_true (l : List (List Int)) (p q : List Int) (s t : Bool) : Ev (fun k => ebbtidelaw21_FramePushes.j0 k l true p s q t) true :=
  Ev.step (f := fun _ => some true) (fun k => by simp only [ebbtidelaw21_FramePushes.j0]; first | rw [if_pos rfl] | rw [if_pos trivial]) (Ev.now _)
theorem FramePushes : ∀ (x0 : S38) (x1 : S38) (x2 : List (List Int)), ((x0.f0.length * 1 ≤ 140737488351232 ∧ ∀ x_ ∈ x0.f0, (Lit.int .u8 x_).wf = true) ∧ True) → ((x1.f0.length * 1 ≤ 140737488351232 ∧ ∀ x_ ∈ x1.f0, (Lit.int .u8 x_).wf = true) ∧ True) → (x2.length * 24 ≤ 140737488351232 ∧ ∀ x_ ∈ x2, (x_.length * 1 ≤ 140737488351232 ∧ ∀ y_ ∈ x_, (Lit.int .u8 y_).wf = true)) → ∃ k, ebbtidelaw21_FramePushes.f k x0.f0 x0.f1 x1.f0 x1.f1 x2 = some true := by
  intro ⟨p, s⟩ ⟨q, t⟩ l _ _ ⟨hl, hwf⟩
  refine Ev.rounds ?_
  simp only
  unfold ebbtidelaw21_FramePushes.f
  refine Ev_bind0 alive_is (Ev_if_pos rfl ?_)
  obtain ⟨gb, hg, hgf⟩ := great_ev l (by omega)
  refine Ev_bind hg ?_
  cases gb with
  | true => exact Ev_if_pos rfl (j0_true l p q s t)
  | false =>
    obtain ⟨hl50, hl500⟩ := hgf rfl
    refine Ev_if_neg (by simp) ?_
    by_cases hp : (p.length : Int) > 120
    · exact Ev_if_pos hp (j0_true l p q s t)
    refine Ev_if_neg hp ?_
    have core : (s = true → p = []) → Ev (fun k => ebbtidelaw21_FramePushes.j0 k l (decide ((q.length : Int) > 500)) p s q t) true := by
      intro hsp
      by_cases hq : (q.length : Int) > 500
      · rw [decide_eq_true hq]; exact j0_true l p q s t
      rw [decide_eq_false hq]
      have hok : FOk ((p, s, []) : FSt In) := ⟨by simp only; omega, hsp⟩
      have hsum := sum_le l hl500
      have hby : ∀ b ∈ l, ∀ x ∈ b, 0 ≤ x ∧ x < 256 := fun b hb => byte_of (hwf b hb).2
      have hall : (fAll frame_Push.fin ((p, s, []) : FSt In) l).2.2.length ≤ 0 + l.flatten.length := by
        rw [fAll_flat]; exact fFold_len frame_Push.fin l.flatten ((p, s, []) : FSt In)
      rw [List.length_flatten] at hall
      obtain ⟨r, hr1, hr2⟩ := same_two p q s t
      refine Ev.step (f := fun k => (some ([] : List Int)).bind fun y212 => if y212.length + p.length < 140737488355328 then ((frame_Push.f p s l).bind fun bt218 => ((ebbtideref21_Push.f k p s l).bind fun bt226 => ((ebbtideref21_Same.f bt218.1 bt218.2.1 bt226.1 bt226.2.1).bind fun t234 => (if t234 = true then ((ebbtideref21_Inputs.f k bt218.2.2 bt226.2.2).bind fun t235 => (if t235 = true then (if (strOfNums (y212 ++ p)).toList = (strOfNums p).toList then ((frame_Same.f p s q t).bind fun t236 => ((ebbtideref21_Same.f p s q t).bind fun t237 => (some (t236 == t237)))) else (none)) else (none))) else (none))))) else none) (fun k => ?_) ?_
      · simp only [ebbtidelaw21_FramePushes.j0]; rw [if_neg (by simp)]
      refine Ev_bind0 rfl (Ev_if_pos (by simp only [List.length_nil]; omega) ?_)
      refine Ev_bind0 (push_is (good_of hok (by omega) hby)) ?_
      refine Ev_bind (ref_push p s l (by omega) hok (by omega)) ?_
      refine Ev_bind0 (same_refl _ _) (Ev_if_pos rfl ?_)
      refine Ev_bind (inputs_refl _ (by omega)) (Ev_if_pos rfl ?_)
      refine Ev_if_pos (by rw [List.nil_append]) ?_
      refine Ev_bind0 hr1 (Ev_bind0 hr2 ?_)
      rw [show (r == r) = true by simp]
      exact Ev.now _
    by_cases hs : s = true
    · refine Ev_if_pos hs ?_
      by_cases hp0 : (p.length : Int) > 0
      · exact Ev_if_pos hp0 (j0_true l p q s t)
      · exact Ev_if_neg hp0 (core (fun _ => List.length_eq_zero_iff.1 (by omega)))
    · exact Ev_if_neg hs (core (fun h => absurd h hs))
end Go.Proofs.Ytnmjnchbdlllmaa.Pure
