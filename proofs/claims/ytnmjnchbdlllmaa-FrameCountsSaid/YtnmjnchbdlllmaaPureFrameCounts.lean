/- There are as many lines as line feeds; one is too long just where more bytes stand ahead of its feed than one may have. Condition: bytes are of their kind. -/
import Derived.Test.YtnmjnchbdlllmaaPureFr
import Derived.Test.YtnmjnchbdlllmaaPFrx9
namespace Go.Proofs.Ytnmjnchbdlllmaa.Pure
open Go.RowKit Go.Proofs.Ytnmjnchbdlllmaa.PFr Go.Proofs.YtnmjnchbdlllmaaW.PrintWords Go.Proofs.YtnmjnchbdlllmaaW.PrintLast Go.Proofs.YtnmjnchbdlllmaaW.PrintMore Go.Proofs.YtnmjnchbdlllmaaW.XP Go.Proofs.YtnmjnchbdlllmaaW.XW
set_option linter.unusedVariables false
set_option linter.unusedSimpArgs false
/-- At byte i: n lines are told, the line at hand began at 'from_', it is skipped just if more than 120 bytes of it stand here. -/
theorem counts_loop (b : List Int) (L : List In) (hbl : b.length ≤ 2000) :
    ∀ (d i : Nat) (n from_ : Nat) (p : List Int) (s : Bool) (m : List In), i + d = b.length → from_ ≤ i → m.length = n → n ≤ i → (s = true ↔ i - from_ > 120) → (s = false → p.length = i - from_) → (fFold frame_Push.fin ((p, s, m) : FSt In) (b.drop i)).2.2 = L →
    Ev (fun k => ebbtidelaw21_FrameCounts.l0 k b (n : Int) (from_ : Int) L (i : Int)) true
  | 0, i, n, from_, p, s, m, hd, hf, hm, hni, hs, hp, hL => by
    rw [List.drop_of_length_le (by omega)] at hL
    have hL' : m = L := hL
    refine Ev.step (f := fun _ => some true) (fun k => ?_) (Ev.now _)
    simp only [ebbtidelaw21_FrameCounts.l0]
    rw [if_neg (by omega), ← hL', hm]; simp
  | d + 1, i, n, from_, p, s, m, hd, hf, hm, hni, hs, hp, hL => by
    have hi : i < b.length := by omega
    rw [List.drop_eq_getElem_cons hi] at hL
    have hL2 : (fFold frame_Push.fin (fOne frame_Push.fin ((p, s, m) : FSt In) b[i]) (b.drop (i + 1))).2.2 = L := hL
    by_cases h10 : b[i] = 10
    · unfold fOne at hL2
      rw [if_pos h10] at hL2
      simp only at hL2
      have hah := fFold_ahead0 frame_Push.fin (b.drop (i + 1)) [] false (m ++ [frame_Push.fin p s])
      have hL3 := hL2
      rw [hah] at hL3
      simp only at hL3
      have hnL : n < L.length := by rw [← hL3, List.length_append, List.length_append, List.length_singleton]; omega
      have hLn : L[n] = frame_Push.fin p s := by
        have : L[n]? = some (frame_Push.fin p s) := by
          rw [← hL3, List.getElem?_append_left (by rw [List.length_append, List.length_singleton]; omega), List.getElem?_append_right (by omega), hm]
          simp
        exact (List.getElem?_eq_some_iff.1 this).2
      have hrt : rd_T54 L (n : Int) = frame_Push.fin p s := by rw [rd_T_nat L n hnL, hLn]
      have hw : wrap64 ((i : Int) - (from_ : Int)) = ((i - from_ : Nat) : Int) := by unfold wrap64; omega
      have hlong : (frame_Push.fin p s).f1 = s := by
        unfold frame_Push.fin
        cases s <;> simp
      have hdec : decide ((((i - from_ : Nat) : Int)) > 120) = s := by
        cases s with
        | true => exact decide_eq_true (by have := hs.1 rfl; omega)
        | false => exact decide_eq_false (by intro h; have := hs.2 (by omega); cases this)
      have ih := counts_loop b L hbl d (i + 1) (n + 1) (i + 1) [] false (m ++ [frame_Push.fin p s]) (by omega) (by omega) (by rw [List.length_append, List.length_singleton]; omega) (by omega) (by simp) (by simp) hL2
      refine Ev.step (f := fun k => ebbtidelaw21_FrameCounts.l0 k b ((n + 1 : Nat) : Int) ((i + 1 : Nat) : Int) L ((i + 1 : Nat) : Int)) (fun k => ?_) ih
      simp only [ebbtidelaw21_FrameCounts.l0]
      rw [if_pos (by omega), if_pos (by omega), rd_lt b i hi, if_pos h10, if_neg (by omega), if_pos (by omega), if_pos (by omega), hrt, hw, hdec, hlong, if_neg (by simp), wrap_up i (by omega), wrap_up n (by omega)]
      cases s with
      | true => rw [if_pos rfl, if_pos (by unfold frame_Push.fin; rw [if_pos rfl]; show (⟨#[]⟩ : ByteArray).toList = []; rw [ba_eq.ba_toList])]
      | false => rw [if_neg (by simp)]
    · have hstep : ∃ p' s', fOne frame_Push.fin ((p, s, m) : FSt In) b[i] = (p', s', m) ∧ (s' = true ↔ i + 1 - from_ > 120) ∧ (s' = false → p'.length = i + 1 - from_) := by
        unfold fOne
        rw [if_neg h10]
        simp only
        cases s with
        | true => exact ⟨p, true, by rw [if_pos rfl], by have := hs.1 rfl; simp; omega, fun h => by cases h⟩
        | false =>
          have hpl := hp rfl
          have hns : ¬ (i - from_ > 120) := fun h => by have := hs.2 h; cases this
          rw [if_neg (by simp)]
          by_cases h120 : 120 ≤ p.length
          · exact ⟨[], true, by rw [if_pos h120], by simp; omega, fun h => by cases h⟩
          · exact ⟨p ++ [b[i]], false, by rw [if_neg h120], by simp; omega, fun _ => by simp; omega⟩
      obtain ⟨p', s', he, h1, h2⟩ := hstep
      rw [he] at hL2
      refine Ev.step (f := fun k => ebbtidelaw21_FrameCounts.l0 k b (n : Int) (from_ : Int) L ((i + 1 : Nat) : Int)) (fun k => ?_) (counts_loop b L hbl d (i + 1) n from_ p' s' m (by omega) (by omega) hm (by omega) h1 h2 hL2)
      simp only [ebbtidelaw21_FrameCounts.l0]
      rw [if_pos (by omega), if_pos (by omega), rd_lt b i hi, if_neg h10, wrap_up i (by omega)]
theorem FrameCounts : ∀ (x0 : List Int), (x0.length * 1 ≤ 140737488351232 ∧ ∀ x_ ∈ x0, (Lit.int .u8 x_).wf = true) → ∃ k, ebbtidelaw21_FrameCounts.f k x0 = some true := by
  intro b ⟨_, hwf⟩
  have hby := byte_of hwf
  refine Ev.rounds ?_
  unfold ebbtidelaw21_FrameCounts.f
  refine Ev_bind0 alive_is (Ev_if_pos rfl ?_)
  by_cases h2 : (b.length : Int) > 2000
  · exact Ev_if_pos h2 (Ev.now _)
  · refine Ev_if_neg h2 ?_
    refine Ev_bind0 (lines_is b (by omega) hby) ?_
    exact counts_loop b _ (by omega) b.length 0 0 0 [] false [] (by omega) (by omega) rfl (by omega) (by simp) (by simp) (by rw [List.drop_zero])
end Go.Proofs.Ytnmjnchbdlllmaa.Pure
