/- Any bytes, as one chunk, make the same lines for the program as for the document. Conditions: the bytes are of their kind. -/
import Derived.Test.YtnmjnchbdlllmaaPureFr
import Derived.Test.YtnmjnchbdlllmaaPFrx7
namespace Go.Proofs.Ytnmjnchbdlllmaa.Pure
open Go.RowKit Go.Proofs.Ytnmjnchbdlllmaa.PFr Go.Proofs.YtnmjnchbdlllmaaW.PrintWords Go.Proofs.YtnmjnchbdlllmaaW.PrintLast Go.Proofs.YtnmjnchbdlllmaaW.PrintMore Go.Proofs.YtnmjnchbdlllmaaW.XP Go.Proofs.YtnmjnchbdlllmaaW.XW
set_option linter.unusedVariables false
set_option linter.unusedSimpArgs false
theorem FrameLines : ∀ (x0 : List Int), (x0.length * 1 ≤ 140737488351232 ∧ ∀ x_ ∈ x0, (Lit.int .u8 x_).wf = true) → ∃ k, ebbtidelaw21_FrameLines.f k x0 = some true := by
  intro b ⟨_, hwf⟩
  have hby := byte_of hwf
  refine Ev.rounds ?_
  unfold ebbtidelaw21_FrameLines.f
  refine Ev_bind0 alive_is (Ev_if_pos rfl ?_)
  by_cases h2 : (b.length : Int) > 2000
  · exact Ev_if_pos h2 (Ev.now _)
  · refine Ev_if_neg h2 ?_
    refine Ev_bind (ref_push [] false [b] (by simp) ok_nil (by simp; omega)) ?_
    refine Ev_bind0 (lines_is b (by omega) hby) ?_
    rw [all_one]
    have hl := fFold_len frame_Push.fin b (([], false, []) : FSt In)
    simp only [List.length_nil] at hl
    exact Ev_bind (inputs_refl _ (by omega)) (Ev.now _)
end Go.Proofs.Ytnmjnchbdlllmaa.Pure
