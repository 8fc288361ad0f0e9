/- TagParses: the plain law. -/
import Derived.Test.YtbefmicenjdfkaaDoorPTkx11
import Derived.Test.YtbefmicenjdfkaaDoorPZ
namespace Go.Proofs.YtbefmicenjdfkaaDoor.Pure
open Go.RowKit Go.Proofs.YtbefmicenjdfkaaDoor.PTk Go.Proofs.YtbefmicenjdfkaaDoorW.PrintWords Go.Proofs.YtbefmicenjdfkaaDoorW.PrintLast Go.Proofs.YtbefmicenjdfkaaDoorW.PrintMore Go.Proofs.YtbefmicenjdfkaaDoorW.XP Go.Proofs.YtbefmicenjdfkaaDoorW.XW
set_option linter.unusedVariables false
set_option linter.unusedSimpArgs false
abbrev TLaw := List S52
theorem TagParses : ∀ (x0 : ByteArray), x0.size ≤ 140737488351232 → ∃ k, ebbtidelaw03_TagParses.f k x0 = some true := by
  intro s _
  refine Ev.rounds (g := fun k => ebbtidelaw03_TagParses.f k s) ?_
  unfold ebbtidelaw03_TagParses.f
  refine Ev.bind talive_ev (Ev_if_pos rfl ?_)
  by_cases h : (s.size : Int) > 500
  · exact Ev_if_pos h (Ev.now _)
  · refine Ev_if_neg h ?_
    refine Ev.bind (parse_ev s (by omega)) (Ev.bind (rparse_ev s (by omega)) ?_)
    have hl : (parseT s).1.length ≤ 100000000 := by
      rcases parse_out s with ⟨_, h2⟩ | ⟨_, h2⟩
      · have := ((right_iff _).1 h2).2.2; omega
      · rw [h2]; simp
    refine Ev.bind (rsame_ev _ _ hl) (Ev_if_pos (sameT_refl _) ?_)
    simpa using Ev.now true
end Go.Proofs.YtbefmicenjdfkaaDoor.Pure
