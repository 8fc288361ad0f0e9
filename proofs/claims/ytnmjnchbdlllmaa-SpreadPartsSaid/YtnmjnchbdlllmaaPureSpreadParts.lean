/- The parts of any texts are the document's: the plain law behind the row. -/
import Derived.Test.YtnmjnchbdlllmaaPureSpParts
namespace Go.Proofs.Ytnmjnchbdlllmaa.Pure
open Go.RowKit Go.Proofs.Ytnmjnchbdlllmaa.PSp Go.Proofs.YtnmjnchbdlllmaaW.PrintWords Go.Proofs.YtnmjnchbdlllmaaW.PrintLast Go.Proofs.YtnmjnchbdlllmaaW.PrintMore Go.Proofs.YtnmjnchbdlllmaaW.XP
theorem SpreadParts : ∀ (x0 : Int) (x1 : List ByteArray), (Lit.int .i64 x0).wf = true → (x1.length * 16 ≤ 140737488351232 ∧ ∀ x_ ∈ x1, x_.size ≤ 140737488351232) → ∃ k, ebbtidelaw12_SpreadParts.f k x0 x1 = some true := by
  intro n l _ _
  refine Ev.rounds (g := fun k => ebbtidelaw12_SpreadParts.f k n l) ?_
  unfold ebbtidelaw12_SpreadParts.f
  refine Ev.bind alive_ev (Ev_if_pos rfl ?_)
  obtain ⟨b, h1, h2⟩ := great_ev l
  refine Ev.bind h1 ?_
  cases b with
  | true => exact Ev_if_pos rfl (Ev.now _)
  | false =>
    obtain ⟨hl, hs⟩ := h2 rfl
    refine Ev_if_neg (by simp) (Ev_bind0 rfl (Ev_if_pos (by simp; omega) (Ev_bind0 rfl ?_)))
    simp only [List.nil_append]
    refine Ev.bind (parts_ev n l hl hs) (Ev.bind (rparts_ev n l hl hs) (Ev_if_pos rfl (Ev.bind (same_ev l (by omega)) ?_)))
    refine Ev.step (f := fun k => ebbtidelaw12_SpreadParts.l0 k (parts n l) (parts n l) ((0 : Nat) : Int)) (fun k => by simp only [ebbtidelaw12_SpreadParts.j0]; rfl) ?_
    have hc := cnt_le n
    have hpl := parts_len n l
    exact all_same_loop _ (by omega) (fun i => by have := parts_small n l i; omega) (parts n l).length 0 (by omega)
end Go.Proofs.Ytnmjnchbdlllmaa.Pure
