/- A text's hash and shard are the document's, and the shard lies below the number of shards (or is 0): the plain law behind the row. -/
import Derived.Test.YtnmjnchbdlllmaaPureSp
namespace Go.Proofs.Ytnmjnchbdlllmaa.Pure
open Go.RowKit Go.Proofs.Ytnmjnchbdlllmaa.PSp Go.Proofs.YtnmjnchbdlllmaaW.PrintWords Go.Proofs.YtnmjnchbdlllmaaW.PrintLast Go.Proofs.YtnmjnchbdlllmaaW.PrintMore
set_option linter.unusedVariables false
set_option linter.unusedSimpArgs false
theorem SpreadHashes : ∀ (x0 : ByteArray) (x1 : Int), x0.size ≤ 140737488351232 → (Lit.int .i64 x1).wf = true → ∃ k, ebbtidelaw12_SpreadHashes.f k x0 x1 = some true := by
  intro s n hs hn
  refine Ev.rounds ?_
  show Ev (fun k => ebbtidelaw12_SpreadHashes.f k s n) true
  unfold ebbtidelaw12_SpreadHashes.f
  refine Ev.bind alive_ev ?_
  by_cases hb : (s.size : Int) > 2000
  · simp only [hb, if_true]; exact Ev.now _
  simp only [hb, if_true, if_false]
  have hs' : s.size ≤ 140737488355328 := by omega
  refine Ev.bind (of_ev s hs' n) (Ev.bind (hash_ev s hs') (Ev.bind (rhash_ev s hs') ?_))
  simp only [if_true]
  refine Ev.bind (rof_ev s hs' n) (Ev.const ?_)
  rw [if_pos rfl, if_pos (by omega)]
  have hlt : (shd s n : Int) < mx n 1 := by
    unfold mx shd
    split
    · rename_i h
      have := Nat.mod_lt (hsh s) (y := n.toNat) (by omega)
      split <;> omega
    · split <;> omega
  rw [decide_eq_true hlt]
end Go.Proofs.Ytnmjnchbdlllmaa.Pure
