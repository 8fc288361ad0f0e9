/- slices.Grow at an empty row of the caller's own, or nil: the shelf's contract in the words of the kit's print. -/
import Derived.Test.YtnmjnchbdlllmaaWMore
import Derived.Test.YtnmjnchbdlllmaaWWords
import Derived.Test.YtnmjnchbdlllmaaWKept
import Derived.Shelf.Spec.SlicesGrow
namespace Go.Proofs.YtnmjnchbdlllmaaW.XW
open Go.RowKit Go.Shelf
open Go.Proofs.YtnmjnchbdlllmaaW.PrintWords Go.Proofs.YtnmjnchbdlllmaaW.PrintLast Go.Proofs.YtnmjnchbdlllmaaW.PrintMore
set_option linter.unusedVariables false
set_option linter.unusedSimpArgs false
theorem grow_own {α : Type} {P : Program} {ρ : Ren} (L : Lays8.n4 P ρ) (d : Kd α) {i0 : TypeInfo} {z : Value} (hi0 : P.info? (ρ.t 25) = some i0) (hz0 : i0.zero = some z) (hs0 : 0 < i0.size) (hsz : d.sz = i0.size) (hzc : z.cells.size = i0.size)
    {w0 w : World} {P0 : Nat → Prop} {u : Value} {n : Nat} (hB : Below w0.heap.size w0 w) (ho : d.R (ρ.t 25) w w0.heap.size P0 u []) (hbig : n * i0.bytes ≤ 140737488355328) (hn : n ≤ 4611686018427387904) :
    Calls P (ρ.f 4) #[u, .int .i64 n] w fun e w' => ∃ v, e = .returned v ∧ d.R (ρ.t 25) w' w0.heap.size (fun k_ => (P0 k_ ∨ w.heap.size ≤ k_)) v [] ∧ Below w0.heap.size w0 w' ∧ Kept w w' (fun k_ => P0 k_) := by
  have ho' := ho
  obtain ⟨h0, inner, ⟨hil, hown⟩, hrl, hrep⟩ := ho
  have hnew : ∀ (cs : List Value) (c : Nat), c < n → cs.length = c * i0.size → ∀ (e : Ending) (w' : World), e = .returned (.slice (some ⟨w.heap.size, 0, none⟩) 0 (grownCap w (0 + n) c (ρ.t 25))) → w' = w.drew.alloc (.cells (cs.toArray ++ Builtin.zeroCells z.cells (0 + n - c) ++ Builtin.zeroCells z.cells (grownCap w (0 + n) c (ρ.t 25) - (0 + n))) (ρ.t 25)) →
      ∃ v, e = .returned v ∧ d.R (ρ.t 25) w' w0.heap.size (fun k_ => (P0 k_ ∨ w.heap.size ≤ k_)) v [] ∧ Below w0.heap.size w0 w' ∧ Kept w w' (fun k_ => P0 k_) := by
    rintro cs c hc hcl e w' rfl rfl
    have hG := grownCap_ge w (0 + n) c (ρ.t 25)
    have hGm := grownCap_le_maxLen w (0 + n) c (ρ.t 25) (by unfold maxLen; omega)
    generalize grownCap w (0 + n) c (ρ.t 25) = G at hG hGm ⊢
    have hgrow : Below w0.heap.size w0 w.drew := below_drew1 hB
    refine ⟨_, rfl, ⟨?_, [], ⟨by simp, .inr ⟨w.heap.size, G, _, rfl, hB.size, heap_alloc_new w.drew _, Nat.zero_le _, hGm, ?_, ?_⟩⟩, by simp, ?_⟩, ?_, ?_⟩
    · intro k hk
      have : w.heap.size = k := by simpa [Value.ownBlock] using hk
      exact .inr (by omega)
    · rw [hsz]
      simp only [Array.size_append, size_zeroCells, List.size_toArray, hcl, hzc]
      rw [← Nat.add_mul, ← Nat.add_mul]
      congr 1
      omega
    · simp
    · intro j p hj; simp at hj
    · exact hgrow.alloc hgrow.size _
    · exact Kept.alloc (Kept.drew (Kept.refl _ _)) _
  rcases hown with ⟨rfl, hnil⟩ | ⟨g, cap, cur, rfl, hg, hh, hnc, hcm, hcs, htk⟩
  · by_cases hn0 : n = 0
    · subst hn0
      refine (Any8.slices_Grow_room L none 0 0 0 w (Nat.le_refl _) (by omega) (by omega) (by omega)).mono ?_
      rintro e w' ⟨rfl, rfl⟩
      exact ⟨_, rfl, Kd.R_mono ho' (fun _ h => .inl h), hB, Kept.refl _ _⟩
    · refine (Any8.slices_Grow_grow L i0 z hi0 hz0 hs0 none 0 0 n [] w (Nat.le_refl _) (by omega) (by simpa using hbig) (by omega) (by simp) (fun _ => rfl) (fun a h => by cases h)).mono ?_
      rintro e w' ⟨he, hw⟩
      exact hnew [] 0 (by omega) (by simp) e w' he hw
  · have hcm' : cap ≤ 9223372036854775807 := hcm
    by_cases hr : n ≤ cap
    · refine (Any8.slices_Grow_room L (some ⟨g, 0, none⟩) 0 cap n w (Nat.zero_le _) hcm' (by omega) (by omega)).mono ?_
      rintro e w' ⟨rfl, rfl⟩
      exact ⟨_, rfl, Kd.R_mono ho' (fun _ h => .inl h), hB, Kept.refl _ _⟩
    · rw [hsz] at hcs
      refine (Any8.slices_Grow_grow L i0 z hi0 hz0 hs0 (some ⟨g, 0, none⟩) 0 cap n (cur.toList.take (cap * i0.size)) w (Nat.zero_le _) (by omega) (by simpa using hbig) (by omega) (by rw [List.length_take, Array.length_toList, hcs, Nat.min_self]) (fun h => by cases h) ?_).mono ?_
      · intro a ha j v hj
        cases ha
        rw [List.getElem?_take] at hj
        split at hj
        · have e1 : (⟨g, 0, none⟩ : Addr).add j = ⟨g, j, none⟩ := by
            unfold Addr.add
            split
            · next h => rw [h]
            · simp
          rw [e1, blk_cell hh]
          simpa using hj
        · cases hj
      · rintro e w' ⟨he, hw⟩
        exact hnew _ cap (by omega) (by rw [List.length_take, Array.length_toList, hcs, Nat.min_self]) e w' he hw
end Go.Proofs.YtnmjnchbdlllmaaW.XW
