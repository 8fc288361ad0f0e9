/- One more byte goes on from the hash: the plain law behind the row. -/
import Derived.Test.YtnmjnchbdlllmaaPureSp
namespace Go.Proofs.Ytnmjnchbdlllmaa.Pure
open Go.RowKit Go.Proofs.Ytnmjnchbdlllmaa.PSp Go.Proofs.YtnmjnchbdlllmaaW.PrintWords Go.Proofs.YtnmjnchbdlllmaaW.PrintLast Go.Proofs.YtnmjnchbdlllmaaW.PrintMore
set_option linter.unusedVariables false
set_option linter.unusedSimpArgs false
theorem hashFrom_succ (s : ByteArray) (h i d : Nat) : hashFrom s h i (d + 1) = hashFrom s (stepH h (btn s i)) (i + 1) d := by rw [hashFrom]
theorem hashFrom_congr (s t : ByteArray) : ∀ d h i, (∀ j, i ≤ j → j < i + d → btn s j = btn t j) → hashFrom s h i d = hashFrom t h i d
  | 0, _, _, _ => by rw [hashFrom, hashFrom]
  | d + 1, h, i, he => by
    rw [hashFrom_succ, hashFrom_succ, he i (by omega) (by omega)]
    exact hashFrom_congr s t d _ _ (fun j h0 h1 => he j (by omega) (by omega))
theorem hashFrom_snoc (s : ByteArray) : ∀ d h i, hashFrom s h i (d + 1) = stepH (hashFrom s h i d) (btn s (i + d))
  | 0, _, _ => by rw [hashFrom_succ, hashFrom, hashFrom, Nat.add_zero]
  | d + 1, h, i => by
    rw [hashFrom_succ, hashFrom_snoc s d, hashFrom_succ s h i d, show i + 1 + d = i + (d + 1) by omega]
theorem btn_left (s t : ByteArray) (j : Nat) (hj : j < s.size) : btn (s ++ t) j = btn s j := by
  unfold btn bt
  rw [dif_pos (by rw [ByteArray.size_append]; simp; omega), dif_pos (by simpa using hj)]
  simp only [Int.toNat_natCast]
  rw [ByteArray.getElem_append_left hj]
theorem btn_last (s t : ByteArray) (ht : 0 < t.size) : btn (s ++ t) s.size = btn t 0 := by
  unfold btn bt
  rw [dif_pos (by rw [ByteArray.size_append]; simp; omega), dif_pos (by simpa using ht)]
  simp only [Int.toNat_natCast]
  rw [ByteArray.getElem_append_right (Nat.le_refl _)]
  simp
theorem btn_one (c : Int) (h0 : 0 ≤ c) (h1 : c ≤ 255) : btn (strOfNums [c]) 0 = c.toNat := by
  unfold btn bt
  rw [dif_pos (by rw [strOfNums_size]; simp)]
  show ((UInt8.ofNat c.toNat).toNat : Int).toNat = c.toNat
  rw [Int.toNat_natCast, UInt8.toNat_ofNat']
  omega
theorem SpreadGrows : ∀ (x0 : ByteArray) (x1 : Int), x0.size ≤ 140737488351232 → (Lit.int .u8 x1).wf = true → ∃ k, ebbtidelaw12_SpreadGrows.f k x0 x1 = some true := by
  intro s c hs hc
  refine Ev.rounds ?_
  show Ev (fun k => ebbtidelaw12_SpreadGrows.f k s c) true
  unfold ebbtidelaw12_SpreadGrows.f
  refine Ev.bind alive_ev ?_
  by_cases hb : (s.size : Int) > 2000
  · simp only [hb, if_true]; exact Ev.now _
  simp only [hb, if_true, if_false]
  have hs' : s.size ≤ 2000 := by omega
  refine Ev.bind (hash_ev s (by omega)) ?_
  simp only [Option.bind_some]
  have hz : (strOfNums [c]).size = 1 := rfl
  have hl := hsh_lt s
  simp only [hz, show s.size + 1 ≤ 9223372036854775807 from by omega, if_true]
  have hz2 : (s ++ strOfNums [c]).size = s.size + 1 := by rw [ByteArray.size_append, hz]
  refine Ev.bind (hash_ev _ (by rw [hz2]; omega)) (Ev.const ?_)
  have hwf : 0 ≤ c ∧ c ≤ 255 := by
    simp [Lit.wf, IntKind.min, IntKind.max, IntKind.signed, IntKind.bits] at hc; omega
  obtain ⟨h0, h1⟩ := hwf
  have e : hsh (s ++ strOfNums [c]) = stepH (hsh s) c.toNat := by
    unfold hsh
    rw [hz2, hashFrom_snoc, hashFrom_congr _ s s.size _ _ (fun j _ hj => btn_left s _ j (by omega)), Nat.zero_add, btn_last _ _ (by rw [hz]; omega), btn_one c h0 h1]
  rw [e]
  obtain ⟨n, rfl⟩ := Int.eq_ofNat_of_zero_le h0
  rw [u64_wrap ((hsh s : Nat) : Int), show ((hsh s : Nat) : Int) % 18446744073709551616 = (hsh s : Int) by omega, step64 (hsh s) n hl (by omega), u64_wrap]
  have := stepH_lt (hsh s) n
  rw [Int.toNat_natCast, show ((stepH (hsh s) n : Nat) : Int) % 18446744073709551616 = (stepH (hsh s) n : Int) by omega]
  simp
end Go.Proofs.Ytnmjnchbdlllmaa.Pure
