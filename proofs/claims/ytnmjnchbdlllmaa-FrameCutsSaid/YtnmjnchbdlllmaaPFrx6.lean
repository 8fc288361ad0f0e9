-- PRINTED by print.py (a twelfth state) out of the translation. Not trusted: Lean checks it.
import Derived.Test.YtnmjnchbdlllmaaPFrx0
import Derived.Test.YtnmjnchbdlllmaaPFrx1
import Derived.Test.YtnmjnchbdlllmaaPFrx3
import Derived.Test.YtnmjnchbdlllmaaPFrx4
import Derived.Test.YtnmjnchbdlllmaaPFrx5
namespace Go.Proofs.Ytnmjnchbdlllmaa.PFr
open Go.RowKit Go.Proofs.YtnmjnchbdlllmaaW.PrintWords Go.Proofs.YtnmjnchbdlllmaaW.PrintLast Go.Proofs.YtnmjnchbdlllmaaW.PrintMore
attribute [local go_sem] max2_int min2_int max_two min_two max_three min_three max_four min_four   -- for this text's walks alone
set_option linter.unusedVariables false
set_option linter.unusedSimpArgs false

attribute [local go_sem high] eqA54
/-! ### ebbtideref21_Inputs: function 25 -/
def ebbtideref21_Inputs.l0 : Nat → List (S54) → List (S54) → Int → Option (Bool)
 | 0, _, _, _ => none
 | k + 1, x0, x1, x5 => if x5 < (x0.length : Int) then (if 0 ≤ x5 then (if x5 < (x1.length : Int) then (if (!((((rd_T54 x0 x5).f0).toList) == (((rd_T54 x1 x5).f0).toList)) || (!(((rd_T54 x0 x5).f1) == ((rd_T54 x1 x5).f1)))) = true then (some false) else (ebbtideref21_Inputs.l0 k x0 x1 (wrap64 (x5 + 1)))) else (none)) else (none)) else (some true)
def ebbtideref21_Inputs.f (k : Nat) (l0 : List (S54)) (l1 : List (S54)) : Option (Bool) := if (l0.length : Int) = (l1.length : Int) then (ebbtideref21_Inputs.l0 k l0 l1 0) else (some false)
theorem ebbtideref21_Inputs.mono_l : ∀ k, (∀ y0 y1 y2, LeO (ebbtideref21_Inputs.l0 k y0 y1 y2) (ebbtideref21_Inputs.l0 (k + 1) y0 y1 y2))
 | 0 => fun _ _ _ r h => by simp [ebbtideref21_Inputs.l0] at h
 | k + 1 => by
  have ih0 := ebbtideref21_Inputs.mono_l k
  ·intro y0 y1 y2
   unfold ebbtideref21_Inputs.l0
   repeat' first
   | (with_reducible exact ih0 _ _ _)
   | (with_reducible exact LeO.refl _)
   | (with_reducible exact LeO.none _)
   | (with_reducible refine LeO.ite ?_ ?_)
   | (with_reducible refine LeO.bind ?_ (fun _ => ?_))
   | exact ih0 _ _ _
   | exact LeO.none _
   | refine LeO.ite ?_ ?_
   | refine LeO.bind ?_ (fun _ => ?_)
theorem ebbtideref21_Inputs.mono : ∀ a0 a1 k, LeO (ebbtideref21_Inputs.f k a0 a1) (ebbtideref21_Inputs.f (k + 1) a0 a1) := by
 intro a0 a1 k
 have ih0 := ebbtideref21_Inputs.mono_l k
 unfold ebbtideref21_Inputs.f
 repeat' first
   | (with_reducible exact ih0 _ _ _)
   | (with_reducible exact LeO.refl _)
   | (with_reducible exact LeO.none _)
   | (with_reducible refine LeO.ite ?_ ?_)
   | (with_reducible refine LeO.bind ?_ (fun _ => ?_))
   | exact ih0 _ _ _
   | exact LeO.none _
   | refine LeO.ite ?_ ?_
   | refine LeO.bind ?_ (fun _ => ?_)
set_option maxHeartbeats 8000000 in
set_option maxRecDepth 100000 in
theorem ebbtideref21_Inputs.calls (k : Nat) (A0 : Option Addr) (c0 : Nat) (l0 : List (S54)) (A1 : Option Addr) (c1 : Nat) (l1 : List (S54)) (r : Bool) (w : World) (hr0 : Kd.C k54 w A0 l0.length l0) (hc0 : l0.length ≤ c0) (hr1 : Kd.C k54 w A1 l1.length l1) (hc1 : l1.length ≤ c1) (h : ebbtideref21_Inputs.f k l0 l1 = some r) :
  Calls Try.prog 25 #[.slice A0 l0.length c0, .slice A1 l1.length c1] w fun e w' => e = .returned (.bool r) ∧ Drawn0 w w' := by
 have hu54 := Try.underlying54
 have HR0 := Aside0.mk hr0
 have HC0 := Aside0.mk hc0
 clear hr0 hc0
 have HR1 := Aside0.mk hr1
 have HC1 := Aside0.mk hc1
 clear hr1 hc1
 have H : (if (l0.length : Int) = (l1.length : Int) then (ebbtideref21_Inputs.l0 k l0 l1 0) else (some false)) = some r := h
 clear h
 by_cases c3 : (l0.length : Int) = (l1.length : Int)
 ·rw [if_pos c3] at H
  have c3b0 : ((l0.length : Int) == (l1.length : Int)) = true := beq_iff_eq.mpr c3
  have c3b1 : ((l0.length : Int) != (l1.length : Int)) = false := bne_eq_false_iff_eq.mpr c3
  have c3b2 : (l0.length == l1.length) = true := by first | simpa using c3 | (simp at c3 ⊢; omega)
  clear c3
  have H' := Aside0.mk H
  clear H
  go_enter Try.func25, Try.ntmps25
  go_wp2
  repeat (go_quiet (fail); try go_wp2)
  go_loopg [5] k (fun kq v5 w' => ∃ (x5_1 : Int), v5 = .int .i64 x5_1 ∧ Aside0 (ebbtideref21_Inputs.l0 kq l0 l1 x5_1 = some r) ∧ Aside0 (kq ≤ k) ∧ Drawn0 w w')
  case atStart => exact ⟨(0), qS, H', ⟨Nat.le_refl _⟩, qD⟩
  case round =>
   clear H'
   try clear c1
   try clear c2
   try clear p2
   try clear c3
   try clear c3b0
   try clear c3b1
   try clear c3b2
   obtain ⟨x5_1, rfl, HA, HK1, ⟨m1, rfl⟩⟩ := hrel
   cases gk with
   | zero => exact absurd HA.out (by simp [ebbtideref21_Inputs.l0])
   | succ k1 =>
    have H := HA.out
    clear HA
    simp only [ebbtideref21_Inputs.l0] at H
    by_cases c4 : x5_1 < (l0.length : Int)
    ·rw [if_pos c4] at H
     have c4b0 : decide (x5_1 < (l0.length : Int)) = true := decide_eq_true c4
     clear c4
     by_cases c5 : 0 ≤ x5_1
     ·rw [if_pos c5] at H
      have c5b0 : decide (0 ≤ x5_1) = true := decide_eq_true c5
      clear c5
      by_cases c6 : x5_1 < (l1.length : Int)
      ·rw [if_pos c6] at H
       have c6b0 : decide (x5_1 < (l1.length : Int)) = true := decide_eq_true c6
       clear c6
       by_cases c7 : (!((((rd_T54 l0 x5_1).f0).toList) == (((rd_T54 l1 x5_1).f0).toList)) || (!(((rd_T54 l0 x5_1).f1) == ((rd_T54 l1 x5_1).f1)))) = true
       ·rw [if_pos c7] at H
        have c7b0 : (!((((rd_T54 l0 x5_1).f0).toList) == (((rd_T54 l1 x5_1).f0).toList)) || (!(((rd_T54 l0 x5_1).f1) == ((rd_T54 l1 x5_1).f1)))) = true := c7
        clear c7
        obtain rfl := Option.some.inj H
        have p206 : 0 ≤ (x5_1 : Int) := of_decide_eq_true qA
        have q206 : x5_1 < (l0.length : Int) := of_decide_eq_true qA
        obtain ⟨ad206, e206, hx206_0, hx206_1⟩ := at_T54 HR0.out x5_1 p206 q206
        cases e206
        replace p206 := eq_true p206
        replace q206 := eq_true q206
        have p207 : 0 ≤ (x5_1 : Int) := of_decide_eq_true qA
        have q207 : x5_1 < (l1.length : Int) := of_decide_eq_true qA
        obtain ⟨ad207, e207, hx207_0, hx207_1⟩ := at_T54 HR1.out x5_1 p207 q207
        cases e207
        replace p207 := eq_true p207
        replace q207 := eq_true q207
        go_wp2
        repeat (go_quiet (fail); try go_wp2)
        go_ret
        exact ⟨qS, qD⟩
       ·rw [if_neg c7] at H
        have c7b0 : (!((((rd_T54 l0 x5_1).f0).toList) == (((rd_T54 l1 x5_1).f0).toList)) || (!(((rd_T54 l0 x5_1).f1) == ((rd_T54 l1 x5_1).f1)))) = false := by simpa using c7
        clear c7
        have H' := Aside0.mk H
        clear H
        have p206 : 0 ≤ (x5_1 : Int) := of_decide_eq_true qA
        have q206 : x5_1 < (l0.length : Int) := of_decide_eq_true qA
        obtain ⟨ad206, e206, hx206_0, hx206_1⟩ := at_T54 HR0.out x5_1 p206 q206
        cases e206
        replace p206 := eq_true p206
        replace q206 := eq_true q206
        have p207 : 0 ≤ (x5_1 : Int) := of_decide_eq_true qA
        have q207 : x5_1 < (l1.length : Int) := of_decide_eq_true qA
        obtain ⟨ad207, e207, hx207_0, hx207_1⟩ := at_T54 HR1.out x5_1 p207 q207
        cases e207
        replace p207 := eq_true p207
        replace q207 := eq_true q207
        go_wp2
        repeat (go_quiet (fail); try go_wp2)
        go_roundg k1
        case measure => have := HK1.out; omega
        case rel => exact ⟨(wrap64 (x5_1 + 1)), qS, H', ⟨by have := HK1.out; omega⟩, qD⟩
      ·rw [if_neg c6] at H
       exact absurd H (by simp)
     ·rw [if_neg c5] at H
      exact absurd H (by simp)
    ·rw [if_neg c4] at H
     have c4b0 : decide (x5_1 < (l0.length : Int)) = false := decide_eq_false c4
     clear c4
     obtain rfl := Option.some.inj H
     go_wp2
     repeat (go_quiet (fail); try go_wp2)
     go_ret
     exact ⟨qS, qD⟩
 ·rw [if_neg c3] at H
  have c3b0 : ((l0.length : Int) == (l1.length : Int)) = false := beq_eq_false_iff_ne.mpr c3
  have c3b1 : ((l0.length : Int) != (l1.length : Int)) = true := bne_iff_ne.mpr c3
  have c3b2 : (l0.length == l1.length) = false := by first | simpa using c3 | (simp at c3 ⊢; omega)
  obtain rfl := Option.some.inj H
  go_enter Try.func25, Try.ntmps25
  go_wp2
  repeat (go_quiet (fail); try go_wp2)
  go_ret
  exact ⟨qS, qD⟩

/-! ### ebbtidelaw21_FramePushes: function 7 -/
def ebbtidelaw21_FramePushes.j0 : Nat → List (List Int) → Bool → List Int → Bool → List Int → Bool → Option (Bool)
 | 0, _, _, _, _, _, _ => none
 | k + 1, x2, x37, x209000, x209001, x210000, x210001 => if x37 = true then (some true) else ((some (([] : List Int) : List Int)).bind fun y212 => (if y212.length + x209000.length < 140737488355328 then ((frame_Push.f x209000 x209001 x2).bind fun bt218 => ((ebbtideref21_Push.f k x209000 x209001 x2).bind fun bt226 => ((ebbtideref21_Same.f bt218.1 bt218.2.1 bt226.1 bt226.2.1).bind fun t234 => (if t234 = true then ((ebbtideref21_Inputs.f k bt218.2.2 bt226.2.2).bind fun t235 => (if t235 = true then (if (strOfNums (y212 ++ x209000)).toList = (strOfNums x209000).toList then ((frame_Same.f x209000 x209001 x210000 x210001).bind fun t236 => ((ebbtideref21_Same.f x209000 x209001 x210000 x210001).bind fun t237 => (some (t236 == t237)))) else (none)) else (none))) else (none))))) else (none)))
def ebbtidelaw21_FramePushes.f (k : Nat) (l0_0 : List Int) (a0_1 : Bool) (l1_0 : List Int) (a1_1 : Bool) (l2 : List (List Int)) : Option (Bool) := (ebbtidelaw21_alive.f).bind fun t210 => (if t210 = true then ((ebbtideref21_Great.f k l2).bind fun t211 => (if t211 = true then (ebbtidelaw21_FramePushes.j0 k l2 true l0_0 a0_1 l1_0 a1_1) else (if (l0_0.length : Int) > 120 then (ebbtidelaw21_FramePushes.j0 k l2 true l0_0 a0_1 l1_0 a1_1) else (if a0_1 = true then (if (l0_0.length : Int) > 0 then (ebbtidelaw21_FramePushes.j0 k l2 true l0_0 a0_1 l1_0 a1_1) else (ebbtidelaw21_FramePushes.j0 k l2 (decide ((l1_0.length : Int) > 500)) l0_0 a0_1 l1_0 a1_1)) else (ebbtidelaw21_FramePushes.j0 k l2 (decide ((l1_0.length : Int) > 500)) l0_0 a0_1 l1_0 a1_1))))) else (none))
theorem ebbtidelaw21_FramePushes.mono_l : ∀ k, (∀ y0 y1 y2 y3 y4 y5, LeO (ebbtidelaw21_FramePushes.j0 k y0 y1 y2 y3 y4 y5) (ebbtidelaw21_FramePushes.j0 (k + 1) y0 y1 y2 y3 y4 y5))
 | 0 => fun _ _ _ _ _ _ r h => by simp [ebbtidelaw21_FramePushes.j0] at h
 | k + 1 => by
  have ih0 := ebbtidelaw21_FramePushes.mono_l k
  ·intro y0 y1 y2 y3 y4 y5
   unfold ebbtidelaw21_FramePushes.j0
   repeat' first
   | (with_reducible exact ih0 _ _ _ _ _ _)
   | (with_reducible exact ebbtideref21_Great.mono _ _)
   | (with_reducible exact ebbtideref21_Inputs.mono _ _ _)
   | (with_reducible exact ebbtideref21_Push.mono _ _ _ _)
   | (with_reducible exact LeO.refl _)
   | (with_reducible exact LeO.none _)
   | (with_reducible refine LeO.ite ?_ ?_)
   | (with_reducible refine LeO.bind ?_ (fun _ => ?_))
   | exact ih0 _ _ _ _ _ _
   | exact ebbtideref21_Great.mono _ _
   | exact ebbtideref21_Inputs.mono _ _ _
   | exact ebbtideref21_Push.mono _ _ _ _
   | exact LeO.none _
   | refine LeO.ite ?_ ?_
   | refine LeO.bind ?_ (fun _ => ?_)
theorem ebbtidelaw21_FramePushes.mono : ∀ a0 a1 a2 a3 a4 k, LeO (ebbtidelaw21_FramePushes.f k a0 a1 a2 a3 a4) (ebbtidelaw21_FramePushes.f (k + 1) a0 a1 a2 a3 a4) := by
 intro a0 a1 a2 a3 a4 k
 have ih0 := ebbtidelaw21_FramePushes.mono_l k
 unfold ebbtidelaw21_FramePushes.f
 repeat' first
   | (with_reducible exact ih0 _ _ _ _ _ _)
   | (with_reducible exact ebbtideref21_Great.mono _ _)
   | (with_reducible exact ebbtideref21_Inputs.mono _ _ _)
   | (with_reducible exact ebbtideref21_Push.mono _ _ _ _)
   | (with_reducible exact LeO.refl _)
   | (with_reducible exact LeO.none _)
   | (with_reducible refine LeO.ite ?_ ?_)
   | (with_reducible refine LeO.bind ?_ (fun _ => ?_))
   | exact ih0 _ _ _ _ _ _
   | exact ebbtideref21_Great.mono _ _
   | exact ebbtideref21_Inputs.mono _ _ _
   | exact ebbtideref21_Push.mono _ _ _ _
   | exact LeO.none _
   | refine LeO.ite ?_ ?_
   | refine LeO.bind ?_ (fun _ => ?_)
def ebbtidelaw21_FramePushes.T8 : Bool × List (List Nat × List Nat) := (true, [([], []), ([], []), ([0, 1], [0, 1]), ([2, 2], [2]), ([3], [3]), ([3], [3]), ([4, 5, 3, 3], [3, 4, 5]), ([3, 6], [3, 6]), ([7, 6], [7]), ([8], [8]), ([9, 8], [8, 9]), ([8], [8]), ([11, 8], [8, 11]), ([12, 8], [8, 12]), ([10, 13, 8], [8, 10, 13]), ([8, 14], [8, 14]), ([15, 8], [15]), ([16], [16]), ([16], [16]), ([17, 18, 16, 16], [16, 17, 18]), ([16], [16]), ([16], [16]), ([20, 21, 19, 16], [16, 20, 21]), ([19, 22, 16], [16, 19, 22]), ([16, 23], [16, 23]), ([24, 22, 0, 1, 2, 3, 4, 5, 6, 7, 8, 9, 10, 11, 12, 13, 14, 15, 16, 17, 18, 19, 20, 21, 22, 23, 24], [24])])
def ebbtidelaw21_FramePushes.B8 : List Nat := [0, 0, 3, 7, 15, 15, 63, 127, 255, 511, 1023, 511, 2559, 6655, 16383, 32767, 65535, 131071, 131071, 524287, 131071, 131071, 4194303, 8388607, 16777215, 33554431]
theorem ebbtidelaw21_FramePushes.tab8 : rtab .any (opsOf Try.f7 8) = ebbtidelaw21_FramePushes.T8 := qK
theorem ebbtidelaw21_FramePushes.bits8 : waitsOk ebbtidelaw21_FramePushes.T8.2 ebbtidelaw21_FramePushes.B8 = true := qK
set_option maxHeartbeats 8000000 in
set_option maxRecDepth 100000 in
theorem ebbtidelaw21_FramePushes.calls (k : Nat) (A0_0 : Option Addr) (c0_0 : Nat) (l0_0 : List Int) (a0_1 : Bool) (A1_0 : Option Addr) (c1_0 : Nat) (l1_0 : List Int) (a1_1 : Bool) (A2 : Option Addr) (c2 : Nat) (l2 : List (List Int)) (r : Bool) (w : World) (hr0_0 : Kd.C (Kd.int .u8) w A0_0 l0_0.length l0_0) (hc0_0 : l0_0.length ≤ c0_0) (hr1_0 : Kd.C (Kd.int .u8) w A1_0 l1_0.length l1_0) (hc1_0 : l1_0.length ≤ c1_0) (hr2 : Kd.C (Kd.slice 5 (Kd.int .u8)) w A2 l2.length l2) (hc2 : l2.length ≤ c2) (h : ebbtidelaw21_FramePushes.f k l0_0 a0_1 l1_0 a1_1 l2 = some r) :
  Calls Try.prog 7 #[.agg #[.slice A0_0 l0_0.length c0_0, .bool a0_1], .agg #[.slice A1_0 l1_0.length c1_0, .bool a1_1], .slice A2 l2.length c2] w fun e w' => e = .returned (.bool r) ∧ Below w.heap.size w w' := by
 have hu38 := Try.underlying38
 have HR0_0 := Aside0.mk hr0_0
 have HC0_0 := Aside0.mk hc0_0
 clear hr0_0 hc0_0
 have HR1_0 := Aside0.mk hr1_0
 have HC1_0 := Aside0.mk hc1_0
 clear hr1_0 hc1_0
 have HR2 := Aside0.mk hr2
 have HC2 := Aside0.mk hc2
 clear hr2 hc2
 have HB := Aside0.mk (Below.refl w.heap.size w)
 have H : ((ebbtidelaw21_alive.f).bind fun t210 => (if t210 = true then ((ebbtideref21_Great.f k l2).bind fun t211 => (if t211 = true then (ebbtidelaw21_FramePushes.j0 k l2 true l0_0 a0_1 l1_0 a1_1) else (if (l0_0.length : Int) > 120 then (ebbtidelaw21_FramePushes.j0 k l2 true l0_0 a0_1 l1_0 a1_1) else (if a0_1 = true then (if (l0_0.length : Int) > 0 then (ebbtidelaw21_FramePushes.j0 k l2 true l0_0 a0_1 l1_0 a1_1) else (ebbtidelaw21_FramePushes.j0 k l2 (decide ((l1_0.length : Int) > 500)) l0_0 a0_1 l1_0 a1_1)) else (ebbtidelaw21_FramePushes.j0 k l2 (decide ((l1_0.length : Int) > 500)) l0_0 a0_1 l1_0 a1_1))))) else (none))) = some r := h
 clear h
 replace H := Option.bind_eq_some_iff.mp H
 obtain ⟨t210, A40, H⟩ := H
 replace H : (if t210 = true then ((ebbtideref21_Great.f k l2).bind fun t211 => (if t211 = true then (ebbtidelaw21_FramePushes.j0 k l2 true l0_0 a0_1 l1_0 a1_1) else (if (l0_0.length : Int) > 120 then (ebbtidelaw21_FramePushes.j0 k l2 true l0_0 a0_1 l1_0 a1_1) else (if a0_1 = true then (if (l0_0.length : Int) > 0 then (ebbtidelaw21_FramePushes.j0 k l2 true l0_0 a0_1 l1_0 a1_1) else (ebbtidelaw21_FramePushes.j0 k l2 (decide ((l1_0.length : Int) > 500)) l0_0 a0_1 l1_0 a1_1)) else (ebbtidelaw21_FramePushes.j0 k l2 (decide ((l1_0.length : Int) > 500)) l0_0 a0_1 l1_0 a1_1))))) else (none)) = some r := H
 have A4 := Aside0.mk A40
 clear A40
 by_cases c5 : t210 = true
 ·subst c5
  have H1 : ((ebbtideref21_Great.f k l2).bind fun t211 => (if t211 = true then (ebbtidelaw21_FramePushes.j0 k l2 true l0_0 a0_1 l1_0 a1_1) else (if (l0_0.length : Int) > 120 then (ebbtidelaw21_FramePushes.j0 k l2 true l0_0 a0_1 l1_0 a1_1) else (if a0_1 = true then (if (l0_0.length : Int) > 0 then (ebbtidelaw21_FramePushes.j0 k l2 true l0_0 a0_1 l1_0 a1_1) else (ebbtidelaw21_FramePushes.j0 k l2 (decide ((l1_0.length : Int) > 500)) l0_0 a0_1 l1_0 a1_1)) else (ebbtidelaw21_FramePushes.j0 k l2 (decide ((l1_0.length : Int) > 500)) l0_0 a0_1 l1_0 a1_1))))) = some r := by rw [if_pos rfl] at H; exact H
  clear H
  have H := H1
  clear H1
  have HC6 := Aside0.mk H
  clear H
  go_enter Try.func7, Try.ntmps7
  go_upto_region 3 with (first | ((with_reducible refine gate_dst (N := 3) rfl ?_); (try (refine gate_guard (by rfl) ?_; dsimp only)); refine box_event ?hg (N := 3) ?hd (cs := #[.slice A0_0 l0_0.length c0_0, .bool a0_1]) (t := 38) ?hr ?_; (case hd => rfl); (case hg => rfl); (case hr => first | (go_simp; done) | (go_simp; rfl)); intro gb208 hg w7 hbox hb; have n0_ := Aside0.mk (below_step qB hb); have n1_ := Aside0.mk (hbox); have n2_ := Aside0.mk ((by rw [hg]; exact (below_size qB) : w.heap.size ≤ gb208)); have n3_ := Aside0.mk ((by rw [hg]; exact (below_size qB) : w.heap.size ≤ gb208)); clear HB; have HB := n0_; have BK208 := n1_; have GW208 := n2_; have GE208 := n3_; clear n0_ n1_ n2_ n3_; clear hb hbox hg) | ((with_reducible refine gate_dst (N := 4) rfl ?_); (try (refine gate_guard (by rfl) ?_; dsimp only)); refine box_event ?hg (N := 4) ?hd (cs := #[.slice A1_0 l1_0.length c1_0, .bool a1_1]) (t := 38) ?hr ?_; (case hd => rfl); (case hg => rfl); (case hr => first | (go_simp; done) | (go_simp; rfl)); intro gb209 hg w8 hbox hb; have n0_ := Aside0.mk (blk_below (g := gb208) (o := .cells #[.slice A0_0 l0_0.length c0_0, .bool a0_1] 38 (0, 0)) (qW BK208) hb); have n1_ := Aside0.mk (below_step qC hb); have n2_ := Aside0.mk (hbox); have n3_ := Aside0.mk ((by rw [hg]; exact (below_size qC) : w.heap.size ≤ gb209)); have n4_ := Aside0.mk ((by rw [hg]; exact (below_size qC) : w.heap.size ≤ gb209)); have n5_ := Aside0.mk ((by rw [hg]; exact Nat.ne_of_lt (blk_lt (g := gb208) (o := .cells #[.slice A0_0 l0_0.length c0_0, .bool a0_1] 38 (0, 0)) (qW BK208)) : gb208 ≠ gb209)); have n6_ := Aside0.mk ((by rw [hg]; exact Nat.ne_of_gt (blk_lt (g := gb208) (o := .cells #[.slice A0_0 l0_0.length c0_0, .bool a0_1] 38 (0, 0)) (qW BK208)) : gb209 ≠ gb208)); clear BK208; clear HB; have BK208 := n0_; have HB := n1_; have BK209 := n2_; have GW209 := n3_; have GE209 := n4_; have NB208_209 := n5_; have NB209_208 := n6_; clear n0_ n1_ n2_ n3_ n4_ n5_ n6_; clear hb hbox hg) | ((with_reducible refine gate_callee (f := 20) rfl ?_); refine goesL_ (some 12) rfl rfl Try.func20 qK rfl #[] rfl qG ?_; (with_reducible refine (ebbtidelaw21_alive.calls  true _ A4.out).mono ?_); rintro e w9 ⟨rfl, hb⟩; refine ⟨_, rfl, ?_⟩; have n0_ := Aside0.mk (blk_below (g := gb208) (o := .cells #[.slice A0_0 l0_0.length c0_0, .bool a0_1] 38 (0, 0)) (qW BK208) hb); have n1_ := Aside0.mk (blk_below (g := gb209) (o := .cells #[.slice A1_0 l1_0.length c1_0, .bool a1_1] 38 (0, 0)) (qW BK209) hb); have n2_ := Aside0.mk (below_step qC hb); clear BK208; clear BK209; clear HB; have BK208 := n0_; have BK209 := n1_; have HB := n2_; clear n0_ n1_ n2_; (try clear hb); (try clear hb2); (try clear hk); (try clear hi)))
  (try simp only [Act.put, List.setIfInBounds_toArray, List.set_cons_zero, List.set_cons_succ])
  go_cut [37] (fun v37 wc => ∃ (kq : Nat) (x37_5 : Bool), v37 = .bool x37_5 ∧ Aside0 (ebbtidelaw21_FramePushes.j0 kq l2 x37_5 l0_0 a0_1 l1_0 a1_1 = some r) ∧ Aside0 (kq ≤ k) ∧ Aside0 (wc.heap[gb208]? = some (.cells #[(.slice A0_0 l0_0.length c0_0), .bool a0_1] 38 (0, 0))) ∧ Aside0 (wc.heap[gb209]? = some (.cells #[(.slice A1_0 l1_0.length c1_0), .bool a1_1] 38 (0, 0))) ∧ Aside0 (Below w.heap.size w wc))
  case first =>
   have H := HC6.out
   clear HC6
   replace H := Option.bind_eq_some_iff.mp H
   obtain ⟨t211, A100, H⟩ := H
   replace H : (if t211 = true then (ebbtidelaw21_FramePushes.j0 k l2 true l0_0 a0_1 l1_0 a1_1) else (if (l0_0.length : Int) > 120 then (ebbtidelaw21_FramePushes.j0 k l2 true l0_0 a0_1 l1_0 a1_1) else (if a0_1 = true then (if (l0_0.length : Int) > 0 then (ebbtidelaw21_FramePushes.j0 k l2 true l0_0 a0_1 l1_0 a1_1) else (ebbtidelaw21_FramePushes.j0 k l2 (decide ((l1_0.length : Int) > 500)) l0_0 a0_1 l1_0 a1_1)) else (ebbtidelaw21_FramePushes.j0 k l2 (decide ((l1_0.length : Int) > 500)) l0_0 a0_1 l1_0 a1_1)))) = some r := H
   have A10 := Aside0.mk A100
   clear A100
   by_cases c11 : t211 = true
   ·subst c11
    have H1 : (ebbtidelaw21_FramePushes.j0 k l2 true l0_0 a0_1 l1_0 a1_1) = some r := by rw [if_pos rfl] at H; exact H
    clear H
    have H := H1
    clear H1
    have H' := Aside0.mk H
    clear H
    go_wp2_with (first | ((with_reducible refine gate_callee (f := 21) rfl ?_); refine goesL_ (some 15) rfl rfl Try.func21 qK rfl #[.slice A2 l2.length c2] rfl qG ?_; (with_reducible refine (ebbtideref21_Great.calls k _ _ l2 true _ ?side1 ?side2 A10.out).mono ?_); (case side1 => repeat (first | exact (Kd.C_below HR2.out HB.out) | (with_reducible refine Kd.C_alloc ?_ _) | (with_reducible refine Kd.C_drewN ?_ _) | (with_reducible refine Kd.C_drew ?_))); (case side2 => exact HC2.out); rintro e w' ⟨rfl, ⟨nd, rfl⟩⟩; refine ⟨_, rfl, ?_⟩))
    go_meet
    case rel => exact ⟨_, (true), qS, H', ⟨by first | omega | exact Nat.le_refl _⟩, ⟨qW BK208⟩, ⟨qW BK209⟩, ⟨qC⟩⟩
   ·replace c11 := Bool.eq_false_iff.mpr c11
    subst c11
    have H1 : (if (l0_0.length : Int) > 120 then (ebbtidelaw21_FramePushes.j0 k l2 true l0_0 a0_1 l1_0 a1_1) else (if a0_1 = true then (if (l0_0.length : Int) > 0 then (ebbtidelaw21_FramePushes.j0 k l2 true l0_0 a0_1 l1_0 a1_1) else (ebbtidelaw21_FramePushes.j0 k l2 (decide ((l1_0.length : Int) > 500)) l0_0 a0_1 l1_0 a1_1)) else (ebbtidelaw21_FramePushes.j0 k l2 (decide ((l1_0.length : Int) > 500)) l0_0 a0_1 l1_0 a1_1))) = some r := by rw [if_neg (show ¬ (false = true) by decide)] at H; exact H
    clear H
    have H := H1
    clear H1
    by_cases c12 : (l0_0.length : Int) > 120
    ·rw [if_pos c12] at H
     have c12b0 : decide (120 < (l0_0.length : Int)) = true := decide_eq_true c12
     have c12b1 : decide (120 < l0_0.length) = true := decide_eq_true (by omega)
     clear c12
     (first | rw [c12b0] | (simp only [i64_w, i32_w]; rw [c12b0]) | skip)
     have H' := Aside0.mk H
     clear H
     go_wp2_with (first | ((with_reducible refine gate_callee (f := 21) rfl ?_); refine goesL_ (some 15) rfl rfl Try.func21 qK rfl #[.slice A2 l2.length c2] rfl qG ?_; (with_reducible refine (ebbtideref21_Great.calls k _ _ l2 false _ ?side1 ?side2 A10.out).mono ?_); (case side1 => repeat (first | exact (Kd.C_below HR2.out HB.out) | (with_reducible refine Kd.C_alloc ?_ _) | (with_reducible refine Kd.C_drewN ?_ _) | (with_reducible refine Kd.C_drew ?_))); (case side2 => exact HC2.out); rintro e w' ⟨rfl, ⟨nd, rfl⟩⟩; refine ⟨_, rfl, ?_⟩; have hnb13 := NB208_209.out; have hnc13 := NB209_208.out; have hcz14_0 : w9.cell? ⟨gb208, 0, none⟩ = some (.slice A0_0 l0_0.length c0_0) := (blk_cell BK208.out 0).trans rfl; have hcz14_1 : w9.cell? ⟨gb208, 1, none⟩ = some (.bool a0_1) := (blk_cell BK208.out 1).trans rfl; have hfz14_0 := blk_frozen BK208.out 0; have hfz14_1 := blk_frozen BK208.out 1))
     go_meet
     case rel => exact ⟨_, (true), qS, H', ⟨by first | omega | exact Nat.le_refl _⟩, ⟨qW BK208⟩, ⟨qW BK209⟩, ⟨qC⟩⟩
    ·rw [if_neg c12] at H
     have c12b0 : decide (120 < (l0_0.length : Int)) = false := decide_eq_false c12
     have c12b1 : decide (120 < l0_0.length) = false := decide_eq_false (by omega)
     clear c12
     (first | rw [c12b0] | (simp only [i64_w, i32_w]; rw [c12b0]) | skip)
     by_cases c15 : a0_1 = true
     ·subst c15
      have H1 : (if (l0_0.length : Int) > 0 then (ebbtidelaw21_FramePushes.j0 k l2 true l0_0 true l1_0 a1_1) else (ebbtidelaw21_FramePushes.j0 k l2 (decide ((l1_0.length : Int) > 500)) l0_0 true l1_0 a1_1)) = some r := by rw [if_pos rfl] at H; exact H
      clear H
      have H := H1
      clear H1
      by_cases c16 : (l0_0.length : Int) > 0
      ·rw [if_pos c16] at H
       have c16b0 : decide (0 < (l0_0.length : Int)) = true := decide_eq_true c16
       have c16b1 : decide (0 < l0_0.length) = true := decide_eq_true (by omega)
       clear c16
       have H' := Aside0.mk H
       clear H
       go_wp2_with (first | ((with_reducible refine gate_callee (f := 21) rfl ?_); refine goesL_ (some 15) rfl rfl Try.func21 qK rfl #[.slice A2 l2.length c2] rfl qG ?_; (with_reducible refine (ebbtideref21_Great.calls k _ _ l2 false _ ?side1 ?side2 A10.out).mono ?_); (case side1 => repeat (first | exact (Kd.C_below HR2.out HB.out) | (with_reducible refine Kd.C_alloc ?_ _) | (with_reducible refine Kd.C_drewN ?_ _) | (with_reducible refine Kd.C_drew ?_))); (case side2 => exact HC2.out); rintro e w' ⟨rfl, ⟨nd, rfl⟩⟩; refine ⟨_, rfl, ?_⟩; have hnb17 := NB208_209.out; have hnc17 := NB209_208.out; have hcz18_0 : w9.cell? ⟨gb208, 0, none⟩ = some (.slice A0_0 l0_0.length c0_0) := (blk_cell BK208.out 0).trans rfl; have hcz18_1 : w9.cell? ⟨gb208, 1, none⟩ = some (.bool true) := (blk_cell BK208.out 1).trans rfl; have hfz18_0 := blk_frozen BK208.out 0; have hfz18_1 := blk_frozen BK208.out 1))
       go_meet
       case rel => exact ⟨_, (true), qS, H', ⟨by first | omega | exact Nat.le_refl _⟩, ⟨qW BK208⟩, ⟨qW BK209⟩, ⟨qC⟩⟩
      ·rw [if_neg c16] at H
       have c16b0 : decide (0 < (l0_0.length : Int)) = false := decide_eq_false c16
       have c16b1 : decide (0 < l0_0.length) = false := decide_eq_false (by omega)
       clear c16
       have H' := Aside0.mk H
       clear H
       go_wp2_with (first | ((with_reducible refine gate_callee (f := 21) rfl ?_); refine goesL_ (some 15) rfl rfl Try.func21 qK rfl #[.slice A2 l2.length c2] rfl qG ?_; (with_reducible refine (ebbtideref21_Great.calls k _ _ l2 false _ ?side1 ?side2 A10.out).mono ?_); (case side1 => repeat (first | exact (Kd.C_below HR2.out HB.out) | (with_reducible refine Kd.C_alloc ?_ _) | (with_reducible refine Kd.C_drewN ?_ _) | (with_reducible refine Kd.C_drew ?_))); (case side2 => exact HC2.out); rintro e w' ⟨rfl, ⟨nd, rfl⟩⟩; refine ⟨_, rfl, ?_⟩; have hnb19 := NB208_209.out; have hnc19 := NB209_208.out; have hcz20_0 : w9.cell? ⟨gb208, 0, none⟩ = some (.slice A0_0 l0_0.length c0_0) := (blk_cell BK208.out 0).trans rfl; have hcz20_1 : w9.cell? ⟨gb208, 1, none⟩ = some (.bool true) := (blk_cell BK208.out 1).trans rfl; have hfz20_0 := blk_frozen BK208.out 0; have hfz20_1 := blk_frozen BK208.out 1; have hcz21_0 : w9.cell? ⟨gb209, 0, none⟩ = some (.slice A1_0 l1_0.length c1_0) := (blk_cell BK209.out 0).trans rfl; have hcz21_1 : w9.cell? ⟨gb209, 1, none⟩ = some (.bool a1_1) := (blk_cell BK209.out 1).trans rfl; have hfz21_0 := blk_frozen BK209.out 0; have hfz21_1 := blk_frozen BK209.out 1))
       go_meet
       case rel => exact ⟨_, (decide ((l1_0.length : Int) > 500)), qS, H', ⟨by first | omega | exact Nat.le_refl _⟩, ⟨qW BK208⟩, ⟨qW BK209⟩, ⟨qC⟩⟩
     ·replace c15 := Bool.eq_false_iff.mpr c15
      subst c15
      have H1 : (ebbtidelaw21_FramePushes.j0 k l2 (decide ((l1_0.length : Int) > 500)) l0_0 false l1_0 a1_1) = some r := by rw [if_neg (show ¬ (false = true) by decide)] at H; exact H
      clear H
      have H := H1
      clear H1
      have H' := Aside0.mk H
      clear H
      go_wp2_with (first | ((with_reducible refine gate_callee (f := 21) rfl ?_); refine goesL_ (some 15) rfl rfl Try.func21 qK rfl #[.slice A2 l2.length c2] rfl qG ?_; (with_reducible refine (ebbtideref21_Great.calls k _ _ l2 false _ ?side1 ?side2 A10.out).mono ?_); (case side1 => repeat (first | exact (Kd.C_below HR2.out HB.out) | (with_reducible refine Kd.C_alloc ?_ _) | (with_reducible refine Kd.C_drewN ?_ _) | (with_reducible refine Kd.C_drew ?_))); (case side2 => exact HC2.out); rintro e w' ⟨rfl, ⟨nd, rfl⟩⟩; refine ⟨_, rfl, ?_⟩; have hnb22 := NB208_209.out; have hnc22 := NB209_208.out; have hcz23_0 : w9.cell? ⟨gb208, 0, none⟩ = some (.slice A0_0 l0_0.length c0_0) := (blk_cell BK208.out 0).trans rfl; have hcz23_1 : w9.cell? ⟨gb208, 1, none⟩ = some (.bool false) := (blk_cell BK208.out 1).trans rfl; have hfz23_0 := blk_frozen BK208.out 0; have hfz23_1 := blk_frozen BK208.out 1; have hcz24_0 : w9.cell? ⟨gb209, 0, none⟩ = some (.slice A1_0 l1_0.length c1_0) := (blk_cell BK209.out 0).trans rfl; have hcz24_1 : w9.cell? ⟨gb209, 1, none⟩ = some (.bool a1_1) := (blk_cell BK209.out 1).trans rfl; have hfz24_0 := blk_frozen BK209.out 0; have hfz24_1 := blk_frozen BK209.out 1))
      go_meet
      case rel => exact ⟨_, (decide ((l1_0.length : Int) > 500)), qS, H', ⟨by first | omega | exact Nat.le_refl _⟩, ⟨qW BK208⟩, ⟨qW BK209⟩, ⟨qC⟩⟩
  case rest =>
   clear HC6
   try clear c1
   try clear c2
   try clear p2
   try clear c5
   try clear c7
   try clear c11
   try clear c12
   try clear c12b0
   try clear c12b1
   try clear c13
   try clear c15
   try clear c16
   try clear c16b0
   try clear c16b1
   try clear c17
   try clear c19
   try clear c20
   try clear c21
   try clear c22
   try clear hcz14_0
   try clear hcz14_1
   try clear hcz18_0
   try clear hcz18_1
   try clear hcz20_0
   try clear hcz20_1
   try clear hcz21_0
   try clear hcz21_1
   try clear hcz23_0
   try clear hcz23_1
   try clear hcz24_0
   try clear hcz24_1
   try clear hfz14_0
   try clear hfz14_1
   try clear hfz18_0
   try clear hfz18_1
   try clear hfz20_0
   try clear hfz20_1
   try clear hfz21_0
   try clear hfz21_1
   try clear hfz23_0
   try clear hfz23_1
   try clear hfz24_0
   try clear hfz24_1
   obtain ⟨kq, x37_5, rfl, HA, HJ5, BK208, BK209, HB⟩ := hcut
   cases kq with
   | zero => exact absurd HA.out (by simp [ebbtidelaw21_FramePushes.j0])
   | succ kj5 =>
    have H := HA.out
    clear HA
    simp only [ebbtidelaw21_FramePushes.j0] at H
    by_cases c25 : x37_5 = true
    ·subst c25
     have H1 : (some true) = some r := by rw [if_pos rfl] at H; exact H
     clear H
     have H := H1
     clear H1
     obtain rfl := Option.some.inj H
     go_wp2
     go_ret
     exact ⟨qE, qC⟩
    ·replace c25 := Bool.eq_false_iff.mpr c25
     subst c25
     have H1 : ((some (([] : List Int) : List Int)).bind fun y212 => (if y212.length + l0_0.length < 140737488355328 then ((frame_Push.f l0_0 a0_1 l2).bind fun bt218 => ((ebbtideref21_Push.f kj5 l0_0 a0_1 l2).bind fun bt226 => ((ebbtideref21_Same.f bt218.1 bt218.2.1 bt226.1 bt226.2.1).bind fun t234 => (if t234 = true then ((ebbtideref21_Inputs.f kj5 bt218.2.2 bt226.2.2).bind fun t235 => (if t235 = true then (if (strOfNums (y212 ++ l0_0)).toList = (strOfNums l0_0).toList then ((frame_Same.f l0_0 a0_1 l1_0 a1_1).bind fun t236 => ((ebbtideref21_Same.f l0_0 a0_1 l1_0 a1_1).bind fun t237 => (some (t236 == t237)))) else (none)) else (none))) else (none))))) else (none))) = some r := by rw [if_neg (show ¬ (false = true) by decide)] at H; exact H
     clear H
     have H := H1
     clear H1
     obtain ⟨y212, hy212⟩ : ∃ y_ : List Int, y_ = (([] : List Int)) := ⟨_, rfl⟩
     replace H : (if y212.length + l0_0.length < 140737488355328 then ((frame_Push.f l0_0 a0_1 l2).bind fun bt218 => ((ebbtideref21_Push.f kj5 l0_0 a0_1 l2).bind fun bt226 => ((ebbtideref21_Same.f bt218.1 bt218.2.1 bt226.1 bt226.2.1).bind fun t234 => (if t234 = true then ((ebbtideref21_Inputs.f kj5 bt218.2.2 bt226.2.2).bind fun t235 => (if t235 = true then (if (strOfNums (y212 ++ l0_0)).toList = (strOfNums l0_0).toList then ((frame_Same.f l0_0 a0_1 l1_0 a1_1).bind fun t236 => ((ebbtideref21_Same.f l0_0 a0_1 l1_0 a1_1).bind fun t237 => (some (t236 == t237)))) else (none)) else (none))) else (none))))) else (none)) = some r := by first | (rw [hy212]; with_reducible exact H) | (have H2_ := (Option.bind_some _ _).symm.trans H; rw [hy212]; with_reducible exact H2_) | (have H2_ := (Option.bind_some _ _).symm.trans H; with_reducible exact H2_) | with_reducible exact H | (rw [hy212]; exact H) | exact H
     have Ny212 := Aside0.mk hy212
     clear hy212
     by_cases c26 : y212.length + l0_0.length < 140737488355328
     ·rw [if_pos c26] at H
      have LMc26 := Aside0.mk c26
      clear c26
      obtain ⟨y215, hy215⟩ : ∃ y_ : List Int, y_ = (y212 ++ l0_0) := ⟨_, rfl⟩
      replace H : ((frame_Push.f l0_0 a0_1 l2).bind fun bt218 => ((ebbtideref21_Push.f kj5 l0_0 a0_1 l2).bind fun bt226 => ((ebbtideref21_Same.f bt218.1 bt218.2.1 bt226.1 bt226.2.1).bind fun t234 => (if t234 = true then ((ebbtideref21_Inputs.f kj5 bt218.2.2 bt226.2.2).bind fun t235 => (if t235 = true then (if (strOfNums y215).toList = (strOfNums l0_0).toList then ((frame_Same.f l0_0 a0_1 l1_0 a1_1).bind fun t236 => ((ebbtideref21_Same.f l0_0 a0_1 l1_0 a1_1).bind fun t237 => (some (t236 == t237)))) else (none)) else (none))) else (none))))) = some r := by first | (rw [hy215]; with_reducible exact H) | (have H2_ := (Option.bind_some _ _).symm.trans H; rw [hy215]; with_reducible exact H2_) | (have H2_ := (Option.bind_some _ _).symm.trans H; with_reducible exact H2_) | with_reducible exact H | (rw [hy215]; exact H) | exact H
      have Ny215 := Aside0.mk hy215
      clear hy215
      replace H := Option.bind_eq_some_iff.mp H
      obtain ⟨⟨t218, t221, t222⟩, A270, H⟩ := H
      replace H : ((ebbtideref21_Push.f kj5 l0_0 a0_1 l2).bind fun bt226 => ((ebbtideref21_Same.f t218 t221 bt226.1 bt226.2.1).bind fun t234 => (if t234 = true then ((ebbtideref21_Inputs.f kj5 t222 bt226.2.2).bind fun t235 => (if t235 = true then (if (strOfNums y215).toList = (strOfNums l0_0).toList then ((frame_Same.f l0_0 a0_1 l1_0 a1_1).bind fun t236 => ((ebbtideref21_Same.f l0_0 a0_1 l1_0 a1_1).bind fun t237 => (some (t236 == t237)))) else (none)) else (none))) else (none)))) = some r := H
      have A27 := Aside0.mk A270
      clear A270
      replace H := Option.bind_eq_some_iff.mp H
      obtain ⟨⟨t226, t229, t230⟩, A280, H⟩ := H
      replace H : ((ebbtideref21_Same.f t218 t221 t226 t229).bind fun t234 => (if t234 = true then ((ebbtideref21_Inputs.f kj5 t222 t230).bind fun t235 => (if t235 = true then (if (strOfNums y215).toList = (strOfNums l0_0).toList then ((frame_Same.f l0_0 a0_1 l1_0 a1_1).bind fun t236 => ((ebbtideref21_Same.f l0_0 a0_1 l1_0 a1_1).bind fun t237 => (some (t236 == t237)))) else (none)) else (none))) else (none))) = some r := H
      have A28 := Aside0.mk A280
      clear A280
      replace H := Option.bind_eq_some_iff.mp H
      obtain ⟨t234, A290, H⟩ := H
      replace H : (if t234 = true then ((ebbtideref21_Inputs.f kj5 t222 t230).bind fun t235 => (if t235 = true then (if (strOfNums y215).toList = (strOfNums l0_0).toList then ((frame_Same.f l0_0 a0_1 l1_0 a1_1).bind fun t236 => ((ebbtideref21_Same.f l0_0 a0_1 l1_0 a1_1).bind fun t237 => (some (t236 == t237)))) else (none)) else (none))) else (none)) = some r := H
      have A29 := Aside0.mk A290
      clear A290
      by_cases c30 : t234 = true
      ·subst c30
       have H1 : ((ebbtideref21_Inputs.f kj5 t222 t230).bind fun t235 => (if t235 = true then (if (strOfNums y215).toList = (strOfNums l0_0).toList then ((frame_Same.f l0_0 a0_1 l1_0 a1_1).bind fun t236 => ((ebbtideref21_Same.f l0_0 a0_1 l1_0 a1_1).bind fun t237 => (some (t236 == t237)))) else (none)) else (none))) = some r := by rw [if_pos rfl] at H; exact H
       clear H
       have H := H1
       clear H1
       replace H := Option.bind_eq_some_iff.mp H
       obtain ⟨t235, A310, H⟩ := H
       replace H : (if t235 = true then (if (strOfNums y215).toList = (strOfNums l0_0).toList then ((frame_Same.f l0_0 a0_1 l1_0 a1_1).bind fun t236 => ((ebbtideref21_Same.f l0_0 a0_1 l1_0 a1_1).bind fun t237 => (some (t236 == t237)))) else (none)) else (none)) = some r := H
       have A31 := Aside0.mk A310
       clear A310
       by_cases c32 : t235 = true
       ·subst c32
        have H1 : (if (strOfNums y215).toList = (strOfNums l0_0).toList then ((frame_Same.f l0_0 a0_1 l1_0 a1_1).bind fun t236 => ((ebbtideref21_Same.f l0_0 a0_1 l1_0 a1_1).bind fun t237 => (some (t236 == t237)))) else (none)) = some r := by rw [if_pos rfl] at H; exact H
        clear H
        have H := H1
        clear H1
        by_cases c33 : (strOfNums y215).toList = (strOfNums l0_0).toList
        ·rw [if_pos c33] at H
         have c33b0 : ((strOfNums y215).toList == (strOfNums l0_0).toList) = true := beq_iff_eq.mpr c33
         have c33b1 : ((strOfNums y215).toList != (strOfNums l0_0).toList) = false := bne_eq_false_iff_eq.mpr c33
         clear c33
         replace H := Option.bind_eq_some_iff.mp H
         obtain ⟨t236, A340, H⟩ := H
         replace H : ((ebbtideref21_Same.f l0_0 a0_1 l1_0 a1_1).bind fun t237 => (some (t236 == t237))) = some r := H
         have A34 := Aside0.mk A340
         clear A340
         replace H := Option.bind_eq_some_iff.mp H
         obtain ⟨t237, A350, H⟩ := H
         replace H : (some (t236 == t237)) = some r := H
         have A35 := Aside0.mk A350
         clear A350
         obtain rfl := Option.some.inj H
         try go_wp2_with (first | ((with_reducible refine gate_dst (N := 38) rfl ?_); (try (refine gate_guard (by rfl) ?_; dsimp only)); refine Kd.R_lit (Kd.int .u8) _ 5 ?hg (N := 38) ?hd (xs := ([] : List Int)) (inner := []) (ok := fun _ => True) (okp := fun _ => True) ?hr ?hp (fun _ hk => hk) trivial (Below.refl _ _) (Nat.le_refl _) (by simp) ?_; (case hd => rfl); (case hg => rfl); (case hr => first | (go_simp; done) | (go_simp; rfl)); (case hp => exact (Reps.none _ _)); intro v213 w36 ho37 hb hg_ hnew_; clear hg_ hnew_; (first | rw [← Ny212.out] at ho37 | (simp only [Int.reduceToNat] at ho37; rw [← Ny212.out] at ho37)); have n0_ := Aside0.mk (Kd.R_lower ho37 (below_size qC)); have n1_ := Aside0.mk (blk_below (g := gb208) (o := .cells #[.slice A0_0 l0_0.length c0_0, .bool a0_1] 38 (0, 0)) (qW BK208) hb); have n2_ := Aside0.mk (blk_below (g := gb209) (o := .cells #[.slice A1_0 l1_0.length c1_0, .bool a1_1] 38 (0, 0)) (qW BK209) hb); have n3_ := Aside0.mk (below_step qC hb); clear BK208; clear BK209; clear HB; have HO214 := n0_; have BK208 := n1_; have BK209 := n2_; have HB := n3_; clear n0_ n1_ n2_ n3_; clear hb ho37; have hnb38 := NB208_209.out; have hnc38 := NB209_208.out; have hcz39_0 : w36.cell? ⟨gb208, 0, none⟩ = some (.slice A0_0 l0_0.length c0_0) := (blk_cell BK208.out 0).trans rfl; have hcz39_1 : w36.cell? ⟨gb208, 1, none⟩ = some (.bool a0_1) := (blk_cell BK208.out 1).trans rfl; have hfz39_0 := blk_frozen BK208.out 0; have hfz39_1 := blk_frozen BK208.out 1) | ((with_reducible refine gate_builtin (b := .append) (xs := #[.tmp 38, .tmp 40]) rfl ?_); (try (refine gate_guard (by rfl) ?_; dsimp only)); at_builtin; refine Kd.R_append_rows (Kd.int .u8) (w0 := w) w.heap.size rfl (.tmp 38) (.tmp 40) 35 5 (.int .u8 0) 1 rfl Try.underlying35 info5 rfl (by decide) (by omega) v213 y212 l0_0 _ _ _ (fun _ => True) (fun _ => False) rfl rfl ?aO ?aR (fun _ _ h => h) (fun _ h => h.elim) ?aF ?aB ?aS ?aL ?_; (case aR => repeat (first | exact (Kd.C_below HR0_0.out HB.out) | (with_reducible refine Kd.C_alloc ?_ _) | (with_reducible refine Kd.C_drewN ?_ _) | (with_reducible refine Kd.C_drew ?_))); (case aB => exact qC); (case aF => exact (fun _ _ => trivial)); (case aO => exact (qR HO214)); (case aS => exact (below_size qC)); (case aL => have := LMc26.out; omega); intro v216 w40 ho hb hg hat; rw [← Ny215.out] at ho; have n0_ := Aside0.mk (blk_grown (g := gb208) (o := .cells #[.slice A0_0 l0_0.length c0_0, .bool a0_1] 38 (0, 0)) (qW BK208) hg (Kd.R_ne HO214.out BK208.out (by decide))); have n1_ := Aside0.mk (blk_grown (g := gb209) (o := .cells #[.slice A1_0 l1_0.length c1_0, .bool a1_1] 38 (0, 0)) (qW BK209) hg (Kd.R_ne HO214.out BK209.out (by decide))); have n2_ := Aside0.mk (hb); have n3_ := Aside0.mk (ho); clear BK208; clear BK209; clear HB; clear HO214; have BK208 := n0_; have BK209 := n1_; have HB := n2_; have HO217 := n3_; clear n0_ n1_ n2_ n3_; clear ho hb hg hat; have hcz41_0 : w40.cell? ⟨gb208, 0, none⟩ = some (.slice A0_0 l0_0.length c0_0) := (blk_cell BK208.out 0).trans rfl; have hcz41_1 : w40.cell? ⟨gb208, 1, none⟩ = some (.bool a0_1) := (blk_cell BK208.out 1).trans rfl; have hfz41_0 := blk_frozen BK208.out 0; have hfz41_1 := blk_frozen BK208.out 1) | ((with_reducible refine gate_callee (f := 22) rfl ?_); refine goesL_ (some 45) rfl rfl Try.func22 qK rfl #[.agg #[.slice A0_0 l0_0.length c0_0, .bool a0_1], .slice A2 l2.length c2] rfl qG ?_; (with_reducible refine (frame_Push.calls (fun k_ => k_ < w.heap.size) _ _ l0_0 a0_1 _ _ l2 t218 t221 t222 _ ?side1 ?side2 ?side3 A27.out).mono ?_); (case side1 => exact Kd.V_mk HC0_0.out (Kd.F_below (Kd.C_F (Kd.heap_int .u8) HR0_0.out) qC)); (case side2 => repeat (first | exact (Kd.C_below HR2.out HB.out) | (with_reducible refine Kd.C_alloc ?_ _) | (with_reducible refine Kd.C_drewN ?_ _) | (with_reducible refine Kd.C_drew ?_))); (case side3 => exact HC2.out); rintro e w42 ⟨v219, v223, rfl, ho0, ho1, hb⟩; refine ⟨_, rfl, ?_⟩; have n0_ := Aside0.mk (Kd.R_below (qR HO217) hb); have n1_ := Aside0.mk (Kd.V_lower (Kd.V_mono (ok' := fun k_ => some k_ ≠ (v223 : Value).ownBlock ∧ some k_ ≠ (v216 : Value).ownBlock ∧ k_ ≠ gb208 ∧ k_ ≠ gb209) ho0 (fun k_ hk_ => ⟨hk_.2, Or.elim hk_.1 (fun hs_ => fun e_ => Nat.not_le.2 hs_ (Kd.R_base HO217.out k_ e_.symm)) (fun hn_ => (Kd.fresh' (Kd.R_lt (qR HO217)) k_ hn_)), Or.elim hk_.1 (fun hs_ => fun e_ => Nat.not_le.2 hs_ (by rw [e_]; exact GW208.out)) (fun hn_ => (Kd.freshB (g := gb208) (o := .cells #[.slice A0_0 l0_0.length c0_0, .bool a0_1] 38 (0, 0)) (qW BK208) k_ hn_)), Or.elim hk_.1 (fun hs_ => fun e_ => Nat.not_le.2 hs_ (by rw [e_]; exact GW209.out)) (fun hn_ => (Kd.freshB (g := gb209) (o := .cells #[.slice A1_0 l1_0.length c1_0, .bool a1_1] 38 (0, 0)) (qW BK209) k_ hn_))⟩)) (below_size qC)); have n2_ := Aside0.mk (Kd.R_lower (Kd.R_mono (ok' := fun k_ => True) ho1 (fun _ hk_ => trivial)) (below_size qC)); have n3_ := Aside0.mk (blk_below (g := gb208) (o := .cells #[.slice A0_0 l0_0.length c0_0, .bool a0_1] 38 (0, 0)) (qW BK208) hb); have n4_ := Aside0.mk (blk_below (g := gb209) (o := .cells #[.slice A1_0 l1_0.length c1_0, .bool a1_1] 38 (0, 0)) (qW BK209) hb); have n5_ := Aside0.mk (below_step qC hb); clear HO217; clear BK208; clear BK209; clear HB; have HO217 := n0_; have HO220 := n1_; have HO224 := n2_; have BK208 := n3_; have BK209 := n4_; have HB := n5_; clear n0_ n1_ n2_ n3_ n4_ n5_; (try clear hb); (try clear hb2); (try clear hk); (try clear hi); (try clear ho0); (try clear ho1)) | ((with_reducible refine gate_dst (N := 8) rfl ?_); (try (refine gate_guard (by rfl) ?_; dsimp only)); refine box_event ?hg (N := 8) ?hd (cs := #[.slice none 0 0, .bool false]) (t := 38) ?hr ?_; (case hd => rfl); (case hg => rfl); (case hr => first | (go_simp; done) | (go_simp; rfl)); intro gb225 hg w43 hbox hb; have n0_ := Aside0.mk (Kd.R_below (qR HO217) hb); have n1_ := Aside0.mk (Kd.V_below (Kd.V_elderB (by (with_reducible repeat (first | apply Kd.V_alloc | apply Kd.V_drewN | apply Kd.V_drew)); exact HO220.out) gb225 (Nat.le_of_eq hg.symm)) hb); have n2_ := Aside0.mk (Kd.R_below (qR HO224) hb); have n3_ := Aside0.mk (blk_below (g := gb208) (o := .cells #[.slice A0_0 l0_0.length c0_0, .bool a0_1] 38 (0, 0)) (qW BK208) hb); have n4_ := Aside0.mk (blk_below (g := gb209) (o := .cells #[.slice A1_0 l1_0.length c1_0, .bool a1_1] 38 (0, 0)) (qW BK209) hb); have n5_ := Aside0.mk (below_step qC hb); have n6_ := Aside0.mk (hbox); have n7_ := Aside0.mk ((by rw [hg]; exact (below_size qC) : w.heap.size ≤ gb225)); have n8_ := Aside0.mk ((by rw [hg]; exact (below_size qC) : w.heap.size ≤ gb225)); have n9_ := Aside0.mk ((by rw [hg]; exact Nat.ne_of_lt (blk_lt (g := gb208) (o := .cells #[.slice A0_0 l0_0.length c0_0, .bool a0_1] 38 (0, 0)) (qW BK208)) : gb208 ≠ gb225)); have n10_ := Aside0.mk ((by rw [hg]; exact Nat.ne_of_gt (blk_lt (g := gb208) (o := .cells #[.slice A0_0 l0_0.length c0_0, .bool a0_1] 38 (0, 0)) (qW BK208)) : gb225 ≠ gb208)); have n11_ := Aside0.mk ((by rw [hg]; exact Nat.ne_of_lt (blk_lt (g := gb209) (o := .cells #[.slice A1_0 l1_0.length c1_0, .bool a1_1] 38 (0, 0)) (qW BK209)) : gb209 ≠ gb225)); have n12_ := Aside0.mk ((by rw [hg]; exact Nat.ne_of_gt (blk_lt (g := gb209) (o := .cells #[.slice A1_0 l1_0.length c1_0, .bool a1_1] 38 (0, 0)) (qW BK209)) : gb225 ≠ gb209)); clear HO217; clear HO220; clear HO224; clear BK208; clear BK209; clear HB; have HO217 := n0_; have HO220 := n1_; have HO224 := n2_; have BK208 := n3_; have BK209 := n4_; have HB := n5_; have BK225 := n6_; have GW225 := n7_; have GE225 := n8_; have NB208_225 := n9_; have NB225_208 := n10_; have NB209_225 := n11_; have NB225_209 := n12_; clear n0_ n1_ n2_ n3_ n4_ n5_ n6_ n7_ n8_ n9_ n10_ n11_ n12_; clear hb hbox hg; obtain ⟨Ao44, co44, eo44⟩ := Kd.V_slice HO220.out; subst eo44; have hnb45 := NB225_208.out; have hnc45 := NB208_225.out; have hnb46 := NB225_209.out; have hnc46 := NB209_225.out; have hcz47_0 : w43.cell? ⟨gb225, 0, none⟩ = some (.slice none 0 0) := (blk_cell BK225.out 0).trans rfl; have hcz47_1 : w43.cell? ⟨gb225, 1, none⟩ = some (.bool false) := (blk_cell BK225.out 1).trans rfl; have hfz47_0 := blk_frozen BK225.out 0; have hfz47_1 := blk_frozen BK225.out 1) | ((with_reducible refine gate_store (t := 38) (p := 8) rfl ?_); refine store_event (t := 38) (p := 8) (v := ?vo_w48) (w1 := ((w43.setCell ⟨gb225, 0, none⟩ (.slice Ao44 t218.length co44)).setCell ⟨gb225, 1, none⟩ (.bool t221))) ?hg ?ho ?hn ?hr ?_; (case ho => rfl); (case hg => rfl); (case hn => rfl); (case hr => first | (go_simp; done) | (go_simp; rfl)); intro w48 hw; have n0_ : Aside0 (Kd.R (Kd.int .u8) 5 w48 w.heap.size (fun _ => True) v216 y215) := ⟨(by rw [hw]; exact (by (with_reducible repeat (first | apply Kd.R_alloc | apply Kd.R_drewN | apply Kd.R_drew)); exact Kd.R_mono (Kd.R_far (p := ⟨gb225, 1, none⟩) (Kd.R_far (p := ⟨gb225, 0, none⟩) (Kd.R_types HO217.out BK225.out (by decide)) (fun _ hk => hk.2) (.slice Ao44 t218.length co44)) (fun _ hk => hk.2) (.bool t221)) (fun _ hk => trivial)))⟩; have n1_ : Aside0 (Kd.V (Kd.int .u8) 5 w48 w.heap.size (fun k_ => some k_ ≠ (v216 : Value).ownBlock ∧ some k_ ≠ (v223 : Value).ownBlock ∧ k_ ≠ gb208 ∧ k_ ≠ gb209 ∧ k_ ≠ gb225) (.slice Ao44 t218.length co44) t218) := ⟨(by rw [hw]; exact (by (with_reducible repeat (first | apply Kd.V_alloc | apply Kd.V_drewN | apply Kd.V_drew)); exact Kd.V_mono (Kd.V_far (p := ⟨gb225, 1, none⟩) (Kd.V_far (p := ⟨gb225, 0, none⟩) (Kd.V_mono HO220.out (fun k_ hk => (⟨hk, hk.2⟩ : _ ∧ k_ ≠ gb225))) (fun _ hk => hk.2) (.slice Ao44 t218.length co44)) (fun _ hk => hk.2) (.bool t221)) (fun _ hk => ⟨hk.1.1.2.1, ⟨hk.1.1.1, ⟨hk.1.1.2.2.1, ⟨hk.1.1.2.2.2, hk.1.2⟩⟩⟩⟩)))⟩; have n2_ : Aside0 (Kd.R k54 54 w48 w.heap.size (fun _ => True) v223 t222) := ⟨(by rw [hw]; exact (by (with_reducible repeat (first | apply Kd.R_alloc | apply Kd.R_drewN | apply Kd.R_drew)); exact Kd.R_mono (Kd.R_far (p := ⟨gb225, 1, none⟩) (Kd.R_far (p := ⟨gb225, 0, none⟩) (Kd.R_types HO224.out BK225.out (by decide)) (fun _ hk => hk.2) (.slice Ao44 t218.length co44)) (fun _ hk => hk.2) (.bool t221)) (fun _ hk => trivial)))⟩; have n3_ : Aside0 (w48.heap[gb208]? = some (.cells #[.slice A0_0 l0_0.length c0_0, .bool a0_1] 38 (0, 0))) := ⟨(by rw [hw]; exact (by (with_reducible repeat (first | refine blk_drewN ?_ _ | refine blk_drew ?_ | refine blk_alloc ?_ _)); refine blk_far ?_ NB208_225.out _; (with_reducible repeat (first | refine blk_drewN ?_ _ | refine blk_drew ?_ | refine blk_alloc ?_ _)); refine blk_far ?_ NB208_225.out _; (with_reducible repeat (first | refine blk_drewN ?_ _ | refine blk_drew ?_ | refine blk_alloc ?_ _)); exact BK208.out))⟩; have n4_ : Aside0 (w48.heap[gb209]? = some (.cells #[.slice A1_0 l1_0.length c1_0, .bool a1_1] 38 (0, 0))) := ⟨(by rw [hw]; exact (by (with_reducible repeat (first | refine blk_drewN ?_ _ | refine blk_drew ?_ | refine blk_alloc ?_ _)); refine blk_far ?_ NB209_225.out _; (with_reducible repeat (first | refine blk_drewN ?_ _ | refine blk_drew ?_ | refine blk_alloc ?_ _)); refine blk_far ?_ NB209_225.out _; (with_reducible repeat (first | refine blk_drewN ?_ _ | refine blk_drew ?_ | refine blk_alloc ?_ _)); exact BK209.out))⟩; have n5_ : Aside0 (w48.heap[gb225]? = some (.cells #[.slice Ao44 t218.length co44, .bool t221] 38 (0, 0))) := ⟨(by rw [hw]; exact (by (with_reducible repeat (first | refine blk_drewN ?_ _ | refine blk_drew ?_ | refine blk_alloc ?_ _)); refine blk_put (cs := #[.slice Ao44 t218.length co44, .bool false]) ?_ 1 _ rfl; (with_reducible repeat (first | refine blk_drewN ?_ _ | refine blk_drew ?_ | refine blk_alloc ?_ _)); refine blk_put (cs := #[.slice none 0 0, .bool false]) ?_ 0 _ rfl; (with_reducible repeat (first | refine blk_drewN ?_ _ | refine blk_drew ?_ | refine blk_alloc ?_ _)); exact BK225.out))⟩; have n6_ : Aside0 (Below w.heap.size w w48) := ⟨(by rw [hw]; exact qC)⟩; clear hw; clear HO217; clear HO220; clear HO224; clear BK208; clear BK209; clear BK225; clear HB; have HO217 := n0_; have HO220 := n1_; have HO224 := n2_; have BK208 := n3_; have BK209 := n4_; have BK225 := n5_; have HB := n6_; clear n0_ n1_ n2_ n3_ n4_ n5_ n6_; have hcz49_0 : w48.cell? ⟨gb208, 0, none⟩ = some (.slice A0_0 l0_0.length c0_0) := (blk_cell BK208.out 0).trans rfl; have hcz49_1 : w48.cell? ⟨gb208, 1, none⟩ = some (.bool a0_1) := (blk_cell BK208.out 1).trans rfl; have hfz49_0 := blk_frozen BK208.out 0; have hfz49_1 := blk_frozen BK208.out 1) | ((with_reducible refine gate_callee (f := 23) rfl ?_); refine goesL_ (some 51) rfl rfl Try.func23 qK rfl #[.agg #[.slice A0_0 l0_0.length c0_0, .bool a0_1], .slice A2 l2.length c2] rfl qG ?_; (with_reducible refine (ebbtideref21_Push.calls kj5 (fun k_ => k_ < w.heap.size) _ _ l0_0 a0_1 _ _ l2 t226 t229 t230 _ ?side1 ?side2 ?side3 A28.out).mono ?_); (case side1 => exact Kd.V_mk HC0_0.out (Kd.F_below (Kd.C_F (Kd.heap_int .u8) HR0_0.out) qC)); (case side2 => repeat (first | exact (Kd.C_below HR2.out HB.out) | (with_reducible refine Kd.C_alloc ?_ _) | (with_reducible refine Kd.C_drewN ?_ _) | (with_reducible refine Kd.C_drew ?_))); (case side3 => exact HC2.out); rintro e w50 ⟨v227, v231, rfl, ho0, ho1, hb⟩; refine ⟨_, rfl, ?_⟩; have n0_ := Aside0.mk (Kd.R_below (qR HO217) hb); have n1_ := Aside0.mk (Kd.V_elder' (by (with_reducible repeat (first | apply Kd.V_alloc | apply Kd.V_drewN | apply Kd.V_drew)); exact HO220.out) (Kd.R_base ho1) hb); have n2_ := Aside0.mk (Kd.R_elder' (qR HO224) (Kd.R_base ho1) hb); have n3_ := Aside0.mk (Kd.V_lower (Kd.V_mono (ok' := fun k_ => some k_ ≠ (v231 : Value).ownBlock ∧ some k_ ≠ (v216 : Value).ownBlock ∧ some k_ ≠ (v223 : Value).ownBlock ∧ k_ ≠ gb208 ∧ k_ ≠ gb209 ∧ k_ ≠ gb225) ho0 (fun k_ hk_ => ⟨hk_.2, Or.elim hk_.1 (fun hs_ => fun e_ => Nat.not_le.2 hs_ (Kd.R_base HO217.out k_ e_.symm)) (fun hn_ => (Kd.fresh' (Kd.R_lt (qR HO217)) k_ hn_)), Or.elim hk_.1 (fun hs_ => fun e_ => Nat.not_le.2 hs_ (Kd.R_base HO224.out k_ e_.symm)) (fun hn_ => (Kd.fresh' (Kd.R_lt (qR HO224)) k_ hn_)), Or.elim hk_.1 (fun hs_ => fun e_ => Nat.not_le.2 hs_ (by rw [e_]; exact GW208.out)) (fun hn_ => (Kd.freshB (g := gb208) (o := .cells #[.slice A0_0 l0_0.length c0_0, .bool a0_1] 38 (0, 0)) (qW BK208) k_ hn_)), Or.elim hk_.1 (fun hs_ => fun e_ => Nat.not_le.2 hs_ (by rw [e_]; exact GW209.out)) (fun hn_ => (Kd.freshB (g := gb209) (o := .cells #[.slice A1_0 l1_0.length c1_0, .bool a1_1] 38 (0, 0)) (qW BK209) k_ hn_)), Or.elim hk_.1 (fun hs_ => fun e_ => Nat.not_le.2 hs_ (by rw [e_]; exact GW225.out)) (fun hn_ => (Kd.freshB (g := gb225) (o := .cells #[.slice Ao44 t218.length co44, .bool t221] 38 (0, 0)) (qW BK225) k_ hn_))⟩)) (below_size qC)); have n4_ := Aside0.mk (Kd.R_lower (Kd.R_new' (Kd.R_mono (ok' := fun k_ => True) ho1 (fun _ hk_ => trivial)) (Kd.R_lt (qR HO224))) (below_size qC)); have n5_ := Aside0.mk (blk_below (g := gb208) (o := .cells #[.slice A0_0 l0_0.length c0_0, .bool a0_1] 38 (0, 0)) (qW BK208) hb); have n6_ := Aside0.mk (blk_below (g := gb209) (o := .cells #[.slice A1_0 l1_0.length c1_0, .bool a1_1] 38 (0, 0)) (qW BK209) hb); have n7_ := Aside0.mk (blk_below (g := gb225) (o := .cells #[.slice Ao44 t218.length co44, .bool t221] 38 (0, 0)) (qW BK225) hb); have n8_ := Aside0.mk (below_step qC hb); clear HO217; clear HO220; clear HO224; clear BK208; clear BK209; clear BK225; clear HB; have HO217 := n0_; have HO220 := n1_; have HO224 := n2_; have HO228 := n3_; have HO232 := n4_; have BK208 := n5_; have BK209 := n6_; have BK225 := n7_; have HB := n8_; clear n0_ n1_ n2_ n3_ n4_ n5_ n6_ n7_ n8_; (try clear hb); (try clear hb2); (try clear hk); (try clear hi); (try clear ho0); (try clear ho1)) | ((with_reducible refine gate_dst (N := 10) rfl ?_); (try (refine gate_guard (by rfl) ?_; dsimp only)); refine box_event ?hg (N := 10) ?hd (cs := #[.slice none 0 0, .bool false]) (t := 38) ?hr ?_; (case hd => rfl); (case hg => rfl); (case hr => first | (go_simp; done) | (go_simp; rfl)); intro gb233 hg w51 hbox hb; have n0_ := Aside0.mk (Kd.R_below (qR HO217) hb); have n1_ := Aside0.mk (Kd.V_below (Kd.V_elderB (by (with_reducible repeat (first | apply Kd.V_alloc | apply Kd.V_drewN | apply Kd.V_drew)); exact HO220.out) gb233 (Nat.le_of_eq hg.symm)) hb); have n2_ := Aside0.mk (Kd.R_below (qR HO224) hb); have n3_ := Aside0.mk (Kd.V_below (Kd.V_elderB (by (with_reducible repeat (first | apply Kd.V_alloc | apply Kd.V_drewN | apply Kd.V_drew)); exact HO228.out) gb233 (Nat.le_of_eq hg.symm)) hb); have n4_ := Aside0.mk (Kd.R_below (qR HO232) hb); have n5_ := Aside0.mk (blk_below (g := gb208) (o := .cells #[.slice A0_0 l0_0.length c0_0, .bool a0_1] 38 (0, 0)) (qW BK208) hb); have n6_ := Aside0.mk (blk_below (g := gb209) (o := .cells #[.slice A1_0 l1_0.length c1_0, .bool a1_1] 38 (0, 0)) (qW BK209) hb); have n7_ := Aside0.mk (blk_below (g := gb225) (o := .cells #[.slice Ao44 t218.length co44, .bool t221] 38 (0, 0)) (qW BK225) hb); have n8_ := Aside0.mk (below_step qC hb); have n9_ := Aside0.mk (hbox); have n10_ := Aside0.mk ((by rw [hg]; exact (below_size qC) : w.heap.size ≤ gb233)); have n11_ := Aside0.mk ((by rw [hg]; exact (below_size qC) : w.heap.size ≤ gb233)); have n12_ := Aside0.mk ((by rw [hg]; exact Nat.ne_of_lt (blk_lt (g := gb208) (o := .cells #[.slice A0_0 l0_0.length c0_0, .bool a0_1] 38 (0, 0)) (qW BK208)) : gb208 ≠ gb233)); have n13_ := Aside0.mk ((by rw [hg]; exact Nat.ne_of_gt (blk_lt (g := gb208) (o := .cells #[.slice A0_0 l0_0.length c0_0, .bool a0_1] 38 (0, 0)) (qW BK208)) : gb233 ≠ gb208)); have n14_ := Aside0.mk ((by rw [hg]; exact Nat.ne_of_lt (blk_lt (g := gb209) (o := .cells #[.slice A1_0 l1_0.length c1_0, .bool a1_1] 38 (0, 0)) (qW BK209)) : gb209 ≠ gb233)); have n15_ := Aside0.mk ((by rw [hg]; exact Nat.ne_of_gt (blk_lt (g := gb209) (o := .cells #[.slice A1_0 l1_0.length c1_0, .bool a1_1] 38 (0, 0)) (qW BK209)) : gb233 ≠ gb209)); have n16_ := Aside0.mk ((by rw [hg]; exact Nat.ne_of_lt (blk_lt (g := gb225) (o := .cells #[.slice Ao44 t218.length co44, .bool t221] 38 (0, 0)) (qW BK225)) : gb225 ≠ gb233)); have n17_ := Aside0.mk ((by rw [hg]; exact Nat.ne_of_gt (blk_lt (g := gb225) (o := .cells #[.slice Ao44 t218.length co44, .bool t221] 38 (0, 0)) (qW BK225)) : gb233 ≠ gb225)); clear HO217; clear HO220; clear HO224; clear HO228; clear HO232; clear BK208; clear BK209; clear BK225; clear HB; have HO217 := n0_; have HO220 := n1_; have HO224 := n2_; have HO228 := n3_; have HO232 := n4_; have BK208 := n5_; have BK209 := n6_; have BK225 := n7_; have HB := n8_; have BK233 := n9_; have GW233 := n10_; have GE233 := n11_; have NB208_233 := n12_; have NB233_208 := n13_; have NB209_233 := n14_; have NB233_209 := n15_; have NB225_233 := n16_; have NB233_225 := n17_; clear n0_ n1_ n2_ n3_ n4_ n5_ n6_ n7_ n8_ n9_ n10_ n11_ n12_ n13_ n14_ n15_ n16_ n17_; clear hb hbox hg; obtain ⟨Ao52, co52, eo52⟩ := Kd.V_slice HO228.out; subst eo52; have hnb53 := NB233_208.out; have hnc53 := NB208_233.out; have hnb54 := NB233_209.out; have hnc54 := NB209_233.out; have hnb55 := NB233_225.out; have hnc55 := NB225_233.out; have hcz56_0 : w51.cell? ⟨gb233, 0, none⟩ = some (.slice none 0 0) := (blk_cell BK233.out 0).trans rfl; have hcz56_1 : w51.cell? ⟨gb233, 1, none⟩ = some (.bool false) := (blk_cell BK233.out 1).trans rfl; have hfz56_0 := blk_frozen BK233.out 0; have hfz56_1 := blk_frozen BK233.out 1; obtain ⟨Ao57, co57, eo57⟩ := Kd.R_slice HO224.out; subst eo57; obtain ⟨Ao58, co58, eo58⟩ := Kd.R_slice HO232.out; subst eo58))
         have n0_ : Aside0 (Kd.R (Kd.int .u8) 5 ((w51.setCell ⟨gb233, 0, none⟩ (.slice Ao52 t226.length co52)).setCell ⟨gb233, 1, none⟩ (.bool t229)) w.heap.size (fun _ => True) v216 y215) := ⟨by (with_reducible repeat (first | apply Kd.R_alloc | apply Kd.R_drewN | apply Kd.R_drew)); exact Kd.R_mono (Kd.R_far (p := ⟨gb233, 1, none⟩) (Kd.R_far (p := ⟨gb233, 0, none⟩) (Kd.R_types HO217.out BK233.out (by decide)) (fun _ hk => hk.2) (.slice Ao52 t226.length co52)) (fun _ hk => hk.2) (.bool t229)) (fun _ hk => trivial)⟩
         have n1_ : Aside0 (Kd.V (Kd.int .u8) 5 ((w51.setCell ⟨gb233, 0, none⟩ (.slice Ao52 t226.length co52)).setCell ⟨gb233, 1, none⟩ (.bool t229)) w.heap.size (fun k_ => some k_ ≠ (v216 : Value).ownBlock ∧ some k_ ≠ (.slice Ao57 t222.length co57 : Value).ownBlock ∧ some k_ ≠ (.slice Ao58 t230.length co58 : Value).ownBlock ∧ k_ ≠ gb208 ∧ k_ ≠ gb209 ∧ k_ ≠ gb225 ∧ k_ ≠ gb233) (.slice Ao44 t218.length co44) t218) := ⟨by (with_reducible repeat (first | apply Kd.V_alloc | apply Kd.V_drewN | apply Kd.V_drew)); exact Kd.V_mono (Kd.V_far (p := ⟨gb233, 1, none⟩) (Kd.V_far (p := ⟨gb233, 0, none⟩) (Kd.V_mono HO220.out (fun k_ hk => (⟨hk, hk.2⟩ : _ ∧ k_ ≠ gb233))) (fun _ hk => hk.2) (.slice Ao52 t226.length co52)) (fun _ hk => hk.2) (.bool t229)) (fun _ hk => ⟨hk.1.1.1.1, ⟨hk.1.1.1.2.1, ⟨hk.1.1.2, ⟨hk.1.1.1.2.2.1, ⟨hk.1.1.1.2.2.2.1, ⟨hk.1.1.1.2.2.2.2, hk.1.2⟩⟩⟩⟩⟩⟩)⟩
         have n2_ : Aside0 (Kd.R k54 54 ((w51.setCell ⟨gb233, 0, none⟩ (.slice Ao52 t226.length co52)).setCell ⟨gb233, 1, none⟩ (.bool t229)) w.heap.size (fun k_ => some k_ ≠ (.slice Ao58 t230.length co58 : Value).ownBlock) (.slice Ao57 t222.length co57) t222) := ⟨by (with_reducible repeat (first | apply Kd.R_alloc | apply Kd.R_drewN | apply Kd.R_drew)); exact Kd.R_mono (Kd.R_far (p := ⟨gb233, 1, none⟩) (Kd.R_far (p := ⟨gb233, 0, none⟩) (Kd.R_types HO224.out BK233.out (by decide)) (fun _ hk => hk.2) (.slice Ao52 t226.length co52)) (fun _ hk => hk.2) (.bool t229)) (fun _ hk => hk.1.2)⟩
         have n3_ : Aside0 (Kd.V (Kd.int .u8) 5 ((w51.setCell ⟨gb233, 0, none⟩ (.slice Ao52 t226.length co52)).setCell ⟨gb233, 1, none⟩ (.bool t229)) w.heap.size (fun k_ => some k_ ≠ (v216 : Value).ownBlock ∧ some k_ ≠ (.slice Ao57 t222.length co57 : Value).ownBlock ∧ some k_ ≠ (.slice Ao58 t230.length co58 : Value).ownBlock ∧ k_ ≠ gb208 ∧ k_ ≠ gb209 ∧ k_ ≠ gb225 ∧ k_ ≠ gb233) (.slice Ao52 t226.length co52) t226) := ⟨by (with_reducible repeat (first | apply Kd.V_alloc | apply Kd.V_drewN | apply Kd.V_drew)); exact Kd.V_mono (Kd.V_far (p := ⟨gb233, 1, none⟩) (Kd.V_far (p := ⟨gb233, 0, none⟩) (Kd.V_mono HO228.out (fun k_ hk => (⟨hk, hk.2⟩ : _ ∧ k_ ≠ gb233))) (fun _ hk => hk.2) (.slice Ao52 t226.length co52)) (fun _ hk => hk.2) (.bool t229)) (fun _ hk => ⟨hk.1.1.2.1, ⟨hk.1.1.2.2.1, ⟨hk.1.1.1, ⟨hk.1.1.2.2.2.1, ⟨hk.1.1.2.2.2.2.1, ⟨hk.1.1.2.2.2.2.2, hk.1.2⟩⟩⟩⟩⟩⟩)⟩
         have n4_ : Aside0 (Kd.R k54 54 ((w51.setCell ⟨gb233, 0, none⟩ (.slice Ao52 t226.length co52)).setCell ⟨gb233, 1, none⟩ (.bool t229)) w.heap.size (fun k_ => some k_ ≠ (.slice Ao57 t222.length co57 : Value).ownBlock) (.slice Ao58 t230.length co58) t230) := ⟨by (with_reducible repeat (first | apply Kd.R_alloc | apply Kd.R_drewN | apply Kd.R_drew)); exact Kd.R_mono (Kd.R_far (p := ⟨gb233, 1, none⟩) (Kd.R_far (p := ⟨gb233, 0, none⟩) (Kd.R_types HO232.out BK233.out (by decide)) (fun _ hk => hk.2) (.slice Ao52 t226.length co52)) (fun _ hk => hk.2) (.bool t229)) (fun _ hk => hk.1.2)⟩
         have n5_ : Aside0 (((w51.setCell ⟨gb233, 0, none⟩ (.slice Ao52 t226.length co52)).setCell ⟨gb233, 1, none⟩ (.bool t229)).heap[gb208]? = some (.cells #[.slice A0_0 l0_0.length c0_0, .bool a0_1] 38 (0, 0))) := ⟨by (with_reducible repeat (first | refine blk_drewN ?_ _ | refine blk_drew ?_ | refine blk_alloc ?_ _)); refine blk_far ?_ NB208_233.out _; (with_reducible repeat (first | refine blk_drewN ?_ _ | refine blk_drew ?_ | refine blk_alloc ?_ _)); refine blk_far ?_ NB208_233.out _; (with_reducible repeat (first | refine blk_drewN ?_ _ | refine blk_drew ?_ | refine blk_alloc ?_ _)); exact BK208.out⟩
         have n6_ : Aside0 (((w51.setCell ⟨gb233, 0, none⟩ (.slice Ao52 t226.length co52)).setCell ⟨gb233, 1, none⟩ (.bool t229)).heap[gb209]? = some (.cells #[.slice A1_0 l1_0.length c1_0, .bool a1_1] 38 (0, 0))) := ⟨by (with_reducible repeat (first | refine blk_drewN ?_ _ | refine blk_drew ?_ | refine blk_alloc ?_ _)); refine blk_far ?_ NB209_233.out _; (with_reducible repeat (first | refine blk_drewN ?_ _ | refine blk_drew ?_ | refine blk_alloc ?_ _)); refine blk_far ?_ NB209_233.out _; (with_reducible repeat (first | refine blk_drewN ?_ _ | refine blk_drew ?_ | refine blk_alloc ?_ _)); exact BK209.out⟩
         have n7_ : Aside0 (((w51.setCell ⟨gb233, 0, none⟩ (.slice Ao52 t226.length co52)).setCell ⟨gb233, 1, none⟩ (.bool t229)).heap[gb225]? = some (.cells #[.slice Ao44 t218.length co44, .bool t221] 38 (0, 0))) := ⟨by (with_reducible repeat (first | refine blk_drewN ?_ _ | refine blk_drew ?_ | refine blk_alloc ?_ _)); refine blk_far ?_ NB225_233.out _; (with_reducible repeat (first | refine blk_drewN ?_ _ | refine blk_drew ?_ | refine blk_alloc ?_ _)); refine blk_far ?_ NB225_233.out _; (with_reducible repeat (first | refine blk_drewN ?_ _ | refine blk_drew ?_ | refine blk_alloc ?_ _)); exact BK225.out⟩
         have n8_ : Aside0 (((w51.setCell ⟨gb233, 0, none⟩ (.slice Ao52 t226.length co52)).setCell ⟨gb233, 1, none⟩ (.bool t229)).heap[gb233]? = some (.cells #[.slice Ao52 t226.length co52, .bool t229] 38 (0, 0))) := ⟨by (with_reducible repeat (first | refine blk_drewN ?_ _ | refine blk_drew ?_ | refine blk_alloc ?_ _)); refine blk_put (cs := #[.slice Ao52 t226.length co52, .bool false]) ?_ 1 _ rfl; (with_reducible repeat (first | refine blk_drewN ?_ _ | refine blk_drew ?_ | refine blk_alloc ?_ _)); refine blk_put (cs := #[.slice none 0 0, .bool false]) ?_ 0 _ rfl; (with_reducible repeat (first | refine blk_drewN ?_ _ | refine blk_drew ?_ | refine blk_alloc ?_ _)); exact BK233.out⟩
         have n9_ : Aside0 (Below w.heap.size w ((w51.setCell ⟨gb233, 0, none⟩ (.slice Ao52 t226.length co52)).setCell ⟨gb233, 1, none⟩ (.bool t229))) := ⟨qC⟩
         (try clear HO217)
         (try clear HO220)
         (try clear HO224)
         (try clear HO228)
         (try clear HO232)
         (try clear BK208)
         (try clear BK209)
         (try clear BK225)
         (try clear BK233)
         (try clear HB)
         generalize ((w51.setCell ⟨gb233, 0, none⟩ (.slice Ao52 t226.length co52)).setCell ⟨gb233, 1, none⟩ (.bool t229)) = w59 at n0_ n1_ n2_ n3_ n4_ n5_ n6_ n7_ n8_ n9_ ⊢
         have HO217 := n0_
         have HO220 := n1_
         have HO224 := n2_
         have HO228 := n3_
         have HO232 := n4_
         have BK208 := n5_
         have BK209 := n6_
         have BK225 := n7_
         have BK233 := n8_
         have HB := n9_
         clear n0_ n1_ n2_ n3_ n4_ n5_ n6_ n7_ n8_ n9_
         have n0_ := Aside0.mk (Kd.R_drew HO217.out)
         have n1_ := Aside0.mk (Kd.V_drew HO220.out)
         have n2_ := Aside0.mk (Kd.R_drew HO224.out)
         have n3_ := Aside0.mk (Kd.V_drew HO228.out)
         have n4_ := Aside0.mk (Kd.R_drew HO232.out)
         have n5_ := Aside0.mk (blk_drew BK208.out)
         have n6_ := Aside0.mk (blk_drew BK209.out)
         have n7_ := Aside0.mk (blk_drew BK225.out)
         have n8_ := Aside0.mk (blk_drew BK233.out)
         have n9_ := Aside0.mk (below_drew1 HB.out)
         clear HO217
         clear HO220
         clear HO224
         clear HO228
         clear HO232
         clear BK208
         clear BK209
         clear BK225
         clear BK233
         clear HB
         have HO217 := n0_
         have HO220 := n1_
         have HO224 := n2_
         have HO228 := n3_
         have HO232 := n4_
         have BK208 := n5_
         have BK209 := n6_
         have BK225 := n7_
         have BK233 := n8_
         have HB := n9_
         clear n0_ n1_ n2_ n3_ n4_ n5_ n6_ n7_ n8_ n9_
         refine start_ (n := 26) (S := fun w' => w'.cell? ⟨gb225, 0, none⟩ = some (.slice Ao44 t218.length co44) ∧ w'.cell? ⟨gb225, 1, none⟩ = some (.bool t221) ∧ w'.cell? ⟨gb233, 0, none⟩ = some (.slice Ao52 t226.length co52) ∧ w'.cell? ⟨gb233, 1, none⟩ = some (.bool t229) ∧ w'.cell? ⟨gb208, 0, none⟩ = some (.slice A0_0 l0_0.length c0_0) ∧ w'.cell? ⟨gb208, 1, none⟩ = some (.bool a0_1) ∧ w'.cell? ⟨gb209, 0, none⟩ = some (.slice A1_0 l1_0.length c1_0) ∧ w'.cell? ⟨gb209, 1, none⟩ = some (.bool a1_1) ∧ (convert 35 9 (v216)).run Try.prog w' = .ok (.string (strOfNums y215)) w' ∧ (convert 35 9 (.slice A0_0 l0_0.length c0_0)).run Try.prog w' = .ok (.string (strOfNums l0_0)) w') (ds := []) #[false, false, false, false, false, false, false, false, false, false, false, false, false, false, false, false, false, false, false, false, false, false, false, false, false, false] qK rfl rfl ⟨(blk_cell BK225.out 0).trans rfl, (blk_cell BK225.out 1).trans rfl, (blk_cell BK233.out 0).trans rfl, (blk_cell BK233.out 1).trans rfl, (blk_cell BK208.out 0).trans rfl, (blk_cell BK208.out 1).trans rfl, (blk_cell BK209.out 0).trans rfl, (blk_cell BK209.out 1).trans rfl, own_string (P := Try.prog) Try.underlying35 Try.underlying5 Try.underlying9 (Kd.own_of_R (by first | exact HO217.out | exact Kd.R_drewN HO217.out _)), Kd.C_string (P := Try.prog) (A := A0_0) (c := c0_0) Try.underlying35 Try.underlying5 Try.underlying9 (Kd.C_below HR0_0.out (by first | exact HB.out | exact pw_below_drewN HB.out _))⟩ (fun hHeld => ?_); refine with_tabW ebbtidelaw21_FramePushes.tab8 ebbtidelaw21_FramePushes.bits8 (fun HT_ HW_ => ?_)
         generalize w59.drew = w60 at HO217 HO220 HO224 HO228 HO232 BK208 BK209 BK225 BK233 HB hHeld ⊢
         refine take_ (i := 0) (N := some 54) (v := ?_) (a' := ?_) #[true, false, false, false, false, false, false, false, false, false, false, false, false, false, false, false, false, false, false, false, false, false, false, false, false, false] rfl rfl (take_ofW HT_.out HW_.out qK) (fun _ _ _ h => h) (Or.inl ⟨by rfl, ?_⟩) hHeld ?_ ?_
         rotate_left
         ·rintro w' ⟨s0, s1, s2, s3, s4, s5, s6, s7, s8, s9⟩; go_simp; with_reducible rfl
         rotate_left
         ·simp only [Act.put, List.setIfInBounds_toArray, List.set_cons_zero, List.set_cons_succ, i64_w, i32_w]; rfl
         refine take_ (i := 1) (N := some 55) (v := ?_) (a' := ?_) #[true, true, false, false, false, false, false, false, false, false, false, false, false, false, false, false, false, false, false, false, false, false, false, false, false, false] rfl rfl (take_ofW HT_.out HW_.out qK) (fun _ _ _ h => h) (Or.inl ⟨by rfl, ?_⟩) hHeld ?_ ?_
         rotate_left
         ·rintro w' ⟨s0, s1, s2, s3, s4, s5, s6, s7, s8, s9⟩; go_simp; with_reducible rfl
         rotate_left
         ·simp only [Act.put, List.setIfInBounds_toArray, List.set_cons_zero, List.set_cons_succ, i64_w, i32_w]; rfl
         refine one_ (i := 2) (N := some 56) #[true, true, true, false, false, false, false, false, false, false, false, false, false, false, false, false, false, false, false, false, false, false, false, false, false, false] rfl rfl (one_of HT_.out qK) (by decide) (fun K hK => ?_)
         refine goes_ Try.func24 qK rfl #[.agg #[.slice Ao44 t218.length co44, .bool t221], .agg #[.slice Ao52 t226.length co52, .bool t229]] (by rfl) rfl rfl qG ?_
         with_reducible refine (ebbtideref21_Same.calls _ _ t218 t221 _ _ t226 t229 true _ ?side1 ?side2 ?side3 ?side4 A29.out).mono ?_
         (case side1 => repeat (first | exact (Kd.V_reads' HO220.out).2.2 | (with_reducible refine Kd.C_alloc ?_ _) | (with_reducible refine Kd.C_drewN ?_ _) | (with_reducible refine Kd.C_drew ?_)))
         (case side2 => exact (Kd.V_reads' HO220.out).2.1)
         (case side3 => repeat (first | exact (Kd.V_reads' HO228.out).2.2 | (with_reducible refine Kd.C_alloc ?_ _) | (with_reducible refine Kd.C_drewN ?_ _) | (with_reducible refine Kd.C_drew ?_)))
         (case side4 => exact (Kd.V_reads' HO228.out).2.1)
         rintro e w61 ⟨rfl, hb⟩
         refine ⟨_, rfl, ?_⟩
         have n0_ := Aside0.mk (Kd.R_below (qR HO217) hb)
         have n1_ := Aside0.mk (Kd.V_below (by (with_reducible repeat (first | apply Kd.V_alloc | apply Kd.V_drewN | apply Kd.V_drew)); exact HO220.out) hb)
         have n2_ := Aside0.mk (Kd.R_below (qR HO224) hb)
         have n3_ := Aside0.mk (Kd.V_below (by (with_reducible repeat (first | apply Kd.V_alloc | apply Kd.V_drewN | apply Kd.V_drew)); exact HO228.out) hb)
         have n4_ := Aside0.mk (Kd.R_below (qR HO232) hb)
         have n5_ := Aside0.mk (blk_below (g := gb208) (o := .cells #[.slice A0_0 l0_0.length c0_0, .bool a0_1] 38 (0, 0)) (qW BK208) hb)
         have n6_ := Aside0.mk (blk_below (g := gb209) (o := .cells #[.slice A1_0 l1_0.length c1_0, .bool a1_1] 38 (0, 0)) (qW BK209) hb)
         have n7_ := Aside0.mk (blk_below (g := gb225) (o := .cells #[.slice Ao44 t218.length co44, .bool t221] 38 (0, 0)) (qW BK225) hb)
         have n8_ := Aside0.mk (blk_below (g := gb233) (o := .cells #[.slice Ao52 t226.length co52, .bool t229] 38 (0, 0)) (qW BK233) hb)
         have n9_ := Aside0.mk (below_step qC hb)
         clear HO217
         clear HO220
         clear HO224
         clear HO228
         clear HO232
         clear BK208
         clear BK209
         clear BK225
         clear BK233
         clear HB
         have HO217 := n0_
         have HO220 := n1_
         have HO224 := n2_
         have HO228 := n3_
         have HO232 := n4_
         have BK208 := n5_
         have BK209 := n6_
         have BK225 := n7_
         have BK233 := n8_
         have HB := n9_
         clear n0_ n1_ n2_ n3_ n4_ n5_ n6_ n7_ n8_ n9_
         (try clear hb)
         (try clear hb2)
         (try clear hk)
         (try clear hi)
         refine hK.out _ _ ⟨(blk_cell BK225.out 0).trans rfl, (blk_cell BK225.out 1).trans rfl, (blk_cell BK233.out 0).trans rfl, (blk_cell BK233.out 1).trans rfl, (blk_cell BK208.out 0).trans rfl, (blk_cell BK208.out 1).trans rfl, (blk_cell BK209.out 0).trans rfl, (blk_cell BK209.out 1).trans rfl, own_string (P := Try.prog) Try.underlying35 Try.underlying5 Try.underlying9 (Kd.own_of_R (by first | exact HO217.out | exact Kd.R_drewN HO217.out _)), Kd.C_string (P := Try.prog) (A := A0_0) (c := c0_0) Try.underlying35 Try.underlying5 Try.underlying9 (Kd.C_below HR0_0.out (by first | exact HB.out | exact pw_below_drewN HB.out _))⟩ (fun hHeld => ?_)
         clear hK K
         refine norm_ (a' := ?_) ?_ ?_
         rotate_left
         ·show Act.put _ (some 56) _ = _
          simp only [Act.put, List.setIfInBounds_toArray, List.set_cons_zero, List.set_cons_succ, i64_w, i32_w]
          rfl
         refine pure_ (i := 3) (N := some 57) (v := ?_) (a' := ?_) #[true, true, true, true, false, false, false, false, false, false, false, false, false, false, false, false, false, false, false, false, false, false, false, false, false, false] rfl rfl (any_of HT_.out qK) (fun _ _ _ h => h) (Or.inl ⟨by rfl, ?_⟩) ?_ ?_
         rotate_left
         ·intro w'; go_simp; with_reducible rfl
         rotate_left
         ·simp only [Act.put, List.setIfInBounds_toArray, List.set_cons_zero, List.set_cons_succ, i64_w, i32_w]; rfl
         refine pure_ (i := 4) (N := some 58) (v := ?_) (a' := ?_) #[true, true, true, true, true, false, false, false, false, false, false, false, false, false, false, false, false, false, false, false, false, false, false, false, false, false] rfl rfl (any_of HT_.out qK) (fun _ _ _ h => h) (Or.inl ⟨by rfl, ?_⟩) ?_ ?_
         rotate_left
         ·intro w'; go_simp; with_reducible rfl
         rotate_left
         ·simp only [Act.put, List.setIfInBounds_toArray, List.set_cons_zero, List.set_cons_succ, i64_w, i32_w]; rfl
         refine pure_ (i := 5) (N := some 59) (v := ?_) (a' := ?_) #[true, true, true, true, true, true, false, false, false, false, false, false, false, false, false, false, false, false, false, false, false, false, false, false, false, false] rfl rfl (any_of HT_.out qK) (fun _ _ _ h => h) (Or.inl ⟨by rfl, ?_⟩) ?_ ?_
         rotate_left
         ·intro w'; go_simp; with_reducible rfl
         rotate_left
         ·simp only [Act.put, List.setIfInBounds_toArray, List.set_cons_zero, List.set_cons_succ, i64_w, i32_w]; rfl
         refine one_ (i := 6) (N := some 60) #[true, true, true, true, true, true, true, false, false, false, false, false, false, false, false, false, false, false, false, false, false, false, false, false, false, false] rfl rfl (one_of HT_.out qK) (by decide) (fun K hK => ?_)
         refine goes_ Try.func25 qK rfl #[.slice Ao57 t222.length co57, .slice Ao58 t230.length co58] (by rfl) rfl rfl qG ?_
         with_reducible refine (ebbtideref21_Inputs.calls kj5 _ _ t222 _ _ t230 true _ ?side1 ?side2 ?side3 ?side4 A31.out).mono ?_
         (case side1 => repeat (first | exact (Kd.R_reads' HO224.out).2.2 | (with_reducible refine Kd.C_alloc ?_ _) | (with_reducible refine Kd.C_drewN ?_ _) | (with_reducible refine Kd.C_drew ?_)))
         (case side2 => exact (Kd.R_reads' HO224.out).2.1)
         (case side3 => repeat (first | exact (Kd.R_reads' HO232.out).2.2 | (with_reducible refine Kd.C_alloc ?_ _) | (with_reducible refine Kd.C_drewN ?_ _) | (with_reducible refine Kd.C_drew ?_)))
         (case side4 => exact (Kd.R_reads' HO232.out).2.1)
         rintro e w' ⟨rfl, ⟨nd, rfl⟩⟩
         refine ⟨_, rfl, ?_⟩
         have hcv62 := own_string (P := Try.prog) Try.underlying35 Try.underlying5 Try.underlying9 (Kd.own_of_R HO217.out)
         have hcv63 := Kd.C_string (P := Try.prog) (A := A0_0) (c := c0_0) Try.underlying35 Try.underlying5 Try.underlying9 (Kd.C_below HR0_0.out HB.out)
         refine hK.out _ _ ⟨(blk_cell BK225.out 0).trans rfl, (blk_cell BK225.out 1).trans rfl, (blk_cell BK233.out 0).trans rfl, (blk_cell BK233.out 1).trans rfl, (blk_cell BK208.out 0).trans rfl, (blk_cell BK208.out 1).trans rfl, (blk_cell BK209.out 0).trans rfl, (blk_cell BK209.out 1).trans rfl, own_string (P := Try.prog) Try.underlying35 Try.underlying5 Try.underlying9 (Kd.own_of_R (by first | exact HO217.out | exact Kd.R_drewN HO217.out _)), Kd.C_string (P := Try.prog) (A := A0_0) (c := c0_0) Try.underlying35 Try.underlying5 Try.underlying9 (Kd.C_below HR0_0.out (by first | exact HB.out | exact pw_below_drewN HB.out _))⟩ (fun hHeld => ?_)
         clear hK K
         refine norm_ (a' := ?_) ?_ ?_
         rotate_left
         ·show Act.put _ (some 60) _ = _
          simp only [Act.put, List.setIfInBounds_toArray, List.set_cons_zero, List.set_cons_succ, i64_w, i32_w]
          rfl
         refine pure_ (i := 7) (N := some 61) (v := ?_) (a' := ?_) #[true, true, true, true, true, true, true, true, false, false, false, false, false, false, false, false, false, false, false, false, false, false, false, false, false, false] rfl rfl (any_of HT_.out qK) (fun _ _ _ h => h) (Or.inl ⟨by rfl, ?_⟩) ?_ ?_
         rotate_left
         ·intro w'; go_simp; with_reducible rfl
         rotate_left
         ·simp only [Act.put, List.setIfInBounds_toArray, List.set_cons_zero, List.set_cons_succ, i64_w, i32_w]; rfl
         refine pure_ (i := 8) (N := some 62) (v := ?_) (a' := ?_) #[true, true, true, true, true, true, true, true, true, false, false, false, false, false, false, false, false, false, false, false, false, false, false, false, false, false] rfl rfl (any_of HT_.out qK) (fun _ _ _ h => h) (Or.inl ⟨by rfl, ?_⟩) ?_ ?_
         rotate_left
         ·intro w'; go_simp; with_reducible rfl
         rotate_left
         ·simp only [Act.put, List.setIfInBounds_toArray, List.set_cons_zero, List.set_cons_succ, i64_w, i32_w]; rfl
         refine pure_ (i := 9) (N := some 63) (v := ?_) (a' := ?_) #[true, true, true, true, true, true, true, true, true, true, false, false, false, false, false, false, false, false, false, false, false, false, false, false, false, false] rfl rfl (any_of HT_.out qK) (fun _ _ _ h => h) (Or.inl ⟨by rfl, ?_⟩) ?_ ?_
         rotate_left
         ·intro w'; go_simp; with_reducible rfl
         rotate_left
         ·simp only [Act.put, List.setIfInBounds_toArray, List.set_cons_zero, List.set_cons_succ, i64_w, i32_w]; rfl
         refine take_ (i := 10) (N := some 64) (v := ?_) (a' := ?_) #[true, true, true, true, true, true, true, true, true, true, true, false, false, false, false, false, false, false, false, false, false, false, false, false, false, false] rfl rfl (take_ofW HT_.out HW_.out qK) (fun _ _ _ h => h) (Or.inl ⟨by rfl, ?_⟩) hHeld ?_ ?_
         rotate_left
         ·rintro w' ⟨s0, s1, s2, s3, s4, s5, s6, s7, s8, s9⟩; go_simp; with_reducible rfl
         rotate_left
         ·simp only [Act.put, List.setIfInBounds_toArray, List.set_cons_zero, List.set_cons_succ, i64_w, i32_w]; rfl
         refine pure_ (i := 11) (N := some 65) (v := ?_) (a' := ?_) #[true, true, true, true, true, true, true, true, true, true, true, true, false, false, false, false, false, false, false, false, false, false, false, false, false, false] rfl rfl (any_of HT_.out qK) (fun _ _ _ h => h) (Or.inl ⟨by rfl, ?_⟩) ?_ ?_
         rotate_left
         ·intro w'; go_simp; with_reducible rfl
         rotate_left
         ·simp only [Act.put, List.setIfInBounds_toArray, List.set_cons_zero, List.set_cons_succ, i64_w, i32_w]; rfl
         refine take_ (i := 12) (N := some 66) (v := ?_) (a' := ?_) #[true, true, true, true, true, true, true, true, true, true, true, true, true, false, false, false, false, false, false, false, false, false, false, false, false, false] rfl rfl (take_ofW HT_.out HW_.out qK) (fun _ _ _ h => h) (Or.inl ⟨by rfl, ?_⟩) hHeld ?_ ?_
         rotate_left
         ·rintro w' ⟨s0, s1, s2, s3, s4, s5, s6, s7, s8, s9⟩; go_simp; with_reducible rfl
         rotate_left
         ·simp only [Act.put, List.setIfInBounds_toArray, List.set_cons_zero, List.set_cons_succ, i64_w, i32_w]; rfl
         refine take_ (i := 13) (N := some 67) (v := ?_) (a' := ?_) #[true, true, true, true, true, true, true, true, true, true, true, true, true, true, false, false, false, false, false, false, false, false, false, false, false, false] rfl rfl (take_ofW HT_.out HW_.out qK) (fun _ _ _ h => h) (Or.inl ⟨by rfl, ?_⟩) hHeld ?_ ?_
         rotate_left
         ·rintro w' ⟨s0, s1, s2, s3, s4, s5, s6, s7, s8, s9⟩; go_simp; with_reducible rfl
         rotate_left
         ·simp only [Act.put, List.setIfInBounds_toArray, List.set_cons_zero, List.set_cons_succ, i64_w, i32_w]; rfl
         refine pure_ (i := 14) (N := some 68) (v := ?_) (a' := ?_) #[true, true, true, true, true, true, true, true, true, true, true, true, true, true, true, false, false, false, false, false, false, false, false, false, false, false] rfl rfl (any_of HT_.out qK) (fun _ _ _ h => h) (Or.inl ⟨by rfl, ?_⟩) ?_ ?_
         rotate_left
         ·intro w'; go_simp; with_reducible rfl
         rotate_left
         ·simp only [Act.put, List.setIfInBounds_toArray, List.set_cons_zero, List.set_cons_succ, i64_w, i32_w]; rfl
         refine pure_ (i := 15) (N := some 69) (v := ?_) (a' := ?_) #[true, true, true, true, true, true, true, true, true, true, true, true, true, true, true, true, false, false, false, false, false, false, false, false, false, false] rfl rfl (any_of HT_.out qK) (fun _ _ _ h => h) (Or.inl ⟨by rfl, ?_⟩) ?_ ?_
         rotate_left
         ·intro w'; go_simp; with_reducible rfl
         rotate_left
         ·simp only [Act.put, List.setIfInBounds_toArray, List.set_cons_zero, List.set_cons_succ, i64_w, i32_w]; rfl
         refine pure_ (i := 16) (N := some 70) (v := ?_) (a' := ?_) #[true, true, true, true, true, true, true, true, true, true, true, true, true, true, true, true, true, false, false, false, false, false, false, false, false, false] rfl rfl (any_of HT_.out qK) (fun _ _ _ h => h) (Or.inl ⟨by rfl, ?_⟩) ?_ ?_
         rotate_left
         ·intro w'; go_simp; with_reducible rfl
         rotate_left
         ·simp only [Act.put, List.setIfInBounds_toArray, List.set_cons_zero, List.set_cons_succ, i64_w, i32_w]; rfl
         refine take_ (i := 17) (N := some 71) (v := ?_) (a' := ?_) #[true, true, true, true, true, true, true, true, true, true, true, true, true, true, true, true, true, true, false, false, false, false, false, false, false, false] rfl rfl (take_ofW HT_.out HW_.out qK) (fun _ _ _ h => h) (Or.inl ⟨by rfl, ?_⟩) hHeld ?_ ?_
         rotate_left
         ·rintro w' ⟨s0, s1, s2, s3, s4, s5, s6, s7, s8, s9⟩; go_simp; with_reducible rfl
         rotate_left
         ·simp only [Act.put, List.setIfInBounds_toArray, List.set_cons_zero, List.set_cons_succ, i64_w, i32_w]; rfl
         refine take_ (i := 18) (N := some 72) (v := ?_) (a' := ?_) #[true, true, true, true, true, true, true, true, true, true, true, true, true, true, true, true, true, true, true, false, false, false, false, false, false, false] rfl rfl (take_ofW HT_.out HW_.out qK) (fun _ _ _ h => h) (Or.inl ⟨by rfl, ?_⟩) hHeld ?_ ?_
         rotate_left
         ·rintro w' ⟨s0, s1, s2, s3, s4, s5, s6, s7, s8, s9⟩; go_simp; with_reducible rfl
         rotate_left
         ·simp only [Act.put, List.setIfInBounds_toArray, List.set_cons_zero, List.set_cons_succ, i64_w, i32_w]; rfl
         refine take_ (i := 20) (N := some 74) (v := ?_) (a' := ?_) #[true, true, true, true, true, true, true, true, true, true, true, true, true, true, true, true, true, true, true, false, true, false, false, false, false, false] rfl rfl (take_ofW HT_.out HW_.out qK) (fun _ _ _ h => h) (Or.inl ⟨by rfl, ?_⟩) hHeld ?_ ?_
         rotate_left
         ·rintro w' ⟨s0, s1, s2, s3, s4, s5, s6, s7, s8, s9⟩; go_simp; with_reducible rfl
         rotate_left
         ·simp only [Act.put, List.setIfInBounds_toArray, List.set_cons_zero, List.set_cons_succ, i64_w, i32_w]; rfl
         refine take_ (i := 21) (N := some 75) (v := ?_) (a' := ?_) #[true, true, true, true, true, true, true, true, true, true, true, true, true, true, true, true, true, true, true, false, true, true, false, false, false, false] rfl rfl (take_ofW HT_.out HW_.out qK) (fun _ _ _ h => h) (Or.inl ⟨by rfl, ?_⟩) hHeld ?_ ?_
         rotate_left
         ·rintro w' ⟨s0, s1, s2, s3, s4, s5, s6, s7, s8, s9⟩; go_simp; with_reducible rfl
         rotate_left
         ·simp only [Act.put, List.setIfInBounds_toArray, List.set_cons_zero, List.set_cons_succ, i64_w, i32_w]; rfl
         refine one_ (i := 19) (N := some 73) #[true, true, true, true, true, true, true, true, true, true, true, true, true, true, true, true, true, true, true, true, true, true, false, false, false, false] rfl rfl (one_of HT_.out qK) (by decide) (fun K hK => ?_)
         refine goes_ Try.func26 qK rfl #[.agg #[.slice A0_0 l0_0.length c0_0, .bool a0_1], .agg #[.slice A1_0 l1_0.length c1_0, .bool a1_1]] (by rfl) rfl rfl qG ?_
         with_reducible refine (frame_Same.calls _ _ l0_0 a0_1 _ _ l1_0 a1_1 t236 _ ?side1 ?side2 ?side3 ?side4 A34.out).mono ?_
         (case side1 => repeat (first | exact (Kd.C_below HR0_0.out HB.out) | (with_reducible refine Kd.C_alloc ?_ _) | (with_reducible refine Kd.C_drewN ?_ _) | (with_reducible refine Kd.C_drew ?_)))
         (case side2 => exact HC0_0.out)
         (case side3 => repeat (first | exact (Kd.C_below HR1_0.out HB.out) | (with_reducible refine Kd.C_alloc ?_ _) | (with_reducible refine Kd.C_drewN ?_ _) | (with_reducible refine Kd.C_drew ?_)))
         (case side4 => exact HC1_0.out)
         rintro e w65 ⟨rfl, hb⟩
         refine ⟨_, rfl, ?_⟩
         have n0_ := Aside0.mk (Kd.R_below (qR HO217) hb)
         have n1_ := Aside0.mk (Kd.V_below (by (with_reducible repeat (first | apply Kd.V_alloc | apply Kd.V_drewN | apply Kd.V_drew)); exact HO220.out) hb)
         have n2_ := Aside0.mk (Kd.R_below (qR HO224) hb)
         have n3_ := Aside0.mk (Kd.V_below (by (with_reducible repeat (first | apply Kd.V_alloc | apply Kd.V_drewN | apply Kd.V_drew)); exact HO228.out) hb)
         have n4_ := Aside0.mk (Kd.R_below (qR HO232) hb)
         have n5_ := Aside0.mk (blk_below (g := gb208) (o := .cells #[.slice A0_0 l0_0.length c0_0, .bool a0_1] 38 (0, 0)) (qW BK208) hb)
         have n6_ := Aside0.mk (blk_below (g := gb209) (o := .cells #[.slice A1_0 l1_0.length c1_0, .bool a1_1] 38 (0, 0)) (qW BK209) hb)
         have n7_ := Aside0.mk (blk_below (g := gb225) (o := .cells #[.slice Ao44 t218.length co44, .bool t221] 38 (0, 0)) (qW BK225) hb)
         have n8_ := Aside0.mk (blk_below (g := gb233) (o := .cells #[.slice Ao52 t226.length co52, .bool t229] 38 (0, 0)) (qW BK233) hb)
         have n9_ := Aside0.mk (below_step qC hb)
         clear HO217
         clear HO220
         clear HO224
         clear HO228
         clear HO232
         clear BK208
         clear BK209
         clear BK225
         clear BK233
         clear HB
         have HO217 := n0_
         have HO220 := n1_
         have HO224 := n2_
         have HO228 := n3_
         have HO232 := n4_
         have BK208 := n5_
         have BK209 := n6_
         have BK225 := n7_
         have BK233 := n8_
         have HB := n9_
         clear n0_ n1_ n2_ n3_ n4_ n5_ n6_ n7_ n8_ n9_
         (try clear hb)
         (try clear hb2)
         (try clear hk)
         (try clear hi)
         refine hK.out _ _ ⟨(blk_cell BK225.out 0).trans rfl, (blk_cell BK225.out 1).trans rfl, (blk_cell BK233.out 0).trans rfl, (blk_cell BK233.out 1).trans rfl, (blk_cell BK208.out 0).trans rfl, (blk_cell BK208.out 1).trans rfl, (blk_cell BK209.out 0).trans rfl, (blk_cell BK209.out 1).trans rfl, own_string (P := Try.prog) Try.underlying35 Try.underlying5 Try.underlying9 (Kd.own_of_R (by first | exact HO217.out | exact Kd.R_drewN HO217.out _)), Kd.C_string (P := Try.prog) (A := A0_0) (c := c0_0) Try.underlying35 Try.underlying5 Try.underlying9 (Kd.C_below HR0_0.out (by first | exact HB.out | exact pw_below_drewN HB.out _))⟩ (fun hHeld => ?_)
         clear hK K
         refine norm_ (a' := ?_) ?_ ?_
         rotate_left
         ·show Act.put _ (some 73) _ = _
          simp only [Act.put, List.setIfInBounds_toArray, List.set_cons_zero, List.set_cons_succ, i64_w, i32_w]
          rfl
         refine one_ (i := 22) (N := some 76) #[true, true, true, true, true, true, true, true, true, true, true, true, true, true, true, true, true, true, true, true, true, true, true, false, false, false] rfl rfl (one_of HT_.out qK) (by decide) (fun K hK => ?_)
         refine goes_ Try.func24 qK rfl #[.agg #[.slice A0_0 l0_0.length c0_0, .bool a0_1], .agg #[.slice A1_0 l1_0.length c1_0, .bool a1_1]] (by rfl) rfl rfl qG ?_
         with_reducible refine (ebbtideref21_Same.calls _ _ l0_0 a0_1 _ _ l1_0 a1_1 t237 _ ?side1 ?side2 ?side3 ?side4 A35.out).mono ?_
         (case side1 => repeat (first | exact (Kd.C_below HR0_0.out HB.out) | (with_reducible refine Kd.C_alloc ?_ _) | (with_reducible refine Kd.C_drewN ?_ _) | (with_reducible refine Kd.C_drew ?_)))
         (case side2 => exact HC0_0.out)
         (case side3 => repeat (first | exact (Kd.C_below HR1_0.out HB.out) | (with_reducible refine Kd.C_alloc ?_ _) | (with_reducible refine Kd.C_drewN ?_ _) | (with_reducible refine Kd.C_drew ?_)))
         (case side4 => exact HC1_0.out)
         rintro e w66 ⟨rfl, hb⟩
         refine ⟨_, rfl, ?_⟩
         have n0_ := Aside0.mk (Kd.R_below (qR HO217) hb)
         have n1_ := Aside0.mk (Kd.V_below (by (with_reducible repeat (first | apply Kd.V_alloc | apply Kd.V_drewN | apply Kd.V_drew)); exact HO220.out) hb)
         have n2_ := Aside0.mk (Kd.R_below (qR HO224) hb)
         have n3_ := Aside0.mk (Kd.V_below (by (with_reducible repeat (first | apply Kd.V_alloc | apply Kd.V_drewN | apply Kd.V_drew)); exact HO228.out) hb)
         have n4_ := Aside0.mk (Kd.R_below (qR HO232) hb)
         have n5_ := Aside0.mk (blk_below (g := gb208) (o := .cells #[.slice A0_0 l0_0.length c0_0, .bool a0_1] 38 (0, 0)) (qW BK208) hb)
         have n6_ := Aside0.mk (blk_below (g := gb209) (o := .cells #[.slice A1_0 l1_0.length c1_0, .bool a1_1] 38 (0, 0)) (qW BK209) hb)
         have n7_ := Aside0.mk (blk_below (g := gb225) (o := .cells #[.slice Ao44 t218.length co44, .bool t221] 38 (0, 0)) (qW BK225) hb)
         have n8_ := Aside0.mk (blk_below (g := gb233) (o := .cells #[.slice Ao52 t226.length co52, .bool t229] 38 (0, 0)) (qW BK233) hb)
         have n9_ := Aside0.mk (below_step qC hb)
         clear HO217
         clear HO220
         clear HO224
         clear HO228
         clear HO232
         clear BK208
         clear BK209
         clear BK225
         clear BK233
         clear HB
         have HO217 := n0_
         have HO220 := n1_
         have HO224 := n2_
         have HO228 := n3_
         have HO232 := n4_
         have BK208 := n5_
         have BK209 := n6_
         have BK225 := n7_
         have BK233 := n8_
         have HB := n9_
         clear n0_ n1_ n2_ n3_ n4_ n5_ n6_ n7_ n8_ n9_
         (try clear hb)
         (try clear hb2)
         (try clear hk)
         (try clear hi)
         refine hK.out _ _ ⟨(blk_cell BK225.out 0).trans rfl, (blk_cell BK225.out 1).trans rfl, (blk_cell BK233.out 0).trans rfl, (blk_cell BK233.out 1).trans rfl, (blk_cell BK208.out 0).trans rfl, (blk_cell BK208.out 1).trans rfl, (blk_cell BK209.out 0).trans rfl, (blk_cell BK209.out 1).trans rfl, own_string (P := Try.prog) Try.underlying35 Try.underlying5 Try.underlying9 (Kd.own_of_R (by first | exact HO217.out | exact Kd.R_drewN HO217.out _)), Kd.C_string (P := Try.prog) (A := A0_0) (c := c0_0) Try.underlying35 Try.underlying5 Try.underlying9 (Kd.C_below HR0_0.out (by first | exact HB.out | exact pw_below_drewN HB.out _))⟩ (fun hHeld => ?_)
         clear hK K
         refine norm_ (a' := ?_) ?_ ?_
         rotate_left
         ·show Act.put _ (some 76) _ = _
          simp only [Act.put, List.setIfInBounds_toArray, List.set_cons_zero, List.set_cons_succ, i64_w, i32_w]
          rfl
         refine pure_ (i := 23) (N := some 77) (v := ?_) (a' := ?_) #[true, true, true, true, true, true, true, true, true, true, true, true, true, true, true, true, true, true, true, true, true, true, true, true, false, false] rfl rfl (any_of HT_.out qK) (fun _ _ _ h => h) (Or.inl ⟨by rfl, ?_⟩) ?_ ?_
         rotate_left
         ·intro w'; go_simp; with_reducible rfl
         rotate_left
         ·simp only [Act.put, List.setIfInBounds_toArray, List.set_cons_zero, List.set_cons_succ, i64_w, i32_w]; rfl
         refine pure_ (i := 24) (N := some 78) (v := ?_) (a' := ?_) #[true, true, true, true, true, true, true, true, true, true, true, true, true, true, true, true, true, true, true, true, true, true, true, true, true, false] rfl rfl (any_of HT_.out qK) (fun _ _ _ h => h) (Or.inl ⟨by rfl, ?_⟩) ?_ ?_
         rotate_left
         ·intro w'; go_simp; with_reducible rfl
         rotate_left
         ·simp only [Act.put, List.setIfInBounds_toArray, List.set_cons_zero, List.set_cons_succ, i64_w, i32_w]; rfl
         refine pure_ (i := 25) (N := some 6) (v := ?_) (a' := ?_) #[true, true, true, true, true, true, true, true, true, true, true, true, true, true, true, true, true, true, true, true, true, true, true, true, true, true] rfl rfl (any_of HT_.out qK) (fun _ _ _ h => h) (Or.inl ⟨by rfl, ?_⟩) ?_ ?_
         rotate_left
         ·intro w'; go_simp; with_reducible rfl
         rotate_left
         ·simp only [Act.put, List.setIfInBounds_toArray, List.set_cons_zero, List.set_cons_succ, i64_w, i32_w]; rfl
         refine done_ (done_of HT_.out qK) ?_
         try go_wp2
         go_ret
         exact ⟨qE, qC⟩
        ·rw [if_neg c33] at H
         have c33b0 : ((strOfNums y215).toList == (strOfNums l0_0).toList) = false := beq_eq_false_iff_ne.mpr c33
         have c33b1 : ((strOfNums y215).toList != (strOfNums l0_0).toList) = true := bne_iff_ne.mpr c33
         exact absurd H (by simp)
       ·replace c32 := Bool.eq_false_iff.mpr c32
        subst c32
        have H1 : (none) = some r := by rw [if_neg (show ¬ (false = true) by decide)] at H; exact H
        clear H
        have H := H1
        clear H1
        exact absurd H (by simp)
      ·replace c30 := Bool.eq_false_iff.mpr c30
       subst c30
       have H1 : (none) = some r := by rw [if_neg (show ¬ (false = true) by decide)] at H; exact H
       clear H
       have H := H1
       clear H1
       exact absurd H (by simp)
     ·rw [if_neg c26] at H
      exact absurd H (by simp)
 ·replace c5 := Bool.eq_false_iff.mpr c5
  subst c5
  have H1 : (none) = some r := by rw [if_neg (show ¬ (false = true) by decide)] at H; exact H
  clear H
  have H := H1
  clear H1
  exact absurd H (by simp)

end Go.Proofs.Ytnmjnchbdlllmaa.PFr
