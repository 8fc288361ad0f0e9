-- PRINTED by print.py (a twelfth state) out of the translation. Not trusted: Lean checks it.
import Derived.Test.YtnmjnchbdlllmaaPFrx0
import Derived.Test.YtnmjnchbdlllmaaPFrx3
import Derived.Test.YtnmjnchbdlllmaaPFrx4
namespace Go.Proofs.Ytnmjnchbdlllmaa.PFr
open Go.RowKit Go.Proofs.YtnmjnchbdlllmaaW.PrintWords Go.Proofs.YtnmjnchbdlllmaaW.PrintLast Go.Proofs.YtnmjnchbdlllmaaW.PrintMore
attribute [local go_sem] max2_int min2_int max_two min_two max_three min_three max_four min_four   -- for this text's walks alone
set_option linter.unusedVariables false
set_option linter.unusedSimpArgs false

/-! ### ebbtidelaw21_FrameCounts: function 10 -/
def ebbtidelaw21_FrameCounts.l0 : Nat → List Int → Int → Int → List (S54) → Int → Option (Bool)
 | 0, _, _, _, _, _ => none
 | k + 1, x0, x3, x4, x5, x6 => if x6 < (x0.length : Int) then (if 0 ≤ x6 then (if (rd x0 x6) = 10 then (if x3 ≥ (x5.length : Int) then (none) else (if 0 ≤ x3 then (if x3 < (x5.length : Int) then (if (((rd_T54 x5 x3).f1) != (decide ((wrap64 (x6 - x4)) > 120))) = true then (none) else (if (rd_T54 x5 x3).f1 = true then (if ((rd_T54 x5 x3).f0).toList = ([] : List UInt8) then (ebbtidelaw21_FrameCounts.l0 k x0 (wrap64 (x3 + 1)) (wrap64 (x6 + 1)) x5 (wrap64 (x6 + 1))) else (none)) else (ebbtidelaw21_FrameCounts.l0 k x0 (wrap64 (x3 + 1)) (wrap64 (x6 + 1)) x5 (wrap64 (x6 + 1))))) else (none)) else (none))) else (ebbtidelaw21_FrameCounts.l0 k x0 x3 x4 x5 (wrap64 (x6 + 1)))) else (none)) else (some (x3 == (x5.length : Int)))
def ebbtidelaw21_FrameCounts.f (k : Nat) (l0 : List Int) : Option (Bool) := (ebbtidelaw21_alive.f).bind fun t308 => (if t308 = true then (if (l0.length : Int) > 2000 then (some true) else ((frame_Lines.f l0).bind fun t309 => (ebbtidelaw21_FrameCounts.l0 k l0 0 0 t309 0))) else (none))
theorem ebbtidelaw21_FrameCounts.mono_l : ∀ k, (∀ y0 y1 y2 y3 y4, LeO (ebbtidelaw21_FrameCounts.l0 k y0 y1 y2 y3 y4) (ebbtidelaw21_FrameCounts.l0 (k + 1) y0 y1 y2 y3 y4))
 | 0 => fun _ _ _ _ _ r h => by simp [ebbtidelaw21_FrameCounts.l0] at h
 | k + 1 => by
  have ih0 := ebbtidelaw21_FrameCounts.mono_l k
  ·intro y0 y1 y2 y3 y4
   unfold ebbtidelaw21_FrameCounts.l0
   repeat' first
   | (with_reducible exact ih0 _ _ _ _ _)
   | (with_reducible exact LeO.refl _)
   | (with_reducible exact LeO.none _)
   | (with_reducible refine LeO.ite ?_ ?_)
   | (with_reducible refine LeO.bind ?_ (fun _ => ?_))
   | exact ih0 _ _ _ _ _
   | exact LeO.none _
   | refine LeO.ite ?_ ?_
   | refine LeO.bind ?_ (fun _ => ?_)
theorem ebbtidelaw21_FrameCounts.mono : ∀ a0 k, LeO (ebbtidelaw21_FrameCounts.f k a0) (ebbtidelaw21_FrameCounts.f (k + 1) a0) := by
 intro a0 k
 have ih0 := ebbtidelaw21_FrameCounts.mono_l k
 unfold ebbtidelaw21_FrameCounts.f
 repeat' first
   | (with_reducible exact ih0 _ _ _ _ _)
   | (with_reducible exact LeO.refl _)
   | (with_reducible exact LeO.none _)
   | (with_reducible refine LeO.ite ?_ ?_)
   | (with_reducible refine LeO.bind ?_ (fun _ => ?_))
   | exact ih0 _ _ _ _ _
   | exact LeO.none _
   | refine LeO.ite ?_ ?_
   | refine LeO.bind ?_ (fun _ => ?_)
set_option maxHeartbeats 8000000 in
set_option maxRecDepth 100000 in
theorem ebbtidelaw21_FrameCounts.calls (k : Nat) (A0 : Option Addr) (c0 : Nat) (l0 : List Int) (r : Bool) (w : World) (hr0 : Kd.C (Kd.int .u8) w A0 l0.length l0) (hc0 : l0.length ≤ c0) (h : ebbtidelaw21_FrameCounts.f k l0 = some r) :
  Calls Try.prog 10 #[.slice A0 l0.length c0] w fun e w' => e = .returned (.bool r) ∧ Below w.heap.size w w' := by
 have HR0 := Aside0.mk hr0
 have HC0 := Aside0.mk hc0
 clear hr0 hc0
 have HB := Aside0.mk (Below.refl w.heap.size w)
 have H : ((ebbtidelaw21_alive.f).bind fun t308 => (if t308 = true then (if (l0.length : Int) > 2000 then (some true) else ((frame_Lines.f l0).bind fun t309 => (ebbtidelaw21_FrameCounts.l0 k l0 0 0 t309 0))) else (none))) = some r := h
 clear h
 replace H := Option.bind_eq_some_iff.mp H
 obtain ⟨t308, A20, H⟩ := H
 replace H : (if t308 = true then (if (l0.length : Int) > 2000 then (some true) else ((frame_Lines.f l0).bind fun t309 => (ebbtidelaw21_FrameCounts.l0 k l0 0 0 t309 0))) else (none)) = some r := H
 have A2 := Aside0.mk A20
 clear A20
 by_cases c3 : t308 = true
 ·subst c3
  have H1 : (if (l0.length : Int) > 2000 then (some true) else ((frame_Lines.f l0).bind fun t309 => (ebbtidelaw21_FrameCounts.l0 k l0 0 0 t309 0))) = some r := by rw [if_pos rfl] at H; exact H
  clear H
  have H := H1
  clear H1
  by_cases c4 : (l0.length : Int) > 2000
  ·rw [if_pos c4] at H
   have c4b0 : decide (2000 < (l0.length : Int)) = true := decide_eq_true c4
   have c4b1 : decide (2000 < l0.length) = true := decide_eq_true (by omega)
   clear c4
   obtain rfl := Option.some.inj H
   go_enter Try.func10, Try.ntmps10
   go_wp2_with (first | ((with_reducible refine gate_callee (f := 20) rfl ?_); refine goesL_ (some 7) rfl rfl Try.func20 qK rfl #[] rfl qG ?_; (with_reducible refine (ebbtidelaw21_alive.calls  true _ A2.out).mono ?_); rintro e w5 ⟨rfl, hb⟩; refine ⟨_, rfl, ?_⟩; have n0_ := Aside0.mk (below_step qB hb); clear HB; have HB := n0_; clear n0_; (try clear hb); (try clear hb2); (try clear hk); (try clear hi)))
   go_ret
   exact ⟨qE, qB⟩
  ·rw [if_neg c4] at H
   have c4b0 : decide (2000 < (l0.length : Int)) = false := decide_eq_false c4
   have c4b1 : decide (2000 < l0.length) = false := decide_eq_false (by omega)
   clear c4
   replace H := Option.bind_eq_some_iff.mp H
   obtain ⟨t309, A60, H⟩ := H
   replace H : (ebbtidelaw21_FrameCounts.l0 k l0 0 0 t309 0) = some r := H
   have A6 := Aside0.mk A60
   clear A60
   have H' := Aside0.mk H
   clear H
   go_enter Try.func10, Try.ntmps10
   go_wp2_with (first | ((with_reducible refine gate_callee (f := 20) rfl ?_); refine goesL_ (some 7) rfl rfl Try.func20 qK rfl #[] rfl qG ?_; (with_reducible refine (ebbtidelaw21_alive.calls  true _ A2.out).mono ?_); rintro e w7 ⟨rfl, hb⟩; refine ⟨_, rfl, ?_⟩; have n0_ := Aside0.mk (below_step qB hb); clear HB; have HB := n0_; clear n0_; (try clear hb); (try clear hb2); (try clear hk); (try clear hi)) | ((with_reducible refine gate_callee (f := 27) rfl ?_); refine goesL_ (some 13) rfl rfl Try.func27 qK rfl #[.slice A0 l0.length c0] rfl qG ?_; (with_reducible refine (frame_Lines.calls (fun k_ => k_ < w.heap.size) _ _ l0 t309 _ ?side1 A6.out).mono ?_); (case side1 => exact Kd.V_mk HC0.out (Kd.F_below (Kd.C_F (Kd.heap_int .u8) HR0.out) qB)); rintro e w8 ⟨v310, rfl, ho0, hb⟩; refine ⟨_, rfl, ?_⟩; have n0_ := Aside0.mk (Kd.R_lower (Kd.R_mono (ok' := fun k_ => True) ho0 (fun _ hk_ => trivial)) (below_size qB)); have n1_ := Aside0.mk (below_step qB hb); clear HB; have HO311 := n0_; have HB := n1_; clear n0_ n1_; (try clear hb); (try clear hb2); (try clear hk); (try clear hi); (try clear ho0)))
   go_loopg [3, 4, 6] k (fun kq v3 v4 v6 w' => ∃ (x3_1 : Int) (x4_1 : Int) (x6_1 : Int), v3 = .int .i64 x3_1 ∧ v4 = .int .i64 x4_1 ∧ v6 = .int .i64 x6_1 ∧ Aside0 (ebbtidelaw21_FrameCounts.l0 kq l0 x3_1 x4_1 t309 x6_1 = some r) ∧ Aside0 (kq ≤ k) ∧ Aside0 (Kd.R k54 54 w' w.heap.size (fun _ => True) v310 t309) ∧ Aside0 (Below w.heap.size w w'))
   case atStart => exact ⟨(0), (0), (0), qS, qS, qS, H', ⟨Nat.le_refl _⟩, ⟨qR HO311⟩, ⟨qB⟩⟩
   case round =>
    clear H'
    try clear c1
    try clear c2
    try clear p2
    try clear c3
    try clear c4
    try clear c4b0
    try clear c4b1
    obtain ⟨x3_1, x4_1, x6_1, rfl, rfl, rfl, HA, HK1, HO_5, HB⟩ := hrel
    cases gk with
    | zero => exact absurd HA.out (by simp [ebbtidelaw21_FrameCounts.l0])
    | succ k1 =>
     have H := HA.out
     clear HA
     simp only [ebbtidelaw21_FrameCounts.l0] at H
     by_cases c9 : x6_1 < (l0.length : Int)
     ·rw [if_pos c9] at H
      have c9b0 : decide (x6_1 < (l0.length : Int)) = true := decide_eq_true c9
      clear c9
      by_cases c10 : 0 ≤ x6_1
      ·rw [if_pos c10] at H
       have c10b0 : decide (0 ≤ x6_1) = true := decide_eq_true c10
       clear c10
       by_cases c11 : (rd l0 x6_1) = 10
       ·rw [if_pos c11] at H
        have c11b0 : ((rd l0 x6_1) == 10) = true := beq_iff_eq.mpr c11
        have c11b1 : ((rd l0 x6_1) != 10) = false := bne_eq_false_iff_eq.mpr c11
        clear c11
        by_cases c12 : x3_1 ≥ (t309.length : Int)
        ·rw [if_pos c12] at H
         exact absurd H (by simp)
        ·rw [if_neg c12] at H
         have c12b0 : decide ((t309.length : Int) ≤ x3_1) = false := decide_eq_false c12
         clear c12
         by_cases c13 : 0 ≤ x3_1
         ·rw [if_pos c13] at H
          have c13b0 : decide (0 ≤ x3_1) = true := decide_eq_true c13
          clear c13
          by_cases c14 : x3_1 < (t309.length : Int)
          ·rw [if_pos c14] at H
           have c14b0 : decide (x3_1 < (t309.length : Int)) = true := decide_eq_true c14
           clear c14
           by_cases c15 : (((rd_T54 t309 x3_1).f1) != (decide ((wrap64 (x6_1 - x4_1)) > 120))) = true
           ·rw [if_pos c15] at H
            exact absurd H (by simp)
           ·rw [if_neg c15] at H
            have c15b0 : (((rd_T54 t309 x3_1).f1) != (decide ((wrap64 (x6_1 - x4_1)) > 120))) = false := by simpa using c15
            (try (have c15b1 : decide (((rd_T54 t309 x3_1).f1) = (decide ((wrap64 (x6_1 - x4_1)) > 120))) = true := by simpa using c15))
            (try (have c15b2 : (((rd_T54 t309 x3_1).f1) == (decide ((wrap64 (x6_1 - x4_1)) > 120))) = true := by simpa using c15))
            clear c15
            obtain ⟨bq16, hbq16⟩ : ∃ b_ : Bool, b_ = ((rd_T54 t309 x3_1).f1) := ⟨_, rfl⟩
            replace H : (if bq16 = true then (if ((rd_T54 t309 x3_1).f0).toList = ([] : List UInt8) then (ebbtidelaw21_FrameCounts.l0 k1 l0 (wrap64 (x3_1 + 1)) (wrap64 (x6_1 + 1)) t309 (wrap64 (x6_1 + 1))) else (none)) else (ebbtidelaw21_FrameCounts.l0 k1 l0 (wrap64 (x3_1 + 1)) (wrap64 (x6_1 + 1)) t309 (wrap64 (x6_1 + 1)))) = some r := by rw [← hbq16] at H; exact H
            have Nbq16 := Aside0.mk hbq16
            clear hbq16
            by_cases c17 : bq16 = true
            ·subst c17
             have c17x := c15b0
             rw [← Nbq16.out] at c17x
             have c17y : decide (120 < (wrap64 (x6_1 - x4_1))) = true := by simpa using c17x
             clear c17x
             have H1 : (if ((rd_T54 t309 x3_1).f0).toList = ([] : List UInt8) then (ebbtidelaw21_FrameCounts.l0 k1 l0 (wrap64 (x3_1 + 1)) (wrap64 (x6_1 + 1)) t309 (wrap64 (x6_1 + 1))) else (none)) = some r := by rw [if_pos rfl] at H; exact H
             clear H
             have H := H1
             clear H1
             by_cases c18 : ((rd_T54 t309 x3_1).f0).toList = ([] : List UInt8)
             ·rw [if_pos c18] at H
              have c18b0 : (((rd_T54 t309 x3_1).f0).toList == ([] : List UInt8)) = true := beq_iff_eq.mpr c18
              have c18b1 : (((rd_T54 t309 x3_1).f0).toList != ([] : List UInt8)) = false := bne_eq_false_iff_eq.mpr c18
              clear c18
              have H' := Aside0.mk H
              clear H
              have p312 : 0 ≤ (x6_1 : Int) := of_decide_eq_true qA
              have q312 : x6_1 < (l0.length : Int) := of_decide_eq_true qA
              obtain ⟨ad312, e312, hx312_0⟩ := Kd.at_int HR0.out x6_1 p312 q312
              cases e312
              replace hx312_0 := (HB.out.cell (World.block_lt_of_cell? w _ hx312_0)).trans hx312_0
              replace p312 := eq_true p312
              replace q312 := eq_true q312
              obtain ⟨Ao19, co19, eo19⟩ := Kd.R_slice HO_5.out
              subst eo19
              have p313 : 0 ≤ (x3_1 : Int) := of_decide_eq_true qA
              have q313 : x3_1 < (t309.length : Int) := of_decide_eq_true qA
              obtain ⟨ad313, e313, hx313_0, hx313_1⟩ := at_T54 (Kd.R_reads' HO_5.out).2.2 x3_1 p313 q313
              (try rw [← Nbq16.out] at hx313_1)
              cases e313
              replace p313 := eq_true p313
              replace q313 := eq_true q313
              have p314 : 0 ≤ (x3_1 : Int) := of_decide_eq_true qA
              have q314 : x3_1 < (t309.length : Int) := of_decide_eq_true qA
              obtain ⟨ad314, e314, hx314_0, hx314_1⟩ := at_T54 (Kd.R_reads' HO_5.out).2.2 x3_1 p314 q314
              (try rw [← Nbq16.out] at hx314_1)
              obtain rfl : ad313 = ad314 := (by injection e314)
              replace p314 := eq_true p314
              replace q314 := eq_true q314
              have p315 : 0 ≤ (x3_1 : Int) := of_decide_eq_true qA
              have q315 : x3_1 < (t309.length : Int) := of_decide_eq_true qA
              obtain ⟨ad315, e315, hx315_0, hx315_1⟩ := at_T54 (Kd.R_reads' HO_5.out).2.2 x3_1 p315 q315
              (try rw [← Nbq16.out] at hx315_1)
              obtain rfl : ad313 = ad315 := (by injection e315)
              replace p315 := eq_true p315
              replace q315 := eq_true q315
              go_wp2
              go_roundg k1
              case measure => have := HK1.out; omega
              case rel => exact ⟨(wrap64 (x3_1 + 1)), (wrap64 (x6_1 + 1)), (wrap64 (x6_1 + 1)), qS, qS, qS, H', ⟨by have := HK1.out; omega⟩, ⟨qR HO_5⟩, ⟨qB⟩⟩
             ·rw [if_neg c18] at H
              exact absurd H (by simp)
            ·replace c17 := Bool.eq_false_iff.mpr c17
             subst c17
             have c17x := c15b0
             rw [← Nbq16.out] at c17x
             have c17y : decide (120 < (wrap64 (x6_1 - x4_1))) = false := by simpa using c17x
             clear c17x
             have H1 : (ebbtidelaw21_FrameCounts.l0 k1 l0 (wrap64 (x3_1 + 1)) (wrap64 (x6_1 + 1)) t309 (wrap64 (x6_1 + 1))) = some r := by rw [if_neg (show ¬ (false = true) by decide)] at H; exact H
             clear H
             have H := H1
             clear H1
             have H' := Aside0.mk H
             clear H
             have p312 : 0 ≤ (x6_1 : Int) := of_decide_eq_true qA
             have q312 : x6_1 < (l0.length : Int) := of_decide_eq_true qA
             obtain ⟨ad312, e312, hx312_0⟩ := Kd.at_int HR0.out x6_1 p312 q312
             cases e312
             replace hx312_0 := (HB.out.cell (World.block_lt_of_cell? w _ hx312_0)).trans hx312_0
             replace p312 := eq_true p312
             replace q312 := eq_true q312
             obtain ⟨Ao20, co20, eo20⟩ := Kd.R_slice HO_5.out
             subst eo20
             have p313 : 0 ≤ (x3_1 : Int) := of_decide_eq_true qA
             have q313 : x3_1 < (t309.length : Int) := of_decide_eq_true qA
             obtain ⟨ad313, e313, hx313_0, hx313_1⟩ := at_T54 (Kd.R_reads' HO_5.out).2.2 x3_1 p313 q313
             (try rw [← Nbq16.out] at hx313_1)
             cases e313
             replace p313 := eq_true p313
             replace q313 := eq_true q313
             have p314 : 0 ≤ (x3_1 : Int) := of_decide_eq_true qA
             have q314 : x3_1 < (t309.length : Int) := of_decide_eq_true qA
             obtain ⟨ad314, e314, hx314_0, hx314_1⟩ := at_T54 (Kd.R_reads' HO_5.out).2.2 x3_1 p314 q314
             (try rw [← Nbq16.out] at hx314_1)
             obtain rfl : ad313 = ad314 := (by injection e314)
             replace p314 := eq_true p314
             replace q314 := eq_true q314
             go_wp2
             go_roundg k1
             case measure => have := HK1.out; omega
             case rel => exact ⟨(wrap64 (x3_1 + 1)), (wrap64 (x6_1 + 1)), (wrap64 (x6_1 + 1)), qS, qS, qS, H', ⟨by have := HK1.out; omega⟩, ⟨qR HO_5⟩, ⟨qB⟩⟩
          ·rw [if_neg c14] at H
           exact absurd H (by simp)
         ·rw [if_neg c13] at H
          exact absurd H (by simp)
       ·rw [if_neg c11] at H
        have c11b0 : ((rd l0 x6_1) == 10) = false := beq_eq_false_iff_ne.mpr c11
        have c11b1 : ((rd l0 x6_1) != 10) = true := bne_iff_ne.mpr c11
        have H' := Aside0.mk H
        clear H
        have p312 : 0 ≤ (x6_1 : Int) := of_decide_eq_true qA
        have q312 : x6_1 < (l0.length : Int) := of_decide_eq_true qA
        obtain ⟨ad312, e312, hx312_0⟩ := Kd.at_int HR0.out x6_1 p312 q312
        cases e312
        replace hx312_0 := (HB.out.cell (World.block_lt_of_cell? w _ hx312_0)).trans hx312_0
        replace p312 := eq_true p312
        replace q312 := eq_true q312
        go_wp2
        go_roundg k1
        case measure => have := HK1.out; omega
        case rel => exact ⟨(x3_1), (x4_1), (wrap64 (x6_1 + 1)), qS, qS, qS, H', ⟨by have := HK1.out; omega⟩, ⟨qR HO_5⟩, ⟨qB⟩⟩
      ·rw [if_neg c10] at H
       exact absurd H (by simp)
     ·rw [if_neg c9] at H
      have c9b0 : decide (x6_1 < (l0.length : Int)) = false := decide_eq_false c9
      clear c9
      obtain rfl := Option.some.inj H
      obtain ⟨Ao21, co21, eo21⟩ := Kd.R_slice HO_5.out
      subst eo21
      go_wp2
      go_ret
      exact ⟨qE, qB⟩
 ·replace c3 := Bool.eq_false_iff.mpr c3
  subst c3
  have H1 : (none) = some r := by rw [if_neg (show ¬ (false = true) by decide)] at H; exact H
  clear H
  have H := H1
  clear H1
  exact absurd H (by simp)

end Go.Proofs.Ytnmjnchbdlllmaa.PFr
