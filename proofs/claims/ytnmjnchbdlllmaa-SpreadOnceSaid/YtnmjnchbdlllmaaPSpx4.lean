-- PRINTED by print.py (a twelfth state) out of the translation. Not trusted: Lean checks it.
import Derived.Test.YtnmjnchbdlllmaaPSpx0
import Derived.Test.YtnmjnchbdlllmaaPSpx1
namespace Go.Proofs.Ytnmjnchbdlllmaa.PSp
open Go.RowKit Go.Proofs.YtnmjnchbdlllmaaW.PrintWords Go.Proofs.YtnmjnchbdlllmaaW.PrintLast Go.Proofs.YtnmjnchbdlllmaaW.PrintMore
attribute [local go_sem] max2_int min2_int max_two min_two max_three min_three max_four min_four   -- for this text's walks alone
set_option linter.unusedVariables false
set_option linter.unusedSimpArgs false

/-! ### ebbtidelaw12_SpreadGrows: function 6 -/
def ebbtidelaw12_SpreadGrows.f (k : Nat) (a0 : ByteArray) (a1 : Int) : Option (Bool) := (ebbtidelaw12_alive.f k).bind fun t174 => (if t174 = true then (if (a0.size : Int) > 2000 then (some true) else ((spread_Hash.f k a0).bind fun t175 => ((some (([a1] : List Int) : List Int)).bind fun y176 => (if a0.size + (strOfNums y176).size ≤ 9223372036854775807 then ((spread_Hash.f k (a0 ++ (strOfNums y176))).bind fun t179 => (some ((IntKind.u64.wrap (t179)) == (Int.tmod (IntKind.u64.wrap ((Go.bits .xor .u64 (IntKind.u64.wrap (t175)) (IntKind.u64.wrap (a1))) * 16777619)) 4294967296)))) else (none))))) else (some false))
theorem ebbtidelaw12_SpreadGrows.mono : ∀ a0 a1 k, LeO (ebbtidelaw12_SpreadGrows.f k a0 a1) (ebbtidelaw12_SpreadGrows.f (k + 1) a0 a1) := by
  intro a0 a1 k
  unfold ebbtidelaw12_SpreadGrows.f
  repeat' first
      | (with_reducible exact ebbtidelaw12_alive.mono _)
      | (with_reducible exact spread_Hash.mono _ _)
      | (with_reducible exact LeO.refl _)
      | (with_reducible exact LeO.none _)
      | (with_reducible refine LeO.ite ?_ ?_)
      | (with_reducible refine LeO.bind ?_ (fun _ => ?_))
      | exact ebbtidelaw12_alive.mono _
      | exact spread_Hash.mono _ _
      | exact LeO.none _
      | refine LeO.ite ?_ ?_
      | refine LeO.bind ?_ (fun _ => ?_)
set_option maxHeartbeats 8000000 in
set_option maxRecDepth 100000 in
theorem ebbtidelaw12_SpreadGrows.calls (k : Nat) (a0 : ByteArray) (a1 : Int) (r : Bool) (w : World) (h : ebbtidelaw12_SpreadGrows.f k a0 a1 = some r) :
    Calls Try.prog 6 #[.string a0, .int .u8 a1] w fun e w' => e = .returned (.bool r) ∧ Below w.heap.size w w' := by
  have HB := Aside0.mk (Below.refl w.heap.size w)
  have H : ((ebbtidelaw12_alive.f k).bind fun t174 => (if t174 = true then (if (a0.size : Int) > 2000 then (some true) else ((spread_Hash.f k a0).bind fun t175 => ((some (([a1] : List Int) : List Int)).bind fun y176 => (if a0.size + (strOfNums y176).size ≤ 9223372036854775807 then ((spread_Hash.f k (a0 ++ (strOfNums y176))).bind fun t179 => (some ((IntKind.u64.wrap (t179)) == (Int.tmod (IntKind.u64.wrap ((Go.bits .xor .u64 (IntKind.u64.wrap (t175)) (IntKind.u64.wrap (a1))) * 16777619)) 4294967296)))) else (none))))) else (some false))) = some r := h
  clear h
  replace H := Option.bind_eq_some_iff.mp H
  obtain ⟨t174, A30, H⟩ := H
  replace H : (if t174 = true then (if (a0.size : Int) > 2000 then (some true) else ((spread_Hash.f k a0).bind fun t175 => ((some (([a1] : List Int) : List Int)).bind fun y176 => (if a0.size + (strOfNums y176).size ≤ 9223372036854775807 then ((spread_Hash.f k (a0 ++ (strOfNums y176))).bind fun t179 => (some ((IntKind.u64.wrap (t179)) == (Int.tmod (IntKind.u64.wrap ((Go.bits .xor .u64 (IntKind.u64.wrap (t175)) (IntKind.u64.wrap (a1))) * 16777619)) 4294967296)))) else (none))))) else (some false)) = some r := H
  have A3 := Aside0.mk A30
  clear A30
  by_cases c4 : t174 = true
  · subst c4
    have H1 : (if (a0.size : Int) > 2000 then (some true) else ((spread_Hash.f k a0).bind fun t175 => ((some (([a1] : List Int) : List Int)).bind fun y176 => (if a0.size + (strOfNums y176).size ≤ 9223372036854775807 then ((spread_Hash.f k (a0 ++ (strOfNums y176))).bind fun t179 => (some ((IntKind.u64.wrap (t179)) == (Int.tmod (IntKind.u64.wrap ((Go.bits .xor .u64 (IntKind.u64.wrap (t175)) (IntKind.u64.wrap (a1))) * 16777619)) 4294967296)))) else (none))))) = some r := by rw [if_pos rfl] at H; exact H
    clear H
    have H := H1
    clear H1
    by_cases c5 : (a0.size : Int) > 2000
    · rw [if_pos c5] at H
      have c5b0 : decide (2000 < (a0.size : Int)) = true := decide_eq_true c5
      have c5b1 : decide (2000 < a0.size) = true := decide_eq_true (by omega)
      clear c5
      obtain rfl := Option.some.inj H
      go_enter Try.func6, Try.ntmps6
      go_wp2_with (first | ((with_reducible refine gate_callee (f := 11) rfl ?_); refine goesL_ (some 6) rfl rfl Try.func11 (by kernel_rfl) rfl #[] rfl (by (try simp only [List.map_toArray, List.map_cons, List.map_nil]); first | done | rfl | (simp only [List.length_drop, List.length_take]; rfl)) ?_; (with_reducible refine (ebbtidelaw12_alive.calls k  true _ A3.out).mono ?_); rintro e w6 ⟨rfl, hb⟩; refine ⟨_, rfl, ?_⟩; have n0_ := Aside0.mk (below_step (by repeat (first | (with_reducible first | exact HB.out | apply below_alloc | apply pw_below_drewN | apply below_drew1) | exact HB.out)) hb); clear HB; have HB := n0_; clear n0_; (try clear hb); (try clear hb2); (try clear hk); (try clear hi)))
      go_ret
      exact ⟨by first | rfl | (simp [errW_none, errW_some] <;> rfl) | (simp [*, errW_none, errW_some] <;> rfl), by repeat (first | (with_reducible first | exact HB.out | apply below_alloc | apply pw_below_drewN | apply below_drew1) | exact HB.out)⟩
    · rw [if_neg c5] at H
      have c5b0 : decide (2000 < (a0.size : Int)) = false := decide_eq_false c5
      have c5b1 : decide (2000 < a0.size) = false := decide_eq_false (by omega)
      clear c5
      replace H := Option.bind_eq_some_iff.mp H
      obtain ⟨t175, A70, H⟩ := H
      replace H : ((some (([a1] : List Int) : List Int)).bind fun y176 => (if a0.size + (strOfNums y176).size ≤ 9223372036854775807 then ((spread_Hash.f k (a0 ++ (strOfNums y176))).bind fun t179 => (some ((IntKind.u64.wrap (t179)) == (Int.tmod (IntKind.u64.wrap ((Go.bits .xor .u64 (IntKind.u64.wrap (t175)) (IntKind.u64.wrap (a1))) * 16777619)) 4294967296)))) else (none))) = some r := H
      have A7 := Aside0.mk A70
      clear A70
      obtain ⟨y176, hy176⟩ : ∃ y_ : List Int, y_ = (([a1] : List Int)) := ⟨_, rfl⟩
      replace H : (if a0.size + (strOfNums y176).size ≤ 9223372036854775807 then ((spread_Hash.f k (a0 ++ (strOfNums y176))).bind fun t179 => (some ((IntKind.u64.wrap (t179)) == (Int.tmod (IntKind.u64.wrap ((Go.bits .xor .u64 (IntKind.u64.wrap (t175)) (IntKind.u64.wrap (a1))) * 16777619)) 4294967296)))) else (none)) = some r := by first | (rw [hy176]; with_reducible exact H) | (have H2_ := (Option.bind_some _ _).symm.trans H; rw [hy176]; with_reducible exact H2_) | (have H2_ := (Option.bind_some _ _).symm.trans H; with_reducible exact H2_) | with_reducible exact H | (rw [hy176]; exact H) | exact H
      have Ny176 := Aside0.mk hy176
      clear hy176
      by_cases c8 : a0.size + (strOfNums y176).size ≤ 9223372036854775807
      · rw [if_pos c8] at H
        have c8b0 := eq_true c8
        have c8b1 : decide (a0.size + (strOfNums y176).size ≤ 9223372036854775807) = true := decide_eq_true c8
        try have c8b2 : (9223372036854775807 < a0.size + (strOfNums y176).size) = False := eq_false (Nat.not_lt.2 c8)
        replace H := Option.bind_eq_some_iff.mp H
        obtain ⟨t179, A90, H⟩ := H
        replace H : (some ((IntKind.u64.wrap (t179)) == (Int.tmod (IntKind.u64.wrap ((Go.bits .xor .u64 (IntKind.u64.wrap (t175)) (IntKind.u64.wrap (a1))) * 16777619)) 4294967296))) = some r := H
        have A9 := Aside0.mk A90
        clear A90
        obtain rfl := Option.some.inj H
        go_enter Try.func6, Try.ntmps6
        go_wp2_with (first | ((with_reducible refine gate_callee (f := 11) rfl ?_); refine goesL_ (some 6) rfl rfl Try.func11 (by kernel_rfl) rfl #[] rfl (by (try simp only [List.map_toArray, List.map_cons, List.map_nil]); first | done | rfl | (simp only [List.length_drop, List.length_take]; rfl)) ?_; (with_reducible refine (ebbtidelaw12_alive.calls k  true _ A3.out).mono ?_); rintro e w10 ⟨rfl, hb⟩; refine ⟨_, rfl, ?_⟩; have n0_ := Aside0.mk (below_step (by repeat (first | (with_reducible first | exact HB.out | apply below_alloc | apply pw_below_drewN | apply below_drew1) | exact HB.out)) hb); clear HB; have HB := n0_; clear n0_; (try clear hb); (try clear hb2); (try clear hk); (try clear hi)) | ((with_reducible refine gate_callee (f := 13) rfl ?_); refine goesL_ (some 12) rfl rfl Try.func13 (by kernel_rfl) rfl #[.string a0] rfl (by (try simp only [List.map_toArray, List.map_cons, List.map_nil]); first | done | rfl | (simp only [List.length_drop, List.length_take]; rfl)) ?_; (with_reducible refine (spread_Hash.calls k a0 t175 _ A7.out).mono ?_); rintro e w' ⟨rfl, ⟨nd, rfl⟩⟩; refine ⟨_, rfl, ?_⟩) | ((with_reducible refine gate_dst (N := 19) rfl ?_); refine Kd.R_lit (Kd.int .u8) _ 5 ?hg (N := 19) ?hd (xs := ([a1] : List Int)) (inner := [.int .u8 a1]) (ok := fun _ => True) (okp := fun _ => True) ?hr ?hp (fun _ hk => hk) trivial (Below.refl _ _) (Nat.le_refl _) (by simp) ?_; (case hd => rfl); (case hg => rfl); (case hr => first | (go_simp; done) | (go_simp; rfl)); (case hp => exact (Reps.one (show Kd.M (Kd.int .u8) _ _ _ a1 [.int .u8 a1] from rfl) (Reps.none _ _))); intro v177 w11 ho12 hb hg_ hnew_; clear hg_ hnew_; (first | rw [← Ny176.out] at ho12 | (simp only [Int.reduceToNat] at ho12; rw [← Ny176.out] at ho12)); have n0_ := Aside0.mk (Kd.R_lower ho12 (below_size (by repeat (first | (with_reducible first | exact HB.out | apply below_alloc | apply pw_below_drewN | apply below_drew1) | exact HB.out)))); have n1_ := Aside0.mk (below_step (by repeat (first | (with_reducible first | exact HB.out | apply below_alloc | apply pw_below_drewN | apply below_drew1) | exact HB.out)) hb); clear HB; have HO178 := n0_; have HB := n1_; clear n0_ n1_; clear hb ho12; have hcv13 := own_string (P := Try.prog) Try.underlying35 Try.underlying5 Try.underlying9 (Kd.own_of_R HO178.out)) | ((with_reducible refine gate_callee (f := 13) rfl ?_); refine goesL_ (some 22) rfl rfl Try.func13 (by kernel_rfl) rfl #[.string (a0 ++ (strOfNums y176))] rfl (by (try simp only [List.map_toArray, List.map_cons, List.map_nil]); first | done | rfl | (simp only [List.length_drop, List.length_take]; rfl)) ?_; (with_reducible refine (spread_Hash.calls k (a0 ++ (strOfNums y176)) t179 _ A9.out).mono ?_); rintro e w' ⟨rfl, ⟨nd, rfl⟩⟩; refine ⟨_, rfl, ?_⟩))
        go_ret
        exact ⟨by first | rfl | (simp [errW_none, errW_some] <;> rfl) | (simp [*, errW_none, errW_some] <;> rfl), by repeat (first | (with_reducible first | exact HB.out | apply below_alloc | apply pw_below_drewN | apply below_drew1) | exact HB.out)⟩
      · rw [if_neg c8] at H
        exact absurd H (by simp)
  · replace c4 := Bool.eq_false_iff.mpr c4
    subst c4
    have H1 : (some false) = some r := by rw [if_neg (show ¬ (false = true) by decide)] at H; exact H
    clear H
    have H := H1
    clear H1
    obtain rfl := Option.some.inj H
    go_enter Try.func6, Try.ntmps6
    go_wp2_with (first | ((with_reducible refine gate_callee (f := 11) rfl ?_); refine goesL_ (some 6) rfl rfl Try.func11 (by kernel_rfl) rfl #[] rfl (by (try simp only [List.map_toArray, List.map_cons, List.map_nil]); first | done | rfl | (simp only [List.length_drop, List.length_take]; rfl)) ?_; (with_reducible refine (ebbtidelaw12_alive.calls k  false _ A3.out).mono ?_); rintro e w14 ⟨rfl, hb⟩; refine ⟨_, rfl, ?_⟩; have n0_ := Aside0.mk (below_step (by repeat (first | (with_reducible first | exact HB.out | apply below_alloc | apply pw_below_drewN | apply below_drew1) | exact HB.out)) hb); clear HB; have HB := n0_; clear n0_; (try clear hb); (try clear hb2); (try clear hk); (try clear hi)))
    go_ret
    exact ⟨by first | rfl | (simp [errW_none, errW_some] <;> rfl) | (simp [*, errW_none, errW_some] <;> rfl), by repeat (first | (with_reducible first | exact HB.out | apply below_alloc | apply pw_below_drewN | apply below_drew1) | exact HB.out)⟩

end Go.Proofs.Ytnmjnchbdlllmaa.PSp
