-- PRINTED by print.py (a twelfth state) out of the translation. Not trusted: Lean checks it.
import Derived.Test.YtnmjnchbdlllmaaPFrx0
import Derived.Test.YtnmjnchbdlllmaaPFrx3
import Derived.Test.YtnmjnchbdlllmaaPFrx4
import Derived.Test.YtnmjnchbdlllmaaPFrx5
import Derived.Test.YtnmjnchbdlllmaaPFrx6
namespace Go.Proofs.Ytnmjnchbdlllmaa.PFr
open Go.RowKit Go.Proofs.YtnmjnchbdlllmaaW.PrintWords Go.Proofs.YtnmjnchbdlllmaaW.PrintLast Go.Proofs.YtnmjnchbdlllmaaW.PrintMore
attribute [local go_sem] max2_int min2_int max_two min_two max_three min_three max_four min_four   -- for this text's walks alone
set_option linter.unusedVariables false
set_option linter.unusedSimpArgs false

/-! ### ebbtidelaw21_FrameCuts: function 9 -/
mutual
def ebbtidelaw21_FrameCuts.j0 : Nat → List Int → List Int → Bool → Option (Bool)
 | 0, _, _, _ => none
 | k + 1, x0, x1, x25 => if x25 = true then (some true) else ((frame_Push.f ([] : List Int) false (([x0] : List (List Int)))).bind fun bt258 => (ebbtidelaw21_FrameCuts.l0 k x1 bt258.2.2 ([] : List (S54)) x0 0 bt258.1 bt258.2.1 ([] : List Int) false))
def ebbtidelaw21_FrameCuts.l0 : Nat → List Int → List (S54) → List (S54) → List Int → Int → List Int → Bool → List Int → Bool → Option (Bool)
 | 0, _, _, _, _, _, _, _, _, _ => none
 | k + 1, x1, x6, x8, x9, x10, x266000, x266001, x267000, x267001 => if x10 < (x1.length : Int) then (if 0 ≤ x10 then (if (wrap64 ((x9.length : Int) + 1)) = 0 then (none) else (if 0 ≤ (Int.tmod (wrap64 (rd x1 x10)) (wrap64 ((x9.length : Int) + 1))) then (if (Int.tmod (wrap64 (rd x1 x10)) (wrap64 ((x9.length : Int) + 1))) ≤ (x9.length : Int) then ((frame_Push.f x267000 x267001 (([(x9.take ((Int.tmod (wrap64 (rd x1 x10)) (wrap64 ((x9.length : Int) + 1))) : Int).toNat)] : List (List Int)))).bind fun bt276 => (if x8.length + bt276.2.2.length < 5864062014805 then (ebbtidelaw21_FrameCuts.l0 k x1 x6 (x8 ++ bt276.2.2) (x9.drop ((Int.tmod (wrap64 (rd x1 x10)) (wrap64 ((x9.length : Int) + 1))) : Int).toNat) (wrap64 (x10 + 1)) x266000 x266001 bt276.1 bt276.2.1) else (none))) else (none)) else (none))) else (none)) else ((frame_Push.f x267000 x267001 (([x9] : List (List Int)))).bind fun bt295 => (if x8.length + bt295.2.2.length < 5864062014805 then ((ebbtideref21_Same.f x266000 x266001 bt295.1 bt295.2.1).bind fun t306 => (if t306 = true then ((ebbtideref21_Inputs.f k x6 (x8 ++ bt295.2.2)).bind fun t307 => (if t307 = true then (some (decide ((x266000.length : Int) ≤ 120))) else (none))) else (none))) else (none)))
end
def ebbtidelaw21_FrameCuts.f (k : Nat) (l0 : List Int) (l1 : List Int) : Option (Bool) := (ebbtidelaw21_alive.f).bind fun t254 => (if t254 = true then (if (l0.length : Int) > 2000 then (ebbtidelaw21_FrameCuts.j0 k l0 l1 true) else (ebbtidelaw21_FrameCuts.j0 k l0 l1 (decide ((l1.length : Int) > 50)))) else (none))
theorem ebbtidelaw21_FrameCuts.mono_l : ∀ k, (∀ y0 y1 y2, LeO (ebbtidelaw21_FrameCuts.j0 k y0 y1 y2) (ebbtidelaw21_FrameCuts.j0 (k + 1) y0 y1 y2)) ∧ (∀ y0 y1 y2 y3 y4 y5 y6 y7 y8, LeO (ebbtidelaw21_FrameCuts.l0 k y0 y1 y2 y3 y4 y5 y6 y7 y8) (ebbtidelaw21_FrameCuts.l0 (k + 1) y0 y1 y2 y3 y4 y5 y6 y7 y8))
 | 0 => ⟨fun _ _ _ r h => by simp [ebbtidelaw21_FrameCuts.j0] at h, fun _ _ _ _ _ _ _ _ _ r h => by simp [ebbtidelaw21_FrameCuts.l0] at h⟩
 | k + 1 => by
  obtain ⟨ih0, ih1⟩ := ebbtidelaw21_FrameCuts.mono_l k
  refine ⟨?_, ?_⟩
  ·intro y0 y1 y2
   unfold ebbtidelaw21_FrameCuts.j0
   repeat' first
   | (with_reducible exact ih0 _ _ _)
   | (with_reducible exact ih1 _ _ _ _ _ _ _ _ _)
   | (with_reducible exact ebbtideref21_Inputs.mono _ _ _)
   | (with_reducible exact LeO.refl _)
   | (with_reducible exact LeO.none _)
   | (with_reducible refine LeO.ite ?_ ?_)
   | (with_reducible refine LeO.bind ?_ (fun _ => ?_))
   | exact ih0 _ _ _
   | exact ih1 _ _ _ _ _ _ _ _ _
   | exact ebbtideref21_Inputs.mono _ _ _
   | exact LeO.none _
   | refine LeO.ite ?_ ?_
   | refine LeO.bind ?_ (fun _ => ?_)
  ·intro y0 y1 y2 y3 y4 y5 y6 y7 y8
   unfold ebbtidelaw21_FrameCuts.l0
   repeat' first
   | (with_reducible exact ih0 _ _ _)
   | (with_reducible exact ih1 _ _ _ _ _ _ _ _ _)
   | (with_reducible exact ebbtideref21_Inputs.mono _ _ _)
   | (with_reducible exact LeO.refl _)
   | (with_reducible exact LeO.none _)
   | (with_reducible refine LeO.ite ?_ ?_)
   | (with_reducible refine LeO.bind ?_ (fun _ => ?_))
   | exact ih0 _ _ _
   | exact ih1 _ _ _ _ _ _ _ _ _
   | exact ebbtideref21_Inputs.mono _ _ _
   | exact LeO.none _
   | refine LeO.ite ?_ ?_
   | refine LeO.bind ?_ (fun _ => ?_)
theorem ebbtidelaw21_FrameCuts.mono : ∀ a0 a1 k, LeO (ebbtidelaw21_FrameCuts.f k a0 a1) (ebbtidelaw21_FrameCuts.f (k + 1) a0 a1) := by
 intro a0 a1 k
 obtain ⟨ih0, ih1⟩ := ebbtidelaw21_FrameCuts.mono_l k
 unfold ebbtidelaw21_FrameCuts.f
 repeat' first
   | (with_reducible exact ih0 _ _ _)
   | (with_reducible exact ih1 _ _ _ _ _ _ _ _ _)
   | (with_reducible exact ebbtideref21_Inputs.mono _ _ _)
   | (with_reducible exact LeO.refl _)
   | (with_reducible exact LeO.none _)
   | (with_reducible refine LeO.ite ?_ ?_)
   | (with_reducible refine LeO.bind ?_ (fun _ => ?_))
   | exact ih0 _ _ _
   | exact ih1 _ _ _ _ _ _ _ _ _
   | exact ebbtideref21_Inputs.mono _ _ _
   | exact LeO.none _
   | refine LeO.ite ?_ ?_
   | refine LeO.bind ?_ (fun _ => ?_)
def ebbtidelaw21_FrameCuts.T13 : Bool × List (List Nat × List Nat) := (true, [([], []), ([], []), ([], []), ([1, 2], [1, 2]), ([3], [3]), ([0, 4], [0, 4]), ([5], [5]), ([6], [6]), ([6], [6]), ([], []), ([9, 7, 5, 0, 1, 2, 3, 4, 5, 6, 7, 9], [7, 9]), ([8, 10, 0, 1, 2, 3, 4, 5, 6, 7, 8, 9, 10], [8])])
def ebbtidelaw21_FrameCuts.B13 : List Nat := [0, 0, 0, 6, 14, 31, 63, 127, 127, 0, 767, 2047]
theorem ebbtidelaw21_FrameCuts.tab13 : rtab .any (opsOf Try.f9 13) = ebbtidelaw21_FrameCuts.T13 := qK
theorem ebbtidelaw21_FrameCuts.bits13 : waitsOk ebbtidelaw21_FrameCuts.T13.2 ebbtidelaw21_FrameCuts.B13 = true := qK
def ebbtidelaw21_FrameCuts.T14 : Bool × List (List Nat × List Nat) := (true, [([], []), ([], []), ([], []), ([1, 2], [1, 2]), ([], []), ([], []), ([4, 5], [4, 5]), ([0, 3, 0], [0]), ([3, 7, 0, 1, 2, 3, 7], [1, 3]), ([6, 8, 0, 1, 2, 3, 4, 5, 6, 7, 8], [4, 6])])
def ebbtidelaw21_FrameCuts.B14 : List Nat := [0, 0, 0, 6, 0, 0, 48, 15, 143, 511]
theorem ebbtidelaw21_FrameCuts.tab14 : rtab .any (opsOf Try.f9 14) = ebbtidelaw21_FrameCuts.T14 := qK
theorem ebbtidelaw21_FrameCuts.bits14 : waitsOk ebbtidelaw21_FrameCuts.T14.2 ebbtidelaw21_FrameCuts.B14 = true := qK
set_option maxHeartbeats 8000000 in
set_option maxRecDepth 100000 in
theorem ebbtidelaw21_FrameCuts.calls (k : Nat) (P0_ : Nat → Prop) (A0 : Option Addr) (c0 : Nat) (l0 : List Int) (A1 : Option Addr) (c1 : Nat) (l1 : List Int) (r : Bool) (w : World) (hs0 : Kd.V (Kd.int .u8) 5 w w.heap.size (fun k_ => P0_ k_) (.slice A0 l0.length c0) l0) (hr1 : Kd.C (Kd.int .u16) w A1 l1.length l1) (hc1 : l1.length ≤ c1) (h : ebbtidelaw21_FrameCuts.f k l0 l1 = some r) :
  Calls Try.prog 9 #[.slice A0 l0.length c0, .slice A1 l1.length c1] w fun e w' => e = .returned (.bool r) ∧ Below w.heap.size w w' := by
 have hu38 := Try.underlying38
 have HO0 := Aside0.mk (show Kd.V (Kd.int .u8) 5 w w.heap.size (fun k_ => (P0_ k_ ∨ w.heap.size ≤ k_)) (.slice A0 l0.length c0) l0 from Kd.V_mono hs0 (fun k_ hk => .inl hk))
 have HR1 := Aside0.mk hr1
 have HC1 := Aside0.mk hc1
 clear hr1 hc1
 have HB := Aside0.mk (Below.refl w.heap.size w)
 have H : ((ebbtidelaw21_alive.f).bind fun t254 => (if t254 = true then (if (l0.length : Int) > 2000 then (ebbtidelaw21_FrameCuts.j0 k l0 l1 true) else (ebbtidelaw21_FrameCuts.j0 k l0 l1 (decide ((l1.length : Int) > 50)))) else (none))) = some r := h
 clear h
 replace H := Option.bind_eq_some_iff.mp H
 obtain ⟨t254, A30, H⟩ := H
 replace H : (if t254 = true then (if (l0.length : Int) > 2000 then (ebbtidelaw21_FrameCuts.j0 k l0 l1 true) else (ebbtidelaw21_FrameCuts.j0 k l0 l1 (decide ((l1.length : Int) > 50)))) else (none)) = some r := H
 have A3 := Aside0.mk A30
 clear A30
 by_cases c4 : t254 = true
 ·subst c4
  have H1 : (if (l0.length : Int) > 2000 then (ebbtidelaw21_FrameCuts.j0 k l0 l1 true) else (ebbtidelaw21_FrameCuts.j0 k l0 l1 (decide ((l1.length : Int) > 50)))) = some r := by rw [if_pos rfl] at H; exact H
  clear H
  have H := H1
  clear H1
  have HC5 := Aside0.mk H
  clear H
  go_enter Try.func9, Try.ntmps9
  go_upto_region 3 with (first | ((with_reducible refine gate_callee (f := 20) rfl ?_); refine goesL_ (some 16) rfl rfl Try.func20 qK rfl #[] rfl qG ?_; (with_reducible refine (ebbtidelaw21_alive.calls  true _ A3.out).mono ?_); rintro e w6 ⟨rfl, hb⟩; refine ⟨_, rfl, ?_⟩; have n0_ := Aside0.mk (Kd.V_below (by (with_reducible repeat (first | apply Kd.V_alloc | apply Kd.V_drewN | apply Kd.V_drew)); exact HO0.out) hb); have n1_ := Aside0.mk (below_step qB hb); clear HO0; clear HB; have HO0 := n0_; have HB := n1_; clear n0_ n1_; (try clear hb); (try clear hb2); (try clear hk); (try clear hi)))
  (try simp only [Act.put, List.setIfInBounds_toArray, List.set_cons_zero, List.set_cons_succ])
  go_cut [25] (fun v25 wc => ∃ (kq : Nat) (x25_4 : Bool), v25 = .bool x25_4 ∧ Aside0 (ebbtidelaw21_FrameCuts.j0 kq l0 l1 x25_4 = some r) ∧ Aside0 (kq ≤ k) ∧ Aside0 (Kd.V (Kd.int .u8) 5 wc w.heap.size (fun k_ => (P0_ k_ ∨ w.heap.size ≤ k_)) (.slice A0 l0.length c0) l0) ∧ Aside0 (Below w.heap.size w wc))
  case first =>
   have H := HC5.out
   clear HC5
   by_cases c7 : (l0.length : Int) > 2000
   ·rw [if_pos c7] at H
    have c7b0 : decide (2000 < (l0.length : Int)) = true := decide_eq_true c7
    have c7b1 : decide (2000 < l0.length) = true := decide_eq_true (by omega)
    clear c7
    (first | rw [c7b0] | (simp only [i64_w, i32_w]; rw [c7b0]) | skip)
    have H' := Aside0.mk H
    clear H
    go_wp2
    go_meet
    case rel => exact ⟨_, (true), qS, H', ⟨by first | omega | exact Nat.le_refl _⟩, ⟨by (with_reducible repeat (first | apply Kd.V_alloc | apply Kd.V_drewN | apply Kd.V_drew)); exact HO0.out⟩, ⟨qB⟩⟩
   ·rw [if_neg c7] at H
    have c7b0 : decide (2000 < (l0.length : Int)) = false := decide_eq_false c7
    have c7b1 : decide (2000 < l0.length) = false := decide_eq_false (by omega)
    clear c7
    (first | rw [c7b0] | (simp only [i64_w, i32_w]; rw [c7b0]) | skip)
    have H' := Aside0.mk H
    clear H
    go_wp2
    go_meet
    case rel => exact ⟨_, (decide ((l1.length : Int) > 50)), qS, H', ⟨by first | omega | exact Nat.le_refl _⟩, ⟨by (with_reducible repeat (first | apply Kd.V_alloc | apply Kd.V_drewN | apply Kd.V_drew)); exact HO0.out⟩, ⟨qB⟩⟩
  case rest =>
   clear HC5
   try clear c1
   try clear c2
   try clear p2
   try clear c4
   try clear c7
   try clear c7b0
   try clear c7b1
   obtain ⟨kq, x25_4, rfl, HA, HJ4, HO_0, HB⟩ := hcut
   cases kq with
   | zero => exact absurd HA.out (by simp [ebbtidelaw21_FrameCuts.j0])
   | succ kj4 =>
    have H := HA.out
    clear HA
    simp only [ebbtidelaw21_FrameCuts.j0] at H
    by_cases c8 : x25_4 = true
    ·subst c8
     have H1 : (some true) = some r := by rw [if_pos rfl] at H; exact H
     clear H
     have H := H1
     clear H1
     obtain rfl := Option.some.inj H
     go_wp2
     go_ret
     exact ⟨qE, qB⟩
    ·replace c8 := Bool.eq_false_iff.mpr c8
     subst c8
     have H1 : ((frame_Push.f ([] : List Int) false (([l0] : List (List Int)))).bind fun bt258 => (ebbtidelaw21_FrameCuts.l0 kj4 l1 bt258.2.2 ([] : List (S54)) l0 0 bt258.1 bt258.2.1 ([] : List Int) false)) = some r := by rw [if_neg (show ¬ (false = true) by decide)] at H; exact H
     clear H
     have H := H1
     clear H1
     obtain ⟨y255, hy255⟩ : ∃ y_ : List (List Int), y_ = (([l0] : List (List Int))) := ⟨_, rfl⟩
     replace H : ((frame_Push.f ([] : List Int) false y255).bind fun bt258 => (ebbtidelaw21_FrameCuts.l0 kj4 l1 bt258.2.2 ([] : List (S54)) l0 0 bt258.1 bt258.2.1 ([] : List Int) false)) = some r := by first | (rw [hy255]; with_reducible exact H) | (have H2_ := (Option.bind_some _ _).symm.trans H; rw [hy255]; with_reducible exact H2_) | (have H2_ := (Option.bind_some _ _).symm.trans H; with_reducible exact H2_) | with_reducible exact H | (rw [hy255]; exact H) | exact H
     have Ny255 := Aside0.mk hy255
     clear hy255
     replace H := Option.bind_eq_some_iff.mp H
     obtain ⟨⟨t258, t261, t262⟩, A90, H⟩ := H
     replace H : (ebbtidelaw21_FrameCuts.l0 kj4 l1 t262 ([] : List (S54)) l0 0 t258 t261 ([] : List Int) false) = some r := H
     have A9 := Aside0.mk A90
     clear A90
     have H' := Aside0.mk H
     clear H
     go_wp2_with (first | ((with_reducible refine gate_dst (N := 29) rfl ?_); (try (refine gate_guard (by rfl) ?_; dsimp only)); refine Kd.N_lit (Kd.slice 5 (Kd.int .u8)) _ 35 ?hg (N' := 29) ?hd (xs := ([l0] : List (List Int))) (inner := [.slice A0 l0.length c0]) (ok := (fun k_ => (P0_ k_ ∨ w.heap.size ≤ k_))) (okp := (fun k_ => (P0_ k_ ∨ w.heap.size ≤ k_))) ?hr ?hp (fun _ hk => hk) ((show ∀ k_, wc.heap.size ≤ k_ → (fun k_ => (P0_ k_ ∨ w.heap.size ≤ k_)) k_ from fun k_ hk => (.inr (Nat.le_trans (below_size qB) hk))) _ (Nat.le_refl _)) (Below.refl _ _) (Nat.le_refl _) (by simp) ?_; (case hd => rfl); (case hg => rfl); (case hr => first | (go_simp; done) | (go_simp; rfl)); (case hp => exact (Reps.one (show Kd.FK (Kd.slice 5 (Kd.int .u8)) _ _ l0 [.slice A0 l0.length c0] from (Kd.FK_slice_mk (Kd.V_reads' (Kd.V_mono (ok' := (fun k_ => (P0_ k_ ∨ w.heap.size ≤ k_))) (HO_0.out) (fun k_ hk => hk))).2.1 (Kd.V_F (Kd.V_mono (ok' := (fun k_ => (P0_ k_ ∨ w.heap.size ≤ k_))) (HO_0.out) (fun k_ hk => hk))))) (Reps.none _ _))); intro v256 w10 ho11 hb hg_ hnew_; clear hg_ hnew_; (first | rw [← Ny255.out] at ho11 | (simp only [Int.reduceToNat] at ho11; rw [← Ny255.out] at ho11)); have n0_ := Aside0.mk (Kd.V_elder' (by (with_reducible repeat (first | apply Kd.V_alloc | apply Kd.V_drewN | apply Kd.V_drew)); exact HO_0.out) (Kd.N_base ho11) hb); have n1_ := Aside0.mk (Kd.N_lower ho11 (below_size qB)); have n2_ := Aside0.mk (below_step qB hb); clear HO_0; clear HB; have HO_0 := n0_; have HO257 := n1_; have HB := n2_; clear n0_ n1_ n2_; clear hb ho11; obtain ⟨Ao12, co12, eo12⟩ := Kd.N_slice HO257.out; subst eo12) | ((with_reducible refine gate_callee (f := 22) rfl ?_); refine goesL_ (some 30) rfl rfl Try.func22 qK rfl #[.agg #[.slice none 0 0, .bool false], .slice Ao12 y255.length co12] rfl qG ?_; (refine (frame_Push.calls (fun k_ => False) _ _ ([] : List Int) false _ _ y255 t258 t261 t262 _ ?side1 ?side2 ?side3 A9.out).mono ?_); (case side1 => exact Kd.V_nil _ _ _ _ _); (case side2 => repeat (first | exact (Kd.N_reads' HO257.out).2.2 | (with_reducible refine Kd.C_alloc ?_ _) | (with_reducible refine Kd.C_drewN ?_ _) | (with_reducible refine Kd.C_drew ?_))); (case side3 => exact (Kd.N_reads' HO257.out).2.1); rintro e w13 ⟨v259, v263, rfl, ho0, ho1, hb⟩; refine ⟨_, rfl, ?_⟩; have n0_ := Aside0.mk (Kd.V_elder' (by (with_reducible repeat (first | apply Kd.V_alloc | apply Kd.V_drewN | apply Kd.V_drew)); exact HO_0.out) (Kd.R_base ho1) hb); have n1_ := Aside0.mk (Kd.N_elder' (by (with_reducible repeat (first | apply Kd.N_alloc | apply Kd.N_drewN | apply Kd.N_drew)); exact HO257.out) (Kd.R_base ho1) hb); have n2_ := Aside0.mk (Kd.V_lower (Kd.V_mono (ok' := fun k_ => (P0_ k_ ∨ w.heap.size ≤ k_) ∧ some k_ ≠ (v263 : Value).ownBlock ∧ some k_ ≠ (.slice Ao12 y255.length co12 : Value).ownBlock) ho0 (fun k_ hk_ => ⟨Or.elim hk_.1 (fun hs_ => (hs_).elim) (fun hn_ => (.inr (Nat.le_trans (below_size qB) hn_))), hk_.2, Or.elim hk_.1 (fun hs_ => (hs_).elim) (fun hn_ => (Kd.fresh' (Kd.N_lt (by (with_reducible repeat (first | apply Kd.N_alloc | apply Kd.N_drewN | apply Kd.N_drew)); exact HO257.out)) k_ hn_))⟩)) (below_size qB)); have n3_ := Aside0.mk (Kd.R_lower (Kd.R_newM (M := fun k_ => (w.heap.size ≤ k_)) (Kd.R_mono (ok' := fun k_ => True) ho1 (fun _ hk_ => trivial)) (below_size qB) (fun k_ h_ => h_)) (below_size qB)); have n4_ := Aside0.mk (below_step qB hb); clear HO_0; clear HO257; clear HB; have HO_0 := n0_; have HO257 := n1_; have HO260 := n2_; have HO264 := n3_; have HB := n4_; clear n0_ n1_ n2_ n3_ n4_; (try clear hb); (try clear hb2); (try clear hk); (try clear hi); (try clear ho0); (try clear ho1)) | ((with_reducible refine gate_dst (N := 5) rfl ?_); (try (refine gate_guard (by rfl) ?_; dsimp only)); refine box_event ?hg (N := 5) ?hd (cs := #[.slice none 0 0, .bool false]) (t := 38) ?hr ?_; (case hd => rfl); (case hg => rfl); (case hr => first | (go_simp; done) | (go_simp; rfl)); intro gb265 hg w14 hbox hb; have n0_ := Aside0.mk (Kd.V_below (Kd.V_elderB (by (with_reducible repeat (first | apply Kd.V_alloc | apply Kd.V_drewN | apply Kd.V_drew)); exact HO_0.out) gb265 (Nat.le_of_eq hg.symm)) hb); have n1_ := Aside0.mk (Kd.N_below (Kd.N_elderB (by (with_reducible repeat (first | apply Kd.N_alloc | apply Kd.N_drewN | apply Kd.N_drew)); exact HO257.out) gb265 (Nat.le_of_eq hg.symm)) hb); have n2_ := Aside0.mk (Kd.V_below (Kd.V_elderB (by (with_reducible repeat (first | apply Kd.V_alloc | apply Kd.V_drewN | apply Kd.V_drew)); exact HO260.out) gb265 (Nat.le_of_eq hg.symm)) hb); have n3_ := Aside0.mk (Kd.R_below (qR HO264) hb); have n4_ := Aside0.mk (below_step qB hb); have n5_ := Aside0.mk (hbox); have n6_ := Aside0.mk ((by rw [hg]; exact (below_size qB) : w.heap.size ≤ gb265)); have n7_ := Aside0.mk ((by rw [hg]; exact (below_size qB) : w.heap.size ≤ gb265)); clear HO_0; clear HO257; clear HO260; clear HO264; clear HB; have HO_0 := n0_; have HO257 := n1_; have HO260 := n2_; have HO264 := n3_; have HB := n4_; have BK265 := n5_; have GW265 := n6_; have GE265 := n7_; clear n0_ n1_ n2_ n3_ n4_ n5_ n6_ n7_; clear hb hbox hg; obtain ⟨Ao15, co15, eo15⟩ := Kd.V_slice HO260.out; subst eo15; have hcz16_0 : w14.cell? ⟨gb265, 0, none⟩ = some (.slice none 0 0) := (blk_cell BK265.out 0).trans rfl; have hcz16_1 : w14.cell? ⟨gb265, 1, none⟩ = some (.bool false) := (blk_cell BK265.out 1).trans rfl; have hfz16_0 := blk_frozen BK265.out 0; have hfz16_1 := blk_frozen BK265.out 1) | ((with_reducible refine gate_dst (N := 7) rfl ?_); (try (refine gate_guard (by rfl) ?_; dsimp only)); refine box_event ?hg (N := 7) ?hd (cs := #[.slice none 0 0, .bool false]) (t := 38) ?hr ?_; (case hd => rfl); (case hg => rfl); (case hr => first | (go_simp; done) | (go_simp; rfl)); intro gb266 hg w17 hbox hb; have n0_ := Aside0.mk (Kd.V_below (Kd.V_elderB (by (with_reducible repeat (first | apply Kd.V_alloc | apply Kd.V_drewN | apply Kd.V_drew)); exact (Kd.V_mono (Kd.V_far (p := ⟨gb265, 1, none⟩) (Kd.V_far (p := ⟨gb265, 0, none⟩) (Kd.V_mono HO_0.out (fun k_ hk => (⟨hk, hk.2⟩ : _ ∧ k_ ≠ gb265))) (fun _ hk => hk.2) (.slice Ao15 t258.length co15)) (fun _ hk => hk.2) (.bool t261)) (fun _ h_ => h_.1))) gb266 (Nat.le_of_eq hg.symm)) hb); have n1_ := Aside0.mk (Kd.N_below (Kd.N_elderB (by (with_reducible repeat (first | apply Kd.N_alloc | apply Kd.N_drewN | apply Kd.N_drew)); exact (Kd.N_mono (Kd.N_far (p := ⟨gb265, 1, none⟩) (Kd.N_far (p := ⟨gb265, 0, none⟩) (Kd.N_mono HO257.out (fun k_ hk => (⟨hk, hk.2⟩ : _ ∧ k_ ≠ gb265))) (fun _ hk => hk.2) (.slice Ao15 t258.length co15)) (fun _ hk => hk.2) (.bool t261)) (fun _ h_ => h_.1))) gb266 (Nat.le_of_eq hg.symm)) hb); have n2_ := Aside0.mk (Kd.V_below (Kd.V_elderB (by (with_reducible repeat (first | apply Kd.V_alloc | apply Kd.V_drewN | apply Kd.V_drew)); exact (Kd.V_mono (Kd.V_far (p := ⟨gb265, 1, none⟩) (Kd.V_far (p := ⟨gb265, 0, none⟩) (Kd.V_mono HO260.out (fun k_ hk => (⟨hk, hk.2⟩ : _ ∧ k_ ≠ gb265))) (fun _ hk => hk.2) (.slice Ao15 t258.length co15)) (fun _ hk => hk.2) (.bool t261)) (fun _ h_ => h_.1))) gb266 (Nat.le_of_eq hg.symm)) hb); have n3_ := Aside0.mk (Kd.R_below (by (with_reducible repeat (first | apply Kd.R_alloc | apply Kd.R_drewN | apply Kd.R_drew)); exact (Kd.R_mono (Kd.R_far (p := ⟨gb265, 1, none⟩) (Kd.R_far (p := ⟨gb265, 0, none⟩) (Kd.R_types HO264.out BK265.out (by decide)) (fun _ hk => hk.2) (.slice Ao15 t258.length co15)) (fun _ hk => hk.2) (.bool t261)) (fun _ h_ => h_.1))) hb); have n4_ := Aside0.mk (blk_below (g := gb265) (o := .cells #[.slice Ao15 t258.length co15, .bool t261] 38 (0, 0)) (by (with_reducible repeat (first | refine blk_drewN ?_ _ | refine blk_drew ?_ | refine blk_alloc ?_ _)); refine blk_put (cs := #[.slice Ao15 t258.length co15, .bool false]) ?_ 1 _ rfl; (with_reducible repeat (first | refine blk_drewN ?_ _ | refine blk_drew ?_ | refine blk_alloc ?_ _)); refine blk_put (cs := #[.slice none 0 0, .bool false]) ?_ 0 _ rfl; (with_reducible repeat (first | refine blk_drewN ?_ _ | refine blk_drew ?_ | refine blk_alloc ?_ _)); exact BK265.out) hb); have n5_ := Aside0.mk (below_step qC hb); have n6_ := Aside0.mk (hbox); have n7_ := Aside0.mk ((by rw [hg]; exact (below_size qC) : w.heap.size ≤ gb266)); have n8_ := Aside0.mk ((by rw [hg]; exact (below_size qC) : w.heap.size ≤ gb266)); have n9_ := Aside0.mk ((by rw [hg]; exact Nat.ne_of_lt (blk_lt (g := gb265) (o := .cells #[.slice Ao15 t258.length co15, .bool t261] 38 (0, 0)) (by (with_reducible repeat (first | refine blk_drewN ?_ _ | refine blk_drew ?_ | refine blk_alloc ?_ _)); refine blk_put (cs := #[.slice Ao15 t258.length co15, .bool false]) ?_ 1 _ rfl; (with_reducible repeat (first | refine blk_drewN ?_ _ | refine blk_drew ?_ | refine blk_alloc ?_ _)); refine blk_put (cs := #[.slice none 0 0, .bool false]) ?_ 0 _ rfl; (with_reducible repeat (first | refine blk_drewN ?_ _ | refine blk_drew ?_ | refine blk_alloc ?_ _)); exact BK265.out)) : gb265 ≠ gb266)); have n10_ := Aside0.mk ((by rw [hg]; exact Nat.ne_of_gt (blk_lt (g := gb265) (o := .cells #[.slice Ao15 t258.length co15, .bool t261] 38 (0, 0)) (by (with_reducible repeat (first | refine blk_drewN ?_ _ | refine blk_drew ?_ | refine blk_alloc ?_ _)); refine blk_put (cs := #[.slice Ao15 t258.length co15, .bool false]) ?_ 1 _ rfl; (with_reducible repeat (first | refine blk_drewN ?_ _ | refine blk_drew ?_ | refine blk_alloc ?_ _)); refine blk_put (cs := #[.slice none 0 0, .bool false]) ?_ 0 _ rfl; (with_reducible repeat (first | refine blk_drewN ?_ _ | refine blk_drew ?_ | refine blk_alloc ?_ _)); exact BK265.out)) : gb266 ≠ gb265)); clear HO_0; clear HO257; clear HO260; clear HO264; clear BK265; clear HB; have HO_0 := n0_; have HO257 := n1_; have HO260 := n2_; have HO264 := n3_; have BK265 := n4_; have HB := n5_; have BK266 := n6_; have GW266 := n7_; have GE266 := n8_; have NB265_266 := n9_; have NB266_265 := n10_; clear n0_ n1_ n2_ n3_ n4_ n5_ n6_ n7_ n8_ n9_ n10_; clear hb hbox hg; have hnb18 := NB266_265.out; have hnc18 := NB265_266.out; have hcz19_0 : w17.cell? ⟨gb266, 0, none⟩ = some (.slice none 0 0) := (blk_cell BK266.out 0).trans rfl; have hcz19_1 : w17.cell? ⟨gb266, 1, none⟩ = some (.bool false) := (blk_cell BK266.out 1).trans rfl; have hfz19_0 := blk_frozen BK266.out 0; have hfz19_1 := blk_frozen BK266.out 1))
     go_loopg [8, 9, 10] kj4 (fun kq v8 v9 v10 w' => ∃ (x8_2 : List (S54)) (x9_2 : List Int) (x10_2 : Int) (x267000_2 : List Int) (x267001_2 : Bool) (u267000 : Value), v10 = .int .i64 x10_2 ∧ Aside0 (ebbtidelaw21_FrameCuts.l0 kq l1 t262 x8_2 x9_2 x10_2 t258 t261 x267000_2 x267001_2 = some r) ∧ Aside0 (kq ≤ kj4) ∧ Aside0 (Kd.R k54 54 w' w.heap.size (fun k_ => (w.heap.size ≤ k_) ∧ some k_ ≠ (v8 : Value).ownBlock) v263 t262) ∧ Aside0 (Kd.R k54 54 w' w.heap.size (fun k_ => (w.heap.size ≤ k_) ∧ some k_ ≠ (v263 : Value).ownBlock) v8 x8_2) ∧ Aside0 (Kd.V (Kd.int .u8) 5 w' w.heap.size (fun k_ => (P0_ k_ ∨ w.heap.size ≤ k_) ∧ some k_ ≠ (v263 : Value).ownBlock ∧ some k_ ≠ (v8 : Value).ownBlock ∧ k_ ≠ gb265 ∧ k_ ≠ gb266) v9 x9_2) ∧ Aside0 (Kd.V (Kd.int .u8) 5 w' w.heap.size (fun k_ => (P0_ k_ ∨ w.heap.size ≤ k_) ∧ some k_ ≠ (v263 : Value).ownBlock ∧ some k_ ≠ (v8 : Value).ownBlock ∧ k_ ≠ gb265 ∧ k_ ≠ gb266) (.slice Ao15 t258.length co15) t258) ∧ Aside0 (Kd.V (Kd.int .u8) 5 w' w.heap.size (fun k_ => (P0_ k_ ∨ w.heap.size ≤ k_) ∧ some k_ ≠ (v263 : Value).ownBlock ∧ some k_ ≠ (v8 : Value).ownBlock ∧ k_ ≠ gb265 ∧ k_ ≠ gb266) u267000 x267000_2) ∧ Aside0 (w'.heap[gb265]? = some (.cells #[(.slice Ao15 t258.length co15), .bool t261] 38 (0, 0))) ∧ Aside0 (w'.heap[gb266]? = some (.cells #[u267000, .bool x267001_2] 38 (0, 0))) ∧ Aside0 (Below w.heap.size w w'))
     case atStart => exact ⟨(([] : List (S54))), (l0), (0), (([] : List Int)), (false), (.slice none 0 0), qS, H', ⟨Nat.le_refl _⟩, ⟨by (with_reducible repeat (first | apply Kd.R_alloc | apply Kd.R_drewN | apply Kd.R_drew)); exact Kd.R_mono (Kd.R_far (p := ⟨gb266, 1, none⟩) (Kd.R_far (p := ⟨gb266, 0, none⟩) (Kd.R_types HO264.out BK266.out (by decide)) (fun _ hk => hk.2) (.slice none 0 0)) (fun _ hk => hk.2) (.bool false)) (fun _ hk => ⟨hk.1.1, (by simp [Value.ownBlock])⟩)⟩, ⟨qN⟩, ⟨by (with_reducible repeat (first | apply Kd.V_alloc | apply Kd.V_drewN | apply Kd.V_drew)); exact Kd.V_mono (Kd.V_far (p := ⟨gb266, 1, none⟩) (Kd.V_far (p := ⟨gb266, 0, none⟩) (Kd.V_mono HO_0.out (fun k_ hk => (⟨hk, hk.2⟩ : _ ∧ k_ ≠ gb266))) (fun _ hk => hk.2) (.slice none 0 0)) (fun _ hk => hk.2) (.bool false)) (fun _ hk => ⟨hk.1.1.1.1.1, ⟨hk.1.1.1.2, ⟨(by simp [Value.ownBlock]), ⟨hk.1.1.2, hk.1.2⟩⟩⟩⟩)⟩, ⟨by (with_reducible repeat (first | apply Kd.V_alloc | apply Kd.V_drewN | apply Kd.V_drew)); exact Kd.V_mono (Kd.V_far (p := ⟨gb266, 1, none⟩) (Kd.V_far (p := ⟨gb266, 0, none⟩) (Kd.V_mono HO260.out (fun k_ hk => (⟨hk, hk.2⟩ : _ ∧ k_ ≠ gb266))) (fun _ hk => hk.2) (.slice none 0 0)) (fun _ hk => hk.2) (.bool false)) (fun _ hk => ⟨hk.1.1.1.1, ⟨hk.1.1.1.2.1, ⟨(by simp [Value.ownBlock]), ⟨hk.1.1.2, hk.1.2⟩⟩⟩⟩)⟩, ⟨Kd.V_nil _ _ _ _ _⟩, ⟨by (with_reducible repeat (first | refine blk_drewN ?_ _ | refine blk_drew ?_ | refine blk_alloc ?_ _)); refine blk_far ?_ NB265_266.out _; (with_reducible repeat (first | refine blk_drewN ?_ _ | refine blk_drew ?_ | refine blk_alloc ?_ _)); refine blk_far ?_ NB265_266.out _; (with_reducible repeat (first | refine blk_drewN ?_ _ | refine blk_drew ?_ | refine blk_alloc ?_ _)); exact BK265.out⟩, ⟨by (with_reducible repeat (first | refine blk_drewN ?_ _ | refine blk_drew ?_ | refine blk_alloc ?_ _)); refine blk_put (cs := #[.slice none 0 0, .bool false]) ?_ 1 _ rfl; (with_reducible repeat (first | refine blk_drewN ?_ _ | refine blk_drew ?_ | refine blk_alloc ?_ _)); refine blk_put (cs := #[.slice none 0 0, .bool false]) ?_ 0 _ rfl; (with_reducible repeat (first | refine blk_drewN ?_ _ | refine blk_drew ?_ | refine blk_alloc ?_ _)); exact BK266.out⟩, ⟨qC⟩⟩
     case round =>
      clear H'
      try clear c1
      try clear c2
      try clear p2
      try clear c4
      try clear c7
      try clear c7b0
      try clear c7b1
      try clear c8
      try clear c9
      try clear c18
      try clear hcz16_0
      try clear hcz16_1
      try clear hcz19_0
      try clear hcz19_1
      try clear hfz16_0
      try clear hfz16_1
      try clear hfz19_0
      try clear hfz19_1
      try clear p2
      obtain ⟨x8_2, x9_2, x10_2, x267000_2, x267001_2, u267000, rfl, HA, HK2, HO_6, HO_8, HO_9, HO_266000, HO_267000, BK265, BK266, HB⟩ := hrel
      cases gk with
      | zero => exact absurd HA.out (by simp [ebbtidelaw21_FrameCuts.l0])
      | succ k2 =>
       have H := HA.out
       clear HA
       simp only [ebbtidelaw21_FrameCuts.l0] at H
       by_cases c20 : x10_2 < (l1.length : Int)
       ·rw [if_pos c20] at H
        have c20b0 : decide (x10_2 < (l1.length : Int)) = true := decide_eq_true c20
        clear c20
        by_cases c21 : 0 ≤ x10_2
        ·rw [if_pos c21] at H
         have c21b0 : decide (0 ≤ x10_2) = true := decide_eq_true c21
         clear c21
         by_cases c22 : (wrap64 ((x9_2.length : Int) + 1)) = 0
         ·rw [if_pos c22] at H
          exact absurd H (by simp)
         ·rw [if_neg c22] at H
          have c22b0 : ((wrap64 ((x9_2.length : Int) + 1)) == 0) = false := beq_eq_false_iff_ne.mpr c22
          have c22b1 : ((wrap64 ((x9_2.length : Int) + 1)) != 0) = true := bne_iff_ne.mpr c22
          obtain ⟨ji23, hji23⟩ : ∃ j_ : Int, (Int.tmod (wrap64 (rd l1 x10_2)) (wrap64 ((x9_2.length : Int) + 1))) = j_ := ⟨_, rfl⟩
          replace H : (if 0 ≤ (ji23) then (if (ji23) ≤ (x9_2.length : Int) then ((frame_Push.f x267000_2 x267001_2 (([(x9_2.take ((ji23) : Int).toNat)] : List (List Int)))).bind fun bt276 => (if x8_2.length + bt276.2.2.length < 5864062014805 then (ebbtidelaw21_FrameCuts.l0 k2 l1 t262 (x8_2 ++ bt276.2.2) (x9_2.drop ((ji23) : Int).toNat) (wrap64 (x10_2 + 1)) t258 t261 bt276.1 bt276.2.1) else (none))) else (none)) else (none)) = some r := by first | (rw [hji23] at H; exact H) | (simp only [hji23] at H ⊢; exact H)
          by_cases c24 : 0 ≤ (ji23)
          ·rw [if_pos c24] at H
           have c24b0 := eq_true c24
           have c24b1 : decide (0 ≤ (ji23)) = true := decide_eq_true c24
           clear c24
           by_cases c25 : (ji23) ≤ (x9_2.length : Int)
           ·rw [if_pos c25] at H
            have c25b0 := eq_true c25
            have c25b1 : decide ((ji23) ≤ (x9_2.length : Int)) = true := decide_eq_true c25
            clear c25
            obtain ⟨y268, hy268⟩ : ∃ y_ : List Int, y_ = (x9_2.take ((ji23) : Int).toNat) := ⟨_, rfl⟩
            replace H : ((frame_Push.f x267000_2 x267001_2 (([y268] : List (List Int)))).bind fun bt276 => (if x8_2.length + bt276.2.2.length < 5864062014805 then (ebbtidelaw21_FrameCuts.l0 k2 l1 t262 (x8_2 ++ bt276.2.2) (x9_2.drop ((ji23) : Int).toNat) (wrap64 (x10_2 + 1)) t258 t261 bt276.1 bt276.2.1) else (none))) = some r := by first | (rw [hy268]; with_reducible exact H) | (have H2_ := (Option.bind_some _ _).symm.trans H; rw [hy268]; with_reducible exact H2_) | (have H2_ := (Option.bind_some _ _).symm.trans H; with_reducible exact H2_) | with_reducible exact H | (rw [hy268]; exact H) | exact H
            have Ny268 := Aside0.mk hy268
            clear hy268
            obtain ⟨y273, hy273⟩ : ∃ y_ : List (List Int), y_ = (([y268] : List (List Int))) := ⟨_, rfl⟩
            replace H : ((frame_Push.f x267000_2 x267001_2 y273).bind fun bt276 => (if x8_2.length + bt276.2.2.length < 5864062014805 then (ebbtidelaw21_FrameCuts.l0 k2 l1 t262 (x8_2 ++ bt276.2.2) (x9_2.drop ((ji23) : Int).toNat) (wrap64 (x10_2 + 1)) t258 t261 bt276.1 bt276.2.1) else (none))) = some r := by first | (rw [hy273]; with_reducible exact H) | (have H2_ := (Option.bind_some _ _).symm.trans H; rw [hy273]; with_reducible exact H2_) | (have H2_ := (Option.bind_some _ _).symm.trans H; with_reducible exact H2_) | with_reducible exact H | (rw [hy273]; exact H) | exact H
            have Ny273 := Aside0.mk hy273
            clear hy273
            replace H := Option.bind_eq_some_iff.mp H
            obtain ⟨⟨t276, t279, t280⟩, A260, H⟩ := H
            replace H : (if x8_2.length + t280.length < 5864062014805 then (ebbtidelaw21_FrameCuts.l0 k2 l1 t262 (x8_2 ++ t280) (x9_2.drop ((ji23) : Int).toNat) (wrap64 (x10_2 + 1)) t258 t261 t276 t279) else (none)) = some r := H
            have A26 := Aside0.mk A260
            clear A260
            by_cases c27 : x8_2.length + t280.length < 5864062014805
            ·rw [if_pos c27] at H
             have LMc27 := Aside0.mk c27
             clear c27
             obtain ⟨y284, hy284⟩ : ∃ y_ : List (S54), y_ = (x8_2 ++ t280) := ⟨_, rfl⟩
             replace H : (ebbtidelaw21_FrameCuts.l0 k2 l1 t262 y284 (x9_2.drop ((ji23) : Int).toNat) (wrap64 (x10_2 + 1)) t258 t261 t276 t279) = some r := by first | (rw [hy284]; with_reducible exact H) | (have H2_ := (Option.bind_some _ _).symm.trans H; rw [hy284]; with_reducible exact H2_) | (have H2_ := (Option.bind_some _ _).symm.trans H; with_reducible exact H2_) | with_reducible exact H | (rw [hy284]; exact H) | exact H
             have Ny284 := Aside0.mk hy284
             clear hy284
             have c28b0 := eq_true (of_decide_eq_true qA : 0 ≤ (ji23))
             have c29b0 := eq_true (of_decide_eq_true qA : (ji23) ≤ (x9_2.length : Int))
             obtain ⟨y287, hy287⟩ : ∃ y_ : List Int, y_ = (x9_2.drop ((ji23) : Int).toNat) := ⟨_, rfl⟩
             replace H : (ebbtidelaw21_FrameCuts.l0 k2 l1 t262 y284 y287 (wrap64 (x10_2 + 1)) t258 t261 t276 t279) = some r := by first | (rw [hy287]; with_reducible exact H) | (have H2_ := (Option.bind_some _ _).symm.trans H; rw [hy287]; with_reducible exact H2_) | (have H2_ := (Option.bind_some _ _).symm.trans H; with_reducible exact H2_) | with_reducible exact H | (rw [hy287]; exact H) | exact H
             have Ny287 := Aside0.mk hy287
             clear hy287
             have H' := Aside0.mk H
             clear H
             have p267 : 0 ≤ (x10_2 : Int) := of_decide_eq_true qA
             have q267 : x10_2 < (l1.length : Int) := of_decide_eq_true qA
             obtain ⟨ad267, e267, hx267_0⟩ := Kd.at_int HR1.out x10_2 p267 q267
             cases e267
             replace hx267_0 := (HB.out.cell (World.block_lt_of_cell? w _ hx267_0)).trans hx267_0
             replace p267 := eq_true p267
             replace q267 := eq_true q267
             obtain ⟨Ao30, co30, eo30⟩ := Kd.V_slice HO_9.out
             subst eo30
             obtain ⟨Ao31, co31, eo31⟩ := Kd.V_slice HO_267000.out
             subst eo31
             try go_wp2
             have n0_ := Aside0.mk (Kd.R_drew HO_6.out)
             have n1_ := Aside0.mk (Kd.R_drew HO_8.out)
             have n2_ := Aside0.mk (Kd.V_drew HO_9.out)
             have n3_ := Aside0.mk (Kd.V_drew HO_266000.out)
             have n4_ := Aside0.mk (Kd.V_drew HO_267000.out)
             have n5_ := Aside0.mk (blk_drew BK265.out)
             have n6_ := Aside0.mk (blk_drew BK266.out)
             have n7_ := Aside0.mk (below_drew1 HB.out)
             clear HO_6
             clear HO_8
             clear HO_9
             clear HO_266000
             clear HO_267000
             clear BK265
             clear BK266
             clear HB
             have HO_6 := n0_
             have HO_8 := n1_
             have HO_9 := n2_
             have HO_266000 := n3_
             have HO_267000 := n4_
             have BK265 := n5_
             have BK266 := n6_
             have HB := n7_
             clear n0_ n1_ n2_ n3_ n4_ n5_ n6_ n7_
             have q33 : ((ji23) : Int) ≤ ((x9_2.length : Int) : Int) := of_decide_eq_true qA
             obtain ⟨i033, hi033, _, hsz33, _⟩ := info_parts info5
             have hroom33 : x9_2.length ≤ co30 := (Kd.V_reads' HO_9.out).2.1
             have hC33 : Kd.F (Kd.int .u8) _ _ Ao30 x9_2.length x9_2 := (Kd.V_at (base := w.heap.size) HO_9.out).2.2
             have hcut33 := cut_to (P := Try.prog) 35 5 .i64 Try.underlying35 hi033 Ao30 x9_2.length co30 (ji23) (of_decide_eq_true qA) q33 hroom33
             have hr33 := Kd.F_take (m := ((ji23) : Int).toNat) hC33 (by omega)
             have hy33 : y268.length = ((ji23) : Int).toNat := (by rw [Ny268.out, List.length_take]; omega)
             rw [← Ny268.out] at hr33
             rw [← hy33] at hcut33
             have HO272 := Aside0.mk (show Kd.V (Kd.int .u8) 5 _ w.heap.size _ (.slice Ao30 y268.length co30) y268 from Kd.V_mk (by omega) hr33)
             have HC272 := Aside0.mk (show y268.length ≤ co30 from by omega)
             clear hr33 hC33 hroom33 hi033 hsz33
             have KY33 := Aside0.mk hy33
             clear hy33
             replace q33 := eq_true q33
             refine start_ (n := 12) (S := fun w' => w'.cell? ⟨gb266, 0, none⟩ = some (.slice Ao31 x267000_2.length co31) ∧ w'.cell? ⟨gb266, 1, none⟩ = some (.bool x267001_2)) (ds := []) #[false, false, false, false, false, false, false, false, false, false, false, false] qK rfl rfl ⟨(blk_cell BK266.out 0).trans rfl, (blk_cell BK266.out 1).trans rfl⟩ (fun hHeld => ?_); refine with_tabW ebbtidelaw21_FrameCuts.tab13 ebbtidelaw21_FrameCuts.bits13 (fun HT_ HW_ => ?_)
             generalize wr.drew = w32 at HO_6 HO_8 HO_9 HO_266000 HO_267000 BK265 BK266 HB HO272 hHeld ⊢
             refine pure_ (i := 1) (N := some 52) (v := ?_) (a' := ?_) #[false, true, false, false, false, false, false, false, false, false, false, false] rfl rfl (any_of HT_.out qK) (fun _ _ _ h => h) (Or.inl ⟨by rfl, ?_⟩) ?_ ?_
             rotate_left
             ·intro w'; go_simp; with_reducible rfl
             rotate_left
             ·simp only [Act.put, List.setIfInBounds_toArray, List.set_cons_zero, List.set_cons_succ, i64_w, i32_w]; rfl
             refine pure_ (i := 2) (N := some 53) (v := ?_) (a' := ?_) #[false, true, true, false, false, false, false, false, false, false, false, false] rfl rfl (any_of HT_.out qK) (fun _ _ _ h => h) (Or.inl ⟨by rfl, ?_⟩) ?_ ?_
             rotate_left
             ·intro w'; go_simp; with_reducible rfl
             rotate_left
             ·simp only [Act.put, List.setIfInBounds_toArray, List.set_cons_zero, List.set_cons_succ, i64_w, i32_w]; rfl
             refine pure_ (i := 3) (N := some 54) (v := ?_) (a' := ?_) #[false, true, true, true, false, false, false, false, false, false, false, false] rfl rfl (any_of HT_.out qK) (fun _ _ _ h => h) (Or.inl ⟨by rfl, ?_⟩) ?_ ?_
             rotate_left
             ·intro w'; go_simp; with_reducible rfl
             rotate_left
             ·simp only [Act.put, List.setIfInBounds_toArray, List.set_cons_zero, List.set_cons_succ, i64_w, i32_w]; rfl
             refine take_ (i := 0) (N := some 51) (v := ?_) (a' := ?_) #[true, true, true, true, false, false, false, false, false, false, false, false] rfl rfl (take_ofW HT_.out HW_.out qK) (fun _ _ _ h => h) (Or.inl ⟨by rfl, ?_⟩) hHeld ?_ ?_
             rotate_left
             ·rintro w' ⟨s0, s1⟩; go_simp; with_reducible rfl
             rotate_left
             ·simp only [Act.put, List.setIfInBounds_toArray, List.set_cons_zero, List.set_cons_succ, i64_w, i32_w]; rfl
             refine join_ (σ := Value × Value × Value × Nat) 2 #[true, true, true, true, true, true, true, true, true, true, false, false] (fun s_ => [(55, s_.1), (56, .tuple #[.agg #[s_.2.1, .bool t279], s_.2.2.1]), (12, .pointer (some ⟨s_.2.2.2, 0, none⟩)), (50, .tuple #[.agg #[s_.2.1, .bool t279], s_.2.2.1]), (57, .agg #[s_.2.1, .bool t279]), (58, s_.2.2.1)]) (fun s_ w' => (w'.cell? ⟨gb266, 0, none⟩ = some (.slice Ao31 x267000_2.length co31) ∧ w'.cell? ⟨gb266, 1, none⟩ = some (.bool x267001_2)) ∧ (Kd.V (Kd.int .u8) 5 w' w.heap.size (fun k_ => (P0_ k_ ∨ w.heap.size ≤ k_) ∧ some k_ ≠ (s_.1 : Value).ownBlock ∧ some k_ ≠ (s_.2.2.1 : Value).ownBlock ∧ some k_ ≠ (v263 : Value).ownBlock ∧ some k_ ≠ (u8 : Value).ownBlock ∧ k_ ≠ gb265 ∧ k_ ≠ gb266 ∧ k_ ≠ s_.2.2.2) (.slice Ao30 y268.length co30) y268) ∧ (Kd.N (Kd.slice 5 (Kd.int .u8)) 35 w' w.heap.size (fun k_ => (P0_ k_ ∨ w.heap.size ≤ k_) ∧ some k_ ≠ (s_.2.2.1 : Value).ownBlock ∧ some k_ ≠ (v263 : Value).ownBlock ∧ some k_ ≠ (u8 : Value).ownBlock ∧ k_ ≠ gb265 ∧ k_ ≠ gb266 ∧ k_ ≠ s_.2.2.2) s_.1 y273) ∧ (Kd.V (Kd.int .u8) 5 w' w.heap.size (fun k_ => (P0_ k_ ∨ w.heap.size ≤ k_) ∧ some k_ ≠ (s_.1 : Value).ownBlock ∧ some k_ ≠ (s_.2.2.1 : Value).ownBlock ∧ some k_ ≠ (v263 : Value).ownBlock ∧ some k_ ≠ (u8 : Value).ownBlock ∧ k_ ≠ gb265 ∧ k_ ≠ gb266 ∧ k_ ≠ s_.2.2.2) s_.2.1 t276) ∧ (Kd.R k54 54 w' w.heap.size (fun k_ => (w.heap.size ≤ k_) ∧ some k_ ≠ (v263 : Value).ownBlock ∧ some k_ ≠ (u8 : Value).ownBlock) s_.2.2.1 t280) ∧ (Kd.V (Kd.int .u8) 5 w' w.heap.size (fun k_ => (P0_ k_ ∨ w.heap.size ≤ k_) ∧ some k_ ≠ (s_.1 : Value).ownBlock ∧ some k_ ≠ (s_.2.2.1 : Value).ownBlock ∧ some k_ ≠ (v263 : Value).ownBlock ∧ some k_ ≠ (u8 : Value).ownBlock ∧ k_ ≠ gb265 ∧ k_ ≠ gb266 ∧ k_ ≠ s_.2.2.2) (.slice Ao15 t258.length co15) t258) ∧ (Kd.V (Kd.int .u8) 5 w' w.heap.size (fun k_ => (P0_ k_ ∨ w.heap.size ≤ k_) ∧ some k_ ≠ (s_.1 : Value).ownBlock ∧ some k_ ≠ (s_.2.2.1 : Value).ownBlock ∧ some k_ ≠ (v263 : Value).ownBlock ∧ some k_ ≠ (u8 : Value).ownBlock ∧ k_ ≠ gb265 ∧ k_ ≠ gb266 ∧ k_ ≠ s_.2.2.2) (.slice Ao31 x267000_2.length co31) x267000_2) ∧ (Kd.R k54 54 w' w.heap.size (fun k_ => (w.heap.size ≤ k_) ∧ some k_ ≠ (s_.2.2.1 : Value).ownBlock ∧ some k_ ≠ (u8 : Value).ownBlock) v263 t262) ∧ (Kd.R k54 54 w' w.heap.size (fun k_ => (w.heap.size ≤ k_) ∧ some k_ ≠ (s_.2.2.1 : Value).ownBlock ∧ some k_ ≠ (v263 : Value).ownBlock) u8 x8_2) ∧ (Kd.V (Kd.int .u8) 5 w' w.heap.size (fun k_ => (P0_ k_ ∨ w.heap.size ≤ k_) ∧ some k_ ≠ (s_.1 : Value).ownBlock ∧ some k_ ≠ (s_.2.2.1 : Value).ownBlock ∧ some k_ ≠ (v263 : Value).ownBlock ∧ some k_ ≠ (u8 : Value).ownBlock ∧ k_ ≠ gb265 ∧ k_ ≠ gb266 ∧ k_ ≠ s_.2.2.2) (.slice Ao30 x9_2.length co30) x9_2) ∧ (w'.heap[gb265]? = some (.cells #[.slice Ao15 t258.length co15, .bool t261] 38 (0, 0))) ∧ (w'.heap[gb266]? = some (.cells #[.slice Ao31 x267000_2.length co31, .bool x267001_2] 38 (0, 0))) ∧ (w'.heap[s_.2.2.2]? = some (.cells #[.slice none 0 0, .bool false] 38 (0, 0))) ∧ (w.heap.size ≤ s_.2.2.2) ∧ (w.heap.size ≤ s_.2.2.2) ∧ (gb265 ≠ s_.2.2.2) ∧ (s_.2.2.2 ≠ gb265) ∧ (gb266 ≠ s_.2.2.2) ∧ (s_.2.2.2 ≠ gb266) ∧ (Below w.heap.size w w')) ?_ ?_
             rotate_left
             ·intro hCont
              refine two_ (i := 4) (j := 9) (Ni := some 55) (Nj := some 12) #[true, true, true, true, true, false, false, false, false, false, false, false] #[true, true, true, true, false, false, false, false, false, true, false, false] rfl rfl rfl rfl (two_of HT_.out qK) (by decide) (by decide) (fun K hK => ?_) (fun K hK => ?_)
              ·skip
               refine Kd.N_lit_step (Kd.slice 5 (Kd.int .u8)) _ 35 ?hg (N' := 55) ?hd (xs := ([y268] : List (List Int))) (inner := [.slice Ao30 y268.length co30]) (ok := (fun k_ => (P0_ k_ ∨ w.heap.size ≤ k_) ∧ some k_ ≠ (v263 : Value).ownBlock ∧ some k_ ≠ (u8 : Value).ownBlock ∧ k_ ≠ gb265 ∧ k_ ≠ gb266)) (okp := (fun k_ => (P0_ k_ ∨ w.heap.size ≤ k_) ∧ some k_ ≠ (v263 : Value).ownBlock ∧ some k_ ≠ (u8 : Value).ownBlock ∧ k_ ≠ gb265 ∧ k_ ≠ gb266)) ?hr ?hp (fun _ hk => hk) ((show ∀ k_, w32.heap.size ≤ k_ → (fun k_ => (P0_ k_ ∨ w.heap.size ≤ k_) ∧ some k_ ≠ (v263 : Value).ownBlock ∧ some k_ ≠ (u8 : Value).ownBlock ∧ k_ ≠ gb265 ∧ k_ ≠ gb266) k_ from fun k_ hk => ⟨(.inr (Nat.le_trans (below_size qC) hk)), Kd.fresh' (Kd.R_lt (qR HO_6)) k_ hk, Kd.fresh' (Kd.R_lt (qR HO_8)) k_ hk, Kd.freshB (g := gb265) (o := .cells #[.slice Ao15 t258.length co15, .bool t261] 38 (0, 0)) (qW BK265) k_ hk, Kd.freshB (g := gb266) (o := .cells #[.slice Ao31 x267000_2.length co31, .bool x267001_2] 38 (0, 0)) (qW BK266) k_ hk⟩) _ (Nat.le_refl _)) (Below.refl _ _) (Nat.le_refl _) (by simp) ?_; (case hd => rfl); (case hg => rfl); (case hr => first | (go_simp; done) | (go_simp; rfl)); (case hp => exact (Reps.one (show Kd.FK (Kd.slice 5 (Kd.int .u8)) _ _ y268 [.slice Ao30 y268.length co30] from (Kd.FK_slice_mk (Kd.V_reads' (Kd.V_mono (ok' := (fun k_ => (P0_ k_ ∨ w.heap.size ≤ k_) ∧ some k_ ≠ (v263 : Value).ownBlock ∧ some k_ ≠ (u8 : Value).ownBlock ∧ k_ ≠ gb265 ∧ k_ ≠ gb266)) (HO272.out) (fun k_ hk => ⟨hk.1, ⟨hk.2.1, ⟨hk.2.2.1, ⟨hk.2.2.2.1, hk.2.2.2.2⟩⟩⟩⟩))).2.1 (Kd.V_F (Kd.V_mono (ok' := (fun k_ => (P0_ k_ ∨ w.heap.size ≤ k_) ∧ some k_ ≠ (v263 : Value).ownBlock ∧ some k_ ≠ (u8 : Value).ownBlock ∧ k_ ≠ gb265 ∧ k_ ≠ gb266)) (HO272.out) (fun k_ hk => ⟨hk.1, ⟨hk.2.1, ⟨hk.2.2.1, ⟨hk.2.2.2.1, hk.2.2.2.2⟩⟩⟩⟩))))) (Reps.none _ _)))
               intro v274 w34 ho35 hb hg_ hnew_
               clear hg_ hnew_
               (first | rw [← Ny273.out] at ho35 | (simp only [Int.reduceToNat] at ho35; rw [← Ny273.out] at ho35))
               have n0_ := Aside0.mk (Kd.R_below (qR HO_6) hb)
               have n1_ := Aside0.mk (Kd.R_below (qR HO_8) hb)
               have n2_ := Aside0.mk (Kd.V_elder' (by (with_reducible repeat (first | apply Kd.V_alloc | apply Kd.V_drewN | apply Kd.V_drew)); exact HO_9.out) (Kd.N_base ho35) hb)
               have n3_ := Aside0.mk (Kd.V_elder' (by (with_reducible repeat (first | apply Kd.V_alloc | apply Kd.V_drewN | apply Kd.V_drew)); exact HO_266000.out) (Kd.N_base ho35) hb)
               have n4_ := Aside0.mk (Kd.V_elder' (by (with_reducible repeat (first | apply Kd.V_alloc | apply Kd.V_drewN | apply Kd.V_drew)); exact HO_267000.out) (Kd.N_base ho35) hb)
               have n5_ := Aside0.mk (Kd.V_elder' (by (with_reducible repeat (first | apply Kd.V_alloc | apply Kd.V_drewN | apply Kd.V_drew)); exact HO272.out) (Kd.N_base ho35) hb)
               have n6_ := Aside0.mk (Kd.N_lower ho35 (below_size qC))
               have n7_ := Aside0.mk (blk_below (g := gb265) (o := .cells #[.slice Ao15 t258.length co15, .bool t261] 38 (0, 0)) (qW BK265) hb)
               have n8_ := Aside0.mk (blk_below (g := gb266) (o := .cells #[.slice Ao31 x267000_2.length co31, .bool x267001_2] 38 (0, 0)) (qW BK266) hb)
               have n9_ := Aside0.mk (below_step qC hb)
               clear HO_6
               clear HO_8
               clear HO_9
               clear HO_266000
               clear HO_267000
               clear HO272
               clear BK265
               clear BK266
               clear HB
               have HO_6 := n0_
               have HO_8 := n1_
               have HO_9 := n2_
               have HO_266000 := n3_
               have HO_267000 := n4_
               have HO272 := n5_
               have HO275 := n6_
               have BK265 := n7_
               have BK266 := n8_
               have HB := n9_
               clear n0_ n1_ n2_ n3_ n4_ n5_ n6_ n7_ n8_ n9_
               clear hb ho35
               obtain ⟨Ao36, co36, eo36⟩ := Kd.N_slice HO275.out
               (first | subst eo36 | (injection eo36 with f1_ f2_ f3_; have f4_ := f1_.symm; have f5_ := f3_.symm; clear f1_ f2_ f3_; subst f4_; subst f5_))
               refine hK.out _ _ ⟨(blk_cell BK266.out 0).trans rfl, (blk_cell BK266.out 1).trans rfl⟩ (fun hHeld => ?_)
               clear hK K
               refine norm_ (a' := ?_) ?_ ?_
               rotate_left
               ·show Act.put _ (some 55) _ = _
                simp only [Act.put, List.setIfInBounds_toArray, List.set_cons_zero, List.set_cons_succ, i64_w, i32_w]
                rfl
               refine two_ (i := 5) (j := 9) (Ni := some 56) (Nj := some 12) #[true, true, true, true, true, true, false, false, false, false, false, false] #[true, true, true, true, true, false, false, false, false, true, false, false] rfl rfl rfl rfl (two_of HT_.out qK) (by decide) (by decide) (fun K hK => ?_) (fun K hK => ?_)
               ·skip
                refine goes_ Try.func22 qK rfl #[.agg #[.slice Ao31 x267000_2.length co31, .bool x267001_2], .slice Ao36 y273.length co36] (by rfl) rfl rfl qG ?_
                with_reducible refine (frame_Push.calls (fun k_ => (((P0_ k_ ∨ w.heap.size ≤ k_) ∧ (some k_ ≠ (v263 : Value).ownBlock ∧ (some k_ ≠ (u8 : Value).ownBlock ∧ (k_ ≠ gb265 ∧ k_ ≠ gb266)))) ∧ some k_ ≠ (.slice Ao36 y273.length co36 : Value).ownBlock)) _ _ x267000_2 x267001_2 _ _ y273 t276 t279 t280 _ ?side1 ?side2 ?side3 A26.out).mono ?_
                (case side1 => exact HO_267000.out)
                (case side2 => repeat (first | exact (Kd.N_reads' HO275.out).2.2 | (with_reducible refine Kd.C_alloc ?_ _) | (with_reducible refine Kd.C_drewN ?_ _) | (with_reducible refine Kd.C_drew ?_)))
                (case side3 => exact (Kd.N_reads' HO275.out).2.1)
                rintro e w37 ⟨v277, v281, rfl, ho0, ho1, hb⟩
                refine ⟨_, rfl, ?_⟩
                have n0_ := Aside0.mk (Kd.R_elder' (qR HO_6) (Kd.R_base ho1) hb)
                have n1_ := Aside0.mk (Kd.R_elder' (qR HO_8) (Kd.R_base ho1) hb)
                have n2_ := Aside0.mk (Kd.V_elder' (by (with_reducible repeat (first | apply Kd.V_alloc | apply Kd.V_drewN | apply Kd.V_drew)); exact HO_9.out) (Kd.R_base ho1) hb)
                have n3_ := Aside0.mk (Kd.V_elder' (by (with_reducible repeat (first | apply Kd.V_alloc | apply Kd.V_drewN | apply Kd.V_drew)); exact HO_266000.out) (Kd.R_base ho1) hb)
                have n4_ := Aside0.mk (Kd.V_elder' (by (with_reducible repeat (first | apply Kd.V_alloc | apply Kd.V_drewN | apply Kd.V_drew)); exact HO_267000.out) (Kd.R_base ho1) hb)
                have n5_ := Aside0.mk (Kd.V_elder' (by (with_reducible repeat (first | apply Kd.V_alloc | apply Kd.V_drewN | apply Kd.V_drew)); exact HO272.out) (Kd.R_base ho1) hb)
                have n6_ := Aside0.mk (Kd.N_elder' (by (with_reducible repeat (first | apply Kd.N_alloc | apply Kd.N_drewN | apply Kd.N_drew)); exact HO275.out) (Kd.R_base ho1) hb)
                have n7_ := Aside0.mk (Kd.V_lower (Kd.V_mono (ok' := fun k_ => (P0_ k_ ∨ w.heap.size ≤ k_) ∧ some k_ ≠ (v281 : Value).ownBlock ∧ some k_ ≠ (v263 : Value).ownBlock ∧ some k_ ≠ (u8 : Value).ownBlock ∧ some k_ ≠ (.slice Ao36 y273.length co36 : Value).ownBlock ∧ k_ ≠ gb265 ∧ k_ ≠ gb266) ho0 (fun k_ hk_ => ⟨Or.elim hk_.1 (fun hs_ => hs_.1.1) (fun hn_ => (.inr (Nat.le_trans (below_size qC) hn_))), hk_.2, Or.elim hk_.1 (fun hs_ => hs_.1.2.1) (fun hn_ => (Kd.fresh' (Kd.R_lt (qR HO_6)) k_ hn_)), Or.elim hk_.1 (fun hs_ => hs_.1.2.2.1) (fun hn_ => (Kd.fresh' (Kd.R_lt (qR HO_8)) k_ hn_)), Or.elim hk_.1 (fun hs_ => hs_.2) (fun hn_ => (Kd.fresh' (Kd.N_lt (by (with_reducible repeat (first | apply Kd.N_alloc | apply Kd.N_drewN | apply Kd.N_drew)); exact HO275.out)) k_ hn_)), Or.elim hk_.1 (fun hs_ => hs_.1.2.2.2.1) (fun hn_ => (Kd.freshB (g := gb265) (o := .cells #[.slice Ao15 t258.length co15, .bool t261] 38 (0, 0)) (qW BK265) k_ hn_)), Or.elim hk_.1 (fun hs_ => hs_.1.2.2.2.2) (fun hn_ => (Kd.freshB (g := gb266) (o := .cells #[.slice Ao31 x267000_2.length co31, .bool x267001_2] 38 (0, 0)) (qW BK266) k_ hn_))⟩)) (below_size qC))
                have n8_ := Aside0.mk (Kd.R_lower (Kd.R_new' (Kd.R_new' (Kd.R_newM (M := fun k_ => (w.heap.size ≤ k_)) (Kd.R_mono (ok' := fun k_ => True) ho1 (fun _ hk_ => trivial)) (below_size qC) (fun k_ h_ => h_)) (Kd.R_lt (qR HO_6))) (Kd.R_lt (qR HO_8))) (below_size qC))
                have n9_ := Aside0.mk (blk_below (g := gb265) (o := .cells #[.slice Ao15 t258.length co15, .bool t261] 38 (0, 0)) (qW BK265) hb)
                have n10_ := Aside0.mk (blk_below (g := gb266) (o := .cells #[.slice Ao31 x267000_2.length co31, .bool x267001_2] 38 (0, 0)) (qW BK266) hb)
                have n11_ := Aside0.mk (below_step qC hb)
                clear HO_6
                clear HO_8
                clear HO_9
                clear HO_266000
                clear HO_267000
                clear HO272
                clear HO275
                clear BK265
                clear BK266
                clear HB
                have HO_6 := n0_
                have HO_8 := n1_
                have HO_9 := n2_
                have HO_266000 := n3_
                have HO_267000 := n4_
                have HO272 := n5_
                have HO275 := n6_
                have HO278 := n7_
                have HO282 := n8_
                have BK265 := n9_
                have BK266 := n10_
                have HB := n11_
                clear n0_ n1_ n2_ n3_ n4_ n5_ n6_ n7_ n8_ n9_ n10_ n11_
                (try clear hb)
                (try clear hb2)
                (try clear hk)
                (try clear hi)
                (try clear ho0)
                (try clear ho1)
                refine hK.out _ _ ⟨(blk_cell BK266.out 0).trans rfl, (blk_cell BK266.out 1).trans rfl⟩ (fun hHeld => ?_)
                clear hK K
                refine norm_ (a' := ?_) ?_ ?_
                rotate_left
                ·show Act.put _ (some 56) _ = _
                 simp only [Act.put, List.setIfInBounds_toArray, List.set_cons_zero, List.set_cons_succ, i64_w, i32_w]
                 rfl
                refine pure_ (i := 6) (N := some 50) (v := ?_) (a' := ?_) #[true, true, true, true, true, true, true, false, false, false, false, false] rfl rfl (any_of HT_.out qK) (fun _ _ _ h => h) (Or.inl ⟨by rfl, ?_⟩) ?_ ?_
                rotate_left
                ·intro w'; go_simp; with_reducible rfl
                rotate_left
                ·simp only [Act.put, List.setIfInBounds_toArray, List.set_cons_zero, List.set_cons_succ, i64_w, i32_w]; rfl
                refine pure_ (i := 7) (N := some 57) (v := ?_) (a' := ?_) #[true, true, true, true, true, true, true, true, false, false, false, false] rfl rfl (any_of HT_.out qK) (fun _ _ _ h => h) (Or.inl ⟨by rfl, ?_⟩) ?_ ?_
                rotate_left
                ·intro w'; go_simp; with_reducible rfl
                rotate_left
                ·simp only [Act.put, List.setIfInBounds_toArray, List.set_cons_zero, List.set_cons_succ, i64_w, i32_w]; rfl
                refine pure_ (i := 8) (N := some 58) (v := ?_) (a' := ?_) #[true, true, true, true, true, true, true, true, true, false, false, false] rfl rfl (any_of HT_.out qK) (fun _ _ _ h => h) (Or.inl ⟨by rfl, ?_⟩) ?_ ?_
                rotate_left
                ·intro w'; go_simp; with_reducible rfl
                rotate_left
                ·simp only [Act.put, List.setIfInBounds_toArray, List.set_cons_zero, List.set_cons_succ, i64_w, i32_w]; rfl
                refine one_ (i := 9) (N := some 12) #[true, true, true, true, true, true, true, true, true, true, false, false] rfl rfl (one_of HT_.out qK) (by decide) (fun K hK => ?_)
                refine box_step ?hg (N := 12) ?hd (cs := #[.slice none 0 0, .bool false]) (t := 38) ?hr ?_; (case hd => rfl); (case hg => rfl); (case hr => first | (go_simp; done) | (go_simp; rfl))
                intro gb283 hg w38 hbox hb
                have n0_ := Aside0.mk (Kd.R_below (qR HO_6) hb)
                have n1_ := Aside0.mk (Kd.R_below (qR HO_8) hb)
                have n2_ := Aside0.mk (Kd.V_below (Kd.V_elderB (by (with_reducible repeat (first | apply Kd.V_alloc | apply Kd.V_drewN | apply Kd.V_drew)); exact HO_9.out) gb283 (Nat.le_of_eq hg.symm)) hb)
                have n3_ := Aside0.mk (Kd.V_below (Kd.V_elderB (by (with_reducible repeat (first | apply Kd.V_alloc | apply Kd.V_drewN | apply Kd.V_drew)); exact HO_266000.out) gb283 (Nat.le_of_eq hg.symm)) hb)
                have n4_ := Aside0.mk (Kd.V_below (Kd.V_elderB (by (with_reducible repeat (first | apply Kd.V_alloc | apply Kd.V_drewN | apply Kd.V_drew)); exact HO_267000.out) gb283 (Nat.le_of_eq hg.symm)) hb)
                have n5_ := Aside0.mk (Kd.V_below (Kd.V_elderB (by (with_reducible repeat (first | apply Kd.V_alloc | apply Kd.V_drewN | apply Kd.V_drew)); exact HO272.out) gb283 (Nat.le_of_eq hg.symm)) hb)
                have n6_ := Aside0.mk (Kd.N_below (Kd.N_elderB (by (with_reducible repeat (first | apply Kd.N_alloc | apply Kd.N_drewN | apply Kd.N_drew)); exact HO275.out) gb283 (Nat.le_of_eq hg.symm)) hb)
                have n7_ := Aside0.mk (Kd.V_below (Kd.V_elderB (by (with_reducible repeat (first | apply Kd.V_alloc | apply Kd.V_drewN | apply Kd.V_drew)); exact HO278.out) gb283 (Nat.le_of_eq hg.symm)) hb)
                have n8_ := Aside0.mk (Kd.R_below (qR HO282) hb)
                have n9_ := Aside0.mk (blk_below (g := gb265) (o := .cells #[.slice Ao15 t258.length co15, .bool t261] 38 (0, 0)) (qW BK265) hb)
                have n10_ := Aside0.mk (blk_below (g := gb266) (o := .cells #[.slice Ao31 x267000_2.length co31, .bool x267001_2] 38 (0, 0)) (qW BK266) hb)
                have n11_ := Aside0.mk (below_step qC hb)
                have n12_ := Aside0.mk (hbox)
                have n13_ := Aside0.mk ((by rw [hg]; exact (below_size qC) : w.heap.size ≤ gb283))
                have n14_ := Aside0.mk ((by rw [hg]; exact (below_size qC) : w.heap.size ≤ gb283))
                have n15_ := Aside0.mk ((by rw [hg]; exact Nat.ne_of_lt (blk_lt (g := gb265) (o := .cells #[.slice Ao15 t258.length co15, .bool t261] 38 (0, 0)) (qW BK265)) : gb265 ≠ gb283))
                have n16_ := Aside0.mk ((by rw [hg]; exact Nat.ne_of_gt (blk_lt (g := gb265) (o := .cells #[.slice Ao15 t258.length co15, .bool t261] 38 (0, 0)) (qW BK265)) : gb283 ≠ gb265))
                have n17_ := Aside0.mk ((by rw [hg]; exact Nat.ne_of_lt (blk_lt (g := gb266) (o := .cells #[.slice Ao31 x267000_2.length co31, .bool x267001_2] 38 (0, 0)) (qW BK266)) : gb266 ≠ gb283))
                have n18_ := Aside0.mk ((by rw [hg]; exact Nat.ne_of_gt (blk_lt (g := gb266) (o := .cells #[.slice Ao31 x267000_2.length co31, .bool x267001_2] 38 (0, 0)) (qW BK266)) : gb283 ≠ gb266))
                clear HO_6
                clear HO_8
                clear HO_9
                clear HO_266000
                clear HO_267000
                clear HO272
                clear HO275
                clear HO278
                clear HO282
                clear BK265
                clear BK266
                clear HB
                have HO_6 := n0_
                have HO_8 := n1_
                have HO_9 := n2_
                have HO_266000 := n3_
                have HO_267000 := n4_
                have HO272 := n5_
                have HO275 := n6_
                have HO278 := n7_
                have HO282 := n8_
                have BK265 := n9_
                have BK266 := n10_
                have HB := n11_
                have BK283 := n12_
                have GW283 := n13_
                have GE283 := n14_
                have NB265_283 := n15_
                have NB283_265 := n16_
                have NB266_283 := n17_
                have NB283_266 := n18_
                clear n0_ n1_ n2_ n3_ n4_ n5_ n6_ n7_ n8_ n9_ n10_ n11_ n12_ n13_ n14_ n15_ n16_ n17_ n18_
                clear hb hbox hg
                refine hK.out _ _ ⟨(blk_cell BK266.out 0).trans rfl, (blk_cell BK266.out 1).trans rfl⟩ (fun hHeld => ?_)
                clear hK K
                refine norm_ (a' := ?_) ?_ ?_
                rotate_left
                ·show Act.put _ (some 12) _ = _
                 simp only [Act.put, List.setIfInBounds_toArray, List.set_cons_zero, List.set_cons_succ, i64_w, i32_w]
                 rfl
                exact norm_ (by simp only [putAll, Act.put, List.setIfInBounds_toArray, List.set_cons_zero, List.set_cons_succ]) (hCont (.slice Ao36 y273.length co36, v277, v281, gb283) _ ⟨hHeld, (by (with_reducible repeat (first | apply Kd.V_alloc | apply Kd.V_drewN | apply Kd.V_drew)); exact Kd.V_mono HO272.out (fun _ hk => ⟨hk.1.1.1.1, ⟨hk.1.1.2, ⟨hk.1.2, ⟨hk.1.1.1.2.1, ⟨hk.1.1.1.2.2.1, ⟨hk.1.1.1.2.2.2.1, ⟨hk.1.1.1.2.2.2.2, hk.2⟩⟩⟩⟩⟩⟩⟩)), (by (with_reducible repeat (first | apply Kd.N_alloc | apply Kd.N_drewN | apply Kd.N_drew)); exact Kd.N_mono HO275.out (fun _ hk => ⟨hk.1.1.1, ⟨hk.1.2, ⟨hk.1.1.2.1, ⟨hk.1.1.2.2.1, ⟨hk.1.1.2.2.2.1, ⟨hk.1.1.2.2.2.2, hk.2⟩⟩⟩⟩⟩⟩)), (by (with_reducible repeat (first | apply Kd.V_alloc | apply Kd.V_drewN | apply Kd.V_drew)); exact Kd.V_mono HO278.out (fun _ hk => ⟨hk.1.1, ⟨hk.1.2.2.2.2.1, ⟨hk.1.2.1, ⟨hk.1.2.2.1, ⟨hk.1.2.2.2.1, ⟨hk.1.2.2.2.2.2.1, ⟨hk.1.2.2.2.2.2.2, hk.2⟩⟩⟩⟩⟩⟩⟩)), (by (with_reducible repeat (first | apply Kd.R_alloc | apply Kd.R_drewN | apply Kd.R_drew)); exact Kd.R_mono HO282.out (fun _ hk => ⟨hk.1.1.1, ⟨hk.1.2, hk.2⟩⟩)), (by (with_reducible repeat (first | apply Kd.V_alloc | apply Kd.V_drewN | apply Kd.V_drew)); exact Kd.V_mono HO_266000.out (fun _ hk => ⟨hk.1.1.1.1, ⟨hk.1.1.2, ⟨hk.1.2, ⟨hk.1.1.1.2.1, ⟨hk.1.1.1.2.2.1, ⟨hk.1.1.1.2.2.2.1, ⟨hk.1.1.1.2.2.2.2, hk.2⟩⟩⟩⟩⟩⟩⟩)), (by (with_reducible repeat (first | apply Kd.V_alloc | apply Kd.V_drewN | apply Kd.V_drew)); exact Kd.V_mono HO_267000.out (fun _ hk => ⟨hk.1.1.1.1, ⟨hk.1.1.2, ⟨hk.1.2, ⟨hk.1.1.1.2.1, ⟨hk.1.1.1.2.2.1, ⟨hk.1.1.1.2.2.2.1, ⟨hk.1.1.1.2.2.2.2, hk.2⟩⟩⟩⟩⟩⟩⟩)), (by (with_reducible repeat (first | apply Kd.R_alloc | apply Kd.R_drewN | apply Kd.R_drew)); exact Kd.R_mono HO_6.out (fun _ hk => ⟨hk.1.1, ⟨hk.2, hk.1.2⟩⟩)), (by (with_reducible repeat (first | apply Kd.R_alloc | apply Kd.R_drewN | apply Kd.R_drew)); exact Kd.R_mono HO_8.out (fun _ hk => ⟨hk.1.1, ⟨hk.2, hk.1.2⟩⟩)), (by (with_reducible repeat (first | apply Kd.V_alloc | apply Kd.V_drewN | apply Kd.V_drew)); exact Kd.V_mono HO_9.out (fun _ hk => ⟨hk.1.1.1.1, ⟨hk.1.1.2, ⟨hk.1.2, ⟨hk.1.1.1.2.1, ⟨hk.1.1.1.2.2.1, ⟨hk.1.1.1.2.2.2.1, ⟨hk.1.1.1.2.2.2.2, hk.2⟩⟩⟩⟩⟩⟩⟩)), (qW BK265), (qW BK266), (qW BK283), GW283.out, GE283.out, NB265_283.out, NB283_265.out, NB266_283.out, NB283_266.out, qC⟩)
               ·skip
                refine box_step ?hg (N := 12) ?hd (cs := #[.slice none 0 0, .bool false]) (t := 38) ?hr ?_; (case hd => rfl); (case hg => rfl); (case hr => first | (go_simp; done) | (go_simp; rfl))
                intro gb283 hg w36 hbox hb
                have n0_ := Aside0.mk (Kd.R_below (qR HO_6) hb)
                have n1_ := Aside0.mk (Kd.R_below (qR HO_8) hb)
                have n2_ := Aside0.mk (Kd.V_below (Kd.V_elderB (by (with_reducible repeat (first | apply Kd.V_alloc | apply Kd.V_drewN | apply Kd.V_drew)); exact HO_9.out) gb283 (Nat.le_of_eq hg.symm)) hb)
                have n3_ := Aside0.mk (Kd.V_below (Kd.V_elderB (by (with_reducible repeat (first | apply Kd.V_alloc | apply Kd.V_drewN | apply Kd.V_drew)); exact HO_266000.out) gb283 (Nat.le_of_eq hg.symm)) hb)
                have n4_ := Aside0.mk (Kd.V_below (Kd.V_elderB (by (with_reducible repeat (first | apply Kd.V_alloc | apply Kd.V_drewN | apply Kd.V_drew)); exact HO_267000.out) gb283 (Nat.le_of_eq hg.symm)) hb)
                have n5_ := Aside0.mk (Kd.V_below (Kd.V_elderB (by (with_reducible repeat (first | apply Kd.V_alloc | apply Kd.V_drewN | apply Kd.V_drew)); exact HO272.out) gb283 (Nat.le_of_eq hg.symm)) hb)
                have n6_ := Aside0.mk (Kd.N_below (Kd.N_elderB (by (with_reducible repeat (first | apply Kd.N_alloc | apply Kd.N_drewN | apply Kd.N_drew)); exact HO275.out) gb283 (Nat.le_of_eq hg.symm)) hb)
                have n7_ := Aside0.mk (blk_below (g := gb265) (o := .cells #[.slice Ao15 t258.length co15, .bool t261] 38 (0, 0)) (qW BK265) hb)
                have n8_ := Aside0.mk (blk_below (g := gb266) (o := .cells #[.slice Ao31 x267000_2.length co31, .bool x267001_2] 38 (0, 0)) (qW BK266) hb)
                have n9_ := Aside0.mk (below_step qC hb)
                have n10_ := Aside0.mk (hbox)
                have n11_ := Aside0.mk ((by rw [hg]; exact (below_size qC) : w.heap.size ≤ gb283))
                have n12_ := Aside0.mk ((by rw [hg]; exact (below_size qC) : w.heap.size ≤ gb283))
                have n13_ := Aside0.mk ((by rw [hg]; exact Nat.ne_of_lt (blk_lt (g := gb265) (o := .cells #[.slice Ao15 t258.length co15, .bool t261] 38 (0, 0)) (qW BK265)) : gb265 ≠ gb283))
                have n14_ := Aside0.mk ((by rw [hg]; exact Nat.ne_of_gt (blk_lt (g := gb265) (o := .cells #[.slice Ao15 t258.length co15, .bool t261] 38 (0, 0)) (qW BK265)) : gb283 ≠ gb265))
                have n15_ := Aside0.mk ((by rw [hg]; exact Nat.ne_of_lt (blk_lt (g := gb266) (o := .cells #[.slice Ao31 x267000_2.length co31, .bool x267001_2] 38 (0, 0)) (qW BK266)) : gb266 ≠ gb283))
                have n16_ := Aside0.mk ((by rw [hg]; exact Nat.ne_of_gt (blk_lt (g := gb266) (o := .cells #[.slice Ao31 x267000_2.length co31, .bool x267001_2] 38 (0, 0)) (qW BK266)) : gb283 ≠ gb266))
                clear HO_6
                clear HO_8
                clear HO_9
                clear HO_266000
                clear HO_267000
                clear HO272
                clear HO275
                clear BK265
                clear BK266
                clear HB
                have HO_6 := n0_
                have HO_8 := n1_
                have HO_9 := n2_
                have HO_266000 := n3_
                have HO_267000 := n4_
                have HO272 := n5_
                have HO275 := n6_
                have BK265 := n7_
                have BK266 := n8_
                have HB := n9_
                have BK283 := n10_
                have GW283 := n11_
                have GE283 := n12_
                have NB265_283 := n13_
                have NB283_265 := n14_
                have NB266_283 := n15_
                have NB283_266 := n16_
                clear n0_ n1_ n2_ n3_ n4_ n5_ n6_ n7_ n8_ n9_ n10_ n11_ n12_ n13_ n14_ n15_ n16_
                clear hb hbox hg
                obtain ⟨Ao37, co37, eo37⟩ := Kd.N_slice HO275.out
                (first | subst eo37 | (injection eo37 with f1_ f2_ f3_; have f4_ := f1_.symm; have f5_ := f3_.symm; clear f1_ f2_ f3_; subst f4_; subst f5_))
                refine hK.out _ _ ⟨(blk_cell BK266.out 0).trans rfl, (blk_cell BK266.out 1).trans rfl⟩ (fun hHeld => ?_)
                clear hK K
                refine norm_ (a' := ?_) ?_ ?_
                rotate_left
                ·show Act.put _ (some 12) _ = _
                 simp only [Act.put, List.setIfInBounds_toArray, List.set_cons_zero, List.set_cons_succ, i64_w, i32_w]
                 rfl
                refine one_ (i := 5) (N := some 56) #[true, true, true, true, true, true, false, false, false, true, false, false] rfl rfl (one_of HT_.out qK) (by decide) (fun K hK => ?_)
                refine goes_ Try.func22 qK rfl #[.agg #[.slice Ao31 x267000_2.length co31, .bool x267001_2], .slice Ao37 y273.length co37] (by rfl) rfl rfl qG ?_
                with_reducible refine (frame_Push.calls (fun k_ => ((((P0_ k_ ∨ w.heap.size ≤ k_) ∧ (some k_ ≠ (v263 : Value).ownBlock ∧ (some k_ ≠ (u8 : Value).ownBlock ∧ (k_ ≠ gb265 ∧ k_ ≠ gb266)))) ∧ some k_ ≠ (.slice Ao37 y273.length co37 : Value).ownBlock) ∧ k_ ≠ gb283)) _ _ x267000_2 x267001_2 _ _ y273 t276 t279 t280 _ ?side1 ?side2 ?side3 A26.out).mono ?_
                (case side1 => exact HO_267000.out)
                (case side2 => repeat (first | exact (Kd.N_reads' HO275.out).2.2 | (with_reducible refine Kd.C_alloc ?_ _) | (with_reducible refine Kd.C_drewN ?_ _) | (with_reducible refine Kd.C_drew ?_)))
                (case side3 => exact (Kd.N_reads' HO275.out).2.1)
                rintro e w38 ⟨v277, v281, rfl, ho0, ho1, hb⟩
                refine ⟨_, rfl, ?_⟩
                have n0_ := Aside0.mk (Kd.R_elder' (qR HO_6) (Kd.R_base ho1) hb)
                have n1_ := Aside0.mk (Kd.R_elder' (qR HO_8) (Kd.R_base ho1) hb)
                have n2_ := Aside0.mk (Kd.V_elder' (by (with_reducible repeat (first | apply Kd.V_alloc | apply Kd.V_drewN | apply Kd.V_drew)); exact HO_9.out) (Kd.R_base ho1) hb)
                have n3_ := Aside0.mk (Kd.V_elder' (by (with_reducible repeat (first | apply Kd.V_alloc | apply Kd.V_drewN | apply Kd.V_drew)); exact HO_266000.out) (Kd.R_base ho1) hb)
                have n4_ := Aside0.mk (Kd.V_elder' (by (with_reducible repeat (first | apply Kd.V_alloc | apply Kd.V_drewN | apply Kd.V_drew)); exact HO_267000.out) (Kd.R_base ho1) hb)
                have n5_ := Aside0.mk (Kd.V_elder' (by (with_reducible repeat (first | apply Kd.V_alloc | apply Kd.V_drewN | apply Kd.V_drew)); exact HO272.out) (Kd.R_base ho1) hb)
                have n6_ := Aside0.mk (Kd.N_elder' (by (with_reducible repeat (first | apply Kd.N_alloc | apply Kd.N_drewN | apply Kd.N_drew)); exact HO275.out) (Kd.R_base ho1) hb)
                have n7_ := Aside0.mk (Kd.V_lower (Kd.V_mono (ok' := fun k_ => (P0_ k_ ∨ w.heap.size ≤ k_) ∧ some k_ ≠ (v281 : Value).ownBlock ∧ some k_ ≠ (v263 : Value).ownBlock ∧ some k_ ≠ (u8 : Value).ownBlock ∧ some k_ ≠ (.slice Ao37 y273.length co37 : Value).ownBlock ∧ k_ ≠ gb265 ∧ k_ ≠ gb266 ∧ k_ ≠ gb283) ho0 (fun k_ hk_ => ⟨Or.elim hk_.1 (fun hs_ => hs_.1.1.1) (fun hn_ => (.inr (Nat.le_trans (below_size qC) hn_))), hk_.2, Or.elim hk_.1 (fun hs_ => hs_.1.1.2.1) (fun hn_ => (Kd.fresh' (Kd.R_lt (qR HO_6)) k_ hn_)), Or.elim hk_.1 (fun hs_ => hs_.1.1.2.2.1) (fun hn_ => (Kd.fresh' (Kd.R_lt (qR HO_8)) k_ hn_)), Or.elim hk_.1 (fun hs_ => hs_.1.2) (fun hn_ => (Kd.fresh' (Kd.N_lt (by (with_reducible repeat (first | apply Kd.N_alloc | apply Kd.N_drewN | apply Kd.N_drew)); exact HO275.out)) k_ hn_)), Or.elim hk_.1 (fun hs_ => hs_.1.1.2.2.2.1) (fun hn_ => (Kd.freshB (g := gb265) (o := .cells #[.slice Ao15 t258.length co15, .bool t261] 38 (0, 0)) (qW BK265) k_ hn_)), Or.elim hk_.1 (fun hs_ => hs_.1.1.2.2.2.2) (fun hn_ => (Kd.freshB (g := gb266) (o := .cells #[.slice Ao31 x267000_2.length co31, .bool x267001_2] 38 (0, 0)) (qW BK266) k_ hn_)), Or.elim hk_.1 (fun hs_ => hs_.2) (fun hn_ => (Kd.freshB (g := gb283) (o := .cells #[.slice none 0 0, .bool false] 38 (0, 0)) (qW BK283) k_ hn_))⟩)) (below_size qC))
                have n8_ := Aside0.mk (Kd.R_lower (Kd.R_new' (Kd.R_new' (Kd.R_newM (M := fun k_ => (w.heap.size ≤ k_)) (Kd.R_mono (ok' := fun k_ => True) ho1 (fun _ hk_ => trivial)) (below_size qC) (fun k_ h_ => h_)) (Kd.R_lt (qR HO_6))) (Kd.R_lt (qR HO_8))) (below_size qC))
                have n9_ := Aside0.mk (blk_below (g := gb265) (o := .cells #[.slice Ao15 t258.length co15, .bool t261] 38 (0, 0)) (qW BK265) hb)
                have n10_ := Aside0.mk (blk_below (g := gb266) (o := .cells #[.slice Ao31 x267000_2.length co31, .bool x267001_2] 38 (0, 0)) (qW BK266) hb)
                have n11_ := Aside0.mk (blk_below (g := gb283) (o := .cells #[.slice none 0 0, .bool false] 38 (0, 0)) (qW BK283) hb)
                have n12_ := Aside0.mk (below_step qC hb)
                clear HO_6
                clear HO_8
                clear HO_9
                clear HO_266000
                clear HO_267000
                clear HO272
                clear HO275
                clear BK265
                clear BK266
                clear BK283
                clear HB
                have HO_6 := n0_
                have HO_8 := n1_
                have HO_9 := n2_
                have HO_266000 := n3_
                have HO_267000 := n4_
                have HO272 := n5_
                have HO275 := n6_
                have HO278 := n7_
                have HO282 := n8_
                have BK265 := n9_
                have BK266 := n10_
                have BK283 := n11_
                have HB := n12_
                clear n0_ n1_ n2_ n3_ n4_ n5_ n6_ n7_ n8_ n9_ n10_ n11_ n12_
                (try clear hb)
                (try clear hb2)
                (try clear hk)
                (try clear hi)
                (try clear ho0)
                (try clear ho1)
                refine hK.out _ _ ⟨(blk_cell BK266.out 0).trans rfl, (blk_cell BK266.out 1).trans rfl⟩ (fun hHeld => ?_)
                clear hK K
                refine norm_ (a' := ?_) ?_ ?_
                rotate_left
                ·show Act.put _ (some 56) _ = _
                 simp only [Act.put, List.setIfInBounds_toArray, List.set_cons_zero, List.set_cons_succ, i64_w, i32_w]
                 rfl
                refine pure_ (i := 6) (N := some 50) (v := ?_) (a' := ?_) #[true, true, true, true, true, true, true, false, false, true, false, false] rfl rfl (any_of HT_.out qK) (fun _ _ _ h => h) (Or.inl ⟨by rfl, ?_⟩) ?_ ?_
                rotate_left
                ·intro w'; go_simp; with_reducible rfl
                rotate_left
                ·simp only [Act.put, List.setIfInBounds_toArray, List.set_cons_zero, List.set_cons_succ, i64_w, i32_w]; rfl
                refine pure_ (i := 7) (N := some 57) (v := ?_) (a' := ?_) #[true, true, true, true, true, true, true, true, false, true, false, false] rfl rfl (any_of HT_.out qK) (fun _ _ _ h => h) (Or.inl ⟨by rfl, ?_⟩) ?_ ?_
                rotate_left
                ·intro w'; go_simp; with_reducible rfl
                rotate_left
                ·simp only [Act.put, List.setIfInBounds_toArray, List.set_cons_zero, List.set_cons_succ, i64_w, i32_w]; rfl
                refine pure_ (i := 8) (N := some 58) (v := ?_) (a' := ?_) #[true, true, true, true, true, true, true, true, true, true, false, false] rfl rfl (any_of HT_.out qK) (fun _ _ _ h => h) (Or.inl ⟨by rfl, ?_⟩) ?_ ?_
                rotate_left
                ·intro w'; go_simp; with_reducible rfl
                rotate_left
                ·simp only [Act.put, List.setIfInBounds_toArray, List.set_cons_zero, List.set_cons_succ, i64_w, i32_w]; rfl
                exact norm_ (by simp only [putAll, Act.put, List.setIfInBounds_toArray, List.set_cons_zero, List.set_cons_succ]) (hCont (.slice Ao37 y273.length co37, v277, v281, gb283) _ ⟨hHeld, (by (with_reducible repeat (first | apply Kd.V_alloc | apply Kd.V_drewN | apply Kd.V_drew)); exact Kd.V_mono HO272.out (fun _ hk => ⟨hk.1.1.1.1, ⟨hk.1.1.2, ⟨hk.2, ⟨hk.1.1.1.2.1, ⟨hk.1.1.1.2.2.1, ⟨hk.1.1.1.2.2.2.1, ⟨hk.1.1.1.2.2.2.2, hk.1.2⟩⟩⟩⟩⟩⟩⟩)), (by (with_reducible repeat (first | apply Kd.N_alloc | apply Kd.N_drewN | apply Kd.N_drew)); exact Kd.N_mono HO275.out (fun _ hk => ⟨hk.1.1.1, ⟨hk.2, ⟨hk.1.1.2.1, ⟨hk.1.1.2.2.1, ⟨hk.1.1.2.2.2.1, ⟨hk.1.1.2.2.2.2, hk.1.2⟩⟩⟩⟩⟩⟩)), (by (with_reducible repeat (first | apply Kd.V_alloc | apply Kd.V_drewN | apply Kd.V_drew)); exact Kd.V_mono HO278.out (fun _ hk => ⟨hk.1, ⟨hk.2.2.2.2.1, ⟨hk.2.1, ⟨hk.2.2.1, ⟨hk.2.2.2.1, ⟨hk.2.2.2.2.2.1, ⟨hk.2.2.2.2.2.2.1, hk.2.2.2.2.2.2.2⟩⟩⟩⟩⟩⟩⟩)), (by (with_reducible repeat (first | apply Kd.R_alloc | apply Kd.R_drewN | apply Kd.R_drew)); exact Kd.R_mono HO282.out (fun _ hk => ⟨hk.1.1.1, ⟨hk.1.2, hk.2⟩⟩)), (by (with_reducible repeat (first | apply Kd.V_alloc | apply Kd.V_drewN | apply Kd.V_drew)); exact Kd.V_mono HO_266000.out (fun _ hk => ⟨hk.1.1.1.1, ⟨hk.1.1.2, ⟨hk.2, ⟨hk.1.1.1.2.1, ⟨hk.1.1.1.2.2.1, ⟨hk.1.1.1.2.2.2.1, ⟨hk.1.1.1.2.2.2.2, hk.1.2⟩⟩⟩⟩⟩⟩⟩)), (by (with_reducible repeat (first | apply Kd.V_alloc | apply Kd.V_drewN | apply Kd.V_drew)); exact Kd.V_mono HO_267000.out (fun _ hk => ⟨hk.1.1.1.1, ⟨hk.1.1.2, ⟨hk.2, ⟨hk.1.1.1.2.1, ⟨hk.1.1.1.2.2.1, ⟨hk.1.1.1.2.2.2.1, ⟨hk.1.1.1.2.2.2.2, hk.1.2⟩⟩⟩⟩⟩⟩⟩)), (by (with_reducible repeat (first | apply Kd.R_alloc | apply Kd.R_drewN | apply Kd.R_drew)); exact Kd.R_mono HO_6.out (fun _ hk => ⟨hk.1.1, ⟨hk.2, hk.1.2⟩⟩)), (by (with_reducible repeat (first | apply Kd.R_alloc | apply Kd.R_drewN | apply Kd.R_drew)); exact Kd.R_mono HO_8.out (fun _ hk => ⟨hk.1.1, ⟨hk.2, hk.1.2⟩⟩)), (by (with_reducible repeat (first | apply Kd.V_alloc | apply Kd.V_drewN | apply Kd.V_drew)); exact Kd.V_mono HO_9.out (fun _ hk => ⟨hk.1.1.1.1, ⟨hk.1.1.2, ⟨hk.2, ⟨hk.1.1.1.2.1, ⟨hk.1.1.1.2.2.1, ⟨hk.1.1.1.2.2.2.1, ⟨hk.1.1.1.2.2.2.2, hk.1.2⟩⟩⟩⟩⟩⟩⟩)), (qW BK265), (qW BK266), (qW BK283), GW283.out, GE283.out, NB265_283.out, NB283_265.out, NB266_283.out, NB283_266.out, qC⟩)
              ·skip
               refine box_step ?hg (N := 12) ?hd (cs := #[.slice none 0 0, .bool false]) (t := 38) ?hr ?_; (case hd => rfl); (case hg => rfl); (case hr => first | (go_simp; done) | (go_simp; rfl))
               intro gb283 hg w34 hbox hb
               have n0_ := Aside0.mk (Kd.R_below (qR HO_6) hb)
               have n1_ := Aside0.mk (Kd.R_below (qR HO_8) hb)
               have n2_ := Aside0.mk (Kd.V_below (Kd.V_elderB (by (with_reducible repeat (first | apply Kd.V_alloc | apply Kd.V_drewN | apply Kd.V_drew)); exact HO_9.out) gb283 (Nat.le_of_eq hg.symm)) hb)
               have n3_ := Aside0.mk (Kd.V_below (Kd.V_elderB (by (with_reducible repeat (first | apply Kd.V_alloc | apply Kd.V_drewN | apply Kd.V_drew)); exact HO_266000.out) gb283 (Nat.le_of_eq hg.symm)) hb)
               have n4_ := Aside0.mk (Kd.V_below (Kd.V_elderB (by (with_reducible repeat (first | apply Kd.V_alloc | apply Kd.V_drewN | apply Kd.V_drew)); exact HO_267000.out) gb283 (Nat.le_of_eq hg.symm)) hb)
               have n5_ := Aside0.mk (Kd.V_below (Kd.V_elderB (by (with_reducible repeat (first | apply Kd.V_alloc | apply Kd.V_drewN | apply Kd.V_drew)); exact HO272.out) gb283 (Nat.le_of_eq hg.symm)) hb)
               have n6_ := Aside0.mk (blk_below (g := gb265) (o := .cells #[.slice Ao15 t258.length co15, .bool t261] 38 (0, 0)) (qW BK265) hb)
               have n7_ := Aside0.mk (blk_below (g := gb266) (o := .cells #[.slice Ao31 x267000_2.length co31, .bool x267001_2] 38 (0, 0)) (qW BK266) hb)
               have n8_ := Aside0.mk (below_step qC hb)
               have n9_ := Aside0.mk (hbox)
               have n10_ := Aside0.mk ((by rw [hg]; exact (below_size qC) : w.heap.size ≤ gb283))
               have n11_ := Aside0.mk ((by rw [hg]; exact (below_size qC) : w.heap.size ≤ gb283))
               have n12_ := Aside0.mk ((by rw [hg]; exact Nat.ne_of_lt (blk_lt (g := gb265) (o := .cells #[.slice Ao15 t258.length co15, .bool t261] 38 (0, 0)) (qW BK265)) : gb265 ≠ gb283))
               have n13_ := Aside0.mk ((by rw [hg]; exact Nat.ne_of_gt (blk_lt (g := gb265) (o := .cells #[.slice Ao15 t258.length co15, .bool t261] 38 (0, 0)) (qW BK265)) : gb283 ≠ gb265))
               have n14_ := Aside0.mk ((by rw [hg]; exact Nat.ne_of_lt (blk_lt (g := gb266) (o := .cells #[.slice Ao31 x267000_2.length co31, .bool x267001_2] 38 (0, 0)) (qW BK266)) : gb266 ≠ gb283))
               have n15_ := Aside0.mk ((by rw [hg]; exact Nat.ne_of_gt (blk_lt (g := gb266) (o := .cells #[.slice Ao31 x267000_2.length co31, .bool x267001_2] 38 (0, 0)) (qW BK266)) : gb283 ≠ gb266))
               clear HO_6
               clear HO_8
               clear HO_9
               clear HO_266000
               clear HO_267000
               clear HO272
               clear BK265
               clear BK266
               clear HB
               have HO_6 := n0_
               have HO_8 := n1_
               have HO_9 := n2_
               have HO_266000 := n3_
               have HO_267000 := n4_
               have HO272 := n5_
               have BK265 := n6_
               have BK266 := n7_
               have HB := n8_
               have BK283 := n9_
               have GW283 := n10_
               have GE283 := n11_
               have NB265_283 := n12_
               have NB283_265 := n13_
               have NB266_283 := n14_
               have NB283_266 := n15_
               clear n0_ n1_ n2_ n3_ n4_ n5_ n6_ n7_ n8_ n9_ n10_ n11_ n12_ n13_ n14_ n15_
               clear hb hbox hg
               refine hK.out _ _ ⟨(blk_cell BK266.out 0).trans rfl, (blk_cell BK266.out 1).trans rfl⟩ (fun hHeld => ?_)
               clear hK K
               refine norm_ (a' := ?_) ?_ ?_
               rotate_left
               ·show Act.put _ (some 12) _ = _
                simp only [Act.put, List.setIfInBounds_toArray, List.set_cons_zero, List.set_cons_succ, i64_w, i32_w]
                rfl
               refine one_ (i := 4) (N := some 55) #[true, true, true, true, true, false, false, false, false, true, false, false] rfl rfl (one_of HT_.out qK) (by decide) (fun K hK => ?_)
               refine Kd.N_lit_step (Kd.slice 5 (Kd.int .u8)) _ 35 ?hg (N' := 55) ?hd (xs := ([y268] : List (List Int))) (inner := [.slice Ao30 y268.length co30]) (ok := (fun k_ => (P0_ k_ ∨ w.heap.size ≤ k_) ∧ some k_ ≠ (v263 : Value).ownBlock ∧ some k_ ≠ (u8 : Value).ownBlock ∧ k_ ≠ gb265 ∧ k_ ≠ gb266 ∧ k_ ≠ gb283)) (okp := (fun k_ => (P0_ k_ ∨ w.heap.size ≤ k_) ∧ some k_ ≠ (v263 : Value).ownBlock ∧ some k_ ≠ (u8 : Value).ownBlock ∧ k_ ≠ gb265 ∧ k_ ≠ gb266 ∧ k_ ≠ gb283)) ?hr ?hp (fun _ hk => hk) ((show ∀ k_, w34.heap.size ≤ k_ → (fun k_ => (P0_ k_ ∨ w.heap.size ≤ k_) ∧ some k_ ≠ (v263 : Value).ownBlock ∧ some k_ ≠ (u8 : Value).ownBlock ∧ k_ ≠ gb265 ∧ k_ ≠ gb266 ∧ k_ ≠ gb283) k_ from fun k_ hk => ⟨(.inr (Nat.le_trans (below_size qC) hk)), Kd.fresh' (Kd.R_lt (qR HO_6)) k_ hk, Kd.fresh' (Kd.R_lt (qR HO_8)) k_ hk, Kd.freshB (g := gb265) (o := .cells #[.slice Ao15 t258.length co15, .bool t261] 38 (0, 0)) (qW BK265) k_ hk, Kd.freshB (g := gb266) (o := .cells #[.slice Ao31 x267000_2.length co31, .bool x267001_2] 38 (0, 0)) (qW BK266) k_ hk, Kd.freshB (g := gb283) (o := .cells #[.slice none 0 0, .bool false] 38 (0, 0)) (qW BK283) k_ hk⟩) _ (Nat.le_refl _)) (Below.refl _ _) (Nat.le_refl _) (by simp) ?_; (case hd => rfl); (case hg => rfl); (case hr => first | (go_simp; done) | (go_simp; rfl)); (case hp => exact (Reps.one (show Kd.FK (Kd.slice 5 (Kd.int .u8)) _ _ y268 [.slice Ao30 y268.length co30] from (Kd.FK_slice_mk (Kd.V_reads' (Kd.V_mono (ok' := (fun k_ => (P0_ k_ ∨ w.heap.size ≤ k_) ∧ some k_ ≠ (v263 : Value).ownBlock ∧ some k_ ≠ (u8 : Value).ownBlock ∧ k_ ≠ gb265 ∧ k_ ≠ gb266 ∧ k_ ≠ gb283)) (HO272.out) (fun k_ hk => ⟨hk.1.1, ⟨hk.1.2.1, ⟨hk.1.2.2.1, ⟨hk.1.2.2.2.1, ⟨hk.1.2.2.2.2, hk.2⟩⟩⟩⟩⟩))).2.1 (Kd.V_F (Kd.V_mono (ok' := (fun k_ => (P0_ k_ ∨ w.heap.size ≤ k_) ∧ some k_ ≠ (v263 : Value).ownBlock ∧ some k_ ≠ (u8 : Value).ownBlock ∧ k_ ≠ gb265 ∧ k_ ≠ gb266 ∧ k_ ≠ gb283)) (HO272.out) (fun k_ hk => ⟨hk.1.1, ⟨hk.1.2.1, ⟨hk.1.2.2.1, ⟨hk.1.2.2.2.1, ⟨hk.1.2.2.2.2, hk.2⟩⟩⟩⟩⟩))))) (Reps.none _ _)))
               intro v274 w35 ho36 hb hg_ hnew_
               clear hg_ hnew_
               (first | rw [← Ny273.out] at ho36 | (simp only [Int.reduceToNat] at ho36; rw [← Ny273.out] at ho36))
               have n0_ := Aside0.mk (Kd.R_below (qR HO_6) hb)
               have n1_ := Aside0.mk (Kd.R_below (qR HO_8) hb)
               have n2_ := Aside0.mk (Kd.V_elder' (by (with_reducible repeat (first | apply Kd.V_alloc | apply Kd.V_drewN | apply Kd.V_drew)); exact HO_9.out) (Kd.N_base ho36) hb)
               have n3_ := Aside0.mk (Kd.V_elder' (by (with_reducible repeat (first | apply Kd.V_alloc | apply Kd.V_drewN | apply Kd.V_drew)); exact HO_266000.out) (Kd.N_base ho36) hb)
               have n4_ := Aside0.mk (Kd.V_elder' (by (with_reducible repeat (first | apply Kd.V_alloc | apply Kd.V_drewN | apply Kd.V_drew)); exact HO_267000.out) (Kd.N_base ho36) hb)
               have n5_ := Aside0.mk (Kd.V_elder' (by (with_reducible repeat (first | apply Kd.V_alloc | apply Kd.V_drewN | apply Kd.V_drew)); exact HO272.out) (Kd.N_base ho36) hb)
               have n6_ := Aside0.mk (Kd.N_lower ho36 (below_size qC))
               have n7_ := Aside0.mk (blk_below (g := gb265) (o := .cells #[.slice Ao15 t258.length co15, .bool t261] 38 (0, 0)) (qW BK265) hb)
               have n8_ := Aside0.mk (blk_below (g := gb266) (o := .cells #[.slice Ao31 x267000_2.length co31, .bool x267001_2] 38 (0, 0)) (qW BK266) hb)
               have n9_ := Aside0.mk (blk_below (g := gb283) (o := .cells #[.slice none 0 0, .bool false] 38 (0, 0)) (qW BK283) hb)
               have n10_ := Aside0.mk (below_step qC hb)
               clear HO_6
               clear HO_8
               clear HO_9
               clear HO_266000
               clear HO_267000
               clear HO272
               clear BK265
               clear BK266
               clear BK283
               clear HB
               have HO_6 := n0_
               have HO_8 := n1_
               have HO_9 := n2_
               have HO_266000 := n3_
               have HO_267000 := n4_
               have HO272 := n5_
               have HO275 := n6_
               have BK265 := n7_
               have BK266 := n8_
               have BK283 := n9_
               have HB := n10_
               clear n0_ n1_ n2_ n3_ n4_ n5_ n6_ n7_ n8_ n9_ n10_
               clear hb ho36
               obtain ⟨Ao37, co37, eo37⟩ := Kd.N_slice HO275.out
               (first | subst eo37 | (injection eo37 with f1_ f2_ f3_; have f4_ := f1_.symm; have f5_ := f3_.symm; clear f1_ f2_ f3_; subst f4_; subst f5_))
               refine hK.out _ _ ⟨(blk_cell BK266.out 0).trans rfl, (blk_cell BK266.out 1).trans rfl⟩ (fun hHeld => ?_)
               clear hK K
               refine norm_ (a' := ?_) ?_ ?_
               rotate_left
               ·show Act.put _ (some 55) _ = _
                simp only [Act.put, List.setIfInBounds_toArray, List.set_cons_zero, List.set_cons_succ, i64_w, i32_w]
                rfl
               refine one_ (i := 5) (N := some 56) #[true, true, true, true, true, true, false, false, false, true, false, false] rfl rfl (one_of HT_.out qK) (by decide) (fun K hK => ?_)
               refine goes_ Try.func22 qK rfl #[.agg #[.slice Ao31 x267000_2.length co31, .bool x267001_2], .slice Ao37 y273.length co37] (by rfl) rfl rfl qG ?_
               with_reducible refine (frame_Push.calls (fun k_ => ((((P0_ k_ ∨ w.heap.size ≤ k_) ∧ (some k_ ≠ (v263 : Value).ownBlock ∧ (some k_ ≠ (u8 : Value).ownBlock ∧ (k_ ≠ gb265 ∧ k_ ≠ gb266)))) ∧ k_ ≠ gb283) ∧ some k_ ≠ (.slice Ao37 y273.length co37 : Value).ownBlock)) _ _ x267000_2 x267001_2 _ _ y273 t276 t279 t280 _ ?side1 ?side2 ?side3 A26.out).mono ?_
               (case side1 => exact HO_267000.out)
               (case side2 => repeat (first | exact (Kd.N_reads' HO275.out).2.2 | (with_reducible refine Kd.C_alloc ?_ _) | (with_reducible refine Kd.C_drewN ?_ _) | (with_reducible refine Kd.C_drew ?_)))
               (case side3 => exact (Kd.N_reads' HO275.out).2.1)
               rintro e w38 ⟨v277, v281, rfl, ho0, ho1, hb⟩
               refine ⟨_, rfl, ?_⟩
               have n0_ := Aside0.mk (Kd.R_elder' (qR HO_6) (Kd.R_base ho1) hb)
               have n1_ := Aside0.mk (Kd.R_elder' (qR HO_8) (Kd.R_base ho1) hb)
               have n2_ := Aside0.mk (Kd.V_elder' (by (with_reducible repeat (first | apply Kd.V_alloc | apply Kd.V_drewN | apply Kd.V_drew)); exact HO_9.out) (Kd.R_base ho1) hb)
               have n3_ := Aside0.mk (Kd.V_elder' (by (with_reducible repeat (first | apply Kd.V_alloc | apply Kd.V_drewN | apply Kd.V_drew)); exact HO_266000.out) (Kd.R_base ho1) hb)
               have n4_ := Aside0.mk (Kd.V_elder' (by (with_reducible repeat (first | apply Kd.V_alloc | apply Kd.V_drewN | apply Kd.V_drew)); exact HO_267000.out) (Kd.R_base ho1) hb)
               have n5_ := Aside0.mk (Kd.V_elder' (by (with_reducible repeat (first | apply Kd.V_alloc | apply Kd.V_drewN | apply Kd.V_drew)); exact HO272.out) (Kd.R_base ho1) hb)
               have n6_ := Aside0.mk (Kd.N_elder' (by (with_reducible repeat (first | apply Kd.N_alloc | apply Kd.N_drewN | apply Kd.N_drew)); exact HO275.out) (Kd.R_base ho1) hb)
               have n7_ := Aside0.mk (Kd.V_lower (Kd.V_mono (ok' := fun k_ => (P0_ k_ ∨ w.heap.size ≤ k_) ∧ some k_ ≠ (v281 : Value).ownBlock ∧ some k_ ≠ (v263 : Value).ownBlock ∧ some k_ ≠ (u8 : Value).ownBlock ∧ some k_ ≠ (.slice Ao37 y273.length co37 : Value).ownBlock ∧ k_ ≠ gb265 ∧ k_ ≠ gb266 ∧ k_ ≠ gb283) ho0 (fun k_ hk_ => ⟨Or.elim hk_.1 (fun hs_ => hs_.1.1.1) (fun hn_ => (.inr (Nat.le_trans (below_size qC) hn_))), hk_.2, Or.elim hk_.1 (fun hs_ => hs_.1.1.2.1) (fun hn_ => (Kd.fresh' (Kd.R_lt (qR HO_6)) k_ hn_)), Or.elim hk_.1 (fun hs_ => hs_.1.1.2.2.1) (fun hn_ => (Kd.fresh' (Kd.R_lt (qR HO_8)) k_ hn_)), Or.elim hk_.1 (fun hs_ => hs_.2) (fun hn_ => (Kd.fresh' (Kd.N_lt (by (with_reducible repeat (first | apply Kd.N_alloc | apply Kd.N_drewN | apply Kd.N_drew)); exact HO275.out)) k_ hn_)), Or.elim hk_.1 (fun hs_ => hs_.1.1.2.2.2.1) (fun hn_ => (Kd.freshB (g := gb265) (o := .cells #[.slice Ao15 t258.length co15, .bool t261] 38 (0, 0)) (qW BK265) k_ hn_)), Or.elim hk_.1 (fun hs_ => hs_.1.1.2.2.2.2) (fun hn_ => (Kd.freshB (g := gb266) (o := .cells #[.slice Ao31 x267000_2.length co31, .bool x267001_2] 38 (0, 0)) (qW BK266) k_ hn_)), Or.elim hk_.1 (fun hs_ => hs_.1.2) (fun hn_ => (Kd.freshB (g := gb283) (o := .cells #[.slice none 0 0, .bool false] 38 (0, 0)) (qW BK283) k_ hn_))⟩)) (below_size qC))
               have n8_ := Aside0.mk (Kd.R_lower (Kd.R_new' (Kd.R_new' (Kd.R_newM (M := fun k_ => (w.heap.size ≤ k_)) (Kd.R_mono (ok' := fun k_ => True) ho1 (fun _ hk_ => trivial)) (below_size qC) (fun k_ h_ => h_)) (Kd.R_lt (qR HO_6))) (Kd.R_lt (qR HO_8))) (below_size qC))
               have n9_ := Aside0.mk (blk_below (g := gb265) (o := .cells #[.slice Ao15 t258.length co15, .bool t261] 38 (0, 0)) (qW BK265) hb)
               have n10_ := Aside0.mk (blk_below (g := gb266) (o := .cells #[.slice Ao31 x267000_2.length co31, .bool x267001_2] 38 (0, 0)) (qW BK266) hb)
               have n11_ := Aside0.mk (blk_below (g := gb283) (o := .cells #[.slice none 0 0, .bool false] 38 (0, 0)) (qW BK283) hb)
               have n12_ := Aside0.mk (below_step qC hb)
               clear HO_6
               clear HO_8
               clear HO_9
               clear HO_266000
               clear HO_267000
               clear HO272
               clear HO275
               clear BK265
               clear BK266
               clear BK283
               clear HB
               have HO_6 := n0_
               have HO_8 := n1_
               have HO_9 := n2_
               have HO_266000 := n3_
               have HO_267000 := n4_
               have HO272 := n5_
               have HO275 := n6_
               have HO278 := n7_
               have HO282 := n8_
               have BK265 := n9_
               have BK266 := n10_
               have BK283 := n11_
               have HB := n12_
               clear n0_ n1_ n2_ n3_ n4_ n5_ n6_ n7_ n8_ n9_ n10_ n11_ n12_
               (try clear hb)
               (try clear hb2)
               (try clear hk)
               (try clear hi)
               (try clear ho0)
               (try clear ho1)
               refine hK.out _ _ ⟨(blk_cell BK266.out 0).trans rfl, (blk_cell BK266.out 1).trans rfl⟩ (fun hHeld => ?_)
               clear hK K
               refine norm_ (a' := ?_) ?_ ?_
               rotate_left
               ·show Act.put _ (some 56) _ = _
                simp only [Act.put, List.setIfInBounds_toArray, List.set_cons_zero, List.set_cons_succ, i64_w, i32_w]
                rfl
               refine pure_ (i := 6) (N := some 50) (v := ?_) (a' := ?_) #[true, true, true, true, true, true, true, false, false, true, false, false] rfl rfl (any_of HT_.out qK) (fun _ _ _ h => h) (Or.inl ⟨by rfl, ?_⟩) ?_ ?_
               rotate_left
               ·intro w'; go_simp; with_reducible rfl
               rotate_left
               ·simp only [Act.put, List.setIfInBounds_toArray, List.set_cons_zero, List.set_cons_succ, i64_w, i32_w]; rfl
               refine pure_ (i := 7) (N := some 57) (v := ?_) (a' := ?_) #[true, true, true, true, true, true, true, true, false, true, false, false] rfl rfl (any_of HT_.out qK) (fun _ _ _ h => h) (Or.inl ⟨by rfl, ?_⟩) ?_ ?_
               rotate_left
               ·intro w'; go_simp; with_reducible rfl
               rotate_left
               ·simp only [Act.put, List.setIfInBounds_toArray, List.set_cons_zero, List.set_cons_succ, i64_w, i32_w]; rfl
               refine pure_ (i := 8) (N := some 58) (v := ?_) (a' := ?_) #[true, true, true, true, true, true, true, true, true, true, false, false] rfl rfl (any_of HT_.out qK) (fun _ _ _ h => h) (Or.inl ⟨by rfl, ?_⟩) ?_ ?_
               rotate_left
               ·intro w'; go_simp; with_reducible rfl
               rotate_left
               ·simp only [Act.put, List.setIfInBounds_toArray, List.set_cons_zero, List.set_cons_succ, i64_w, i32_w]; rfl
               exact norm_ (by simp only [putAll, Act.put, List.setIfInBounds_toArray, List.set_cons_zero, List.set_cons_succ]) (hCont (.slice Ao37 y273.length co37, v277, v281, gb283) _ ⟨hHeld, (by (with_reducible repeat (first | apply Kd.V_alloc | apply Kd.V_drewN | apply Kd.V_drew)); exact Kd.V_mono HO272.out (fun _ hk => ⟨hk.1.1.1.1, ⟨hk.1.2, ⟨hk.2, ⟨hk.1.1.1.2.1, ⟨hk.1.1.1.2.2.1, ⟨hk.1.1.1.2.2.2.1, ⟨hk.1.1.1.2.2.2.2, hk.1.1.2⟩⟩⟩⟩⟩⟩⟩)), (by (with_reducible repeat (first | apply Kd.N_alloc | apply Kd.N_drewN | apply Kd.N_drew)); exact Kd.N_mono HO275.out (fun _ hk => ⟨hk.1.1, ⟨hk.2, ⟨hk.1.2.1, ⟨hk.1.2.2.1, ⟨hk.1.2.2.2.1, ⟨hk.1.2.2.2.2.1, hk.1.2.2.2.2.2⟩⟩⟩⟩⟩⟩)), (by (with_reducible repeat (first | apply Kd.V_alloc | apply Kd.V_drewN | apply Kd.V_drew)); exact Kd.V_mono HO278.out (fun _ hk => ⟨hk.1, ⟨hk.2.2.2.2.1, ⟨hk.2.1, ⟨hk.2.2.1, ⟨hk.2.2.2.1, ⟨hk.2.2.2.2.2.1, ⟨hk.2.2.2.2.2.2.1, hk.2.2.2.2.2.2.2⟩⟩⟩⟩⟩⟩⟩)), (by (with_reducible repeat (first | apply Kd.R_alloc | apply Kd.R_drewN | apply Kd.R_drew)); exact Kd.R_mono HO282.out (fun _ hk => ⟨hk.1.1.1, ⟨hk.1.2, hk.2⟩⟩)), (by (with_reducible repeat (first | apply Kd.V_alloc | apply Kd.V_drewN | apply Kd.V_drew)); exact Kd.V_mono HO_266000.out (fun _ hk => ⟨hk.1.1.1.1, ⟨hk.1.2, ⟨hk.2, ⟨hk.1.1.1.2.1, ⟨hk.1.1.1.2.2.1, ⟨hk.1.1.1.2.2.2.1, ⟨hk.1.1.1.2.2.2.2, hk.1.1.2⟩⟩⟩⟩⟩⟩⟩)), (by (with_reducible repeat (first | apply Kd.V_alloc | apply Kd.V_drewN | apply Kd.V_drew)); exact Kd.V_mono HO_267000.out (fun _ hk => ⟨hk.1.1.1.1, ⟨hk.1.2, ⟨hk.2, ⟨hk.1.1.1.2.1, ⟨hk.1.1.1.2.2.1, ⟨hk.1.1.1.2.2.2.1, ⟨hk.1.1.1.2.2.2.2, hk.1.1.2⟩⟩⟩⟩⟩⟩⟩)), (by (with_reducible repeat (first | apply Kd.R_alloc | apply Kd.R_drewN | apply Kd.R_drew)); exact Kd.R_mono HO_6.out (fun _ hk => ⟨hk.1.1, ⟨hk.2, hk.1.2⟩⟩)), (by (with_reducible repeat (first | apply Kd.R_alloc | apply Kd.R_drewN | apply Kd.R_drew)); exact Kd.R_mono HO_8.out (fun _ hk => ⟨hk.1.1, ⟨hk.2, hk.1.2⟩⟩)), (by (with_reducible repeat (first | apply Kd.V_alloc | apply Kd.V_drewN | apply Kd.V_drew)); exact Kd.V_mono HO_9.out (fun _ hk => ⟨hk.1.1.1.1, ⟨hk.1.2, ⟨hk.2, ⟨hk.1.1.1.2.1, ⟨hk.1.1.1.2.2.1, ⟨hk.1.1.1.2.2.2.1, ⟨hk.1.1.1.2.2.2.2, hk.1.1.2⟩⟩⟩⟩⟩⟩⟩)), (qW BK265), (qW BK266), (qW BK283), GW283.out, GE283.out, NB265_283.out, NB283_265.out, NB266_283.out, NB283_266.out, qC⟩)
             rintro ⟨v274, v277, v281, gb283⟩ w39 ⟨hS_, h0_, h1_, h2_, h3_, h4_, h5_, h6_, h7_, h8_, h9_, h10_, h11_, h12_, h13_, h14_, h15_, h16_, h17_, h18_⟩
             have n0_ : Aside0 (Kd.V (Kd.int .u8) 5 w39 w.heap.size (fun k_ => (P0_ k_ ∨ w.heap.size ≤ k_) ∧ some k_ ≠ (v274 : Value).ownBlock ∧ some k_ ≠ (v281 : Value).ownBlock ∧ some k_ ≠ (v263 : Value).ownBlock ∧ some k_ ≠ (u8 : Value).ownBlock ∧ k_ ≠ gb265 ∧ k_ ≠ gb266 ∧ k_ ≠ gb283) (.slice Ao30 y268.length co30) y268) := ⟨h0_⟩
             have n1_ : Aside0 (Kd.N (Kd.slice 5 (Kd.int .u8)) 35 w39 w.heap.size (fun k_ => (P0_ k_ ∨ w.heap.size ≤ k_) ∧ some k_ ≠ (v281 : Value).ownBlock ∧ some k_ ≠ (v263 : Value).ownBlock ∧ some k_ ≠ (u8 : Value).ownBlock ∧ k_ ≠ gb265 ∧ k_ ≠ gb266 ∧ k_ ≠ gb283) v274 y273) := ⟨h1_⟩
             have n2_ : Aside0 (Kd.V (Kd.int .u8) 5 w39 w.heap.size (fun k_ => (P0_ k_ ∨ w.heap.size ≤ k_) ∧ some k_ ≠ (v274 : Value).ownBlock ∧ some k_ ≠ (v281 : Value).ownBlock ∧ some k_ ≠ (v263 : Value).ownBlock ∧ some k_ ≠ (u8 : Value).ownBlock ∧ k_ ≠ gb265 ∧ k_ ≠ gb266 ∧ k_ ≠ gb283) v277 t276) := ⟨h2_⟩
             have n3_ : Aside0 (Kd.R k54 54 w39 w.heap.size (fun k_ => (w.heap.size ≤ k_) ∧ some k_ ≠ (v263 : Value).ownBlock ∧ some k_ ≠ (u8 : Value).ownBlock) v281 t280) := ⟨h3_⟩
             have n4_ : Aside0 (Kd.V (Kd.int .u8) 5 w39 w.heap.size (fun k_ => (P0_ k_ ∨ w.heap.size ≤ k_) ∧ some k_ ≠ (v274 : Value).ownBlock ∧ some k_ ≠ (v281 : Value).ownBlock ∧ some k_ ≠ (v263 : Value).ownBlock ∧ some k_ ≠ (u8 : Value).ownBlock ∧ k_ ≠ gb265 ∧ k_ ≠ gb266 ∧ k_ ≠ gb283) (.slice Ao15 t258.length co15) t258) := ⟨h4_⟩
             have n5_ : Aside0 (Kd.V (Kd.int .u8) 5 w39 w.heap.size (fun k_ => (P0_ k_ ∨ w.heap.size ≤ k_) ∧ some k_ ≠ (v274 : Value).ownBlock ∧ some k_ ≠ (v281 : Value).ownBlock ∧ some k_ ≠ (v263 : Value).ownBlock ∧ some k_ ≠ (u8 : Value).ownBlock ∧ k_ ≠ gb265 ∧ k_ ≠ gb266 ∧ k_ ≠ gb283) (.slice Ao31 x267000_2.length co31) x267000_2) := ⟨h5_⟩
             have n6_ : Aside0 (Kd.R k54 54 w39 w.heap.size (fun k_ => (w.heap.size ≤ k_) ∧ some k_ ≠ (v281 : Value).ownBlock ∧ some k_ ≠ (u8 : Value).ownBlock) v263 t262) := ⟨h6_⟩
             have n7_ : Aside0 (Kd.R k54 54 w39 w.heap.size (fun k_ => (w.heap.size ≤ k_) ∧ some k_ ≠ (v281 : Value).ownBlock ∧ some k_ ≠ (v263 : Value).ownBlock) u8 x8_2) := ⟨h7_⟩
             have n8_ : Aside0 (Kd.V (Kd.int .u8) 5 w39 w.heap.size (fun k_ => (P0_ k_ ∨ w.heap.size ≤ k_) ∧ some k_ ≠ (v274 : Value).ownBlock ∧ some k_ ≠ (v281 : Value).ownBlock ∧ some k_ ≠ (v263 : Value).ownBlock ∧ some k_ ≠ (u8 : Value).ownBlock ∧ k_ ≠ gb265 ∧ k_ ≠ gb266 ∧ k_ ≠ gb283) (.slice Ao30 x9_2.length co30) x9_2) := ⟨h8_⟩
             have n9_ : Aside0 (w39.heap[gb265]? = some (.cells #[.slice Ao15 t258.length co15, .bool t261] 38 (0, 0))) := ⟨h9_⟩
             have n10_ : Aside0 (w39.heap[gb266]? = some (.cells #[.slice Ao31 x267000_2.length co31, .bool x267001_2] 38 (0, 0))) := ⟨h10_⟩
             have n11_ : Aside0 (w39.heap[gb283]? = some (.cells #[.slice none 0 0, .bool false] 38 (0, 0))) := ⟨h11_⟩
             have n12_ : Aside0 (w.heap.size ≤ gb283) := ⟨h12_⟩
             have n13_ : Aside0 (w.heap.size ≤ gb283) := ⟨h13_⟩
             have n14_ : Aside0 (gb265 ≠ gb283) := ⟨h14_⟩
             have n15_ : Aside0 (gb283 ≠ gb265) := ⟨h15_⟩
             have n16_ : Aside0 (gb266 ≠ gb283) := ⟨h16_⟩
             have n17_ : Aside0 (gb283 ≠ gb266) := ⟨h17_⟩
             have n18_ : Aside0 (Below w.heap.size w w39) := ⟨h18_⟩
             clear HO_6
             clear HO_8
             clear HO_9
             clear HO_266000
             clear HO_267000
             clear BK265
             clear BK266
             clear HB
             clear h0_ h1_ h2_ h3_ h4_ h5_ h6_ h7_ h8_ h9_ h10_ h11_ h12_ h13_ h14_ h15_ h16_ h17_ h18_
             have HO272 := n0_
             have HO275 := n1_
             have HO278 := n2_
             have HO282 := n3_
             have HO_266000 := n4_
             have HO_267000 := n5_
             have HO_6 := n6_
             have HO_8 := n7_
             have HO_9 := n8_
             have BK265 := n9_
             have BK266 := n10_
             have BK283 := n11_
             have GW283 := n12_
             have GE283 := n13_
             have NB265_283 := n14_
             have NB283_265 := n15_
             have NB266_283 := n16_
             have NB283_266 := n17_
             have HB := n18_
             clear n0_ n1_ n2_ n3_ n4_ n5_ n6_ n7_ n8_ n9_ n10_ n11_ n12_ n13_ n14_ n15_ n16_ n17_ n18_
             have hHeld : w39.cell? ⟨gb266, 0, none⟩ = some (.slice Ao31 x267000_2.length co31) ∧ w39.cell? ⟨gb266, 1, none⟩ = some (.bool x267001_2) := hS_
             obtain ⟨Ao40, co40, eo40⟩ := Kd.V_slice HO278.out
             (first | subst eo40 | (injection eo40 with f1_ f2_ f3_; have f4_ := f1_.symm; have f5_ := f3_.symm; clear f1_ f2_ f3_; subst f4_; subst f5_))
             refine norm_ (a' := ?_) ?_ ?_
             rotate_left
             ·simp only [putAll, Act.put, List.setIfInBounds_toArray, List.set_cons_zero, List.set_cons_succ]; rfl
             refine one_ (i := 10) (N := none) #[true, true, true, true, true, true, true, true, true, true, true, false] rfl rfl (one_of HT_.out qK) (by decide) (fun K hK => ?_)
             have hs41 : w39.cell? ⟨gb283, 0, none⟩ = some (.slice none 0 0) := (blk_cell BK283.out 0).trans rfl
             have hfs41 := blk_frozen BK283.out 0
             have hns41_0 := NB265_283.out
             have hns41_1 := NB266_283.out
             have hms41_0 := NB283_265.out
             have hms41_1 := NB283_266.out
             have hs42 : w39.cell? ⟨gb283, 1, none⟩ = some (.bool false) := (blk_cell BK283.out 1).trans rfl
             have hfs42 := blk_frozen BK283.out 1
             have hns42_0 := NB265_283.out
             have hns42_1 := NB266_283.out
             have hms42_0 := NB283_265.out
             have hms42_1 := NB283_266.out
             refine skip_ (w1 := ?_) (by rfl) rfl ?_ ?_
             rotate_left
             ·go_simp
              rfl
             refine hK.out _ _ ⟨((cell_far (p := ⟨gb283, _, none⟩) NB266_283.out _).trans (((cell_far (p := ⟨gb283, _, none⟩) NB266_283.out _).trans (hHeld.1)))), ((cell_far (p := ⟨gb283, _, none⟩) NB266_283.out _).trans (((cell_far (p := ⟨gb283, _, none⟩) NB266_283.out _).trans (hHeld.2))))⟩ (fun hHeld => ?_)
             clear hK K
             refine pure_ (i := 11) (N := some 13) (v := ?_) (a' := ?_) #[true, true, true, true, true, true, true, true, true, true, true, true] rfl rfl (any_of HT_.out qK) (fun _ _ _ h => h) (Or.inl ⟨by rfl, ?_⟩) ?_ ?_
             rotate_left
             ·intro w'; go_simp; with_reducible rfl
             rotate_left
             ·simp only [Act.put, List.setIfInBounds_toArray, List.set_cons_zero, List.set_cons_succ, i64_w, i32_w]; rfl
             refine done_ (done_of HT_.out qK) ?_
             try go_wp2
             have n0_ : Aside0 (Kd.R k54 54 ((w39.setCell ⟨gb283, 0, none⟩ (.slice Ao40 t276.length co40)).setCell ⟨gb283, 1, none⟩ (.bool t279)) w.heap.size (fun k_ => (w.heap.size ≤ k_) ∧ some k_ ≠ (u8 : Value).ownBlock ∧ some k_ ≠ (v281 : Value).ownBlock) v263 t262) := ⟨by (with_reducible repeat (first | apply Kd.R_alloc | apply Kd.R_drewN | apply Kd.R_drew)); exact Kd.R_mono (Kd.R_far (p := ⟨gb283, 1, none⟩) (Kd.R_far (p := ⟨gb283, 0, none⟩) (Kd.R_types HO_6.out BK283.out (by decide)) (fun _ hk => hk.2) (.slice Ao40 t276.length co40)) (fun _ hk => hk.2) (.bool t279)) (fun _ hk => ⟨hk.1.1, ⟨hk.1.2.2, hk.1.2.1⟩⟩)⟩
             have n1_ : Aside0 (Kd.R k54 54 ((w39.setCell ⟨gb283, 0, none⟩ (.slice Ao40 t276.length co40)).setCell ⟨gb283, 1, none⟩ (.bool t279)) w.heap.size (fun k_ => (w.heap.size ≤ k_) ∧ some k_ ≠ (v263 : Value).ownBlock ∧ some k_ ≠ (v281 : Value).ownBlock) u8 x8_2) := ⟨by (with_reducible repeat (first | apply Kd.R_alloc | apply Kd.R_drewN | apply Kd.R_drew)); exact Kd.R_mono (Kd.R_far (p := ⟨gb283, 1, none⟩) (Kd.R_far (p := ⟨gb283, 0, none⟩) (Kd.R_types HO_8.out BK283.out (by decide)) (fun _ hk => hk.2) (.slice Ao40 t276.length co40)) (fun _ hk => hk.2) (.bool t279)) (fun _ hk => ⟨hk.1.1, ⟨hk.1.2.2, hk.1.2.1⟩⟩)⟩
             have n2_ : Aside0 (Kd.V (Kd.int .u8) 5 ((w39.setCell ⟨gb283, 0, none⟩ (.slice Ao40 t276.length co40)).setCell ⟨gb283, 1, none⟩ (.bool t279)) w.heap.size (fun k_ => (P0_ k_ ∨ w.heap.size ≤ k_) ∧ some k_ ≠ (v263 : Value).ownBlock ∧ some k_ ≠ (u8 : Value).ownBlock ∧ some k_ ≠ (v274 : Value).ownBlock ∧ some k_ ≠ (v281 : Value).ownBlock ∧ k_ ≠ gb265 ∧ k_ ≠ gb266 ∧ k_ ≠ gb283) (.slice Ao30 x9_2.length co30) x9_2) := ⟨by (with_reducible repeat (first | apply Kd.V_alloc | apply Kd.V_drewN | apply Kd.V_drew)); exact Kd.V_mono (Kd.V_far (p := ⟨gb283, 1, none⟩) (Kd.V_far (p := ⟨gb283, 0, none⟩) (Kd.V_mono HO_9.out (fun k_ hk => (⟨hk, hk.2.2.2.2.2.2.2⟩ : _ ∧ k_ ≠ gb283))) (fun _ hk => hk.2) (.slice Ao40 t276.length co40)) (fun _ hk => hk.2) (.bool t279)) (fun _ hk => ⟨hk.1.1, ⟨hk.1.2.2.2.1, ⟨hk.1.2.2.2.2.1, ⟨hk.1.2.1, ⟨hk.1.2.2.1, ⟨hk.1.2.2.2.2.2.1, ⟨hk.1.2.2.2.2.2.2.1, hk.1.2.2.2.2.2.2.2⟩⟩⟩⟩⟩⟩⟩)⟩
             have n3_ : Aside0 (Kd.V (Kd.int .u8) 5 ((w39.setCell ⟨gb283, 0, none⟩ (.slice Ao40 t276.length co40)).setCell ⟨gb283, 1, none⟩ (.bool t279)) w.heap.size (fun k_ => (P0_ k_ ∨ w.heap.size ≤ k_) ∧ some k_ ≠ (v263 : Value).ownBlock ∧ some k_ ≠ (u8 : Value).ownBlock ∧ some k_ ≠ (v274 : Value).ownBlock ∧ some k_ ≠ (v281 : Value).ownBlock ∧ k_ ≠ gb265 ∧ k_ ≠ gb266 ∧ k_ ≠ gb283) (.slice Ao15 t258.length co15) t258) := ⟨by (with_reducible repeat (first | apply Kd.V_alloc | apply Kd.V_drewN | apply Kd.V_drew)); exact Kd.V_mono (Kd.V_far (p := ⟨gb283, 1, none⟩) (Kd.V_far (p := ⟨gb283, 0, none⟩) (Kd.V_mono HO_266000.out (fun k_ hk => (⟨hk, hk.2.2.2.2.2.2.2⟩ : _ ∧ k_ ≠ gb283))) (fun _ hk => hk.2) (.slice Ao40 t276.length co40)) (fun _ hk => hk.2) (.bool t279)) (fun _ hk => ⟨hk.1.1, ⟨hk.1.2.2.2.1, ⟨hk.1.2.2.2.2.1, ⟨hk.1.2.1, ⟨hk.1.2.2.1, ⟨hk.1.2.2.2.2.2.1, ⟨hk.1.2.2.2.2.2.2.1, hk.1.2.2.2.2.2.2.2⟩⟩⟩⟩⟩⟩⟩)⟩
             have n4_ : Aside0 (Kd.V (Kd.int .u8) 5 ((w39.setCell ⟨gb283, 0, none⟩ (.slice Ao40 t276.length co40)).setCell ⟨gb283, 1, none⟩ (.bool t279)) w.heap.size (fun k_ => (P0_ k_ ∨ w.heap.size ≤ k_) ∧ some k_ ≠ (v263 : Value).ownBlock ∧ some k_ ≠ (u8 : Value).ownBlock ∧ some k_ ≠ (v274 : Value).ownBlock ∧ some k_ ≠ (v281 : Value).ownBlock ∧ k_ ≠ gb265 ∧ k_ ≠ gb266 ∧ k_ ≠ gb283) (.slice Ao31 x267000_2.length co31) x267000_2) := ⟨by (with_reducible repeat (first | apply Kd.V_alloc | apply Kd.V_drewN | apply Kd.V_drew)); exact Kd.V_mono (Kd.V_far (p := ⟨gb283, 1, none⟩) (Kd.V_far (p := ⟨gb283, 0, none⟩) (Kd.V_mono HO_267000.out (fun k_ hk => (⟨hk, hk.2.2.2.2.2.2.2⟩ : _ ∧ k_ ≠ gb283))) (fun _ hk => hk.2) (.slice Ao40 t276.length co40)) (fun _ hk => hk.2) (.bool t279)) (fun _ hk => ⟨hk.1.1, ⟨hk.1.2.2.2.1, ⟨hk.1.2.2.2.2.1, ⟨hk.1.2.1, ⟨hk.1.2.2.1, ⟨hk.1.2.2.2.2.2.1, ⟨hk.1.2.2.2.2.2.2.1, hk.1.2.2.2.2.2.2.2⟩⟩⟩⟩⟩⟩⟩)⟩
             have n5_ : Aside0 (Kd.V (Kd.int .u8) 5 ((w39.setCell ⟨gb283, 0, none⟩ (.slice Ao40 t276.length co40)).setCell ⟨gb283, 1, none⟩ (.bool t279)) w.heap.size (fun k_ => (P0_ k_ ∨ w.heap.size ≤ k_) ∧ some k_ ≠ (v263 : Value).ownBlock ∧ some k_ ≠ (u8 : Value).ownBlock ∧ some k_ ≠ (v274 : Value).ownBlock ∧ some k_ ≠ (v281 : Value).ownBlock ∧ k_ ≠ gb265 ∧ k_ ≠ gb266 ∧ k_ ≠ gb283) (.slice Ao30 y268.length co30) y268) := ⟨by (with_reducible repeat (first | apply Kd.V_alloc | apply Kd.V_drewN | apply Kd.V_drew)); exact Kd.V_mono (Kd.V_far (p := ⟨gb283, 1, none⟩) (Kd.V_far (p := ⟨gb283, 0, none⟩) (Kd.V_mono HO272.out (fun k_ hk => (⟨hk, hk.2.2.2.2.2.2.2⟩ : _ ∧ k_ ≠ gb283))) (fun _ hk => hk.2) (.slice Ao40 t276.length co40)) (fun _ hk => hk.2) (.bool t279)) (fun _ hk => ⟨hk.1.1, ⟨hk.1.2.2.2.1, ⟨hk.1.2.2.2.2.1, ⟨hk.1.2.1, ⟨hk.1.2.2.1, ⟨hk.1.2.2.2.2.2.1, ⟨hk.1.2.2.2.2.2.2.1, hk.1.2.2.2.2.2.2.2⟩⟩⟩⟩⟩⟩⟩)⟩
             have n6_ : Aside0 (Kd.N (Kd.slice 5 (Kd.int .u8)) 35 ((w39.setCell ⟨gb283, 0, none⟩ (.slice Ao40 t276.length co40)).setCell ⟨gb283, 1, none⟩ (.bool t279)) w.heap.size (fun k_ => (P0_ k_ ∨ w.heap.size ≤ k_) ∧ some k_ ≠ (v263 : Value).ownBlock ∧ some k_ ≠ (u8 : Value).ownBlock ∧ some k_ ≠ (v281 : Value).ownBlock ∧ k_ ≠ gb265 ∧ k_ ≠ gb266 ∧ k_ ≠ gb283) v274 y273) := ⟨by (with_reducible repeat (first | apply Kd.N_alloc | apply Kd.N_drewN | apply Kd.N_drew)); exact Kd.N_mono (Kd.N_far (p := ⟨gb283, 1, none⟩) (Kd.N_far (p := ⟨gb283, 0, none⟩) (Kd.N_mono HO275.out (fun k_ hk => (⟨hk, hk.2.2.2.2.2.2⟩ : _ ∧ k_ ≠ gb283))) (fun _ hk => hk.2) (.slice Ao40 t276.length co40)) (fun _ hk => hk.2) (.bool t279)) (fun _ hk => ⟨hk.1.1, ⟨hk.1.2.2.1, ⟨hk.1.2.2.2.1, ⟨hk.1.2.1, ⟨hk.1.2.2.2.2.1, ⟨hk.1.2.2.2.2.2.1, hk.1.2.2.2.2.2.2⟩⟩⟩⟩⟩⟩)⟩
             have n7_ : Aside0 (Kd.V (Kd.int .u8) 5 ((w39.setCell ⟨gb283, 0, none⟩ (.slice Ao40 t276.length co40)).setCell ⟨gb283, 1, none⟩ (.bool t279)) w.heap.size (fun k_ => (P0_ k_ ∨ w.heap.size ≤ k_) ∧ some k_ ≠ (v263 : Value).ownBlock ∧ some k_ ≠ (u8 : Value).ownBlock ∧ some k_ ≠ (v274 : Value).ownBlock ∧ some k_ ≠ (v281 : Value).ownBlock ∧ k_ ≠ gb265 ∧ k_ ≠ gb266 ∧ k_ ≠ gb283) (.slice Ao40 t276.length co40) t276) := ⟨by (with_reducible repeat (first | apply Kd.V_alloc | apply Kd.V_drewN | apply Kd.V_drew)); exact Kd.V_mono (Kd.V_far (p := ⟨gb283, 1, none⟩) (Kd.V_far (p := ⟨gb283, 0, none⟩) (Kd.V_mono HO278.out (fun k_ hk => (⟨hk, hk.2.2.2.2.2.2.2⟩ : _ ∧ k_ ≠ gb283))) (fun _ hk => hk.2) (.slice Ao40 t276.length co40)) (fun _ hk => hk.2) (.bool t279)) (fun _ hk => ⟨hk.1.1, ⟨hk.1.2.2.2.1, ⟨hk.1.2.2.2.2.1, ⟨hk.1.2.1, ⟨hk.1.2.2.1, ⟨hk.1.2.2.2.2.2.1, ⟨hk.1.2.2.2.2.2.2.1, hk.1.2.2.2.2.2.2.2⟩⟩⟩⟩⟩⟩⟩)⟩
             have n8_ : Aside0 (Kd.R k54 54 ((w39.setCell ⟨gb283, 0, none⟩ (.slice Ao40 t276.length co40)).setCell ⟨gb283, 1, none⟩ (.bool t279)) w.heap.size (fun k_ => (w.heap.size ≤ k_) ∧ some k_ ≠ (v263 : Value).ownBlock ∧ some k_ ≠ (u8 : Value).ownBlock) v281 t280) := ⟨by (with_reducible repeat (first | apply Kd.R_alloc | apply Kd.R_drewN | apply Kd.R_drew)); exact Kd.R_mono (Kd.R_far (p := ⟨gb283, 1, none⟩) (Kd.R_far (p := ⟨gb283, 0, none⟩) (Kd.R_types HO282.out BK283.out (by decide)) (fun _ hk => hk.2) (.slice Ao40 t276.length co40)) (fun _ hk => hk.2) (.bool t279)) (fun _ hk => ⟨hk.1.1, ⟨hk.1.2.1, hk.1.2.2⟩⟩)⟩
             have n9_ : Aside0 (((w39.setCell ⟨gb283, 0, none⟩ (.slice Ao40 t276.length co40)).setCell ⟨gb283, 1, none⟩ (.bool t279)).heap[gb265]? = some (.cells #[.slice Ao15 t258.length co15, .bool t261] 38 (0, 0))) := ⟨by (with_reducible repeat (first | refine blk_drewN ?_ _ | refine blk_drew ?_ | refine blk_alloc ?_ _)); refine blk_far ?_ NB265_283.out _; (with_reducible repeat (first | refine blk_drewN ?_ _ | refine blk_drew ?_ | refine blk_alloc ?_ _)); refine blk_far ?_ NB265_283.out _; (with_reducible repeat (first | refine blk_drewN ?_ _ | refine blk_drew ?_ | refine blk_alloc ?_ _)); exact BK265.out⟩
             have n10_ : Aside0 (((w39.setCell ⟨gb283, 0, none⟩ (.slice Ao40 t276.length co40)).setCell ⟨gb283, 1, none⟩ (.bool t279)).heap[gb266]? = some (.cells #[.slice Ao31 x267000_2.length co31, .bool x267001_2] 38 (0, 0))) := ⟨by (with_reducible repeat (first | refine blk_drewN ?_ _ | refine blk_drew ?_ | refine blk_alloc ?_ _)); refine blk_far ?_ NB266_283.out _; (with_reducible repeat (first | refine blk_drewN ?_ _ | refine blk_drew ?_ | refine blk_alloc ?_ _)); refine blk_far ?_ NB266_283.out _; (with_reducible repeat (first | refine blk_drewN ?_ _ | refine blk_drew ?_ | refine blk_alloc ?_ _)); exact BK266.out⟩
             have n11_ : Aside0 (((w39.setCell ⟨gb283, 0, none⟩ (.slice Ao40 t276.length co40)).setCell ⟨gb283, 1, none⟩ (.bool t279)).heap[gb283]? = some (.cells #[.slice Ao40 t276.length co40, .bool t279] 38 (0, 0))) := ⟨by (with_reducible repeat (first | refine blk_drewN ?_ _ | refine blk_drew ?_ | refine blk_alloc ?_ _)); refine blk_put (cs := #[.slice Ao40 t276.length co40, .bool false]) ?_ 1 _ rfl; (with_reducible repeat (first | refine blk_drewN ?_ _ | refine blk_drew ?_ | refine blk_alloc ?_ _)); refine blk_put (cs := #[.slice none 0 0, .bool false]) ?_ 0 _ rfl; (with_reducible repeat (first | refine blk_drewN ?_ _ | refine blk_drew ?_ | refine blk_alloc ?_ _)); exact BK283.out⟩
             have n12_ : Aside0 (Below w.heap.size w ((w39.setCell ⟨gb283, 0, none⟩ (.slice Ao40 t276.length co40)).setCell ⟨gb283, 1, none⟩ (.bool t279))) := ⟨qC⟩
             (try clear HO_6)
             (try clear HO_8)
             (try clear HO_9)
             (try clear HO_266000)
             (try clear HO_267000)
             (try clear HO272)
             (try clear HO275)
             (try clear HO278)
             (try clear HO282)
             (try clear BK265)
             (try clear BK266)
             (try clear BK283)
             (try clear HB)
             generalize ((w39.setCell ⟨gb283, 0, none⟩ (.slice Ao40 t276.length co40)).setCell ⟨gb283, 1, none⟩ (.bool t279)) = w43 at n0_ n1_ n2_ n3_ n4_ n5_ n6_ n7_ n8_ n9_ n10_ n11_ n12_ ⊢
             have HO_6 := n0_
             have HO_8 := n1_
             have HO_9 := n2_
             have HO_266000 := n3_
             have HO_267000 := n4_
             have HO272 := n5_
             have HO275 := n6_
             have HO278 := n7_
             have HO282 := n8_
             have BK265 := n9_
             have BK266 := n10_
             have BK283 := n11_
             have HB := n12_
             clear n0_ n1_ n2_ n3_ n4_ n5_ n6_ n7_ n8_ n9_ n10_ n11_ n12_
             have n0_ := Aside0.mk (Kd.R_drew HO_6.out)
             have n1_ := Aside0.mk (Kd.R_drew HO_8.out)
             have n2_ := Aside0.mk (Kd.V_drew HO_9.out)
             have n3_ := Aside0.mk (Kd.V_drew HO_266000.out)
             have n4_ := Aside0.mk (Kd.V_drew HO_267000.out)
             have n5_ := Aside0.mk (Kd.V_drew HO272.out)
             have n6_ := Aside0.mk (Kd.N_drew HO275.out)
             have n7_ := Aside0.mk (Kd.V_drew HO278.out)
             have n8_ := Aside0.mk (Kd.R_drew HO282.out)
             have n9_ := Aside0.mk (blk_drew BK265.out)
             have n10_ := Aside0.mk (blk_drew BK266.out)
             have n11_ := Aside0.mk (blk_drew BK283.out)
             have n12_ := Aside0.mk (below_drew1 HB.out)
             clear HO_6
             clear HO_8
             clear HO_9
             clear HO_266000
             clear HO_267000
             clear HO272
             clear HO275
             clear HO278
             clear HO282
             clear BK265
             clear BK266
             clear BK283
             clear HB
             have HO_6 := n0_
             have HO_8 := n1_
             have HO_9 := n2_
             have HO_266000 := n3_
             have HO_267000 := n4_
             have HO272 := n5_
             have HO275 := n6_
             have HO278 := n7_
             have HO282 := n8_
             have BK265 := n9_
             have BK266 := n10_
             have BK283 := n11_
             have HB := n12_
             clear n0_ n1_ n2_ n3_ n4_ n5_ n6_ n7_ n8_ n9_ n10_ n11_ n12_
             have q45 : ((ji23) : Int) ≤ ((x9_2.length : Int) : Int) := of_decide_eq_true qA
             obtain ⟨i045, hi045, _, hsz45, _⟩ := info_parts info5
             have hroom45 : x9_2.length ≤ co30 := (Kd.V_reads' HO_9.out).2.1
             have hC45 : Kd.F (Kd.int .u8) _ _ Ao30 x9_2.length x9_2 := (Kd.V_at (base := w.heap.size) HO_9.out).2.2
             have q045 : (0 : Int) ≤ ((ji23) : Int) := of_decide_eq_true qA
             have hcut45 := cut_from (P := Try.prog) 35 5 .i64 Try.underlying35 hi045 1 hsz45 Ao30 x9_2.length co30 (ji23) q045 q45
             have hr45 := Kd.F_cut (m := ((ji23) : Int).toNat) (c := co30) hC45 (by omega) hroom45
             obtain ⟨A45, hA45⟩ : ∃ A1, A1 = (if co30 = ((ji23) : Int).toNat then Ao30 else (Ao30 : Option Addr).map (·.add (((ji23) : Int).toNat * 1))) := ⟨_, rfl⟩
             obtain ⟨c45, hc45⟩ : ∃ c1, c1 = co30 - ((ji23) : Int).toNat := ⟨_, rfl⟩
             have hy45 : y287.length = x9_2.length - ((ji23) : Int).toNat := (by rw [Ny287.out, List.length_drop] <;> omega)
             rw [show (x9_2).drop ((ji23) : Int).toNat = y287 from Ny287.out.symm] at hr45
             replace hr45 : Kd.F (Kd.int .u8) _ _ A45 y287.length y287 := (by rw [hA45]; exact hr45)
             rw [← hy45, ← hA45, ← hc45] at hcut45
             have HO291 := Aside0.mk (show Kd.V (Kd.int .u8) 5 _ w.heap.size _ (.slice A45 y287.length c45) y287 from Kd.V_mk (by rw [hy45, hc45]; exact Nat.sub_le_sub_right hroom45 _) hr45)
             have HC291 := Aside0.mk (show y287.length ≤ c45 from by rw [hy45, hc45]; exact Nat.sub_le_sub_right hroom45 _)
             clear hr45 hC45 hroom45 hi045 hsz45 hc45
             have KY45 := Aside0.mk hy45
             have KA45 := Aside0.mk hA45
             clear hy45 hA45
             replace q45 := eq_true q45
             obtain ⟨Ao47, co47, eo47⟩ := Kd.R_slice HO282.out
             (first | subst eo47 | (injection eo47 with f1_ f2_ f3_; have f4_ := f1_.symm; have f5_ := f3_.symm; clear f1_ f2_ f3_; subst f4_; subst f5_))
             refine start_ (n := 10) (S := fun w' => w'.cell? ⟨gb283, 0, none⟩ = some (.slice Ao40 t276.length co40) ∧ w'.cell? ⟨gb283, 1, none⟩ = some (.bool t279)) (ds := []) #[false, false, false, false, false, false, false, false, false, false] qK rfl rfl ⟨(blk_cell BK283.out 0).trans rfl, (blk_cell BK283.out 1).trans rfl⟩ (fun hHeld => ?_); refine with_tabW ebbtidelaw21_FrameCuts.tab14 ebbtidelaw21_FrameCuts.bits14 (fun HT_ HW_ => ?_)
             generalize w43.drew = w44 at HO_6 HO_8 HO_9 HO_266000 HO_267000 HO272 HO275 HO278 HO282 BK265 BK266 BK283 HB HO291 hHeld ⊢
             refine pure_ (i := 1) (N := some 60) (v := ?_) (a' := ?_) #[false, true, false, false, false, false, false, false, false, false] rfl rfl (any_of HT_.out qK) (fun _ _ _ h => h) (Or.inl ⟨by rfl, ?_⟩) ?_ ?_
             rotate_left
             ·intro w'; go_simp; with_reducible rfl
             rotate_left
             ·simp only [Act.put, List.setIfInBounds_toArray, List.set_cons_zero, List.set_cons_succ, i64_w, i32_w]; rfl
             refine pure_ (i := 2) (N := some 61) (v := ?_) (a' := ?_) #[false, true, true, false, false, false, false, false, false, false] rfl rfl (any_of HT_.out qK) (fun _ _ _ h => h) (Or.inl ⟨by rfl, ?_⟩) ?_ ?_
             rotate_left
             ·intro w'; go_simp; with_reducible rfl
             rotate_left
             ·simp only [Act.put, List.setIfInBounds_toArray, List.set_cons_zero, List.set_cons_succ, i64_w, i32_w]; rfl
             refine pure_ (i := 4) (N := some 63) (v := ?_) (a' := ?_) #[false, true, true, false, true, false, false, false, false, false] rfl rfl (any_of HT_.out qK) (fun _ _ _ h => h) (Or.inl ⟨by rfl, ?_⟩) ?_ ?_
             rotate_left
             ·intro w'; go_simp; with_reducible rfl
             rotate_left
             ·simp only [Act.put, List.setIfInBounds_toArray, List.set_cons_zero, List.set_cons_succ, i64_w, i32_w]; rfl
             refine pure_ (i := 5) (N := some 64) (v := ?_) (a' := ?_) #[false, true, true, false, true, true, false, false, false, false] rfl rfl (any_of HT_.out qK) (fun _ _ _ h => h) (Or.inl ⟨by rfl, ?_⟩) ?_ ?_
             rotate_left
             ·intro w'; go_simp; with_reducible rfl
             rotate_left
             ·simp only [Act.put, List.setIfInBounds_toArray, List.set_cons_zero, List.set_cons_succ, i64_w, i32_w]; rfl
             refine pure_ (i := 6) (N := some 65) (v := ?_) (a' := ?_) #[false, true, true, false, true, true, true, false, false, false] rfl rfl (any_of HT_.out qK) (fun _ _ _ h => h) (Or.inl ⟨by rfl, ?_⟩) ?_ ?_
             rotate_left
             ·intro w'; go_simp; with_reducible rfl
             rotate_left
             ·simp only [Act.put, List.setIfInBounds_toArray, List.set_cons_zero, List.set_cons_succ, i64_w, i32_w]; rfl
             refine take_ (i := 0) (N := some 59) (v := ?_) (a' := ?_) #[true, true, true, false, true, true, true, false, false, false] rfl rfl (take_ofW HT_.out HW_.out qK) (fun _ _ _ h => h) (Or.inl ⟨by rfl, ?_⟩) hHeld ?_ ?_
             rotate_left
             ·rintro w' ⟨s0, s1⟩; go_simp; with_reducible rfl
             rotate_left
             ·simp only [Act.put, List.setIfInBounds_toArray, List.set_cons_zero, List.set_cons_succ, i64_w, i32_w]; rfl
             refine one_ (i := 3) (N := some 62) #[true, true, true, true, true, true, true, false, false, false] rfl rfl (one_of HT_.out qK) (by decide) (fun K hK => ?_)
             refine Kd.R_append_rows_step k54 (w0 := w) w.heap.size (by rfl) (.tmp 60) (.tmp 61) 41 54 (.agg #[(.string ⟨#[]⟩), (.bool false)]) 24 rfl Try.underlying41 info54 rfl (by decide) (by omega) u8 x8_2 t280 _ _ _ (fun k_ => (w.heap.size ≤ k_) ∧ some k_ ≠ (v263 : Value).ownBlock ∧ some k_ ≠ (.slice Ao47 t280.length co47 : Value).ownBlock) (fun _ => False) rfl rfl ?aO ?aR (fun _ _ h => h) (fun _ h => h.elim) ?aF ?aB ?aS ?aL ?_
             (case aR => repeat (first | exact (Kd.R_reads' HO282.out).2.2 | (with_reducible refine Kd.C_alloc ?_ _) | (with_reducible refine Kd.C_drewN ?_ _) | (with_reducible refine Kd.C_drew ?_)))
             (case aB => exact qC)
             (case aF => exact (fun k_ hk => ⟨(Nat.le_trans (below_size qC) hk), Kd.fresh' (Kd.R_lt (qR HO_6)) k_ hk, Kd.fresh' (Kd.R_lt (qR HO282)) k_ hk⟩))
             (case aO => exact (qR HO_8))
             (case aS => exact (below_size qC))
             (case aL => have := LMc27.out; omega)
             intro v285 w46 ho hb hg hat
             rw [← Ny284.out] at ho
             have n0_ := Aside0.mk (Kd.R_after (ok := (fun k_ => (w.heap.size ≤ k_) ∧ some k_ ≠ (.slice Ao47 t280.length co47 : Value).ownBlock)) (by (with_reducible repeat (first | apply Kd.R_alloc | apply Kd.R_drewN | apply Kd.R_drew)); exact Kd.R_mono HO_6.out (fun _ hk => ⟨⟨hk.1, hk.2.2⟩, hk.2.1⟩)) hg hat)
             have n1_ := Aside0.mk (Kd.V_afterv (ok := (fun k_ => (P0_ k_ ∨ w.heap.size ≤ k_) ∧ some k_ ≠ (v263 : Value).ownBlock ∧ some k_ ≠ (v274 : Value).ownBlock ∧ some k_ ≠ (.slice Ao47 t280.length co47 : Value).ownBlock ∧ k_ ≠ gb265 ∧ k_ ≠ gb266 ∧ k_ ≠ gb283)) (by (with_reducible repeat (first | apply Kd.V_alloc | apply Kd.V_drewN | apply Kd.V_drew)); exact Kd.V_mono HO_9.out (fun _ hk => ⟨⟨hk.1, ⟨hk.2.1, ⟨hk.2.2.2.1, ⟨hk.2.2.2.2.1, ⟨hk.2.2.2.2.2.1, ⟨hk.2.2.2.2.2.2.1, hk.2.2.2.2.2.2.2⟩⟩⟩⟩⟩⟩, hk.2.2.1⟩)) hg hat)
             have n2_ := Aside0.mk (Kd.V_afterv (ok := (fun k_ => (P0_ k_ ∨ w.heap.size ≤ k_) ∧ some k_ ≠ (v263 : Value).ownBlock ∧ some k_ ≠ (v274 : Value).ownBlock ∧ some k_ ≠ (.slice Ao47 t280.length co47 : Value).ownBlock ∧ k_ ≠ gb265 ∧ k_ ≠ gb266 ∧ k_ ≠ gb283)) (by (with_reducible repeat (first | apply Kd.V_alloc | apply Kd.V_drewN | apply Kd.V_drew)); exact Kd.V_mono HO_266000.out (fun _ hk => ⟨⟨hk.1, ⟨hk.2.1, ⟨hk.2.2.2.1, ⟨hk.2.2.2.2.1, ⟨hk.2.2.2.2.2.1, ⟨hk.2.2.2.2.2.2.1, hk.2.2.2.2.2.2.2⟩⟩⟩⟩⟩⟩, hk.2.2.1⟩)) hg hat)
             have n3_ := Aside0.mk (Kd.V_afterv (ok := (fun k_ => (P0_ k_ ∨ w.heap.size ≤ k_) ∧ some k_ ≠ (v263 : Value).ownBlock ∧ some k_ ≠ (v274 : Value).ownBlock ∧ some k_ ≠ (.slice Ao47 t280.length co47 : Value).ownBlock ∧ k_ ≠ gb265 ∧ k_ ≠ gb266 ∧ k_ ≠ gb283)) (by (with_reducible repeat (first | apply Kd.V_alloc | apply Kd.V_drewN | apply Kd.V_drew)); exact Kd.V_mono HO_267000.out (fun _ hk => ⟨⟨hk.1, ⟨hk.2.1, ⟨hk.2.2.2.1, ⟨hk.2.2.2.2.1, ⟨hk.2.2.2.2.2.1, ⟨hk.2.2.2.2.2.2.1, hk.2.2.2.2.2.2.2⟩⟩⟩⟩⟩⟩, hk.2.2.1⟩)) hg hat)
             have n4_ := Aside0.mk (blk_grown (g := gb265) (o := .cells #[.slice Ao15 t258.length co15, .bool t261] 38 (0, 0)) (qW BK265) hg (Kd.R_ne HO_8.out BK265.out (by decide)))
             have n5_ := Aside0.mk (blk_grown (g := gb266) (o := .cells #[.slice Ao31 x267000_2.length co31, .bool x267001_2] 38 (0, 0)) (qW BK266) hg (Kd.R_ne HO_8.out BK266.out (by decide)))
             have n6_ := Aside0.mk (Kd.V_afterv (ok := (fun k_ => (P0_ k_ ∨ w.heap.size ≤ k_) ∧ some k_ ≠ (v263 : Value).ownBlock ∧ some k_ ≠ (v274 : Value).ownBlock ∧ some k_ ≠ (.slice Ao47 t280.length co47 : Value).ownBlock ∧ k_ ≠ gb265 ∧ k_ ≠ gb266 ∧ k_ ≠ gb283)) (by (with_reducible repeat (first | apply Kd.V_alloc | apply Kd.V_drewN | apply Kd.V_drew)); exact Kd.V_mono HO272.out (fun _ hk => ⟨⟨hk.1, ⟨hk.2.1, ⟨hk.2.2.2.1, ⟨hk.2.2.2.2.1, ⟨hk.2.2.2.2.2.1, ⟨hk.2.2.2.2.2.2.1, hk.2.2.2.2.2.2.2⟩⟩⟩⟩⟩⟩, hk.2.2.1⟩)) hg hat)
             have n7_ := Aside0.mk (Kd.N_afterv (ok := (fun k_ => (P0_ k_ ∨ w.heap.size ≤ k_) ∧ some k_ ≠ (v263 : Value).ownBlock ∧ some k_ ≠ (.slice Ao47 t280.length co47 : Value).ownBlock ∧ k_ ≠ gb265 ∧ k_ ≠ gb266 ∧ k_ ≠ gb283)) (by (with_reducible repeat (first | apply Kd.N_alloc | apply Kd.N_drewN | apply Kd.N_drew)); exact Kd.N_mono HO275.out (fun _ hk => ⟨⟨hk.1, ⟨hk.2.1, ⟨hk.2.2.2.1, ⟨hk.2.2.2.2.1, ⟨hk.2.2.2.2.2.1, hk.2.2.2.2.2.2⟩⟩⟩⟩⟩, hk.2.2.1⟩)) hg hat)
             have n8_ := Aside0.mk (Kd.V_afterv (ok := (fun k_ => (P0_ k_ ∨ w.heap.size ≤ k_) ∧ some k_ ≠ (v263 : Value).ownBlock ∧ some k_ ≠ (v274 : Value).ownBlock ∧ some k_ ≠ (.slice Ao47 t280.length co47 : Value).ownBlock ∧ k_ ≠ gb265 ∧ k_ ≠ gb266 ∧ k_ ≠ gb283)) (by (with_reducible repeat (first | apply Kd.V_alloc | apply Kd.V_drewN | apply Kd.V_drew)); exact Kd.V_mono HO278.out (fun _ hk => ⟨⟨hk.1, ⟨hk.2.1, ⟨hk.2.2.2.1, ⟨hk.2.2.2.2.1, ⟨hk.2.2.2.2.2.1, ⟨hk.2.2.2.2.2.2.1, hk.2.2.2.2.2.2.2⟩⟩⟩⟩⟩⟩, hk.2.2.1⟩)) hg hat)
             have n9_ := Aside0.mk (Kd.R_after (ok := (fun k_ => (w.heap.size ≤ k_) ∧ some k_ ≠ (v263 : Value).ownBlock)) (by (with_reducible repeat (first | apply Kd.R_alloc | apply Kd.R_drewN | apply Kd.R_drew)); exact Kd.R_mono HO282.out (fun _ hk => ⟨⟨hk.1, hk.2.1⟩, hk.2.2⟩)) hg hat)
             have n10_ := Aside0.mk (blk_grown (g := gb283) (o := .cells #[.slice Ao40 t276.length co40, .bool t279] 38 (0, 0)) (qW BK283) hg (Kd.R_ne HO_8.out BK283.out (by decide)))
             have n11_ := Aside0.mk (Kd.V_afterv (ok := (fun k_ => (P0_ k_ ∨ w.heap.size ≤ k_) ∧ some k_ ≠ (v263 : Value).ownBlock ∧ some k_ ≠ (v274 : Value).ownBlock ∧ some k_ ≠ (.slice Ao47 t280.length co47 : Value).ownBlock ∧ k_ ≠ gb265 ∧ k_ ≠ gb266 ∧ k_ ≠ gb283)) (by (with_reducible repeat (first | apply Kd.V_alloc | apply Kd.V_drewN | apply Kd.V_drew)); exact Kd.V_mono HO291.out (fun _ hk => ⟨⟨hk.1, ⟨hk.2.1, ⟨hk.2.2.2.1, ⟨hk.2.2.2.2.1, ⟨hk.2.2.2.2.2.1, ⟨hk.2.2.2.2.2.2.1, hk.2.2.2.2.2.2.2⟩⟩⟩⟩⟩⟩, hk.2.2.1⟩)) hg hat)
             have n12_ := Aside0.mk (hb)
             have n13_ := Aside0.mk (ho)
             clear HO_6
             clear HO_9
             clear HO_266000
             clear HO_267000
             clear BK265
             clear BK266
             clear HO272
             clear HO275
             clear HO278
             clear HO282
             clear BK283
             clear HO291
             clear HB
             clear HO_8
             have HO_6 := n0_
             have HO_9 := n1_
             have HO_266000 := n2_
             have HO_267000 := n3_
             have BK265 := n4_
             have BK266 := n5_
             have HO272 := n6_
             have HO275 := n7_
             have HO278 := n8_
             have HO282 := n9_
             have BK283 := n10_
             have HO291 := n11_
             have HB := n12_
             have HO286 := n13_
             clear n0_ n1_ n2_ n3_ n4_ n5_ n6_ n7_ n8_ n9_ n10_ n11_ n12_ n13_
             clear ho hb hg hat
             refine hK.out _ _ ⟨(blk_cell BK283.out 0).trans rfl, (blk_cell BK283.out 1).trans rfl⟩ (fun hHeld => ?_)
             clear hK K
             refine norm_ (a' := ?_) ?_ ?_
             rotate_left
             ·show Act.put _ (some 62) _ = _
              simp only [Act.put, List.setIfInBounds_toArray, List.set_cons_zero, List.set_cons_succ, i64_w, i32_w]
              rfl
             refine one_ (i := 7) (N := none) #[true, true, true, true, true, true, true, true, false, false] rfl rfl (one_of HT_.out qK) (by decide) (fun K hK => ?_)
             have hs48 : w46.cell? ⟨gb266, 0, none⟩ = some (.slice Ao31 x267000_2.length co31) := (blk_cell BK266.out 0).trans rfl
             have hfs48 := blk_frozen BK266.out 0
             have hns48_0 := NB265_266.out
             have hns48_2 := NB283_266.out
             have hms48_0 := NB266_265.out
             have hms48_2 := NB266_283.out
             have hs49 : w46.cell? ⟨gb266, 1, none⟩ = some (.bool x267001_2) := (blk_cell BK266.out 1).trans rfl
             have hfs49 := blk_frozen BK266.out 1
             have hns49_0 := NB265_266.out
             have hns49_2 := NB283_266.out
             have hms49_0 := NB266_265.out
             have hms49_2 := NB266_283.out
             refine skip_ (w1 := ?_) (by rfl) rfl ?_ ?_
             rotate_left
             ·go_simp
              rfl
             refine hK.out _ _ ⟨((cell_far (p := ⟨gb266, _, none⟩) NB283_266.out _).trans (((cell_far (p := ⟨gb266, _, none⟩) NB283_266.out _).trans (hHeld.1)))), ((cell_far (p := ⟨gb266, _, none⟩) NB283_266.out _).trans (((cell_far (p := ⟨gb266, _, none⟩) NB283_266.out _).trans (hHeld.2))))⟩ (fun hHeld => ?_)
             clear hK K
             refine pure_ (i := 8) (N := some 8) (v := ?_) (a' := ?_) #[true, true, true, true, true, true, true, true, true, false] rfl rfl (any_of HT_.out qK) (fun _ _ _ h => h) (Or.inl ⟨by rfl, ?_⟩) ?_ ?_
             rotate_left
             ·intro w'; go_simp; with_reducible rfl
             rotate_left
             ·simp only [Act.put, List.setIfInBounds_toArray, List.set_cons_zero, List.set_cons_succ, i64_w, i32_w]; rfl
             refine pure_ (i := 9) (N := some 9) (v := ?_) (a' := ?_) #[true, true, true, true, true, true, true, true, true, true] rfl rfl (any_of HT_.out qK) (fun _ _ _ h => h) (Or.inl ⟨by rfl, ?_⟩) ?_ ?_
             rotate_left
             ·intro w'; go_simp; with_reducible rfl
             rotate_left
             ·simp only [Act.put, List.setIfInBounds_toArray, List.set_cons_zero, List.set_cons_succ, i64_w, i32_w]; rfl
             refine done_ (done_of HT_.out qK) ?_
             try go_wp2
             go_roundg k2
             case measure => have := HJ4.out; have := HK2.out; omega
             case rel => exact ⟨(y284), (y287), (wrap64 (x10_2 + 1)), (t276), (t279), (.slice Ao40 t276.length co40), qS, H', ⟨by have := HJ4.out; have := HK2.out; omega⟩, ⟨by (with_reducible repeat (first | apply Kd.R_alloc | apply Kd.R_drewN | apply Kd.R_drew)); exact Kd.R_mono (Kd.R_far (p := ⟨gb266, 1, none⟩) (Kd.R_far (p := ⟨gb266, 0, none⟩) (Kd.R_types HO_6.out BK266.out (by decide)) (fun _ hk => hk.2) (.slice Ao40 t276.length co40)) (fun _ hk => hk.2) (.bool t279)) (fun _ hk => ⟨hk.1.1.1, hk.1.2⟩)⟩, ⟨by (with_reducible repeat (first | apply Kd.R_alloc | apply Kd.R_drewN | apply Kd.R_drew)); exact Kd.R_mono (Kd.R_far (p := ⟨gb266, 1, none⟩) (Kd.R_far (p := ⟨gb266, 0, none⟩) (Kd.R_types HO286.out BK266.out (by decide)) (fun _ hk => hk.2) (.slice Ao40 t276.length co40)) (fun _ hk => hk.2) (.bool t279)) (fun _ hk => ⟨hk.1.1, hk.1.2.1⟩)⟩, ⟨by (with_reducible repeat (first | apply Kd.V_alloc | apply Kd.V_drewN | apply Kd.V_drew)); exact Kd.V_mono (Kd.V_far (p := ⟨gb266, 1, none⟩) (Kd.V_far (p := ⟨gb266, 0, none⟩) (Kd.V_mono HO291.out (fun k_ hk => (⟨hk, hk.1.2.2.2.2.2.1⟩ : _ ∧ k_ ≠ gb266))) (fun _ hk => hk.2) (.slice Ao40 t276.length co40)) (fun _ hk => hk.2) (.bool t279)) (fun _ hk => ⟨hk.1.1.1, ⟨hk.1.1.2.1, ⟨hk.1.2, ⟨hk.1.1.2.2.2.2.1, hk.1.1.2.2.2.2.2.1⟩⟩⟩⟩)⟩, ⟨by (with_reducible repeat (first | apply Kd.V_alloc | apply Kd.V_drewN | apply Kd.V_drew)); exact Kd.V_mono (Kd.V_far (p := ⟨gb266, 1, none⟩) (Kd.V_far (p := ⟨gb266, 0, none⟩) (Kd.V_mono HO_266000.out (fun k_ hk => (⟨hk, hk.1.2.2.2.2.2.1⟩ : _ ∧ k_ ≠ gb266))) (fun _ hk => hk.2) (.slice Ao40 t276.length co40)) (fun _ hk => hk.2) (.bool t279)) (fun _ hk => ⟨hk.1.1.1, ⟨hk.1.1.2.1, ⟨hk.1.2, ⟨hk.1.1.2.2.2.2.1, hk.1.1.2.2.2.2.2.1⟩⟩⟩⟩)⟩, ⟨by (with_reducible repeat (first | apply Kd.V_alloc | apply Kd.V_drewN | apply Kd.V_drew)); exact Kd.V_mono (Kd.V_far (p := ⟨gb266, 1, none⟩) (Kd.V_far (p := ⟨gb266, 0, none⟩) (Kd.V_mono HO278.out (fun k_ hk => (⟨hk, hk.1.2.2.2.2.2.1⟩ : _ ∧ k_ ≠ gb266))) (fun _ hk => hk.2) (.slice Ao40 t276.length co40)) (fun _ hk => hk.2) (.bool t279)) (fun _ hk => ⟨hk.1.1.1, ⟨hk.1.1.2.1, ⟨hk.1.2, ⟨hk.1.1.2.2.2.2.1, hk.1.1.2.2.2.2.2.1⟩⟩⟩⟩)⟩, ⟨by (with_reducible repeat (first | refine blk_drewN ?_ _ | refine blk_drew ?_ | refine blk_alloc ?_ _)); refine blk_far ?_ NB265_266.out _; (with_reducible repeat (first | refine blk_drewN ?_ _ | refine blk_drew ?_ | refine blk_alloc ?_ _)); refine blk_far ?_ NB265_266.out _; (with_reducible repeat (first | refine blk_drewN ?_ _ | refine blk_drew ?_ | refine blk_alloc ?_ _)); exact BK265.out⟩, ⟨by (with_reducible repeat (first | refine blk_drewN ?_ _ | refine blk_drew ?_ | refine blk_alloc ?_ _)); refine blk_put (cs := #[.slice Ao40 t276.length co40, .bool x267001_2]) ?_ 1 _ rfl; (with_reducible repeat (first | refine blk_drewN ?_ _ | refine blk_drew ?_ | refine blk_alloc ?_ _)); refine blk_put (cs := #[.slice Ao31 x267000_2.length co31, .bool x267001_2]) ?_ 0 _ rfl; (with_reducible repeat (first | refine blk_drewN ?_ _ | refine blk_drew ?_ | refine blk_alloc ?_ _)); exact BK266.out⟩, ⟨qC⟩⟩
            ·rw [if_neg c27] at H
             exact absurd H (by simp)
           ·rw [if_neg c25] at H
            exact absurd H (by simp)
          ·rw [if_neg c24] at H
           exact absurd H (by simp)
        ·rw [if_neg c21] at H
         exact absurd H (by simp)
       ·rw [if_neg c20] at H
        have c20b0 : decide (x10_2 < (l1.length : Int)) = false := decide_eq_false c20
        clear c20
        obtain ⟨y292, hy292⟩ : ∃ y_ : List (List Int), y_ = (([x9_2] : List (List Int))) := ⟨_, rfl⟩
        replace H : ((frame_Push.f x267000_2 x267001_2 y292).bind fun bt295 => (if x8_2.length + bt295.2.2.length < 5864062014805 then ((ebbtideref21_Same.f t258 t261 bt295.1 bt295.2.1).bind fun t306 => (if t306 = true then ((ebbtideref21_Inputs.f k2 t262 (x8_2 ++ bt295.2.2)).bind fun t307 => (if t307 = true then (some (decide ((t258.length : Int) ≤ 120))) else (none))) else (none))) else (none))) = some r := by first | (rw [hy292]; with_reducible exact H) | (have H2_ := (Option.bind_some _ _).symm.trans H; rw [hy292]; with_reducible exact H2_) | (have H2_ := (Option.bind_some _ _).symm.trans H; with_reducible exact H2_) | with_reducible exact H | (rw [hy292]; exact H) | exact H
        have Ny292 := Aside0.mk hy292
        clear hy292
        replace H := Option.bind_eq_some_iff.mp H
        obtain ⟨⟨t295, t298, t299⟩, A500, H⟩ := H
        replace H : (if x8_2.length + t299.length < 5864062014805 then ((ebbtideref21_Same.f t258 t261 t295 t298).bind fun t306 => (if t306 = true then ((ebbtideref21_Inputs.f k2 t262 (x8_2 ++ t299)).bind fun t307 => (if t307 = true then (some (decide ((t258.length : Int) ≤ 120))) else (none))) else (none))) else (none)) = some r := H
        have A50 := Aside0.mk A500
        clear A500
        by_cases c51 : x8_2.length + t299.length < 5864062014805
        ·rw [if_pos c51] at H
         have LMc51 := Aside0.mk c51
         clear c51
         obtain ⟨y303, hy303⟩ : ∃ y_ : List (S54), y_ = (x8_2 ++ t299) := ⟨_, rfl⟩
         replace H : ((ebbtideref21_Same.f t258 t261 t295 t298).bind fun t306 => (if t306 = true then ((ebbtideref21_Inputs.f k2 t262 y303).bind fun t307 => (if t307 = true then (some (decide ((t258.length : Int) ≤ 120))) else (none))) else (none))) = some r := by first | (rw [hy303]; with_reducible exact H) | (have H2_ := (Option.bind_some _ _).symm.trans H; rw [hy303]; with_reducible exact H2_) | (have H2_ := (Option.bind_some _ _).symm.trans H; with_reducible exact H2_) | with_reducible exact H | (rw [hy303]; exact H) | exact H
         have Ny303 := Aside0.mk hy303
         clear hy303
         replace H := Option.bind_eq_some_iff.mp H
         obtain ⟨t306, A520, H⟩ := H
         replace H : (if t306 = true then ((ebbtideref21_Inputs.f k2 t262 y303).bind fun t307 => (if t307 = true then (some (decide ((t258.length : Int) ≤ 120))) else (none))) else (none)) = some r := H
         have A52 := Aside0.mk A520
         clear A520
         by_cases c53 : t306 = true
         ·subst c53
          have H1 : ((ebbtideref21_Inputs.f k2 t262 y303).bind fun t307 => (if t307 = true then (some (decide ((t258.length : Int) ≤ 120))) else (none))) = some r := by rw [if_pos rfl] at H; exact H
          clear H
          have H := H1
          clear H1
          replace H := Option.bind_eq_some_iff.mp H
          obtain ⟨t307, A540, H⟩ := H
          replace H : (if t307 = true then (some (decide ((t258.length : Int) ≤ 120))) else (none)) = some r := H
          have A54 := Aside0.mk A540
          clear A540
          by_cases c55 : t307 = true
          ·subst c55
           have H1 : (some (decide ((t258.length : Int) ≤ 120))) = some r := by rw [if_pos rfl] at H; exact H
           clear H
           have H := H1
           clear H1
           obtain rfl := Option.some.inj H
           have hnb56 := NB266_265.out
           have hnc56 := NB265_266.out
           have hcz57_0 : wr.cell? ⟨gb266, 0, none⟩ = some (u267000) := (blk_cell BK266.out 0).trans rfl
           have hcz57_1 : wr.cell? ⟨gb266, 1, none⟩ = some (.bool x267001_2) := (blk_cell BK266.out 1).trans rfl
           have hfz57_0 := blk_frozen BK266.out 0
           have hfz57_1 := blk_frozen BK266.out 1
           obtain ⟨Ao58, co58, eo58⟩ := Kd.V_slice HO_9.out
           subst eo58
           go_wp2_with (first | ((with_reducible refine gate_dst (N := 69) rfl ?_); (try (refine gate_guard (by rfl) ?_; dsimp only)); refine Kd.N_lit (Kd.slice 5 (Kd.int .u8)) _ 35 ?hg (N' := 69) ?hd (xs := ([x9_2] : List (List Int))) (inner := [.slice Ao58 x9_2.length co58]) (ok := (fun k_ => (P0_ k_ ∨ w.heap.size ≤ k_) ∧ some k_ ≠ (v263 : Value).ownBlock ∧ some k_ ≠ (u8 : Value).ownBlock ∧ k_ ≠ gb265 ∧ k_ ≠ gb266)) (okp := (fun k_ => (P0_ k_ ∨ w.heap.size ≤ k_) ∧ some k_ ≠ (v263 : Value).ownBlock ∧ some k_ ≠ (u8 : Value).ownBlock ∧ k_ ≠ gb265 ∧ k_ ≠ gb266)) ?hr ?hp (fun _ hk => hk) ((show ∀ k_, wr.heap.size ≤ k_ → (fun k_ => (P0_ k_ ∨ w.heap.size ≤ k_) ∧ some k_ ≠ (v263 : Value).ownBlock ∧ some k_ ≠ (u8 : Value).ownBlock ∧ k_ ≠ gb265 ∧ k_ ≠ gb266) k_ from fun k_ hk => ⟨(.inr (Nat.le_trans (below_size qC) hk)), Kd.fresh' (Kd.R_lt (qR HO_6)) k_ hk, Kd.fresh' (Kd.R_lt (qR HO_8)) k_ hk, Kd.freshB (g := gb265) (o := .cells #[.slice Ao15 t258.length co15, .bool t261] 38 (0, 0)) (qW BK265) k_ hk, Kd.freshB (g := gb266) (o := .cells #[u267000, .bool x267001_2] 38 (0, 0)) (qW BK266) k_ hk⟩) _ (Nat.le_refl _)) (Below.refl _ _) (Nat.le_refl _) (by simp) ?_; (case hd => rfl); (case hg => rfl); (case hr => first | (go_simp; done) | (go_simp; rfl)); (case hp => exact (Reps.one (show Kd.FK (Kd.slice 5 (Kd.int .u8)) _ _ x9_2 [.slice Ao58 x9_2.length co58] from (Kd.FK_slice_mk (Kd.V_reads' (Kd.V_mono (ok' := (fun k_ => (P0_ k_ ∨ w.heap.size ≤ k_) ∧ some k_ ≠ (v263 : Value).ownBlock ∧ some k_ ≠ (u8 : Value).ownBlock ∧ k_ ≠ gb265 ∧ k_ ≠ gb266)) (HO_9.out) (fun k_ hk => ⟨hk.1, ⟨hk.2.1, ⟨hk.2.2.1, ⟨hk.2.2.2.1, hk.2.2.2.2⟩⟩⟩⟩))).2.1 (Kd.V_F (Kd.V_mono (ok' := (fun k_ => (P0_ k_ ∨ w.heap.size ≤ k_) ∧ some k_ ≠ (v263 : Value).ownBlock ∧ some k_ ≠ (u8 : Value).ownBlock ∧ k_ ≠ gb265 ∧ k_ ≠ gb266)) (HO_9.out) (fun k_ hk => ⟨hk.1, ⟨hk.2.1, ⟨hk.2.2.1, ⟨hk.2.2.2.1, hk.2.2.2.2⟩⟩⟩⟩))))) (Reps.none _ _))); intro v293 w59 ho60 hb hg_ hnew_; clear hg_ hnew_; (first | rw [← Ny292.out] at ho60 | (simp only [Int.reduceToNat] at ho60; rw [← Ny292.out] at ho60)); have n0_ := Aside0.mk (Kd.R_below (qR HO_6) hb); have n1_ := Aside0.mk (Kd.R_below (qR HO_8) hb); have n2_ := Aside0.mk (Kd.V_elder' (by (with_reducible repeat (first | apply Kd.V_alloc | apply Kd.V_drewN | apply Kd.V_drew)); exact HO_9.out) (Kd.N_base ho60) hb); have n3_ := Aside0.mk (Kd.V_elder' (by (with_reducible repeat (first | apply Kd.V_alloc | apply Kd.V_drewN | apply Kd.V_drew)); exact HO_266000.out) (Kd.N_base ho60) hb); have n4_ := Aside0.mk (Kd.V_elder' (by (with_reducible repeat (first | apply Kd.V_alloc | apply Kd.V_drewN | apply Kd.V_drew)); exact HO_267000.out) (Kd.N_base ho60) hb); have n5_ := Aside0.mk (Kd.N_lower ho60 (below_size qC)); have n6_ := Aside0.mk (blk_below (g := gb265) (o := .cells #[.slice Ao15 t258.length co15, .bool t261] 38 (0, 0)) (qW BK265) hb); have n7_ := Aside0.mk (blk_below (g := gb266) (o := .cells #[u267000, .bool x267001_2] 38 (0, 0)) (qW BK266) hb); have n8_ := Aside0.mk (below_step qC hb); clear HO_6; clear HO_8; clear HO_9; clear HO_266000; clear HO_267000; clear BK265; clear BK266; clear HB; have HO_6 := n0_; have HO_8 := n1_; have HO_9 := n2_; have HO_266000 := n3_; have HO_267000 := n4_; have HO294 := n5_; have BK265 := n6_; have BK266 := n7_; have HB := n8_; clear n0_ n1_ n2_ n3_ n4_ n5_ n6_ n7_ n8_; clear hb ho60; obtain ⟨Ao61, co61, eo61⟩ := Kd.V_slice HO_267000.out; subst eo61; obtain ⟨Ao62, co62, eo62⟩ := Kd.N_slice HO294.out; subst eo62) | ((with_reducible refine gate_callee (f := 22) rfl ?_); refine goesL_ (some 70) rfl rfl Try.func22 qK rfl #[.agg #[.slice Ao61 x267000_2.length co61, .bool x267001_2], .slice Ao62 y292.length co62] rfl qG ?_; (with_reducible refine (frame_Push.calls (fun k_ => (((P0_ k_ ∨ w.heap.size ≤ k_) ∧ (some k_ ≠ (v263 : Value).ownBlock ∧ (some k_ ≠ (u8 : Value).ownBlock ∧ (k_ ≠ gb265 ∧ k_ ≠ gb266)))) ∧ some k_ ≠ (.slice Ao62 y292.length co62 : Value).ownBlock)) _ _ x267000_2 x267001_2 _ _ y292 t295 t298 t299 _ ?side1 ?side2 ?side3 A50.out).mono ?_); (case side1 => exact HO_267000.out); (case side2 => repeat (first | exact (Kd.N_reads' HO294.out).2.2 | (with_reducible refine Kd.C_alloc ?_ _) | (with_reducible refine Kd.C_drewN ?_ _) | (with_reducible refine Kd.C_drew ?_))); (case side3 => exact (Kd.N_reads' HO294.out).2.1); rintro e w63 ⟨v296, v300, rfl, ho0, ho1, hb⟩; refine ⟨_, rfl, ?_⟩; have n0_ := Aside0.mk (Kd.R_elder' (qR HO_6) (Kd.R_base ho1) hb); have n1_ := Aside0.mk (Kd.R_elder' (qR HO_8) (Kd.R_base ho1) hb); have n2_ := Aside0.mk (Kd.V_elder' (by (with_reducible repeat (first | apply Kd.V_alloc | apply Kd.V_drewN | apply Kd.V_drew)); exact HO_9.out) (Kd.R_base ho1) hb); have n3_ := Aside0.mk (Kd.V_elder' (by (with_reducible repeat (first | apply Kd.V_alloc | apply Kd.V_drewN | apply Kd.V_drew)); exact HO_266000.out) (Kd.R_base ho1) hb); have n4_ := Aside0.mk (Kd.V_elder' (by (with_reducible repeat (first | apply Kd.V_alloc | apply Kd.V_drewN | apply Kd.V_drew)); exact HO_267000.out) (Kd.R_base ho1) hb); have n5_ := Aside0.mk (Kd.N_elder' (by (with_reducible repeat (first | apply Kd.N_alloc | apply Kd.N_drewN | apply Kd.N_drew)); exact HO294.out) (Kd.R_base ho1) hb); have n6_ := Aside0.mk (Kd.V_lower (Kd.V_mono (ok' := fun k_ => (P0_ k_ ∨ w.heap.size ≤ k_) ∧ some k_ ≠ (v300 : Value).ownBlock ∧ some k_ ≠ (v263 : Value).ownBlock ∧ some k_ ≠ (u8 : Value).ownBlock ∧ some k_ ≠ (.slice Ao62 y292.length co62 : Value).ownBlock ∧ k_ ≠ gb265 ∧ k_ ≠ gb266) ho0 (fun k_ hk_ => ⟨Or.elim hk_.1 (fun hs_ => hs_.1.1) (fun hn_ => (.inr (Nat.le_trans (below_size qC) hn_))), hk_.2, Or.elim hk_.1 (fun hs_ => hs_.1.2.1) (fun hn_ => (Kd.fresh' (Kd.R_lt (qR HO_6)) k_ hn_)), Or.elim hk_.1 (fun hs_ => hs_.1.2.2.1) (fun hn_ => (Kd.fresh' (Kd.R_lt (qR HO_8)) k_ hn_)), Or.elim hk_.1 (fun hs_ => hs_.2) (fun hn_ => (Kd.fresh' (Kd.N_lt (by (with_reducible repeat (first | apply Kd.N_alloc | apply Kd.N_drewN | apply Kd.N_drew)); exact HO294.out)) k_ hn_)), Or.elim hk_.1 (fun hs_ => hs_.1.2.2.2.1) (fun hn_ => (Kd.freshB (g := gb265) (o := .cells #[.slice Ao15 t258.length co15, .bool t261] 38 (0, 0)) (qW BK265) k_ hn_)), Or.elim hk_.1 (fun hs_ => hs_.1.2.2.2.2) (fun hn_ => (Kd.freshB (g := gb266) (o := .cells #[.slice Ao61 x267000_2.length co61, .bool x267001_2] 38 (0, 0)) (qW BK266) k_ hn_))⟩)) (below_size qC)); have n7_ := Aside0.mk (Kd.R_lower (Kd.R_new' (Kd.R_new' (Kd.R_newM (M := fun k_ => (w.heap.size ≤ k_)) (Kd.R_mono (ok' := fun k_ => True) ho1 (fun _ hk_ => trivial)) (below_size qC) (fun k_ h_ => h_)) (Kd.R_lt (qR HO_6))) (Kd.R_lt (qR HO_8))) (below_size qC)); have n8_ := Aside0.mk (blk_below (g := gb265) (o := .cells #[.slice Ao15 t258.length co15, .bool t261] 38 (0, 0)) (qW BK265) hb); have n9_ := Aside0.mk (blk_below (g := gb266) (o := .cells #[.slice Ao61 x267000_2.length co61, .bool x267001_2] 38 (0, 0)) (qW BK266) hb); have n10_ := Aside0.mk (below_step qC hb); clear HO_6; clear HO_8; clear HO_9; clear HO_266000; clear HO_267000; clear HO294; clear BK265; clear BK266; clear HB; have HO_6 := n0_; have HO_8 := n1_; have HO_9 := n2_; have HO_266000 := n3_; have HO_267000 := n4_; have HO294 := n5_; have HO297 := n6_; have HO301 := n7_; have BK265 := n8_; have BK266 := n9_; have HB := n10_; clear n0_ n1_ n2_ n3_ n4_ n5_ n6_ n7_ n8_ n9_ n10_; (try clear hb); (try clear hb2); (try clear hk); (try clear hi); (try clear ho0); (try clear ho1)) | ((with_reducible refine gate_dst (N := 14) rfl ?_); (try (refine gate_guard (by rfl) ?_; dsimp only)); refine box_event ?hg (N := 14) ?hd (cs := #[.slice none 0 0, .bool false]) (t := 38) ?hr ?_; (case hd => rfl); (case hg => rfl); (case hr => first | (go_simp; done) | (go_simp; rfl)); intro gb302 hg w64 hbox hb; have n0_ := Aside0.mk (Kd.R_below (qR HO_6) hb); have n1_ := Aside0.mk (Kd.R_below (qR HO_8) hb); have n2_ := Aside0.mk (Kd.V_below (Kd.V_elderB (by (with_reducible repeat (first | apply Kd.V_alloc | apply Kd.V_drewN | apply Kd.V_drew)); exact HO_9.out) gb302 (Nat.le_of_eq hg.symm)) hb); have n3_ := Aside0.mk (Kd.V_below (Kd.V_elderB (by (with_reducible repeat (first | apply Kd.V_alloc | apply Kd.V_drewN | apply Kd.V_drew)); exact HO_266000.out) gb302 (Nat.le_of_eq hg.symm)) hb); have n4_ := Aside0.mk (Kd.V_below (Kd.V_elderB (by (with_reducible repeat (first | apply Kd.V_alloc | apply Kd.V_drewN | apply Kd.V_drew)); exact HO_267000.out) gb302 (Nat.le_of_eq hg.symm)) hb); have n5_ := Aside0.mk (Kd.N_below (Kd.N_elderB (by (with_reducible repeat (first | apply Kd.N_alloc | apply Kd.N_drewN | apply Kd.N_drew)); exact HO294.out) gb302 (Nat.le_of_eq hg.symm)) hb); have n6_ := Aside0.mk (Kd.V_below (Kd.V_elderB (by (with_reducible repeat (first | apply Kd.V_alloc | apply Kd.V_drewN | apply Kd.V_drew)); exact HO297.out) gb302 (Nat.le_of_eq hg.symm)) hb); have n7_ := Aside0.mk (Kd.R_below (qR HO301) hb); have n8_ := Aside0.mk (blk_below (g := gb265) (o := .cells #[.slice Ao15 t258.length co15, .bool t261] 38 (0, 0)) (qW BK265) hb); have n9_ := Aside0.mk (blk_below (g := gb266) (o := .cells #[.slice Ao61 x267000_2.length co61, .bool x267001_2] 38 (0, 0)) (qW BK266) hb); have n10_ := Aside0.mk (below_step qC hb); have n11_ := Aside0.mk (hbox); have n12_ := Aside0.mk ((by rw [hg]; exact (below_size qC) : w.heap.size ≤ gb302)); have n13_ := Aside0.mk ((by rw [hg]; exact (below_size qC) : w.heap.size ≤ gb302)); have n14_ := Aside0.mk ((by rw [hg]; exact Nat.ne_of_lt (blk_lt (g := gb265) (o := .cells #[.slice Ao15 t258.length co15, .bool t261] 38 (0, 0)) (qW BK265)) : gb265 ≠ gb302)); have n15_ := Aside0.mk ((by rw [hg]; exact Nat.ne_of_gt (blk_lt (g := gb265) (o := .cells #[.slice Ao15 t258.length co15, .bool t261] 38 (0, 0)) (qW BK265)) : gb302 ≠ gb265)); have n16_ := Aside0.mk ((by rw [hg]; exact Nat.ne_of_lt (blk_lt (g := gb266) (o := .cells #[.slice Ao61 x267000_2.length co61, .bool x267001_2] 38 (0, 0)) (qW BK266)) : gb266 ≠ gb302)); have n17_ := Aside0.mk ((by rw [hg]; exact Nat.ne_of_gt (blk_lt (g := gb266) (o := .cells #[.slice Ao61 x267000_2.length co61, .bool x267001_2] 38 (0, 0)) (qW BK266)) : gb302 ≠ gb266)); clear HO_6; clear HO_8; clear HO_9; clear HO_266000; clear HO_267000; clear HO294; clear HO297; clear HO301; clear BK265; clear BK266; clear HB; have HO_6 := n0_; have HO_8 := n1_; have HO_9 := n2_; have HO_266000 := n3_; have HO_267000 := n4_; have HO294 := n5_; have HO297 := n6_; have HO301 := n7_; have BK265 := n8_; have BK266 := n9_; have HB := n10_; have BK302 := n11_; have GW302 := n12_; have GE302 := n13_; have NB265_302 := n14_; have NB302_265 := n15_; have NB266_302 := n16_; have NB302_266 := n17_; clear n0_ n1_ n2_ n3_ n4_ n5_ n6_ n7_ n8_ n9_ n10_ n11_ n12_ n13_ n14_ n15_ n16_ n17_; clear hb hbox hg; obtain ⟨Ao65, co65, eo65⟩ := Kd.V_slice HO297.out; subst eo65; have hnb66 := NB302_265.out; have hnc66 := NB265_302.out; have hnb67 := NB302_266.out; have hnc67 := NB266_302.out; have hcz68_0 : w64.cell? ⟨gb302, 0, none⟩ = some (.slice none 0 0) := (blk_cell BK302.out 0).trans rfl; have hcz68_1 : w64.cell? ⟨gb302, 1, none⟩ = some (.bool false) := (blk_cell BK302.out 1).trans rfl; have hfz68_0 := blk_frozen BK302.out 0; have hfz68_1 := blk_frozen BK302.out 1; obtain ⟨Ao70, co70, eo70⟩ := Kd.R_slice HO301.out; subst eo70) | ((with_reducible refine gate_builtin (b := .append) (xs := #[.tmp 73, .tmp 74]) rfl ?_); (try (refine gate_guard (by rfl) ?_; dsimp only)); at_builtin; refine Kd.R_append_rows k54 (w0 := w) w.heap.size rfl (.tmp 73) (.tmp 74) 41 54 (.agg #[(.string ⟨#[]⟩), (.bool false)]) 24 rfl Try.underlying41 info54 rfl (by decide) (by omega) u8 x8_2 t299 _ _ _ (fun k_ => (w.heap.size ≤ k_) ∧ some k_ ≠ (v263 : Value).ownBlock ∧ some k_ ≠ (.slice Ao70 t299.length co70 : Value).ownBlock) (fun _ => False) rfl rfl ?aO ?aR (fun _ _ h => h) (fun _ h => h.elim) ?aF ?aB ?aS ?aL ?_; (case aR => refine (Kd.R_reads' (e := 54) (base := w.heap.size) (ok := fun k_ => ((((w.heap.size ≤ k_) ∧ True) ∧ some k_ ≠ (v263 : Value).ownBlock) ∧ some k_ ≠ (u8 : Value).ownBlock)) (n := t299.length) (c := co70) ?_).2.2; exact (by (with_reducible repeat (first | apply Kd.R_alloc | apply Kd.R_drewN | apply Kd.R_drew)); exact (Kd.R_mono (Kd.R_far (p := ⟨gb302, 1, none⟩) (Kd.R_far (p := ⟨gb302, 0, none⟩) (Kd.R_types HO301.out BK302.out (by decide)) (fun _ hk => hk.2) (.slice Ao65 t295.length co65)) (fun _ hk => hk.2) (.bool t298)) (fun _ h_ => h_.1)))); (case aB => exact qC); (case aF => exact (fun k_ hk => ⟨(Nat.le_trans (below_size qC) hk), Kd.fresh' (Kd.R_lt (by (with_reducible repeat (first | apply Kd.R_alloc | apply Kd.R_drewN | apply Kd.R_drew)); exact (Kd.R_mono (Kd.R_far (p := ⟨gb302, 1, none⟩) (Kd.R_far (p := ⟨gb302, 0, none⟩) (Kd.R_types HO_6.out BK302.out (by decide)) (fun _ hk => hk.2) (.slice Ao65 t295.length co65)) (fun _ hk => hk.2) (.bool t298)) (fun _ h_ => h_.1)))) k_ hk, Kd.fresh' (Kd.R_lt (by (with_reducible repeat (first | apply Kd.R_alloc | apply Kd.R_drewN | apply Kd.R_drew)); exact (Kd.R_mono (Kd.R_far (p := ⟨gb302, 1, none⟩) (Kd.R_far (p := ⟨gb302, 0, none⟩) (Kd.R_types HO301.out BK302.out (by decide)) (fun _ hk => hk.2) (.slice Ao65 t295.length co65)) (fun _ hk => hk.2) (.bool t298)) (fun _ h_ => h_.1)))) k_ hk⟩)); (case aO => exact (by (with_reducible repeat (first | apply Kd.R_alloc | apply Kd.R_drewN | apply Kd.R_drew)); exact Kd.R_mono (Kd.R_far (p := ⟨gb302, 1, none⟩) (Kd.R_far (p := ⟨gb302, 0, none⟩) (Kd.R_types HO_8.out BK302.out (by decide)) (fun _ hk => hk.2) (.slice Ao65 t295.length co65)) (fun _ hk => hk.2) (.bool t298)) (fun _ hk => ⟨hk.1.1.1, ⟨hk.1.1.2, hk.1.2⟩⟩))); (case aS => exact (below_size qC)); (case aL => have := LMc51.out; omega); intro v304 w69 ho hb hg hat; rw [← Ny303.out] at ho; have n0_ := Aside0.mk (Kd.R_after (ok := (fun k_ => (w.heap.size ≤ k_) ∧ some k_ ≠ (.slice Ao70 t299.length co70 : Value).ownBlock)) (by (with_reducible repeat (first | apply Kd.R_alloc | apply Kd.R_drewN | apply Kd.R_drew)); exact Kd.R_mono (Kd.R_far (p := ⟨gb302, 1, none⟩) (Kd.R_far (p := ⟨gb302, 0, none⟩) (Kd.R_types HO_6.out BK302.out (by decide)) (fun _ hk => hk.2) (.slice Ao65 t295.length co65)) (fun _ hk => hk.2) (.bool t298)) (fun _ hk => ⟨⟨hk.1.1.1, hk.1.2⟩, hk.1.1.2⟩)) hg hat); have n1_ := Aside0.mk (Kd.V_afterv (ok := (fun k_ => (P0_ k_ ∨ w.heap.size ≤ k_) ∧ some k_ ≠ (v263 : Value).ownBlock ∧ some k_ ≠ (.slice Ao62 y292.length co62 : Value).ownBlock ∧ some k_ ≠ (.slice Ao70 t299.length co70 : Value).ownBlock ∧ k_ ≠ gb265 ∧ k_ ≠ gb266 ∧ k_ ≠ gb302)) (by (with_reducible repeat (first | apply Kd.V_alloc | apply Kd.V_drewN | apply Kd.V_drew)); exact Kd.V_mono (Kd.V_far (p := ⟨gb302, 1, none⟩) (Kd.V_far (p := ⟨gb302, 0, none⟩) (Kd.V_mono HO_9.out (fun k_ hk => (⟨hk, hk.2⟩ : _ ∧ k_ ≠ gb302))) (fun _ hk => hk.2) (.slice Ao65 t295.length co65)) (fun _ hk => hk.2) (.bool t298)) (fun _ hk => ⟨⟨hk.1.1.1.1.1, ⟨hk.1.1.1.1.2.1, ⟨hk.1.1.1.2, ⟨hk.1.1.2, ⟨hk.1.1.1.1.2.2.2.1, ⟨hk.1.1.1.1.2.2.2.2, hk.1.2⟩⟩⟩⟩⟩⟩, hk.1.1.1.1.2.2.1⟩)) hg hat); have n2_ := Aside0.mk (Kd.V_afterv (ok := (fun k_ => (P0_ k_ ∨ w.heap.size ≤ k_) ∧ some k_ ≠ (v263 : Value).ownBlock ∧ some k_ ≠ (.slice Ao62 y292.length co62 : Value).ownBlock ∧ some k_ ≠ (.slice Ao70 t299.length co70 : Value).ownBlock ∧ k_ ≠ gb265 ∧ k_ ≠ gb266 ∧ k_ ≠ gb302)) (by (with_reducible repeat (first | apply Kd.V_alloc | apply Kd.V_drewN | apply Kd.V_drew)); exact Kd.V_mono (Kd.V_far (p := ⟨gb302, 1, none⟩) (Kd.V_far (p := ⟨gb302, 0, none⟩) (Kd.V_mono HO_266000.out (fun k_ hk => (⟨hk, hk.2⟩ : _ ∧ k_ ≠ gb302))) (fun _ hk => hk.2) (.slice Ao65 t295.length co65)) (fun _ hk => hk.2) (.bool t298)) (fun _ hk => ⟨⟨hk.1.1.1.1.1, ⟨hk.1.1.1.1.2.1, ⟨hk.1.1.1.2, ⟨hk.1.1.2, ⟨hk.1.1.1.1.2.2.2.1, ⟨hk.1.1.1.1.2.2.2.2, hk.1.2⟩⟩⟩⟩⟩⟩, hk.1.1.1.1.2.2.1⟩)) hg hat); have n3_ := Aside0.mk (Kd.V_afterv (ok := (fun k_ => (P0_ k_ ∨ w.heap.size ≤ k_) ∧ some k_ ≠ (v263 : Value).ownBlock ∧ some k_ ≠ (.slice Ao62 y292.length co62 : Value).ownBlock ∧ some k_ ≠ (.slice Ao70 t299.length co70 : Value).ownBlock ∧ k_ ≠ gb265 ∧ k_ ≠ gb266 ∧ k_ ≠ gb302)) (by (with_reducible repeat (first | apply Kd.V_alloc | apply Kd.V_drewN | apply Kd.V_drew)); exact Kd.V_mono (Kd.V_far (p := ⟨gb302, 1, none⟩) (Kd.V_far (p := ⟨gb302, 0, none⟩) (Kd.V_mono HO_267000.out (fun k_ hk => (⟨hk, hk.2⟩ : _ ∧ k_ ≠ gb302))) (fun _ hk => hk.2) (.slice Ao65 t295.length co65)) (fun _ hk => hk.2) (.bool t298)) (fun _ hk => ⟨⟨hk.1.1.1.1.1, ⟨hk.1.1.1.1.2.1, ⟨hk.1.1.1.2, ⟨hk.1.1.2, ⟨hk.1.1.1.1.2.2.2.1, ⟨hk.1.1.1.1.2.2.2.2, hk.1.2⟩⟩⟩⟩⟩⟩, hk.1.1.1.1.2.2.1⟩)) hg hat); have n4_ := Aside0.mk (blk_grown (g := gb265) (o := .cells #[.slice Ao15 t258.length co15, .bool t261] 38 (0, 0)) (by (with_reducible repeat (first | refine blk_drewN ?_ _ | refine blk_drew ?_ | refine blk_alloc ?_ _)); refine blk_far ?_ NB265_302.out _; (with_reducible repeat (first | refine blk_drewN ?_ _ | refine blk_drew ?_ | refine blk_alloc ?_ _)); refine blk_far ?_ NB265_302.out _; (with_reducible repeat (first | refine blk_drewN ?_ _ | refine blk_drew ?_ | refine blk_alloc ?_ _)); exact BK265.out) hg (Kd.R_ne HO_8.out BK265.out (by decide))); have n5_ := Aside0.mk (blk_grown (g := gb266) (o := .cells #[.slice Ao61 x267000_2.length co61, .bool x267001_2] 38 (0, 0)) (by (with_reducible repeat (first | refine blk_drewN ?_ _ | refine blk_drew ?_ | refine blk_alloc ?_ _)); refine blk_far ?_ NB266_302.out _; (with_reducible repeat (first | refine blk_drewN ?_ _ | refine blk_drew ?_ | refine blk_alloc ?_ _)); refine blk_far ?_ NB266_302.out _; (with_reducible repeat (first | refine blk_drewN ?_ _ | refine blk_drew ?_ | refine blk_alloc ?_ _)); exact BK266.out) hg (Kd.R_ne HO_8.out BK266.out (by decide))); have n6_ := Aside0.mk (Kd.N_afterv (ok := (fun k_ => (P0_ k_ ∨ w.heap.size ≤ k_) ∧ some k_ ≠ (v263 : Value).ownBlock ∧ some k_ ≠ (.slice Ao70 t299.length co70 : Value).ownBlock ∧ k_ ≠ gb265 ∧ k_ ≠ gb266 ∧ k_ ≠ gb302)) (by (with_reducible repeat (first | apply Kd.N_alloc | apply Kd.N_drewN | apply Kd.N_drew)); exact Kd.N_mono (Kd.N_far (p := ⟨gb302, 1, none⟩) (Kd.N_far (p := ⟨gb302, 0, none⟩) (Kd.N_mono HO294.out (fun k_ hk => (⟨hk, hk.2⟩ : _ ∧ k_ ≠ gb302))) (fun _ hk => hk.2) (.slice Ao65 t295.length co65)) (fun _ hk => hk.2) (.bool t298)) (fun _ hk => ⟨⟨hk.1.1.1.1, ⟨hk.1.1.1.2.1, ⟨hk.1.1.2, ⟨hk.1.1.1.2.2.2.1, ⟨hk.1.1.1.2.2.2.2, hk.1.2⟩⟩⟩⟩⟩, hk.1.1.1.2.2.1⟩)) hg hat); have n7_ := Aside0.mk (Kd.V_afterv (ok := (fun k_ => (P0_ k_ ∨ w.heap.size ≤ k_) ∧ some k_ ≠ (v263 : Value).ownBlock ∧ some k_ ≠ (.slice Ao62 y292.length co62 : Value).ownBlock ∧ some k_ ≠ (.slice Ao70 t299.length co70 : Value).ownBlock ∧ k_ ≠ gb265 ∧ k_ ≠ gb266 ∧ k_ ≠ gb302)) (by (with_reducible repeat (first | apply Kd.V_alloc | apply Kd.V_drewN | apply Kd.V_drew)); exact Kd.V_mono (Kd.V_far (p := ⟨gb302, 1, none⟩) (Kd.V_far (p := ⟨gb302, 0, none⟩) (Kd.V_mono HO297.out (fun k_ hk => (⟨hk, hk.2⟩ : _ ∧ k_ ≠ gb302))) (fun _ hk => hk.2) (.slice Ao65 t295.length co65)) (fun _ hk => hk.2) (.bool t298)) (fun _ hk => ⟨⟨hk.1.1.1, ⟨hk.1.1.2.2.1, ⟨hk.1.1.2.2.2.2.1, ⟨hk.1.1.2.1, ⟨hk.1.1.2.2.2.2.2.1, ⟨hk.1.1.2.2.2.2.2.2, hk.1.2⟩⟩⟩⟩⟩⟩, hk.1.1.2.2.2.1⟩)) hg hat); have n8_ := Aside0.mk (Kd.R_after (ok := (fun k_ => (w.heap.size ≤ k_) ∧ some k_ ≠ (v263 : Value).ownBlock)) (by (with_reducible repeat (first | apply Kd.R_alloc | apply Kd.R_drewN | apply Kd.R_drew)); exact Kd.R_mono (Kd.R_far (p := ⟨gb302, 1, none⟩) (Kd.R_far (p := ⟨gb302, 0, none⟩) (Kd.R_types HO301.out BK302.out (by decide)) (fun _ hk => hk.2) (.slice Ao65 t295.length co65)) (fun _ hk => hk.2) (.bool t298)) (fun _ hk => ⟨⟨hk.1.1.1.1, hk.1.1.2⟩, hk.1.2⟩)) hg hat); have n9_ := Aside0.mk (blk_grown (g := gb302) (o := .cells #[.slice Ao65 t295.length co65, .bool t298] 38 (0, 0)) (by (with_reducible repeat (first | refine blk_drewN ?_ _ | refine blk_drew ?_ | refine blk_alloc ?_ _)); refine blk_put (cs := #[.slice Ao65 t295.length co65, .bool false]) ?_ 1 _ rfl; (with_reducible repeat (first | refine blk_drewN ?_ _ | refine blk_drew ?_ | refine blk_alloc ?_ _)); refine blk_put (cs := #[.slice none 0 0, .bool false]) ?_ 0 _ rfl; (with_reducible repeat (first | refine blk_drewN ?_ _ | refine blk_drew ?_ | refine blk_alloc ?_ _)); exact BK302.out) hg (Kd.R_ne HO_8.out BK302.out (by decide))); have n10_ := Aside0.mk (hb); have n11_ := Aside0.mk (ho); clear HO_6; clear HO_9; clear HO_266000; clear HO_267000; clear BK265; clear BK266; clear HO294; clear HO297; clear HO301; clear BK302; clear HB; clear HO_8; have HO_6 := n0_; have HO_9 := n1_; have HO_266000 := n2_; have HO_267000 := n3_; have BK265 := n4_; have BK266 := n5_; have HO294 := n6_; have HO297 := n7_; have HO301 := n8_; have BK302 := n9_; have HB := n10_; have HO305 := n11_; clear n0_ n1_ n2_ n3_ n4_ n5_ n6_ n7_ n8_ n9_ n10_ n11_; clear ho hb hg hat; have hcz71_0 : w69.cell? ⟨gb265, 0, none⟩ = some (.slice Ao15 t258.length co15) := (blk_cell BK265.out 0).trans rfl; have hcz71_1 : w69.cell? ⟨gb265, 1, none⟩ = some (.bool t261) := (blk_cell BK265.out 1).trans rfl; have hfz71_0 := blk_frozen BK265.out 0; have hfz71_1 := blk_frozen BK265.out 1; have hcz72_0 : w69.cell? ⟨gb302, 0, none⟩ = some (.slice Ao65 t295.length co65) := (blk_cell BK302.out 0).trans rfl; have hcz72_1 : w69.cell? ⟨gb302, 1, none⟩ = some (.bool t298) := (blk_cell BK302.out 1).trans rfl; have hfz72_0 := blk_frozen BK302.out 0; have hfz72_1 := blk_frozen BK302.out 1) | ((with_reducible refine gate_callee (f := 24) rfl ?_); refine goesL_ (some 78) rfl rfl Try.func24 qK rfl #[.agg #[.slice Ao15 t258.length co15, .bool t261], .agg #[.slice Ao65 t295.length co65, .bool t298]] rfl qG ?_; (with_reducible refine (ebbtideref21_Same.calls _ _ t258 t261 _ _ t295 t298 true _ ?side1 ?side2 ?side3 ?side4 A52.out).mono ?_); (case side1 => repeat (first | exact (Kd.V_reads' HO_266000.out).2.2 | (with_reducible refine Kd.C_alloc ?_ _) | (with_reducible refine Kd.C_drewN ?_ _) | (with_reducible refine Kd.C_drew ?_))); (case side2 => exact (Kd.V_reads' HO_266000.out).2.1); (case side3 => repeat (first | exact (Kd.V_reads' HO297.out).2.2 | (with_reducible refine Kd.C_alloc ?_ _) | (with_reducible refine Kd.C_drewN ?_ _) | (with_reducible refine Kd.C_drew ?_))); (case side4 => exact (Kd.V_reads' HO297.out).2.1); rintro e w73 ⟨rfl, hb⟩; refine ⟨_, rfl, ?_⟩; have n0_ := Aside0.mk (Kd.R_below (qR HO_6) hb); have n1_ := Aside0.mk (Kd.V_below (by (with_reducible repeat (first | apply Kd.V_alloc | apply Kd.V_drewN | apply Kd.V_drew)); exact HO_9.out) hb); have n2_ := Aside0.mk (Kd.V_below (by (with_reducible repeat (first | apply Kd.V_alloc | apply Kd.V_drewN | apply Kd.V_drew)); exact HO_266000.out) hb); have n3_ := Aside0.mk (Kd.V_below (by (with_reducible repeat (first | apply Kd.V_alloc | apply Kd.V_drewN | apply Kd.V_drew)); exact HO_267000.out) hb); have n4_ := Aside0.mk (Kd.N_below (by (with_reducible repeat (first | apply Kd.N_alloc | apply Kd.N_drewN | apply Kd.N_drew)); exact HO294.out) hb); have n5_ := Aside0.mk (Kd.V_below (by (with_reducible repeat (first | apply Kd.V_alloc | apply Kd.V_drewN | apply Kd.V_drew)); exact HO297.out) hb); have n6_ := Aside0.mk (Kd.R_below (qR HO301) hb); have n7_ := Aside0.mk (Kd.R_below (qR HO305) hb); have n8_ := Aside0.mk (blk_below (g := gb265) (o := .cells #[.slice Ao15 t258.length co15, .bool t261] 38 (0, 0)) (qW BK265) hb); have n9_ := Aside0.mk (blk_below (g := gb266) (o := .cells #[.slice Ao61 x267000_2.length co61, .bool x267001_2] 38 (0, 0)) (qW BK266) hb); have n10_ := Aside0.mk (blk_below (g := gb302) (o := .cells #[.slice Ao65 t295.length co65, .bool t298] 38 (0, 0)) (qW BK302) hb); have n11_ := Aside0.mk (below_step qC hb); clear HO_6; clear HO_9; clear HO_266000; clear HO_267000; clear HO294; clear HO297; clear HO301; clear HO305; clear BK265; clear BK266; clear BK302; clear HB; have HO_6 := n0_; have HO_9 := n1_; have HO_266000 := n2_; have HO_267000 := n3_; have HO294 := n4_; have HO297 := n5_; have HO301 := n6_; have HO305 := n7_; have BK265 := n8_; have BK266 := n9_; have BK302 := n10_; have HB := n11_; clear n0_ n1_ n2_ n3_ n4_ n5_ n6_ n7_ n8_ n9_ n10_ n11_; (try clear hb); (try clear hb2); (try clear hk); (try clear hi); obtain ⟨Ao74, co74, eo74⟩ := Kd.R_slice HO_6.out; subst eo74; obtain ⟨Ao75, co75, eo75⟩ := Kd.R_slice HO305.out; subst eo75) | (go_at_call 25; (with_reducible refine (ebbtideref21_Inputs.calls k2 _ _ t262 _ _ y303 true _ ?side1 ?side2 ?side3 ?side4 A54.out).mono ?_); (case side1 => repeat (first | exact (Kd.R_reads' HO_6.out).2.2 | (with_reducible refine Kd.C_alloc ?_ _) | (with_reducible refine Kd.C_drewN ?_ _) | (with_reducible refine Kd.C_drew ?_))); (case side2 => exact (Kd.R_reads' HO_6.out).2.1); (case side3 => repeat (first | exact (Kd.R_reads' HO305.out).2.2 | (with_reducible refine Kd.C_alloc ?_ _) | (with_reducible refine Kd.C_drewN ?_ _) | (with_reducible refine Kd.C_drew ?_))); (case side4 => exact (Kd.R_reads' HO305.out).2.1); rintro e w' ⟨rfl, ⟨nd, rfl⟩⟩; have hcz76_0 : w73.cell? ⟨gb265, 0, none⟩ = some (.slice Ao15 t258.length co15) := (blk_cell BK265.out 0).trans rfl; have hcz76_1 : w73.cell? ⟨gb265, 1, none⟩ = some (.bool t261) := (blk_cell BK265.out 1).trans rfl; have hfz76_0 := blk_frozen BK265.out 0; have hfz76_1 := blk_frozen BK265.out 1))
           go_ret
           exact ⟨qE, qC⟩
          ·replace c55 := Bool.eq_false_iff.mpr c55
           subst c55
           have H1 : (none) = some r := by rw [if_neg (show ¬ (false = true) by decide)] at H; exact H
           clear H
           have H := H1
           clear H1
           exact absurd H (by simp)
         ·replace c53 := Bool.eq_false_iff.mpr c53
          subst c53
          have H1 : (none) = some r := by rw [if_neg (show ¬ (false = true) by decide)] at H; exact H
          clear H
          have H := H1
          clear H1
          exact absurd H (by simp)
        ·rw [if_neg c51] at H
         exact absurd H (by simp)
 ·replace c4 := Bool.eq_false_iff.mpr c4
  subst c4
  have H1 : (none) = some r := by rw [if_neg (show ¬ (false = true) by decide)] at H; exact H
  clear H
  have H := H1
  clear H1
  exact absurd H (by simp)

end Go.Proofs.Ytnmjnchbdlllmaa.PFr
