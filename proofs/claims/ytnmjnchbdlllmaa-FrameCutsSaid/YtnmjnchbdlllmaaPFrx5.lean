-- PRINTED by print.py (a twelfth state) out of the translation. Not trusted: Lean checks it.
import Derived.Test.YtnmjnchbdlllmaaPFrx0
import Derived.Test.YtnmjnchbdlllmaaPFrx4
namespace Go.Proofs.Ytnmjnchbdlllmaa.PFr
open Go.RowKit Go.Proofs.YtnmjnchbdlllmaaW.PrintWords Go.Proofs.YtnmjnchbdlllmaaW.PrintLast Go.Proofs.YtnmjnchbdlllmaaW.PrintMore
attribute [local go_sem] max2_int min2_int max_two min_two max_three min_three max_four min_four   -- for this text's walks alone
set_option linter.unusedVariables false
set_option linter.unusedSimpArgs false

/-! ### ebbtideref21_Push: function 23 -/
mutual
def ebbtideref21_Push.l0 : Nat → List (List Int) → List (S54) → Int → List Int → Bool → Option (List Int × Bool × (List (S54)))
 | 0, _, _, _, _, _ => none
 | k + 1, x1, x6, x7, x189000, x189001 => if x7 < (x1.length : Int) then (ebbtideref21_Push.l1 k x1 x6 x7 0 x189000 x189001) else (some (x189000, x189001, x6))
def ebbtideref21_Push.l1 : Nat → List (List Int) → List (S54) → Int → Int → List Int → Bool → Option (List Int × Bool × (List (S54)))
 | 0, _, _, _, _, _, _ => none
 | k + 1, x1, x6, x7, x8, x189000, x189001 => if 0 ≤ x7 then (if x7 < (x1.length : Int) then (if x8 < ((rd_L1 x1 x7).length : Int) then (if 0 ≤ x8 then ((ebbtideref21_One.f x189000 x189001 (rd (rd_L1 x1 x7) x8)).bind fun bt193 => (if x6.length + bt193.2.2.length < 5864062014805 then (ebbtideref21_Push.l1 k x1 (x6 ++ bt193.2.2) x7 (wrap64 (x8 + 1)) bt193.1 bt193.2.1) else (none))) else (none)) else (ebbtideref21_Push.l0 k x1 x6 (wrap64 (x7 + 1)) x189000 x189001)) else (none)) else (none)
end
def ebbtideref21_Push.f (k : Nat) (l0_0 : List Int) (a0_1 : Bool) (l1 : List (List Int)) : Option (List Int × Bool × (List (S54))) := ebbtideref21_Push.l0 k l1 ([] : List (S54)) 0 l0_0 a0_1
theorem ebbtideref21_Push.mono_l : ∀ k, (∀ y0 y1 y2 y3 y4, LeO (ebbtideref21_Push.l0 k y0 y1 y2 y3 y4) (ebbtideref21_Push.l0 (k + 1) y0 y1 y2 y3 y4)) ∧ (∀ y0 y1 y2 y3 y4 y5, LeO (ebbtideref21_Push.l1 k y0 y1 y2 y3 y4 y5) (ebbtideref21_Push.l1 (k + 1) y0 y1 y2 y3 y4 y5))
 | 0 => ⟨fun _ _ _ _ _ r h => by simp [ebbtideref21_Push.l0] at h, fun _ _ _ _ _ _ r h => by simp [ebbtideref21_Push.l1] at h⟩
 | k + 1 => by
  obtain ⟨ih0, ih1⟩ := ebbtideref21_Push.mono_l k
  refine ⟨?_, ?_⟩
  ·intro y0 y1 y2 y3 y4
   unfold ebbtideref21_Push.l0
   repeat' first
   | (with_reducible exact ih0 _ _ _ _ _)
   | (with_reducible exact ih1 _ _ _ _ _ _)
   | (with_reducible exact LeO.refl _)
   | (with_reducible exact LeO.none _)
   | (with_reducible refine LeO.ite ?_ ?_)
   | (with_reducible refine LeO.bind ?_ (fun _ => ?_))
   | exact ih0 _ _ _ _ _
   | exact ih1 _ _ _ _ _ _
   | exact LeO.none _
   | refine LeO.ite ?_ ?_
   | refine LeO.bind ?_ (fun _ => ?_)
  ·intro y0 y1 y2 y3 y4 y5
   unfold ebbtideref21_Push.l1
   repeat' first
   | (with_reducible exact ih0 _ _ _ _ _)
   | (with_reducible exact ih1 _ _ _ _ _ _)
   | (with_reducible exact LeO.refl _)
   | (with_reducible exact LeO.none _)
   | (with_reducible refine LeO.ite ?_ ?_)
   | (with_reducible refine LeO.bind ?_ (fun _ => ?_))
   | exact ih0 _ _ _ _ _
   | exact ih1 _ _ _ _ _ _
   | exact LeO.none _
   | refine LeO.ite ?_ ?_
   | refine LeO.bind ?_ (fun _ => ?_)
theorem ebbtideref21_Push.mono : ∀ a0 a1 a2 k, LeO (ebbtideref21_Push.f k a0 a1 a2) (ebbtideref21_Push.f (k + 1) a0 a1 a2) := by
 intro a0 a1 a2 k
 obtain ⟨ih0, ih1⟩ := ebbtideref21_Push.mono_l k
 unfold ebbtideref21_Push.f
 repeat' first
   | (with_reducible exact ih0 _ _ _ _ _)
   | (with_reducible exact ih1 _ _ _ _ _ _)
   | (with_reducible exact LeO.refl _)
   | (with_reducible exact LeO.none _)
   | (with_reducible refine LeO.ite ?_ ?_)
   | (with_reducible refine LeO.bind ?_ (fun _ => ?_))
   | exact ih0 _ _ _ _ _
   | exact ih1 _ _ _ _ _ _
   | exact LeO.none _
   | refine LeO.ite ?_ ?_
   | refine LeO.bind ?_ (fun _ => ?_)
def ebbtideref21_Push.T8 : Bool × List (List Nat × List Nat) := (true, [([], []), ([], []), ([], []), ([1, 2], [1, 2]), ([3], [3]), ([], []), ([4, 5], [4, 5]), ([6], [6]), ([0, 7], [0, 7]), ([8], [8]), ([9], [9]), ([9], [9]), ([], []), ([12, 10, 8, 0, 1, 2, 3, 4, 5, 6, 7, 8, 9, 10, 12], [10, 12]), ([11, 13, 0, 1, 2, 3, 4, 5, 6, 7, 8, 9, 10, 11, 12, 13], [11])])
def ebbtideref21_Push.B8 : List Nat := [0, 0, 0, 6, 14, 0, 62, 126, 255, 511, 1023, 1023, 0, 6143, 16383]
theorem ebbtideref21_Push.tab8 : rtab .any (opsOf Try.f23 8) = ebbtideref21_Push.T8 := qK
theorem ebbtideref21_Push.bits8 : waitsOk ebbtideref21_Push.T8.2 ebbtideref21_Push.B8 = true := qK
set_option maxHeartbeats 8000000 in
set_option maxRecDepth 100000 in
theorem ebbtideref21_Push.calls (k : Nat) (P0_0_ : Nat → Prop) (A0_0 : Option Addr) (c0_0 : Nat) (l0_0 : List Int) (a0_1 : Bool) (A1 : Option Addr) (c1 : Nat) (l1 : List (List Int)) (r1 : List Int) (r2 : Bool) (r3 : List (S54)) (w : World) (hs0_0 : Kd.V (Kd.int .u8) 5 w w.heap.size (fun k_ => P0_0_ k_) (.slice A0_0 l0_0.length c0_0) l0_0) (hr1 : Kd.C (Kd.slice 5 (Kd.int .u8)) w A1 l1.length l1) (hc1 : l1.length ≤ c1) (h : ebbtideref21_Push.f k l0_0 a0_1 l1 = some (r1, r2, r3)) :
  Calls Try.prog 23 #[.agg #[.slice A0_0 l0_0.length c0_0, .bool a0_1], .slice A1 l1.length c1] w fun e w' => ∃ v0_ v2_ : Value, e = .returned (.tuple #[.agg #[v0_, .bool r2], v2_]) ∧ Kd.V (Kd.int .u8) 5 w' w.heap.size (fun k_ => (P0_0_ k_ ∨ w.heap.size ≤ k_) ∧ some k_ ≠ (v2_ : Value).ownBlock) v0_ r1 ∧ Kd.R k54 54 w' w.heap.size (fun k_ => (w.heap.size ≤ k_)) v2_ r3 ∧ Below w.heap.size w w' := by
 have hu38 := Try.underlying38
 have HO0_0 := Aside0.mk (show Kd.V (Kd.int .u8) 5 w w.heap.size (fun k_ => (P0_0_ k_ ∨ w.heap.size ≤ k_)) (.slice A0_0 l0_0.length c0_0) l0_0 from Kd.V_mono hs0_0 (fun k_ hk => .inl hk))
 have HR1 := Aside0.mk hr1
 have HC1 := Aside0.mk hc1
 clear hr1 hc1
 have HB := Aside0.mk (Below.refl w.heap.size w)
 have H : (ebbtideref21_Push.l0 k l1 ([] : List (S54)) 0 l0_0 a0_1) = some (r1, r2, r3) := h
 clear h
 have H' := Aside0.mk H
 clear H
 go_enter Try.func23, Try.ntmps23
 go_wp2_with (first | ((with_reducible refine gate_dst (N := 2) rfl ?_); refine box_event ?hg (N := 2) ?hd (cs := #[.slice A0_0 l0_0.length c0_0, .bool a0_1]) (t := 38) ?hr ?_; (case hd => rfl); (case hg => rfl); (case hr => first | (go_simp; done) | (go_simp; rfl)); intro gb188 hg w3 hbox hb; have n0_ := Aside0.mk (Kd.V_below (Kd.V_elderB (by (with_reducible repeat (first | apply Kd.V_alloc | apply Kd.V_drewN | apply Kd.V_drew)); exact HO0_0.out) gb188 (Nat.le_of_eq hg.symm)) hb); have n1_ := Aside0.mk (below_step qB hb); have n2_ := Aside0.mk (hbox); have n3_ := Aside0.mk ((by rw [hg]; exact (below_size qB) : w.heap.size ≤ gb188)); have n4_ := Aside0.mk ((by rw [hg]; exact (below_size qB) : w.heap.size ≤ gb188)); clear HO0_0; clear HB; have HO0_0 := n0_; have HB := n1_; have BK188 := n2_; have GW188 := n3_; have GE188 := n4_; clear n0_ n1_ n2_ n3_ n4_; clear hb hbox hg) | ((with_reducible refine gate_dst (N := 4) rfl ?_); refine box_event ?hg (N := 4) ?hd (cs := #[.slice none 0 0, .bool false]) (t := 38) ?hr ?_; (case hd => rfl); (case hg => rfl); (case hr => first | (go_simp; done) | (go_simp; rfl)); intro gb189 hg w4 hbox hb; have n0_ := Aside0.mk (Kd.V_below (Kd.V_elderB (by (with_reducible repeat (first | apply Kd.V_alloc | apply Kd.V_drewN | apply Kd.V_drew)); exact HO0_0.out) gb189 (Nat.le_of_eq hg.symm)) hb); have n1_ := Aside0.mk (blk_below (g := gb188) (o := .cells #[.slice A0_0 l0_0.length c0_0, .bool a0_1] 38 (0, 0)) (qW BK188) hb); have n2_ := Aside0.mk (below_step qC hb); have n3_ := Aside0.mk (hbox); have n4_ := Aside0.mk ((by rw [hg]; exact (below_size qC) : w.heap.size ≤ gb189)); have n5_ := Aside0.mk ((by rw [hg]; exact (below_size qC) : w.heap.size ≤ gb189)); have n6_ := Aside0.mk ((by rw [hg]; exact Nat.ne_of_lt (blk_lt (g := gb188) (o := .cells #[.slice A0_0 l0_0.length c0_0, .bool a0_1] 38 (0, 0)) (qW BK188)) : gb188 ≠ gb189)); have n7_ := Aside0.mk ((by rw [hg]; exact Nat.ne_of_gt (blk_lt (g := gb188) (o := .cells #[.slice A0_0 l0_0.length c0_0, .bool a0_1] 38 (0, 0)) (qW BK188)) : gb189 ≠ gb188)); clear HO0_0; clear BK188; clear HB; have HO0_0 := n0_; have BK188 := n1_; have HB := n2_; have BK189 := n3_; have GW189 := n4_; have GE189 := n5_; have NB188_189 := n6_; have NB189_188 := n7_; clear n0_ n1_ n2_ n3_ n4_ n5_ n6_ n7_; clear hb hbox hg))
 go_loopg [6, 7] k (fun kq v6 v7 w' => ∃ (x6_1 : List (S54)) (x7_1 : Int) (x189000_1 : List Int) (x189001_1 : Bool) (u189000 : Value), v7 = .int .i64 x7_1 ∧ Aside0 (ebbtideref21_Push.l0 kq l1 x6_1 x7_1 x189000_1 x189001_1 = some (r1, r2, r3)) ∧ Aside0 (kq ≤ k) ∧ Aside0 (Kd.R k54 54 w' w.heap.size (fun k_ => (w.heap.size ≤ k_)) v6 x6_1) ∧ Aside0 (Kd.V (Kd.int .u8) 5 w' w.heap.size (fun k_ => (P0_0_ k_ ∨ w.heap.size ≤ k_) ∧ some k_ ≠ (v6 : Value).ownBlock ∧ k_ ≠ gb188 ∧ k_ ≠ gb189) u189000 x189000_1) ∧ Aside0 (w'.heap[gb188]? = some (.cells #[u189000, .bool x189001_1] 38 (0, 0))) ∧ Aside0 (w'.heap[gb189]? = some (.cells #[(.slice none 0 0), .bool false] 38 (0, 0))) ∧ Aside0 (Below w.heap.size w w'))
 case atStart => exact ⟨(([] : List (S54))), (0), (l0_0), (a0_1), (.slice A0_0 l0_0.length c0_0), qS, H', ⟨Nat.le_refl _⟩, ⟨qN⟩, ⟨by (with_reducible repeat (first | apply Kd.V_alloc | apply Kd.V_drewN | apply Kd.V_drew)); exact Kd.V_mono HO0_0.out (fun _ hk => ⟨hk.1.1, ⟨(by simp [Value.ownBlock]), ⟨hk.1.2, hk.2⟩⟩⟩)⟩, ⟨qW BK188⟩, ⟨qW BK189⟩, ⟨qC⟩⟩
 case round =>
  clear H'
  try clear c1
  try clear c2
  try clear p2
  obtain ⟨x6_1, x7_1, x189000_1, x189001_1, u189000, rfl, HA, HK1, HO_6, HO_189000, BK188, BK189, HB⟩ := hrel
  cases gk with
  | zero => exact absurd HA.out (by simp [ebbtideref21_Push.l0])
  | succ k1 =>
   have H := HA.out
   clear HA
   simp only [ebbtideref21_Push.l0] at H
   by_cases c5 : x7_1 < (l1.length : Int)
   ·rw [if_pos c5] at H
    have c5b0 : decide (x7_1 < (l1.length : Int)) = true := decide_eq_true c5
    clear c5
    have H' := Aside0.mk H
    clear H
    go_wp2
    go_loopg [6, 8] k1 (fun kq v6 v8 w' => ∃ (x6_2 : List (S54)) (x8_2 : Int) (x189000_2 : List Int) (x189001_2 : Bool) (u189000 : Value), v8 = .int .i64 x8_2 ∧ Aside0 (ebbtideref21_Push.l1 kq l1 x6_2 x7_1 x8_2 x189000_2 x189001_2 = some (r1, r2, r3)) ∧ Aside0 (kq ≤ k1) ∧ Aside0 (Kd.R k54 54 w' w.heap.size (fun k_ => (w.heap.size ≤ k_)) v6 x6_2) ∧ Aside0 (Kd.V (Kd.int .u8) 5 w' w.heap.size (fun k_ => (P0_0_ k_ ∨ w.heap.size ≤ k_) ∧ some k_ ≠ (v6 : Value).ownBlock ∧ k_ ≠ gb188 ∧ k_ ≠ gb189) u189000 x189000_2) ∧ Aside0 (w'.heap[gb188]? = some (.cells #[u189000, .bool x189001_2] 38 (0, 0))) ∧ Aside0 (w'.heap[gb189]? = some (.cells #[(.slice none 0 0), .bool false] 38 (0, 0))) ∧ Aside0 (Below w.heap.size w w'))
    case atStart => exact ⟨(x6_1), (0), (x189000_1), (x189001_1), (u189000), qS, H', ⟨Nat.le_refl _⟩, ⟨qR HO_6⟩, ⟨by (with_reducible repeat (first | apply Kd.V_alloc | apply Kd.V_drewN | apply Kd.V_drew)); exact HO_189000.out⟩, ⟨qW BK188⟩, ⟨qW BK189⟩, ⟨qC⟩⟩
    case round =>
     clear H'
     try clear c1
     try clear c2
     try clear p2
     try clear c5
     try clear c5b0
     try clear p2
     obtain ⟨x6_2, x8_2, x189000_2, x189001_2, u189000, rfl, HA, HK2, HO_6, HO_189000, BK188, BK189, HB⟩ := hrel
     cases gk with
     | zero => exact absurd HA.out (by simp [ebbtideref21_Push.l1])
     | succ k2 =>
      have H := HA.out
      clear HA
      simp only [ebbtideref21_Push.l1] at H
      by_cases c6 : 0 ≤ x7_1
      ·rw [if_pos c6] at H
       have c6b0 : decide (0 ≤ x7_1) = true := decide_eq_true c6
       clear c6
       by_cases c7 : x7_1 < (l1.length : Int)
       ·rw [if_pos c7] at H
        have c7b0 : decide (x7_1 < (l1.length : Int)) = true := decide_eq_true c7
        clear c7
        by_cases c8 : x8_2 < ((rd_L1 l1 x7_1).length : Int)
        ·rw [if_pos c8] at H
         have c8b0 : decide (x8_2 < ((rd_L1 l1 x7_1).length : Int)) = true := decide_eq_true c8
         clear c8
         by_cases c9 : 0 ≤ x8_2
         ·rw [if_pos c9] at H
          have c9b0 : decide (0 ≤ x8_2) = true := decide_eq_true c9
          clear c9
          replace H := Option.bind_eq_some_iff.mp H
          obtain ⟨⟨t193, t196, t197⟩, A100, H⟩ := H
          replace H : (if x6_2.length + t197.length < 5864062014805 then (ebbtideref21_Push.l1 k2 l1 (x6_2 ++ t197) x7_1 (wrap64 (x8_2 + 1)) t193 t196) else (none)) = some (r1, r2, r3) := H
          have A10 := Aside0.mk A100
          clear A100
          by_cases c11 : x6_2.length + t197.length < 5864062014805
          ·rw [if_pos c11] at H
           have LMc11 := Aside0.mk c11
           clear c11
           obtain ⟨y201, hy201⟩ : ∃ y_ : List (S54), y_ = (x6_2 ++ t197) := ⟨_, rfl⟩
           replace H : (ebbtideref21_Push.l1 k2 l1 y201 x7_1 (wrap64 (x8_2 + 1)) t193 t196) = some (r1, r2, r3) := by first | (rw [hy201]; with_reducible exact H) | (have H2_ := (Option.bind_some _ _).symm.trans H; rw [hy201]; with_reducible exact H2_) | (have H2_ := (Option.bind_some _ _).symm.trans H; with_reducible exact H2_) | with_reducible exact H | (rw [hy201]; exact H) | exact H
           have Ny201 := Aside0.mk hy201
           clear hy201
           have H' := Aside0.mk H
           clear H
           have p190 : 0 ≤ (x7_1 : Int) := of_decide_eq_true qA
           have q190 : x7_1 < (l1.length : Int) := of_decide_eq_true qA
           obtain ⟨ad190, A190_0, c190_0, e190, hx190_0, hl190_0, hi190_0⟩ := at_L1 HR1.out x7_1 p190 q190
           cases e190
           replace hx190_0 := (HB.out.cell (World.block_lt_of_cell? w _ hx190_0)).trans hx190_0
           have HR190_0 := Aside0.mk hi190_0
           have HC190_0 := Aside0.mk hl190_0
           clear hi190_0 hl190_0
           replace p190 := eq_true p190
           replace q190 := eq_true q190
           obtain ⟨Ao12, co12, eo12⟩ := Kd.V_slice HO_189000.out
           subst eo12
           try go_wp2
           have n0_ := Aside0.mk (Kd.R_drew HO_6.out)
           have n1_ := Aside0.mk (Kd.V_drew HO_189000.out)
           have n2_ := Aside0.mk (blk_drew BK188.out)
           have n3_ := Aside0.mk (blk_drew BK189.out)
           have n4_ := Aside0.mk (below_drew1 HB.out)
           clear HO_6
           clear HO_189000
           clear BK188
           clear BK189
           clear HB
           have HO_6 := n0_
           have HO_189000 := n1_
           have BK188 := n2_
           have BK189 := n3_
           have HB := n4_
           clear n0_ n1_ n2_ n3_ n4_
           have p191 : 0 ≤ (x7_1 : Int) := of_decide_eq_true qA
           have q191 : x7_1 < (l1.length : Int) := of_decide_eq_true qA
           obtain ⟨ad191, A191_0, c191_0, e191, hx191_0, hl191_0, hi191_0⟩ := at_L1 HR1.out x7_1 p191 q191
           have hw191_0 := hx191_0
           obtain rfl : ad190 = ad191 := (by injection e191)
           replace hx191_0 := (HB.out.cell (World.block_lt_of_cell? w _ hx191_0)).trans hx191_0
           have HR191_0 := Aside0.mk hi191_0
           have HC191_0 := Aside0.mk hl191_0
           clear hi191_0 hl191_0
           replace p191 := eq_true p191
           replace q191 := eq_true q191
           have p192 : 0 ≤ (x8_2 : Int) := of_decide_eq_true qA
           have q192 : x8_2 < ((rd_L1 l1 x7_1).length : Int) := of_decide_eq_true qA
           obtain ⟨ad192, e192, hx192_0⟩ := Kd.at_int HR191_0.out x8_2 p192 q192
           have hw192_0 := hx192_0
           cases e192
           replace hx192_0 := (HB.out.cell (World.block_lt_of_cell? w _ hx192_0)).trans hx192_0
           replace p192 := eq_true p192
           replace q192 := eq_true q192
           refine start_ (n := 15) (S := fun w' => w'.cell? ⟨gb188, 0, none⟩ = some (.slice Ao12 x189000_2.length co12) ∧ w'.cell? ⟨gb188, 1, none⟩ = some (.bool x189001_2) ∧ w'.cell? (ad190.add (x7_1).toNat) = some (.slice (some ad192) (rd_L1 l1 x7_1).length c191_0) ∧ w'.cell? (ad192.add (x8_2).toNat) = some (.int .u8 (rd (rd_L1 l1 x7_1) x8_2))) (ds := []) #[false, false, false, false, false, false, false, false, false, false, false, false, false, false, false] qK rfl rfl ⟨(blk_cell BK188.out 0).trans rfl, (blk_cell BK188.out 1).trans rfl, ((HB.out.cell (World.block_lt_of_cell? w _ hw191_0)).trans hw191_0), ((HB.out.cell (World.block_lt_of_cell? w _ hw192_0)).trans hw192_0)⟩ (fun hHeld => ?_); refine with_tabW ebbtideref21_Push.tab8 ebbtideref21_Push.bits8 (fun HT_ HW_ => ?_)
           generalize wr.drew = w13 at HO_6 HO_189000 BK188 BK189 HB HR191_0 hx191_0 hx192_0 hHeld ⊢
           refine pure_ (i := 1) (N := some 28) (v := ?_) (a' := ?_) #[false, true, false, false, false, false, false, false, false, false, false, false, false, false, false] rfl rfl (any_of HT_.out qK) (fun _ _ _ h => h) (Or.inl ⟨by rfl, ?_⟩) ?_ ?_
           rotate_left
           ·intro w'; go_simp; with_reducible rfl
           rotate_left
           ·simp only [Act.put, List.setIfInBounds_toArray, List.set_cons_zero, List.set_cons_succ, i64_w, i32_w]; rfl
           refine pure_ (i := 2) (N := some 29) (v := ?_) (a' := ?_) #[false, true, true, false, false, false, false, false, false, false, false, false, false, false, false] rfl rfl (any_of HT_.out qK) (fun _ _ _ h => h) (Or.inl ⟨by rfl, ?_⟩) ?_ ?_
           rotate_left
           ·intro w'; go_simp; with_reducible rfl
           rotate_left
           ·simp only [Act.put, List.setIfInBounds_toArray, List.set_cons_zero, List.set_cons_succ, i64_w, i32_w]; rfl
           refine pure_ (i := 3) (N := some 30) (v := ?_) (a' := ?_) #[false, true, true, true, false, false, false, false, false, false, false, false, false, false, false] rfl rfl (any_of HT_.out qK) (fun _ _ _ h => h) (Or.inl ⟨by rfl, ?_⟩) ?_ ?_
           rotate_left
           ·intro w'; go_simp; with_reducible rfl
           rotate_left
           ·simp only [Act.put, List.setIfInBounds_toArray, List.set_cons_zero, List.set_cons_succ, i64_w, i32_w]; rfl
           refine pure_ (i := 5) (N := some 32) (v := ?_) (a' := ?_) #[false, true, true, true, false, true, false, false, false, false, false, false, false, false, false] rfl rfl (any_of HT_.out qK) (fun _ _ _ h => h) (Or.inl ⟨by rfl, ?_⟩) ?_ ?_
           rotate_left
           ·intro w'; go_simp; with_reducible rfl
           rotate_left
           ·simp only [Act.put, List.setIfInBounds_toArray, List.set_cons_zero, List.set_cons_succ, i64_w, i32_w]; rfl
           refine take_ (i := 0) (N := some 27) (v := ?_) (a' := ?_) #[true, true, true, true, false, true, false, false, false, false, false, false, false, false, false] rfl rfl (take_ofW HT_.out HW_.out qK) (fun _ _ _ h => h) (Or.inl ⟨by rfl, ?_⟩) hHeld ?_ ?_
           rotate_left
           ·rintro w' ⟨s0, s1, s2, s3⟩; go_simp; with_reducible rfl
           rotate_left
           ·simp only [Act.put, List.setIfInBounds_toArray, List.set_cons_zero, List.set_cons_succ, i64_w, i32_w]; rfl
           refine take_ (i := 4) (N := some 31) (v := ?_) (a' := ?_) #[true, true, true, true, true, true, false, false, false, false, false, false, false, false, false] rfl rfl (take_ofW HT_.out HW_.out qK) (fun _ _ _ h => h) (Or.inl ⟨by rfl, ?_⟩) hHeld ?_ ?_
           rotate_left
           ·rintro w' ⟨s0, s1, s2, s3⟩; go_simp; with_reducible rfl
           rotate_left
           ·simp only [Act.put, List.setIfInBounds_toArray, List.set_cons_zero, List.set_cons_succ, i64_w, i32_w]; rfl
           refine pure_ (i := 6) (N := some 33) (v := ?_) (a' := ?_) #[true, true, true, true, true, true, true, false, false, false, false, false, false, false, false] rfl rfl (any_of HT_.out qK) (fun _ _ _ h => h) (Or.inl ⟨by rfl, ?_⟩) ?_ ?_
           rotate_left
           ·intro w'; go_simp; with_reducible rfl
           rotate_left
           ·simp only [Act.put, List.setIfInBounds_toArray, List.set_cons_zero, List.set_cons_succ, i64_w, i32_w]; rfl
           refine take_ (i := 7) (N := some 34) (v := ?_) (a' := ?_) #[true, true, true, true, true, true, true, true, false, false, false, false, false, false, false] rfl rfl (take_ofW HT_.out HW_.out qK) (fun _ _ _ h => h) (Or.inl ⟨by rfl, ?_⟩) hHeld ?_ ?_
           rotate_left
           ·rintro w' ⟨s0, s1, s2, s3⟩; go_simp; with_reducible rfl
           rotate_left
           ·simp only [Act.put, List.setIfInBounds_toArray, List.set_cons_zero, List.set_cons_succ, i64_w, i32_w]; rfl
           refine join_ (σ := Value × Value × Nat) 2 #[true, true, true, true, true, true, true, true, true, true, true, true, true, false, false] (fun s_ => [(35, .tuple #[.agg #[s_.1, .bool t196], s_.2.1]), (9, .pointer (some ⟨s_.2.2, 0, none⟩)), (26, .tuple #[.agg #[s_.1, .bool t196], s_.2.1]), (36, .agg #[s_.1, .bool t196]), (37, s_.2.1)]) (fun s_ w' => (w'.cell? ⟨gb188, 0, none⟩ = some (.slice Ao12 x189000_2.length co12) ∧ w'.cell? ⟨gb188, 1, none⟩ = some (.bool x189001_2) ∧ w'.cell? (ad190.add (x7_1).toNat) = some (.slice (some ad192) (rd_L1 l1 x7_1).length c191_0) ∧ w'.cell? (ad192.add (x8_2).toNat) = some (.int .u8 (rd (rd_L1 l1 x7_1) x8_2))) ∧ (Kd.V (Kd.int .u8) 5 w' w.heap.size (fun k_ => (P0_0_ k_ ∨ w.heap.size ≤ k_) ∧ some k_ ≠ (s_.2.1 : Value).ownBlock ∧ some k_ ≠ (u6 : Value).ownBlock ∧ k_ ≠ gb188 ∧ k_ ≠ gb189 ∧ k_ ≠ s_.2.2) s_.1 t193) ∧ (Kd.R k54 54 w' w.heap.size (fun k_ => (w.heap.size ≤ k_) ∧ some k_ ≠ (u6 : Value).ownBlock) s_.2.1 t197) ∧ (Kd.V (Kd.int .u8) 5 w' w.heap.size (fun k_ => (P0_0_ k_ ∨ w.heap.size ≤ k_) ∧ some k_ ≠ (s_.2.1 : Value).ownBlock ∧ some k_ ≠ (u6 : Value).ownBlock ∧ k_ ≠ gb188 ∧ k_ ≠ gb189 ∧ k_ ≠ s_.2.2) (.slice Ao12 x189000_2.length co12) x189000_2) ∧ (Kd.R k54 54 w' w.heap.size (fun k_ => (w.heap.size ≤ k_) ∧ some k_ ≠ (s_.2.1 : Value).ownBlock) u6 x6_2) ∧ (w'.heap[gb188]? = some (.cells #[.slice Ao12 x189000_2.length co12, .bool x189001_2] 38 (0, 0))) ∧ (w'.heap[gb189]? = some (.cells #[.slice none 0 0, .bool false] 38 (0, 0))) ∧ (w'.heap[s_.2.2]? = some (.cells #[.slice none 0 0, .bool false] 38 (0, 0))) ∧ (w.heap.size ≤ s_.2.2) ∧ (w.heap.size ≤ s_.2.2) ∧ (gb188 ≠ s_.2.2) ∧ (s_.2.2 ≠ gb188) ∧ (gb189 ≠ s_.2.2) ∧ (s_.2.2 ≠ gb189) ∧ (Below w.heap.size w w')) ?_ ?_
           rotate_left
           ·intro hCont
            refine two_ (i := 8) (j := 12) (Ni := some 35) (Nj := some 9) #[true, true, true, true, true, true, true, true, true, false, false, false, false, false, false] #[true, true, true, true, true, true, true, true, false, false, false, false, true, false, false] rfl rfl rfl rfl (two_of HT_.out qK) (by decide) (by decide) (fun K hK => ?_) (fun K hK => ?_)
            ·skip
             refine goes_ Try.func30 qK rfl #[.agg #[.slice Ao12 x189000_2.length co12, .bool x189001_2], .int .u8 (rd (rd_L1 l1 x7_1) x8_2)] (by rfl) rfl rfl qG ?_
             with_reducible refine (ebbtideref21_One.calls (fun k_ => ((P0_0_ k_ ∨ w.heap.size ≤ k_) ∧ (some k_ ≠ (u6 : Value).ownBlock ∧ (k_ ≠ gb188 ∧ k_ ≠ gb189)))) _ _ x189000_2 x189001_2 (rd (rd_L1 l1 x7_1) x8_2) t193 t196 t197 _ ?side1 A10.out).mono ?_
             (case side1 => exact HO_189000.out)
             rintro e w14 ⟨v194, v198, rfl, ho0, ho1, hb⟩
             refine ⟨_, rfl, ?_⟩
             have n0_ := Aside0.mk (Kd.R_elder' (qR HO_6) (Kd.R_base ho1) hb)
             have n1_ := Aside0.mk (Kd.V_elder' (by (with_reducible repeat (first | apply Kd.V_alloc | apply Kd.V_drewN | apply Kd.V_drew)); exact HO_189000.out) (Kd.R_base ho1) hb)
             have n2_ := Aside0.mk (Kd.V_lower (Kd.V_mono (ok' := fun k_ => (P0_0_ k_ ∨ w.heap.size ≤ k_) ∧ some k_ ≠ (v198 : Value).ownBlock ∧ some k_ ≠ (u6 : Value).ownBlock ∧ k_ ≠ gb188 ∧ k_ ≠ gb189) ho0 (fun k_ hk_ => ⟨Or.elim hk_.1 (fun hs_ => hs_.1) (fun hn_ => (.inr (Nat.le_trans (below_size qC) hn_))), hk_.2, Or.elim hk_.1 (fun hs_ => hs_.2.1) (fun hn_ => (Kd.fresh' (Kd.R_lt (qR HO_6)) k_ hn_)), Or.elim hk_.1 (fun hs_ => hs_.2.2.1) (fun hn_ => (Kd.freshB (g := gb188) (o := .cells #[.slice Ao12 x189000_2.length co12, .bool x189001_2] 38 (0, 0)) (qW BK188) k_ hn_)), Or.elim hk_.1 (fun hs_ => hs_.2.2.2) (fun hn_ => (Kd.freshB (g := gb189) (o := .cells #[.slice none 0 0, .bool false] 38 (0, 0)) (qW BK189) k_ hn_))⟩)) (below_size qC))
             have n3_ := Aside0.mk (Kd.R_lower (Kd.R_new' (Kd.R_newM (M := fun k_ => (w.heap.size ≤ k_)) (Kd.R_mono (ok' := fun k_ => True) ho1 (fun _ hk_ => trivial)) (below_size qC) (fun k_ h_ => h_)) (Kd.R_lt (qR HO_6))) (below_size qC))
             have n4_ := Aside0.mk (blk_below (g := gb188) (o := .cells #[.slice Ao12 x189000_2.length co12, .bool x189001_2] 38 (0, 0)) (qW BK188) hb)
             have n5_ := Aside0.mk (blk_below (g := gb189) (o := .cells #[.slice none 0 0, .bool false] 38 (0, 0)) (qW BK189) hb)
             have n6_ := Aside0.mk (below_step qC hb)
             clear HO_6
             clear HO_189000
             clear BK188
             clear BK189
             clear HB
             have HO_6 := n0_
             have HO_189000 := n1_
             have HO195 := n2_
             have HO199 := n3_
             have BK188 := n4_
             have BK189 := n5_
             have HB := n6_
             clear n0_ n1_ n2_ n3_ n4_ n5_ n6_
             (try clear hb)
             (try clear hb2)
             (try clear hk)
             (try clear hi)
             (try clear ho0)
             (try clear ho1)
             refine hK.out _ _ ⟨(blk_cell BK188.out 0).trans rfl, (blk_cell BK188.out 1).trans rfl, ((HB.out.cell (World.block_lt_of_cell? w _ hw191_0)).trans hw191_0), ((HB.out.cell (World.block_lt_of_cell? w _ hw192_0)).trans hw192_0)⟩ (fun hHeld => ?_)
             clear hK K
             refine norm_ (a' := ?_) ?_ ?_
             rotate_left
             ·show Act.put _ (some 35) _ = _
              simp only [Act.put, List.setIfInBounds_toArray, List.set_cons_zero, List.set_cons_succ, i64_w, i32_w]
              rfl
             refine pure_ (i := 9) (N := some 26) (v := ?_) (a' := ?_) #[true, true, true, true, true, true, true, true, true, true, false, false, false, false, false] rfl rfl (any_of HT_.out qK) (fun _ _ _ h => h) (Or.inl ⟨by rfl, ?_⟩) ?_ ?_
             rotate_left
             ·intro w'; go_simp; with_reducible rfl
             rotate_left
             ·simp only [Act.put, List.setIfInBounds_toArray, List.set_cons_zero, List.set_cons_succ, i64_w, i32_w]; rfl
             refine pure_ (i := 10) (N := some 36) (v := ?_) (a' := ?_) #[true, true, true, true, true, true, true, true, true, true, true, false, false, false, false] rfl rfl (any_of HT_.out qK) (fun _ _ _ h => h) (Or.inl ⟨by rfl, ?_⟩) ?_ ?_
             rotate_left
             ·intro w'; go_simp; with_reducible rfl
             rotate_left
             ·simp only [Act.put, List.setIfInBounds_toArray, List.set_cons_zero, List.set_cons_succ, i64_w, i32_w]; rfl
             refine pure_ (i := 11) (N := some 37) (v := ?_) (a' := ?_) #[true, true, true, true, true, true, true, true, true, true, true, true, false, false, false] rfl rfl (any_of HT_.out qK) (fun _ _ _ h => h) (Or.inl ⟨by rfl, ?_⟩) ?_ ?_
             rotate_left
             ·intro w'; go_simp; with_reducible rfl
             rotate_left
             ·simp only [Act.put, List.setIfInBounds_toArray, List.set_cons_zero, List.set_cons_succ, i64_w, i32_w]; rfl
             refine one_ (i := 12) (N := some 9) #[true, true, true, true, true, true, true, true, true, true, true, true, true, false, false] rfl rfl (one_of HT_.out qK) (by decide) (fun K hK => ?_)
             refine box_step ?hg (N := 9) ?hd (cs := #[.slice none 0 0, .bool false]) (t := 38) ?hr ?_; (case hd => rfl); (case hg => rfl); (case hr => first | (go_simp; done) | (go_simp; rfl))
             intro gb200 hg w15 hbox hb
             have n0_ := Aside0.mk (Kd.R_below (qR HO_6) hb)
             have n1_ := Aside0.mk (Kd.V_below (Kd.V_elderB (by (with_reducible repeat (first | apply Kd.V_alloc | apply Kd.V_drewN | apply Kd.V_drew)); exact HO_189000.out) gb200 (Nat.le_of_eq hg.symm)) hb)
             have n2_ := Aside0.mk (Kd.V_below (Kd.V_elderB (by (with_reducible repeat (first | apply Kd.V_alloc | apply Kd.V_drewN | apply Kd.V_drew)); exact HO195.out) gb200 (Nat.le_of_eq hg.symm)) hb)
             have n3_ := Aside0.mk (Kd.R_below (qR HO199) hb)
             have n4_ := Aside0.mk (blk_below (g := gb188) (o := .cells #[.slice Ao12 x189000_2.length co12, .bool x189001_2] 38 (0, 0)) (qW BK188) hb)
             have n5_ := Aside0.mk (blk_below (g := gb189) (o := .cells #[.slice none 0 0, .bool false] 38 (0, 0)) (qW BK189) hb)
             have n6_ := Aside0.mk (below_step qC hb)
             have n7_ := Aside0.mk (hbox)
             have n8_ := Aside0.mk ((by rw [hg]; exact (below_size qC) : w.heap.size ≤ gb200))
             have n9_ := Aside0.mk ((by rw [hg]; exact (below_size qC) : w.heap.size ≤ gb200))
             have n10_ := Aside0.mk ((by rw [hg]; exact Nat.ne_of_lt (blk_lt (g := gb188) (o := .cells #[.slice Ao12 x189000_2.length co12, .bool x189001_2] 38 (0, 0)) (qW BK188)) : gb188 ≠ gb200))
             have n11_ := Aside0.mk ((by rw [hg]; exact Nat.ne_of_gt (blk_lt (g := gb188) (o := .cells #[.slice Ao12 x189000_2.length co12, .bool x189001_2] 38 (0, 0)) (qW BK188)) : gb200 ≠ gb188))
             have n12_ := Aside0.mk ((by rw [hg]; exact Nat.ne_of_lt (blk_lt (g := gb189) (o := .cells #[.slice none 0 0, .bool false] 38 (0, 0)) (qW BK189)) : gb189 ≠ gb200))
             have n13_ := Aside0.mk ((by rw [hg]; exact Nat.ne_of_gt (blk_lt (g := gb189) (o := .cells #[.slice none 0 0, .bool false] 38 (0, 0)) (qW BK189)) : gb200 ≠ gb189))
             clear HO_6
             clear HO_189000
             clear HO195
             clear HO199
             clear BK188
             clear BK189
             clear HB
             have HO_6 := n0_
             have HO_189000 := n1_
             have HO195 := n2_
             have HO199 := n3_
             have BK188 := n4_
             have BK189 := n5_
             have HB := n6_
             have BK200 := n7_
             have GW200 := n8_
             have GE200 := n9_
             have NB188_200 := n10_
             have NB200_188 := n11_
             have NB189_200 := n12_
             have NB200_189 := n13_
             clear n0_ n1_ n2_ n3_ n4_ n5_ n6_ n7_ n8_ n9_ n10_ n11_ n12_ n13_
             clear hb hbox hg
             refine hK.out _ _ ⟨(blk_cell BK188.out 0).trans rfl, (blk_cell BK188.out 1).trans rfl, ((HB.out.cell (World.block_lt_of_cell? w _ hw191_0)).trans hw191_0), ((HB.out.cell (World.block_lt_of_cell? w _ hw192_0)).trans hw192_0)⟩ (fun hHeld => ?_)
             clear hK K
             refine norm_ (a' := ?_) ?_ ?_
             rotate_left
             ·show Act.put _ (some 9) _ = _
              simp only [Act.put, List.setIfInBounds_toArray, List.set_cons_zero, List.set_cons_succ, i64_w, i32_w]
              rfl
             exact norm_ (by simp only [putAll, Act.put, List.setIfInBounds_toArray, List.set_cons_zero, List.set_cons_succ]) (hCont (v194, v198, gb200) _ ⟨hHeld, (by (with_reducible repeat (first | apply Kd.V_alloc | apply Kd.V_drewN | apply Kd.V_drew)); exact Kd.V_mono HO195.out (fun _ hk => ⟨hk.1.1, ⟨hk.1.2.1, ⟨hk.1.2.2.1, ⟨hk.1.2.2.2.1, ⟨hk.1.2.2.2.2, hk.2⟩⟩⟩⟩⟩)), (by (with_reducible repeat (first | apply Kd.R_alloc | apply Kd.R_drewN | apply Kd.R_drew)); exact Kd.R_mono HO199.out (fun _ hk => ⟨hk.1.1, hk.2⟩)), (by (with_reducible repeat (first | apply Kd.V_alloc | apply Kd.V_drewN | apply Kd.V_drew)); exact Kd.V_mono HO_189000.out (fun _ hk => ⟨hk.1.1.1, ⟨hk.1.2, ⟨hk.1.1.2.1, ⟨hk.1.1.2.2.1, ⟨hk.1.1.2.2.2, hk.2⟩⟩⟩⟩⟩)), (qR HO_6), (qW BK188), (qW BK189), (qW BK200), GW200.out, GE200.out, NB188_200.out, NB200_188.out, NB189_200.out, NB200_189.out, qC⟩)
            ·skip
             refine box_step ?hg (N := 9) ?hd (cs := #[.slice none 0 0, .bool false]) (t := 38) ?hr ?_; (case hd => rfl); (case hg => rfl); (case hr => first | (go_simp; done) | (go_simp; rfl))
             intro gb200 hg w14 hbox hb
             have n0_ := Aside0.mk (Kd.R_below (qR HO_6) hb)
             have n1_ := Aside0.mk (Kd.V_below (Kd.V_elderB (by (with_reducible repeat (first | apply Kd.V_alloc | apply Kd.V_drewN | apply Kd.V_drew)); exact HO_189000.out) gb200 (Nat.le_of_eq hg.symm)) hb)
             have n2_ := Aside0.mk (blk_below (g := gb188) (o := .cells #[.slice Ao12 x189000_2.length co12, .bool x189001_2] 38 (0, 0)) (qW BK188) hb)
             have n3_ := Aside0.mk (blk_below (g := gb189) (o := .cells #[.slice none 0 0, .bool false] 38 (0, 0)) (qW BK189) hb)
             have n4_ := Aside0.mk (below_step qC hb)
             have n5_ := Aside0.mk (hbox)
             have n6_ := Aside0.mk ((by rw [hg]; exact (below_size qC) : w.heap.size ≤ gb200))
             have n7_ := Aside0.mk ((by rw [hg]; exact (below_size qC) : w.heap.size ≤ gb200))
             have n8_ := Aside0.mk ((by rw [hg]; exact Nat.ne_of_lt (blk_lt (g := gb188) (o := .cells #[.slice Ao12 x189000_2.length co12, .bool x189001_2] 38 (0, 0)) (qW BK188)) : gb188 ≠ gb200))
             have n9_ := Aside0.mk ((by rw [hg]; exact Nat.ne_of_gt (blk_lt (g := gb188) (o := .cells #[.slice Ao12 x189000_2.length co12, .bool x189001_2] 38 (0, 0)) (qW BK188)) : gb200 ≠ gb188))
             have n10_ := Aside0.mk ((by rw [hg]; exact Nat.ne_of_lt (blk_lt (g := gb189) (o := .cells #[.slice none 0 0, .bool false] 38 (0, 0)) (qW BK189)) : gb189 ≠ gb200))
             have n11_ := Aside0.mk ((by rw [hg]; exact Nat.ne_of_gt (blk_lt (g := gb189) (o := .cells #[.slice none 0 0, .bool false] 38 (0, 0)) (qW BK189)) : gb200 ≠ gb189))
             clear HO_6
             clear HO_189000
             clear BK188
             clear BK189
             clear HB
             have HO_6 := n0_
             have HO_189000 := n1_
             have BK188 := n2_
             have BK189 := n3_
             have HB := n4_
             have BK200 := n5_
             have GW200 := n6_
             have GE200 := n7_
             have NB188_200 := n8_
             have NB200_188 := n9_
             have NB189_200 := n10_
             have NB200_189 := n11_
             clear n0_ n1_ n2_ n3_ n4_ n5_ n6_ n7_ n8_ n9_ n10_ n11_
             clear hb hbox hg
             refine hK.out _ _ ⟨(blk_cell BK188.out 0).trans rfl, (blk_cell BK188.out 1).trans rfl, ((HB.out.cell (World.block_lt_of_cell? w _ hw191_0)).trans hw191_0), ((HB.out.cell (World.block_lt_of_cell? w _ hw192_0)).trans hw192_0)⟩ (fun hHeld => ?_)
             clear hK K
             refine norm_ (a' := ?_) ?_ ?_
             rotate_left
             ·show Act.put _ (some 9) _ = _
              simp only [Act.put, List.setIfInBounds_toArray, List.set_cons_zero, List.set_cons_succ, i64_w, i32_w]
              rfl
             refine one_ (i := 8) (N := some 35) #[true, true, true, true, true, true, true, true, true, false, false, false, true, false, false] rfl rfl (one_of HT_.out qK) (by decide) (fun K hK => ?_)
             refine goes_ Try.func30 qK rfl #[.agg #[.slice Ao12 x189000_2.length co12, .bool x189001_2], .int .u8 (rd (rd_L1 l1 x7_1) x8_2)] (by rfl) rfl rfl qG ?_
             with_reducible refine (ebbtideref21_One.calls (fun k_ => (((P0_0_ k_ ∨ w.heap.size ≤ k_) ∧ (some k_ ≠ (u6 : Value).ownBlock ∧ (k_ ≠ gb188 ∧ k_ ≠ gb189))) ∧ k_ ≠ gb200)) _ _ x189000_2 x189001_2 (rd (rd_L1 l1 x7_1) x8_2) t193 t196 t197 _ ?side1 A10.out).mono ?_
             (case side1 => exact HO_189000.out)
             rintro e w15 ⟨v194, v198, rfl, ho0, ho1, hb⟩
             refine ⟨_, rfl, ?_⟩
             have n0_ := Aside0.mk (Kd.R_elder' (qR HO_6) (Kd.R_base ho1) hb)
             have n1_ := Aside0.mk (Kd.V_elder' (by (with_reducible repeat (first | apply Kd.V_alloc | apply Kd.V_drewN | apply Kd.V_drew)); exact HO_189000.out) (Kd.R_base ho1) hb)
             have n2_ := Aside0.mk (Kd.V_lower (Kd.V_mono (ok' := fun k_ => (P0_0_ k_ ∨ w.heap.size ≤ k_) ∧ some k_ ≠ (v198 : Value).ownBlock ∧ some k_ ≠ (u6 : Value).ownBlock ∧ k_ ≠ gb188 ∧ k_ ≠ gb189 ∧ k_ ≠ gb200) ho0 (fun k_ hk_ => ⟨Or.elim hk_.1 (fun hs_ => hs_.1.1) (fun hn_ => (.inr (Nat.le_trans (below_size qC) hn_))), hk_.2, Or.elim hk_.1 (fun hs_ => hs_.1.2.1) (fun hn_ => (Kd.fresh' (Kd.R_lt (qR HO_6)) k_ hn_)), Or.elim hk_.1 (fun hs_ => hs_.1.2.2.1) (fun hn_ => (Kd.freshB (g := gb188) (o := .cells #[.slice Ao12 x189000_2.length co12, .bool x189001_2] 38 (0, 0)) (qW BK188) k_ hn_)), Or.elim hk_.1 (fun hs_ => hs_.1.2.2.2) (fun hn_ => (Kd.freshB (g := gb189) (o := .cells #[.slice none 0 0, .bool false] 38 (0, 0)) (qW BK189) k_ hn_)), Or.elim hk_.1 (fun hs_ => hs_.2) (fun hn_ => (Kd.freshB (g := gb200) (o := .cells #[.slice none 0 0, .bool false] 38 (0, 0)) (qW BK200) k_ hn_))⟩)) (below_size qC))
             have n3_ := Aside0.mk (Kd.R_lower (Kd.R_new' (Kd.R_newM (M := fun k_ => (w.heap.size ≤ k_)) (Kd.R_mono (ok' := fun k_ => True) ho1 (fun _ hk_ => trivial)) (below_size qC) (fun k_ h_ => h_)) (Kd.R_lt (qR HO_6))) (below_size qC))
             have n4_ := Aside0.mk (blk_below (g := gb188) (o := .cells #[.slice Ao12 x189000_2.length co12, .bool x189001_2] 38 (0, 0)) (qW BK188) hb)
             have n5_ := Aside0.mk (blk_below (g := gb189) (o := .cells #[.slice none 0 0, .bool false] 38 (0, 0)) (qW BK189) hb)
             have n6_ := Aside0.mk (blk_below (g := gb200) (o := .cells #[.slice none 0 0, .bool false] 38 (0, 0)) (qW BK200) hb)
             have n7_ := Aside0.mk (below_step qC hb)
             clear HO_6
             clear HO_189000
             clear BK188
             clear BK189
             clear BK200
             clear HB
             have HO_6 := n0_
             have HO_189000 := n1_
             have HO195 := n2_
             have HO199 := n3_
             have BK188 := n4_
             have BK189 := n5_
             have BK200 := n6_
             have HB := n7_
             clear n0_ n1_ n2_ n3_ n4_ n5_ n6_ n7_
             (try clear hb)
             (try clear hb2)
             (try clear hk)
             (try clear hi)
             (try clear ho0)
             (try clear ho1)
             refine hK.out _ _ ⟨(blk_cell BK188.out 0).trans rfl, (blk_cell BK188.out 1).trans rfl, ((HB.out.cell (World.block_lt_of_cell? w _ hw191_0)).trans hw191_0), ((HB.out.cell (World.block_lt_of_cell? w _ hw192_0)).trans hw192_0)⟩ (fun hHeld => ?_)
             clear hK K
             refine norm_ (a' := ?_) ?_ ?_
             rotate_left
             ·show Act.put _ (some 35) _ = _
              simp only [Act.put, List.setIfInBounds_toArray, List.set_cons_zero, List.set_cons_succ, i64_w, i32_w]
              rfl
             refine pure_ (i := 9) (N := some 26) (v := ?_) (a' := ?_) #[true, true, true, true, true, true, true, true, true, true, false, false, true, false, false] rfl rfl (any_of HT_.out qK) (fun _ _ _ h => h) (Or.inl ⟨by rfl, ?_⟩) ?_ ?_
             rotate_left
             ·intro w'; go_simp; with_reducible rfl
             rotate_left
             ·simp only [Act.put, List.setIfInBounds_toArray, List.set_cons_zero, List.set_cons_succ, i64_w, i32_w]; rfl
             refine pure_ (i := 10) (N := some 36) (v := ?_) (a' := ?_) #[true, true, true, true, true, true, true, true, true, true, true, false, true, false, false] rfl rfl (any_of HT_.out qK) (fun _ _ _ h => h) (Or.inl ⟨by rfl, ?_⟩) ?_ ?_
             rotate_left
             ·intro w'; go_simp; with_reducible rfl
             rotate_left
             ·simp only [Act.put, List.setIfInBounds_toArray, List.set_cons_zero, List.set_cons_succ, i64_w, i32_w]; rfl
             refine pure_ (i := 11) (N := some 37) (v := ?_) (a' := ?_) #[true, true, true, true, true, true, true, true, true, true, true, true, true, false, false] rfl rfl (any_of HT_.out qK) (fun _ _ _ h => h) (Or.inl ⟨by rfl, ?_⟩) ?_ ?_
             rotate_left
             ·intro w'; go_simp; with_reducible rfl
             rotate_left
             ·simp only [Act.put, List.setIfInBounds_toArray, List.set_cons_zero, List.set_cons_succ, i64_w, i32_w]; rfl
             exact norm_ (by simp only [putAll, Act.put, List.setIfInBounds_toArray, List.set_cons_zero, List.set_cons_succ]) (hCont (v194, v198, gb200) _ ⟨hHeld, (by (with_reducible repeat (first | apply Kd.V_alloc | apply Kd.V_drewN | apply Kd.V_drew)); exact HO195.out), (by (with_reducible repeat (first | apply Kd.R_alloc | apply Kd.R_drewN | apply Kd.R_drew)); exact Kd.R_mono HO199.out (fun _ hk => ⟨hk.1.1, hk.2⟩)), (by (with_reducible repeat (first | apply Kd.V_alloc | apply Kd.V_drewN | apply Kd.V_drew)); exact Kd.V_mono HO_189000.out (fun _ hk => ⟨hk.1.1.1, ⟨hk.2, ⟨hk.1.1.2.1, ⟨hk.1.1.2.2.1, ⟨hk.1.1.2.2.2, hk.1.2⟩⟩⟩⟩⟩)), (qR HO_6), (qW BK188), (qW BK189), (qW BK200), GW200.out, GE200.out, NB188_200.out, NB200_188.out, NB189_200.out, NB200_189.out, qC⟩)
           rintro ⟨v194, v198, gb200⟩ w16 ⟨hS_, h0_, h1_, h2_, h3_, h4_, h5_, h6_, h7_, h8_, h9_, h10_, h11_, h12_, h13_⟩
           have n0_ : Aside0 (Kd.V (Kd.int .u8) 5 w16 w.heap.size (fun k_ => (P0_0_ k_ ∨ w.heap.size ≤ k_) ∧ some k_ ≠ (v198 : Value).ownBlock ∧ some k_ ≠ (u6 : Value).ownBlock ∧ k_ ≠ gb188 ∧ k_ ≠ gb189 ∧ k_ ≠ gb200) v194 t193) := ⟨h0_⟩
           have n1_ : Aside0 (Kd.R k54 54 w16 w.heap.size (fun k_ => (w.heap.size ≤ k_) ∧ some k_ ≠ (u6 : Value).ownBlock) v198 t197) := ⟨h1_⟩
           have n2_ : Aside0 (Kd.V (Kd.int .u8) 5 w16 w.heap.size (fun k_ => (P0_0_ k_ ∨ w.heap.size ≤ k_) ∧ some k_ ≠ (v198 : Value).ownBlock ∧ some k_ ≠ (u6 : Value).ownBlock ∧ k_ ≠ gb188 ∧ k_ ≠ gb189 ∧ k_ ≠ gb200) (.slice Ao12 x189000_2.length co12) x189000_2) := ⟨h2_⟩
           have n3_ : Aside0 (Kd.R k54 54 w16 w.heap.size (fun k_ => (w.heap.size ≤ k_) ∧ some k_ ≠ (v198 : Value).ownBlock) u6 x6_2) := ⟨h3_⟩
           have n4_ : Aside0 (w16.heap[gb188]? = some (.cells #[.slice Ao12 x189000_2.length co12, .bool x189001_2] 38 (0, 0))) := ⟨h4_⟩
           have n5_ : Aside0 (w16.heap[gb189]? = some (.cells #[.slice none 0 0, .bool false] 38 (0, 0))) := ⟨h5_⟩
           have n6_ : Aside0 (w16.heap[gb200]? = some (.cells #[.slice none 0 0, .bool false] 38 (0, 0))) := ⟨h6_⟩
           have n7_ : Aside0 (w.heap.size ≤ gb200) := ⟨h7_⟩
           have n8_ : Aside0 (w.heap.size ≤ gb200) := ⟨h8_⟩
           have n9_ : Aside0 (gb188 ≠ gb200) := ⟨h9_⟩
           have n10_ : Aside0 (gb200 ≠ gb188) := ⟨h10_⟩
           have n11_ : Aside0 (gb189 ≠ gb200) := ⟨h11_⟩
           have n12_ : Aside0 (gb200 ≠ gb189) := ⟨h12_⟩
           have n13_ : Aside0 (Below w.heap.size w w16) := ⟨h13_⟩
           clear HO_6
           clear HO_189000
           clear BK188
           clear BK189
           clear HB
           clear h0_ h1_ h2_ h3_ h4_ h5_ h6_ h7_ h8_ h9_ h10_ h11_ h12_ h13_
           have HO195 := n0_
           have HO199 := n1_
           have HO_189000 := n2_
           have HO_6 := n3_
           have BK188 := n4_
           have BK189 := n5_
           have BK200 := n6_
           have GW200 := n7_
           have GE200 := n8_
           have NB188_200 := n9_
           have NB200_188 := n10_
           have NB189_200 := n11_
           have NB200_189 := n12_
           have HB := n13_
           clear n0_ n1_ n2_ n3_ n4_ n5_ n6_ n7_ n8_ n9_ n10_ n11_ n12_ n13_
           have hHeld : w16.cell? ⟨gb188, 0, none⟩ = some (.slice Ao12 x189000_2.length co12) ∧ w16.cell? ⟨gb188, 1, none⟩ = some (.bool x189001_2) ∧ w16.cell? (ad190.add (x7_1).toNat) = some (.slice (some ad192) (rd_L1 l1 x7_1).length c191_0) ∧ w16.cell? (ad192.add (x8_2).toNat) = some (.int .u8 (rd (rd_L1 l1 x7_1) x8_2)) := hS_
           obtain ⟨Ao17, co17, eo17⟩ := Kd.V_slice HO195.out
           (first | subst eo17 | (injection eo17 with f1_ f2_ f3_; have f4_ := f1_.symm; have f5_ := f3_.symm; clear f1_ f2_ f3_; subst f4_; subst f5_))
           refine norm_ (a' := ?_) ?_ ?_
           rotate_left
           ·simp only [putAll, Act.put, List.setIfInBounds_toArray, List.set_cons_zero, List.set_cons_succ]; rfl
           refine one_ (i := 13) (N := none) #[true, true, true, true, true, true, true, true, true, true, true, true, true, true, false] rfl rfl (one_of HT_.out qK) (by decide) (fun K hK => ?_)
           have hs18 : w16.cell? ⟨gb200, 0, none⟩ = some (.slice none 0 0) := (blk_cell BK200.out 0).trans rfl
           have hfs18 := blk_frozen BK200.out 0
           have hns18_0 := NB188_200.out
           have hns18_1 := NB189_200.out
           have hms18_0 := NB200_188.out
           have hms18_1 := NB200_189.out
           have hs19 : w16.cell? ⟨gb200, 1, none⟩ = some (.bool false) := (blk_cell BK200.out 1).trans rfl
           have hfs19 := blk_frozen BK200.out 1
           have hns19_0 := NB188_200.out
           have hns19_1 := NB189_200.out
           have hms19_0 := NB200_188.out
           have hms19_1 := NB200_189.out
           refine skip_ (w1 := ?_) (by rfl) rfl ?_ ?_
           rotate_left
           ·go_simp
            rfl
           refine hK.out _ _ ⟨((cell_far (p := ⟨gb200, _, none⟩) NB188_200.out _).trans (((cell_far (p := ⟨gb200, _, none⟩) NB188_200.out _).trans (hHeld.1)))), ((cell_far (p := ⟨gb200, _, none⟩) NB188_200.out _).trans (((cell_far (p := ⟨gb200, _, none⟩) NB188_200.out _).trans (hHeld.2.1)))), ((cell_far (p := ⟨gb200, _, none⟩) (by first | exact Nat.ne_of_lt (Nat.lt_of_lt_of_le (by have := World.block_lt_of_cell? _ _ hw191_0; first | rwa [add_block] at this | exact this) GW200.out) | (rw [add_block]; exact Nat.ne_of_lt (Nat.lt_of_lt_of_le (by have := World.block_lt_of_cell? _ _ hw191_0; first | rwa [add_block] at this | exact this) GW200.out)) | (show (Addr.add _ _).block ≠ _; rw [add_block]; exact Nat.ne_of_lt (Nat.lt_of_lt_of_le (by have := World.block_lt_of_cell? _ _ hw191_0; first | rwa [add_block] at this | exact this) GW200.out)) | (dsimp only; exact Nat.ne_of_lt (Nat.lt_of_lt_of_le (by have := World.block_lt_of_cell? _ _ hw191_0; first | rwa [add_block] at this | exact this) GW200.out))) _).trans (((cell_far (p := ⟨gb200, _, none⟩) (by first | exact Nat.ne_of_lt (Nat.lt_of_lt_of_le (by have := World.block_lt_of_cell? _ _ hw191_0; first | rwa [add_block] at this | exact this) GW200.out) | (rw [add_block]; exact Nat.ne_of_lt (Nat.lt_of_lt_of_le (by have := World.block_lt_of_cell? _ _ hw191_0; first | rwa [add_block] at this | exact this) GW200.out)) | (show (Addr.add _ _).block ≠ _; rw [add_block]; exact Nat.ne_of_lt (Nat.lt_of_lt_of_le (by have := World.block_lt_of_cell? _ _ hw191_0; first | rwa [add_block] at this | exact this) GW200.out)) | (dsimp only; exact Nat.ne_of_lt (Nat.lt_of_lt_of_le (by have := World.block_lt_of_cell? _ _ hw191_0; first | rwa [add_block] at this | exact this) GW200.out))) _).trans (hHeld.2.2.1)))), ((cell_far (p := ⟨gb200, _, none⟩) (by first | exact Nat.ne_of_lt (Nat.lt_of_lt_of_le (by have := World.block_lt_of_cell? _ _ hw192_0; first | rwa [add_block] at this | exact this) GW200.out) | (rw [add_block]; exact Nat.ne_of_lt (Nat.lt_of_lt_of_le (by have := World.block_lt_of_cell? _ _ hw192_0; first | rwa [add_block] at this | exact this) GW200.out)) | (show (Addr.add _ _).block ≠ _; rw [add_block]; exact Nat.ne_of_lt (Nat.lt_of_lt_of_le (by have := World.block_lt_of_cell? _ _ hw192_0; first | rwa [add_block] at this | exact this) GW200.out)) | (dsimp only; exact Nat.ne_of_lt (Nat.lt_of_lt_of_le (by have := World.block_lt_of_cell? _ _ hw192_0; first | rwa [add_block] at this | exact this) GW200.out))) _).trans (((cell_far (p := ⟨gb200, _, none⟩) (by first | exact Nat.ne_of_lt (Nat.lt_of_lt_of_le (by have := World.block_lt_of_cell? _ _ hw192_0; first | rwa [add_block] at this | exact this) GW200.out) | (rw [add_block]; exact Nat.ne_of_lt (Nat.lt_of_lt_of_le (by have := World.block_lt_of_cell? _ _ hw192_0; first | rwa [add_block] at this | exact this) GW200.out)) | (show (Addr.add _ _).block ≠ _; rw [add_block]; exact Nat.ne_of_lt (Nat.lt_of_lt_of_le (by have := World.block_lt_of_cell? _ _ hw192_0; first | rwa [add_block] at this | exact this) GW200.out)) | (dsimp only; exact Nat.ne_of_lt (Nat.lt_of_lt_of_le (by have := World.block_lt_of_cell? _ _ hw192_0; first | rwa [add_block] at this | exact this) GW200.out))) _).trans (hHeld.2.2.2))))⟩ (fun hHeld => ?_)
           clear hK K
           refine pure_ (i := 14) (N := some 10) (v := ?_) (a' := ?_) #[true, true, true, true, true, true, true, true, true, true, true, true, true, true, true] rfl rfl (any_of HT_.out qK) (fun _ _ _ h => h) (Or.inl ⟨by rfl, ?_⟩) ?_ ?_
           rotate_left
           ·intro w'; go_simp; with_reducible rfl
           rotate_left
           ·simp only [Act.put, List.setIfInBounds_toArray, List.set_cons_zero, List.set_cons_succ, i64_w, i32_w]; rfl
           refine done_ (done_of HT_.out qK) ?_
           try go_wp2
           have n0_ : Aside0 (Kd.R k54 54 ((w16.setCell ⟨gb200, 0, none⟩ (.slice Ao17 t193.length co17)).setCell ⟨gb200, 1, none⟩ (.bool t196)) w.heap.size (fun k_ => (w.heap.size ≤ k_) ∧ some k_ ≠ (v198 : Value).ownBlock) u6 x6_2) := ⟨by (with_reducible repeat (first | apply Kd.R_alloc | apply Kd.R_drewN | apply Kd.R_drew)); exact Kd.R_mono (Kd.R_far (p := ⟨gb200, 1, none⟩) (Kd.R_far (p := ⟨gb200, 0, none⟩) (Kd.R_types HO_6.out BK200.out (by decide)) (fun _ hk => hk.2) (.slice Ao17 t193.length co17)) (fun _ hk => hk.2) (.bool t196)) (fun _ hk => ⟨hk.1.1, hk.1.2⟩)⟩
           have n1_ : Aside0 (Kd.V (Kd.int .u8) 5 ((w16.setCell ⟨gb200, 0, none⟩ (.slice Ao17 t193.length co17)).setCell ⟨gb200, 1, none⟩ (.bool t196)) w.heap.size (fun k_ => (P0_0_ k_ ∨ w.heap.size ≤ k_) ∧ some k_ ≠ (u6 : Value).ownBlock ∧ some k_ ≠ (v198 : Value).ownBlock ∧ k_ ≠ gb188 ∧ k_ ≠ gb189 ∧ k_ ≠ gb200) (.slice Ao12 x189000_2.length co12) x189000_2) := ⟨by (with_reducible repeat (first | apply Kd.V_alloc | apply Kd.V_drewN | apply Kd.V_drew)); exact Kd.V_mono (Kd.V_far (p := ⟨gb200, 1, none⟩) (Kd.V_far (p := ⟨gb200, 0, none⟩) (Kd.V_mono HO_189000.out (fun k_ hk => (⟨hk, hk.2.2.2.2.2⟩ : _ ∧ k_ ≠ gb200))) (fun _ hk => hk.2) (.slice Ao17 t193.length co17)) (fun _ hk => hk.2) (.bool t196)) (fun _ hk => ⟨hk.1.1, ⟨hk.1.2.2.1, ⟨hk.1.2.1, ⟨hk.1.2.2.2.1, ⟨hk.1.2.2.2.2.1, hk.1.2.2.2.2.2⟩⟩⟩⟩⟩)⟩
           have n2_ : Aside0 (Kd.V (Kd.int .u8) 5 ((w16.setCell ⟨gb200, 0, none⟩ (.slice Ao17 t193.length co17)).setCell ⟨gb200, 1, none⟩ (.bool t196)) w.heap.size (fun k_ => (P0_0_ k_ ∨ w.heap.size ≤ k_) ∧ some k_ ≠ (u6 : Value).ownBlock ∧ some k_ ≠ (v198 : Value).ownBlock ∧ k_ ≠ gb188 ∧ k_ ≠ gb189 ∧ k_ ≠ gb200) (.slice Ao17 t193.length co17) t193) := ⟨by (with_reducible repeat (first | apply Kd.V_alloc | apply Kd.V_drewN | apply Kd.V_drew)); exact Kd.V_mono (Kd.V_far (p := ⟨gb200, 1, none⟩) (Kd.V_far (p := ⟨gb200, 0, none⟩) (Kd.V_mono HO195.out (fun k_ hk => (⟨hk, hk.2.2.2.2.2⟩ : _ ∧ k_ ≠ gb200))) (fun _ hk => hk.2) (.slice Ao17 t193.length co17)) (fun _ hk => hk.2) (.bool t196)) (fun _ hk => ⟨hk.1.1, ⟨hk.1.2.2.1, ⟨hk.1.2.1, ⟨hk.1.2.2.2.1, ⟨hk.1.2.2.2.2.1, hk.1.2.2.2.2.2⟩⟩⟩⟩⟩)⟩
           have n3_ : Aside0 (Kd.R k54 54 ((w16.setCell ⟨gb200, 0, none⟩ (.slice Ao17 t193.length co17)).setCell ⟨gb200, 1, none⟩ (.bool t196)) w.heap.size (fun k_ => (w.heap.size ≤ k_) ∧ some k_ ≠ (u6 : Value).ownBlock) v198 t197) := ⟨by (with_reducible repeat (first | apply Kd.R_alloc | apply Kd.R_drewN | apply Kd.R_drew)); exact Kd.R_mono (Kd.R_far (p := ⟨gb200, 1, none⟩) (Kd.R_far (p := ⟨gb200, 0, none⟩) (Kd.R_types HO199.out BK200.out (by decide)) (fun _ hk => hk.2) (.slice Ao17 t193.length co17)) (fun _ hk => hk.2) (.bool t196)) (fun _ hk => ⟨hk.1.1, hk.1.2⟩)⟩
           have n4_ : Aside0 (((w16.setCell ⟨gb200, 0, none⟩ (.slice Ao17 t193.length co17)).setCell ⟨gb200, 1, none⟩ (.bool t196)).heap[gb188]? = some (.cells #[.slice Ao12 x189000_2.length co12, .bool x189001_2] 38 (0, 0))) := ⟨by (with_reducible repeat (first | refine blk_drewN ?_ _ | refine blk_drew ?_ | refine blk_alloc ?_ _)); refine blk_far ?_ NB188_200.out _; (with_reducible repeat (first | refine blk_drewN ?_ _ | refine blk_drew ?_ | refine blk_alloc ?_ _)); refine blk_far ?_ NB188_200.out _; (with_reducible repeat (first | refine blk_drewN ?_ _ | refine blk_drew ?_ | refine blk_alloc ?_ _)); exact BK188.out⟩
           have n5_ : Aside0 (((w16.setCell ⟨gb200, 0, none⟩ (.slice Ao17 t193.length co17)).setCell ⟨gb200, 1, none⟩ (.bool t196)).heap[gb189]? = some (.cells #[.slice none 0 0, .bool false] 38 (0, 0))) := ⟨by (with_reducible repeat (first | refine blk_drewN ?_ _ | refine blk_drew ?_ | refine blk_alloc ?_ _)); refine blk_far ?_ NB189_200.out _; (with_reducible repeat (first | refine blk_drewN ?_ _ | refine blk_drew ?_ | refine blk_alloc ?_ _)); refine blk_far ?_ NB189_200.out _; (with_reducible repeat (first | refine blk_drewN ?_ _ | refine blk_drew ?_ | refine blk_alloc ?_ _)); exact BK189.out⟩
           have n6_ : Aside0 (((w16.setCell ⟨gb200, 0, none⟩ (.slice Ao17 t193.length co17)).setCell ⟨gb200, 1, none⟩ (.bool t196)).heap[gb200]? = some (.cells #[.slice Ao17 t193.length co17, .bool t196] 38 (0, 0))) := ⟨by (with_reducible repeat (first | refine blk_drewN ?_ _ | refine blk_drew ?_ | refine blk_alloc ?_ _)); refine blk_put (cs := #[.slice Ao17 t193.length co17, .bool false]) ?_ 1 _ rfl; (with_reducible repeat (first | refine blk_drewN ?_ _ | refine blk_drew ?_ | refine blk_alloc ?_ _)); refine blk_put (cs := #[.slice none 0 0, .bool false]) ?_ 0 _ rfl; (with_reducible repeat (first | refine blk_drewN ?_ _ | refine blk_drew ?_ | refine blk_alloc ?_ _)); exact BK200.out⟩
           have n7_ : Aside0 (Below w.heap.size w ((w16.setCell ⟨gb200, 0, none⟩ (.slice Ao17 t193.length co17)).setCell ⟨gb200, 1, none⟩ (.bool t196))) := ⟨qC⟩
           (try clear HO_6)
           (try clear HO_189000)
           (try clear HO195)
           (try clear HO199)
           (try clear BK188)
           (try clear BK189)
           (try clear BK200)
           (try clear HB)
           generalize ((w16.setCell ⟨gb200, 0, none⟩ (.slice Ao17 t193.length co17)).setCell ⟨gb200, 1, none⟩ (.bool t196)) = w20 at n0_ n1_ n2_ n3_ n4_ n5_ n6_ n7_ ⊢
           have HO_6 := n0_
           have HO_189000 := n1_
           have HO195 := n2_
           have HO199 := n3_
           have BK188 := n4_
           have BK189 := n5_
           have BK200 := n6_
           have HB := n7_
           clear n0_ n1_ n2_ n3_ n4_ n5_ n6_ n7_
           have n0_ := Aside0.mk (Kd.R_drew HO_6.out)
           have n1_ := Aside0.mk (Kd.V_drew HO_189000.out)
           have n2_ := Aside0.mk (Kd.V_drew HO195.out)
           have n3_ := Aside0.mk (Kd.R_drew HO199.out)
           have n4_ := Aside0.mk (blk_drew BK188.out)
           have n5_ := Aside0.mk (blk_drew BK189.out)
           have n6_ := Aside0.mk (blk_drew BK200.out)
           have n7_ := Aside0.mk (below_drew1 HB.out)
           clear HO_6
           clear HO_189000
           clear HO195
           clear HO199
           clear BK188
           clear BK189
           clear BK200
           clear HB
           have HO_6 := n0_
           have HO_189000 := n1_
           have HO195 := n2_
           have HO199 := n3_
           have BK188 := n4_
           have BK189 := n5_
           have BK200 := n6_
           have HB := n7_
           clear n0_ n1_ n2_ n3_ n4_ n5_ n6_ n7_
           obtain ⟨Ao23, co23, eo23⟩ := Kd.R_slice HO199.out
           (first | subst eo23 | (injection eo23 with f1_ f2_ f3_; have f4_ := f1_.symm; have f5_ := f3_.symm; clear f1_ f2_ f3_; subst f4_; subst f5_))
           refine start_ (n := 6) (S := fun w' => w'.cell? ⟨gb200, 0, none⟩ = some (.slice Ao17 t193.length co17) ∧ w'.cell? ⟨gb200, 1, none⟩ = some (.bool t196)) (ds := []) #[false, false, false, false, false, false] qK rfl rfl ⟨(blk_cell BK200.out 0).trans rfl, (blk_cell BK200.out 1).trans rfl⟩ (fun hHeld => ?_)
           generalize w20.drew = w21 at HO_6 HO_189000 HO195 HO199 BK188 BK189 BK200 HB hHeld ⊢
           refine pure_ (i := 1) (N := some 39) (v := ?_) (a' := ?_) #[false, true, false, false, false, false] rfl rfl qK (fun _ _ _ h => h) (Or.inl ⟨by rfl, ?_⟩) ?_ ?_
           rotate_left
           ·intro w'; go_simp; with_reducible rfl
           rotate_left
           ·simp only [Act.put, List.setIfInBounds_toArray, List.set_cons_zero, List.set_cons_succ, i64_w, i32_w]; rfl
           refine pure_ (i := 2) (N := some 40) (v := ?_) (a' := ?_) #[false, true, true, false, false, false] rfl rfl qK (fun _ _ _ h => h) (Or.inl ⟨by rfl, ?_⟩) ?_ ?_
           rotate_left
           ·intro w'; go_simp; with_reducible rfl
           rotate_left
           ·simp only [Act.put, List.setIfInBounds_toArray, List.set_cons_zero, List.set_cons_succ, i64_w, i32_w]; rfl
           refine take_ (i := 0) (N := some 38) (v := ?_) (a' := ?_) #[true, true, true, false, false, false] rfl rfl qK (fun _ _ _ h => h) (Or.inl ⟨by rfl, ?_⟩) hHeld ?_ ?_
           rotate_left
           ·rintro w' ⟨s0, s1⟩; go_simp; with_reducible rfl
           rotate_left
           ·simp only [Act.put, List.setIfInBounds_toArray, List.set_cons_zero, List.set_cons_succ, i64_w, i32_w]; rfl
           refine one_ (i := 3) (N := some 41) #[true, true, true, true, false, false] rfl rfl qK (by decide) (fun K hK => ?_)
           refine Kd.R_append_rows_step k54 (w0 := w) w.heap.size (by rfl) (.tmp 39) (.tmp 40) 41 54 (.agg #[(.string ⟨#[]⟩), (.bool false)]) 24 rfl Try.underlying41 info54 rfl (by decide) (by omega) u6 x6_2 t197 _ _ _ (fun k_ => (w.heap.size ≤ k_) ∧ some k_ ≠ (.slice Ao23 t197.length co23 : Value).ownBlock) (fun _ => False) rfl rfl ?aO ?aR (fun _ _ h => h) (fun _ h => h.elim) ?aF ?aB ?aS ?aL ?_
           (case aR => repeat (first | exact (Kd.R_reads' HO199.out).2.2 | (with_reducible refine Kd.C_alloc ?_ _) | (with_reducible refine Kd.C_drewN ?_ _) | (with_reducible refine Kd.C_drew ?_)))
           (case aB => exact qC)
           (case aF => exact (fun k_ hk => ⟨(Nat.le_trans (below_size qC) hk), Kd.fresh' (Kd.R_lt (qR HO199)) k_ hk⟩))
           (case aO => exact (qR HO_6))
           (case aS => exact (below_size qC))
           (case aL => have := LMc11.out; omega)
           intro v202 w22 ho hb hg hat
           rw [← Ny201.out] at ho
           have n0_ := Aside0.mk (Kd.V_afterv (ok := (fun k_ => (P0_0_ k_ ∨ w.heap.size ≤ k_) ∧ some k_ ≠ (.slice Ao23 t197.length co23 : Value).ownBlock ∧ k_ ≠ gb188 ∧ k_ ≠ gb189 ∧ k_ ≠ gb200)) (by (with_reducible repeat (first | apply Kd.V_alloc | apply Kd.V_drewN | apply Kd.V_drew)); exact Kd.V_mono HO_189000.out (fun _ hk => ⟨⟨hk.1, ⟨hk.2.2.1, ⟨hk.2.2.2.1, ⟨hk.2.2.2.2.1, hk.2.2.2.2.2⟩⟩⟩⟩, hk.2.1⟩)) hg hat)
           have n1_ := Aside0.mk (blk_grown (g := gb188) (o := .cells #[.slice Ao12 x189000_2.length co12, .bool x189001_2] 38 (0, 0)) (qW BK188) hg (Kd.R_ne HO_6.out BK188.out (by decide)))
           have n2_ := Aside0.mk (blk_grown (g := gb189) (o := .cells #[.slice none 0 0, .bool false] 38 (0, 0)) (qW BK189) hg (Kd.R_ne HO_6.out BK189.out (by decide)))
           have n3_ := Aside0.mk (Kd.V_afterv (ok := (fun k_ => (P0_0_ k_ ∨ w.heap.size ≤ k_) ∧ some k_ ≠ (.slice Ao23 t197.length co23 : Value).ownBlock ∧ k_ ≠ gb188 ∧ k_ ≠ gb189 ∧ k_ ≠ gb200)) (by (with_reducible repeat (first | apply Kd.V_alloc | apply Kd.V_drewN | apply Kd.V_drew)); exact Kd.V_mono HO195.out (fun _ hk => ⟨⟨hk.1, ⟨hk.2.2.1, ⟨hk.2.2.2.1, ⟨hk.2.2.2.2.1, hk.2.2.2.2.2⟩⟩⟩⟩, hk.2.1⟩)) hg hat)
           have n4_ := Aside0.mk (Kd.R_after (ok := (fun k_ => (w.heap.size ≤ k_))) (qR HO199) hg hat)
           have n5_ := Aside0.mk (blk_grown (g := gb200) (o := .cells #[.slice Ao17 t193.length co17, .bool t196] 38 (0, 0)) (qW BK200) hg (Kd.R_ne HO_6.out BK200.out (by decide)))
           have n6_ := Aside0.mk (hb)
           have n7_ := Aside0.mk (ho)
           clear HO_189000
           clear BK188
           clear BK189
           clear HO195
           clear HO199
           clear BK200
           clear HB
           clear HO_6
           have HO_189000 := n0_
           have BK188 := n1_
           have BK189 := n2_
           have HO195 := n3_
           have HO199 := n4_
           have BK200 := n5_
           have HB := n6_
           have HO203 := n7_
           clear n0_ n1_ n2_ n3_ n4_ n5_ n6_ n7_
           clear ho hb hg hat
           refine hK.out _ _ ⟨(blk_cell BK200.out 0).trans rfl, (blk_cell BK200.out 1).trans rfl⟩ (fun hHeld => ?_)
           clear hK K
           refine norm_ (a' := ?_) ?_ ?_
           rotate_left
           ·show Act.put _ (some 41) _ = _
            simp only [Act.put, List.setIfInBounds_toArray, List.set_cons_zero, List.set_cons_succ, i64_w, i32_w]
            rfl
           refine one_ (i := 4) (N := none) #[true, true, true, true, true, false] rfl rfl qK (by decide) (fun K hK => ?_)
           have hs24 : w22.cell? ⟨gb188, 0, none⟩ = some (.slice Ao12 x189000_2.length co12) := (blk_cell BK188.out 0).trans rfl
           have hfs24 := blk_frozen BK188.out 0
           have hns24_1 := NB189_188.out
           have hns24_2 := NB200_188.out
           have hms24_1 := NB188_189.out
           have hms24_2 := NB188_200.out
           have hs25 : w22.cell? ⟨gb188, 1, none⟩ = some (.bool x189001_2) := (blk_cell BK188.out 1).trans rfl
           have hfs25 := blk_frozen BK188.out 1
           have hns25_1 := NB189_188.out
           have hns25_2 := NB200_188.out
           have hms25_1 := NB188_189.out
           have hms25_2 := NB188_200.out
           refine skip_ (w1 := ?_) (by rfl) rfl ?_ ?_
           rotate_left
           ·go_simp
            rfl
           refine hK.out _ _ ⟨((cell_far (p := ⟨gb188, _, none⟩) NB200_188.out _).trans (((cell_far (p := ⟨gb188, _, none⟩) NB200_188.out _).trans (hHeld.1)))), ((cell_far (p := ⟨gb188, _, none⟩) NB200_188.out _).trans (((cell_far (p := ⟨gb188, _, none⟩) NB200_188.out _).trans (hHeld.2))))⟩ (fun hHeld => ?_)
           clear hK K
           refine pure_ (i := 5) (N := some 6) (v := ?_) (a' := ?_) #[true, true, true, true, true, true] rfl rfl qK (fun _ _ _ h => h) (Or.inl ⟨by rfl, ?_⟩) ?_ ?_
           rotate_left
           ·intro w'; go_simp; with_reducible rfl
           rotate_left
           ·simp only [Act.put, List.setIfInBounds_toArray, List.set_cons_zero, List.set_cons_succ, i64_w, i32_w]; rfl
           refine done_ qK ?_
           try go_wp2
           go_roundg k2
           case measure => have := HK1.out; have := HK2.out; omega
           case rel => exact ⟨(y201), (wrap64 (x8_2 + 1)), (t193), (t196), (.slice Ao17 t193.length co17), qS, H', ⟨by have := HK1.out; have := HK2.out; omega⟩, ⟨by (with_reducible repeat (first | apply Kd.R_alloc | apply Kd.R_drewN | apply Kd.R_drew)); exact Kd.R_mono (Kd.R_far (p := ⟨gb188, 1, none⟩) (Kd.R_far (p := ⟨gb188, 0, none⟩) (Kd.R_types HO203.out BK188.out (by decide)) (fun _ hk => hk.2) (.slice Ao17 t193.length co17)) (fun _ hk => hk.2) (.bool t196)) (fun _ hk => hk.1.1)⟩, ⟨by (with_reducible repeat (first | apply Kd.V_alloc | apply Kd.V_drewN | apply Kd.V_drew)); exact Kd.V_mono (Kd.V_far (p := ⟨gb188, 1, none⟩) (Kd.V_far (p := ⟨gb188, 0, none⟩) (Kd.V_mono HO195.out (fun k_ hk => (⟨hk, hk.1.2.2.1⟩ : _ ∧ k_ ≠ gb188))) (fun _ hk => hk.2) (.slice Ao17 t193.length co17)) (fun _ hk => hk.2) (.bool t196)) (fun _ hk => ⟨hk.1.1.1, ⟨hk.1.2, ⟨hk.1.1.2.2.1, hk.1.1.2.2.2.1⟩⟩⟩)⟩, ⟨by (with_reducible repeat (first | refine blk_drewN ?_ _ | refine blk_drew ?_ | refine blk_alloc ?_ _)); refine blk_put (cs := #[.slice Ao17 t193.length co17, .bool x189001_2]) ?_ 1 _ rfl; (with_reducible repeat (first | refine blk_drewN ?_ _ | refine blk_drew ?_ | refine blk_alloc ?_ _)); refine blk_put (cs := #[.slice Ao12 x189000_2.length co12, .bool x189001_2]) ?_ 0 _ rfl; (with_reducible repeat (first | refine blk_drewN ?_ _ | refine blk_drew ?_ | refine blk_alloc ?_ _)); exact BK188.out⟩, ⟨by (with_reducible repeat (first | refine blk_drewN ?_ _ | refine blk_drew ?_ | refine blk_alloc ?_ _)); refine blk_far ?_ NB189_188.out _; (with_reducible repeat (first | refine blk_drewN ?_ _ | refine blk_drew ?_ | refine blk_alloc ?_ _)); refine blk_far ?_ NB189_188.out _; (with_reducible repeat (first | refine blk_drewN ?_ _ | refine blk_drew ?_ | refine blk_alloc ?_ _)); exact BK189.out⟩, ⟨qC⟩⟩
          ·rw [if_neg c11] at H
           exact absurd H (by simp)
         ·rw [if_neg c9] at H
          exact absurd H (by simp)
        ·rw [if_neg c8] at H
         have c8b0 : decide (x8_2 < ((rd_L1 l1 x7_1).length : Int)) = false := decide_eq_false c8
         clear c8
         have H' := Aside0.mk H
         clear H
         have p190 : 0 ≤ (x7_1 : Int) := of_decide_eq_true qA
         have q190 : x7_1 < (l1.length : Int) := of_decide_eq_true qA
         obtain ⟨ad190, A190_0, c190_0, e190, hx190_0, hl190_0, hi190_0⟩ := at_L1 HR1.out x7_1 p190 q190
         cases e190
         replace hx190_0 := (HB.out.cell (World.block_lt_of_cell? w _ hx190_0)).trans hx190_0
         have HR190_0 := Aside0.mk hi190_0
         have HC190_0 := Aside0.mk hl190_0
         clear hi190_0 hl190_0
         replace p190 := eq_true p190
         replace q190 := eq_true q190
         go_wp2
         go_roundg k2
         case measure => have := HK1.out; have := HK2.out; omega
         case rel => exact ⟨(x6_2), (wrap64 (x7_1 + 1)), (x189000_2), (x189001_2), (u189000), qS, H', ⟨by have := HK1.out; have := HK2.out; omega⟩, ⟨qR HO_6⟩, ⟨by (with_reducible repeat (first | apply Kd.V_alloc | apply Kd.V_drewN | apply Kd.V_drew)); exact HO_189000.out⟩, ⟨qW BK188⟩, ⟨qW BK189⟩, ⟨qC⟩⟩
       ·rw [if_neg c7] at H
        exact absurd H (by simp)
      ·rw [if_neg c6] at H
       exact absurd H (by simp)
   ·rw [if_neg c5] at H
    have c5b0 : decide (x7_1 < (l1.length : Int)) = false := decide_eq_false c5
    clear c5
    simp only [Option.some.injEq, Prod.mk.injEq] at H
    obtain ⟨rfl, rfl, rfl⟩ := H
    have hnb26 := NB188_189.out
    have hnc26 := NB189_188.out
    have hcz27_0 : wr.cell? ⟨gb188, 0, none⟩ = some (u189000) := (blk_cell BK188.out 0).trans rfl
    have hcz27_1 : wr.cell? ⟨gb188, 1, none⟩ = some (.bool x189001_1) := (blk_cell BK188.out 1).trans rfl
    have hfz27_0 := blk_frozen BK188.out 0
    have hfz27_1 := blk_frozen BK188.out 1
    obtain ⟨Ao28, co28, eo28⟩ := Kd.V_slice HO_189000.out
    subst eo28
    have hcz29_0 : wr.cell? ⟨gb189, 0, none⟩ = some (.slice none 0 0) := (blk_cell BK189.out 0).trans rfl
    have hcz29_1 : wr.cell? ⟨gb189, 1, none⟩ = some (.bool false) := (blk_cell BK189.out 1).trans rfl
    have hfz29_0 := blk_frozen BK189.out 0
    have hfz29_1 := blk_frozen BK189.out 1
    go_wp2
    refine bodyPost_ret (results_ct rfl _ _ gb189 38 #[.slice Ao28 x189000_1.length co28, .bool x189001_1] (0, 0) _ rfl (by (with_reducible repeat (first | refine blk_drewN ?_ _ | refine blk_drew ?_ | refine blk_alloc ?_ _)); refine blk_put (cs := #[.slice Ao28 x189000_1.length co28, .bool false]) ?_ 1 _ rfl; (with_reducible repeat (first | refine blk_drewN ?_ _ | refine blk_drew ?_ | refine blk_alloc ?_ _)); refine blk_put (cs := #[.slice none 0 0, .bool false]) ?_ 0 _ rfl; (with_reducible repeat (first | refine blk_drewN ?_ _ | refine blk_drew ?_ | refine blk_alloc ?_ _)); exact BK189.out) Try.underlying38 rfl qK) rfl ?_
    exact ⟨_, _, qE, by (with_reducible repeat (first | apply Kd.V_alloc | apply Kd.V_drewN | apply Kd.V_drew)); exact Kd.V_mono (Kd.V_far (p := ⟨gb189, 1, none⟩) (Kd.V_far (p := ⟨gb189, 0, none⟩) (Kd.V_mono HO_189000.out (fun k_ hk => (⟨hk, hk.2.2.2⟩ : _ ∧ k_ ≠ gb189))) (fun _ hk => hk.2) (.slice Ao28 x189000_1.length co28)) (fun _ hk => hk.2) (.bool x189001_1)) (fun _ hk => ⟨hk.1.1, hk.1.2.1⟩), by (with_reducible repeat (first | apply Kd.R_alloc | apply Kd.R_drewN | apply Kd.R_drew)); exact Kd.R_mono (Kd.R_far (p := ⟨gb189, 1, none⟩) (Kd.R_far (p := ⟨gb189, 0, none⟩) (Kd.R_types HO_6.out BK189.out (by decide)) (fun _ hk => hk.2) (.slice Ao28 x189000_1.length co28)) (fun _ hk => hk.2) (.bool x189001_1)) (fun _ hk => hk.1), qC⟩

/-! ### ebbtideref21_Same: function 24 -/
def ebbtideref21_Same.f (l0_0 : List Int) (a0_1 : Bool) (l1_0 : List Int) (a1_1 : Bool) : Option (Bool) := if (strOfNums l0_0).toList = (strOfNums l1_0).toList then (some (a0_1 == a1_1)) else (some false)
set_option maxHeartbeats 8000000 in
set_option maxRecDepth 100000 in
theorem ebbtideref21_Same.calls (A0_0 : Option Addr) (c0_0 : Nat) (l0_0 : List Int) (a0_1 : Bool) (A1_0 : Option Addr) (c1_0 : Nat) (l1_0 : List Int) (a1_1 : Bool) (r : Bool) (w : World) (hr0_0 : Kd.C (Kd.int .u8) w A0_0 l0_0.length l0_0) (hc0_0 : l0_0.length ≤ c0_0) (hr1_0 : Kd.C (Kd.int .u8) w A1_0 l1_0.length l1_0) (hc1_0 : l1_0.length ≤ c1_0) (h : ebbtideref21_Same.f l0_0 a0_1 l1_0 a1_1 = some r) :
  Calls Try.prog 24 #[.agg #[.slice A0_0 l0_0.length c0_0, .bool a0_1], .agg #[.slice A1_0 l1_0.length c1_0, .bool a1_1]] w fun e w' => e = .returned (.bool r) ∧ Below w.heap.size w w' := by
 have hu38 := Try.underlying38
 have HR0_0 := Aside0.mk hr0_0
 have HC0_0 := Aside0.mk hc0_0
 clear hr0_0 hc0_0
 have HR1_0 := Aside0.mk hr1_0
 have HC1_0 := Aside0.mk hc1_0
 clear hr1_0 hc1_0
 have HB := Aside0.mk (Below.refl w.heap.size w)
 have H : (if (strOfNums l0_0).toList = (strOfNums l1_0).toList then (some (a0_1 == a1_1)) else (some false)) = some r := h
 clear h
 by_cases c3 : (strOfNums l0_0).toList = (strOfNums l1_0).toList
 ·rw [if_pos c3] at H
  have c3b0 : ((strOfNums l0_0).toList == (strOfNums l1_0).toList) = true := beq_iff_eq.mpr c3
  have c3b1 : ((strOfNums l0_0).toList != (strOfNums l1_0).toList) = false := bne_eq_false_iff_eq.mpr c3
  clear c3
  obtain rfl := Option.some.inj H
  go_enter Try.func24, Try.ntmps24
  go_wp2_with (first | ((with_reducible refine gate_dst (N := 2) rfl ?_); refine box_event ?hg (N := 2) ?hd (cs := #[.slice A0_0 l0_0.length c0_0, .bool a0_1]) (t := 38) ?hr ?_; (case hd => rfl); (case hg => rfl); (case hr => first | (go_simp; done) | (go_simp; rfl)); intro gb204 hg w4 hbox hb; have n0_ := Aside0.mk (below_step qB hb); have n1_ := Aside0.mk (hbox); have n2_ := Aside0.mk ((by rw [hg]; exact (below_size qB) : w.heap.size ≤ gb204)); have n3_ := Aside0.mk ((by rw [hg]; exact (below_size qB) : w.heap.size ≤ gb204)); clear HB; have HB := n0_; have BK204 := n1_; have GW204 := n2_; have GE204 := n3_; clear n0_ n1_ n2_ n3_; clear hb hbox hg) | ((with_reducible refine gate_dst (N := 3) rfl ?_); refine box_event ?hg (N := 3) ?hd (cs := #[.slice A1_0 l1_0.length c1_0, .bool a1_1]) (t := 38) ?hr ?_; (case hd => rfl); (case hg => rfl); (case hr => first | (go_simp; done) | (go_simp; rfl)); intro gb205 hg w5 hbox hb; have n0_ := Aside0.mk (blk_below (g := gb204) (o := .cells #[.slice A0_0 l0_0.length c0_0, .bool a0_1] 38 (0, 0)) (qW BK204) hb); have n1_ := Aside0.mk (below_step qC hb); have n2_ := Aside0.mk (hbox); have n3_ := Aside0.mk ((by rw [hg]; exact (below_size qC) : w.heap.size ≤ gb205)); have n4_ := Aside0.mk ((by rw [hg]; exact (below_size qC) : w.heap.size ≤ gb205)); have n5_ := Aside0.mk ((by rw [hg]; exact Nat.ne_of_lt (blk_lt (g := gb204) (o := .cells #[.slice A0_0 l0_0.length c0_0, .bool a0_1] 38 (0, 0)) (qW BK204)) : gb204 ≠ gb205)); have n6_ := Aside0.mk ((by rw [hg]; exact Nat.ne_of_gt (blk_lt (g := gb204) (o := .cells #[.slice A0_0 l0_0.length c0_0, .bool a0_1] 38 (0, 0)) (qW BK204)) : gb205 ≠ gb204)); clear BK204; clear HB; have BK204 := n0_; have HB := n1_; have BK205 := n2_; have GW205 := n3_; have GE205 := n4_; have NB204_205 := n5_; have NB205_204 := n6_; clear n0_ n1_ n2_ n3_ n4_ n5_ n6_; clear hb hbox hg; have hnb6 := NB204_205.out; have hnc6 := NB205_204.out; have hcz7_0 : w5.cell? ⟨gb204, 0, none⟩ = some (.slice A0_0 l0_0.length c0_0) := (blk_cell BK204.out 0).trans rfl; have hcz7_1 : w5.cell? ⟨gb204, 1, none⟩ = some (.bool a0_1) := (blk_cell BK204.out 1).trans rfl; have hfz7_0 := blk_frozen BK204.out 0; have hfz7_1 := blk_frozen BK204.out 1; have hcv8 := Kd.C_string (P := Try.prog) (A := A0_0) (c := c0_0) Try.underlying35 Try.underlying5 Try.underlying9 (Kd.C_below HR0_0.out HB.out); have hcz9_0 : w5.cell? ⟨gb205, 0, none⟩ = some (.slice A1_0 l1_0.length c1_0) := (blk_cell BK205.out 0).trans rfl; have hcz9_1 : w5.cell? ⟨gb205, 1, none⟩ = some (.bool a1_1) := (blk_cell BK205.out 1).trans rfl; have hfz9_0 := blk_frozen BK205.out 0; have hfz9_1 := blk_frozen BK205.out 1; have hcv10 := Kd.C_string (P := Try.prog) (A := A1_0) (c := c1_0) Try.underlying35 Try.underlying5 Try.underlying9 (Kd.C_below HR1_0.out HB.out)))
  go_ret
  exact ⟨qE, qC⟩
 ·rw [if_neg c3] at H
  have c3b0 : ((strOfNums l0_0).toList == (strOfNums l1_0).toList) = false := beq_eq_false_iff_ne.mpr c3
  have c3b1 : ((strOfNums l0_0).toList != (strOfNums l1_0).toList) = true := bne_iff_ne.mpr c3
  obtain rfl := Option.some.inj H
  go_enter Try.func24, Try.ntmps24
  go_wp2_with (first | ((with_reducible refine gate_dst (N := 2) rfl ?_); refine box_event ?hg (N := 2) ?hd (cs := #[.slice A0_0 l0_0.length c0_0, .bool a0_1]) (t := 38) ?hr ?_; (case hd => rfl); (case hg => rfl); (case hr => first | (go_simp; done) | (go_simp; rfl)); intro gb204 hg w11 hbox hb; have n0_ := Aside0.mk (below_step qB hb); have n1_ := Aside0.mk (hbox); have n2_ := Aside0.mk ((by rw [hg]; exact (below_size qB) : w.heap.size ≤ gb204)); have n3_ := Aside0.mk ((by rw [hg]; exact (below_size qB) : w.heap.size ≤ gb204)); clear HB; have HB := n0_; have BK204 := n1_; have GW204 := n2_; have GE204 := n3_; clear n0_ n1_ n2_ n3_; clear hb hbox hg) | ((with_reducible refine gate_dst (N := 3) rfl ?_); refine box_event ?hg (N := 3) ?hd (cs := #[.slice A1_0 l1_0.length c1_0, .bool a1_1]) (t := 38) ?hr ?_; (case hd => rfl); (case hg => rfl); (case hr => first | (go_simp; done) | (go_simp; rfl)); intro gb205 hg w12 hbox hb; have n0_ := Aside0.mk (blk_below (g := gb204) (o := .cells #[.slice A0_0 l0_0.length c0_0, .bool a0_1] 38 (0, 0)) (qW BK204) hb); have n1_ := Aside0.mk (below_step qC hb); have n2_ := Aside0.mk (hbox); have n3_ := Aside0.mk ((by rw [hg]; exact (below_size qC) : w.heap.size ≤ gb205)); have n4_ := Aside0.mk ((by rw [hg]; exact (below_size qC) : w.heap.size ≤ gb205)); have n5_ := Aside0.mk ((by rw [hg]; exact Nat.ne_of_lt (blk_lt (g := gb204) (o := .cells #[.slice A0_0 l0_0.length c0_0, .bool a0_1] 38 (0, 0)) (qW BK204)) : gb204 ≠ gb205)); have n6_ := Aside0.mk ((by rw [hg]; exact Nat.ne_of_gt (blk_lt (g := gb204) (o := .cells #[.slice A0_0 l0_0.length c0_0, .bool a0_1] 38 (0, 0)) (qW BK204)) : gb205 ≠ gb204)); clear BK204; clear HB; have BK204 := n0_; have HB := n1_; have BK205 := n2_; have GW205 := n3_; have GE205 := n4_; have NB204_205 := n5_; have NB205_204 := n6_; clear n0_ n1_ n2_ n3_ n4_ n5_ n6_; clear hb hbox hg; have hnb13 := NB204_205.out; have hnc13 := NB205_204.out; have hcz14_0 : w12.cell? ⟨gb204, 0, none⟩ = some (.slice A0_0 l0_0.length c0_0) := (blk_cell BK204.out 0).trans rfl; have hcz14_1 : w12.cell? ⟨gb204, 1, none⟩ = some (.bool a0_1) := (blk_cell BK204.out 1).trans rfl; have hfz14_0 := blk_frozen BK204.out 0; have hfz14_1 := blk_frozen BK204.out 1; have hcv15 := Kd.C_string (P := Try.prog) (A := A0_0) (c := c0_0) Try.underlying35 Try.underlying5 Try.underlying9 (Kd.C_below HR0_0.out HB.out); have hcz16_0 : w12.cell? ⟨gb205, 0, none⟩ = some (.slice A1_0 l1_0.length c1_0) := (blk_cell BK205.out 0).trans rfl; have hcz16_1 : w12.cell? ⟨gb205, 1, none⟩ = some (.bool a1_1) := (blk_cell BK205.out 1).trans rfl; have hfz16_0 := blk_frozen BK205.out 0; have hfz16_1 := blk_frozen BK205.out 1; have hcv17 := Kd.C_string (P := Try.prog) (A := A1_0) (c := c1_0) Try.underlying35 Try.underlying5 Try.underlying9 (Kd.C_below HR1_0.out HB.out)))
  go_ret
  exact ⟨qE, qC⟩

end Go.Proofs.Ytnmjnchbdlllmaa.PFr
