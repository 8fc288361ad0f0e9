/- What is said again and again in the printed texts, as defaults of a hypothesis: each name stands for a 'by ..' whose words are looked up where the name is used. -/
import Derived.Test.YtnmjnchbdlllmaaWWords
import Derived.Test.YtnmjnchbdlllmaaWLast
import Derived.Test.YtnmjnchbdlllmaaWTab
import Derived.Test.YtnmjnchbdlllmaaWArr
import Derived.Test.YtnmjnchbdlllmaaWMore
import Derived.KernelRfl
namespace Go.Proofs.YtnmjnchbdlllmaaW.PrintMore
open Go Go.RowKit Go.Proofs.YtnmjnchbdlllmaaW.PrintWords Go.Proofs.YtnmjnchbdlllmaaW.PrintLast
theorem qB {n : Nat} {w W : World} (h : Below n w W := by repeat (first | (with_reducible first | exact HB.out | apply below_alloc | apply pw_below_drewN | apply below_drew1) | exact HB.out)) : Below n w W := h
theorem qC {n : Nat} {w W : World} (h : Below n w W := by repeat (first | (with_reducible first | exact HB.out | apply below_alloc | apply pw_below_drewN | apply below_drew1 | refine below_set ?_ (Aside0.out (by assumption))) | exact HB.out)) : Below n w W := h
theorem qH {P : Prop} (h : P := by rw [hg]; exact below_size qB) : P := h
theorem qI {P : Prop} (h : P := by rw [hg]; exact below_size qC) : P := h
theorem qG {P : Prop} (h : P := by (try simp only [List.map_toArray, List.map_cons, List.map_nil]); first | done | rfl | (simp only [List.length_drop, List.length_take]; rfl)) : P := h
theorem qA {P : Prop} (h : P := by first | (with_reducible assumption) | assumption) : P := h
theorem qK {P : Prop} (h : P := by kernel_rfl) : P := h
theorem qR {A B : Prop} (a : Aside0 A) (h : A → B := by intro h_; (with_reducible repeat (first | apply Kd.R_alloc | apply Kd.R_drewN | apply Kd.R_drew)); exact h_) : B := h a.out
theorem qW {A B : Prop} (a : Aside0 A) (h : A → B := by intro h_; (with_reducible repeat (first | refine blk_drewN ?_ _ | refine blk_drew ?_ | refine blk_alloc ?_ _)); exact h_) : B := h a.out
theorem qE {P : Prop} (h : P := by first | rfl | (simp [errW_none, errW_some] <;> rfl) | (simp [*, errW_none, errW_some] <;> rfl)) : P := h
theorem qD {P : Prop} (h : P := by repeat (first | exact Drawn0.refl _ | apply Drawn0.step)) : P := h
theorem qN {P : Prop} (h : P := by first | exact Kd.R_nil _ _ _ _ _ | exact Kd.N_nil _ _ _ _ _ | exact Kd.V_nil _ _ _ _ _ | exact Kd.Q_nil _ _ _ _ _ | exact Kd.S_nil _ _ _ _ _) : P := h
theorem qS {P : Prop} (h : P := by first | rfl | (simp; done) | (simp [*]; done)) : P := h
end Go.Proofs.YtnmjnchbdlllmaaW.PrintMore
