/- 'FramePushes' of the program: whatever the input, it returns true, and the input reads as before; the walk is the print's, the plain law is Pure.FramePushes. No condition. -/
import Derived.Test.YtnmjnchbdlllmaaRows
import Derived.Test.YtnmjnchbdlllmaaPFrx6
import Derived.Test.YtnmjnchbdlllmaaXOpen
import Derived.Test.YtnmjnchbdlllmaaPureFramePushes
import Derived.WalkKit
import Derived.ProofKit
import Derived.OpenShut
import Derived.ShutString
import Derived.ChangeOld
import Derived.Below
import Derived.SizedLaws
import Derived.Carry
import Derived.Deep.DeepHandedRow
namespace Go.Proofs.Ytnmjnchbdlllmaa.framePushes
open Go.ChangeShapes Go.WideShapes Go.ChangeAt Go.RowKit Go.Proofs.Ytnmjnchbdlllmaa.PFr
open Go.ChangeMaps (open_string shut_string)
open Go.Proofs.YtnmjnchbdlllmaaW.PrintWords
set_option linter.unusedVariables false
set_option maxRecDepth 100000
theorem own : ownKnob Try.prog.godebug = none := by kernel_rfl
theorem laidOut : laidOutB Try.prog = true := by kernel_rfl
theorem walk (H : Type) (enc : TypeId × Value → H) (W : World) (base : Nat) (args : Array Value) (ds gs : List (DataW H)) (before : List MemPlace)
    (hval0 : ∀ (j : Nat) t v, Try.f7.params[j]? = some t → args[j]? = some v → Value.okWide Try.prog W .any base t v)
    (hW : DataW.Whole enc Try.prog Try.f7.params.toList Rows.framePushesSpec.vars false W args.toList ds gs before) (hsz0 : (DataW.weightsEach Try.prog (Try.f7.params.toList ++ Rows.framePushesSpec.plain.varTypes Try.prog) (ds ++ gs)).all (· ≤ reachBytes) = true) :
    Calls Try.prog 7 args W fun e W' => ∃ v, e = .returned v ∧ Rows.framePushesSpec.post enc Try.prog Try.f7 false true false false W args v W' := by
  have hsz := hsz0
  have hval := hval0
  have hW' := hW
  obtain ⟨p, q, hA0, hV, rfl, hfz, hnd⟩ := hW
  have hA : DataW.TrodAll enc Try.prog W 0 (fun _ => true) true Try.f7.params.toList args.toList ds p := hA0
  rw [Try.params7] at hA hval hsz
  obtain ⟨v0, vs0, d0, ds0, p0, q0, hargs, rfl, rfl, h0, r0⟩ := trodAll_cons hA
  obtain ⟨v1, vs1, d1, ds1, p1, q1, rfl, rfl, rfl, h1, r1⟩ := trodAll_cons r0
  obtain ⟨v2, vs2, d2, ds2, p2, q2, rfl, rfl, rfl, h2, r2⟩ := trodAll_cons r1
  obtain ⟨rfl, rfl, rfl⟩ := trodAll_nil r2
  obtain rfl : args = #[v0, v1, v2] := by cases args; simp_all
  obtain ⟨rfl, rfl⟩ := trodVars_none hV
  have k0 := h0
  have lt0 : ∀ x ∈ p0, x.block < W.heap.size := by obtain ⟨m, hm⟩ := k0; exact DataW.trod_lt m _ _ _ hm
  obtain ⟨cs0, x0, rfl, hK0, ok0⟩ := Go.Proofs.YtnmjnchbdlllmaaW.XW.open_struct (j := 0) Try.underlying38 (show Go.Proofs.YtnmjnchbdlllmaaW.XW.Opens Try.prog 38 k38 (fun z_ => ((z_.f0.length * 1 ≤ 140737488351232 ∧ ∀ x_ ∈ z_.f0, (Lit.int .u8 x_).wf = true) ∧ True)) from Go.Proofs.YtnmjnchbdlllmaaW.XW.opens_iso (fun p_ => ⟨p_.1, p_.2⟩) (fun _ => rfl) (Go.Proofs.YtnmjnchbdlllmaaW.XW.opens_struct Try.underlying38 (Go.Proofs.YtnmjnchbdlllmaaW.XW.opensFs_cons rfl (Go.Proofs.YtnmjnchbdlllmaaW.XW.opens_slice Try.underlying35 (Go.Proofs.YtnmjnchbdlllmaaW.XW.opens_int Try.underlying5) (by kernel_rfl) (by kernel_rfl)) (by kernel_rfl) rfl (Go.Proofs.YtnmjnchbdlllmaaW.XW.opensFs_one rfl (Go.Proofs.YtnmjnchbdlllmaaW.XW.opens_bool Try.underlying4) (by kernel_rfl))) (by kernel_rfl))) (hval 0 38 v0 rfl rfl) h0 hsz rfl rfl
  obtain ⟨A0_0, c0_0, rfl, hc0_0, hr0_0⟩ : ∃ (A0_0 : Option Addr) (c0_0 : Nat), cs0 = #[.slice A0_0 x0.f0.length c0_0, .bool x0.f1] ∧ x0.f0.length ≤ c0_0 ∧ Kd.C (Kd.int .u8) W A0_0 x0.f0.length x0.f0 := by
    have e_ := k38_open hK0
    first
    | (obtain ⟨A0_0, c0_0, e_, hc0_0, hr0_0⟩ := e_; exact ⟨A0_0, c0_0, by cases cs0; simpa using e_, hc0_0, hr0_0⟩)
    | (cases cs0; simpa using e_)
  have k1 := h1
  have lt1 : ∀ x ∈ p1, x.block < W.heap.size := by obtain ⟨m, hm⟩ := k1; exact DataW.trod_lt m _ _ _ hm
  obtain ⟨cs1, x1, rfl, hK1, ok1⟩ := Go.Proofs.YtnmjnchbdlllmaaW.XW.open_struct (j := 1) Try.underlying38 (show Go.Proofs.YtnmjnchbdlllmaaW.XW.Opens Try.prog 38 k38 (fun z_ => ((z_.f0.length * 1 ≤ 140737488351232 ∧ ∀ x_ ∈ z_.f0, (Lit.int .u8 x_).wf = true) ∧ True)) from Go.Proofs.YtnmjnchbdlllmaaW.XW.opens_iso (fun p_ => ⟨p_.1, p_.2⟩) (fun _ => rfl) (Go.Proofs.YtnmjnchbdlllmaaW.XW.opens_struct Try.underlying38 (Go.Proofs.YtnmjnchbdlllmaaW.XW.opensFs_cons rfl (Go.Proofs.YtnmjnchbdlllmaaW.XW.opens_slice Try.underlying35 (Go.Proofs.YtnmjnchbdlllmaaW.XW.opens_int Try.underlying5) (by kernel_rfl) (by kernel_rfl)) (by kernel_rfl) rfl (Go.Proofs.YtnmjnchbdlllmaaW.XW.opensFs_one rfl (Go.Proofs.YtnmjnchbdlllmaaW.XW.opens_bool Try.underlying4) (by kernel_rfl))) (by kernel_rfl))) (hval 1 38 v1 rfl rfl) h1 hsz rfl rfl
  obtain ⟨A1_0, c1_0, rfl, hc1_0, hr1_0⟩ : ∃ (A1_0 : Option Addr) (c1_0 : Nat), cs1 = #[.slice A1_0 x1.f0.length c1_0, .bool x1.f1] ∧ x1.f0.length ≤ c1_0 ∧ Kd.C (Kd.int .u8) W A1_0 x1.f0.length x1.f0 := by
    have e_ := k38_open hK1
    first
    | (obtain ⟨A1_0, c1_0, e_, hc1_0, hr1_0⟩ := e_; exact ⟨A1_0, c1_0, by cases cs1; simpa using e_, hc1_0, hr1_0⟩)
    | (cases cs1; simpa using e_)
  have k2 := h2
  have lt2 : ∀ x ∈ p2, x.block < W.heap.size := by obtain ⟨m, hm⟩ := k2; exact DataW.trod_lt m _ _ _ hm
  obtain ⟨A2, c2, x2, rfl, hc2, hr2, ok2⟩ := Go.Proofs.YtnmjnchbdlllmaaW.XW.open_slice (j := 2) Try.underlying39 (Go.Proofs.YtnmjnchbdlllmaaW.XW.opens_slice Try.underlying39 (Go.Proofs.YtnmjnchbdlllmaaW.XW.opens_slice Try.underlying35 (Go.Proofs.YtnmjnchbdlllmaaW.XW.opens_int Try.underlying5) (by kernel_rfl) (by kernel_rfl)) (by kernel_rfl) (by kernel_rfl)) (hval 2 39 v2 rfl rfl) h2 hsz rfl rfl
  obtain ⟨k, h⟩ := Pure.FramePushes x0 x1 x2 ok0 ok1 ok2
  refine (ebbtidelaw21_FramePushes.calls k A0_0 c0_0 x0.f0 x0.f1 A1_0 c1_0 x1.f0 x1.f1 A2 c2 x2 true W hr0_0 hc0_0 hr1_0 hc1_0 hr2 hc2 h).mono ?_
  rintro e W' ⟨rfl, hd⟩
  have bel : Below W.heap.size W W' := hd
  exact ⟨_, rfl, _, _, _, [], _, [], hW', trodAll_mk1 (shut_bool Try.underlying4 _), (trodAll_cons_mk (Below.trod laidOut (by kernel_rfl) (of_decide_eq_true (by kernel_rfl)) k0 bel lt0) (trodAll_cons_mk (Below.trod laidOut (by kernel_rfl) (of_decide_eq_true (by kernel_rfl)) k1 bel lt1) (trodAll_cons_mk (Below.trod laidOut (by kernel_rfl) (of_decide_eq_true (by kernel_rfl)) k2 bel lt2) trodAll_mk0))), rfl, bel.frame _, fun h => by cases h⟩
theorem lifted (os : Os) (started : os.Started) (H : Type) (enc : TypeId × Value → H) :
    ReturnsInHanded {} Try.checked os 7 .any (Rows.framePushesSpec.pre6 enc Try.prog Try.f7 Rows.framePushesRow.domain false) (Rows.framePushesSpec.post enc Try.prog Try.f7 false true false false) := by
  refine returnsInHanded_of_change_sized (C := Try.checked) own started (by kernel_rfl) Try.func7
    (ChangeSpec.witness6 (enc := enc) (C := Try.checked) false ⟨#[], #[.agg #[.slice none 0 0, .bool false], .agg #[.slice none 0 0, .bool false], .slice none 0 0], []⟩ 8 (by kernel_rfl) (by kernel_rfl) (by kernel_rfl) (by kernel_rfl)) ?_
  intro W base args ds gs before hval0 hW hcnd hsz0 _
  exact walk H enc W base args ds gs before hval0 hW hsz0
theorem proved : Rows.FramePushesSaid :=
  OpenClaim.holds_of_wide 7 Try.f7 rfl rfl rfl rfl rfl rfl rfl ⟨rfl, rfl, rfl, rfl, rfl⟩ rfl rfl rfl rfl rfl (by kernel_rfl) Try.func7 (by kernel_rfl)
    (of_decide_eq_true (by kernel_rfl)) (by unfold Func.isWrapper; first | (rw [if_pos (by decide +kernel)]; kernel_rfl) | (rw [if_neg (by decide +kernel)]; exact ⟨rfl, rfl⟩))
    (fun os started H enc _ => lifted os started H enc)
#print axioms proved
end Go.Proofs.Ytnmjnchbdlllmaa.framePushes
namespace Go.Proofs.Ytnmjnchbdlllmaa
/-- The statement, under a short name, for the claim. -/
theorem framePushes_holds : Rows.FramePushesSaid := framePushes.proved
end Go.Proofs.Ytnmjnchbdlllmaa
