/- The same bytes, cut in any way, make the same lines and the same frame. Conditions: bytes and places are of their kind. -/
import Derived.Test.YtnmjnchbdlllmaaPureFr
import Derived.Test.YtnmjnchbdlllmaaPFrx8
namespace Go.Proofs.Ytnmjnchbdlllmaa.Pure
open Go.RowKit Go.Proofs.Ytnmjnchbdlllmaa.PFr Go.Proofs.YtnmjnchbdlllmaaW.PrintWords Go.Proofs.YtnmjnchbdlllmaaW.PrintLast Go.Proofs.YtnmjnchbdlllmaaW.PrintMore Go.Proofs.YtnmjnchbdlllmaaW.XP Go.Proofs.YtnmjnchbdlllmaaW.XW
set_option linter.unusedVariables false
set_option linter.unusedSimpArgs false
theorem tmod_le (a m : Nat) : ∃ n : Nat, Int.tmod (a : Int) ((m + 1 : Nat) : Int) = (n : Int) ∧ n ≤ m := by
  refine ⟨a % (m + 1), ?_, ?_⟩
  · rw [Int.tmod_eq_emod_of_nonneg (Int.natCast_nonneg a)]; exact (Int.natCast_emod a (m + 1)).symm
  · have := Nat.mod_lt a (show m + 1 > 0 by omega); omega
theorem cuts_step (at_ : List Int) (L m : List In) (rest P p : List Int) (S s : Bool) (i n k : Nat) (hi : i < at_.length) (hat : at_.length < 9223372036854775807) (hn : Int.tmod (wrap64 (rd at_ (i : Int))) (wrap64 ((rest.length : Int) + 1)) = (n : Int)) (hnl : n ≤ rest.length) (hz : ¬ wrap64 ((rest.length : Int) + 1) = 0) :
    ebbtidelaw21_FrameCuts.l0 (k + 1) at_ L m rest (i : Int) P S p s = (frame_Push.f p s [rest.take n]).bind fun bt276 => (if m.length + bt276.2.2.length < 5864062014805 then (ebbtidelaw21_FrameCuts.l0 k at_ L (m ++ bt276.2.2) (rest.drop n) ((i + 1 : Nat) : Int) P S bt276.1 bt276.2.1) else (none)) := by
  have h1 : (i : Int) < (at_.length : Int) := Int.ofNat_lt.2 hi
  have h2 : (0 : Int) ≤ (i : Int) := Int.natCast_nonneg i
  have h3 : (0 : Int) ≤ (n : Int) := Int.natCast_nonneg n
  have h4 : (n : Int) ≤ (rest.length : Int) := Int.ofNat_le.2 hnl
  have h5 : wrap64 ((i : Int) + 1) = ((i + 1 : Nat) : Int) := wrap_up i (Nat.lt_trans hi hat)
  simp only [ebbtidelaw21_FrameCuts.l0]
  rw [if_pos h1, if_pos h2, if_neg hz, hn, if_pos h3, if_pos h4, Int.toNat_natCast, h5]
theorem cuts_place (at_ rest : List Int) (i : Nat) (hi : i < at_.length) (hai : 0 ≤ at_[i] ∧ at_[i] < 65536) (hr : rest.length ≤ 2000) : ∃ n : Nat, Int.tmod (wrap64 (rd at_ (i : Int))) (wrap64 ((rest.length : Int) + 1)) = (n : Int) ∧ n ≤ rest.length ∧ ¬ wrap64 ((rest.length : Int) + 1) = 0 := by
  have hw2 : wrap64 ((rest.length : Int) + 1) = ((rest.length + 1 : Nat) : Int) := wrap_up _ (by omega)
  have hw1 : wrap64 at_[i] = at_[i] := wrap64_in (by omega) (by omega)
  obtain ⟨a, ha⟩ : ∃ a : Nat, at_[i] = (a : Int) := ⟨at_[i].toNat, by omega⟩
  obtain ⟨n, h1, h2⟩ := tmod_le a rest.length
  refine ⟨n, ?_, h2, ?_⟩
  · rw [rd_lt at_ i hi, hw1, hw2, ha]; exact h1
  · rw [hw2]; intro h; have := Int.ofNat.inj h; omega
/-- What is left of the bytes, behind what has come: the whole's frame and lines. -/
theorem cuts_loop (b : List Int) (at_ : List Int) (W : List Int × Bool × List In) (hat : at_.length < 9223372036854775807) (hbl : b.length ≤ 2000) (hW : W = fFold frame_Push.fin (([], false, []) : FSt In) b) (hby : ∀ x ∈ b, 0 ≤ x ∧ x < 256) (hau : ∀ x ∈ at_, 0 ≤ x ∧ x < 65536) :
    ∀ (d i : Nat) (m : List In) (rest p : List Int) (s : Bool), i + d = at_.length → FOk ((p, s, m) : FSt In) → rest.length ≤ 2000 → m.length ≤ 2000 - rest.length → (∀ x ∈ rest, 0 ≤ x ∧ x < 256) → fFold frame_Push.fin ((p, s, m) : FSt In) rest = W →
    Ev (fun k => ebbtidelaw21_FrameCuts.l0 k at_ W.2.2 m rest (i : Int) W.1 W.2.1 p s) true
  | 0, i, m, rest, p, s, hd, hok, hr, hm, hrb, hR => by
    have hok0 : FOk ((p, s, []) : FSt In) := hok
    have hah := fFold_ahead frame_Push.fin rest p s m []
    rw [List.append_nil, hR] at hah
    have hln := fFold_len frame_Push.fin rest ((p, s, []) : FSt In)
    simp only [List.length_nil] at hln
    obtain ⟨q, hq⟩ : ∃ q, fFold frame_Push.fin ((p, s, []) : FSt In) rest = q := ⟨_, rfl⟩
    rw [hq] at hah hln
    have hWo : FOk W := hR ▸ fFold_ok frame_Push.fin rest hok
    refine Ev.step (f := fun k => (frame_Push.f p s [rest]).bind fun bt295 => (if m.length + bt295.2.2.length < 5864062014805 then ((ebbtideref21_Same.f W.1 W.2.1 bt295.1 bt295.2.1).bind fun t306 => (if t306 = true then ((ebbtideref21_Inputs.f k W.2.2 (m ++ bt295.2.2)).bind fun t307 => (if t307 = true then (some (decide ((W.1.length : Int) ≤ 120))) else (none))) else (none))) else (none))) (fun k => ?_) ?_
    · simp only [ebbtidelaw21_FrameCuts.l0]; rw [if_neg (by omega)]
    refine Ev_bind0 (push_is (good_of hok0 (by simpa using (by omega : rest.length ≤ 1000000000)) (by intro c hc x hx; rw [List.mem_singleton] at hc; subst hc; exact hrb x hx))) ?_
    rw [all_one, hq]
    have hb1 : m.length + q.2.2.length ≤ 4000 := by omega
    refine Ev_if_pos (by omega) ?_
    have e1 : q.1 = W.1 := by rw [hah]
    have e2 : q.2.1 = W.2.1 := by rw [hah]
    have e3 : m ++ q.2.2 = W.2.2 := by rw [hah]
    have e4 : W.2.2.length ≤ 4000 := by rw [← e3, List.length_append]; exact hb1
    rw [e1, e2, e3]
    refine Ev_bind0 (same_refl _ _) (Ev_if_pos rfl ?_)
    refine Ev_bind (inputs_refl _ (by omega)) (Ev_if_pos rfl ?_)
    rw [decide_eq_true (by have := hWo.1; omega)]
    exact Ev.now _
  | d + 1, i, m, rest, p, s, hd, hok, hr, hm, hrb, hR => by
    have hi : i < at_.length := by omega
    have hai := hau at_[i] (List.getElem_mem hi)
    have hok0 : FOk ((p, s, []) : FSt In) := hok
    obtain ⟨n, hn, hnl, hz⟩ := cuts_place at_ rest i hi hai hr
    have hsplit : rest = rest.take n ++ rest.drop n := (List.take_append_drop n rest).symm
    have hah := fFold_ahead frame_Push.fin (rest.take n) p s m []
    rw [List.append_nil] at hah
    have hln := fFold_len frame_Push.fin (rest.take n) ((p, s, []) : FSt In)
    simp only [List.length_nil, List.length_take] at hln
    obtain ⟨q, hq⟩ : ∃ q, fFold frame_Push.fin ((p, s, []) : FSt In) (rest.take n) = q := ⟨_, rfl⟩
    have hqo : FOk ((q.1, q.2.1, []) : FSt In) := by rw [← hq]; exact fFold_ok frame_Push.fin (rest.take n) hok0
    rw [hq] at hah hln
    have hb1 : m.length + q.2.2.length ≤ 2000 - (rest.length - n) := by omega
    refine Ev.step (f := fun k => (frame_Push.f p s [rest.take n]).bind fun bt276 => (if m.length + bt276.2.2.length < 5864062014805 then (ebbtidelaw21_FrameCuts.l0 k at_ W.2.2 (m ++ bt276.2.2) (rest.drop n) ((i + 1 : Nat) : Int) W.1 W.2.1 bt276.1 bt276.2.1) else (none))) (fun k => ?_) ?_
    · exact cuts_step at_ _ m rest _ p _ s i n k hi hat hn hnl hz
    clear hn hz hai
    refine Ev_bind0 (push_is (good_of hok0 (by simp only [List.map_cons, List.map_nil, List.sum_cons, List.sum_nil, List.length_take]; omega) (by intro c hc x hx; rw [List.mem_singleton] at hc; subst hc; exact hrb x (List.mem_of_mem_take hx)))) ?_
    rw [all_one, hq]
    refine Ev_if_pos (by omega) ?_
    refine cuts_loop b at_ W hat hbl hW hby hau d (i + 1) _ _ _ _ (by omega) ?_ (by rw [List.length_drop]; omega) (by rw [List.length_append, List.length_drop]; exact hb1) (fun x hx => hrb x (List.mem_of_mem_drop hx)) ?_
    · exact hqo
    · have h1 : fFold frame_Push.fin ((p, s, m) : FSt In) (rest.take n ++ rest.drop n) = W := by rw [← hsplit]; exact hR
      rw [fFold_append, hah] at h1
      exact h1
theorem u16_of {l : List Int} (h : ∀ x ∈ l, (Lit.int .u16 x).wf = true) : ∀ x ∈ l, 0 ≤ x ∧ x < 65536 := by
  intro x hx
  have h1 := h x hx
  simp [Lit.wf, IntKind.min, IntKind.max, IntKind.signed, IntKind.bits] at h1
  omega
theorem FrameCuts : ∀ (x0 : List Int) (x1 : List Int), (x0.length * 1 ≤ 140737488351232 ∧ ∀ x_ ∈ x0, (Lit.int .u8 x_).wf = true) → (x1.length * 2 ≤ 140737488351232 ∧ ∀ x_ ∈ x1, (Lit.int .u16 x_).wf = true) → ∃ k, ebbtidelaw21_FrameCuts.f k x0 x1 = some true := by
  intro b at_ ⟨_, hwf⟩ ⟨hal, hau⟩
  have hby := byte_of hwf
  have hau' := u16_of hau
  refine Ev.rounds ?_
  unfold ebbtidelaw21_FrameCuts.f
  refine Ev_bind0 alive_is (Ev_if_pos rfl ?_)
  have jt : Ev (fun k => ebbtidelaw21_FrameCuts.j0 k b at_ true) true := Ev.step (f := fun _ => some true) (fun k => by simp only [ebbtidelaw21_FrameCuts.j0]; first | rw [if_pos rfl] | rw [if_pos trivial]) (Ev.now _)
  by_cases h2 : (b.length : Int) > 2000
  · exact Ev_if_pos h2 jt
  refine Ev_if_neg h2 ?_
  by_cases h5 : (at_.length : Int) > 50
  · rw [decide_eq_true h5]; exact jt
  rw [decide_eq_false h5]
  refine Ev.step (f := fun k => (frame_Push.f ([] : List Int) false [b]).bind fun bt258 => (ebbtidelaw21_FrameCuts.l0 k at_ bt258.2.2 ([] : List In) b ((0 : Nat) : Int) bt258.1 bt258.2.1 ([] : List Int) false)) (fun k => ?_) ?_
  · simp only [ebbtidelaw21_FrameCuts.j0]; rw [if_neg (by simp)]; rfl
  refine Ev_bind0 (push_is (good_of ok_nil (by simpa using (by omega : b.length ≤ 1000000000)) (by intro c hc x hx; rw [List.mem_singleton] at hc; subst hc; exact hby x hx))) ?_
  rw [all_one]
  exact cuts_loop b at_ _ (by omega) (by omega) rfl hby hau' at_.length 0 [] b [] false (by omega) ok_nil (by omega) (by simp) hby rfl
end Go.Proofs.Ytnmjnchbdlllmaa.Pure
