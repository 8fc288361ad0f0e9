/- Plain laws of frames: the document's bytes, one by one, make what the program's chunks make; the same things are told to be the same. -/
import Derived.Test.YtnmjnchbdlllmaaPFrx4
import Derived.Test.YtnmjnchbdlllmaaPFrx5
import Derived.Test.YtnmjnchbdlllmaaPFrx6
import Derived.Test.YtnmjnchbdlllmaaPFrx3
import Derived.Test.YtnmjnchbdlllmaaXPure
import Derived.KernelRfl
namespace Go.Proofs.Ytnmjnchbdlllmaa.Pure
open Go.RowKit Go.Proofs.Ytnmjnchbdlllmaa.PFr Go.Proofs.YtnmjnchbdlllmaaW.PrintWords Go.Proofs.YtnmjnchbdlllmaaW.PrintLast Go.Proofs.YtnmjnchbdlllmaaW.PrintMore Go.Proofs.YtnmjnchbdlllmaaW.XP Go.Proofs.YtnmjnchbdlllmaaW.XW
set_option linter.unusedVariables false
set_option linter.unusedSimpArgs false
abbrev In := S54
theorem alive_is : ebbtidelaw21_alive.f = some true := by kernel_rfl
theorem push_is {p : List Int} {s : Bool} {l : List (List Int)} (h : fGood ((p, s, []) : FSt In) l = true) : frame_Push.f p s l = some (fAll frame_Push.fin (p, s, []) l) := by
  unfold frame_Push.f
  rw [if_pos h]
theorem good_of {p : List Int} {s : Bool} {l : List (List Int)} (h : FOk ((p, s, []) : FSt In)) (hs : (l.map List.length).sum ≤ 1000000000) (hb : ∀ b ∈ l, ∀ x ∈ b, 0 ≤ x ∧ x < 256) : fGood ((p, s, []) : FSt In) l = true := by
  simp only [fGood, Bool.and_eq_true, decide_eq_true_eq, Bool.or_eq_true, Bool.not_eq_true', List.isEmpty_iff, List.all_eq_true]
  refine ⟨⟨⟨h.1, ?_⟩, hs⟩, hb⟩
  cases s with
  | true => exact .inr (h.2 rfl)
  | false => exact .inl rfl
theorem byte_of {l : List Int} (h : ∀ x ∈ l, (Lit.int .u8 x).wf = true) : ∀ x ∈ l, 0 ≤ x ∧ x < 256 := by
  intro x hx
  have h1 := h x hx
  simp [Lit.wf, IntKind.min, IntKind.max, IntKind.signed, IntKind.bits] at h1
  omega
/-! The last byte. -/
theorem nums_size (p : List Int) : (strOfNums p).size = p.length := strOfNums_size p
theorem nums_bt (p : List Int) (i : Nat) (h : i < p.length) : bt (strOfNums p) (i : Int) = ((UInt8.ofNat p[i].toNat).toNat : Int) := by
  have hi : (i : Int).toNat < (strOfNums p).size := by rw [nums_size]; simpa using h
  rw [← bt_at (strOfNums p) i hi]
  congr 2
  show (strOfNums p).data[i]'_ = _
  simp [strOfNums]
theorem nums_take (p : List Int) (n : Nat) (h : n ≤ p.length) : (strOfNums p).extract 0 n = strOfNums (p.take n) := by
  apply ByteArray.ext
  rw [ByteArray.data_extract]
  simp [strOfNums]
theorem suffix_last (l : List UInt8) (x c : UInt8) : Lib.hasSuffix (l ++ [x]) [c] = (x == c) := by
  unfold Lib.hasSuffix List.isSuffixOf
  rw [List.reverse_append]
  simp [List.isPrefixOf, BEq.comm]
theorem trim_nil : fTrim [] = [] := rfl
theorem trim_snoc (p : List Int) (x : Int) : fTrim (p ++ [x]) = if (UInt8.ofNat x.toNat == 13) = true then p else p ++ [x] := by
  unfold fTrim
  have e : Lib.bytesOf (p ++ [x]) = Lib.bytesOf p ++ [UInt8.ofNat x.toNat] := by simp [Lib.bytesOf]
  rw [e, suffix_last]
  split
  · simp
  · rfl
theorem last_of (p : List Int) : p = [] ∨ ∃ q x, p = q ++ [x] := by
  rcases List.eq_nil_or_concat p with h | ⟨q, x, h⟩
  · exact .inl h
  · exact .inr ⟨q, x, by rw [h, List.concat_eq_append]⟩
theorem one_is (p : List Int) (s : Bool) (c : Int) (h : FOk ((p, s, []) : FSt In)) : ebbtideref21_One.f p s c = some (fOne frame_Push.fin ((p, s, []) : FSt In) c) := by
  obtain ⟨h1, h2⟩ := h
  simp only at h1 h2
  unfold ebbtideref21_One.f fOne
  simp only [List.nil_append]
  by_cases hc : c = 10
  · rw [if_pos hc, if_pos hc]
    cases s with
    | true => rfl
    | false =>
      rw [if_neg (by simp)]
      rcases last_of p with rfl | ⟨q, x, rfl⟩
      · rw [if_neg (by rw [nums_size]; simp)]
        unfold frame_Push.fin
        rw [if_neg (by simp), trim_nil]
      · have hsz : (strOfNums (q ++ [x])).size = q.length + 1 := by rw [nums_size]; simp
        have hw : wrap64 (((strOfNums (q ++ [x])).size : Int) - 1) = (q.length : Int) := by
          rw [hsz]; simp only [List.length_append, List.length_cons, List.length_nil] at h1; unfold wrap64; omega
        rw [hw, if_pos (by rw [hsz]; omega), if_pos (by omega), if_pos (by rw [hsz]; omega)]
        have hb : bt (strOfNums (q ++ [x])) (q.length : Int) = ((UInt8.ofNat x.toNat).toNat : Int) := by
          rw [nums_bt _ _ (by simp)]
          simp
        unfold frame_Push.fin
        rw [hb, if_neg (show ¬ (false = true) by simp), trim_snoc]
        by_cases h13 : (UInt8.ofNat x.toNat == 13) = true
        · rw [if_pos h13]
          have h3 : UInt8.ofNat x.toNat = 13 := by simpa using h13
          rw [if_pos (by rw [h3]; rfl), if_pos (by rw [hsz]; omega), Int.toNat_natCast, nums_take _ _ (by simp), List.take_left]
        · rw [if_neg h13, if_neg]
          intro h4
          apply h13
          have h5 : (UInt8.ofNat x.toNat).toNat = (13 : UInt8).toNat := by
            have : (13 : UInt8).toNat = 13 := rfl
            rw [this]; exact_mod_cast h4
          rw [UInt8.toNat_inj.1 h5]
          rfl
  · rw [if_neg hc, if_neg hc]
    by_cases hs : s = true
    · rw [if_pos hs, if_pos hs]
    · rw [if_neg hs, if_neg hs]
      by_cases h120 : 120 ≤ p.length
      · rw [if_pos (by omega), if_pos h120]
      · rw [if_neg (by omega), if_neg h120]
        have hs' : s = false := by simpa using hs
        subst hs'
        simp only [Option.bind_some, List.length_nil, List.nil_append]
        rw [if_pos (by omega), if_pos (by omega)]
theorem rd_L1_nat (l : List (List Int)) (i : Nat) (h : i < l.length) : rd_L1 l (i : Int) = l[i] := by
  unfold rd_L1
  rw [Int.toNat_natCast, List.getD_eq_getElem?_getD, List.getElem?_eq_getElem h]; rfl
theorem rd_lt (l : List Int) (i : Nat) (h : i < l.length) : rd l (i : Int) = l[i] := by
  rw [rd_nat, List.getD_eq_getElem?_getD, List.getElem?_eq_getElem h]; rfl
theorem inner_ev (l : List (List Int)) (i : Nat) (hi : i < l.length) (R : List Int × Bool × List In) (next : ∀ p s ls, FOk ((p, s, ls) : FSt In) → ls.length + ((l.drop (i + 1)).map List.length).sum ≤ 1000000000 → fAll frame_Push.fin (p, s, ls) (l.drop (i + 1)) = R → Ev (fun k => ebbtideref21_Push.l0 k l ls ((i + 1 : Nat) : Int) p s) R) (hll : l.length < 9223372036854775807) (hli : l[i].length ≤ 1000000000) :
    ∀ (d j : Nat) (p : List Int) (s : Bool) (ls : List In), j + d = l[i].length → FOk ((p, s, ls) : FSt In) → ls.length + d + ((l.drop (i + 1)).map List.length).sum ≤ 1000000000 → fAll frame_Push.fin (fFold frame_Push.fin (p, s, ls) (l[i].drop j)) (l.drop (i + 1)) = R →
    Ev (fun k => ebbtideref21_Push.l1 k l ls (i : Int) (j : Int) p s) R
  | 0, j, p, s, ls, hd, hok, hb, hR => by
    refine Ev.step (f := fun k => ebbtideref21_Push.l0 k l ls ((i + 1 : Nat) : Int) p s) (fun k => ?_) (next p s ls hok (by omega) ?_)
    · simp only [ebbtideref21_Push.l1]
      rw [rd_L1_nat l i hi, if_pos (by omega), if_pos (by omega), if_neg (by omega), wrap_up i (by omega)]
    · rw [List.drop_of_length_le (by omega)] at hR
      exact hR
  | d + 1, j, p, s, ls, hd, hok, hb, hR => by
    have hj : j < l[i].length := by omega
    have hlen := hb
    refine Ev.step (f := fun k => (ebbtideref21_One.f p s l[i][j]).bind fun bt193 => if ls.length + bt193.2.2.length < 5864062014805 then ebbtideref21_Push.l1 k l (ls ++ bt193.2.2) (i : Int) ((j + 1 : Nat) : Int) bt193.1 bt193.2.1 else none) (fun k => ?_) ?_
    · simp only [ebbtideref21_Push.l1]
      rw [rd_L1_nat l i hi, if_pos (by omega), if_pos (by omega), if_pos (by omega), if_pos (by omega), rd_lt _ j hj, wrap_up j (by omega)]
    · have hok0 : FOk ((p, s, []) : FSt In) := hok
      refine Ev_bind0 (one_is p s _ hok0) ?_
      have hln := fOne_len frame_Push.fin ((p, s, []) : FSt In) l[i][j]
      simp only [List.length_nil] at hln
      refine Ev_if_pos (by omega) ?_
      have hah := fOne_ahead frame_Push.fin p s ls [] l[i][j]
      rw [List.append_nil] at hah
      refine inner_ev l i hi R next hll hli d (j + 1) _ _ _ (by omega) ?_ (by rw [List.length_append]; omega) ?_
      · exact fOne_ok frame_Push.fin hok0 _
      · rw [← hR, List.drop_eq_getElem_cons hj]
        show _ = fAll frame_Push.fin (fFold frame_Push.fin (fOne frame_Push.fin (p, s, ls) l[i][j]) (l[i].drop (j + 1))) _
        rw [hah]
theorem outer_ev (l : List (List Int)) (hll : l.length < 9223372036854775807) (R : List Int × Bool × List In) : ∀ (d i : Nat) (p : List Int) (s : Bool) (ls : List In), i + d = l.length → FOk ((p, s, ls) : FSt In) → ls.length + ((l.drop i).map List.length).sum ≤ 1000000000 → fAll frame_Push.fin (p, s, ls) (l.drop i) = R →
    Ev (fun k => ebbtideref21_Push.l0 k l ls (i : Int) p s) R
  | 0, i, p, s, ls, hd, hok, hb, hR => by
    refine Ev.step (f := fun _ => some (p, s, ls)) (fun k => ?_) ?_
    · simp only [ebbtideref21_Push.l0]; rw [if_neg (by omega)]
    · rw [List.drop_of_length_le (by omega)] at hR
      subst hR
      exact Ev.now _
  | d + 1, i, p, s, ls, hd, hok, hb, hR => by
    have hi : i < l.length := by omega
    rw [List.drop_eq_getElem_cons hi] at hb hR
    rw [List.map_cons, List.sum_cons] at hb
    refine Ev.step (f := fun k => ebbtideref21_Push.l1 k l ls (i : Int) ((0 : Nat) : Int) p s) (fun k => ?_) ?_
    · simp only [ebbtideref21_Push.l0]; rw [if_pos (by omega)]; rfl
    · exact inner_ev l i hi R (fun p' s' ls' h1 h2 h3 => outer_ev l hll R d (i + 1) p' s' ls' (by omega) h1 h2 h3) hll (by omega) l[i].length 0 p s ls (by omega) hok (by omega) hR
theorem ref_push (p : List Int) (s : Bool) (l : List (List Int)) (hll : l.length < 9223372036854775807) (hok : FOk ((p, s, []) : FSt In)) (hs : (l.map List.length).sum ≤ 1000000000) :
    Ev (fun k => ebbtideref21_Push.f k p s l) (fAll frame_Push.fin (p, s, []) l) := by
  have h := outer_ev l hll _ l.length 0 p s [] (by omega) hok (by simpa using hs) rfl
  exact h
theorem same_refl (p : List Int) (s : Bool) : ebbtideref21_Same.f p s p s = some true := by
  unfold ebbtideref21_Same.f
  rw [if_pos rfl]; simp
theorem rd_T_nat (l : List In) (i : Nat) (h : i < l.length) : rd_T54 l (i : Int) = l[i] := by
  unfold rd_T54
  rw [Int.toNat_natCast, List.getD_eq_getElem?_getD, List.getElem?_eq_getElem h]; rfl
theorem inputs_loop (l : List In) (hl : l.length < 9223372036854775807) : ∀ (d i : Nat), i + d = l.length → Ev (fun k => ebbtideref21_Inputs.l0 k l l (i : Int)) true
  | 0, i, hd => by
    refine Ev.step (f := fun _ => some true) (fun k => ?_) (Ev.now _)
    simp only [ebbtideref21_Inputs.l0]; rw [if_neg (by omega)]
  | d + 1, i, hd => by
    refine Ev.step (f := fun k => ebbtideref21_Inputs.l0 k l l ((i + 1 : Nat) : Int)) (fun k => ?_) (inputs_loop l hl d (i + 1) (by omega))
    simp only [ebbtideref21_Inputs.l0]
    rw [if_pos (by omega), if_pos (by omega), if_pos (by omega), if_neg (by simp), wrap_up i (by omega)]
theorem inputs_refl (l : List In) (hl : l.length < 9223372036854775807) : Ev (fun k => ebbtideref21_Inputs.f k l l) true := by
  refine Ev.congr (f := fun k => ebbtideref21_Inputs.l0 k l l ((0 : Nat) : Int)) (fun k => ?_) (inputs_loop l hl l.length 0 (by omega))
  unfold ebbtideref21_Inputs.f
  rw [if_pos rfl]; rfl
theorem ok_nil : FOk (([], false, []) : FSt In) := ⟨by simp, by simp⟩
theorem all_one (t : FSt In) (b : List Int) : fAll frame_Push.fin t [b] = fFold frame_Push.fin t b := rfl
theorem lines_is (b : List Int) (hb : b.length ≤ 1000000000) (hby : ∀ x ∈ b, 0 ≤ x ∧ x < 256) : frame_Lines.f b = some (fFold frame_Push.fin (([], false, []) : FSt In) b).2.2 := by
  unfold frame_Lines.f
  rw [push_is (good_of ok_nil (by simpa using hb) (by intro c hc x hx; rw [List.mem_singleton] at hc; subst hc; exact hby x hx))]
  rfl
end Go.Proofs.Ytnmjnchbdlllmaa.Pure
