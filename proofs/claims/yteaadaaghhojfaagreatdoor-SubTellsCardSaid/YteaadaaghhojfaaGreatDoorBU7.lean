/- A part of the proof: GR1, GR2, GR3, GR4, GR5, GR6, GR7, GR8, GR9. No condition. -/
import Derived.Test.YteaadaaghhojfaaGreatDoorBU6
section
namespace Go.Proofs.YteaadaaghhojfaaGreatDoorE
open Go Go.Proofs
set_option linter.unusedVariables false
set_option linter.unusedSimpArgs false
abbrev RW := El tRow
def befR (a b : RW) : Bool := decide (a.1 < b.1) || (decide (a.1 = b.1) && Op.bytesLess (bl a.2.1) (bl b.2.1))
theorem r08_Before_v (n : Nat) (x : SgEl r08_Before_sg) : r08_Before n x = some ((befR x.1 x.2.1, ()), ((), (), ())) := by
  obtain ⟨a, b, ⟨⟩⟩ := x
  unfold r08_Before befR
  by_cases h : a.1 < b.1
  · simp [h]
  · by_cases e : a.1 = b.1
    · simp [e]; rfl
    · simp [h, e]
theorem cmp_Or_v {n : Nat} (hn : Big n) (a b : Int) : cmp_Or n ([a, b], ()) = some ((if a = 0 then b else a, ()), ((), ())) := by
  obtain ⟨m, rfl⟩ : ∃ m, n = m + 1 + 1 + 1 := ⟨n - 3, by unfold Big at hn; omega⟩
  have e1 : iadd .i64 (0 : Int) 1 = 1 := by rw [iadd64 (by omega) (by omega)]; rfl
  have e2 : iadd .i64 (1 : Int) 1 = 2 := by rw [iadd64 (by omega) (by omega)]; rfl
  by_cases h : a = 0
  · by_cases h' : b = 0 <;> simp [cmp_Or, cmp_Or_l0, ilen, e1, e2, h, h']
  · simp [cmp_Or, cmp_Or_l0, ilen, e1, e2, h]
theorem cmp_Compare_v (n : Nat) (a b : Int) : cmp_Compare n (a, b, ()) = some ((if a < b then -1 else if b < a then 1 else 0, ()), ((), (), ())) := by
  have e : ∀ k : Int, cmp_isNaN n (k, ()) = some ((false, ()), ((), ())) := fun k => by simp [cmp_isNaN]
  unfold cmp_Compare
  rw [e a, e b]
  by_cases h : a < b
  · simp [h]
  · by_cases h' : b < a <;> simp [h, h']
theorem row_Before_v {n : Nat} (hn : Big n) (x : SgEl row_Before_sg) : row_Before n x = some ((befR x.1 x.2.1, ()), ((), (), ())) := by
  obtain ⟨a, b, ⟨⟩⟩ := x
  have h1 := cmp_Compare_v n a.1 b.1
  have h2 := cmp_Or_v hn (if a.1 < b.1 then -1 else if b.1 < a.1 then 1 else 0) (Lib.compareBytes a.2.1.data.toList b.2.1.data.toList)
  have h3 := cmp_lt (bl a.2.1) (bl b.2.1)
  simp only [row_Before, row_of, row_order, bindN_s, h1, s_Compare, h2, ilt_eq, befR]
  congr 3
  rw [Bool.eq_iff_iff, decide_eq_true_eq, Bool.or_eq_true, Bool.and_eq_true, decide_eq_true_eq, decide_eq_true_eq, ← h3]
  by_cases p : a.1 < b.1
  · simp [p]
  · by_cases q : b.1 < a.1
    · have : ¬ a.1 = b.1 := fun e => Int.lt_irrefl b.1 (by rw [e] at q; exact q)
      simp [p, q, this]
    · have : a.1 = b.1 := Int.le_antisymm (Int.not_lt.1 q) (Int.not_lt.1 p)
      simp [this]; rfl
/-! ### groups -/
def groupE (s : ByteArray) : Int := if (parseT s).2 = 0 then (if textT (parseT s).1 = s then 0 else 2) else (parseT s).2
theorem parse_fit (s : ByteArray) : Fit (parseT s).1 := by
  rcases parse_out s with ⟨_, h⟩ | ⟨_, h⟩
  · exact (right_fit h).1
  · rw [h]; exact ⟨by simp, fun t ht => by simp at ht⟩
theorem r08_group_v {n : Nat} (hn : Big n) (s : ByteArray) (hs : s.size ≤ 100000) : r08_group n (s, ()) = some ((groupE s, ()), ((), ())) := by
  simp only [r08_group, r03_Parse_v hn s hs, bindN_s, r03_Text_v hn _ (parse_fit s), ieq_eq, seq_eq, groupE]
  by_cases h : (parseT s).2 = 0
  · by_cases h' : textT (parseT s).1 = s <;> simp [h, h']
  · simp [h]
theorem row_group_v {n : Nat} (hn : Big n) (s : ByteArray) (hs : s.size ≤ 100000) : row_group n (s, ()) = some ((groupE s, ()), ((), ())) := by
  simp only [row_group, tag_Parse_v hn s hs, bindN_s, tag_Text_v hn _ (parse_fit s), ieq_eq, seq_eq, groupE]
  by_cases h : (parseT s).2 = 0
  · by_cases h' : textT (parseT s).1 = s <;> simp [h, h']
  · simp [h]
/-! ### in order -/
def riseR : List RW → Bool
  | a :: b :: r => befR a b && riseR (b :: r)
  | _ => true
def okG (r : RW) : Bool := decide (groupE r.2.1 = 0)
def rightR (l : List RW) : Bool := l.all okG && riseR l
theorem rise_drop (l : List RW) (i : Nat) (h : i + 1 < l.length) : riseR (l.drop i) = (befR l[i] l[i + 1] && riseR (l.drop (i + 1))) := by
  rw [drop_cons l i (by omega), drop_cons l (i + 1) h, riseR]
/-- what is not too great to be looked at -/
def FitR (l : List RW) : Prop := l.length ≤ 100000 ∧ ∀ r ∈ l, r.2.1.size ≤ 100000
theorem rise_loop {L : Nat → Int → Option (Unit ⊕ (Bool × Unit))} (l : List RW) (hl : l.length ≤ 100000) (hend : ∀ g i, l.length ≤ i → L (g + 1) (i : Int) = some (.inl ()))
    (hstep : ∀ g i (h : i + 1 < l.length), L (g + 1) ((i + 1 : Nat) : Int) = bif befR l[i] l[i + 1] then L g ((i + 1 + 1 : Nat) : Int) else some (.inr (false, ()))) {g : Nat} (hg : l.length < g) :
    L g (1 : Int) = some (bif riseR l then .inl () else .inr (false, ())) := by
  have key : ∀ (d i g : Nat), i + 1 + d = l.length → d < g → L g ((i + 1 : Nat) : Int) = some (bif riseR (l.drop i) then .inl () else .inr (false, ())) := by
    intro d
    induction d with
    | zero =>
      intro i g hd hg
      obtain ⟨g, rfl⟩ : ∃ g', g = g' + 1 := ⟨g - 1, by omega⟩
      rw [hend g (i + 1) (by omega), drop_cons l i (by omega), List.drop_of_length_le (by omega)]
      rfl
    | succ d ih =>
      intro i g hd hg
      obtain ⟨g, rfl⟩ : ∃ g', g = g' + 1 := ⟨g - 1, by omega⟩
      rw [hstep g i (by omega), ih (i + 1) g (by omega) (by omega), rise_drop l i (by omega)]
      cases befR l[i] l[i + 1] <;> simp
  cases h : l with
  | nil =>
    obtain ⟨g, rfl⟩ : ∃ g', g = g' + 1 := ⟨g - 1, by omega⟩
    have := hend g 1 (by rw [h]; simp)
    simpa [riseR] using this
  | cons x r =>
    have := key (l.length - 1) 0 g (by rw [h]; simp; omega) (by omega)
    rw [h] at this
    simpa using this
theorem r08_rise_v {n : Nat} (hn : Big n) (l : List RW) (hl : l.length ≤ 100000) : r08_rise n (l, ()) = some ((riseR l, ()), ((), ())) := by
  have hL := rise_loop (L := fun g i => r08_rise_l0 n g (l, i, ())) l hl (fun g i hi => by
    have k : ¬ (i : Int) < (l.length : Int) := by omega
    simp only [r08_rise_l0, ilt_eq, ilen, k, decide_false, cond_false]) (fun g i hi => by
    have k : ((i + 1 : Nat) : Int) < (l.length : Int) := by omega
    have k0 : (0 : Int) ≤ i := by omega
    have k1 : (0 : Int) ≤ ((i + 1 : Nat) : Int) := by omega
    have e0 : isub .i64 ((i + 1 : Nat) : Int) 1 = (i : Int) := by rw [isub64 (by omega) (by omega)]; omega
    simp only [r08_rise_l0, ilt_eq, ile_eq, ilen, k, k0, k1, e0, decide_true, cond_true, lat_eq, iN, Int.toNat_natCast, List.getElem?_eq_getElem hi, List.getElem?_eq_getElem (show i < l.length by omega), bindN_s, r08_Before_v, iadd1 (i := i + 1) (by omega), bindL_id]
    cases befR l[i] l[i + 1] <;> rfl) (g := n) (by unfold Big at hn; omega)
  simp only [r08_rise, hL]
  cases riseR l <;> simp
theorem row_rise_v {n : Nat} (hn : Big n) (l : List RW) (hl : l.length ≤ 100000) : row_rise n (l, ()) = some ((riseR l, ()), ((), ())) := by
  have hL := rise_loop (L := fun g i => row_rise_l0 n g (l, i, ())) l hl (fun g i hi => by
    have k : ¬ (i : Int) < (l.length : Int) := by omega
    simp only [row_rise_l0, ilt_eq, ilen, k, decide_false, cond_false]) (fun g i hi => by
    have k : ((i + 1 : Nat) : Int) < (l.length : Int) := by omega
    have k0 : (0 : Int) ≤ i := by omega
    have k1 : (0 : Int) ≤ ((i + 1 : Nat) : Int) := by omega
    have e0 : isub .i64 ((i + 1 : Nat) : Int) 1 = (i : Int) := by rw [isub64 (by omega) (by omega)]; omega
    simp only [row_rise_l0, ilt_eq, ile_eq, ilen, k, k0, k1, e0, decide_true, cond_true, lat_eq, iN, Int.toNat_natCast, List.getElem?_eq_getElem hi, List.getElem?_eq_getElem (show i < l.length by omega), bindN_s, row_Before_v hn, iadd1 (i := i + 1) (by omega), bindL_id]
    cases befR l[i] l[i + 1] <;> rfl) (g := n) (by unfold Big at hn; omega)
  simp only [row_rise, hL]
  cases riseR l <;> simp
theorem r08_Right_v {n : Nat} (hn : Big n) (l : List RW) (hl : FitR l) : r08_Right n (l, ()) = some ((rightR l, ()), ((), ())) := by
  have hlen := hl.1
  have hL := any_loop' (a := l) (fun t => !okG t) (l, ()) (false, ()) (L := fun g i => r08_Right_l0 n g (l, i, ())) (fun g => by simp [r08_Right_l0, ilen]) (fun g i hi => by
    have k : (i : Int) < (l.length : Int) := by omega
    have k1 : (0 : Int) ≤ i := by omega
    have hg := r08_group_v hn l[i].2.1 (hl.2 _ (List.getElem_mem hi))
    simp only [r08_Right_l0, ilt_eq, ile_eq, ieq_eq, ilen, k, k1, decide_true, cond_true, lat_eq, iN, Int.toNat_natCast, List.getElem?_eq_getElem hi, bindN_s, hg, iadd1 (i := i) (by omega), bindL_id1, okG]) (g := n) (by unfold Big at hn; omega)
  rw [all_any] at hL
  unfold r08_Right rightR
  simp only [hL]
  cases l.all okG with
  | false => simp
  | true => simp [r08_rise_v hn l hlen]
/-- the place of the first that is so -/
theorem find_loop {α : Type} {a : List α} (p : α → Bool) {L : Nat → Int → Option (Unit ⊕ (Int × Unit))} (hend : ∀ g, L (g + 1) (a.length : Int) = some (.inl ()))
    (hstep : ∀ g i (h1 : i < a.length), L (g + 1) (i : Int) = bif p a[i] then some (.inr ((i : Int), ())) else L g ((i + 1 : Nat) : Int)) {g : Nat} (hg : a.length < g) :
    L g (0 : Int) = some (match a.findIdx? p with | some q => .inr ((q : Int), ()) | none => .inl ()) := by
  have := up_loop (L := L) (m := a.length) (spec := fun i => match (a.drop i).findIdx? p with | some q => .inr (((i + q : Nat) : Int), ()) | none => .inl ()) (fun g => by
    rw [hend g]; simp) (fun g i hi ih => by
    rw [hstep g i hi, ih, drop_eq hi, List.findIdx?_cons]
    cases p a[i] with
    | true => simp
    | false =>
      simp only [cond_false, Bool.false_eq_true, if_false]
      cases (a.drop (i + 1)).findIdx? p with
      | none => rfl
      | some q => simp only [Option.map_some]; rw [show i + (q + 1) = i + 1 + q by omega]) a.length 0 g (by omega) hg
  simpa using this
theorem sl_ContainsRow_v {n : Nat} (hn : Big n) (l : List RW) (hl : FitR l) : sl_ContainsRow n (l, (), ()) = some ((!l.all okG, ()), ((), (), ())) := by
  have hlen := hl.1
  have hL := find_loop (a := l) (fun t => !okG t) (L := fun g i => sl_IndexRow_l0 n g (l, (), (l.length : Int), i, ())) (fun g => by simp [sl_IndexRow_l0]) (fun g i hi => by
    have k : (i : Int) < (l.length : Int) := by omega
    have k1 : (0 : Int) ≤ i := by omega
    have hg := row_group_v hn l[i].2.1 (hl.2 _ (List.getElem_mem hi))
    simp only [sl_IndexRow_l0, ilt_eq, ile_eq, ieq_eq, k, k1, decide_true, cond_true, lat_eq, iN, Int.toNat_natCast, List.getElem?_eq_getElem hi, bindN_s, row_Right1, hg, iadd1 (i := i) (by omega), bindL_id, okG]) (g := n) (by unfold Big at hn; omega)
  unfold sl_ContainsRow sl_IndexRow
  simp only [ilen, hL, ← all_any]
  cases h : l.findIdx? (fun t => !okG t) with
  | none =>
    have := List.findIdx?_eq_none_iff.1 h
    have e : l.any (fun t => !okG t) = false := by rw [List.any_eq_false]; intro x hx; rw [this x hx]; simp
    simp [e]
  | some q =>
    have e : l.any (fun t => !okG t) = true := by
      have := List.findIdx?_isSome (p := fun t => !okG t) (xs := l)
      rw [h] at this; simpa using this.symm
    have : (0 : Int) ≤ q := by omega
    simp [e, this]
theorem row_Right_v {n : Nat} (hn : Big n) (l : List RW) (hl : FitR l) : row_Right n (l, ()) = some ((rightR l, ()), ((), ())) := by
  simp only [row_Right, row_rise_v hn l hl.1, bindN_s, sl_ContainsRow_v hn l hl, rightR]
  cases riseR l <;> cases l.all okG <;> simp
end Go.Proofs.YteaadaaghhojfaaGreatDoorE
end
section
namespace Go.Proofs.YteaadaaghhojfaaGreatDoorE
open Go Go.Proofs
set_option linter.unusedVariables false
set_option linter.unusedSimpArgs false
abbrev CH := El tChange
def goneC (r : RW) : CH := ((r.1, r.2.1, (0, false, ()), ()), true, ())
def upC (r : RW) : CH := (r, false, ())
theorem row_ext {x y : RW} : x = y ↔ x.1 = y.1 ∧ x.2.1 = y.2.1 ∧ x.2.2.1.1 = y.2.2.1.1 ∧ x.2.2.1.2.1 = y.2.2.1.2.1 := by
  obtain ⟨a, b, ⟨c, d, ⟨⟩⟩, ⟨⟩⟩ := x
  obtain ⟨a', b', ⟨c', d', ⟨⟩⟩, ⟨⟩⟩ := y
  simp
theorem row_test (x y : RW) : (decide (x.1 = y.1) && (decide (x.2.1 = y.2.1) && (decide (x.2.2.1.1 = y.2.2.1.1) && (decide (x.2.2.1.2.1 = y.2.2.1.2.1) && true)))) = eqb x y := by
  rw [Bool.eq_iff_iff, eqb_iff, row_ext]; simp
noncomputable def ofR : List RW → List RW → List CH
  | [], [] => []
  | x :: a, [] => goneC x :: ofR a []
  | [], y :: b => upC y :: ofR [] b
  | x :: a, y :: b => bif befR x y then goneC x :: ofR a (y :: b) else bif befR y x then upC y :: ofR (x :: a) b else bif eqb x y then ofR a b else upC y :: ofR a b
 termination_by a b => a.length + b.length
theorem of_nn : ofR [] [] = [] := by rw [ofR]
theorem of_cn (x : RW) (a : List RW) : ofR (x :: a) [] = goneC x :: ofR a [] := by rw [ofR]
theorem of_nc (y : RW) (b : List RW) : ofR [] (y :: b) = upC y :: ofR [] b := by rw [ofR]
theorem of_cc (x y : RW) (a b : List RW) : ofR (x :: a) (y :: b) = bif befR x y then goneC x :: ofR a (y :: b) else bif befR y x then upC y :: ofR (x :: a) b else bif eqb x y then ofR a b else upC y :: ofR a b := by rw [ofR]
theorem of_l0 {n : Nat} (hn : Big n) : ∀ (m : Nat) (a b : List RW) (acc : List CH) (g : Nat), a.length + b.length ≤ m → m < g → acc.length + m ≤ 1000000 → diff_Of_l0 n g (a, b, acc, ()) = some (.inl (acc ++ ofR a b, ())) := by
  intro m
  induction m with
  | zero =>
    intro a b acc g h hg hb
    obtain ⟨g, rfl⟩ : ∃ g', g = g' + 1 := ⟨g - 1, by omega⟩
    have ha : a = [] := List.length_eq_zero_iff.1 (by omega)
    have hb' : b = [] := List.length_eq_zero_iff.1 (by omega)
    subst ha; subst hb'
    simp [diff_Of_l0, ilen]
    exact of_nn
  | succ m ih =>
    intro a b acc g h hg hb
    obtain ⟨g, rfl⟩ : ∃ g', g = g' + 1 := ⟨g - 1, by omega⟩
    have r1 : room (acc.length + 1) 48 = true := room_of (by omega)
    cases a with
    | nil =>
      cases b with
      | nil =>
        simp [diff_Of_l0, ilen]
        exact of_nn
      | cons y b =>
        have k1 : (0 : Int) < (b.length : Int) + 1 := by omega
        have k2 : ¬ (b.length : Int) + 1 = 0 := by omega
        have k3 : (1 : Int) ≤ (b.length : Int) + 1 := by omega
        have k4 : ((b.length : Int) + 1 - 1).toNat = b.length := by omega
        have i1 := ih [] b (acc ++ [upC y]) g (by simp at h ⊢; omega) (by omega) (by simp; omega)
        unfold upC at i1
        simp [diff_Of_l0, ilen, roomA, app, k1, k2, k3, k4, r1, i1]
        exact (of_nc y b).symm
    | cons x a =>
      have j1 : (0 : Int) < (a.length : Int) + 1 := by omega
      have j2 : ¬ (a.length : Int) + 1 = 0 := by omega
      have j3 : (1 : Int) ≤ (a.length : Int) + 1 := by omega
      have j4 : ((a.length : Int) + 1 - 1).toNat = a.length := by omega
      have eg : diff_gone n (x, ()) = some ((goneC x, ()), ((), ())) := rfl
      cases b with
      | nil =>
        have i1 := ih a [] (acc ++ [goneC x]) g (by simp at h ⊢; omega) (by omega) (by simp; omega)
        simp [diff_Of_l0, ilen, roomA, app, j1, j2, j3, j4, r1, i1, eg]
        exact (of_cn x a).symm
      | cons y b =>
        have k1 : (0 : Int) < (b.length : Int) + 1 := by omega
        have k2 : ¬ (b.length : Int) + 1 = 0 := by omega
        have k3 : (1 : Int) ≤ (b.length : Int) + 1 := by omega
        have k4 : ((b.length : Int) + 1 - 1).toNat = b.length := by omega
        have i1 := ih a (y :: b) (acc ++ [goneC x]) g (by simp at h ⊢; omega) (by omega) (by simp; omega)
        have i2 := ih (x :: a) b (acc ++ [upC y]) g (by simp at h ⊢; omega) (by omega) (by simp; omega)
        have i3 := ih a b acc g (by simp at h ⊢; omega) (by omega) (by omega)
        have i4 := ih a b (acc ++ [upC y]) g (by simp at h ⊢; omega) (by omega) (by simp; omega)
        unfold upC at i2 i4
        have b1 := row_Before_v hn (x, y, ())
        have b2 := row_Before_v hn (y, x, ())
        have et := row_test x y
        rw [of_cc]
        cases c1 : befR x y with
        | true => simp [diff_Of_l0, ilen, roomA, app, j1, j2, j3, j4, k1, k2, k3, k4, r1, b1, c1, i1, eg]
        | false =>
          cases c2 : befR y x with
          | true => simp [diff_Of_l0, ilen, roomA, app, j1, j2, j3, j4, k1, k2, k3, k4, r1, b1, b2, c1, c2, i2, upC]
          | false =>
            simp only [diff_Of_l0, ilen, List.length_cons, Int.natCast_add, Int.cast_ofNat_Int, ilt_eq, ile_eq, ieq_eq, seq_eq, beqB_eq, j1, j2, j3, j4, k1, k2, k3, k4, decide_true, decide_false, cond_true, cond_false, b1, b2, c1, c2, bindN_s, lat_eq, iN, Int.toNat_zero, List.getElem?_cons_zero, Int.le_refl, et]
            cases c3 : eqb x y with
            | true => simp [ilen, j1, j2, j3, j4, k1, k2, k3, k4, i3]
            | false => simp [ilen, roomA, app, j1, j2, j3, j4, k1, k2, k3, k4, r1, i4, upC]
theorem diff_Of_v {n : Nat} (hn : Big n) (a b : List RW) (ha : FitR a) (hb : FitR b) : diff_Of n (a, b, ()) = some ((bif rightR a && rightR b then (ofR a b, (0 : Int), ()) else ([], (9 : Int), ())), ((), (), ())) := by
  have hl := of_l0 hn (a.length + b.length) a b [] n (Nat.le_refl _) (by have := ha.1; have := hb.1; unfold Big at hn; omega) (by have := ha.1; have := hb.1; simp; omega)
  simp only [diff_Of, row_Right_v hn a ha, row_Right_v hn b hb, bindN_s, hl, List.nil_append]
  cases rightR a <;> cases rightR b <;> simp
theorem fitR {l : List RW} (h : greatR l = false) : FitR l := by
  obtain ⟨h1, h2⟩ := limR h
  exact ⟨by omega, fun r hr => by have := h2 r hr; omega⟩
end Go.Proofs.YteaadaaghhojfaaGreatDoorE
end
section
namespace Go.Proofs.YteaadaaghhojfaaGreatDoorE
open Go Go.Proofs
set_option linter.unusedVariables false
set_option linter.unusedSimpArgs false
/-! ### the order of rows -/
theorem bef_irrefl (a : RW) : befR a a = false := by simp [befR, bl_irrefl]
theorem bef_trans {a b c : RW} (h1 : befR a b = true) (h2 : befR b c = true) : befR a c = true := by
  simp only [befR, Bool.or_eq_true, Bool.and_eq_true, decide_eq_true_eq] at *
  rcases h1 with h1 | ⟨h1, h1'⟩
  · rcases h2 with h2 | ⟨h2, h2'⟩
    · exact .inl (Int.lt_trans h1 h2)
    · exact .inl (by rw [← h2]; exact h1)
  · rcases h2 with h2 | ⟨h2, h2'⟩
    · exact .inl (by rw [h1]; exact h2)
    · exact .inr ⟨h1.trans h2, bl_trans _ _ _ h1' h2'⟩
theorem bef_asymm {a b : RW} (h : befR a b = true) : befR b a = false := by
  cases h' : befR b a with
  | false => rfl
  | true => have := bef_trans h h'; rw [bef_irrefl] at this; cases this
/-- the same place -/
def keyR (a b : RW) : Prop := a.1 = b.1 ∧ a.2.1 = b.2.1
theorem bef_total {a b : RW} (h1 : befR a b = false) (h2 : befR b a = false) : keyR a b := by
  simp only [befR, Bool.or_eq_false_iff, Bool.and_eq_false_iff, decide_eq_false_iff_not] at h1 h2
  have e : a.1 = b.1 := Int.le_antisymm (Int.not_lt.1 h2.1) (Int.not_lt.1 h1.1)
  refine ⟨e, ?_⟩
  rcases h1.2 with h | h
  · exact absurd e h
  · rcases h2.2 with h' | h'
    · exact absurd e.symm h'
    · by_cases q : bl a.2.1 = bl b.2.1
      · exact bl_inj q
      · rcases bl_total _ _ q with k | k
        · rw [k] at h; cases h
        · rw [k] at h'; cases h'
theorem key_bef {a b : RW} (h : keyR a b) : befR a b = false := by simp [befR, h.1, h.2, bl_irrefl]
theorem key_symm {a b : RW} (h : keyR a b) : keyR b a := ⟨h.1.symm, h.2.symm⟩
theorem key_trans {a b c : RW} (h : keyR a b) (h' : keyR b c) : keyR a c := ⟨h.1.trans h'.1, h.2.trans h'.2⟩
theorem key_bef_l {a b c : RW} (h : keyR a b) : befR a c = befR b c := by simp [befR, h.1, h.2]
theorem key_bef_r {a b c : RW} (h : keyR a b) : befR c a = befR c b := by simp [befR, h.1, h.2]
/-- in order, strictly, by a key -/
def Asc {α : Type} (k : α → RW) (l : List α) : Prop := l.Pairwise fun x y => befR (k x) (k y) = true
theorem asc_cons {α : Type} {k : α → RW} {x : α} {l : List α} : Asc k (x :: l) ↔ (∀ y ∈ l, befR (k x) (k y) = true) ∧ Asc k l := List.pairwise_cons
theorem rise_asc : ∀ l : List RW, riseR l = true ↔ Asc id l
  | [] => ⟨fun _ => List.Pairwise.nil, fun _ => rfl⟩
  | [a] => ⟨fun _ => List.pairwise_singleton _ _, fun _ => rfl⟩
  | a :: b :: r => by
    have ih := rise_asc (b :: r)
    rw [riseR, Bool.and_eq_true, ih, asc_cons (x := a)]
    constructor
    · rintro ⟨h1, h2⟩
      refine ⟨fun y hy => ?_, h2⟩
      rcases List.mem_cons.1 hy with rfl | hy
      · exact h1
      · exact bef_trans h1 ((asc_cons.1 h2).1 y hy)
    · rintro ⟨h1, h2⟩
      exact ⟨h1 b List.mem_cons_self, h2⟩
theorem asc_key {α : Type} {k : α → RW} : ∀ {l : List α}, Asc k l → ∀ x ∈ l, ∀ y ∈ l, keyR (k x) (k y) → x = y
  | a :: l, h, x, hx, y, hy, e => by
    rw [asc_cons] at h
    rcases List.mem_cons.1 hx with q | q
    · rcases List.mem_cons.1 hy with q' | q'
      · rw [q, q']
      · have := h.1 y q'; rw [← q, key_bef e] at this; cases this
    · rcases List.mem_cons.1 hy with q' | q'
      · have := h.1 x q; rw [← q', key_bef (key_symm e)] at this; cases this
      · exact asc_key h.2 x q y q' e
theorem asc_ext {α : Type} {k : α → RW} : ∀ {x y : List α}, Asc k x → Asc k y → (∀ c, c ∈ x ↔ c ∈ y) → x = y
  | [], [], _, _, _ => rfl
  | [], b :: y, _, _, h => by have := (h b).2 List.mem_cons_self; simp at this
  | a :: x, [], _, _, h => by have := (h a).1 List.mem_cons_self; simp at this
  | a :: x, b :: y, hx, hy, h => by
    rw [asc_cons] at hx hy
    have e : a = b := by
      rcases List.mem_cons.1 ((h a).1 List.mem_cons_self) with q | q
      · exact q
      · rcases List.mem_cons.1 ((h b).2 List.mem_cons_self) with q' | q'
        · exact q'.symm
        · have h1 := hy.1 a q
          have h2 := hx.1 b q'
          rw [bef_asymm h1] at h2; cases h2
    subst e
    refine congrArg _ (asc_ext hx.2 hy.2 fun c => ?_)
    constructor
    · intro hc
      rcases List.mem_cons.1 ((h c).1 (List.mem_cons_of_mem _ hc)) with q | q
      · subst q; have := hx.1 c hc; rw [bef_irrefl] at this; cases this
      · exact q
    · intro hc
      rcases List.mem_cons.1 ((h c).2 (List.mem_cons_of_mem _ hc)) with q | q
      · subst q; have := hy.1 c hc; rw [bef_irrefl] at this; cases this
      · exact q
/-! ### one more, in its place -/
def insK {α : Type} (k : α → RW) (c : α) (l : List α) : List α := l.takeWhile (fun d => befR (k d) (k c)) ++ c :: l.dropWhile (fun d => befR (k d) (k c))
theorem insK_mem {α : Type} {k : α → RW} {c : α} {l : List α} (d : α) : d ∈ insK k c l ↔ d = c ∨ d ∈ l := by
  have := List.takeWhile_append_dropWhile (p := fun d => befR (k d) (k c)) (l := l)
  constructor
  · intro h
    rcases List.mem_append.1 h with h | h
    · exact .inr (List.takeWhile_prefix _ |>.subset h)
    · rcases List.mem_cons.1 h with h | h
      · exact .inl h
      · exact .inr (List.dropWhile_suffix _ |>.subset h)
  · rintro (rfl | h)
    · exact List.mem_append_right _ List.mem_cons_self
    · rw [← this] at h
      rcases List.mem_append.1 h with h | h
      · exact List.mem_append_left _ h
      · exact List.mem_append_right _ (List.mem_cons_of_mem _ h)
theorem insK_len {α : Type} {k : α → RW} {c : α} {l : List α} : (insK k c l).length = l.length + 1 := by
  have := congrArg List.length (List.takeWhile_append_dropWhile (p := fun d => befR (k d) (k c)) (l := l))
  simp only [List.length_append] at this
  simp only [insK, List.length_append, List.length_cons]; omega
theorem insK_asc {α : Type} {k : α → RW} {c : α} : ∀ {l : List α}, Asc k l → (∀ d ∈ l, ¬ keyR (k d) (k c)) → Asc k (insK k c l)
  | [], _, _ => List.pairwise_singleton _ _
  | a :: l, h, hk => by
    rw [asc_cons] at h
    unfold insK
    cases hb : befR (k a) (k c) with
    | true =>
      have ih := insK_asc h.2 (fun d hd => hk d (List.mem_cons_of_mem _ hd))
      rw [List.takeWhile_cons_of_pos (by simpa using hb), List.dropWhile_cons_of_pos (by simpa using hb), List.cons_append, asc_cons]
      refine ⟨fun y hy => ?_, ih⟩
      rcases (insK_mem (l := l) y).1 hy with rfl | hy
      · exact hb
      · exact h.1 y hy
    | false =>
      rw [List.takeWhile_cons_of_neg (by simp [hb]), List.dropWhile_cons_of_neg (by simp [hb]), List.nil_append, asc_cons, asc_cons]
      have hca : befR (k c) (k a) = true := by
        cases q : befR (k c) (k a) with
        | true => rfl
        | false => exact absurd (bef_total hb q) (hk a List.mem_cons_self)
      refine ⟨fun y hy => ?_, h⟩
      rcases List.mem_cons.1 hy with rfl | hy
      · exact hca
      · exact bef_trans hca (h.1 y hy)
/-! ### the program's changes: in order, and which they are -/
theorem key_gone (r : RW) : (goneC r).1.1 = r.1 ∧ (goneC r).1.2.1 = r.2.1 := ⟨rfl, rfl⟩
theorem bef_gone (r s : RW) : befR (goneC r).1 s = befR r s := rfl
theorem bef_gone' (r s : RW) : befR s (goneC r).1 = befR s r := rfl
/-- what goes, or comes, or is another one -/
def Chg (a b : List RW) (c : CH) : Prop := (∃ x ∈ a, (∀ y ∈ b, ¬ keyR y x) ∧ c = goneC x) ∨ (∃ y ∈ b, (∀ x ∈ a, keyR x y → x.2.2.1 ≠ y.2.2.1) ∧ c = upC y)
theorem row_val {x y : RW} (h : keyR x y) : x.2.2.1 = y.2.2.1 ↔ x = y := by
  obtain ⟨a, b, c, ⟨⟩⟩ := x
  obtain ⟨a', b', c', ⟨⟩⟩ := y
  obtain ⟨h1, h2⟩ := h
  simp only at h1 h2
  subst h1; subst h2
  simp
theorem of_mem : ∀ (m : Nat) (a b : List RW), a.length + b.length ≤ m → Asc id a → Asc id b → ∀ c, c ∈ ofR a b ↔ Chg a b c := by
  intro m
  induction m with
  | zero =>
    intro a b h _ _ c
    have ha : a = [] := List.length_eq_zero_iff.1 (by omega)
    have hb' : b = [] := List.length_eq_zero_iff.1 (by omega)
    subst ha; subst hb'
    rw [of_nn]; simp [Chg]
  | succ m ih =>
    intro a b h ha hb c
    cases a with
    | nil =>
      cases b with
      | nil => rw [of_nn]; simp [Chg]
      | cons y b =>
        have hb2 := (asc_cons.1 hb).2
        have i1 := ih [] b (by simp at h ⊢; omega) ha hb2 c
        rw [of_nc, List.mem_cons, i1]
        simp [Chg]
    | cons x a =>
      have ha1 := (asc_cons.1 ha).1
      have ha2 := (asc_cons.1 ha).2
      cases b with
      | nil =>
        have i1 := ih a [] (by simp at h ⊢; omega) ha2 hb c
        rw [of_cn, List.mem_cons, i1]
        simp [Chg]
      | cons y b =>
        have hb1 := (asc_cons.1 hb).1
        have hb2 := (asc_cons.1 hb).2
        have i1 := ih a (y :: b) (by simp at h ⊢; omega) ha2 hb c
        have i2 := ih (x :: a) b (by simp at h ⊢; omega) ha hb2 c
        have i3 := ih a b (by simp at h ⊢; omega) ha2 hb2 c
        rw [of_cc]
        cases c1 : befR x y with
        | true =>
          have hno : ∀ z ∈ y :: b, ¬ keyR z x := by
            intro z hz hk
            have : befR x z = true := by
              rcases List.mem_cons.1 hz with rfl | hz
              · exact c1
              · exact bef_trans c1 (hb1 z hz)
            rw [key_bef (key_symm hk)] at this; cases this
          rw [cond_true, List.mem_cons, i1]
          constructor
          · rintro (rfl | ⟨u, hu, h1, h2⟩ | ⟨v, hv, h1, h2⟩)
            · exact .inl ⟨x, List.mem_cons_self, hno, rfl⟩
            · exact .inl ⟨u, List.mem_cons_of_mem _ hu, h1, h2⟩
            · refine .inr ⟨v, hv, fun u hu hk => ?_, h2⟩
              rcases List.mem_cons.1 hu with rfl | hu
              · exact absurd (key_symm hk) (hno v hv)
              · exact h1 u hu hk
          · rintro (⟨u, hu, h1, h2⟩ | ⟨v, hv, h1, h2⟩)
            · rcases List.mem_cons.1 hu with rfl | hu
              · exact .inl h2
              · exact .inr (.inl ⟨u, hu, h1, h2⟩)
            · exact .inr (.inr ⟨v, hv, fun u hu hk => h1 u (List.mem_cons_of_mem _ hu) hk, h2⟩)
        | false =>
          rw [cond_false]
          cases c2 : befR y x with
          | true =>
            have hno : ∀ z ∈ x :: a, ¬ keyR z y := by
              intro z hz hk
              have : befR y z = true := by
                rcases List.mem_cons.1 hz with rfl | hz
                · exact c2
                · exact bef_trans c2 (ha1 z hz)
              rw [key_bef (key_symm hk)] at this; cases this
            rw [cond_true, List.mem_cons, i2]
            constructor
            · rintro (rfl | ⟨u, hu, h1, h2⟩ | ⟨v, hv, h1, h2⟩)
              · exact .inr ⟨y, List.mem_cons_self, fun u hu hk => absurd hk (hno u hu), rfl⟩
              · refine .inl ⟨u, hu, fun z hz hk => ?_, h2⟩
                rcases List.mem_cons.1 hz with rfl | hz
                · exact hno u hu (key_symm hk)
                · exact h1 z hz hk
              · exact .inr ⟨v, List.mem_cons_of_mem _ hv, h1, h2⟩
            · rintro (⟨u, hu, h1, h2⟩ | ⟨v, hv, h1, h2⟩)
              · exact .inr (.inl ⟨u, hu, fun z hz hk => h1 z (List.mem_cons_of_mem _ hz) hk, h2⟩)
              · rcases List.mem_cons.1 hv with rfl | hv
                · exact .inl h2
                · exact .inr (.inr ⟨v, hv, h1, h2⟩)
          | false =>
            rw [cond_false]
            have hk := bef_total c1 c2
            have hna : ∀ z ∈ a, ¬ keyR z y := by
              intro z hz h'
              have := ha1 z hz
              rw [show befR (id x) (id z) = befR x z from rfl, key_bef (key_trans hk (key_symm h'))] at this; cases this
            have hnb : ∀ z ∈ b, ¬ keyR z x := by
              intro z hz h'
              have := hb1 z hz
              rw [show befR (id y) (id z) = befR y z from rfl, key_bef (key_trans (key_symm hk) (key_symm h'))] at this; cases this
            have core : Chg (x :: a) (y :: b) c ↔ (x.2.2.1 ≠ y.2.2.1 ∧ c = upC y) ∨ Chg a b c := by
              constructor
              · rintro (⟨u, hu, h1, h2⟩ | ⟨v, hv, h1, h2⟩)
                · rcases List.mem_cons.1 hu with rfl | hu
                  · exact absurd (key_symm hk) (h1 y List.mem_cons_self)
                  · exact .inr (.inl ⟨u, hu, fun z hz => h1 z (List.mem_cons_of_mem _ hz), h2⟩)
                · rcases List.mem_cons.1 hv with rfl | hv
                  · exact .inl ⟨h1 x List.mem_cons_self hk, h2⟩
                  · exact .inr (.inr ⟨v, hv, fun u hu => h1 u (List.mem_cons_of_mem _ hu), h2⟩)
              · rintro (⟨h1, h2⟩ | ⟨u, hu, h1, h2⟩ | ⟨v, hv, h1, h2⟩)
                · refine .inr ⟨y, List.mem_cons_self, fun u hu hk' => ?_, h2⟩
                  rcases List.mem_cons.1 hu with rfl | hu
                  · exact h1
                  · exact absurd hk' (hna u hu)
                · refine .inl ⟨u, List.mem_cons_of_mem _ hu, fun z hz hk' => ?_, h2⟩
                  rcases List.mem_cons.1 hz with rfl | hz
                  · exact hna u hu (key_symm hk')
                  · exact h1 z hz hk'
                · refine .inr ⟨v, List.mem_cons_of_mem _ hv, fun u hu hk' => ?_, h2⟩
                  rcases List.mem_cons.1 hu with rfl | hu
                  · exact absurd (key_symm hk') (hnb v hv)
                  · exact h1 u hu hk'
            rw [core]
            by_cases e : x = y
            · rw [eqb_t e, cond_true, i3]
              constructor
              · exact .inr
              · rintro (⟨h1, _⟩ | h1)
                · exact absurd (by rw [e]) h1
                · exact h1
            · rw [eqb_f e, cond_false, List.mem_cons, i3]
              have hv : x.2.2.1 ≠ y.2.2.1 := fun q => e ((row_val hk).1 q)
              constructor
              · rintro (h1 | h1)
                · exact .inl ⟨hv, h1⟩
                · exact .inr h1
              · rintro (⟨_, h1⟩ | h1)
                · exact .inl h1
                · exact .inr h1
theorem of_asc : ∀ (m : Nat) (a b : List RW), a.length + b.length ≤ m → Asc id a → Asc id b → Asc (fun c : CH => c.1) (ofR a b) := by
  intro m
  induction m with
  | zero =>
    intro a b h _ _
    have ha : a = [] := List.length_eq_zero_iff.1 (by omega)
    have hb' : b = [] := List.length_eq_zero_iff.1 (by omega)
    subst ha; subst hb'
    rw [of_nn]; exact List.Pairwise.nil
  | succ m ih =>
    intro a b h ha hb
    have big : ∀ (r : RW) (a' b' : List RW), a'.length + b'.length ≤ m → Asc id a' → Asc id b' → (∀ z ∈ a', befR r z = true) → (∀ z ∈ b', befR r z = true) → ∀ y ∈ ofR a' b', befR r y.1 = true := by
      intro r a' b' hm h1 h2 h3 h4 y hy
      rcases (of_mem m a' b' hm h1 h2 y).1 hy with ⟨u, hu, _, rfl⟩ | ⟨v, hv, _, rfl⟩
      · exact h3 u hu
      · exact h4 v hv
    cases a with
    | nil =>
      cases b with
      | nil => rw [of_nn]; exact List.Pairwise.nil
      | cons y b =>
        have hb' := asc_cons.1 hb
        rw [of_nc, asc_cons]
        exact ⟨big y [] b (by simp at h ⊢; omega) ha hb'.2 (fun z hz => by simp at hz) hb'.1, ih [] b (by simp at h ⊢; omega) ha hb'.2⟩
    | cons x a =>
      have ha' := asc_cons.1 ha
      cases b with
      | nil =>
        rw [of_cn, asc_cons]
        exact ⟨big x a [] (by simp at h ⊢; omega) ha'.2 hb ha'.1 (fun z hz => by simp at hz), ih a [] (by simp at h ⊢; omega) ha'.2 hb⟩
      | cons y b =>
        have hb' := asc_cons.1 hb
        rw [of_cc]
        cases c1 : befR x y with
        | true =>
          rw [cond_true, asc_cons]
          refine ⟨big x a (y :: b) (by simp at h ⊢; omega) ha'.2 hb ha'.1 (fun z hz => ?_), ih a (y :: b) (by simp at h ⊢; omega) ha'.2 hb⟩
          rcases List.mem_cons.1 hz with rfl | hz
          · exact c1
          · exact bef_trans c1 (hb'.1 z hz)
        | false =>
          rw [cond_false]
          cases c2 : befR y x with
          | true =>
            rw [cond_true, asc_cons]
            refine ⟨big y (x :: a) b (by simp at h ⊢; omega) ha hb'.2 (fun z hz => ?_) hb'.1, ih (x :: a) b (by simp at h ⊢; omega) ha hb'.2⟩
            rcases List.mem_cons.1 hz with rfl | hz
            · exact c2
            · exact bef_trans c2 (ha'.1 z hz)
          | false =>
            rw [cond_false]
            have hk := bef_total c1 c2
            cases eqb x y with
            | true => rw [cond_true]; exact ih a b (by simp at h ⊢; omega) ha'.2 hb'.2
            | false =>
              rw [cond_false, asc_cons]
              exact ⟨big y a b (by simp at h ⊢; omega) ha'.2 hb'.2 (fun z hz => by rw [← key_bef_l hk]; exact ha'.1 z hz) hb'.1, ih a b (by simp at h ⊢; omega) ha'.2 hb'.2⟩
end Go.Proofs.YteaadaaghhojfaaGreatDoorE
end
section
namespace Go.Proofs.YteaadaaghhojfaaGreatDoorE
open Go Go.Proofs
set_option linter.unusedVariables false
set_option linter.unusedSimpArgs false
def kB (r x : RW) : Bool := decide (x.1 = r.1) && decide (x.2.1 = r.2.1)
theorem kB_iff {r x : RW} : kB r x = true ↔ keyR x r := by simp [kB, keyR]
def fpos (l : List RW) (r : RW) : Int := match l.findIdx? (kB r) with | some q => (q : Int) | none => -1
theorem r09_find_v {n : Nat} (hn : Big n) (l : List RW) (r : RW) (hl : l.length ≤ 1000000) : r09_find n (l, r, ()) = some ((fpos l r, ()), ((), (), ())) := by
  have hL := find_loop (a := l) (kB r) (L := fun g i => r09_find_l0 n g (l, r, i, ())) (fun g => by simp [r09_find_l0, ilen]) (fun g i hi => by
    have k : (i : Int) < (l.length : Int) := by omega
    have k1 : (0 : Int) ≤ i := by omega
    simp only [r09_find_l0, ilt_eq, ile_eq, ieq_eq, seq_eq, ilen, k, k1, decide_true, cond_true, lat_eq, iN, Int.toNat_natCast, List.getElem?_eq_getElem hi, bindN_s, iadd1 (i := i) (by omega), bindL_id, kB]
    cases decide (l[i].1 = r.1) <;> cases decide (l[i].2.1 = r.2.1) <;> rfl) (g := n) (by unfold Big at hn; omega)
  unfold r09_find fpos
  simp only [hL]
  cases l.findIdx? (kB r) <;> simp
theorem fpos_neg {l : List RW} {r : RW} : fpos l r < 0 ↔ ∀ x ∈ l, ¬ keyR x r := by
  unfold fpos
  cases h : l.findIdx? (kB r) with
  | none =>
    have := List.findIdx?_eq_none_iff.1 h
    simp only [Int.reduceNeg, Int.reduceLT, true_iff]
    intro x hx hk
    have h2 := this x hx
    rw [kB_iff.2 hk] at h2; cases h2
  | some q =>
    obtain ⟨hq, h1, _⟩ := List.findIdx?_eq_some_iff_getElem.1 h
    constructor
    · intro h'
      have h' : (q : Int) < 0 := h'
      omega
    · intro h'; exact absurd (kB_iff.1 h1) (h' _ (List.getElem_mem hq))
theorem fpos_pos {l : List RW} {r : RW} (h : ¬ fpos l r < 0) : ∃ (q : Nat) (hq : q < l.length), fpos l r = (q : Int) ∧ keyR l[q] r := by
  unfold fpos at h ⊢
  cases h' : l.findIdx? (kB r) with
  | none => rw [h'] at h; simp at h
  | some q =>
    obtain ⟨hq, h1, _⟩ := List.findIdx?_eq_some_iff_getElem.1 h'
    exact ⟨q, hq, rfl, kB_iff.1 h1⟩
/-- how many stand ahead -/
def plK {α : Type} (k : α → RW) (c : RW) (l : List α) : Nat := (l.takeWhile fun d => befR (k d) c).length
theorem plK_t {α : Type} {k : α → RW} {c : RW} {a : α} {l : List α} (h : befR (k a) c = true) : plK k c (a :: l) = plK k c l + 1 := by simp [plK, h]
theorem plK_f {α : Type} {k : α → RW} {c : RW} {a : α} {l : List α} (h : befR (k a) c = false) : plK k c (a :: l) = 0 := by simp [plK, h]
theorem plK_le {α : Type} {k : α → RW} {c : RW} {l : List α} : plK k c l ≤ l.length := (List.takeWhile_prefix _).length_le
theorem take_tw {α : Type} (p : α → Bool) : ∀ l : List α, l.take (l.takeWhile p).length = l.takeWhile p
  | [] => rfl
  | a :: l => by cases h : p a <;> simp [h, take_tw p l]
theorem drop_tw {α : Type} (p : α → Bool) : ∀ l : List α, l.drop (l.takeWhile p).length = l.dropWhile p
  | [] => rfl
  | a :: l => by cases h : p a <;> simp [h, drop_tw p l]
theorem insK_pl {α : Type} {k : α → RW} {c : α} {l : List α} : insK k c l = l.take (plK k (k c) l) ++ c :: l.drop (plK k (k c) l) := by
  unfold insK plK; rw [take_tw, drop_tw]
theorem into_l0 {n : Nat} (c : CH) : ∀ (d j g : Nat) (acc : List CH), j + d = acc.length → acc.length ≤ 1000000 → d < g →
    r09_into_l0 n g (acc, c, (j : Int), ()) = some (.inl (acc, c, ((j + plK (fun d : CH => d.1) c.1 (acc.drop j) : Nat) : Int), ()))
  | 0, j, g, acc, hd, ha, hg => by
    obtain ⟨g, rfl⟩ : ∃ g', g = g' + 1 := ⟨g - 1, by omega⟩
    have k : ¬ (j : Int) < (acc.length : Int) := by omega
    rw [List.drop_of_length_le (by omega)]
    simp only [r09_into_l0, ilt_eq, ilen, k, decide_false, cond_false]
    rfl
  | d + 1, j, g, acc, hd, ha, hg => by
    obtain ⟨g, rfl⟩ : ∃ g', g = g' + 1 := ⟨g - 1, by omega⟩
    have hj : j < acc.length := by omega
    have k : (j : Int) < (acc.length : Int) := by omega
    have k0 : (0 : Int) ≤ j := by omega
    rw [drop_cons acc j hj]
    have ih := into_l0 (n := n) c d (j + 1) g acc (by omega) ha (by omega)
    simp only [r09_into_l0, ilt_eq, ile_eq, ilen, k, k0, decide_true, cond_true, lat_eq, iN, Int.toNat_natCast, List.getElem?_eq_getElem hj, bindN_s, r08_Before_v, iadd1 (i := j) (by omega), bindL_id2, ih]
    cases h : befR (acc[j]).1 c.1 with
    | true =>
      rw [plK_t (k := fun d : CH => d.1) h, show j + (plK (fun d : CH => d.1) c.1 (acc.drop (j + 1)) + 1) = j + 1 + plK (fun d : CH => d.1) c.1 (acc.drop (j + 1)) by omega]
      rfl
    | false =>
      rw [plK_f (k := fun d : CH => d.1) h]
      rfl
theorem r09_into_v {n : Nat} (hn : Big n) (l : List CH) (c : CH) (hl : l.length ≤ 1000000) : r09_into n (l, c, ()) = some ((insK (fun d : CH => d.1) c l, ()), ((), (), ())) := by
  have h2 := into_l0 (n := n) c l.length 0 n l (by omega) hl (by unfold Big at hn; omega)
  rw [List.drop_zero, Nat.zero_add, show ((0 : Nat) : Int) = 0 from rfl] at h2
  have hpl := plK_le (k := fun d : CH => d.1) (c := c.1) (l := l)
  rw [insK_pl]
  generalize plK (fun d : CH => d.1) c.1 l = q at h2 hpl
  have k2 : (0 : Int) ≤ q := by omega
  have k3 : (q : Int) ≤ (l.length : Int) := by omega
  have e0 : ((l.length : Int).toNat - q) = l.length - q := by omega
  have r1 : room (l.length - q) 48 = true := room_of (by omega)
  have r2 : room (q + 1) 48 = true := room_of (by omega)
  have r3 : room (q + 1 + (l.length - q)) 48 = true := room_of (by omega)
  have e1 : (l.drop q).take (l.length - q) = l.drop q := List.take_of_length_le (by simp)
  have e2 : min q l.length = q := by omega
  simp [r09_into, h2, ilen, app, k2, k3, roomA, e0, e1, e2, r1, r2, r3]
/-! ### the document's changes -/
def goStep (b : List RW) (acc : List CH) (x : RW) : List CH := bif decide (fpos b x < 0) then insK (fun d : CH => d.1) (goneC x) acc else acc
def difB (a : List RW) (y : RW) : Bool := match a.findIdx? (kB y) with | some q => (match a[q]? with | some x => !(decide (x.2.2.1.1 = y.2.2.1.1) && decide (x.2.2.1.2.1 = y.2.2.1.2.1)) | none => false) | none => true
def upStep (a : List RW) (acc : List CH) (y : RW) : List CH := bif difB a y then insK (fun d : CH => d.1) (upC y) acc else acc
theorem of_first {n : Nat} (hn : Big n) (a b : List RW) (ha : a.length ≤ 100000) (hb : b.length ≤ 100000) : ∀ (d i g : Nat) (acc : List CH), i + d = a.length → acc.length ≤ i → d < g →
    r09_Of_l0 n g (a, b, acc, (i : Int), ()) = some (.inl (a, b, (a.drop i).foldl (goStep b) acc, ()))
  | 0, i, g, acc, hd, hc, hg => by
    obtain ⟨g, rfl⟩ : ∃ g', g = g' + 1 := ⟨g - 1, by omega⟩
    have k : ¬ (i : Int) < (a.length : Int) := by omega
    rw [List.drop_of_length_le (by omega)]
    simp [r09_Of_l0, ilen, k]
  | d + 1, i, g, acc, hd, hc, hg => by
    obtain ⟨g, rfl⟩ : ∃ g', g = g' + 1 := ⟨g - 1, by omega⟩
    have hi : i < a.length := by omega
    have k : (i : Int) < (a.length : Int) := by omega
    have k0 : (0 : Int) ≤ i := by omega
    have hf := r09_find_v hn b a[i] (by omega)
    have hin := r09_into_v hn acc (goneC a[i]) (by omega)
    unfold goneC at hin
    have ih1 := of_first hn a b ha hb d (i + 1) g (insK (fun d : CH => d.1) (goneC a[i]) acc) (by omega) (by rw [insK_len]; omega) (by omega)
    have ih2 := of_first hn a b ha hb d (i + 1) g acc (by omega) (by omega) (by omega)
    unfold goneC at ih1
    rw [drop_cons a i hi, List.foldl_cons]
    simp only [r09_Of_l0, ilt_eq, ile_eq, ilen, k, k0, decide_true, cond_true, lat_eq, iN, Int.toNat_natCast, List.getElem?_eq_getElem hi, bindN_s, hf, hin, iadd1 (i := i) (by omega), bindL_id2, ih1, ih2, goStep, goneC]
    cases decide (fpos b a[i] < 0) <;> rfl
theorem of_second {n : Nat} (hn : Big n) (a b : List RW) (ha : a.length ≤ 100000) (hb : b.length ≤ 100000) : ∀ (d i g : Nat) (acc : List CH), i + d = b.length → acc.length ≤ a.length + i → d < g →
    r09_Of_l1 n g (a, b, acc, (i : Int), ()) = some (.inl ((b.drop i).foldl (upStep a) acc, ()))
  | 0, i, g, acc, hd, hc, hg => by
    obtain ⟨g, rfl⟩ : ∃ g', g = g' + 1 := ⟨g - 1, by omega⟩
    have k : ¬ (i : Int) < (b.length : Int) := by omega
    rw [List.drop_of_length_le (by omega)]
    simp [r09_Of_l1, ilen, k]
  | d + 1, i, g, acc, hd, hc, hg => by
    obtain ⟨g, rfl⟩ : ∃ g', g = g' + 1 := ⟨g - 1, by omega⟩
    have hi : i < b.length := by omega
    have k : (i : Int) < (b.length : Int) := by omega
    have k0 : (0 : Int) ≤ i := by omega
    have hf := r09_find_v hn a b[i] (by omega)
    have hin := r09_into_v hn acc (upC b[i]) (by omega)
    unfold upC at hin
    have ih1 := of_second hn a b ha hb d (i + 1) g (insK (fun d : CH => d.1) (upC b[i]) acc) (by omega) (by rw [insK_len]; omega) (by omega)
    have ih2 := of_second hn a b ha hb d (i + 1) g acc (by omega) (by omega) (by omega)
    unfold upC at ih1
    rw [drop_cons b i hi, List.foldl_cons]
    unfold fpos at hf
    cases hx : a.findIdx? (kB b[i]) with
    | none =>
      rw [hx] at hf
      have : difB a b[i] = true := by unfold difB; rw [hx]
      simp only [r09_Of_l1, ilt_eq, ile_eq, ilen, k, k0, decide_true, cond_true, lat_eq, iN, Int.toNat_natCast, List.getElem?_eq_getElem hi, bindN_s, hf, hin, iadd1 (i := i) (by omega), bindL_id2, ih1, upStep, this, Int.reduceNeg, Int.reduceLT, upC]
    | some q =>
      rw [hx] at hf
      obtain ⟨hq, _, _⟩ := List.findIdx?_eq_some_iff_getElem.1 hx
      have k1 : ¬ (q : Int) < 0 := by omega
      have k2 : (0 : Int) ≤ q := by omega
      have : difB a b[i] = !(decide (a[q].2.2.1.1 = b[i].2.2.1.1) && decide (a[q].2.2.1.2.1 = b[i].2.2.1.2.1)) := by unfold difB; rw [hx]; simp only [List.getElem?_eq_getElem hq]
      simp only [r09_Of_l1, ilt_eq, ile_eq, ieq_eq, beqB_eq, ilen, k, k0, k1, k2, decide_true, decide_false, cond_true, cond_false, lat_eq, iN, Int.toNat_natCast, List.getElem?_eq_getElem hi, List.getElem?_eq_getElem hq, bindN_s, hf, hin, iadd1 (i := i) (by omega), bindL_id2, ih1, ih2, upStep, this, Bool.and_true, upC]
      cases decide (a[q].2.2.1.1 = b[i].2.2.1.1) <;> cases decide (a[q].2.2.1.2.1 = b[i].2.2.1.2.1) <;> rfl
def ofD (a b : List RW) : List CH := b.foldl (upStep a) (a.foldl (goStep b) [])
theorem go_len (b : List RW) : ∀ (a : List RW) (acc : List CH), (a.foldl (goStep b) acc).length ≤ acc.length + a.length
  | [], acc => by simp
  | x :: a, acc => by
    have h1 := go_len b a (goStep b acc x)
    have h2 : (goStep b acc x).length ≤ acc.length + 1 := by
      unfold goStep; cases decide (fpos b x < 0)
      · simp
      · rw [cond_true, insK_len]; omega
    rw [List.foldl_cons, List.length_cons]; omega
theorem r09_Of_v {n : Nat} (hn : Big n) (a b : List RW) (ha : FitR a) (hb : FitR b) : r09_Of n (a, b, ()) = some ((bif rightR a && rightR b then (ofD a b, (0 : Int), ()) else ([], (9 : Int), ())), ((), (), ())) := by
  have h1 := of_first hn a b ha.1 hb.1 a.length 0 n [] (by omega) (by simp) (by have := ha.1; unfold Big at hn; omega)
  have hg := go_len b a []
  have h2 := of_second hn a b ha.1 hb.1 b.length 0 n (a.foldl (goStep b) []) (by omega) (by simpa using hg) (by have := hb.1; unfold Big at hn; omega)
  rw [List.drop_zero, show ((0 : Nat) : Int) = 0 from rfl] at h1 h2
  simp only [r09_Of, r08_Right_v hn a ha, r08_Right_v hn b hb, bindN_s, h1, h2, bindL_inl]
  cases rightR a <;> cases rightR b <;> simp [ofD]
/-! ### both are the same -/
theorem fold_ins {α : Type} (P : α → Bool) (f : α → CH) (S : List CH → α → List CH) (hS : ∀ acc x, S acc x = bif P x then insK (fun d : CH => d.1) (f x) acc else acc) : ∀ (xs : List α) (acc : List CH),
    (∀ d, d ∈ xs.foldl S acc ↔ d ∈ acc ∨ ∃ x ∈ xs, P x = true ∧ d = f x) ∧
    (Asc (fun d : CH => d.1) acc → xs.Pairwise (fun x y => ¬ keyR (f x).1 (f y).1) → (∀ x ∈ xs, P x = true → ∀ d ∈ acc, ¬ keyR d.1 (f x).1) → Asc (fun d : CH => d.1) (xs.foldl S acc))
  | [], acc => ⟨fun d => by simp, fun h _ _ => h⟩
  | x :: xs, acc => by
    obtain ⟨h1, h2⟩ := fold_ins P f S hS xs (S acc x)
    rw [List.foldl_cons]
    constructor
    · intro d
      rw [h1, hS]
      cases hp : P x with
      | true =>
        rw [cond_true, insK_mem]
        constructor
        · rintro ((h | h) | ⟨y, hy, h⟩)
          · exact .inr ⟨x, List.mem_cons_self, hp, h⟩
          · exact .inl h
          · exact .inr ⟨y, List.mem_cons_of_mem _ hy, h⟩
        · rintro (h | ⟨y, hy, h⟩)
          · exact .inl (.inr h)
          · rcases List.mem_cons.1 hy with rfl | hy
            · exact .inl (.inl h.2)
            · exact .inr ⟨y, hy, h⟩
      | false =>
        rw [cond_false]
        constructor
        · rintro (h | ⟨y, hy, h⟩)
          · exact .inl h
          · exact .inr ⟨y, List.mem_cons_of_mem _ hy, h⟩
        · rintro (h | ⟨y, hy, h⟩)
          · exact .inl h
          · rcases List.mem_cons.1 hy with rfl | hy
            · rw [hp] at h; cases h.1
            · exact .inr ⟨y, hy, h⟩
    · intro ha hpw hk
      rw [List.pairwise_cons] at hpw
      refine h2 ?_ hpw.2 ?_
      · rw [hS]
        cases hp : P x with
        | true => exact insK_asc ha (fun d hd => hk x List.mem_cons_self hp d hd)
        | false => exact ha
      · intro y hy hpy d hd
        rw [hS] at hd
        cases hp : P x with
        | true =>
          rw [hp, cond_true, insK_mem] at hd
          rcases hd with rfl | hd
          · exact hpw.1 y hy
          · exact hk y (List.mem_cons_of_mem _ hy) hpy d hd
        | false =>
          rw [hp, cond_false] at hd
          exact hk y (List.mem_cons_of_mem _ hy) hpy d hd
theorem dif_iff {a : List RW} (ha : Asc id a) (y : RW) : difB a y = true ↔ ∀ x ∈ a, keyR x y → x.2.2.1 ≠ y.2.2.1 := by
  unfold difB
  cases h : a.findIdx? (kB y) with
  | none =>
    have := List.findIdx?_eq_none_iff.1 h
    simp only [true_iff]
    intro x hx hk
    have h2 := this x hx
    rw [kB_iff.2 hk] at h2; cases h2
  | some q =>
    obtain ⟨hq, h1, _⟩ := List.findIdx?_eq_some_iff_getElem.1 h
    simp only [List.getElem?_eq_getElem hq]
    have hk := kB_iff.1 h1
    have e : (!(decide (a[q].2.2.1.1 = y.2.2.1.1) && decide (a[q].2.2.1.2.1 = y.2.2.1.2.1))) = true ↔ a[q].2.2.1 ≠ y.2.2.1 := by
      generalize a[q].2.2.1 = u
      generalize y.2.2.1 = v
      obtain ⟨u1, u2, ⟨⟩⟩ := u
      obtain ⟨v1, v2, ⟨⟩⟩ := v
      by_cases q1 : u1 = v1 <;> simp [q1]
    rw [e]
    constructor
    · intro h' x hx hkx
      have : x = a[q] := asc_key ha x hx a[q] (List.getElem_mem hq) (key_trans hkx (key_symm hk))
      rw [this]; exact h'
    · intro h'
      exact h' _ (List.getElem_mem hq) hk
theorem asc_keys {l : List RW} (h : Asc id l) : l.Pairwise (fun x y => ¬ keyR x y) := by
  refine List.Pairwise.imp ?_ h
  intro x y hb hk
  rw [show befR (id x) (id y) = befR x y from rfl, key_bef hk] at hb; cases hb
theorem ofD_eq {a b : List RW} (ha : Asc id a) (hb : Asc id b) : ofD a b = ofR a b := by
  obtain ⟨g1, g2⟩ := fold_ins (fun x => decide (fpos b x < 0)) goneC (goStep b) (fun _ _ => rfl) a []
  obtain ⟨u1, u2⟩ := fold_ins (difB a) upC (upStep a) (fun _ _ => rfl) b (a.foldl (goStep b) [])
  have hg : Asc (fun d : CH => d.1) (a.foldl (goStep b) []) := g2 List.Pairwise.nil (asc_keys ha) (fun x _ _ d hd => by simp at hd)
  have hu : Asc (fun d : CH => d.1) (ofD a b) := u2 hg (asc_keys hb) (fun y hy _ d hd hk => by
    rcases (g1 d).1 hd with h | ⟨x, hx, hp, rfl⟩
    · simp at h
    · exact (fpos_neg.1 (of_decide_eq_true hp)) y hy ⟨hk.1.symm, hk.2.symm⟩)
  refine asc_ext hu (of_asc _ a b (Nat.le_refl _) ha hb) fun c => ?_
  rw [of_mem _ a b (Nat.le_refl _) ha hb c]
  unfold ofD
  rw [u1, g1]
  unfold Chg
  constructor
  · rintro ((h | ⟨x, hx, hp, h⟩) | ⟨y, hy, hp, h⟩)
    · simp at h
    · exact .inl ⟨x, hx, fpos_neg.1 (of_decide_eq_true hp), h⟩
    · exact .inr ⟨y, hy, (dif_iff ha y).1 hp, h⟩
  · rintro (⟨x, hx, hp, h⟩ | ⟨y, hy, hp, h⟩)
    · exact .inl (.inr ⟨x, hx, decide_eq_true (fpos_neg.2 hp), h⟩)
    · exact .inr ⟨y, hy, (dif_iff ha y).2 hp, h⟩
theorem right_asc {l : List RW} (h : rightR l = true) : Asc id l := by
  unfold rightR at h
  rw [Bool.and_eq_true] at h
  exact (rise_asc l).1 h.2
theorem r09_Of_v' {n : Nat} (hn : Big n) (a b : List RW) (ha : FitR a) (hb : FitR b) : r09_Of n (a, b, ()) = some ((bif rightR a && rightR b then (ofR a b, (0 : Int), ()) else ([], (9 : Int), ())), ((), (), ())) := by
  rw [r09_Of_v hn a b ha hb]
  cases h1 : rightR a <;> cases h2 : rightR b <;> simp
  rw [ofD_eq (right_asc h1) (right_asc h2)]
end Go.Proofs.YteaadaaghhojfaaGreatDoorE
end
section
namespace Go.Proofs.YteaadaaghhojfaaGreatDoorE
open Go Go.Proofs
set_option linter.unusedVariables false
set_option linter.unusedSimpArgs false
theorem concat_v {n : Nat} (hn : Big n) (x y : List (El tMessage)) (hx : x.length ≤ 100000) (hy : y.length ≤ 100000) : sl_ConcatMsg n ([x, y], ()) = some ((x ++ y, ()), ((), ())) := by
  obtain ⟨m, rfl⟩ : ∃ m, n = m + 1 + 1 + 1 := ⟨n - 3, by unfold Big at hn; omega⟩
  have e1 : iadd .i64 (0 : Int) 1 = 1 := by rw [iadd64 (by omega) (by omega)]; rfl
  have e2 : iadd .i64 (1 : Int) 1 = 2 := by rw [iadd64 (by omega) (by omega)]; rfl
  have e3 : iadd .i64 (0 : Int) (x.length : Int) = (x.length : Int) := by rw [iadd64 (by omega) (by omega)]; omega
  have e4 : iadd .i64 (x.length : Int) (y.length : Int) = (x.length : Int) + (y.length : Int) := by rw [iadd64 (by omega) (by omega)]
  have k1 : ¬ (x.length : Int) < 0 := by omega
  have k2 : ¬ (x.length : Int) + (y.length : Int) < 0 := by omega
  have k3 : (0 : Int) ≤ (x.length : Int) + (y.length : Int) := by omega
  have k4 : ((x.length : Int) + (y.length : Int)).toNat = x.length + y.length := by omega
  have r1 : room (x.length + y.length) 72 = true := room_of (by omega)
  have r2 : room x.length 72 = true := room_of (by omega)
  have h0 : sl_ConcatMsg_l0 (m + 1 + 1 + 1) (m + 1 + 1 + 1) ([x, y], (0 : Int), [x, y], (2 : Int), (0 : Int), ()) = some (.inl ([x, y], (x.length : Int) + (y.length : Int), ())) := by
    simp [sl_ConcatMsg_l0, ilen, e1, e2, e3, e4, k1, k2]
  have hg : sl_GrowMsg (m + 1 + 1 + 1) ((), (x.length : Int) + (y.length : Int), ()) = some (([], ()), ((), ((), ()))) := by
    simp only [sl_GrowMsg, ile_eq, k3, decide_true, k4, r1, Bool.and_self, cond_true]
  have h1 : sl_ConcatMsg_l1 (m + 1 + 1 + 1) (m + 1 + 1 + 1) ([], [x, y], (2 : Int), (0 : Int), ()) = some (.inl (x ++ y, ())) := by
    simp [sl_ConcatMsg_l1, ilen, roomA, app, e1, e2, r1, r2]
  have e5 : ilen [x, y] = (2 : Int) := rfl
  simp only [sl_ConcatMsg, e5, h0, bindL_inl, hg, bindN_s, h1]
def pushS (s : El tSub) (st : Int) (rows : List RW) (ch : List CH) (ob : Int) : El tSub :=
  bif !s.2.2.2.2.2.1 then (s.1, s.2.1, st, rows, s.2.2.2.2.1 ++ [((1 : Int), s.1, st, rows, [], ())], true, s.2.2.2.2.2.2.1, ())
  else bif decide (st ≤ s.2.2.1) then s
  else bif s.2.2.2.2.2.2.1 then (bif decide ((s.2.2.2.2.1.length : Int) < ob) then (s.1, s.2.1, st, rows, s.2.2.2.2.1 ++ [((3 : Int), s.1, st, rows, [], ())], s.2.2.2.2.2.1, false, ()) else s)
  else bif decide (ch.length = 0) then (s.1, s.2.1, st, s.2.2.2.1, s.2.2.2.2.1, s.2.2.2.2.2.1, s.2.2.2.2.2.2.1, ())
  else bif decide ((s.2.2.2.2.1.length : Int) < ob) then (s.1, s.2.1, st, rows, s.2.2.2.2.1 ++ [((2 : Int), s.1, st, [], ch, ())], s.2.2.2.2.2.1, s.2.2.2.2.2.2.1, ())
  else (s.1, s.2.1, s.2.2.1, s.2.2.2.1, s.2.2.2.2.1, s.2.2.2.2.2.1, true, ())
noncomputable def pushR (s : El tSub) (st : Int) (rows : List RW) (ob : Int) : El tSub × Int × Unit :=
  bif rightR s.2.2.2.1 && rightR rows then (pushS s st rows (ofR s.2.2.2.1 rows) ob, (0 : Int), ()) else (s, (9 : Int), ())
theorem sub_Push_v {n : Nat} (hn : Big n) (s : El tSub) (st : Int) (rows : List RW) (ob : Int) (h1 : FitR s.2.2.2.1) (h2 : FitR rows) (h3 : s.2.2.2.2.1.length ≤ 10000) : sub_Push n (s, st, rows, ob, ()) = some (pushR s st rows ob, ((), (), (), (), ())) := by
  obtain ⟨id, q, ss, rs, out, bg, ls, ⟨⟩⟩ := s
  simp only at h1 h2 h3
  have hof := diff_Of_v hn rs rows h1 h2
  have r1 : room rows.length 40 = true := room_of (by have := h2.1; omega)
  have hc := fun m => concat_v hn out [m] (by omega) (by simp)
  unfold pushR
  simp only [sub_Push, hof, bindN_s]
  cases hr : rightR rs && rightR rows with
  | false => simp
  | true =>
    have hl : sl_CloneRow n (rows, ()) = some ((rows, ()), ((), ())) := by simp only [sl_CloneRow, r1, cond_true]
    simp only [cond_true, ieq_eq, decide_true, Bool.not_true, cond_false, hl, bindN_s]
    generalize ofR rs rows = ch
    unfold pushS
    cases bg with
    | false => simp [sub_push, sub_put, hc]
    | true =>
      by_cases k1 : st ≤ ss
      · simp [sub_push, k1]
      · cases ls with
        | true =>
          by_cases k2 : (out.length : Int) < ob
          · simp [sub_push, sub_free, sub_put, ilen, k1, k2, hc]
          · simp [sub_push, sub_free, sub_put, ilen, k1, k2]
        | false =>
          by_cases k3 : ch.length = 0
          · have k3' : (ch.length : Int) = 0 := by omega
            have : ch = [] := List.length_eq_zero_iff.1 k3
            subst this
            simp [sub_push, ilen, k1]
          · have k3' : ¬ (ch.length : Int) = 0 := by omega
            have k4 : ¬ ch = [] := fun e => k3 (by rw [e]; rfl)
            by_cases k2 : (out.length : Int) < ob
            · simp [sub_push, sub_free, sub_put, ilen, k1, k2, k3', k4, hc]
            · simp [sub_push, sub_free, sub_put, ilen, k1, k2, k3', k4]
theorem r19_Push_v {n : Nat} (hn : Big n) (s : El tSub) (st : Int) (rows : List RW) (ob : Int) (h1 : FitR s.2.2.2.1) (h2 : FitR rows) (h3 : s.2.2.2.2.1.length ≤ 10000) : r19_Push n (s, st, rows, ob, ()) = some (pushR s st rows ob, ((), (), (), (), ())) := by
  obtain ⟨id, q, ss, rs, out, bg, ls, ⟨⟩⟩ := s
  simp only at h1 h2 h3
  have hof := r09_Of_v' hn rs rows h1 h2
  have r1 : room out.length 72 = true := room_of (by omega)
  have r2 : room (out.length + 1) 72 = true := room_of (by omega)
  unfold pushR
  simp only [r19_Push, hof, bindN_s]
  cases hr : rightR rs && rightR rows with
  | false => simp
  | true =>
    simp only [cond_true, ieq_eq, decide_true, Bool.not_true, cond_false]
    generalize ofR rs rows = ch
    unfold pushS
    cases bg with
    | false => simp [r19_out, roomA, app, r1, r2]
    | true =>
      by_cases k1 : st ≤ ss
      · simp [k1]
      · cases ls with
        | true =>
          by_cases k2 : (out.length : Int) < ob
          · simp [r19_out, roomA, app, r1, r2, ilen, k1, k2]
          · simp [r19_out, ilen, k1, k2]
        | false =>
          by_cases k3 : ch.length = 0
          · have k3' : (ch.length : Int) = 0 := by omega
            have : ch = [] := List.length_eq_zero_iff.1 k3
            subst this
            simp [ilen, k1]
          · have k3' : ¬ (ch.length : Int) = 0 := by omega
            have k4 : ¬ ch = [] := fun e => k3 (by rw [e]; rfl)
            by_cases k2 : (out.length : Int) < ob
            · simp [r19_out, roomA, app, r1, r2, ilen, k1, k2, k3', k4]
            · simp [r19_out, ilen, k1, k2, k3', k4]
def mayS (s : El tSub) (st ob : Int) : Bool := !s.2.2.2.2.2.1 || (decide (s.2.2.1 < st) && (!s.2.2.2.2.2.2.1 || decide ((s.2.2.2.2.1.length : Int) < ob)))
theorem sub_May_v (n : Nat) (x : SgEl sub_May_sg) : sub_May n x = some ((mayS x.1 x.2.1 x.2.2.1, ()), ((), (), (), ())) := by
  obtain ⟨⟨id, q, ss, rs, out, bg, ls, ⟨⟩⟩, st, ob, ⟨⟩⟩ := x
  unfold sub_May mayS
  cases bg with
  | false => simp
  | true =>
    by_cases k : ss < st
    · cases ls <;> simp [k, sub_free, ilen]
    · simp [k]
theorem r19_May_v (n : Nat) (x : SgEl r19_May_sg) : r19_May n x = some ((mayS x.1 x.2.1 x.2.2.1, ()), ((), (), (), ())) := by
  obtain ⟨⟨id, q, ss, rs, out, bg, ls, ⟨⟩⟩, st, ob, ⟨⟩⟩ := x
  unfold r19_May mayS
  cases bg with
  | false => simp
  | true =>
    by_cases k : ss < st
    · cases ls <;> simp [k, ilen]
    · simp [k]
theorem of_len : ∀ (m : Nat) (a b : List RW), a.length + b.length ≤ m → (ofR a b).length ≤ m := by
  intro m
  induction m with
  | zero =>
    intro a b h
    have ha : a = [] := List.length_eq_zero_iff.1 (by omega)
    have hb' : b = [] := List.length_eq_zero_iff.1 (by omega)
    subst ha; subst hb'
    rw [of_nn]; simp
  | succ m ih =>
    intro a b h
    cases a with
    | nil =>
      cases b with
      | nil => rw [of_nn]; simp
      | cons y b => rw [of_nc]; have := ih [] b (by simp at h ⊢; omega); simp; omega
    | cons x a =>
      cases b with
      | nil => rw [of_cn]; have := ih a [] (by simp at h ⊢; omega); simp; omega
      | cons y b =>
        have i1 := ih a (y :: b) (by simp at h ⊢; omega)
        have i2 := ih (x :: a) b (by simp at h ⊢; omega)
        have i3 := ih a b (by simp at h ⊢; omega)
        rw [of_cc]
        cases befR x y <;> cases befR y x <;> cases eqb x y <;> simp <;> omega
theorem limM_app {out : List (El tMessage)} {m : El tMessage} (h1 : Lim out) (h30 : out.length ≤ 10000) (h2 : ∀ x ∈ out, LimM x) (h3 : LimM m) : Lim (out ++ [m]) ∧ ∀ x ∈ out ++ [m], LimM x :=
  ⟨by unfold Lim; simp; omega, fun x hx => by
    rcases List.mem_append.1 hx with h | h
    · exact h2 x h
    · simp at h; subst h; exact h3⟩
theorem pushR_lim {s : El tSub} {st ob : Int} {rows : List RW} (hs : LimS s) (h30 : s.2.2.2.2.1.length ≤ 10000) (h1 : FitR s.2.2.2.1) (h2 : FitR rows) : LimS (pushR s st rows ob).1 := by
  obtain ⟨id, q, ss, rs, out, bg, ls, ⟨⟩⟩ := s
  obtain ⟨l1, l2, l3, l4⟩ := hs
  simp only at l1 l2 l3 l4 h30 h1
  have hr : Lim rows := by have := h2.1; unfold Lim; omega
  have hch : Lim (ofR rs rows) := by have := of_len _ rs rows (Nat.le_refl _); have := h1.1; have := h2.1; unfold Lim; omega
  have n0 : Lim ([] : List RW) := by simp [Lim]
  have n1 : Lim ([] : List CH) := by simp [Lim]
  have a1 := fun k : Int => limM_app (m := ((k : Int), id, st, rows, [], ())) l3 h30 l4 ⟨hr, n1⟩
  have a2 := fun k : Int => limM_app (m := ((k : Int), id, st, [], ofR rs rows, ())) l3 h30 l4 ⟨n0, hch⟩
  unfold pushR
  cases rightR rs && rightR rows with
  | false => exact ⟨l1, l2, l3, l4⟩
  | true =>
    rw [cond_true]
    unfold pushS
    cases bg with
    | false => exact ⟨l1, hr, a1 1⟩
    | true =>
      simp only [Bool.not_true, cond_false]
      cases decide (st ≤ ss) with
      | true => exact ⟨l1, l2, l3, l4⟩
      | false =>
        cases ls with
        | true =>
          simp only [cond_true, cond_false]
          cases decide ((out.length : Int) < ob) with
          | true => exact ⟨l1, hr, a1 3⟩
          | false => exact ⟨l1, l2, l3, l4⟩
        | false =>
          simp only [cond_false]
          cases decide ((ofR rs rows).length = 0) with
          | true => exact ⟨l1, l2, l3, l4⟩
          | false =>
            simp only [cond_false]
            cases decide ((out.length : Int) < ob) with
            | true => exact ⟨l1, hr, a2 2⟩
            | false => exact ⟨l1, l2, l3, l4⟩
theorem great_parts {s : El tSub} (hs : greatS s = false) : LimS s ∧ FitR s.2.2.2.1 ∧ s.2.2.2.2.1.length ≤ 30 := by
  refine ⟨limS hs, ?_, ?_⟩
  · simp only [greatS, Bool.or_eq_false_iff] at hs; exact fitR hs.2.1
  · simp only [greatS, Bool.or_eq_false_iff] at hs; exact (limMs hs.2.2).1
theorem pushes_v {n : Nat} (hn : Big n) (ha : law_alive n () = some ((true, ()), ())) (x : SgEl law_Pushes_sg) : ∃ o, law_Pushes n x = some ((true, ()), o) := by
  obtain ⟨s, ⟨st, rows, sd, ⟨⟩⟩, ob, ⟨⟩⟩ := x
  have gs := r19_Great_v hn s
  have gr := r08_Great_v hn rows
  cases hs : greatS s with
  | true => exact ⟨((), (), (), ()), by simp [law_Pushes, ha, gs, hs]⟩
  | false =>
    cases hr : greatR rows with
    | true => exact ⟨((), (), (), ()), by simp [law_Pushes, ha, gs, gr, hs, hr]⟩
    | false =>
      obtain ⟨ls, f1, h30⟩ := great_parts hs
      have f2 := fitR hr
      have p1 := sub_Push_v hn s st rows ob f1 f2 (by omega)
      have p2 := r19_Push_v hn s st rows ob f1 f2 (by omega)
      have pl := pushR_lim (st := st) (ob := ob) ls (by omega) f1 f2
      have e1 := r19_Same_v hn (b := (pushR s st rows ob).1) pl
      have e2 := r19_Messages_v hn (b := s.2.2.2.2.1) ls.2.2.1 ls.2.2.2
      have r1 : room s.2.2.2.2.1.length 72 = true := room_of (by omega)
      generalize pushR s st rows ob = p at p1 p2 e1
      exact ⟨((), (), (), ()), by simp [law_Pushes, ha, gs, gr, hs, hr, roomA, app, r1, p1, p2, e1, sub_May_v, r19_May_v, e2]⟩
theorem pushes_true : ∀ x, okArgs [tSub, tLaw19_Push, .int .i64] x → ∃ o, law_Pushes 1000000000000000 x = some ((true, ()), o) := fun x _ => pushes_v big_n alive_v x
end Go.Proofs.YteaadaaghhojfaaGreatDoorE
end
section
namespace Go.Proofs.YteaadaaghhojfaaGreatDoorE
open Go Go.Proofs
set_option linter.unusedVariables false
set_option linter.unusedSimpArgs false
theorem loses_v {n : Nat} (hn : Big n) (ha : law_alive n () = some ((true, ()), ())) (x : SgEl law_Loses_sg) : ∃ o, law_Loses n x = some ((true, ()), o) := by
  obtain ⟨s, ⟨st, rows, sd, ⟨⟩⟩, u, ⟨⟩⟩ := x
  refine ⟨((), (), (), ()), ?_⟩
  have gs := r19_Great_v hn s
  have gr := r08_Great_v hn rows
  cases hs : greatS s with
  | true => simp [law_Loses, ha, gs, hs]
  | false =>
    cases hr : greatR rows with
    | true => simp [law_Loses, ha, gs, gr, hs, hr]
    | false =>
      obtain ⟨ls, f1, h30⟩ := great_parts hs
      have f2 := fitR hr
      have q1 := r08_Right_v hn rows f2
      have q2 := r08_Right_v hn s.2.2.2.1 f1
      cases h1 : rightR rows with
      | false => simp [law_Loses, ha, gs, gr, hs, hr, q1, h1]
      | true =>
        cases h2 : rightR s.2.2.2.1 with
        | false => simp [law_Loses, ha, gs, gr, hs, hr, q1, q2, h1, h2]
        | true =>
          have p3 := r09_Of_v' hn s.2.2.2.1 rows f1 f2
          rw [h1, h2] at p3
          simp only [Bool.and_self, cond_true] at p3
          have p1 := fun ob => sub_Push_v hn s st rows ob f1 f2 (by omega)
          have pr : ∀ ob, pushR s st rows ob = (pushS s st rows (ofR s.2.2.2.1 rows) ob, (0 : Int), ()) := fun ob => by unfold pushR; rw [h1, h2]; rfl
          simp only [pr] at p1
          obtain ⟨id, q, ss, rs, out, bg, lo, ⟨⟩⟩ := s
          simp only at p3 p1 h30 q2 h2
          cases bg with
          | false => simp [law_Loses, ha, gs, gr, hs, hr, q1, q2, h1, h2]
          | true =>
            have p1' := p1 (iadd .i64 (1 : Int) (iconv .i64 (irem u (4 : Int))))
            clear p1
            have e1 : iadd .i64 (out.length : Int) 1 = (out.length : Int) + 1 := by rw [iadd64 (by omega) (by omega)]
            have e2 : isub .i64 ((out.length : Int) + 1) 1 = (out.length : Int) := by rw [isub64 (by omega) (by omega)]; omega
            have k5 : ¬ (out.length : Int) + 1 = (out.length : Int) := by omega
            have k6 : (0 : Int) ≤ (out.length : Int) := by omega
            simp only [law_Loses, ha, gs, gr, hs, hr, q1, q2, h1, h2, bindN_s, Bool.not_true, Bool.not_false, cond_true, cond_false, ieq_eq, Int.reduceEq, decide_false, p1', p3]
            generalize iadd .i64 (1 : Int) (iconv .i64 (irem u (4 : Int))) = ob
            generalize ofR rs rows = ch
            unfold pushS
            by_cases k1 : st ≤ ss
            · simp [k1, ilen]
            · cases lo with
              | true =>
                by_cases k2 : (out.length : Int) < ob
                · simp [k1, k2, ilen, e1, e2, k5, k6]
                · have k2' : ob ≤ (out.length : Int) := by omega
                  simp [k1, k2, k2', ilen]
              | false =>
                by_cases k3 : ch.length = 0
                · have k3' : (ch.length : Int) = 0 := by omega
                  by_cases k2 : (out.length : Int) < ob
                  · have k2' : ¬ ob ≤ (out.length : Int) := by omega
                    simp [k1, k2, k2', k3, k3', ilen]
                  · have k2' : ob ≤ (out.length : Int) := by omega
                    simp [k1, k2, k2', k3, k3', ilen]
                · have k3' : ¬ (ch.length : Int) = 0 := by omega
                  by_cases k2 : (out.length : Int) < ob
                  · simp [k1, k2, k3, k3', ilen, e1, e2, k5, k6]
                  · have k2' : ob ≤ (out.length : Int) := by omega
                    simp [k1, k2, k2', k3, k3', ilen]
theorem loses_true : ∀ x, okArgs [tSub, tLaw19_Push, .int .u8] x → ∃ o, law_Loses 1000000000000000 x = some ((true, ()), o) := fun x _ => loses_v big_n alive_v x
end Go.Proofs.YteaadaaghhojfaaGreatDoorE
end
section
namespace Go.Proofs.YteaadaaghhojfaaGreatDoorE
open Go Go.Proofs
set_option linter.unusedVariables false
set_option linter.unusedSimpArgs false
/-! ### are changes in order? -/
def zeroV (c : CH) : Bool := decide (c.1.2.2.1.1 = 0) && decide (c.1.2.2.1.2.1 = false)
def badC (c : CH) : Bool := c.2.1 && !zeroV c
def rightC (l : List CH) : Bool := !l.any badC && rightR (l.map fun c => c.1)
def FitC (l : List CH) : Prop := l.length ≤ 100000 ∧ ∀ c ∈ l, c.1.2.1.size ≤ 100000
theorem fitC {l : List CH} (h : greatC l = false) : FitC l := by
  obtain ⟨h1, h2⟩ := limC h
  exact ⟨by omega, fun r hr => by have := h2 r hr; omega⟩
theorem fit_map {l : List CH} (h : FitC l) : FitR (l.map fun c => c.1) := ⟨by simpa using h.1, fun r hr => by
  obtain ⟨c, hc, rfl⟩ := List.mem_map.1 hr
  exact h.2 c hc⟩
theorem bad_test (c : CH) : (!(decide (c.1.2.2.1.1 = 0) && (decide (c.1.2.2.1.2.1 = false) && true))) = !zeroV c := by simp [zeroV]
theorem right_l0 {n : Nat} (l : List CH) (hl : l.length ≤ 100000) : ∀ (d i g : Nat) (acc : List RW), i + d = l.length → acc.length ≤ i → d < g →
    diff_right_l0 n g (acc, l, (l.length : Int), (i : Int), ()) = some (bif (l.drop i).any badC then .inr (false, ()) else .inl (acc ++ (l.drop i).map (fun c => c.1), ())) ∧
    r09_Right_l0 n g (l, acc, (i : Int), ()) = some (bif (l.drop i).any badC then .inr (false, ()) else .inl (acc ++ (l.drop i).map (fun c => c.1), ()))
  | 0, i, g, acc, hd, ha, hg => by
    obtain ⟨g, rfl⟩ : ∃ g', g = g' + 1 := ⟨g - 1, by omega⟩
    have k : ¬ (i : Int) < (l.length : Int) := by omega
    rw [List.drop_of_length_le (by omega)]
    constructor
    · simp [diff_right_l0, k]
    · simp [r09_Right_l0, ilen, k]
  | d + 1, i, g, acc, hd, ha, hg => by
    obtain ⟨g, rfl⟩ : ∃ g', g = g' + 1 := ⟨g - 1, by omega⟩
    have hi : i < l.length := by omega
    have k : (i : Int) < (l.length : Int) := by omega
    have k0 : (0 : Int) ≤ i := by omega
    have r1 : room (acc.length + 1) 40 = true := room_of (by omega)
    obtain ⟨ih1, ih2⟩ := right_l0 (n := n) l hl d (i + 1) g (acc ++ [l[i].1]) (by omega) (by simp; omega) (by omega)
    have eg : diff_gone n (l[i].1, ()) = some ((goneC l[i].1, ()), ((), ())) := rfl
    have ei : iadd .i64 (i : Int) 1 = ((i + 1 : Nat) : Int) := iadd1 (by omega)
    rw [drop_cons l i hi, List.any_cons, List.map_cons]
    generalize hc : l[i] = c at *
    obtain ⟨r, gn, ⟨⟩⟩ := c
    constructor
    · cases gn with
      | false =>
        simp only [diff_right_l0, ilt_eq, ile_eq, k, k0, decide_true, cond_true, cond_false, lat_eq, iN, Int.toNat_natCast, List.getElem?_eq_getElem hi, hc, bindN_s, roomA, List.length_singleton, r1, app, ei, bindL_id1, ih1, badC, Bool.false_and, Bool.false_or]
        simp only [List.append_assoc, List.cons_append, List.nil_append]
      | true =>
        have et : (!(decide (r.1 = (goneC r).1.1) && (decide (r.2.1 = (goneC r).1.2.1) && (decide (r.2.2.1.1 = (goneC r).1.2.2.1.1) && (decide (r.2.2.1.2.1 = (goneC r).1.2.2.1.2.1) && (decide (true = (goneC r).2.1) && true)))))) = !zeroV (r, true, ()) := by
          rw [decide_eq_true (show r.1 = (goneC r).1.1 from rfl), decide_eq_true (show r.2.1 = (goneC r).1.2.1 from rfl), decide_eq_true (show true = (goneC r).2.1 from rfl)]
          simp only [Bool.true_and, Bool.and_true]
          rfl
        simp only [diff_right_l0, ilt_eq, ile_eq, ieq_eq, seq_eq, beqB_eq, k, k0, decide_true, cond_true, lat_eq, iN, Int.toNat_natCast, List.getElem?_eq_getElem hi, hc, bindN_s, eg, et, roomA, List.length_singleton, r1, app, ei, bindL_id1, ih1, badC, Bool.true_and]
        cases zeroV (r, true, ()) <;> simp only [Bool.not_true, Bool.not_false, cond_true, cond_false, Bool.true_or, Bool.false_or, List.append_assoc, List.cons_append, List.nil_append]
    · cases gn with
      | false =>
        simp only [r09_Right_l0, ilt_eq, ile_eq, ilen, k, k0, decide_true, cond_true, cond_false, lat_eq, iN, Int.toNat_natCast, List.getElem?_eq_getElem hi, hc, bindN_s, roomA, List.length_singleton, r1, app, ei, bindL_id1, ih2, badC, Bool.false_and, Bool.false_or]
        simp only [List.append_assoc, List.cons_append, List.nil_append]
      | true =>
        have et := bad_test (r, true, ())
        simp only [r09_Right_l0, ilt_eq, ile_eq, ieq_eq, beqB_eq, ilen, k, k0, decide_true, cond_true, lat_eq, iN, Int.toNat_natCast, List.getElem?_eq_getElem hi, hc, bindN_s, et, roomA, List.length_singleton, r1, app, ei, bindL_id1, ih2, badC, Bool.true_and]
        cases zeroV (r, true, ()) <;> simp only [Bool.not_true, Bool.not_false, cond_true, cond_false, Bool.true_or, Bool.false_or, List.append_assoc, List.cons_append, List.nil_append]
theorem diff_right_v {n : Nat} (hn : Big n) (l : List CH) (hl : FitC l) : diff_right n (l, ()) = some ((rightC l, ()), ((), ())) := by
  have h := (right_l0 (n := n) l hl.1 l.length 0 n [] (by omega) (by simp) (by have := hl.1; unfold Big at hn; omega)).1
  rw [List.drop_zero, show ((0 : Nat) : Int) = 0 from rfl, List.nil_append] at h
  have hr := row_Right_v hn _ (fit_map hl)
  unfold diff_right rightC
  simp only [ilen, h]
  cases l.any badC with
  | true => simp
  | false => simp only [cond_false, bindL_inl, hr, bindN_s, Bool.not_false, Bool.true_and]
theorem r09_Right_v {n : Nat} (hn : Big n) (l : List CH) (hl : FitC l) : r09_Right n (l, ()) = some ((rightC l, ()), ((), ())) := by
  have h := (right_l0 (n := n) l hl.1 l.length 0 n [] (by omega) (by simp) (by have := hl.1; unfold Big at hn; omega)).2
  rw [List.drop_zero, show ((0 : Nat) : Int) = 0 from rfl, List.nil_append] at h
  have hr := r08_Right_v hn _ (fit_map hl)
  unfold r09_Right rightC
  simp only [h]
  cases l.any badC with
  | true => simp
  | false => simp only [cond_false, bindL_inl, hr, bindN_s, Bool.not_false, Bool.true_and]
/-! ### changes, applied -/
/-- is the first row at this place? (the rows ahead of it are gone) -/
def thereR (c : CH) : List RW → Bool
  | [] => false
  | x :: _ => !befR c.1 x
def applyR : List RW → List CH → Option (List RW)
  | l, [] => some l
  | l, c :: cs =>
    bif c.2.1 then (bif thereR c (l.dropWhile fun x => befR x c.1) then (applyR ((l.dropWhile fun x => befR x c.1).drop 1) cs).map (l.takeWhile (fun x => befR x c.1) ++ ·) else none)
    else (applyR (bif thereR c (l.dropWhile fun x => befR x c.1) then (l.dropWhile fun x => befR x c.1).drop 1 else l.dropWhile fun x => befR x c.1) cs).map (l.takeWhile (fun x => befR x c.1) ++ c.1 :: ·)
theorem apply_l1 {n : Nat} (hn : Big n) (c : CH) (cs : List CH) (k j : Int) : ∀ (rest out : List RW) (g : Nat), out.length + rest.length ≤ 1000000 → rest.length < g →
    diff_Apply_l1 n g (out, rest, c, cs, k, j, ()) = some (.inl (out ++ rest.takeWhile (fun x => befR x c.1), rest.dropWhile (fun x => befR x c.1), c, cs, k, j, ()))
  | [], out, g, h, hg => by
    obtain ⟨g, rfl⟩ : ∃ g', g = g' + 1 := ⟨g - 1, by omega⟩
    simp [diff_Apply_l1, ilen]
  | x :: rest, out, g, h, hg => by
    obtain ⟨g, rfl⟩ : ∃ g', g = g' + 1 := ⟨g - 1, by omega⟩
    simp only [List.length_cons] at h hg
    have ih := apply_l1 hn c cs k j rest (out ++ [x]) g (by simp; omega) (by omega)
    have r1 : room (out.length + 1) 40 = true := room_of (by omega)
    have b1 := row_Before_v hn (x, c.1, ())
    have j1 : (0 : Int) < (rest.length : Int) + 1 := by omega
    have j3 : (1 : Int) ≤ (rest.length : Int) + 1 := by omega
    have j4 : ((rest.length : Int) + 1 - 1).toNat = rest.length := by omega
    cases hb : befR x c.1 with
    | true => simp [diff_Apply_l1, ilen, roomA, app, j1, j3, j4, r1, b1, hb, ih]
    | false => simp [diff_Apply_l1, ilen, j1, b1, hb]
theorem tw_len {α : Type} (p : α → Bool) (l : List α) : (l.takeWhile p).length + (l.dropWhile p).length = l.length := by
  rw [← List.length_append, List.takeWhile_append_dropWhile]
/-- the same, with what is ready -/
def applyP : List RW → List RW → List CH → Option (List RW × List RW)
  | out, l, [] => some (out, l)
  | out, l, c :: cs =>
    bif c.2.1 then (bif thereR c (l.dropWhile fun x => befR x c.1) then applyP (out ++ l.takeWhile fun x => befR x c.1) ((l.dropWhile fun x => befR x c.1).drop 1) cs else none)
    else applyP (out ++ l.takeWhile (fun x => befR x c.1) ++ [c.1]) (bif thereR c (l.dropWhile fun x => befR x c.1) then (l.dropWhile fun x => befR x c.1).drop 1 else l.dropWhile fun x => befR x c.1) cs
theorem applyP_R : ∀ (cs : List CH) (out l : List RW), (applyP out l cs).map (fun p => p.1 ++ p.2) = (applyR l cs).map (out ++ ·)
  | [], out, l => rfl
  | c :: cs, out, l => by
    rw [applyP, applyR]
    cases c.2.1 with
    | true =>
      simp only [cond_true]
      cases thereR c (l.dropWhile fun x => befR x c.1) with
      | false => rfl
      | true =>
        simp only [cond_true]
        rw [applyP_R cs]
        cases applyR _ cs <;> simp
    | false =>
      simp only [cond_false]
      rw [applyP_R cs]
      cases applyR _ cs <;> simp
theorem applyP_len : ∀ (cs : List CH) (out l o q : List RW), applyP out l cs = some (o, q) → o.length + q.length ≤ out.length + l.length + cs.length
  | [], out, l, o, q, h => by simp [applyP] at h; obtain ⟨rfl, rfl⟩ := h; simp
  | c :: cs, out, l, o, q, h => by
    have ht := tw_len (fun x => befR x c.1) l
    rw [applyP] at h
    cases hc : c.2.1 with
    | true =>
      rw [hc, cond_true] at h
      cases hb : thereR c (l.dropWhile fun x => befR x c.1) with
      | false => rw [hb] at h; cases h
      | true =>
        rw [hb, cond_true] at h
        have := applyP_len cs _ _ o q h
        simp only [List.length_append, List.length_drop, List.length_cons] at this ⊢; omega
    | false =>
      rw [hc, cond_false] at h
      have := applyP_len cs _ _ o q h
      cases hb : thereR c (l.dropWhile fun x => befR x c.1) <;> rw [hb] at this <;> simp only [cond_true, cond_false, List.length_append, List.length_drop, List.length_cons, List.length_nil] at this ⊢ <;> omega
theorem apply_l0 {n : Nat} (hn : Big n) (cs : List CH) (hcs : cs.length ≤ 100000) : ∀ (d i g : Nat) (rest out : List RW), i + d = cs.length → out.length + rest.length ≤ 200000 + i → d < g →
    diff_Apply_l0 n g (out, rest, cs, (cs.length : Int), (i : Int), ()) = some (match applyP out rest (cs.drop i) with | some p => .inl (p.1, p.2, ()) | none => .inr ([], (6 : Int), ()))
  | 0, i, g, rest, out, hd, hb, hg => by
    obtain ⟨g, rfl⟩ : ∃ g', g = g' + 1 := ⟨g - 1, by omega⟩
    have k : ¬ (i : Int) < (cs.length : Int) := by omega
    rw [List.drop_of_length_le (by omega)]
    simp [diff_Apply_l0, k, applyP]
  | d + 1, i, g, rest, out, hd, hb, hg => by
    obtain ⟨g, rfl⟩ : ∃ g', g = g' + 1 := ⟨g - 1, by omega⟩
    have hi : i < cs.length := by omega
    have k : (i : Int) < (cs.length : Int) := by omega
    have k0 : (0 : Int) ≤ i := by omega
    have h1 := apply_l1 hn cs[i] cs (cs.length : Int) (i : Int) rest out n (by omega) (by unfold Big at hn; omega)
    have ht := tw_len (fun x => befR x cs[i].1) rest
    have ei : iadd .i64 (i : Int) 1 = ((i + 1 : Nat) : Int) := iadd1 (by omega)
    have hat : cs[i]? = some cs[i] := List.getElem?_eq_getElem hi
    rw [drop_cons cs i hi, applyP]
    generalize cs[i] = c at *
    generalize hpre : rest.takeWhile (fun x => befR x c.1) = pre at *
    generalize hdw : rest.dropWhile (fun x => befR x c.1) = dw at *
    have r1 : room (out.length + pre.length + 1) 40 = true := room_of (by omega)
    cases dw with
    | nil =>
      have i1 := apply_l0 hn cs hcs d (i + 1) g [] (out ++ pre ++ [c.1]) (by omega) (by simp; omega) (by omega)
      cases hg2 : c.2.1 with
      | true => simp only [diff_Apply_l0, ilt_eq, ile_eq, ilen, k, k0, decide_true, cond_true, lat_eq, iN, Int.toNat_natCast, hat, bindN_s, h1, bindL_inl, List.length_nil, Int.natCast_zero, Int.lt_irrefl, decide_false, cond_false, hg2, Bool.not_true, thereR]
      | false =>
        simp only [diff_Apply_l0, ilt_eq, ile_eq, ilen, k, k0, decide_true, cond_true, lat_eq, iN, Int.toNat_natCast, hat, bindN_s, h1, bindL_inl, List.length_nil, Int.natCast_zero, Int.lt_irrefl, decide_false, cond_false, hg2, Bool.not_false, thereR, roomA, List.length_append, List.length_singleton, r1, app, ei, i1, bindL_id1]
    | cons y ys =>
      have i1 := apply_l0 hn cs hcs d (i + 1) g ys (out ++ pre ++ [c.1]) (by omega) (by simp at ht ⊢; omega) (by omega)
      have i2 := apply_l0 hn cs hcs d (i + 1) g ys (out ++ pre) (by omega) (by simp at ht ⊢; omega) (by omega)
      have i3 := apply_l0 hn cs hcs d (i + 1) g (y :: ys) (out ++ pre ++ [c.1]) (by omega) (by simp at ht ⊢; omega) (by omega)
      have b1 := row_Before_v hn (c.1, y, ())
      have j1 : (0 : Int) < ((y :: ys).length : Int) := by simp only [List.length_cons]; omega
      have j3 : (1 : Int) ≤ ((y :: ys).length : Int) := by simp only [List.length_cons]; omega
      have j4 : ys.take ((y :: ys).length - 1) = ys := by simp
      have e1 : (1 : Int).toNat = 1 := rfl
      have e2 : (((y :: ys).length : Int)).toNat = (y :: ys).length := by omega
      have e3 : (0 : Int) ≤ 1 := by omega
      cases hg2 : c.2.1 <;> cases hb : befR c.1 y <;> simp only [diff_Apply_l0, ilt_eq, ile_eq, ilen, k, k0, decide_true, cond_true, lat_eq, iN, Int.toNat_natCast, hat, bindN_s, h1, bindL_inl, j1, j3, Int.le_refl, Int.toNat_zero, List.getElem?_cons_zero, b1, hb, e1, e2, e3, win_eq, winI, j4, hg2, Bool.not_true, Bool.not_false, cond_false, thereR, roomA, List.length_append, List.length_singleton, r1, app, ei, i1, i2, i3, bindL_id1, List.drop_succ_cons, List.drop_zero]
def applyE (l : List RW) (cs : List CH) : List RW × Int × Unit := bif rightR l && rightC cs then (match applyR l cs with | some r => (r, (0 : Int), ()) | none => ([], (6 : Int), ())) else ([], (9 : Int), ())
theorem diff_Apply_v {n : Nat} (hn : Big n) (l : List RW) (cs : List CH) (hl : FitR l) (hc : FitC cs) : diff_Apply n (l, cs, ()) = some (applyE l cs, ((), (), ())) := by
  have h := apply_l0 hn cs hc.1 cs.length 0 n l [] (by omega) (by have := hl.1; simp; omega) (by have := hc.1; unfold Big at hn; omega)
  have hr := applyP_R cs [] l
  rw [List.drop_zero, show ((0 : Nat) : Int) = 0 from rfl] at h
  simp only [diff_Apply, row_Right_v hn l hl, diff_right_v hn cs hc, bindN_s, ilen, h, applyE]
  cases rightR l with
  | false => simp
  | true =>
    cases rightC cs with
    | false => simp
    | true =>
      simp only [Bool.not_true, cond_false, Bool.and_self, cond_true]
      cases hp : applyP [] l cs with
      | none =>
        rw [hp] at hr
        cases hq : applyR l cs with
        | none => simp
        | some r => rw [hq] at hr; cases hr
      | some p =>
        obtain ⟨o, q⟩ := p
        have hlen := applyP_len cs [] l o q hp
        have r1 : room (o.length + q.length) 40 = true := room_of (by have := hl.1; have := hc.1; simp at hlen; omega)
        rw [hp] at hr
        cases hq : applyR l cs with
        | none => rw [hq] at hr; cases hr
        | some r =>
          rw [hq] at hr
          simp at hr
          simp [roomA, app, r1, hr]
end Go.Proofs.YteaadaaghhojfaaGreatDoorE
end
section
namespace Go.Proofs.YteaadaaghhojfaaGreatDoorE
open Go Go.Proofs
set_option linter.unusedVariables false
set_option linter.unusedSimpArgs false
theorem lset_eq {α : Type} : ∀ (xs : List α) (i : Nat) (y : α), lset xs i y = xs.set i y
  | [], _, _ => by simp [lset]
  | x :: r, 0, y => by simp [lset]
  | x :: r, n + 1, y => by simp [lset, lset_eq r n y]
theorem lput_set {α : Type} (xs : List α) (i : Nat) (y : α) : lput xs i y = xs.set i y := by unfold lput; exact lset_eq xs i y
/-- one change, as the document makes it -/
def stepD (out : List RW) (c : CH) : Option (List RW) :=
  match out.findIdx? (kB c.1) with
  | none => bif c.2.1 then none else some (insK id c.1 out)
  | some q => bif c.2.1 then some (out.take q ++ out.drop (q + 1)) else some (out.set q c.1)
def applyD : List RW → List CH → Option (List RW)
  | out, [] => some out
  | out, c :: cs => (stepD out c).bind fun o => applyD o cs
theorem key_of_bef {x c : RW} (h : befR x c = true) : kB c x = false := by
  cases h' : kB c x with
  | false => rfl
  | true => have := kB_iff.1 h'; rw [key_bef this] at h; cases h
theorem find_app {p r : List RW} {c : RW} (h : ∀ x ∈ p, befR x c = true) : (p ++ r).findIdx? (kB c) = (r.findIdx? (kB c)).map (p.length + ·) := by
  induction p with
  | nil => simp
  | cons a p ih =>
    rw [List.cons_append, List.findIdx?_cons, key_of_bef (h a List.mem_cons_self), ih (fun x hx => h x (List.mem_cons_of_mem _ hx))]
    cases r.findIdx? (kB c) with
    | none => rfl
    | some q => simp; omega
theorem ins_app {p r : List RW} {c : RW} (h : ∀ x ∈ p, befR x c = true) : insK id c (p ++ r) = p ++ insK id c r := by
  induction p with
  | nil => rfl
  | cons a p ih =>
    have ih := ih (fun x hx => h x (List.mem_cons_of_mem _ hx))
    have ha := h a List.mem_cons_self
    unfold insK at ih ⊢
    rw [List.cons_append, List.takeWhile_cons_of_pos (by simpa using ha), List.dropWhile_cons_of_pos (by simpa using ha), List.cons_append, ih, List.cons_append]
theorem step_app {p r : List RW} {c : CH} (h : ∀ x ∈ p, befR x c.1 = true) : stepD (p ++ r) c = (stepD r c).map (p ++ ·) := by
  unfold stepD
  rw [find_app h]
  cases r.findIdx? (kB c.1) with
  | none =>
    simp only [Option.map_none]
    rw [ins_app h]
    cases c.2.1 <;> rfl
  | some q =>
    simp only [Option.map_some]
    rw [List.take_append, List.drop_append, List.set_append_right _ _ (by omega)]
    have e1 : p.take (p.length + q) = p := List.take_of_length_le (by omega)
    have e2 : p.drop (p.length + q + 1) = [] := List.drop_of_length_le (by omega)
    rw [e1, e2, show p.length + q - p.length = q by omega, show p.length + q + 1 - p.length = q + 1 by omega]
    cases c.2.1 <;> simp
theorem applyD_app : ∀ (cs : List CH) (p r : List RW), (∀ c ∈ cs, ∀ x ∈ p, befR x c.1 = true) → applyD (p ++ r) cs = (applyD r cs).map (p ++ ·)
  | [], p, r, _ => rfl
  | c :: cs, p, r, h => by
    rw [applyD, applyD, step_app (h c List.mem_cons_self)]
    cases stepD r c with
    | none => rfl
    | some o => exact applyD_app cs p o (fun d hd => h d (List.mem_cons_of_mem _ hd))
theorem step_core {dw : List RW} {c : CH} (hs : Asc id dw) (hh : ∀ y ys, dw = y :: ys → befR y c.1 = false) :
    stepD dw c = bif c.2.1 then (bif thereR c dw then some (dw.drop 1) else none) else some (c.1 :: (bif thereR c dw then dw.drop 1 else dw)) := by
  cases dw with
  | nil => unfold stepD; cases c.2.1 <;> rfl
  | cons y ys =>
    have hy := hh y ys rfl
    have hs' := asc_cons.1 hs
    unfold stepD thereR
    cases hb : befR c.1 y with
    | true =>
      have hno : (y :: ys).findIdx? (kB c.1) = none := by
        rw [List.findIdx?_eq_none_iff]
        intro x hx
        cases h' : kB c.1 x with
        | false => rfl
        | true =>
          have hk := kB_iff.1 h'
          have : befR c.1 x = true := by
            rcases List.mem_cons.1 hx with rfl | hx
            · exact hb
            · exact bef_trans hb (hs'.1 x hx)
          rw [key_bef (key_symm hk)] at this; cases this
      rw [hno]
      have e : insK id c.1 (y :: ys) = c.1 :: y :: ys := by
        unfold insK
        rw [List.takeWhile_cons_of_neg (by simp [hy]), List.dropWhile_cons_of_neg (by simp [hy])]; rfl
      simp only [e, hb, Bool.not_true, cond_false]
    | false =>
      have hk : keyR y c.1 := bef_total hy hb
      have hf : (y :: ys).findIdx? (kB c.1) = some 0 := by rw [List.findIdx?_cons, kB_iff.2 hk]; rfl
      rw [hf]
      cases c.2.1 <;> simp [hb]
theorem dwh {α : Type} (p : α → Bool) : ∀ (l : List α) (y : α) (ys : List α), l.dropWhile p = y :: ys → p y = false
  | [], y, ys, h => by simp at h
  | a :: l, y, ys, h => by
    cases ha : p a with
    | true => rw [List.dropWhile_cons_of_pos ha] at h; exact dwh p l y ys h
    | false => rw [List.dropWhile_cons_of_neg (by simp [ha])] at h; cases h; exact ha
theorem tw_all {α : Type} (p : α → Bool) : ∀ (l : List α), ∀ x ∈ l.takeWhile p, p x = true
  | [], x, h => by simp at h
  | a :: l, x, h => by
    cases ha : p a with
    | true =>
      rw [List.takeWhile_cons_of_pos ha] at h
      rcases List.mem_cons.1 h with q | q
      · rw [q]; exact ha
      · exact tw_all p l x q
    | false => rw [List.takeWhile_cons_of_neg (by simp [ha])] at h; simp at h
theorem applyD_R : ∀ (cs : List CH) (l : List RW), Asc id l → Asc (fun c : CH => c.1) cs → applyD l cs = applyR l cs
  | [], l, _, _ => rfl
  | c :: cs, l, hl, hc => by
    have hc' := asc_cons.1 hc
    have hsp := List.takeWhile_append_dropWhile (p := fun x => befR x c.1) (l := l)
    have hall := tw_all (fun x => befR x c.1) l
    have hdh := dwh (fun x => befR x c.1) l
    have hdw : Asc id (l.dropWhile fun x => befR x c.1) := List.Pairwise.sublist (List.dropWhile_sublist _) hl
    rw [applyR]
    generalize l.takeWhile (fun x => befR x c.1) = pre at *
    generalize l.dropWhile (fun x => befR x c.1) = dw at *
    rw [← hsp, applyD, step_app hall, step_core hdw hdh]
    have hd1 : Asc id (dw.drop 1) := List.Pairwise.sublist (List.drop_sublist _ _) hdw
    have hpre : ∀ d ∈ cs, ∀ x ∈ pre, befR x d.1 = true := fun d hd x hx => bef_trans (hall x hx) (hc'.1 d hd)
    have hpre1 : ∀ d ∈ cs, ∀ x ∈ pre ++ [c.1], befR x d.1 = true := fun d hd x hx => by
      rcases List.mem_append.1 hx with h | h
      · exact hpre d hd x h
      · simp at h; subst h; exact hc'.1 d hd
    cases c.2.1 with
    | true =>
      cases thereR c dw with
      | false => rfl
      | true =>
        simp only [cond_true, Option.map_some, Option.bind_some]
        rw [applyD_app cs _ _ hpre, applyD_R cs _ hd1 hc'.2]
    | false =>
      simp only [cond_false, Option.map_some, Option.bind_some]
      rw [show ∀ z : List RW, pre ++ c.1 :: z = (pre ++ [c.1]) ++ z from fun z => by simp, applyD_app cs _ _ hpre1]
      have hz : Asc id (bif thereR c dw then dw.drop 1 else dw) := by cases thereR c dw <;> assumption
      rw [applyD_R cs _ hz hc'.2]
      cases applyR _ cs <;> simp
theorem stepD_len {l o : List RW} {c : CH} (h : stepD l c = some o) : o.length ≤ l.length + 1 := by
  unfold stepD at h
  cases hf : l.findIdx? (kB c.1) with
  | none =>
    rw [hf] at h
    cases hg : c.2.1 with
    | true => rw [hg] at h; cases h
    | false => rw [hg] at h; simp at h; subst h; rw [insK_len]; omega
  | some q =>
    rw [hf] at h
    cases hg : c.2.1 with
    | true => rw [hg] at h; simp at h; subst h; simp; omega
    | false => rw [hg] at h; simp at h; subst h; simp
/-! ### the document's loop -/
theorem rapply_l1 {n : Nat} (cs : List CH) (i : Int) (c : CH) : ∀ (d j g : Nat) (acc : List RW), j + d = acc.length → acc.length ≤ 1000000 → d < g →
    r09_Apply_l1 n g (cs, acc, i, c, (j : Int), ()) = some (.inl (cs, acc, i, c, ((j + plK id c.1 (acc.drop j) : Nat) : Int), ()))
  | 0, j, g, acc, hd, ha, hg => by
    obtain ⟨g, rfl⟩ : ∃ g', g = g' + 1 := ⟨g - 1, by omega⟩
    have k : ¬ (j : Int) < (acc.length : Int) := by omega
    rw [List.drop_of_length_le (by omega)]
    simp only [r09_Apply_l1, ilt_eq, ilen, k, decide_false, cond_false]
    rfl
  | d + 1, j, g, acc, hd, ha, hg => by
    obtain ⟨g, rfl⟩ : ∃ g', g = g' + 1 := ⟨g - 1, by omega⟩
    have hj : j < acc.length := by omega
    have k : (j : Int) < (acc.length : Int) := by omega
    have k0 : (0 : Int) ≤ j := by omega
    rw [drop_cons acc j hj]
    have ih := rapply_l1 (n := n) cs i c d (j + 1) g acc (by omega) ha (by omega)
    simp only [r09_Apply_l1, ilt_eq, ile_eq, ilen, k, k0, decide_true, cond_true, lat_eq, iN, Int.toNat_natCast, List.getElem?_eq_getElem hj, bindN_s, r08_Before_v, iadd1 (i := j) (by omega), bindL_id2, ih]
    cases h : befR acc[j] c.1 with
    | true =>
      rw [plK_t (k := id) h, show j + (plK id c.1 (acc.drop (j + 1)) + 1) = j + 1 + plK id c.1 (acc.drop (j + 1)) by omega]
      rfl
    | false =>
      rw [plK_f (k := id) h]
      rfl
theorem rapply_l0 {n : Nat} (hn : Big n) (cs : List CH) (hcs : cs.length ≤ 100000) : ∀ (d i g : Nat) (out : List RW), i + d = cs.length → out.length ≤ 200000 + i → d < g →
    r09_Apply_l0 n g (cs, out, (i : Int), ()) = some (match applyD out (cs.drop i) with | some r => .inl (r, ()) | none => .inr ([], (6 : Int), ()))
  | 0, i, g, out, hd, hb, hg => by
    obtain ⟨g, rfl⟩ : ∃ g', g = g' + 1 := ⟨g - 1, by omega⟩
    have k : ¬ (i : Int) < (cs.length : Int) := by omega
    rw [List.drop_of_length_le (by omega)]
    simp [r09_Apply_l0, ilen, k, applyD]
  | d + 1, i, g, out, hd, hb, hg => by
    obtain ⟨g, rfl⟩ : ∃ g', g = g' + 1 := ⟨g - 1, by omega⟩
    have hi : i < cs.length := by omega
    have k : (i : Int) < (cs.length : Int) := by omega
    have k0 : (0 : Int) ≤ i := by omega
    have ei : iadd .i64 (i : Int) 1 = ((i + 1 : Nat) : Int) := iadd1 (by omega)
    have hat : cs[i]? = some cs[i] := List.getElem?_eq_getElem hi
    have ih := fun o ho => rapply_l0 hn cs hcs d (i + 1) g o (by omega) ho (by omega)
    rw [drop_cons cs i hi, applyD]
    generalize cs[i] = c at *
    have hf := r09_find_v hn out c.1 (by omega)
    have hsl : ∀ o, stepD out c = some o → o.length ≤ 200000 + (i + 1) := fun o ho => by have := stepD_len ho; omega
    have hl1 := rapply_l1 (n := n) cs (i : Int) c out.length 0 n out (by omega) (by omega) (by unfold Big at hn; omega)
    have hst : stepD out c = stepD out c := rfl
    unfold fpos at hf
    cases hx : out.findIdx? (kB c.1) with
    | none =>
      rw [hx] at hf
      cases hg2 : c.2.1 with
      | true =>
        have e : stepD out c = none := by unfold stepD; rw [hx, hg2]; rfl
        rw [e]
        simp only [r09_Apply_l0, ilt_eq, ile_eq, ilen, k, k0, decide_true, cond_true, lat_eq, iN, Int.toNat_natCast, hat, bindN_s, hf, hg2, Int.reduceNeg, Int.reduceLT, Option.bind_none]
      | false =>
        have e : stepD out c = some (insK id c.1 out) := by unfold stepD; rw [hx, hg2]; rfl
        rw [e, Option.bind_some]
        have i1 := ih _ (hsl _ e)
        rw [List.drop_zero, Nat.zero_add, show ((0 : Nat) : Int) = 0 from rfl] at hl1
        have hpl := plK_le (k := id) (c := c.1) (l := out)
        rw [insK_pl] at i1 ⊢
        rw [show plK id (id c.1) out = plK id c.1 out from rfl] at i1 ⊢
        generalize plK id c.1 out = q at hl1 hpl i1
        have k2 : (0 : Int) ≤ q := by omega
        have k3 : (q : Int) ≤ (out.length : Int) := by omega
        have r1 : room (0 + (out.length - q)) 40 = true := room_of (by omega)
        have r2 : room (q + 1) 40 = true := room_of (by omega)
        have r3 : room (q + 1 + (out.length - q)) 40 = true := room_of (by omega)
        have e1 : (out.drop q).take (out.length - q) = out.drop q := List.take_of_length_le (by simp)
        have e2 : min q out.length = q := by omega
        simp only [r09_Apply_l0, ilt_eq, ile_eq, ilen, k, k0, k2, k3, decide_true, decide_false, cond_true, cond_false, lat_eq, iN, Int.toNat_natCast, Int.toNat_zero, Nat.sub_zero, hat, bindN_s, hf, hg2, Int.reduceNeg, Int.reduceLE, hl1, bindL_inl, win_eq, e1, List.drop_zero, roomA, List.length_nil, List.length_append, List.length_take, List.length_drop, List.length_singleton, Nat.min_self, e2, r1, r2, r3, app, List.nil_append, Int.le_refl, ei, bindL_id1, List.append_assoc, List.cons_append, i1]
    | some q =>
      rw [hx] at hf
      obtain ⟨hq, _, _⟩ := List.findIdx?_eq_some_iff_getElem.1 hx
      have k1 : ¬ (q : Int) < 0 := by omega
      have k2 : (0 : Int) ≤ q := by omega
      have k3 : (q : Int) ≤ (out.length : Int) := by omega
      have k4 : ((q + 1 : Nat) : Int) ≤ (out.length : Int) := by omega
      have k5 : (0 : Int) ≤ ((q + 1 : Nat) : Int) := by omega
      have eq1 : iadd .i64 (q : Int) 1 = ((q + 1 : Nat) : Int) := iadd1 (by omega)
      cases hg2 : c.2.1 with
      | true =>
        have e : stepD out c = some (out.take q ++ out.drop (q + 1)) := by unfold stepD; rw [hx, hg2]; rfl
        rw [e, Option.bind_some]
        have i1 := ih _ (hsl _ e)
        have e2 : min q out.length = q := by omega
        have r1 : room (0 + q) 40 = true := room_of (by omega)
        have r2 : room (q + (out.length - (q + 1))) 40 = true := room_of (by omega)
        have e1 : (out.drop (q + 1)).take (out.length - (q + 1)) = out.drop (q + 1) := List.take_of_length_le (by simp)
        simp only [r09_Apply_l0, ilt_eq, ile_eq, ilen, k, k0, k1, k2, k3, k4, k5, eq1, decide_true, decide_false, cond_true, cond_false, lat_eq, iN, Int.toNat_natCast, Int.toNat_zero, Nat.sub_zero, hat, bindN_s, hf, hg2, win_eq, e1, List.drop_zero, roomA, List.length_nil, List.length_append, List.length_take, List.length_drop, Nat.min_self, e2, r1, r2, app, List.nil_append, Int.le_refl, ei, bindL_id1, i1]
      | false =>
        have e : stepD out c = some (out.set q c.1) := by unfold stepD; rw [hx, hg2]; rfl
        rw [e, Option.bind_some]
        have i1 := ih _ (hsl _ e)
        have hq' : out[q]? = some out[q] := List.getElem?_eq_getElem hq
        simp only [r09_Apply_l0, ilt_eq, ile_eq, ilen, k, k0, k1, k2, decide_true, decide_false, cond_true, cond_false, lat_eq, iN, Int.toNat_natCast, hat, hq', bindN_s, hf, hg2, lput_set, ei, bindL_id1, i1]
theorem rightC_asc {cs : List CH} (h : rightC cs = true) : Asc (fun c : CH => c.1) cs := by
  unfold rightC at h
  rw [Bool.and_eq_true] at h
  have := right_asc h.2
  unfold Asc at this ⊢
  rwa [List.pairwise_map] at this
theorem r09_Apply_v {n : Nat} (hn : Big n) (l : List RW) (cs : List CH) (hl : FitR l) (hc : FitC cs) : r09_Apply n (l, cs, ()) = some (applyE l cs, ((), (), ())) := by
  have h := rapply_l0 hn cs hc.1 cs.length 0 n l (by omega) (by have := hl.1; omega) (by have := hc.1; unfold Big at hn; omega)
  rw [List.drop_zero, show ((0 : Nat) : Int) = 0 from rfl] at h
  have r1 : room (0 + l.length) 40 = true := room_of (by have := hl.1; omega)
  simp only [r09_Apply, r08_Right_v hn l hl, r09_Right_v hn cs hc, bindN_s, applyE]
  cases h1 : rightR l with
  | false => simp
  | true =>
    cases h2 : rightC cs with
    | false => simp
    | true =>
      rw [applyD_R cs l (right_asc h1) (rightC_asc h2)] at h
      simp only [Bool.not_true, cond_false, Bool.and_self, cond_true, roomA, List.length_nil, r1, app, List.nil_append, h]
      cases applyR l cs <;> simp
end Go.Proofs.YteaadaaghhojfaaGreatDoorE
end
section
namespace Go.Proofs.YteaadaaghhojfaaGreatDoorE
open Go Go.Proofs
set_option linter.unusedVariables false
set_option linter.unusedSimpArgs false
abbrev MG := El tMessage
def seeS (rows : List RW) (st : Int) (bg : Bool) (m : MG) : (List RW × Int) ⊕ Int :=
  if m.1 = 1 ∨ m.1 = 2 ∨ m.1 = 3 then
    (if decide (m.1 = 1) = bg then .inr 2 else if m.2.2.1 < st then .inr 9 else if bg = true ∧ m.2.2.1 = st then .inr 9
    else if m.1 = 2 then (if (applyE rows m.2.2.2.2.1).2.1 = 0 then .inl ((applyE rows m.2.2.2.2.1).1, m.2.2.1) else .inr (applyE rows m.2.2.2.2.1).2.1)
    else if rightR m.2.2.2.1 = true then .inl (m.2.2.2.1, m.2.2.1) else .inr 9)
  else .inr 2
theorem see_ne {rows : List RW} {st : Int} {bg : Bool} {m : MG} {e : Int} (h : seeS rows st bg m = .inr e) : e ≠ 0 := by
  unfold seeS at h
  repeat' (split at h)
  all_goals first | (cases h; done) | (cases h; decide) | (cases h; assumption)
def codeS (x : (List RW × Int) ⊕ Int) : Int := match x with | .inl _ => 0 | .inr e => e
theorem sub_see_v {n : Nat} (hn : Big n) (rows : List RW) (st : Int) (bg : Bool) (m : MG) (h1 : FitR rows) (h2 : FitR m.2.2.2.1) (h3 : FitC m.2.2.2.2.1) :
    ∃ v, sub_see n ((rows, st, bg, ()), m, ()) = some ((codeS (seeS rows st bg m), ()), (v, (), ())) ∧ ∀ p, seeS rows st bg m = .inl p → v = (p.1, p.2, true, ()) := by
  obtain ⟨k, id, ms, mr, mc, ⟨⟩⟩ := m
  simp only at h2 h3
  have a1 := diff_Apply_v hn rows mc h1 h3
  have a2 := row_Right_v hn mr h2
  unfold seeS sub_see
  simp only [a1, a2, bindN_s, ieq_eq, ilt_eq]
  generalize applyE rows mc = ap
  obtain ⟨ar, ae, ⟨⟩⟩ := ap
  by_cases k1 : k = 1
  · subst k1
    cases bg with
    | true => exact ⟨_, by simp [codeS]; exact rfl, fun p hp => by simp at hp⟩
    | false =>
      by_cases k2 : ms < st
      · exact ⟨_, by simp [codeS, k2]; exact rfl, fun p hp => by simp [k2] at hp⟩
      · cases k3 : rightR mr with
        | false => exact ⟨_, by simp [codeS, k2]; exact rfl, fun p hp => by simp [k2] at hp⟩
        | true => exact ⟨_, by simp [codeS, k2]; exact rfl, fun p hp => by simp [k2] at hp; subst hp; rfl⟩
  · by_cases k4 : k = 2
    · subst k4
      cases bg with
      | false => exact ⟨_, by simp [codeS]; exact rfl, fun p hp => by simp at hp⟩
      | true =>
        by_cases k2 : ms < st
        · exact ⟨_, by simp [codeS, k2]; exact rfl, fun p hp => by simp [k2] at hp⟩
        · by_cases k5 : ms = st
          · exact ⟨_, by simp [codeS, k2, k5]; exact rfl, fun p hp => by simp [k2, k5] at hp⟩
          · by_cases k6 : ae = 0
            · exact ⟨_, by simp [codeS, k2, k5, k6]; exact rfl, fun p hp => by simp [k2, k5, k6] at hp; subst hp; rfl⟩
            · exact ⟨_, by simp [codeS, k2, k5, k6]; exact rfl, fun p hp => by simp [k2, k5, k6] at hp⟩
    · by_cases k7 : k = 3
      · subst k7
        cases bg with
        | false => exact ⟨_, by simp [codeS]; exact rfl, fun p hp => by simp at hp⟩
        | true =>
          by_cases k2 : ms < st
          · exact ⟨_, by simp [codeS, k2]; exact rfl, fun p hp => by simp [k2] at hp⟩
          · by_cases k5 : ms = st
            · exact ⟨_, by simp [codeS, k2, k5]; exact rfl, fun p hp => by simp [k2, k5] at hp⟩
            · cases k3 : rightR mr with
              | false => exact ⟨_, by simp [codeS, k2, k5]; exact rfl, fun p hp => by simp [k2, k5] at hp⟩
              | true => exact ⟨_, by simp [codeS, k2, k5]; exact rfl, fun p hp => by simp [k2, k5] at hp; subst hp; rfl⟩
      · exact ⟨_, by simp [codeS, k1, k4, k7]; exact rfl, fun p hp => by simp [k1, k4, k7] at hp⟩
def runS : List RW → Int → Bool → List MG → (List RW × Int) ⊕ Int
  | rows, st, _, [] => .inl (rows, st)
  | rows, st, bg, m :: l => match seeS rows st bg m with | .inl p => runS p.1 p.2 true l | .inr e => .inr e
/-! ### bounds -/
def FitX (k : Nat) (l : List RW) : Prop := l.length ≤ k ∧ ∀ r ∈ l, r.2.1.size ≤ 300
theorem FitX.fit {k : Nat} {l : List RW} (h : FitX k l) (hk : k ≤ 100000) : FitR l := ⟨by have := h.1; omega, fun r hr => by have := h.2 r hr; omega⟩
theorem applyR_mem : ∀ (cs : List CH) (l r : List RW), applyR l cs = some r → r.length ≤ l.length + cs.length ∧ ∀ x ∈ r, x ∈ l ∨ ∃ c ∈ cs, x = c.1
  | [], l, r, h => by simp [applyR] at h; subst h; exact ⟨by simp, fun x hx => .inl hx⟩
  | c :: cs, l, r, h => by
    have ht := tw_len (fun x => befR x c.1) l
    have hs : ∀ x, x ∈ l.dropWhile (fun x => befR x c.1) → x ∈ l := fun x hx => (List.dropWhile_sublist _).subset hx
    have hp : ∀ x, x ∈ l.takeWhile (fun x => befR x c.1) → x ∈ l := fun x hx => (List.takeWhile_prefix _).subset hx
    rw [applyR] at h
    generalize l.takeWhile (fun x => befR x c.1) = pre at *
    generalize l.dropWhile (fun x => befR x c.1) = dw at *
    have hd : ∀ x, x ∈ dw.drop 1 → x ∈ l := fun x hx => hs x ((List.drop_sublist _ _).subset hx)
    cases hc : c.2.1 with
    | true =>
      rw [hc, cond_true] at h
      cases hb : thereR c dw with
      | false => rw [hb] at h; cases h
      | true =>
        rw [hb, cond_true] at h
        cases hq : applyR (dw.drop 1) cs with
        | none => rw [hq] at h; cases h
        | some q =>
          rw [hq] at h; simp at h; subst h
          obtain ⟨h1, h2⟩ := applyR_mem cs _ q hq
          refine ⟨by simp at h1 ⊢; omega, fun x hx => ?_⟩
          rcases List.mem_append.1 hx with hx | hx
          · exact .inl (hp x hx)
          · rcases h2 x hx with h3 | ⟨d, hd', h3⟩
            · exact .inl (hd x h3)
            · exact .inr ⟨d, List.mem_cons_of_mem _ hd', h3⟩
    | false =>
      rw [hc, cond_false] at h
      have hz : ∀ x, x ∈ (bif thereR c dw then dw.drop 1 else dw) → x ∈ l := by
        intro x hx
        cases hb : thereR c dw with
        | true => rw [hb] at hx; exact hd x hx
        | false => rw [hb] at hx; exact hs x hx
      have hzl : (bif thereR c dw then dw.drop 1 else dw).length ≤ dw.length := by cases thereR c dw <;> simp
      generalize (bif thereR c dw then dw.drop 1 else dw) = z at *
      cases hq : applyR z cs with
      | none => rw [hq] at h; cases h
      | some q =>
        rw [hq] at h; simp at h; subst h
        obtain ⟨h1, h2⟩ := applyR_mem cs _ q hq
        refine ⟨by simp at h1 ⊢; omega, fun x hx => ?_⟩
        rcases List.mem_append.1 hx with hx | hx
        · exact .inl (hp x hx)
        · rcases List.mem_cons.1 hx with hx | hx
          · exact .inr ⟨c, List.mem_cons_self, hx⟩
          · rcases h2 x hx with h3 | ⟨d, hd', h3⟩
            · exact .inl (hz x h3)
            · exact .inr ⟨d, List.mem_cons_of_mem _ hd', h3⟩
def FitG (m : MG) : Prop := FitX 1000 m.2.2.2.1 ∧ m.2.2.2.2.1.length ≤ 1000 ∧ ∀ c ∈ m.2.2.2.2.1, c.1.2.1.size ≤ 300
theorem fitG {m : MG} (h1 : greatR m.2.2.2.1 = false) (h2 : greatC m.2.2.2.2.1 = false) : FitG m := ⟨⟨by have := (limR h1).1; omega, (limR h1).2⟩, by have := (limC h2).1; omega, (limC h2).2⟩
theorem FitG.c {m : MG} (h : FitG m) : FitC m.2.2.2.2.1 := ⟨by have := h.2.1; omega, fun c hc => by have := h.2.2 c hc; omega⟩
theorem see_fit {k : Nat} {rows : List RW} {st : Int} {bg : Bool} {m : MG} {p : List RW × Int} (h1 : FitX k rows) (h2 : FitG m) (h : seeS rows st bg m = .inl p) : FitX (k + 1000) p.1 := by
  unfold seeS at h
  repeat' (split at h)
  all_goals try (cases h; done)
  · cases h
    rename_i he
    simp only
    unfold applyE at he ⊢
    cases hb : rightR rows && rightC m.2.2.2.2.1 with
    | false => exact ⟨by simp, fun r hr => by simp at hr⟩
    | true =>
      simp only [cond_true]
      cases hq : applyR rows m.2.2.2.2.1 with
      | none => exact ⟨by simp, fun r hr => by simp at hr⟩
      | some r =>
        obtain ⟨g1, g2⟩ := applyR_mem _ _ _ hq
        refine ⟨by have := h1.1; have := h2.2.1; simp only; omega, fun x hx => ?_⟩
        rcases g2 x hx with h3 | ⟨c, hc, rfl⟩
        · exact h1.2 x h3
        · exact h2.2.2 c hc
  · cases h
    exact ⟨by have := h2.1.1; simp only; omega, h2.1.2⟩
def endS (x : (List RW × Int) ⊕ Int) : List RW × Int × Int × Unit := match x with | .inl p => (p.1, p.2, (0 : Int), ()) | .inr e => ([], (0 : Int), e, ())
theorem replay_l0 {n : Nat} (hn : Big n) (l : List MG) (hl : l.length ≤ 100) (hf : ∀ m ∈ l, FitG m) : ∀ (d i g : Nat) (rows : List RW) (st : Int) (bg : Bool), i + d = l.length → FitX (1000 * i) rows → d < g →
    sub_Replay_l0 n g (l, (rows, st, bg, ()), l, (l.length : Int), (i : Int), ()) = some (match runS rows st bg (l.drop i) with | .inl p => .inl (l, (p.1, p.2, bg || decide (i < l.length), ()), ()) | .inr e => .inr (l, [], (0 : Int), e, ()))
  | 0, i, g, rows, st, bg, hd, hr, hg => by
    obtain ⟨g, rfl⟩ : ∃ g', g = g' + 1 := ⟨g - 1, by omega⟩
    have k : ¬ (i : Int) < (l.length : Int) := by omega
    have k' : ¬ i < l.length := by omega
    rw [List.drop_of_length_le (by omega)]
    simp only [sub_Replay_l0, ilt_eq, k, decide_false, cond_false, runS, k', Bool.or_false]
  | d + 1, i, g, rows, st, bg, hd, hr, hg => by
    obtain ⟨g, rfl⟩ : ∃ g', g = g' + 1 := ⟨g - 1, by omega⟩
    have hi : i < l.length := by omega
    have k : (i : Int) < (l.length : Int) := by omega
    have k0 : (0 : Int) ≤ i := by omega
    have ei : iadd .i64 (i : Int) 1 = ((i + 1 : Nat) : Int) := iadd1 (by omega)
    have hm := hf l[i] (List.getElem_mem hi)
    obtain ⟨v, h1, h2⟩ := sub_see_v hn rows st bg l[i] (hr.fit (by omega)) (hm.1.fit (by omega)) hm.c
    rw [drop_cons l i hi, runS]
    cases hs : seeS rows st bg l[i] with
    | inr e =>
      have he := see_ne hs
      rw [hs] at h1
      simp only [sub_Replay_l0, ilt_eq, ile_eq, ieq_eq, k, k0, decide_true, cond_true, lat_eq, iN, Int.toNat_natCast, List.getElem?_eq_getElem hi, bindN_s, h1, codeS, he, decide_false, Bool.not_false]
    | inl p =>
      have hv := h2 p hs
      subst hv
      rw [hs] at h1
      have ih := replay_l0 hn l hl hf d (i + 1) g p.1 p.2 true (by omega) (by have := see_fit hr hm hs; rwa [Nat.mul_succ]) (by omega)
      simp only [sub_Replay_l0, ilt_eq, ile_eq, ieq_eq, k, k0, decide_true, cond_true, lat_eq, iN, Int.toNat_natCast, List.getElem?_eq_getElem hi, bindN_s, h1, codeS, Bool.not_true, cond_false, ei, bindL_id1, ih, Bool.true_or, hi, Bool.or_true]
theorem sub_Replay_v {n : Nat} (hn : Big n) (l : List MG) (hl : l.length ≤ 100) (hf : ∀ m ∈ l, FitG m) : sub_Replay n (l, ()) = some (endS (runS [] 0 false l), ((), ())) := by
  have h := replay_l0 hn l hl hf l.length 0 n [] 0 false (by omega) ⟨by simp, fun r hr => by simp at hr⟩ (by unfold Big at hn; omega)
  rw [List.drop_zero, show ((0 : Nat) : Int) = 0 from rfl] at h
  simp only [sub_Replay, ilen, h]
  cases runS [] 0 false l <;> simp [endS]
theorem replayO_l0 {n : Nat} (hn : Big n) (l : List MG) (hl : l.length ≤ 100) (hf : ∀ m ∈ l, FitG m) : ∀ (d i g : Nat) (rows : List RW) (st : Int) (bg : Bool), i + d = l.length → FitX (1000 * i) rows → d < g →
    sub_ReplayO_l0 n g (l, (rows, st, bg, ()), (), (l.length : Int), (i : Int), ()) = some (match runS rows st bg (l.drop i) with | .inl p => .inl (l, (p.1, p.2, bg || decide (i < l.length), ()), ()) | .inr e => .inr (l, [], (0 : Int), e, ()))
  | 0, i, g, rows, st, bg, hd, hr, hg => by
    obtain ⟨g, rfl⟩ : ∃ g', g = g' + 1 := ⟨g - 1, by omega⟩
    have k : ¬ (i : Int) < (l.length : Int) := by omega
    have k' : ¬ i < l.length := by omega
    rw [List.drop_of_length_le (by omega)]
    simp only [sub_ReplayO_l0, ilt_eq, k, decide_false, cond_false, runS, k', Bool.or_false]
  | d + 1, i, g, rows, st, bg, hd, hr, hg => by
    obtain ⟨g, rfl⟩ : ∃ g', g = g' + 1 := ⟨g - 1, by omega⟩
    have hi : i < l.length := by omega
    have k : (i : Int) < (l.length : Int) := by omega
    have k0 : (0 : Int) ≤ i := by omega
    have ei : iadd .i64 (i : Int) 1 = ((i + 1 : Nat) : Int) := iadd1 (by omega)
    have hm := hf l[i] (List.getElem_mem hi)
    obtain ⟨v, h1, h2⟩ := sub_see_v hn rows st bg l[i] (hr.fit (by omega)) (hm.1.fit (by omega)) hm.c
    rw [drop_cons l i hi, runS]
    cases hs : seeS rows st bg l[i] with
    | inr e =>
      have he := see_ne hs
      rw [hs] at h1
      simp only [sub_ReplayO_l0, ilt_eq, ile_eq, ieq_eq, k, k0, decide_true, cond_true, lat_eq, iN, Int.toNat_natCast, List.getElem?_eq_getElem hi, bindN_s, h1, codeS, he, decide_false, Bool.not_false]
    | inl p =>
      have hv := h2 p hs
      subst hv
      rw [hs] at h1
      have ih := replayO_l0 hn l hl hf d (i + 1) g p.1 p.2 true (by omega) (by have := see_fit hr hm hs; rwa [Nat.mul_succ]) (by omega)
      simp only [sub_ReplayO_l0, ilt_eq, ile_eq, ieq_eq, k, k0, decide_true, cond_true, lat_eq, iN, Int.toNat_natCast, List.getElem?_eq_getElem hi, bindN_s, h1, codeS, Bool.not_true, cond_false, ei, bindL_id1, ih, Bool.true_or, hi, Bool.or_true]
theorem sub_ReplayO_v {n : Nat} (hn : Big n) (l : List MG) (hl : l.length ≤ 100) (hf : ∀ m ∈ l, FitG m) : sub_ReplayO n (l, ()) = some (endS (runS [] 0 false l), (l, ())) := by
  have h := replayO_l0 hn l hl hf l.length 0 n [] 0 false (by omega) ⟨by simp, fun r hr => by simp at hr⟩ (by unfold Big at hn; omega)
  rw [List.drop_zero, show ((0 : Nat) : Int) = 0 from rfl] at h
  simp only [sub_ReplayO, ilen, h]
  cases runS [] 0 false l <;> simp [endS]
theorem lt3 (k : Int) (h : ¬ k < 1) (h1 : ¬ k = 1) (h2 : ¬ k = 2) (h3 : ¬ k = 3) : 3 < k := by omega
theorem rreplay_l0 {n : Nat} (hn : Big n) (l : List MG) (hl : l.length ≤ 100) (hf : ∀ m ∈ l, FitG m) : ∀ (d i g : Nat) (rows : List RW) (st : Int), i + d = l.length → FitX (1000 * i) rows → d < g →
    r19_Replay_l0 n g (l, rows, st, (i : Int), ()) = some (match runS rows st (decide (0 < i)) (l.drop i) with | .inl p => .inl (p.1, p.2, ()) | .inr e => .inr ([], (0 : Int), e, ()))
  | 0, i, g, rows, st, hd, hr, hg => by
    obtain ⟨g, rfl⟩ : ∃ g', g = g' + 1 := ⟨g - 1, by omega⟩
    have k : ¬ (i : Int) < (l.length : Int) := by omega
    rw [List.drop_of_length_le (by omega)]
    simp only [r19_Replay_l0, ilt_eq, ilen, k, decide_false, cond_false, runS]
  | d + 1, i, g, rows, st, hd, hr, hg => by
    obtain ⟨g, rfl⟩ : ∃ g', g = g' + 1 := ⟨g - 1, by omega⟩
    have hi : i < l.length := by omega
    have k : (i : Int) < (l.length : Int) := by omega
    have k0 : (0 : Int) ≤ i := by omega
    have ei : iadd .i64 (i : Int) 1 = ((i + 1 : Nat) : Int) := iadd1 (by omega)
    have hm := hf l[i] (List.getElem_mem hi)
    have a1 := r09_Apply_v hn rows l[i].2.2.2.2.1 (hr.fit (by omega)) hm.c
    have a2 := r08_Right_v hn l[i].2.2.2.1 (hm.1.fit (by omega))
    have ih := fun (p : List RW × Int) (hs : seeS rows st (decide (0 < i)) l[i] = .inl p) => rreplay_l0 hn l hl hf d (i + 1) g p.1 p.2 (by omega) (by have := see_fit hr hm hs; rwa [Nat.mul_succ]) (by omega)
    have ip : decide (0 < i + 1) = true := decide_eq_true (by omega)
    rw [ip] at ih
    have hat : l[i]? = some l[i] := List.getElem?_eq_getElem hi
    rw [drop_cons l i hi, runS]
    generalize l[i] = m at *
    obtain ⟨kd, id, ms, mr, mc, ⟨⟩⟩ := m
    simp only at a1 a2
    simp only [r19_Replay_l0, ilt_eq, ile_eq, ieq_eq, beqB_eq, ilen, k, k0, decide_true, cond_true, lat_eq, iN, Int.toNat_natCast, hat, bindN_s, a1, a2, ei, bindL_id1]
    unfold seeS at ih ⊢
    simp only at ih ⊢
    generalize applyE rows mc = ap at *
    obtain ⟨ar, ae, ⟨⟩⟩ := ap
    simp only at ih ⊢
    have i0 : decide ((0 : Int) < (i : Int)) = decide (0 < i) := by rw [decide_eq_decide]; omega
    have i1 : decide ((i : Int) = 0) = !decide (0 < i) := by
      rw [Bool.eq_iff_iff]; simp
    rw [i0, i1]
    generalize decide (0 < i) = bg at *
    by_cases k1 : kd = 1
    · subst k1
      cases bg with
      | true => simp
      | false =>
        by_cases k2 : ms < st
        · simp [k2]
        · cases k3 : rightR mr with
          | false => simp [k2]
          | true =>
            have := ih (mr, ms) (by simp [k2, k3])
            simp [k2]
            exact this
    · by_cases k4 : kd = 2
      · subst k4
        cases bg with
        | false => simp
        | true =>
          by_cases k2 : ms < st
          · simp [k2]
          · by_cases k5 : ms = st
            · simp [k2, k5]
            · by_cases k6 : ae = 0
              · have := ih (ar, ms) (by simp [k2, k5, k6])
                simp [k2, k5, k6]
                exact this
              · simp [k2, k5, k6]
      · by_cases k7 : kd = 3
        · subst k7
          cases bg with
          | false => simp
          | true =>
            by_cases k2 : ms < st
            · simp [k2]
            · by_cases k5 : ms = st
              · simp [k2, k5]
              · cases k3 : rightR mr with
                | false => simp [k2, k5]
                | true =>
                  have := ih (mr, ms) (by simp [k2, k5, k3])
                  simp [k2, k5]
                  exact this
        · have hno : ¬ (kd = 1 ∨ kd = 2 ∨ kd = 3) := by rintro (h | h | h) <;> contradiction
          rw [if_neg hno]
          by_cases k8 : kd < 1
          · simp [k8]
          · have k9 : (3 : Int) < kd := lt3 kd k8 k1 k4 k7
            simp [k8, k9]
theorem r19_Replay_v {n : Nat} (hn : Big n) (l : List MG) (hl : l.length ≤ 100) (hf : ∀ m ∈ l, FitG m) : r19_Replay n (l, ()) = some (endS (runS [] 0 false l), ((), ())) := by
  have h := rreplay_l0 hn l hl hf l.length 0 n [] 0 (by omega) ⟨by simp, fun r hr => by simp at hr⟩ (by unfold Big at hn; omega)
  rw [List.drop_zero, show ((0 : Nat) : Int) = 0 from rfl, show decide (0 < 0) = false from rfl] at h
  simp only [r19_Replay, h]
  cases runS [] 0 false l <;> simp [endS]
theorem run_fit : ∀ (l : List MG) (k : Nat) (rows : List RW) (st : Int) (bg : Bool) (p : List RW × Int), FitX k rows → (∀ m ∈ l, FitG m) → runS rows st bg l = .inl p → FitX (k + 1000 * l.length) p.1
  | [], k, rows, st, bg, p, h, _, hr => by simp [runS] at hr; subst hr; simpa using h
  | m :: l, k, rows, st, bg, p, h, hf, hr => by
    rw [runS] at hr
    cases hs : seeS rows st bg m with
    | inr e => rw [hs] at hr; cases hr
    | inl q =>
      rw [hs] at hr
      have := run_fit l (k + 1000) q.1 q.2 true p (see_fit h (hf m List.mem_cons_self) hs) (fun m hm => hf m (List.mem_cons_of_mem _ hm)) hr
      rwa [show k + 1000 + 1000 * l.length = k + 1000 * (m :: l).length by simp; omega] at this
theorem replays_v {n : Nat} (hn : Big n) (ha : law_alive n () = some ((true, ()), ())) (x : SgEl law_Replays_sg) : ∃ o, law_Replays n x = some ((true, ()), o) := by
  obtain ⟨l, ⟨⟩⟩ := x
  refine ⟨((), ()), ?_⟩
  have gm := r19_Much_v hn l
  cases hm : muchM l with
  | true => simp [law_Replays, ha, gm, hm]
  | false =>
    obtain ⟨h1, h2⟩ := limMs hm
    have hf : ∀ m ∈ l, FitG m := fun m hm => fitG (h2 m hm).1 (h2 m hm).2
    have p1 := sub_Replay_v hn l (by omega) hf
    have p2 := r19_Replay_v hn l (by omega) hf
    have hx : Lim (endS (runS [] 0 false l)).1 := by
      cases hr : runS [] 0 false l with
      | inr e => simp [endS, Lim]
      | inl p =>
        have := (run_fit l 0 [] 0 false p ⟨by simp, fun r hr => by simp at hr⟩ hf hr).1
        simp only [endS, Lim]; omega
    have e1 := r08_Same_v hn (b := (endS (runS [] 0 false l)).1) hx
    generalize endS (runS [] 0 false l) = q at *
    simp [law_Replays, ha, gm, hm, p1, p2, e1]
theorem replays_true : ∀ x, okArgs [.slice tMessage] x → ∃ o, law_Replays 1000000000000000 x = some ((true, ()), o) := fun x _ => replays_v big_n alive_v x
end Go.Proofs.YteaadaaghhojfaaGreatDoorE
end
